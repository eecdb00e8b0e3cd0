/-
  What the functions compute, as functions on plain data, and that the program does compute it; written by program.
-/
import Derived.Test.YthcnmahjhahafabCode
import Derived.Test.YthcnmahjhahafabG1
import Derived.Test.YthcnmahjhahafabG5
import Derived.Test.YthcnmahjhahafabG6
namespace Go.Proofs.Ythcnmahjhahafab.Ax
open Go
set_option maxRecDepth 100000
set_option maxHeartbeats 4000000

noncomputable def F_spec_l23Covers_l1 (p0 : SPoset) (x0 : Int) (y0 : Int) : Int → Option (Int ⊕ (Unit ⊕ Unit)) := fun x7 =>
   if x7 < (↑p0.Below.length : Int) then
    (F_spec_l23Less (p0) (x0) (x7)).bind fun r4 =>
    if (r4) = true then
     (F_spec_l23Less (p0) (x7) (y0)).bind fun r6 =>
     if (r6) = true then
      some (.inr (.inl ()))
     else
      ask (InI (x7 + (1 : Int))) <|
      some (.inl (x7 + (1 : Int)))
    else
     ask (InI (x7 + (1 : Int))) <|
     some (.inl (x7 + (1 : Int)))
   else
    some (.inr (.inr ()))
def S_spec_l23Covers_l1 (p0 : SPoset) (x0 : Int) (y0 : Int) : Int → St := fun s => [(7, A.val (vint s)), (3, A.val ((rP true (rS_Poset false)) (p0))), (1, A.val (vint (x0))), (2, A.val (vint (y0)))]
def T_spec_l23Covers_l1 (_p0 : SPoset) (_x0 : Int) (_y0 : Int) : (Unit ⊕ Unit) → Tgt
  | (.inl _s) => (Ex.ret, [6], [(6, A.val (V.bool (false)))])
  | (.inr _s) => ((Ex.exit 0), [], [])
theorem b_spec_l23Covers_l1 {p0 : SPoset} {x0 : Int} {y0 : Int} (x7 : Int) (o : Int ⊕ (Unit ⊕ Unit)) (h : F_spec_l23Covers_l1 p0 x0 y0 x7 = some o) : vc Try.prog c_spec_l23Covers_l1 (outQ [7, 3, 1, 2] (S_spec_l23Covers_l1 p0 x0 y0) (T_spec_l23Covers_l1 p0 x0 y0) o) (S_spec_l23Covers_l1 p0 x0 y0 x7) := by
  unfold F_spec_l23Covers_l1 at h
  try dsimp only at h
  conv => whnf
  refine Cells.lit rfl rfl ?_
  conv => whnf
  refine Len.map ?_
  conv => whnf
  refine Br.od h (fun p3 h => ?_) (fun p3 h => ?_)
  · conv => whnf
    refine Cells.lit rfl rfl ?_
    conv => whnf
    refine CallQ.o V.bool (by first | rfl | simp only [mulN_one, V.fz, fzL, V.up, upL, fzL_map, fz_slr, fz_at, slr, List.cons_append, List.nil_append] | simp [mulN_one, V.fz, fzL, V.up, upL, fzL_map, fz_slr, fz_at, slr]) h (fun r h => t_spec_l23Less h) (fun r4 h => ?_)
    conv => whnf
    refine Br.ob h (fun p5 h => ?_) (fun p5 h => ?_)
    · conv => whnf
      refine Cells.lit rfl rfl ?_
      conv => whnf
      refine Br.yes ?_
      conv => whnf
      refine Br.yes ?_
      conv => whnf
      refine Br.yes ?_
      conv => whnf
      refine CallQ.o V.bool (by first | rfl | simp only [mulN_one, V.fz, fzL, V.up, upL, fzL_map, fz_slr, fz_at, slr, List.cons_append, List.nil_append] | simp [mulN_one, V.fz, fzL, V.up, upL, fzL_map, fz_slr, fz_at, slr]) h (fun r h => t_spec_l23Less h) (fun r6 h => ?_)
      conv => whnf
      refine Br.yes ?_
      conv => whnf
      refine Br.ob h (fun p7 h => ?_) (fun p7 h => ?_)
      · conv => whnf
        cases h; exact ⟨rfl, rfl⟩
      · conv => whnf
        refine Ask.o h fun p8 h => ?_
        conv => whnf
        cases h; exact ⟨rfl, rfl⟩
    · conv => whnf
      refine Br.no ?_
      conv => whnf
      refine Br.no ?_
      conv => whnf
      refine Br.no ?_
      conv => whnf
      refine Br.no ?_
      conv => whnf
      refine Br.no ?_
      conv => whnf
      refine Ask.o h fun p9 h => ?_
      conv => whnf
      cases h; exact ⟨rfl, rfl⟩
  · conv => whnf
    cases h; exact ⟨rfl, rfl⟩

noncomputable def F_spec_l23Covers (p0 : SPoset) (x0 : Int) (y0 : Int) : Option Bool :=
  (F_spec_l23Less (p0) (x0) (y0)).bind fun r1 =>
  if (r1) = true then
   (loopO (F_spec_l23Covers_l1 p0 x0 y0) (0 : Int)).bind fun t => match t with
   | (.inl _) => (some false)
   | (.inr _) => (some true)
  else
   some false
theorem t_spec_l23Covers {p0 : SPoset} {x0 : Int} {y0 : Int} {v : Bool} (h : F_spec_l23Covers p0 x0 y0 = some v) : Ret Try.prog f_spec_l23Covers [(rS_Poset false) p0, vint x0, vint y0] (V.bool v) := by
  refine ret_vc k_spec_l23Covers (Nat.le_of_ble_eq_true rfl) ?_
  unfold F_spec_l23Covers at h
  conv => whnf
  refine Cells.lit rfl rfl ?_
  conv => whnf
  refine CallQ.o V.bool (by first | rfl | simp only [mulN_one, V.fz, fzL, V.up, upL, fzL_map, fz_slr, fz_at, slr, List.cons_append, List.nil_append] | simp [mulN_one, V.fz, fzL, V.up, upL, fzL_map, fz_slr, fz_at, slr]) h (fun r h => t_spec_l23Less h) (fun r1 h => ?_)
  conv => whnf
  refine Br.flip ?_
  conv => whnf
  refine Br.ob h (fun p2 h => ?_) (fun p2 h => ?_)
  · conv => whnf
    refine LoopQ.o [7, 3, 1, 2] (S_spec_l23Covers_l1 p0 x0 y0) (T_spec_l23Covers_l1 p0 x0 y0) h (fun s o h => b_spec_l23Covers_l1 s o h) (by first | rfl | simp [restrict, look, mulN_one, V.fz, fzL, V.up, upL, fzL_map, fz_slr, fz_at, slr]) (by rintro (_ | _) <;> rfl) ?_
    rintro (⟨⟩ | ⟨⟩) h
    · try dsimp only at h
      conv => whnf
      cases h; exact (by first | rfl | simp [resV, mulN_one, V.fz, fzL, V.up, upL, fzL_map, fz_slr, fz_at, slr])
    · try dsimp only at h
      conv => whnf
      cases h; exact (by first | rfl | simp [resV, mulN_one, V.fz, fzL, V.up, upL, fzL_map, fz_slr, fz_at, slr])
  · conv => whnf
    cases h; exact (by first | rfl | simp [resV, mulN_one, V.fz, fzL, V.up, upL, fzL_map, fz_slr, fz_at, slr])

noncomputable def F_impl_order_lowerCovers (o0 : (List (List Bool))) (x0 : Int) : Option (List Int) :=
  (F_impl_order_those (o0) (fun w_0 => F_impl_order_lowerCovers_1 w_0 (o0) (x0))).bind fun r1 =>
  some r1
theorem t_impl_order_lowerCovers {o0 : (List (List Bool))} {x0 : Int} {v : (List Int)} (h : F_impl_order_lowerCovers o0 x0 = some v) : Ret Try.prog f_impl_order_lowerCovers [(slr false 1 (slr false 1 V.bool)) o0, vint x0] ((slr true 1 vint) v) := by
  refine ret_vc k_impl_order_lowerCovers (Nat.le_of_ble_eq_true rfl) ?_
  unfold F_impl_order_lowerCovers at h
  conv => whnf
  refine Cells.lit rfl rfl ?_
  conv => whnf
  refine CallQ.rd (slr true 1 vint) (by first | rfl | simp only [mulN_one, V.fz, fzL, V.up, upL, fzL_map, fz_slr, fz_at, slr, List.cons_append, List.nil_append] | simp [mulN_one, V.fz, fzL, V.up, upL, fzL_map, fz_slr, fz_at, slr]) (fun _ => by simp [V.noFz, noFzL_map]) h (fun r h => t_impl_order_those (f_so0 := f_impl_order_lowerCovers_1) (c_so0 := [(rP false (slr false 1 (slr false 1 V.bool))) (o0), (rP false vint) (x0)]) (fun w_0 v h => Ret.cast (by first | rfl | simp only [mulN_one, V.fz, fzL, V.up, upL, fzL_map, fz_slr, fz_at, slr, List.cons_append, List.nil_append] | simp [mulN_one, V.fz, fzL, V.up, upL, fzL_map, fz_slr, fz_at, slr]) (t_impl_order_lowerCovers_1 h)) h) (fun r1 h => ?_)
  conv => whnf
  cases h; exact (by first | rfl | simp [resV, mulN_one, V.fz, fzL, V.up, upL, fzL_map, fz_slr, fz_at, slr])

noncomputable def F_spec_LargestAntichain (p0 : SPoset) : Option ((List Int) × Bool) :=
  (F_spec_l23Good (p0)).bind fun r1 =>
  if (r1) = true then
   (F_spec_l23Largest (p0)).bind fun r3 =>
   some (r3, true)
  else
   some (nilL Int, false)
theorem t_spec_LargestAntichain {p0 : SPoset} {v : ((List Int) × Bool)} (h : F_spec_LargestAntichain p0 = some v) : Ret Try.prog f_spec_LargestAntichain [(rS_Poset false) p0] ((fun r => V.tup [(slr true 1 vint) r.1, V.bool r.2]) v) := by
  refine ret_vc k_spec_LargestAntichain (Nat.le_of_ble_eq_true rfl) ?_
  unfold F_spec_LargestAntichain at h
  conv => whnf
  refine Cells.lit rfl rfl ?_
  conv => whnf
  refine CallQ.o V.bool (by first | rfl | simp only [mulN_one, V.fz, fzL, V.up, upL, fzL_map, fz_slr, fz_at, slr, List.cons_append, List.nil_append] | simp [mulN_one, V.fz, fzL, V.up, upL, fzL_map, fz_slr, fz_at, slr]) h (fun r h => t_spec_l23Good h) (fun r1 h => ?_)
  conv => whnf
  refine Br.flip ?_
  conv => whnf
  refine Br.ob h (fun p2 h => ?_) (fun p2 h => ?_)
  · conv => whnf
    refine Cells.lit rfl rfl ?_
    conv => whnf
    refine CallQ.o (slr true 1 vint) (by first | rfl | simp only [mulN_one, V.fz, fzL, V.up, upL, fzL_map, fz_slr, fz_at, slr, List.cons_append, List.nil_append] | simp [mulN_one, V.fz, fzL, V.up, upL, fzL_map, fz_slr, fz_at, slr]) h (fun r h => t_spec_l23Largest h) (fun r3 h => ?_)
    conv => whnf
    cases h; exact (by first | rfl | simp [resV, mulN_one, V.fz, fzL, V.up, upL, fzL_map, fz_slr, fz_at, slr])
  · conv => whnf
    refine BslQ.o vint (nilL Int) (by exact fun _ => ⟨rfl, rfl⟩) (by first | rfl | simp only [mulN_one, V.fz, fzL, V.up, upL, fzL_map, fz_slr, fz_at, slr, List.cons_append, List.nil_append] | simp [mulN_one, V.fz, fzL, V.up, upL, fzL_map, fz_slr, fz_at, slr]) ?_
    conv => whnf
    cases h; exact (by first | rfl | simp [resV, mulN_one, V.fz, fzL, V.up, upL, fzL_map, fz_slr, fz_at, slr])

noncomputable def F_spec_l23Pairs_l1 (p0 : SPoset) (x4 : Int) : (Int × (List (Int × Int))) → Option ((Int × (List (Int × Int))) ⊕ (List (Int × Int))) := fun (x5, x3') =>
   if x5 < (↑p0.Below.length : Int) then
    (F_spec_l23Covers (p0) (x4) (x5)).bind fun r3 =>
    if (r3) = true then
     ask ((x3').length + ([(x4, x5)]).length ≤ LIM) <|
     ask (InI (x5 + (1 : Int))) <|
     some (.inl (x5 + (1 : Int), x3' ++ [(x4, x5)]))
    else
     ask (InI (x5 + (1 : Int))) <|
     some (.inl (x5 + (1 : Int), x3'))
   else
    some (.inr x3')
def S_spec_l23Pairs_l1 (p0 : SPoset) (x4 : Int) : (Int × (List (Int × Int))) → St := fun s => [(5, A.val (vint s.1)), (4, A.val (vint (x4))), (3, A.val ((slr true 2 (rA2 vint)) s.2)), (1, A.val ((rP true (rS_Poset false)) (p0)))]
def T_spec_l23Pairs_l1 (p0 : SPoset) (x4 : Int) : (List (Int × Int)) → Tgt
  | s => ((Ex.exit 2), [4, 3, 1], [(4, A.val (vint (x4))), (3, A.val ((slr true 2 (rA2 vint)) s)), (1, A.val ((rP true (rS_Poset false)) (p0)))])
theorem b_spec_l23Pairs_l1 {p0 : SPoset} {x4 : Int} (s : (Int × (List (Int × Int)))) (o : (Int × (List (Int × Int))) ⊕ (List (Int × Int))) (h : F_spec_l23Pairs_l1 p0 x4 s = some o) : vc Try.prog c_spec_l23Pairs_l1 (outQ [5, 4, 3, 1] (S_spec_l23Pairs_l1 p0 x4) (T_spec_l23Pairs_l1 p0 x4) o) (S_spec_l23Pairs_l1 p0 x4 s) := by
  obtain ⟨x5, x3'⟩ := s
  unfold F_spec_l23Pairs_l1 at h
  try dsimp only at h
  conv => whnf
  refine Cells.lit rfl rfl ?_
  conv => whnf
  refine Len.map ?_
  conv => whnf
  refine Br.od h (fun p2 h => ?_) (fun p2 h => ?_)
  · conv => whnf
    refine Cells.lit rfl rfl ?_
    conv => whnf
    refine CallQ.o V.bool (by first | rfl | simp only [mulN_one, V.fz, fzL, V.up, upL, fzL_map, fz_slr, fz_at, slr, List.cons_append, List.nil_append] | simp [mulN_one, V.fz, fzL, V.up, upL, fzL_map, fz_slr, fz_at, slr]) h (fun r h => t_spec_l23Covers h) (fun r3 h => ?_)
    conv => whnf
    refine Br.ob h (fun p4 h => ?_) (fun p4 h => ?_)
    · conv => whnf
      refine BslQ.o (rA2 vint) ([(x4, x5)]) (by exact fun _ => ⟨rfl, rfl⟩) (by first | rfl | simp only [mulN_one, V.fz, fzL, V.up, upL, fzL_map, fz_slr, fz_at, slr, List.cons_append, List.nil_append] | simp [mulN_one, V.fz, fzL, V.up, upL, fzL_map, fz_slr, fz_at, slr]) ?_
      conv => whnf
      refine NoOwn.o (fun _ => rfl) ?_
      conv => whnf
      refine AppQ.o (m := 2) (rA2 vint) (by exact fun _ => ⟨rfl, rfl⟩) (x3') ([(x4, x5)]) (by first | rfl | simp only [mulN_one, V.fz, fzL, V.up, upL, fzL_map, fz_slr, fz_at, slr, List.cons_append, List.nil_append] | simp [mulN_one, V.fz, fzL, V.up, upL, fzL_map, fz_slr, fz_at, slr]) (by first | rfl | simp only [mulN_one, V.fz, fzL, V.up, upL, fzL_map, fz_slr, fz_at, slr, List.cons_append, List.nil_append] | simp [mulN_one, V.fz, fzL, V.up, upL, fzL_map, fz_slr, fz_at, slr]) h fun h => ?_
      conv => whnf
      refine Ask.o h fun p5 h => ?_
      conv => whnf
      cases h; exact ⟨rfl, rfl⟩
    · conv => whnf
      refine Ask.o h fun p6 h => ?_
      conv => whnf
      cases h; exact ⟨rfl, rfl⟩
  · conv => whnf
    cases h; exact ⟨rfl, rfl⟩

noncomputable def F_spec_l23Pairs_l2 (p0 : SPoset) : (Int × (List (Int × Int))) → Option ((Int × (List (Int × Int))) ⊕ (List (Int × Int))) := fun (x4, x3) =>
   if x4 < (↑p0.Below.length : Int) then
    (loopO (F_spec_l23Pairs_l1 p0 x4) ((0 : Int), x3)).bind fun q7_3 =>
    ask (InI (x4 + (1 : Int))) <|
    some (.inl (x4 + (1 : Int), q7_3))
   else
    some (.inr x3)
def S_spec_l23Pairs_l2 (p0 : SPoset) : (Int × (List (Int × Int))) → St := fun s => [(4, A.val (vint s.1)), (3, A.val ((slr true 2 (rA2 vint)) s.2)), (1, A.val ((rP true (rS_Poset false)) (p0)))]
def T_spec_l23Pairs_l2 (_p0 : SPoset) : (List (Int × Int)) → Tgt
  | s => ((Ex.exit 0), [3], [(3, A.val ((slr true 2 (rA2 vint)) s))])
theorem b_spec_l23Pairs_l2 {p0 : SPoset} (s : (Int × (List (Int × Int)))) (o : (Int × (List (Int × Int))) ⊕ (List (Int × Int))) (h : F_spec_l23Pairs_l2 p0 s = some o) : vc Try.prog c_spec_l23Pairs_l2 (outQ [4, 3, 1] (S_spec_l23Pairs_l2 p0) (T_spec_l23Pairs_l2 p0) o) (S_spec_l23Pairs_l2 p0 s) := by
  obtain ⟨x4, x3⟩ := s
  unfold F_spec_l23Pairs_l2 at h
  try dsimp only at h
  conv => whnf
  refine Cells.lit rfl rfl ?_
  conv => whnf
  refine Len.map ?_
  conv => whnf
  refine Br.od h (fun p1 h => ?_) (fun p1 h => ?_)
  · conv => whnf
    refine LoopQ.o [5, 4, 3, 1] (S_spec_l23Pairs_l1 p0 x4) (T_spec_l23Pairs_l1 p0 x4) h (fun s o h => b_spec_l23Pairs_l1 s o h) (by first | rfl | simp [restrict, look, mulN_one, V.fz, fzL, V.up, upL, fzL_map, fz_slr, fz_at, slr]) (fun _ => rfl) ?_
    rintro q7_3 h
    try dsimp only at h
    conv => whnf
    refine Ask.o h fun p8 h => ?_
    conv => whnf
    cases h; exact ⟨rfl, rfl⟩
  · conv => whnf
    cases h; exact ⟨rfl, rfl⟩

noncomputable def F_spec_l23Pairs (p0 : SPoset) : Option (List (Int × Int)) :=
  (loopO (F_spec_l23Pairs_l2 p0) ((0 : Int), nilL (Int × Int))).bind fun q9_3 =>
  some q9_3
theorem t_spec_l23Pairs {p0 : SPoset} {v : (List (Int × Int))} (h : F_spec_l23Pairs p0 = some v) : Ret Try.prog f_spec_l23Pairs [(rS_Poset false) p0] ((slr true 2 (rA2 vint)) v) := by
  refine ret_vc k_spec_l23Pairs (Nat.le_of_ble_eq_true rfl) ?_
  unfold F_spec_l23Pairs at h
  conv => whnf
  refine BslQ.o (rA2 vint) (nilL (Int × Int)) (by exact fun _ => ⟨rfl, rfl⟩) (by first | rfl | simp only [mulN_one, V.fz, fzL, V.up, upL, fzL_map, fz_slr, fz_at, slr, List.cons_append, List.nil_append] | simp [mulN_one, V.fz, fzL, V.up, upL, fzL_map, fz_slr, fz_at, slr]) ?_
  conv => whnf
  refine LoopQ.o [4, 3, 1] (S_spec_l23Pairs_l2 p0) (T_spec_l23Pairs_l2 p0) h (fun s o h => b_spec_l23Pairs_l2 s o h) (by first | rfl | simp [restrict, look, mulN_one, V.fz, fzL, V.up, upL, fzL_map, fz_slr, fz_at, slr]) (fun _ => rfl) ?_
  rintro q9_3 h
  try dsimp only at h
  conv => whnf
  cases h; exact (by first | rfl | simp [resV, mulN_one, V.fz, fzL, V.up, upL, fzL_map, fz_slr, fz_at, slr])

noncomputable def F_spec_l24Irreducibles_l1 (p0 : SPoset) (x4 : Int) (_x3 : List Int) : (Int × Int) → Option ((Int × Int) ⊕ Int) := fun (x6, x5) =>
   if x6 < (↑p0.Below.length : Int) then
    (F_spec_l23Covers (p0) (x6) (x4)).bind fun r3 =>
    if (r3) = true then
     ask (InI (x5 + (1 : Int))) <|
     ask (InI (x6 + (1 : Int))) <|
     some (.inl (x6 + (1 : Int), x5 + (1 : Int)))
    else
     ask (InI (x6 + (1 : Int))) <|
     some (.inl (x6 + (1 : Int), x5))
   else
    some (.inr x5)
def S_spec_l24Irreducibles_l1 (p0 : SPoset) (x4 : Int) (x3 : List Int) : (Int × Int) → St := fun s => [(6, A.val (vint s.1)), (5, A.val (vint s.2)), (4, A.val (vint (x4))), (3, A.val ((slr true 1 vint) (x3))), (1, A.val ((rP true (rS_Poset false)) (p0)))]
def T_spec_l24Irreducibles_l1 (p0 : SPoset) (x4 : Int) (x3 : List Int) : Int → Tgt
  | s => ((Ex.exit 2), [5, 4, 3, 1], [(5, A.val (vint s)), (4, A.val (vint (x4))), (3, A.val ((slr true 1 vint) (x3))), (1, A.val ((rP true (rS_Poset false)) (p0)))])
theorem b_spec_l24Irreducibles_l1 {p0 : SPoset} {x4 : Int} {x3 : List Int} (s : (Int × Int)) (o : (Int × Int) ⊕ Int) (h : F_spec_l24Irreducibles_l1 p0 x4 x3 s = some o) : vc Try.prog c_spec_l24Irreducibles_l1 (outQ [6, 5, 4, 3, 1] (S_spec_l24Irreducibles_l1 p0 x4 x3) (T_spec_l24Irreducibles_l1 p0 x4 x3) o) (S_spec_l24Irreducibles_l1 p0 x4 x3 s) := by
  obtain ⟨x6, x5⟩ := s
  unfold F_spec_l24Irreducibles_l1 at h
  try dsimp only at h
  conv => whnf
  refine Cells.lit rfl rfl ?_
  conv => whnf
  refine Len.map ?_
  conv => whnf
  refine Br.od h (fun p2 h => ?_) (fun p2 h => ?_)
  · conv => whnf
    refine Cells.lit rfl rfl ?_
    conv => whnf
    refine CallQ.o V.bool (by first | rfl | simp only [mulN_one, V.fz, fzL, V.up, upL, fzL_map, fz_slr, fz_at, slr, List.cons_append, List.nil_append] | simp [mulN_one, V.fz, fzL, V.up, upL, fzL_map, fz_slr, fz_at, slr]) h (fun r h => t_spec_l23Covers h) (fun r3 h => ?_)
    conv => whnf
    refine Br.ob h (fun p4 h => ?_) (fun p4 h => ?_)
    · conv => whnf
      refine Ask.o h fun p5 h => ?_
      conv => whnf
      refine Ask.o h fun p6 h => ?_
      conv => whnf
      cases h; exact ⟨rfl, rfl⟩
    · conv => whnf
      refine Ask.o h fun p7 h => ?_
      conv => whnf
      cases h; exact ⟨rfl, rfl⟩
  · conv => whnf
    cases h; exact ⟨rfl, rfl⟩

noncomputable def F_spec_l24Irreducibles_l2 (p0 : SPoset) : (Int × (List Int)) → Option ((Int × (List Int)) ⊕ (List Int)) := fun (x4, x3) =>
   if x4 < (↑p0.Below.length : Int) then
    (loopO (F_spec_l24Irreducibles_l1 p0 x4 x3) ((0 : Int), (0 : Int))).bind fun q8_5 =>
    if q8_5 = (1 : Int) then
     ask ((x3).length + ([x4]).length ≤ LIM) <|
     ask (InI (x4 + (1 : Int))) <|
     some (.inl (x4 + (1 : Int), x3 ++ [x4]))
    else
     ask (InI (x4 + (1 : Int))) <|
     some (.inl (x4 + (1 : Int), x3))
   else
    some (.inr x3)
def S_spec_l24Irreducibles_l2 (p0 : SPoset) : (Int × (List Int)) → St := fun s => [(4, A.val (vint s.1)), (3, A.val ((slr true 1 vint) s.2)), (1, A.val ((rP true (rS_Poset false)) (p0)))]
def T_spec_l24Irreducibles_l2 (_p0 : SPoset) : (List Int) → Tgt
  | s => ((Ex.exit 0), [3], [(3, A.val ((slr true 1 vint) s))])
theorem b_spec_l24Irreducibles_l2 {p0 : SPoset} (s : (Int × (List Int))) (o : (Int × (List Int)) ⊕ (List Int)) (h : F_spec_l24Irreducibles_l2 p0 s = some o) : vc Try.prog c_spec_l24Irreducibles_l2 (outQ [4, 3, 1] (S_spec_l24Irreducibles_l2 p0) (T_spec_l24Irreducibles_l2 p0) o) (S_spec_l24Irreducibles_l2 p0 s) := by
  obtain ⟨x4, x3⟩ := s
  unfold F_spec_l24Irreducibles_l2 at h
  try dsimp only at h
  conv => whnf
  refine Cells.lit rfl rfl ?_
  conv => whnf
  refine Len.map ?_
  conv => whnf
  refine Br.od h (fun p1 h => ?_) (fun p1 h => ?_)
  · conv => whnf
    refine LoopQ.o [6, 5, 4, 3, 1] (S_spec_l24Irreducibles_l1 p0 x4 x3) (T_spec_l24Irreducibles_l1 p0 x4 x3) h (fun s o h => b_spec_l24Irreducibles_l1 s o h) (by first | rfl | simp [restrict, look, mulN_one, V.fz, fzL, V.up, upL, fzL_map, fz_slr, fz_at, slr]) (fun _ => rfl) ?_
    rintro q8_5 h
    try dsimp only at h
    conv => whnf
    refine Br.oe h (fun p9 h => ?_) (fun p9 h => ?_)
    · conv => whnf
      refine BslQ.o vint [x4] (by exact fun _ => ⟨rfl, rfl⟩) (by first | rfl | simp only [mulN_one, V.fz, fzL, V.up, upL, fzL_map, fz_slr, fz_at, slr, List.cons_append, List.nil_append] | simp [mulN_one, V.fz, fzL, V.up, upL, fzL_map, fz_slr, fz_at, slr]) ?_
      conv => whnf
      refine NoOwn.o (fun _ => rfl) ?_
      conv => whnf
      refine AppQ.o vint (by exact fun _ => ⟨rfl, rfl⟩) (x3) ([x4]) (by first | rfl | simp only [mulN_one, V.fz, fzL, V.up, upL, fzL_map, fz_slr, fz_at, slr, List.cons_append, List.nil_append] | simp [mulN_one, V.fz, fzL, V.up, upL, fzL_map, fz_slr, fz_at, slr]) (by first | rfl | simp only [mulN_one, V.fz, fzL, V.up, upL, fzL_map, fz_slr, fz_at, slr, List.cons_append, List.nil_append] | simp [mulN_one, V.fz, fzL, V.up, upL, fzL_map, fz_slr, fz_at, slr]) h fun h => ?_
      conv => whnf
      refine Ask.o h fun p10 h => ?_
      conv => whnf
      cases h; exact ⟨rfl, rfl⟩
    · conv => whnf
      refine Ask.o h fun p11 h => ?_
      conv => whnf
      cases h; exact ⟨rfl, rfl⟩
  · conv => whnf
    cases h; exact ⟨rfl, rfl⟩

noncomputable def F_spec_l24Irreducibles (p0 : SPoset) : Option (List Int) :=
  (loopO (F_spec_l24Irreducibles_l2 p0) ((0 : Int), nilL Int)).bind fun q12_3 =>
  some q12_3
theorem t_spec_l24Irreducibles {p0 : SPoset} {v : (List Int)} (h : F_spec_l24Irreducibles p0 = some v) : Ret Try.prog f_spec_l24Irreducibles [(rS_Poset false) p0] ((slr true 1 vint) v) := by
  refine ret_vc k_spec_l24Irreducibles (Nat.le_of_ble_eq_true rfl) ?_
  unfold F_spec_l24Irreducibles at h
  conv => whnf
  refine BslQ.o vint (nilL Int) (by exact fun _ => ⟨rfl, rfl⟩) (by first | rfl | simp only [mulN_one, V.fz, fzL, V.up, upL, fzL_map, fz_slr, fz_at, slr, List.cons_append, List.nil_append] | simp [mulN_one, V.fz, fzL, V.up, upL, fzL_map, fz_slr, fz_at, slr]) ?_
  conv => whnf
  refine LoopQ.o [4, 3, 1] (S_spec_l24Irreducibles_l2 p0) (T_spec_l24Irreducibles_l2 p0) h (fun s o h => b_spec_l24Irreducibles_l2 s o h) (by first | rfl | simp [restrict, look, mulN_one, V.fz, fzL, V.up, upL, fzL_map, fz_slr, fz_at, slr]) (fun _ => rfl) ?_
  rintro q12_3 h
  try dsimp only at h
  conv => whnf
  cases h; exact (by first | rfl | simp [resV, mulN_one, V.fz, fzL, V.up, upL, fzL_map, fz_slr, fz_at, slr])

noncomputable def F_impl_MeetIrreducibles_1_1 (x0 : Int) (a1 : Slattice) : Option Bool :=
  (F_impl_order_upperCovers (a1.order) (x0)).bind fun r1 =>
  some ((↑r1.length : Int) == (1 : Int))
theorem t_impl_MeetIrreducibles_1_1 {x0 : Int} {a1 : Slattice} {v : Bool} (h : F_impl_MeetIrreducibles_1_1 x0 a1 = some v) : Ret Try.prog f_impl_MeetIrreducibles_1_1 [vint x0, (rP false (rP false (rS_lattice false))) a1] (V.bool v) := by
  refine ret_vc k_impl_MeetIrreducibles_1_1 (Nat.le_of_ble_eq_true rfl) ?_
  unfold F_impl_MeetIrreducibles_1_1 at h
  conv => whnf
  refine CallQ.o (slr true 1 vint) (by first | rfl | simp only [mulN_one, V.fz, fzL, V.up, upL, fzL_map, fz_slr, fz_at, slr, List.cons_append, List.nil_append] | simp [mulN_one, V.fz, fzL, V.up, upL, fzL_map, fz_slr, fz_at, slr]) h (fun r h => t_impl_order_upperCovers h) (fun r1 h => ?_)
  conv => whnf
  refine Len.map ?_
  conv => whnf
  cases h; exact (by first | rfl | simp [resV, mulN_one, V.fz, fzL, V.up, upL, fzL_map, fz_slr, fz_at, slr])

noncomputable def F_impl_lattice_irreducibles_1 (x0 : Int) (a1 : Slattice) : Option Bool :=
  (F_impl_order_lowerCovers (a1.order) (x0)).bind fun r1 =>
  some ((↑r1.length : Int) == (1 : Int))
theorem t_impl_lattice_irreducibles_1 {x0 : Int} {a1 : Slattice} {v : Bool} (h : F_impl_lattice_irreducibles_1 x0 a1 = some v) : Ret Try.prog f_impl_lattice_irreducibles_1 [vint x0, (rP false (rP false (rS_lattice false))) a1] (V.bool v) := by
  refine ret_vc k_impl_lattice_irreducibles_1 (Nat.le_of_ble_eq_true rfl) ?_
  unfold F_impl_lattice_irreducibles_1 at h
  conv => whnf
  refine CallQ.o (slr true 1 vint) (by first | rfl | simp only [mulN_one, V.fz, fzL, V.up, upL, fzL_map, fz_slr, fz_at, slr, List.cons_append, List.nil_append] | simp [mulN_one, V.fz, fzL, V.up, upL, fzL_map, fz_slr, fz_at, slr]) h (fun r h => t_impl_order_lowerCovers h) (fun r1 h => ?_)
  conv => whnf
  refine Len.map ?_
  conv => whnf
  cases h; exact (by first | rfl | simp [resV, mulN_one, V.fz, fzL, V.up, upL, fzL_map, fz_slr, fz_at, slr])

noncomputable def F_spec_CoverPairs (p0 : SPoset) : Option ((List (Int × Int)) × Bool) :=
  (F_spec_l23Good (p0)).bind fun r1 =>
  if (r1) = true then
   (F_spec_l23Pairs (p0)).bind fun r3 =>
   some (r3, true)
  else
   some (nilL (Int × Int), false)
theorem t_spec_CoverPairs {p0 : SPoset} {v : ((List (Int × Int)) × Bool)} (h : F_spec_CoverPairs p0 = some v) : Ret Try.prog f_spec_CoverPairs [(rS_Poset false) p0] ((fun r => V.tup [(slr true 2 (rA2 vint)) r.1, V.bool r.2]) v) := by
  refine ret_vc k_spec_CoverPairs (Nat.le_of_ble_eq_true rfl) ?_
  unfold F_spec_CoverPairs at h
  conv => whnf
  refine Cells.lit rfl rfl ?_
  conv => whnf
  refine CallQ.o V.bool (by first | rfl | simp only [mulN_one, V.fz, fzL, V.up, upL, fzL_map, fz_slr, fz_at, slr, List.cons_append, List.nil_append] | simp [mulN_one, V.fz, fzL, V.up, upL, fzL_map, fz_slr, fz_at, slr]) h (fun r h => t_spec_l23Good h) (fun r1 h => ?_)
  conv => whnf
  refine Br.flip ?_
  conv => whnf
  refine Br.ob h (fun p2 h => ?_) (fun p2 h => ?_)
  · conv => whnf
    refine Cells.lit rfl rfl ?_
    conv => whnf
    refine CallQ.o (slr true 2 (rA2 vint)) (by first | rfl | simp only [mulN_one, V.fz, fzL, V.up, upL, fzL_map, fz_slr, fz_at, slr, List.cons_append, List.nil_append] | simp [mulN_one, V.fz, fzL, V.up, upL, fzL_map, fz_slr, fz_at, slr]) h (fun r h => t_spec_l23Pairs h) (fun r3 h => ?_)
    conv => whnf
    cases h; exact (by first | rfl | simp [resV, mulN_one, V.fz, fzL, V.up, upL, fzL_map, fz_slr, fz_at, slr])
  · conv => whnf
    refine BslQ.o (rA2 vint) (nilL (Int × Int)) (by exact fun _ => ⟨rfl, rfl⟩) (by first | rfl | simp only [mulN_one, V.fz, fzL, V.up, upL, fzL_map, fz_slr, fz_at, slr, List.cons_append, List.nil_append] | simp [mulN_one, V.fz, fzL, V.up, upL, fzL_map, fz_slr, fz_at, slr]) ?_
    conv => whnf
    cases h; exact (by first | rfl | simp [resV, mulN_one, V.fz, fzL, V.up, upL, fzL_map, fz_slr, fz_at, slr])

noncomputable def F_spec_JoinIrreducibles (p0 : SPoset) : Option ((List Int) × Bool) :=
  (F_spec_l24Good (p0)).bind fun r1 =>
  if (r1) = true then
   (F_spec_l24Irreducibles (p0)).bind fun r3 =>
   some (r3, true)
  else
   some (nilL Int, false)
theorem t_spec_JoinIrreducibles {p0 : SPoset} {v : ((List Int) × Bool)} (h : F_spec_JoinIrreducibles p0 = some v) : Ret Try.prog f_spec_JoinIrreducibles [(rS_Poset false) p0] ((fun r => V.tup [(slr true 1 vint) r.1, V.bool r.2]) v) := by
  refine ret_vc k_spec_JoinIrreducibles (Nat.le_of_ble_eq_true rfl) ?_
  unfold F_spec_JoinIrreducibles at h
  conv => whnf
  refine Cells.lit rfl rfl ?_
  conv => whnf
  refine CallQ.o V.bool (by first | rfl | simp only [mulN_one, V.fz, fzL, V.up, upL, fzL_map, fz_slr, fz_at, slr, List.cons_append, List.nil_append] | simp [mulN_one, V.fz, fzL, V.up, upL, fzL_map, fz_slr, fz_at, slr]) h (fun r h => t_spec_l24Good h) (fun r1 h => ?_)
  conv => whnf
  refine Br.flip ?_
  conv => whnf
  refine Br.ob h (fun p2 h => ?_) (fun p2 h => ?_)
  · conv => whnf
    refine Cells.lit rfl rfl ?_
    conv => whnf
    refine CallQ.o (slr true 1 vint) (by first | rfl | simp only [mulN_one, V.fz, fzL, V.up, upL, fzL_map, fz_slr, fz_at, slr, List.cons_append, List.nil_append] | simp [mulN_one, V.fz, fzL, V.up, upL, fzL_map, fz_slr, fz_at, slr]) h (fun r h => t_spec_l24Irreducibles h) (fun r3 h => ?_)
    conv => whnf
    cases h; exact (by first | rfl | simp [resV, mulN_one, V.fz, fzL, V.up, upL, fzL_map, fz_slr, fz_at, slr])
  · conv => whnf
    refine BslQ.o vint (nilL Int) (by exact fun _ => ⟨rfl, rfl⟩) (by first | rfl | simp only [mulN_one, V.fz, fzL, V.up, upL, fzL_map, fz_slr, fz_at, slr, List.cons_append, List.nil_append] | simp [mulN_one, V.fz, fzL, V.up, upL, fzL_map, fz_slr, fz_at, slr]) ?_
    conv => whnf
    cases h; exact (by first | rfl | simp [resV, mulN_one, V.fz, fzL, V.up, upL, fzL_map, fz_slr, fz_at, slr])

noncomputable def F_spec_MeetIrreducibles (p0 : SPoset) : Option ((List Int) × Bool) :=
  (F_spec_l24Good (p0)).bind fun r1 =>
  if (r1) = true then
   (F_spec_l23Dual (p0)).bind fun r3 =>
   (F_spec_l24Irreducibles (r3)).bind fun r4 =>
   some (r4, true)
  else
   some (nilL Int, false)
theorem t_spec_MeetIrreducibles {p0 : SPoset} {v : ((List Int) × Bool)} (h : F_spec_MeetIrreducibles p0 = some v) : Ret Try.prog f_spec_MeetIrreducibles [(rS_Poset false) p0] ((fun r => V.tup [(slr true 1 vint) r.1, V.bool r.2]) v) := by
  refine ret_vc k_spec_MeetIrreducibles (Nat.le_of_ble_eq_true rfl) ?_
  unfold F_spec_MeetIrreducibles at h
  conv => whnf
  refine Cells.lit rfl rfl ?_
  conv => whnf
  refine CallQ.o V.bool (by first | rfl | simp only [mulN_one, V.fz, fzL, V.up, upL, fzL_map, fz_slr, fz_at, slr, List.cons_append, List.nil_append] | simp [mulN_one, V.fz, fzL, V.up, upL, fzL_map, fz_slr, fz_at, slr]) h (fun r h => t_spec_l24Good h) (fun r1 h => ?_)
  conv => whnf
  refine Br.flip ?_
  conv => whnf
  refine Br.ob h (fun p2 h => ?_) (fun p2 h => ?_)
  · conv => whnf
    refine Cells.lit rfl rfl ?_
    conv => whnf
    refine CallQ.o (rS_Poset true) (by first | rfl | simp only [mulN_one, V.fz, fzL, V.up, upL, fzL_map, fz_slr, fz_at, slr, List.cons_append, List.nil_append] | simp [mulN_one, V.fz, fzL, V.up, upL, fzL_map, fz_slr, fz_at, slr]) h (fun r h => t_spec_l23Dual h) (fun r3 h => ?_)
    conv => whnf
    refine CallQ.rd (slr true 1 vint) (by first | rfl | simp only [V.fz, fzL, fzL_map] | simp [mulN_one, V.fz, fzL, V.up, upL, fzL_map, fz_slr, fz_at, slr]) (fun _ => by simp [V.noFz, noFzL_map]) h (fun r h => t_spec_l24Irreducibles h) (fun r4 h => ?_)
    conv => whnf
    cases h; exact (by first | rfl | simp [resV, mulN_one, V.fz, fzL, V.up, upL, fzL_map, fz_slr, fz_at, slr])
  · conv => whnf
    refine BslQ.o vint (nilL Int) (by exact fun _ => ⟨rfl, rfl⟩) (by first | rfl | simp only [mulN_one, V.fz, fzL, V.up, upL, fzL_map, fz_slr, fz_at, slr, List.cons_append, List.nil_append] | simp [mulN_one, V.fz, fzL, V.up, upL, fzL_map, fz_slr, fz_at, slr]) ?_
    conv => whnf
    cases h; exact (by first | rfl | simp [resV, mulN_one, V.fz, fzL, V.up, upL, fzL_map, fz_slr, fz_at, slr])

noncomputable def F_impl_lattice_irreducibles (l0 : Slattice) : Option (List Int) :=
  (F_impl_order_those (l0.order) (fun w_0 => F_impl_lattice_irreducibles_1 w_0 (l0))).bind fun r1 =>
  some r1
theorem t_impl_lattice_irreducibles {l0 : Slattice} {v : (List Int)} (h : F_impl_lattice_irreducibles l0 = some v) : Ret Try.prog f_impl_lattice_irreducibles [(rP false (rS_lattice false)) l0] ((slr true 1 vint) v) := by
  refine ret_vc k_impl_lattice_irreducibles (Nat.le_of_ble_eq_true rfl) ?_
  unfold F_impl_lattice_irreducibles at h
  conv => whnf
  refine Cells.lit rfl rfl ?_
  conv => whnf
  refine CallQ.rd (slr true 1 vint) (by first | rfl | simp only [mulN_one, V.fz, fzL, V.up, upL, fzL_map, fz_slr, fz_at, slr, List.cons_append, List.nil_append] | simp [mulN_one, V.fz, fzL, V.up, upL, fzL_map, fz_slr, fz_at, slr]) (fun _ => by simp [V.noFz, noFzL_map]) h (fun r h => t_impl_order_those (f_so0 := f_impl_lattice_irreducibles_1) (c_so0 := [(rP false (rP false (rS_lattice false))) (l0)]) (fun w_0 v h => Ret.cast (by first | rfl | simp only [mulN_one, V.fz, fzL, V.up, upL, fzL_map, fz_slr, fz_at, slr, List.cons_append, List.nil_append] | simp [mulN_one, V.fz, fzL, V.up, upL, fzL_map, fz_slr, fz_at, slr]) (t_impl_lattice_irreducibles_1 h)) h) (fun r1 h => ?_)
  conv => whnf
  cases h; exact (by first | rfl | simp [resV, mulN_one, V.fz, fzL, V.up, upL, fzL_map, fz_slr, fz_at, slr])

noncomputable def F_impl_MeetIrreducibles_1 (l0 : Slattice) : Option (List Int) :=
  (F_impl_order_those (l0.order) (fun w_0 => F_impl_MeetIrreducibles_1_1 w_0 (l0))).bind fun r1 =>
  some r1
theorem t_impl_MeetIrreducibles_1 {l0 : Slattice} {v : (List Int)} (h : F_impl_MeetIrreducibles_1 l0 = some v) : Ret Try.prog f_impl_MeetIrreducibles_1 [(rP false (rS_lattice false)) l0] ((slr true 1 vint) v) := by
  refine ret_vc k_impl_MeetIrreducibles_1 (Nat.le_of_ble_eq_true rfl) ?_
  unfold F_impl_MeetIrreducibles_1 at h
  conv => whnf
  refine Cells.lit rfl rfl ?_
  conv => whnf
  refine CallQ.rd (slr true 1 vint) (by first | rfl | simp only [mulN_one, V.fz, fzL, V.up, upL, fzL_map, fz_slr, fz_at, slr, List.cons_append, List.nil_append] | simp [mulN_one, V.fz, fzL, V.up, upL, fzL_map, fz_slr, fz_at, slr]) (fun _ => by simp [V.noFz, noFzL_map]) h (fun r h => t_impl_order_those (f_so0 := f_impl_MeetIrreducibles_1_1) (c_so0 := [(rP false (rP false (rS_lattice false))) (l0)]) (fun w_0 v h => Ret.cast (by first | rfl | simp only [mulN_one, V.fz, fzL, V.up, upL, fzL_map, fz_slr, fz_at, slr, List.cons_append, List.nil_append] | simp [mulN_one, V.fz, fzL, V.up, upL, fzL_map, fz_slr, fz_at, slr]) (t_impl_MeetIrreducibles_1_1 h)) h) (fun r1 h => ?_)
  conv => whnf
  cases h; exact (by first | rfl | simp [resV, mulN_one, V.fz, fzL, V.up, upL, fzL_map, fz_slr, fz_at, slr])

noncomputable def F_impl_JoinIrreducibles (p0 : SPoset) : Option ((List Int) × Bool) :=
  (F_impl_listOf (p0) (fun w_0 => F_impl_lattice_irreducibles w_0)).bind fun r1 =>
  some r1
theorem t_impl_JoinIrreducibles {p0 : SPoset} {v : ((List Int) × Bool)} (h : F_impl_JoinIrreducibles p0 = some v) : Ret Try.prog f_impl_JoinIrreducibles [(rS_Poset false) p0] ((fun r => V.tup [(slr true 1 vint) r.1, V.bool r.2]) v) := by
  refine ret_vc k_impl_JoinIrreducibles (Nat.le_of_ble_eq_true rfl) ?_
  unfold F_impl_JoinIrreducibles at h
  conv => whnf
  refine Cells.lit rfl rfl ?_
  conv => whnf
  refine CallQ.o (fun r => V.tup [(slr true 1 vint) r.1, V.bool r.2]) (by first | rfl | simp only [mulN_one, V.fz, fzL, V.up, upL, fzL_map, fz_slr, fz_at, slr, List.cons_append, List.nil_append] | simp [mulN_one, V.fz, fzL, V.up, upL, fzL_map, fz_slr, fz_at, slr]) h (fun r h => t_impl_listOf (f_list0 := f_impl_lattice_irreducibles) (c_list0 := []) (fun w_0 v h => Ret.cast (by first | rfl | simp only [mulN_one, V.fz, fzL, V.up, upL, fzL_map, fz_slr, fz_at, slr, List.cons_append, List.nil_append] | simp [mulN_one, V.fz, fzL, V.up, upL, fzL_map, fz_slr, fz_at, slr]) (t_impl_lattice_irreducibles h)) h) (fun r1 h => ?_)
  conv => whnf
  cases h; exact (by first | rfl | simp [resV, mulN_one, V.fz, fzL, V.up, upL, fzL_map, fz_slr, fz_at, slr])

noncomputable def F_impl_MeetIrreducibles (p0 : SPoset) : Option ((List Int) × Bool) :=
  (F_impl_listOf (p0) (fun w_0 => F_impl_MeetIrreducibles_1 w_0)).bind fun r1 =>
  some r1
theorem t_impl_MeetIrreducibles {p0 : SPoset} {v : ((List Int) × Bool)} (h : F_impl_MeetIrreducibles p0 = some v) : Ret Try.prog f_impl_MeetIrreducibles [(rS_Poset false) p0] ((fun r => V.tup [(slr true 1 vint) r.1, V.bool r.2]) v) := by
  refine ret_vc k_impl_MeetIrreducibles (Nat.le_of_ble_eq_true rfl) ?_
  unfold F_impl_MeetIrreducibles at h
  conv => whnf
  refine Cells.lit rfl rfl ?_
  conv => whnf
  refine CallQ.o (fun r => V.tup [(slr true 1 vint) r.1, V.bool r.2]) (by first | rfl | simp only [mulN_one, V.fz, fzL, V.up, upL, fzL_map, fz_slr, fz_at, slr, List.cons_append, List.nil_append] | simp [mulN_one, V.fz, fzL, V.up, upL, fzL_map, fz_slr, fz_at, slr]) h (fun r h => t_impl_listOf (f_list0 := f_impl_MeetIrreducibles_1) (c_list0 := []) (fun w_0 v h => Ret.cast (by first | rfl | simp only [mulN_one, V.fz, fzL, V.up, upL, fzL_map, fz_slr, fz_at, slr, List.cons_append, List.nil_append] | simp [mulN_one, V.fz, fzL, V.up, upL, fzL_map, fz_slr, fz_at, slr]) (t_impl_MeetIrreducibles_1 h)) h) (fun r1 h => ?_)
  conv => whnf
  cases h; exact (by first | rfl | simp [resV, mulN_one, V.fz, fzL, V.up, upL, fzL_map, fz_slr, fz_at, slr])

end Go.Proofs.Ythcnmahjhahafab.Ax
