/-
  What the functions compute, as functions on plain data, and that the program does compute it; written by program.
-/
import Derived.Test.YthcnmahjhahafaaCode
import Derived.Test.YthcnmahjhahafaaG1
import Derived.Test.YthcnmahjhahafaaG4
import Derived.Test.YthcnmahjhahafaaG6
import Derived.Test.YthcnmahjhahafaaG9
namespace Go.Proofs.Ythcnmahjhahafaa.Ax
open Go
set_option maxRecDepth 100000
set_option maxHeartbeats 4000000

noncomputable def F_spec_l23Less (p0 : SPoset) (x0 : Int) (y0 : Int) : Option Bool :=
  if x0 ≠ y0 then
   (F_spec_l23Leq (p0) (x0) (y0)).bind fun r2 =>
   some r2
  else
   some false
theorem t_spec_l23Less {p0 : SPoset} {x0 : Int} {y0 : Int} {v : Bool} (h : F_spec_l23Less p0 x0 y0 = some v) : Ret Try.prog f_spec_l23Less [(rS_Poset false) p0, vint x0, vint y0] (V.bool v) := by
  refine ret_vc k_spec_l23Less (Nat.le_of_ble_eq_true rfl) ?_
  unfold F_spec_l23Less at h
  conv => whnf
  refine Br.on h (fun p1 h => ?_) (fun p1 h => ?_)
  · conv => whnf
    refine Cells.lit rfl rfl ?_
    conv => whnf
    refine Br.yes ?_
    conv => whnf
    refine Br.yes ?_
    conv => whnf
    refine Br.yes ?_
    conv => whnf
    refine CallQ.o V.bool (by first | rfl | simp only [mulN_one, V.fz, fzL, V.up, upL, fzL_map, fz_slr, fz_at, slr, List.cons_append, List.nil_append] | simp [mulN_one, V.fz, fzL, V.up, upL, fzL_map, fz_slr, fz_at, slr]) h (fun r h => t_spec_l23Leq h) (fun r2 h => ?_)
    conv => whnf
    refine Br.yes ?_
    conv => whnf
    cases h; exact (by first | rfl | simp [resV, mulN_one, V.fz, fzL, V.up, upL, fzL_map, fz_slr, fz_at, slr])
  · conv => whnf
    refine Br.no ?_
    conv => whnf
    refine Br.no ?_
    conv => whnf
    refine Br.no ?_
    conv => whnf
    refine Br.no ?_
    conv => whnf
    cases h; exact (by first | rfl | simp [resV, mulN_one, V.fz, fzL, V.up, upL, fzL_map, fz_slr, fz_at, slr])

noncomputable def F_spec_l24Bound_l1 (p0 : SPoset) (some0 : List Int) (x6 : Int) (_x5 : List Int) : (Int × Bool) → Option ((Int × Bool) ⊕ Bool) := fun (x8, x7) =>
   if x8 < (↑some0.length : Int) then
    if (x7) = true then
     ask ((0 : Int) ≤ x8 ∧ x8 < (↑some0.length : Int)) <|
     (F_spec_l23Leq (p0) (x6) (nth some0 x8.toNat)).bind fun r5 =>
     ask (InI (x8 + (1 : Int))) <|
     some (.inl (x8 + (1 : Int), r5))
    else
     ask (InI (x8 + (1 : Int))) <|
     some (.inl (x8 + (1 : Int), false))
   else
    some (.inr x7)
def S_spec_l24Bound_l1 (p0 : SPoset) (some0 : List Int) (x6 : Int) (x5 : List Int) : (Int × Bool) → St := fun s => [(8, A.val (vint s.1)), (7, A.val (V.bool s.2)), (6, A.val (vint (x6))), (5, A.val ((slr true 1 vint) (x5))), (2, A.val ((rP true (rS_Poset false)) (p0))), (1, A.val ((slr false 1 vint) (some0)))]
def T_spec_l24Bound_l1 (p0 : SPoset) (some0 : List Int) (x6 : Int) (x5 : List Int) : Bool → Tgt
  | s => ((Ex.exit 2), [7, 6, 5, 2, 1], [(7, A.val (V.bool s)), (6, A.val (vint (x6))), (5, A.val ((slr true 1 vint) (x5))), (2, A.val ((rP true (rS_Poset false)) (p0))), (1, A.val ((slr false 1 vint) (some0)))])
theorem b_spec_l24Bound_l1 {p0 : SPoset} {some0 : List Int} {x6 : Int} {x5 : List Int} (s : (Int × Bool)) (o : (Int × Bool) ⊕ Bool) (h : F_spec_l24Bound_l1 p0 some0 x6 x5 s = some o) : vc Try.prog c_spec_l24Bound_l1 (outQ [8, 7, 6, 5, 2, 1] (S_spec_l24Bound_l1 p0 some0 x6 x5) (T_spec_l24Bound_l1 p0 some0 x6 x5) o) (S_spec_l24Bound_l1 p0 some0 x6 x5 s) := by
  obtain ⟨x8, x7⟩ := s
  unfold F_spec_l24Bound_l1 at h
  try dsimp only at h
  conv => whnf
  refine Len.map ?_
  conv => whnf
  refine Br.od h (fun p2 h => ?_) (fun p2 h => ?_)
  · conv => whnf
    refine Br.ob h (fun p3 h => ?_) (fun p3 h => ?_)
    · conv => whnf
      refine Cells.lit rfl rfl ?_
      conv => whnf
      refine Br.yes ?_
      conv => whnf
      refine Br.yes ?_
      conv => whnf
      refine Br.yes ?_
      conv => whnf
      refine Br.yes ?_
      conv => whnf
      refine Len.map ?_
      conv => whnf
      refine Ask.o h fun p4 h => ?_
      conv => whnf
      refine Elem.o (by first | omega | (simp only [mulN] at *; omega) | (simp [mulN] at *; omega)) ?_
      conv => whnf
      refine Br.yes ?_
      conv => whnf
      refine Br.yes ?_
      conv => whnf
      refine CallQ.o V.bool (by first | rfl | simp only [mulN_one, V.fz, fzL, V.up, upL, fzL_map, fz_slr, fz_at, slr, List.cons_append, List.nil_append] | simp [mulN_one, V.fz, fzL, V.up, upL, fzL_map, fz_slr, fz_at, slr]) h (fun r h => t_spec_l23Leq h) (fun r5 h => ?_)
      conv => whnf
      refine Br.yes ?_
      conv => whnf
      refine Ask.o h fun p6 h => ?_
      conv => whnf
      cases h; exact ⟨rfl, rfl⟩
    · conv => whnf
      refine Br.no ?_
      conv => whnf
      refine Br.no ?_
      conv => whnf
      refine Br.no ?_
      conv => whnf
      refine Br.no ?_
      conv => whnf
      refine Br.no ?_
      conv => whnf
      refine Br.no ?_
      conv => whnf
      refine Br.no ?_
      conv => whnf
      refine Ask.o h fun p7 h => ?_
      conv => whnf
      cases h; exact ⟨rfl, rfl⟩
  · conv => whnf
    cases h; exact ⟨rfl, rfl⟩

noncomputable def F_spec_l24Bound_l2 (p0 : SPoset) (some0 : List Int) : (Int × (List Int)) → Option ((Int × (List Int)) ⊕ (List Int)) := fun (x6, x5) =>
   if x6 < (↑p0.Below.length : Int) then
    (loopO (F_spec_l24Bound_l1 p0 some0 x6 x5) ((0 : Int), true)).bind fun q8_7 =>
    if (q8_7) = true then
     ask ((x5).length + ([x6]).length ≤ LIM) <|
     ask (InI (x6 + (1 : Int))) <|
     some (.inl (x6 + (1 : Int), x5 ++ [x6]))
    else
     ask (InI (x6 + (1 : Int))) <|
     some (.inl (x6 + (1 : Int), x5))
   else
    some (.inr x5)
def S_spec_l24Bound_l2 (p0 : SPoset) (some0 : List Int) : (Int × (List Int)) → St := fun s => [(6, A.val (vint s.1)), (5, A.val ((slr true 1 vint) s.2)), (2, A.val ((rP true (rS_Poset false)) (p0))), (1, A.val ((slr false 1 vint) (some0)))]
def T_spec_l24Bound_l2 (p0 : SPoset) (_some0 : List Int) : (List Int) → Tgt
  | s => ((Ex.exit 0), [5, 2], [(5, A.val ((slr true 1 vint) s)), (2, A.val ((rP true (rS_Poset false)) (p0)))])
theorem b_spec_l24Bound_l2 {p0 : SPoset} {some0 : List Int} (s : (Int × (List Int))) (o : (Int × (List Int)) ⊕ (List Int)) (h : F_spec_l24Bound_l2 p0 some0 s = some o) : vc Try.prog c_spec_l24Bound_l2 (outQ [6, 5, 2, 1] (S_spec_l24Bound_l2 p0 some0) (T_spec_l24Bound_l2 p0 some0) o) (S_spec_l24Bound_l2 p0 some0 s) := by
  obtain ⟨x6, x5⟩ := s
  unfold F_spec_l24Bound_l2 at h
  try dsimp only at h
  conv => whnf
  refine Cells.lit rfl rfl ?_
  conv => whnf
  refine Len.map ?_
  conv => whnf
  refine Br.od h (fun p1 h => ?_) (fun p1 h => ?_)
  · conv => whnf
    refine LoopQ.o [8, 7, 6, 5, 2, 1] (S_spec_l24Bound_l1 p0 some0 x6 x5) (T_spec_l24Bound_l1 p0 some0 x6 x5) h (fun s o h => b_spec_l24Bound_l1 s o h) (by first | rfl | simp [restrict, look, mulN_one, V.fz, fzL, V.up, upL, fzL_map, fz_slr, fz_at, slr]) (fun _ => rfl) ?_
    rintro q8_7 h
    try dsimp only at h
    conv => whnf
    refine Br.ob h (fun p9 h => ?_) (fun p9 h => ?_)
    · conv => whnf
      refine BslQ.o vint [x6] (fun _ => ⟨rfl, rfl⟩) (by first | rfl | simp only [mulN_one, V.fz, fzL, V.up, upL, fzL_map, fz_slr, fz_at, slr, List.cons_append, List.nil_append] | simp [mulN_one, V.fz, fzL, V.up, upL, fzL_map, fz_slr, fz_at, slr]) ?_
      conv => whnf
      refine NoOwn.o (fun _ => rfl) ?_
      conv => whnf
      refine AppQ.o vint (fun _ => ⟨rfl, rfl⟩) (x5) ([x6]) (by first | rfl | simp only [mulN_one, V.fz, fzL, V.up, upL, fzL_map, fz_slr, fz_at, slr, List.cons_append, List.nil_append] | simp [mulN_one, V.fz, fzL, V.up, upL, fzL_map, fz_slr, fz_at, slr]) (by first | rfl | simp only [mulN_one, V.fz, fzL, V.up, upL, fzL_map, fz_slr, fz_at, slr, List.cons_append, List.nil_append] | simp [mulN_one, V.fz, fzL, V.up, upL, fzL_map, fz_slr, fz_at, slr]) h fun h => ?_
      conv => whnf
      refine Ask.o h fun p10 h => ?_
      conv => whnf
      cases h; exact ⟨rfl, rfl⟩
    · conv => whnf
      refine Ask.o h fun p11 h => ?_
      conv => whnf
      cases h; exact ⟨rfl, rfl⟩
  · conv => whnf
    cases h; exact ⟨rfl, rfl⟩

noncomputable def F_spec_l24Bound_l3 (p0 : SPoset) (q12_5 : List Int) : Int → Option (Int ⊕ (Int ⊕ Unit)) := fun x9 =>
   if x9 < (↑q12_5.length : Int) then
    ask ((0 : Int) ≤ x9 ∧ x9 < (↑q12_5.length : Int)) <|
    ask ((0 : Int) ≤ nth q12_5 x9.toNat ∧ nth q12_5 x9.toNat < (↑p0.Below.length : Int)) <|
    (F_spec_l5Within (q12_5) (nth p0.Below (nth q12_5 x9.toNat).toNat)).bind fun r16 =>
    if (r16) = true then
     ask ((0 : Int) ≤ x9 ∧ x9 < (↑q12_5.length : Int)) <|
     some (.inr (.inl (nth q12_5 x9.toNat)))
    else
     ask (InI (x9 + (1 : Int))) <|
     some (.inl (x9 + (1 : Int)))
   else
    some (.inr (.inr ()))
def S_spec_l24Bound_l3 (p0 : SPoset) (q12_5 : List Int) : Int → St := fun s => [(9, A.val (vint s)), (5, A.val ((slr true 1 vint) (q12_5))), (2, A.val ((rP true (rS_Poset false)) (p0)))]
def T_spec_l24Bound_l3 (_p0 : SPoset) (_q12_5 : List Int) : (Int ⊕ Unit) → Tgt
  | (.inl s) => (Ex.ret, [4], [(4, A.val (vint s))])
  | (.inr _s) => ((Ex.exit 4), [], [])
theorem b_spec_l24Bound_l3 {p0 : SPoset} {q12_5 : List Int} (x9 : Int) (o : Int ⊕ (Int ⊕ Unit)) (h : F_spec_l24Bound_l3 p0 q12_5 x9 = some o) : vc Try.prog c_spec_l24Bound_l3 (outQ [9, 5, 2] (S_spec_l24Bound_l3 p0 q12_5) (T_spec_l24Bound_l3 p0 q12_5) o) (S_spec_l24Bound_l3 p0 q12_5 x9) := by
  unfold F_spec_l24Bound_l3 at h
  try dsimp only at h
  conv => whnf
  refine Len.map ?_
  conv => whnf
  refine Br.od h (fun p13 h => ?_) (fun p13 h => ?_)
  · conv => whnf
    refine Cells.lit rfl rfl ?_
    conv => whnf
    refine Len.map ?_
    conv => whnf
    refine Ask.o h fun p14 h => ?_
    conv => whnf
    refine Cells.one (fun _ => ⟨rfl, rfl⟩) (by first | omega | (simp only [mulN] at *; omega) | (simp [mulN] at *; omega)) ?_
    conv => whnf
    refine Len.map ?_
    conv => whnf
    refine Ask.o h fun p15 h => ?_
    conv => whnf
    refine Elem.o (by first | omega | (simp only [mulN] at *; omega) | (simp [mulN] at *; omega)) ?_
    conv => whnf
    refine CallQ.rd V.bool (by first | rfl | simp only [mulN_one, V.fz, fzL_map, slr] | simp [mulN_one, V.fz, fzL, V.up, upL, fzL_map, fz_slr, fz_at, slr]) (fun _ => rfl) h (fun r h => t_spec_l5Within h) (fun r16 h => ?_)
    conv => whnf
    refine Br.ob h (fun p17 h => ?_) (fun p17 h => ?_)
    · conv => whnf
      refine Len.map ?_
      conv => whnf
      refine Ask.o h fun p18 h => ?_
      conv => whnf
      refine Cells.one (fun _ => ⟨rfl, rfl⟩) (by first | omega | (simp only [mulN] at *; omega) | (simp [mulN] at *; omega)) ?_
      conv => whnf
      cases h; exact ⟨rfl, rfl⟩
    · conv => whnf
      refine Ask.o h fun p19 h => ?_
      conv => whnf
      cases h; exact ⟨rfl, rfl⟩
  · conv => whnf
    cases h; exact ⟨rfl, rfl⟩

noncomputable def F_spec_l24Bound (p0 : SPoset) (some0 : (List Int)) : Option Int :=
  (loopO (F_spec_l24Bound_l2 p0 some0) ((0 : Int), nilL Int)).bind fun q12_5 =>
  (loopO (F_spec_l24Bound_l3 p0 q12_5) (0 : Int)).bind fun t => match t with
  | (.inl q20_4) => (some q20_4)
  | (.inr _) => (some (-1 : Int))
theorem t_spec_l24Bound {p0 : SPoset} {some0 : (List Int)} {v : Int} (h : F_spec_l24Bound p0 some0 = some v) : Ret Try.prog f_spec_l24Bound [(rS_Poset false) p0, (slr false 1 vint) some0] (vint v) := by
  refine ret_vc k_spec_l24Bound (Nat.le_of_ble_eq_true rfl) ?_
  unfold F_spec_l24Bound at h
  conv => whnf
  refine BslQ.o vint (nilL Int) (fun _ => ⟨rfl, rfl⟩) (by first | rfl | simp only [mulN_one, V.fz, fzL, V.up, upL, fzL_map, fz_slr, fz_at, slr, List.cons_append, List.nil_append] | simp [mulN_one, V.fz, fzL, V.up, upL, fzL_map, fz_slr, fz_at, slr]) ?_
  conv => whnf
  refine LoopQ.o [6, 5, 2, 1] (S_spec_l24Bound_l2 p0 some0) (T_spec_l24Bound_l2 p0 some0) h (fun s o h => b_spec_l24Bound_l2 s o h) (by first | rfl | simp [restrict, look, mulN_one, V.fz, fzL, V.up, upL, fzL_map, fz_slr, fz_at, slr]) (fun _ => rfl) ?_
  rintro q12_5 h
  try dsimp only at h
  conv => whnf
  refine LoopQ.o [9, 5, 2] (S_spec_l24Bound_l3 p0 q12_5) (T_spec_l24Bound_l3 p0 q12_5) h (fun s o h => b_spec_l24Bound_l3 s o h) (by first | rfl | simp [restrict, look, mulN_one, V.fz, fzL, V.up, upL, fzL_map, fz_slr, fz_at, slr]) (by rintro (_ | _) <;> rfl) ?_
  rintro (q20_4 | ⟨⟩) h
  · try dsimp only at h
    conv => whnf
    cases h; exact (by first | rfl | simp [resV, mulN_one, V.fz, fzL, V.up, upL, fzL_map, fz_slr, fz_at, slr])
  · try dsimp only at h
    conv => whnf
    cases h; exact (by first | rfl | simp [resV, mulN_one, V.fz, fzL, V.up, upL, fzL_map, fz_slr, fz_at, slr])

noncomputable def F_spec_IsPoset (p0 : SPoset) : Option Bool :=
  (F_spec_l23Good (p0)).bind fun r1 =>
  some r1
theorem t_spec_IsPoset {p0 : SPoset} {v : Bool} (h : F_spec_IsPoset p0 = some v) : Ret Try.prog f_spec_IsPoset [(rS_Poset false) p0] (V.bool v) := by
  refine ret_vc k_spec_IsPoset (Nat.le_of_ble_eq_true rfl) ?_
  unfold F_spec_IsPoset at h
  conv => whnf
  refine Cells.lit rfl rfl ?_
  conv => whnf
  refine CallQ.o V.bool (by first | rfl | simp only [mulN_one, V.fz, fzL, V.up, upL, fzL_map, fz_slr, fz_at, slr, List.cons_append, List.nil_append] | simp [mulN_one, V.fz, fzL, V.up, upL, fzL_map, fz_slr, fz_at, slr]) h (fun r h => t_spec_l23Good h) (fun r1 h => ?_)
  conv => whnf
  cases h; exact (by first | rfl | simp [resV, mulN_one, V.fz, fzL, V.up, upL, fzL_map, fz_slr, fz_at, slr])

noncomputable def F_spec_IsAtMost (p0 : SPoset) (x0 : Int) (y0 : Int) : Option (Bool × Bool) :=
  (F_spec_l23Good (p0)).bind fun r1 =>
  if (r1) = true then
   (F_spec_l23Is (p0) (x0)).bind fun r3 =>
   if (r3) = true then
    (F_spec_l23Is (p0) (y0)).bind fun r5 =>
    if (r5) = true then
     (F_spec_l23Leq (p0) (x0) (y0)).bind fun r7 =>
     some (r7, true)
    else
     some (false, false)
   else
    some (false, false)
  else
   some (false, false)
theorem t_spec_IsAtMost {p0 : SPoset} {x0 : Int} {y0 : Int} {v : (Bool × Bool)} (h : F_spec_IsAtMost p0 x0 y0 = some v) : Ret Try.prog f_spec_IsAtMost [(rS_Poset false) p0, vint x0, vint y0] ((fun r => V.tup [V.bool r.1, V.bool r.2]) v) := by
  refine ret_vc k_spec_IsAtMost (Nat.le_of_ble_eq_true rfl) ?_
  unfold F_spec_IsAtMost at h
  conv => whnf
  refine Cells.lit rfl rfl ?_
  conv => whnf
  refine CallQ.o V.bool (by first | rfl | simp only [mulN_one, V.fz, fzL, V.up, upL, fzL_map, fz_slr, fz_at, slr, List.cons_append, List.nil_append] | simp [mulN_one, V.fz, fzL, V.up, upL, fzL_map, fz_slr, fz_at, slr]) h (fun r h => t_spec_l23Good h) (fun r1 h => ?_)
  conv => whnf
  refine Br.flip ?_
  conv => whnf
  refine Br.ob h (fun p2 h => ?_) (fun p2 h => ?_)
  · conv => whnf
    refine Cells.lit rfl rfl ?_
    conv => whnf
    refine Br.no ?_
    conv => whnf
    refine Br.no ?_
    conv => whnf
    refine CallQ.o V.bool (by first | rfl | simp only [mulN_one, V.fz, fzL, V.up, upL, fzL_map, fz_slr, fz_at, slr, List.cons_append, List.nil_append] | simp [mulN_one, V.fz, fzL, V.up, upL, fzL_map, fz_slr, fz_at, slr]) h (fun r h => t_spec_l23Is h) (fun r3 h => ?_)
    conv => whnf
    refine Br.no ?_
    conv => whnf
    refine Br.no ?_
    conv => whnf
    refine Br.flip ?_
    conv => whnf
    refine Br.ob h (fun p4 h => ?_) (fun p4 h => ?_)
    · conv => whnf
      refine Cells.lit rfl rfl ?_
      conv => whnf
      refine Br.no ?_
      conv => whnf
      refine Br.no ?_
      conv => whnf
      refine CallQ.o V.bool (by first | rfl | simp only [mulN_one, V.fz, fzL, V.up, upL, fzL_map, fz_slr, fz_at, slr, List.cons_append, List.nil_append] | simp [mulN_one, V.fz, fzL, V.up, upL, fzL_map, fz_slr, fz_at, slr]) h (fun r h => t_spec_l23Is h) (fun r5 h => ?_)
      conv => whnf
      refine Br.no ?_
      conv => whnf
      refine Br.no ?_
      conv => whnf
      refine Br.flip ?_
      conv => whnf
      refine Br.ob h (fun p6 h => ?_) (fun p6 h => ?_)
      · conv => whnf
        refine Cells.lit rfl rfl ?_
        conv => whnf
        refine CallQ.o V.bool (by first | rfl | simp only [mulN_one, V.fz, fzL, V.up, upL, fzL_map, fz_slr, fz_at, slr, List.cons_append, List.nil_append] | simp [mulN_one, V.fz, fzL, V.up, upL, fzL_map, fz_slr, fz_at, slr]) h (fun r h => t_spec_l23Leq h) (fun r7 h => ?_)
        conv => whnf
        cases h; exact (by first | rfl | simp [resV, mulN_one, V.fz, fzL, V.up, upL, fzL_map, fz_slr, fz_at, slr])
      · conv => whnf
        cases h; exact (by first | rfl | simp [resV, mulN_one, V.fz, fzL, V.up, upL, fzL_map, fz_slr, fz_at, slr])
    · conv => whnf
      refine Br.yes ?_
      conv => whnf
      refine Br.yes ?_
      conv => whnf
      refine Br.yes ?_
      conv => whnf
      refine Br.yes ?_
      conv => whnf
      refine Br.yes ?_
      conv => whnf
      cases h; exact (by first | rfl | simp [resV, mulN_one, V.fz, fzL, V.up, upL, fzL_map, fz_slr, fz_at, slr])
  · conv => whnf
    refine Br.yes ?_
    conv => whnf
    refine Br.yes ?_
    conv => whnf
    refine Br.yes ?_
    conv => whnf
    refine Br.yes ?_
    conv => whnf
    refine Br.yes ?_
    conv => whnf
    refine Br.yes ?_
    conv => whnf
    refine Br.yes ?_
    conv => whnf
    refine Br.yes ?_
    conv => whnf
    refine Br.yes ?_
    conv => whnf
    refine Br.yes ?_
    conv => whnf
    cases h; exact (by first | rfl | simp [resV, mulN_one, V.fz, fzL, V.up, upL, fzL_map, fz_slr, fz_at, slr])

noncomputable def F_spec_CountExtensions_l1 (p0 : SPoset) (x6 : Int) (x7 : Int) (_x5' : List Int) : (Int × Bool) → Option ((Int × Bool) ⊕ Bool) := fun (x9, x8) =>
   ((ask ((0 : Int) ≤ x7 ∧ x7 < (↑p0.Below.length : Int)) <|
     if x9 < (↑(nth p0.Below x7.toNat).length : Int) then
      if (x8) = true then
       some (.inl ())
      else
       some (.inr ())
     else
      some (.inr ()) : Option (Unit ⊕ Unit))).bind fun t => match t with
   | (.inl _) => (ask ((0 : Int) ≤ x7 ∧ x7 < (↑p0.Below.length : Int)) <|
     ask ((0 : Int) ≤ x9 ∧ x9 < (↑(nth p0.Below x7.toNat).length : Int)) <|
     if nth (nth p0.Below x7.toNat) x9.toNat = x7 then
      ask (InI (x9 + (1 : Int))) <|
      some (.inl (x9 + (1 : Int), true))
     else
      ask ((0 : Int) ≤ x7 ∧ x7 < (↑p0.Below.length : Int)) <|
      ask ((0 : Int) ≤ x9 ∧ x9 < (↑(nth p0.Below x7.toNat).length : Int)) <|
      ask ((0 : Int) ≤ nth (nth p0.Below x7.toNat) x9.toNat) <|
      ask (InI (x9 + (1 : Int))) <|
      some (.inl (x9 + (1 : Int), andI (shrI x6 (nth (nth p0.Below x7.toNat) x9.toNat)) (1 : Int) == (1 : Int))))
   | (.inr _) => (some (.inr x8))
def S_spec_CountExtensions_l1 (p0 : SPoset) (x6 : Int) (x7 : Int) (x5' : List Int) : (Int × Bool) → St := fun s => [(9, A.val (vint s.1)), (8, A.val (V.bool s.2)), (7, A.val (vint (x7))), (6, A.val (vint (x6))), (5, A.val ((slr true 1 vint) (x5'))), (4, A.val (vint ((↑p0.Below.length : Int)))), (1, A.val ((rP true (rS_Poset false)) (p0)))]
def T_spec_CountExtensions_l1 (p0 : SPoset) (x6 : Int) (x7 : Int) (x5' : List Int) : Bool → Tgt
  | s => ((Ex.exit 4), [8, 7, 6, 5, 4, 1], [(8, A.val (V.bool s)), (7, A.val (vint (x7))), (6, A.val (vint (x6))), (5, A.val ((slr true 1 vint) (x5'))), (4, A.val (vint ((↑p0.Below.length : Int)))), (1, A.val ((rP true (rS_Poset false)) (p0)))])
theorem b_spec_CountExtensions_l1 {p0 : SPoset} {x6 : Int} {x7 : Int} {x5' : List Int} (s : (Int × Bool)) (o : (Int × Bool) ⊕ Bool) (h : F_spec_CountExtensions_l1 p0 x6 x7 x5' s = some o) : vc Try.prog c_spec_CountExtensions_l1 (outQ [9, 8, 7, 6, 5, 4, 1] (S_spec_CountExtensions_l1 p0 x6 x7 x5') (T_spec_CountExtensions_l1 p0 x6 x7 x5') o) (S_spec_CountExtensions_l1 p0 x6 x7 x5' s) := by
  obtain ⟨x9, x8⟩ := s
  unfold F_spec_CountExtensions_l1 at h
  try dsimp only at h
  conv => whnf
  refine CutQ.o (fun t : (Unit ⊕ Unit) => match t with | (.inl s) => (Ex.normal, [9, 7, 6, 5, 4, 1], [(9, A.val (vint (x9))), (7, A.val (vint (x7))), (6, A.val (vint (x6))), (5, A.val ((slr true 1 vint) (x5'))), (4, A.val (vint ((↑p0.Below.length : Int)))), (1, A.val ((rP true (rS_Poset false)) (p0)))]) | (.inr s) => ((Ex.exit 4), [8, 7, 6, 5, 4, 1], [(8, A.val (V.bool (x8))), (7, A.val (vint (x7))), (6, A.val (vint (x6))), (5, A.val ((slr true 1 vint) (x5'))), (4, A.val (vint ((↑p0.Below.length : Int)))), (1, A.val ((rP true (rS_Poset false)) (p0)))])) h ?_ ?_
  · intro t h
    conv => whnf
    refine Cells.lit rfl rfl ?_
    conv => whnf
    refine Len.map ?_
    conv => whnf
    refine Ask.o h fun p13 h => ?_
    conv => whnf
    refine Elem.o (by first | omega | (simp only [mulN] at *; omega) | (simp [mulN] at *; omega)) ?_
    conv => whnf
    refine Len.map ?_
    conv => whnf
    refine Br.od h (fun p14 h => ?_) (fun p14 h => ?_)
    · conv => whnf
      refine Br.yes ?_
      conv => whnf
      refine Br.ob h (fun p15 h => ?_) (fun p15 h => ?_)
      · conv => whnf
        cases h; exact ⟨rfl, rfl⟩
      · conv => whnf
        cases h; exact ⟨rfl, rfl⟩
    · conv => whnf
      refine Br.no ?_
      conv => whnf
      refine Br.no ?_
      conv => whnf
      cases h; exact ⟨rfl, rfl⟩
  · rintro (⟨⟩ | ⟨⟩) h
    · try dsimp only at h
      conv => whnf
      refine Cells.lit rfl rfl ?_
      conv => whnf
      refine Len.map ?_
      conv => whnf
      refine Ask.o h fun p17 h => ?_
      conv => whnf
      refine Elem.o (by first | omega | (simp only [mulN] at *; omega) | (simp [mulN] at *; omega)) ?_
      conv => whnf
      refine Len.map ?_
      conv => whnf
      refine Ask.o h fun p18 h => ?_
      conv => whnf
      refine Elem.o (by first | omega | (simp only [mulN] at *; omega) | (simp [mulN] at *; omega)) ?_
      conv => whnf
      refine Br.oe h (fun p19 h => ?_) (fun p19 h => ?_)
      · conv => whnf
        refine Br.yes ?_
        conv => whnf
        refine Br.yes ?_
        conv => whnf
        refine Br.yes ?_
        conv => whnf
        refine Br.yes ?_
        conv => whnf
        refine Br.yes ?_
        conv => whnf
        refine Br.yes ?_
        conv => whnf
        refine Br.yes ?_
        conv => whnf
        refine Br.yes ?_
        conv => whnf
        refine Br.yes ?_
        conv => whnf
        refine Br.yes ?_
        conv => whnf
        refine Br.yes ?_
        conv => whnf
        refine Br.yes ?_
        conv => whnf
        refine Ask.o h fun p20 h => ?_
        conv => whnf
        cases h; exact ⟨rfl, rfl⟩
      · conv => whnf
        refine Br.no ?_
        conv => whnf
        refine Br.no ?_
        conv => whnf
        refine Cells.lit rfl rfl ?_
        conv => whnf
        refine Br.no ?_
        conv => whnf
        refine Br.no ?_
        conv => whnf
        refine Len.map ?_
        conv => whnf
        refine Ask.o h fun p21 h => ?_
        conv => whnf
        refine Elem.o (by first | omega | (simp only [mulN] at *; omega) | (simp [mulN] at *; omega)) ?_
        conv => whnf
        refine Br.no ?_
        conv => whnf
        refine Br.no ?_
        conv => whnf
        refine Br.no ?_
        conv => whnf
        refine Len.map ?_
        conv => whnf
        refine Ask.o h fun p22 h => ?_
        conv => whnf
        refine Elem.o (by first | omega | (simp only [mulN] at *; omega) | (simp [mulN] at *; omega)) ?_
        conv => whnf
        refine Br.no ?_
        conv => whnf
        refine Br.no ?_
        conv => whnf
        refine Ask.o h fun p23 h => ?_
        conv => whnf
        refine Br.no ?_
        conv => whnf
        refine Br.no ?_
        conv => whnf
        refine Br.no ?_
        conv => whnf
        refine Ask.o h fun p24 h => ?_
        conv => whnf
        cases h; exact ⟨rfl, rfl⟩
    · try dsimp only at h
      conv => whnf
      cases h; exact ⟨rfl, rfl⟩

noncomputable def F_spec_CountExtensions_l2 (p0 : SPoset) (x6 : Int) : (Int × (List Int)) → Option ((Int × (List Int)) ⊕ (List Int)) := fun (x7, x5') =>
   ((if x7 < (↑p0.Below.length : Int) then
      ask ((0 : Int) ≤ x6 ∧ x6 < (↑x5'.length : Int)) <|
      if nth x5' x6.toNat > (0 : Int) then
       some (.inl ())
      else
       some (.inr ())
     else
      some (.inr ()) : Option (Unit ⊕ Unit))).bind fun t => match t with
   | (.inl _) => (ask ((0 : Int) ≤ x7) <|
     (loopO (F_spec_CountExtensions_l1 p0 x6 x7 x5') ((0 : Int), andI (shrI x6 x7) (1 : Int) == (0 : Int))).bind fun q25_8 =>
     if (q25_8) = true then
      ask ((0 : Int) ≤ x7) <|
      ask ((0 : Int) ≤ x7) <|
      ask ((0 : Int) ≤ orI x6 (shlI (1 : Int) x7) ∧ orI x6 (shlI (1 : Int) x7) < (↑x5'.length : Int)) <|
      ask ((0 : Int) ≤ x6 ∧ x6 < (↑x5'.length : Int)) <|
      ask (InI (nth x5' (orI x6 (shlI (1 : Int) x7)).toNat + nth x5' x6.toNat)) <|
      ask ((0 : Int) ≤ orI x6 (shlI (1 : Int) x7) ∧ orI x6 (shlI (1 : Int) x7) < (↑x5'.length : Int)) <|
      ask (InI (x7 + (1 : Int))) <|
      some (.inl (x7 + (1 : Int), x5'.set (orI x6 (shlI (1 : Int) x7)).toNat (nth x5' (orI x6 (shlI (1 : Int) x7)).toNat + nth x5' x6.toNat)))
     else
      ask (InI (x7 + (1 : Int))) <|
      some (.inl (x7 + (1 : Int), x5')))
   | (.inr _) => (some (.inr x5'))
def S_spec_CountExtensions_l2 (p0 : SPoset) (x6 : Int) : (Int × (List Int)) → St := fun s => [(7, A.val (vint s.1)), (6, A.val (vint (x6))), (5, A.val ((slr true 1 vint) s.2)), (4, A.val (vint ((↑p0.Below.length : Int)))), (1, A.val ((rP true (rS_Poset false)) (p0)))]
def T_spec_CountExtensions_l2 (p0 : SPoset) (x6 : Int) : (List Int) → Tgt
  | s => ((Ex.exit 2), [6, 5, 4, 1], [(6, A.val (vint (x6))), (5, A.val ((slr true 1 vint) s)), (4, A.val (vint ((↑p0.Below.length : Int)))), (1, A.val ((rP true (rS_Poset false)) (p0)))])
theorem b_spec_CountExtensions_l2 {p0 : SPoset} {x6 : Int} (s : (Int × (List Int))) (o : (Int × (List Int)) ⊕ (List Int)) (h : F_spec_CountExtensions_l2 p0 x6 s = some o) : vc Try.prog c_spec_CountExtensions_l2 (outQ [7, 6, 5, 4, 1] (S_spec_CountExtensions_l2 p0 x6) (T_spec_CountExtensions_l2 p0 x6) o) (S_spec_CountExtensions_l2 p0 x6 s) := by
  obtain ⟨x7, x5'⟩ := s
  unfold F_spec_CountExtensions_l2 at h
  try dsimp only at h
  conv => whnf
  refine CutQ.o (fun t : (Unit ⊕ Unit) => match t with | (.inl s) => (Ex.normal, [7, 6, 5, 4, 1], [(7, A.val (vint (x7))), (6, A.val (vint (x6))), (5, A.val ((slr true 1 vint) (x5'))), (4, A.val (vint ((↑p0.Below.length : Int)))), (1, A.val ((rP true (rS_Poset false)) (p0)))]) | (.inr s) => ((Ex.exit 2), [6, 5, 4, 1], [(6, A.val (vint (x6))), (5, A.val ((slr true 1 vint) (x5'))), (4, A.val (vint ((↑p0.Below.length : Int)))), (1, A.val ((rP true (rS_Poset false)) (p0)))])) h ?_ ?_
  · intro t h
    conv => whnf
    refine Br.od h (fun p8 h => ?_) (fun p8 h => ?_)
    · conv => whnf
      refine Br.yes ?_
      conv => whnf
      refine Br.yes ?_
      conv => whnf
      refine Len.map ?_
      conv => whnf
      refine Ask.o h fun p9 h => ?_
      conv => whnf
      refine Br.yes ?_
      conv => whnf
      refine Cells.one (fun _ => ⟨rfl, rfl⟩) (by first | omega | (simp only [mulN] at *; omega) | (simp [mulN] at *; omega)) ?_
      conv => whnf
      refine Br.yes ?_
      conv => whnf
      refine Br.yes ?_
      conv => whnf
      refine Br.od h (fun p10 h => ?_) (fun p10 h => ?_)
      · conv => whnf
        cases h; exact ⟨rfl, rfl⟩
      · conv => whnf
        cases h; exact ⟨rfl, rfl⟩
    · conv => whnf
      refine Br.no ?_
      conv => whnf
      refine Br.no ?_
      conv => whnf
      refine Br.no ?_
      conv => whnf
      refine Br.no ?_
      conv => whnf
      refine Br.no ?_
      conv => whnf
      refine Br.no ?_
      conv => whnf
      cases h; exact ⟨rfl, rfl⟩
  · rintro (⟨⟩ | ⟨⟩) h
    · try dsimp only at h
      conv => whnf
      refine Ask.o h fun p12 h => ?_
      conv => whnf
      refine LoopQ.o [9, 8, 7, 6, 5, 4, 1] (S_spec_CountExtensions_l1 p0 x6 x7 x5') (T_spec_CountExtensions_l1 p0 x6 x7 x5') h (fun s o h => b_spec_CountExtensions_l1 s o h) (by first | rfl | simp [restrict, look, mulN_one, V.fz, fzL, V.up, upL, fzL_map, fz_slr, fz_at, slr]) (fun _ => rfl) ?_
      rintro q25_8 h
      try dsimp only at h
      conv => whnf
      refine Br.ob h (fun p26 h => ?_) (fun p26 h => ?_)
      · conv => whnf
        refine Ask.o h fun p27 h => ?_
        conv => whnf
        refine Ask.o h fun p28 h => ?_
        conv => whnf
        refine Len.map ?_
        conv => whnf
        refine Ask.o h fun p29 h => ?_
        conv => whnf
        refine Cells.one (fun _ => ⟨rfl, rfl⟩) (by first | omega | (simp only [mulN] at *; omega) | (simp [mulN] at *; omega)) ?_
        conv => whnf
        refine Len.map ?_
        conv => whnf
        refine Ask.o h fun p30 h => ?_
        conv => whnf
        refine Cells.one (fun _ => ⟨rfl, rfl⟩) (by first | omega | (simp only [mulN] at *; omega) | (simp [mulN] at *; omega)) ?_
        conv => whnf
        refine Ask.o h fun p31 h => ?_
        conv => whnf
        refine Len.map ?_
        conv => whnf
        refine Ask.o h fun p32 h => ?_
        conv => whnf
        refine SetKids.one (fun _ => ⟨rfl, rfl⟩) (nth x5' (orI x6 (shlI (1 : Int) x7)).toNat + nth x5' x6.toNat) (by first | rfl | simp only [mulN_one, V.fz, fzL, V.up, upL, fzL_map, fz_slr, fz_at, slr, List.cons_append, List.nil_append] | simp [mulN_one, V.fz, fzL, V.up, upL, fzL_map, fz_slr, fz_at, slr]) (by first | omega | (simp only [mulN] at *; omega) | (simp [mulN] at *; omega)) ?_
        conv => whnf
        refine Ask.o h fun p33 h => ?_
        conv => whnf
        cases h; exact ⟨rfl, rfl⟩
      · conv => whnf
        refine Ask.o h fun p34 h => ?_
        conv => whnf
        cases h; exact ⟨rfl, rfl⟩
    · try dsimp only at h
      conv => whnf
      cases h; exact ⟨rfl, rfl⟩

noncomputable def F_spec_CountExtensions_l3 (p0 : SPoset) : (Int × (List Int)) → Option ((Int × (List Int)) ⊕ (List Int)) := fun (x6, x5) =>
   ask ((0 : Int) ≤ (↑p0.Below.length : Int)) <|
   if x6 < shlI (1 : Int) (↑p0.Below.length : Int) then
    (loopO (F_spec_CountExtensions_l2 p0 x6) ((0 : Int), x5)).bind fun q35_5 =>
    ask (InI (x6 + (1 : Int))) <|
    some (.inl (x6 + (1 : Int), q35_5))
   else
    some (.inr x5)
def S_spec_CountExtensions_l3 (p0 : SPoset) : (Int × (List Int)) → St := fun s => [(6, A.val (vint s.1)), (5, A.val ((slr true 1 vint) s.2)), (4, A.val (vint ((↑p0.Below.length : Int)))), (1, A.val ((rP true (rS_Poset false)) (p0)))]
def T_spec_CountExtensions_l3 (p0 : SPoset) : (List Int) → Tgt
  | s => ((Ex.exit 0), [5, 4], [(5, A.val ((slr true 1 vint) s)), (4, A.val (vint ((↑p0.Below.length : Int))))])
theorem b_spec_CountExtensions_l3 {p0 : SPoset} (s : (Int × (List Int))) (o : (Int × (List Int)) ⊕ (List Int)) (h : F_spec_CountExtensions_l3 p0 s = some o) : vc Try.prog c_spec_CountExtensions_l3 (outQ [6, 5, 4, 1] (S_spec_CountExtensions_l3 p0) (T_spec_CountExtensions_l3 p0) o) (S_spec_CountExtensions_l3 p0 s) := by
  obtain ⟨x6, x5⟩ := s
  unfold F_spec_CountExtensions_l3 at h
  try dsimp only at h
  conv => whnf
  refine Ask.o h fun p6 h => ?_
  conv => whnf
  refine Br.od h (fun p7 h => ?_) (fun p7 h => ?_)
  · conv => whnf
    refine LoopQ.o [7, 6, 5, 4, 1] (S_spec_CountExtensions_l2 p0 x6) (T_spec_CountExtensions_l2 p0 x6) h (fun s o h => b_spec_CountExtensions_l2 s o h) (by first | rfl | simp [restrict, look, mulN_one, V.fz, fzL, V.up, upL, fzL_map, fz_slr, fz_at, slr]) (fun _ => rfl) ?_
    rintro q35_5 h
    try dsimp only at h
    conv => whnf
    refine Ask.o h fun p36 h => ?_
    conv => whnf
    cases h; exact ⟨rfl, rfl⟩
  · conv => whnf
    cases h; exact ⟨rfl, rfl⟩

noncomputable def F_spec_CountExtensions (p0 : SPoset) : Option (Int × Bool) :=
  (F_spec_l23Good (p0)).bind fun r1 =>
  if (r1) = true then
   ask ((0 : Int) ≤ (↑p0.Below.length : Int)) <|
   ask ((0 : Int) ≤ shlI (1 : Int) (↑p0.Below.length : Int) ∧ shlI (1 : Int) (↑p0.Below.length : Int) ≤ (↑LIM : Int)) <|
   ask ((0 : Int) ≤ (0 : Int) ∧ (0 : Int) < (↑(shlI (1 : Int) (↑p0.Below.length : Int)).toNat : Int)) <|
   (loopO (F_spec_CountExtensions_l3 p0) ((0 : Int), (List.replicate (shlI (1 : Int) (↑p0.Below.length : Int)).toNat (0 : Int)).set (Int.toNat (0 : Int)) (1 : Int))).bind fun q37_5 =>
   ask ((0 : Int) ≤ (↑p0.Below.length : Int)) <|
   ask (InI (shlI (1 : Int) (↑p0.Below.length : Int) - (1 : Int))) <|
   ask ((0 : Int) ≤ shlI (1 : Int) (↑p0.Below.length : Int) - (1 : Int) ∧ shlI (1 : Int) (↑p0.Below.length : Int) - (1 : Int) < (↑q37_5.length : Int)) <|
   some (nth q37_5 (shlI (1 : Int) (↑p0.Below.length : Int) - (1 : Int)).toNat, true)
  else
   some ((0 : Int), false)
theorem t_spec_CountExtensions {p0 : SPoset} {v : (Int × Bool)} (h : F_spec_CountExtensions p0 = some v) : Ret Try.prog f_spec_CountExtensions [(rS_Poset false) p0] ((fun r => V.tup [vint r.1, V.bool r.2]) v) := by
  refine ret_vc k_spec_CountExtensions (Nat.le_of_ble_eq_true rfl) ?_
  unfold F_spec_CountExtensions at h
  conv => whnf
  refine Cells.lit rfl rfl ?_
  conv => whnf
  refine CallQ.o V.bool (by first | rfl | simp only [mulN_one, V.fz, fzL, V.up, upL, fzL_map, fz_slr, fz_at, slr, List.cons_append, List.nil_append] | simp [mulN_one, V.fz, fzL, V.up, upL, fzL_map, fz_slr, fz_at, slr]) h (fun r h => t_spec_l23Good h) (fun r1 h => ?_)
  conv => whnf
  refine Br.flip ?_
  conv => whnf
  refine Br.ob h (fun p2 h => ?_) (fun p2 h => ?_)
  · conv => whnf
    refine Cells.lit rfl rfl ?_
    conv => whnf
    refine Len.map ?_
    conv => whnf
    refine Ask.o h fun p3 h => ?_
    conv => whnf
    refine Ask.o h fun p4 h => ?_
    conv => whnf
    refine MkQ.o vint ((0 : Int)) rfl ?_
    conv => whnf
    refine Len.mrep ?_
    conv => whnf
    refine Ask.o h fun p5 h => ?_
    conv => whnf
    refine SetKids.one (fun _ => ⟨rfl, rfl⟩) ((1 : Int)) (by first | rfl | simp only [mulN_one, V.fz, fzL, V.up, upL, fzL_map, fz_slr, fz_at, slr, List.cons_append, List.nil_append] | simp [mulN_one, V.fz, fzL, V.up, upL, fzL_map, fz_slr, fz_at, slr]) (by first | omega | (simp only [mulN] at *; omega) | (simp [mulN] at *; omega)) ?_
    conv => whnf
    refine LoopQ.o [6, 5, 4, 1] (S_spec_CountExtensions_l3 p0) (T_spec_CountExtensions_l3 p0) h (fun s o h => b_spec_CountExtensions_l3 s o h) (by first | rfl | simp [restrict, look, mulN_one, V.fz, fzL, V.up, upL, fzL_map, fz_slr, fz_at, slr]) (fun _ => rfl) ?_
    rintro q37_5 h
    try dsimp only at h
    conv => whnf
    refine Ask.o h fun p38 h => ?_
    conv => whnf
    refine Ask.o h fun p39 h => ?_
    conv => whnf
    refine Len.map ?_
    conv => whnf
    refine Ask.o h fun p40 h => ?_
    conv => whnf
    refine Cells.one (fun _ => ⟨rfl, rfl⟩) (by first | omega | (simp only [mulN] at *; omega) | (simp [mulN] at *; omega)) ?_
    conv => whnf
    cases h; exact (by first | rfl | simp [resV, mulN_one, V.fz, fzL, V.up, upL, fzL_map, fz_slr, fz_at, slr])
  · conv => whnf
    cases h; exact (by first | rfl | simp [resV, mulN_one, V.fz, fzL, V.up, upL, fzL_map, fz_slr, fz_at, slr])

noncomputable def F_spec_MinimalElements (p0 : SPoset) : Option ((List Int) × Bool) :=
  (F_spec_l23Good (p0)).bind fun r1 =>
  if (r1) = true then
   (F_spec_l23Least (p0)).bind fun r3 =>
   some (r3, true)
  else
   some (nilL Int, false)
theorem t_spec_MinimalElements {p0 : SPoset} {v : ((List Int) × Bool)} (h : F_spec_MinimalElements p0 = some v) : Ret Try.prog f_spec_MinimalElements [(rS_Poset false) p0] ((fun r => V.tup [(slr true 1 vint) r.1, V.bool r.2]) v) := by
  refine ret_vc k_spec_MinimalElements (Nat.le_of_ble_eq_true rfl) ?_
  unfold F_spec_MinimalElements at h
  conv => whnf
  refine Cells.lit rfl rfl ?_
  conv => whnf
  refine CallQ.o V.bool (by first | rfl | simp only [mulN_one, V.fz, fzL, V.up, upL, fzL_map, fz_slr, fz_at, slr, List.cons_append, List.nil_append] | simp [mulN_one, V.fz, fzL, V.up, upL, fzL_map, fz_slr, fz_at, slr]) h (fun r h => t_spec_l23Good h) (fun r1 h => ?_)
  conv => whnf
  refine Br.flip ?_
  conv => whnf
  refine Br.ob h (fun p2 h => ?_) (fun p2 h => ?_)
  · conv => whnf
    refine Cells.lit rfl rfl ?_
    conv => whnf
    refine CallQ.o (slr true 1 vint) (by first | rfl | simp only [mulN_one, V.fz, fzL, V.up, upL, fzL_map, fz_slr, fz_at, slr, List.cons_append, List.nil_append] | simp [mulN_one, V.fz, fzL, V.up, upL, fzL_map, fz_slr, fz_at, slr]) h (fun r h => t_spec_l23Least h) (fun r3 h => ?_)
    conv => whnf
    cases h; exact (by first | rfl | simp [resV, mulN_one, V.fz, fzL, V.up, upL, fzL_map, fz_slr, fz_at, slr])
  · conv => whnf
    refine BslQ.o vint (nilL Int) (fun _ => ⟨rfl, rfl⟩) (by first | rfl | simp only [mulN_one, V.fz, fzL, V.up, upL, fzL_map, fz_slr, fz_at, slr, List.cons_append, List.nil_append] | simp [mulN_one, V.fz, fzL, V.up, upL, fzL_map, fz_slr, fz_at, slr]) ?_
    conv => whnf
    cases h; exact (by first | rfl | simp [resV, mulN_one, V.fz, fzL, V.up, upL, fzL_map, fz_slr, fz_at, slr])

noncomputable def F_impl_MinimalElements (p0 : SPoset) : Option ((List Int) × Bool) :=
  (F_impl_orderOf (p0)).bind fun r1 =>
  if (r1.snd) = true then
   (F_impl_order_those (r1.fst) (fun w_0 => F_impl_MinimalElements_1 w_0 (r1.fst))).bind fun r3 =>
   some (r3, true)
  else
   some (nilL Int, false)
theorem t_impl_MinimalElements {p0 : SPoset} {v : ((List Int) × Bool)} (h : F_impl_MinimalElements p0 = some v) : Ret Try.prog f_impl_MinimalElements [(rS_Poset false) p0] ((fun r => V.tup [(slr true 1 vint) r.1, V.bool r.2]) v) := by
  refine ret_vc k_impl_MinimalElements (Nat.le_of_ble_eq_true rfl) ?_
  unfold F_impl_MinimalElements at h
  conv => whnf
  refine Cells.lit rfl rfl ?_
  conv => whnf
  refine CallQ.o (fun r => V.tup [(slr true 1 (slr true 1 V.bool)) r.1, V.bool r.2]) (by first | rfl | simp only [mulN_one, V.fz, fzL, V.up, upL, fzL_map, fz_slr, fz_at, slr, List.cons_append, List.nil_append] | simp [mulN_one, V.fz, fzL, V.up, upL, fzL_map, fz_slr, fz_at, slr]) h (fun r h => t_impl_orderOf h) (fun r1 h => ?_)
  conv => whnf
  refine SetKids.lit rfl ?_
  conv => whnf
  refine Br.flip ?_
  conv => whnf
  refine Br.ob h (fun p2 h => ?_) (fun p2 h => ?_)
  · conv => whnf
    refine Cells.lit rfl rfl ?_
    conv => whnf
    refine Kid.lit rfl rfl ?_
    conv => whnf
    refine CallQ.rd (slr true 1 vint) (by first | rfl | simp only [V.fz, fzL_map, slr] | simp [mulN_one, V.fz, fzL, V.up, upL, fzL_map, fz_slr, fz_at, slr]) (fun _ => by simp [V.noFz, noFzL_map]) h (fun r h => t_impl_order_those (f_so0 := f_impl_MinimalElements_1) (c_so0 := [(rP false (slr false 1 (slr false 1 V.bool))) (r1.fst)]) (fun w_0 v h => Ret.cast (by first | rfl | simp only [mulN_one, V.fz, fzL, V.up, upL, fzL_map, fz_slr, fz_at, slr, List.cons_append, List.nil_append] | simp [mulN_one, V.fz, fzL, V.up, upL, fzL_map, fz_slr, fz_at, slr]) (t_impl_MinimalElements_1 h)) h) (fun r3 h => ?_)
    conv => whnf
    cases h; exact (by first | rfl | simp [resV, mulN_one, V.fz, fzL, V.up, upL, fzL_map, fz_slr, fz_at, slr])
  · conv => whnf
    refine BslQ.o vint (nilL Int) (fun _ => ⟨rfl, rfl⟩) (by first | rfl | simp only [mulN_one, V.fz, fzL, V.up, upL, fzL_map, fz_slr, fz_at, slr, List.cons_append, List.nil_append] | simp [mulN_one, V.fz, fzL, V.up, upL, fzL_map, fz_slr, fz_at, slr]) ?_
    conv => whnf
    cases h; exact (by first | rfl | simp [resV, mulN_one, V.fz, fzL, V.up, upL, fzL_map, fz_slr, fz_at, slr])

noncomputable def F_spec_MaximalElements (p0 : SPoset) : Option ((List Int) × Bool) :=
  (F_spec_l23Good (p0)).bind fun r1 =>
  if (r1) = true then
   (F_spec_l23Dual (p0)).bind fun r3 =>
   (F_spec_l23Least (r3)).bind fun r4 =>
   some (r4, true)
  else
   some (nilL Int, false)
theorem t_spec_MaximalElements {p0 : SPoset} {v : ((List Int) × Bool)} (h : F_spec_MaximalElements p0 = some v) : Ret Try.prog f_spec_MaximalElements [(rS_Poset false) p0] ((fun r => V.tup [(slr true 1 vint) r.1, V.bool r.2]) v) := by
  refine ret_vc k_spec_MaximalElements (Nat.le_of_ble_eq_true rfl) ?_
  unfold F_spec_MaximalElements at h
  conv => whnf
  refine Cells.lit rfl rfl ?_
  conv => whnf
  refine CallQ.o V.bool (by first | rfl | simp only [mulN_one, V.fz, fzL, V.up, upL, fzL_map, fz_slr, fz_at, slr, List.cons_append, List.nil_append] | simp [mulN_one, V.fz, fzL, V.up, upL, fzL_map, fz_slr, fz_at, slr]) h (fun r h => t_spec_l23Good h) (fun r1 h => ?_)
  conv => whnf
  refine Br.flip ?_
  conv => whnf
  refine Br.ob h (fun p2 h => ?_) (fun p2 h => ?_)
  · conv => whnf
    refine Cells.lit rfl rfl ?_
    conv => whnf
    refine CallQ.o (rS_Poset true) (by first | rfl | simp only [mulN_one, V.fz, fzL, V.up, upL, fzL_map, fz_slr, fz_at, slr, List.cons_append, List.nil_append] | simp [mulN_one, V.fz, fzL, V.up, upL, fzL_map, fz_slr, fz_at, slr]) h (fun r h => t_spec_l23Dual h) (fun r3 h => ?_)
    conv => whnf
    refine CallQ.rd (slr true 1 vint) (by first | rfl | simp only [V.fz, fzL, fzL_map] | simp [mulN_one, V.fz, fzL, V.up, upL, fzL_map, fz_slr, fz_at, slr]) (fun _ => by simp [V.noFz, noFzL_map]) h (fun r h => t_spec_l23Least h) (fun r4 h => ?_)
    conv => whnf
    cases h; exact (by first | rfl | simp [resV, mulN_one, V.fz, fzL, V.up, upL, fzL_map, fz_slr, fz_at, slr])
  · conv => whnf
    refine BslQ.o vint (nilL Int) (fun _ => ⟨rfl, rfl⟩) (by first | rfl | simp only [mulN_one, V.fz, fzL, V.up, upL, fzL_map, fz_slr, fz_at, slr, List.cons_append, List.nil_append] | simp [mulN_one, V.fz, fzL, V.up, upL, fzL_map, fz_slr, fz_at, slr]) ?_
    conv => whnf
    cases h; exact (by first | rfl | simp [resV, mulN_one, V.fz, fzL, V.up, upL, fzL_map, fz_slr, fz_at, slr])

noncomputable def F_impl_MaximalElements (p0 : SPoset) : Option ((List Int) × Bool) :=
  (F_impl_orderOf (p0)).bind fun r1 =>
  if (r1.snd) = true then
   (F_impl_order_those (r1.fst) (fun w_0 => F_impl_MaximalElements_1 w_0 (r1.fst))).bind fun r3 =>
   some (r3, true)
  else
   some (nilL Int, false)
theorem t_impl_MaximalElements {p0 : SPoset} {v : ((List Int) × Bool)} (h : F_impl_MaximalElements p0 = some v) : Ret Try.prog f_impl_MaximalElements [(rS_Poset false) p0] ((fun r => V.tup [(slr true 1 vint) r.1, V.bool r.2]) v) := by
  refine ret_vc k_impl_MaximalElements (Nat.le_of_ble_eq_true rfl) ?_
  unfold F_impl_MaximalElements at h
  conv => whnf
  refine Cells.lit rfl rfl ?_
  conv => whnf
  refine CallQ.o (fun r => V.tup [(slr true 1 (slr true 1 V.bool)) r.1, V.bool r.2]) (by first | rfl | simp only [mulN_one, V.fz, fzL, V.up, upL, fzL_map, fz_slr, fz_at, slr, List.cons_append, List.nil_append] | simp [mulN_one, V.fz, fzL, V.up, upL, fzL_map, fz_slr, fz_at, slr]) h (fun r h => t_impl_orderOf h) (fun r1 h => ?_)
  conv => whnf
  refine SetKids.lit rfl ?_
  conv => whnf
  refine Br.flip ?_
  conv => whnf
  refine Br.ob h (fun p2 h => ?_) (fun p2 h => ?_)
  · conv => whnf
    refine Cells.lit rfl rfl ?_
    conv => whnf
    refine Kid.lit rfl rfl ?_
    conv => whnf
    refine CallQ.rd (slr true 1 vint) (by first | rfl | simp only [V.fz, fzL_map, slr] | simp [mulN_one, V.fz, fzL, V.up, upL, fzL_map, fz_slr, fz_at, slr]) (fun _ => by simp [V.noFz, noFzL_map]) h (fun r h => t_impl_order_those (f_so0 := f_impl_MaximalElements_1) (c_so0 := [(rP false (slr false 1 (slr false 1 V.bool))) (r1.fst)]) (fun w_0 v h => Ret.cast (by first | rfl | simp only [mulN_one, V.fz, fzL, V.up, upL, fzL_map, fz_slr, fz_at, slr, List.cons_append, List.nil_append] | simp [mulN_one, V.fz, fzL, V.up, upL, fzL_map, fz_slr, fz_at, slr]) (t_impl_MaximalElements_1 h)) h) (fun r3 h => ?_)
    conv => whnf
    cases h; exact (by first | rfl | simp [resV, mulN_one, V.fz, fzL, V.up, upL, fzL_map, fz_slr, fz_at, slr])
  · conv => whnf
    refine BslQ.o vint (nilL Int) (fun _ => ⟨rfl, rfl⟩) (by first | rfl | simp only [mulN_one, V.fz, fzL, V.up, upL, fzL_map, fz_slr, fz_at, slr, List.cons_append, List.nil_append] | simp [mulN_one, V.fz, fzL, V.up, upL, fzL_map, fz_slr, fz_at, slr]) ?_
    conv => whnf
    cases h; exact (by first | rfl | simp [resV, mulN_one, V.fz, fzL, V.up, upL, fzL_map, fz_slr, fz_at, slr])

end Go.Proofs.Ythcnmahjhahafaa.Ax
