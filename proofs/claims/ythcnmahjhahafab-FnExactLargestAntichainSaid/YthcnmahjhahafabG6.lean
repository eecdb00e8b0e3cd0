/-
  What the functions compute, as functions on plain data, and that the program does compute it; written by program.
-/
import Derived.Test.YthcnmahjhahafabCode
import Derived.Test.YthcnmahjhahafabG1
import Derived.Test.YthcnmahjhahafabG2
import Derived.Test.YthcnmahjhahafabG3
import Derived.Test.YthcnmahjhahafabG4
import Derived.Test.YthcnmahjhahafabG5
namespace Go.Proofs.Ythcnmahjhahafab.Ax
open Go
set_option maxRecDepth 100000
set_option maxHeartbeats 4000000

noncomputable def F_spec_l23Dual_l1 (p0 : SPoset) (x4 : Int) (_x3 : SPoset) : (Int × (List Int)) → Option ((Int × (List Int)) ⊕ (List Int)) := fun (x6, x5) =>
   if x6 < (↑p0.Below.length : Int) then
    (F_spec_l23Leq (p0) (x4) (x6)).bind fun r3 =>
    if (r3) = true then
     ask ((x5).length + ([x6]).length ≤ LIM) <|
     ask (InI (x6 + (1 : Int))) <|
     some (.inl (x6 + (1 : Int), x5 ++ [x6]))
    else
     ask (InI (x6 + (1 : Int))) <|
     some (.inl (x6 + (1 : Int), x5))
   else
    some (.inr x5)
def S_spec_l23Dual_l1 (p0 : SPoset) (x4 : Int) (x3 : SPoset) : (Int × (List Int)) → St := fun s => [(6, A.val (vint s.1)), (5, A.val ((slr true 1 vint) s.2)), (4, A.val (vint (x4))), (3, A.val ((rP true (rS_Poset true)) (x3))), (2, A.val ((rP true (rS_Poset true)) ({ Below := nilL (List Int) }))), (1, A.val ((rP true (rS_Poset false)) (p0)))]
def T_spec_l23Dual_l1 (p0 : SPoset) (x4 : Int) (x3 : SPoset) : (List Int) → Tgt
  | s => ((Ex.exit 2), [5, 4, 3, 2, 1], [(5, A.val ((slr true 1 vint) s)), (4, A.val (vint (x4))), (3, A.val ((rP true (rS_Poset true)) (x3))), (2, A.val ((rP true (rS_Poset true)) ({ Below := nilL (List Int) }))), (1, A.val ((rP true (rS_Poset false)) (p0)))])
theorem b_spec_l23Dual_l1 {p0 : SPoset} {x4 : Int} {x3 : SPoset} (s : (Int × (List Int))) (o : (Int × (List Int)) ⊕ (List Int)) (h : F_spec_l23Dual_l1 p0 x4 x3 s = some o) : vc Try.prog c_spec_l23Dual_l1 (outQ [6, 5, 4, 3, 2, 1] (S_spec_l23Dual_l1 p0 x4 x3) (T_spec_l23Dual_l1 p0 x4 x3) o) (S_spec_l23Dual_l1 p0 x4 x3 s) := by
  obtain ⟨x6, x5⟩ := s
  unfold F_spec_l23Dual_l1 at h
  try dsimp only at h
  conv => whnf
  refine Cells.lit rfl rfl ?_
  conv => whnf
  refine Len.map ?_
  conv => whnf
  refine Br.od h (fun p2 h => ?_) (fun p2 h => ?_)
  · conv => whnf
    refine Cells.lit rfl rfl ?_
    conv => whnf
    refine CallQ.o V.bool (by first | rfl | simp only [mulN_one, V.fz, fzL, V.up, upL, fzL_map, fz_slr, fz_at, slr, List.cons_append, List.nil_append] | simp [mulN_one, V.fz, fzL, V.up, upL, fzL_map, fz_slr, fz_at, slr]) h (fun r h => t_spec_l23Leq h) (fun r3 h => ?_)
    conv => whnf
    refine Br.ob h (fun p4 h => ?_) (fun p4 h => ?_)
    · conv => whnf
      refine BslQ.o vint [x6] (by exact fun _ => ⟨rfl, rfl⟩) (by first | rfl | simp only [mulN_one, V.fz, fzL, V.up, upL, fzL_map, fz_slr, fz_at, slr, List.cons_append, List.nil_append] | simp [mulN_one, V.fz, fzL, V.up, upL, fzL_map, fz_slr, fz_at, slr]) ?_
      conv => whnf
      refine NoOwn.o (fun _ => rfl) ?_
      conv => whnf
      refine AppQ.o vint (by exact fun _ => ⟨rfl, rfl⟩) (x5) ([x6]) (by first | rfl | simp only [mulN_one, V.fz, fzL, V.up, upL, fzL_map, fz_slr, fz_at, slr, List.cons_append, List.nil_append] | simp [mulN_one, V.fz, fzL, V.up, upL, fzL_map, fz_slr, fz_at, slr]) (by first | rfl | simp only [mulN_one, V.fz, fzL, V.up, upL, fzL_map, fz_slr, fz_at, slr, List.cons_append, List.nil_append] | simp [mulN_one, V.fz, fzL, V.up, upL, fzL_map, fz_slr, fz_at, slr]) h fun h => ?_
      conv => whnf
      refine Ask.o h fun p5 h => ?_
      conv => whnf
      cases h; exact ⟨rfl, rfl⟩
    · conv => whnf
      refine Ask.o h fun p6 h => ?_
      conv => whnf
      cases h; exact ⟨rfl, rfl⟩
  · conv => whnf
    cases h; exact ⟨rfl, rfl⟩

noncomputable def F_spec_l23Dual_l2 (p0 : SPoset) : (Int × SPoset) → Option ((Int × SPoset) ⊕ SPoset) := fun (x4, x3) =>
   if x4 < (↑p0.Below.length : Int) then
    (loopO (F_spec_l23Dual_l1 p0 x4 x3) ((0 : Int), nilL Int)).bind fun q7_5 =>
    ask ((x3.Below).length + ([q7_5]).length ≤ LIM) <|
    ask (InI (x4 + (1 : Int))) <|
    some (.inl (x4 + (1 : Int), { Below := x3.Below ++ [q7_5] }))
   else
    some (.inr x3)
def S_spec_l23Dual_l2 (p0 : SPoset) : (Int × SPoset) → St := fun s => [(4, A.val (vint s.1)), (3, A.val ((rP true (rS_Poset true)) s.2)), (2, A.val ((rP true (rS_Poset true)) ({ Below := nilL (List Int) }))), (1, A.val ((rP true (rS_Poset false)) (p0)))]
def T_spec_l23Dual_l2 (_p0 : SPoset) : SPoset → Tgt
  | s => ((Ex.exit 0), [3, 2], [(3, A.val ((rP true (rS_Poset true)) s)), (2, A.val ((rP true (rS_Poset true)) ({ Below := nilL (List Int) })))])
theorem b_spec_l23Dual_l2 {p0 : SPoset} (s : (Int × SPoset)) (o : (Int × SPoset) ⊕ SPoset) (h : F_spec_l23Dual_l2 p0 s = some o) : vc Try.prog c_spec_l23Dual_l2 (outQ [4, 3, 2, 1] (S_spec_l23Dual_l2 p0) (T_spec_l23Dual_l2 p0) o) (S_spec_l23Dual_l2 p0 s) := by
  obtain ⟨x4, x3⟩ := s
  unfold F_spec_l23Dual_l2 at h
  try dsimp only at h
  conv => whnf
  refine Cells.lit rfl rfl ?_
  conv => whnf
  refine Len.map ?_
  conv => whnf
  refine Br.od h (fun p1 h => ?_) (fun p1 h => ?_)
  · conv => whnf
    refine BslQ.o vint (nilL Int) (by exact fun _ => ⟨rfl, rfl⟩) (by first | rfl | simp only [mulN_one, V.fz, fzL, V.up, upL, fzL_map, fz_slr, fz_at, slr, List.cons_append, List.nil_append] | simp [mulN_one, V.fz, fzL, V.up, upL, fzL_map, fz_slr, fz_at, slr]) ?_
    conv => whnf
    refine LoopQ.o [6, 5, 4, 3, 2, 1] (S_spec_l23Dual_l1 p0 x4 x3) (T_spec_l23Dual_l1 p0 x4 x3) h (fun s o h => b_spec_l23Dual_l1 s o h) (by first | rfl | simp [restrict, look, mulN_one, V.fz, fzL, V.up, upL, fzL_map, fz_slr, fz_at, slr]) (fun _ => rfl) ?_
    rintro q7_5 h
    try dsimp only at h
    conv => whnf
    refine Cells.lit rfl rfl ?_
    conv => whnf
    refine BslQ.o (slr true 1 vint) [q7_5] (by exact fun _ => ⟨rfl, rfl⟩) (by first | rfl | simp only [mulN_one, V.fz, fzL, V.up, upL, fzL_map, fz_slr, fz_at, slr, List.cons_append, List.nil_append] | simp [mulN_one, V.fz, fzL, V.up, upL, fzL_map, fz_slr, fz_at, slr]) ?_
    conv => whnf
    refine NoOwn.own rfl ?_
    conv => whnf
    refine AppQ.o (slr true 1 vint) (by exact fun _ => ⟨rfl, rfl⟩) (x3.Below) ([q7_5]) (by first | rfl | simp only [mulN_one, V.fz, fzL, V.up, upL, fzL_map, fz_slr, fz_at, slr, List.cons_append, List.nil_append] | simp [mulN_one, V.fz, fzL, V.up, upL, fzL_map, fz_slr, fz_at, slr]) (by first | rfl | simp only [mulN_one, V.fz, fzL, V.up, upL, fzL_map, fz_slr, fz_at, slr, List.cons_append, List.nil_append] | simp [mulN_one, V.fz, fzL, V.up, upL, fzL_map, fz_slr, fz_at, slr]) h fun h => ?_
    conv => whnf
    refine SetKids.lit rfl ?_
    conv => whnf
    refine Ask.o h fun p8 h => ?_
    conv => whnf
    cases h; exact ⟨rfl, rfl⟩
  · conv => whnf
    cases h; exact ⟨rfl, rfl⟩

noncomputable def F_spec_l23Dual (p0 : SPoset) : Option SPoset :=
  (loopO (F_spec_l23Dual_l2 p0) ((0 : Int), { Below := nilL (List Int) })).bind fun q9_3 =>
  some q9_3
theorem t_spec_l23Dual {p0 : SPoset} {v : SPoset} (h : F_spec_l23Dual p0 = some v) : Ret Try.prog f_spec_l23Dual [(rS_Poset false) p0] ((rS_Poset true) v) := by
  refine ret_vc k_spec_l23Dual (Nat.le_of_ble_eq_true rfl) ?_
  unfold F_spec_l23Dual at h
  conv => whnf
  refine BslQ.o (slr true 1 vint) (nilL (List Int)) (by exact fun _ => ⟨rfl, rfl⟩) (by first | rfl | simp only [mulN_one, V.fz, fzL, V.up, upL, fzL_map, fz_slr, fz_at, slr, List.cons_append, List.nil_append] | simp [mulN_one, V.fz, fzL, V.up, upL, fzL_map, fz_slr, fz_at, slr]) ?_
  conv => whnf
  refine SetKids.lit rfl ?_
  conv => whnf
  refine LoopQ.o [4, 3, 2, 1] (S_spec_l23Dual_l2 p0) (T_spec_l23Dual_l2 p0) h (fun s o h => b_spec_l23Dual_l2 s o h) (by first | rfl | simp [restrict, look, mulN_one, V.fz, fzL, V.up, upL, fzL_map, fz_slr, fz_at, slr]) (fun _ => rfl) ?_
  rintro q9_3 h
  try dsimp only at h
  conv => whnf
  refine Cells.lit rfl rfl ?_
  conv => whnf
  refine SetKids.lit rfl ?_
  conv => whnf
  cases h; exact (by first | rfl | simp [resV, mulN_one, V.fz, fzL, V.up, upL, fzL_map, fz_slr, fz_at, slr])

noncomputable def F_spec_l23Less (p0 : SPoset) (x0 : Int) (y0 : Int) : Option Bool :=
  if x0 ≠ y0 then
   (F_spec_l23Leq (p0) (x0) (y0)).bind fun r2 =>
   some r2
  else
   some false
theorem t_spec_l23Less {p0 : SPoset} {x0 : Int} {y0 : Int} {v : Bool} (h : F_spec_l23Less p0 x0 y0 = some v) : Ret Try.prog f_spec_l23Less [(rS_Poset false) p0, vint x0, vint y0] (V.bool v) := by
  refine ret_vc k_spec_l23Less (Nat.le_of_ble_eq_true rfl) ?_
  unfold F_spec_l23Less at h
  conv => whnf
  refine Br.on h (fun p1 h => ?_) (fun p1 h => ?_)
  · conv => whnf
    refine Cells.lit rfl rfl ?_
    conv => whnf
    refine Br.yes ?_
    conv => whnf
    refine Br.yes ?_
    conv => whnf
    refine Br.yes ?_
    conv => whnf
    refine CallQ.o V.bool (by first | rfl | simp only [mulN_one, V.fz, fzL, V.up, upL, fzL_map, fz_slr, fz_at, slr, List.cons_append, List.nil_append] | simp [mulN_one, V.fz, fzL, V.up, upL, fzL_map, fz_slr, fz_at, slr]) h (fun r h => t_spec_l23Leq h) (fun r2 h => ?_)
    conv => whnf
    refine Br.yes ?_
    conv => whnf
    cases h; exact (by first | rfl | simp [resV, mulN_one, V.fz, fzL, V.up, upL, fzL_map, fz_slr, fz_at, slr])
  · conv => whnf
    refine Br.no ?_
    conv => whnf
    refine Br.no ?_
    conv => whnf
    refine Br.no ?_
    conv => whnf
    refine Br.no ?_
    conv => whnf
    cases h; exact (by first | rfl | simp [resV, mulN_one, V.fz, fzL, V.up, upL, fzL_map, fz_slr, fz_at, slr])

noncomputable def F_spec_l23Anti_l1 (p0 : SPoset) (some0 : List Int) (x5 : Int) : Int → Option (Int ⊕ (Unit ⊕ Unit)) := fun x6 =>
   if x6 < x5 then
    ask ((0 : Int) ≤ x6 ∧ x6 < (↑some0.length : Int)) <|
    ask ((0 : Int) ≤ x5 ∧ x5 < (↑some0.length : Int)) <|
    (F_spec_l23Leq (p0) (nth some0 x6.toNat) (nth some0 x5.toNat)).bind fun r5 =>
    if (r5) = true then
     some (.inr (.inl ()))
    else
     ask ((0 : Int) ≤ x5 ∧ x5 < (↑some0.length : Int)) <|
     ask ((0 : Int) ≤ x6 ∧ x6 < (↑some0.length : Int)) <|
     (F_spec_l23Leq (p0) (nth some0 x5.toNat) (nth some0 x6.toNat)).bind fun r9 =>
     if (r9) = true then
      some (.inr (.inl ()))
     else
      ask (InI (x6 + (1 : Int))) <|
      some (.inl (x6 + (1 : Int)))
   else
    some (.inr (.inr ()))
def S_spec_l23Anti_l1 (p0 : SPoset) (some0 : List Int) (x5 : Int) : Int → St := fun s => [(6, A.val (vint s)), (5, A.val (vint (x5))), (2, A.val ((rP true (rS_Poset false)) (p0))), (1, A.val ((slr false 1 vint) (some0)))]
def T_spec_l23Anti_l1 (p0 : SPoset) (some0 : List Int) (x5 : Int) : (Unit ⊕ Unit) → Tgt
  | (.inl _s) => (Ex.ret, [4], [(4, A.val (V.bool (false)))])
  | (.inr _s) => ((Ex.exit 2), [5, 2, 1], [(5, A.val (vint (x5))), (2, A.val ((rP true (rS_Poset false)) (p0))), (1, A.val ((slr false 1 vint) (some0)))])
theorem b_spec_l23Anti_l1 {p0 : SPoset} {some0 : List Int} {x5 : Int} (x6 : Int) (o : Int ⊕ (Unit ⊕ Unit)) (h : F_spec_l23Anti_l1 p0 some0 x5 x6 = some o) : vc Try.prog c_spec_l23Anti_l1 (outQ [6, 5, 2, 1] (S_spec_l23Anti_l1 p0 some0 x5) (T_spec_l23Anti_l1 p0 some0 x5) o) (S_spec_l23Anti_l1 p0 some0 x5 x6) := by
  unfold F_spec_l23Anti_l1 at h
  try dsimp only at h
  conv => whnf
  refine Br.od h (fun p2 h => ?_) (fun p2 h => ?_)
  · conv => whnf
    refine Cells.lit rfl rfl ?_
    conv => whnf
    refine Len.map ?_
    conv => whnf
    refine Ask.o h fun p3 h => ?_
    conv => whnf
    refine Elem.o (by first | omega | (simp only [mulN] at *; omega) | (simp [mulN] at *; omega)) ?_
    conv => whnf
    refine Len.map ?_
    conv => whnf
    refine Ask.o h fun p4 h => ?_
    conv => whnf
    refine Elem.o (by first | omega | (simp only [mulN] at *; omega) | (simp [mulN] at *; omega)) ?_
    conv => whnf
    refine CallP.o V.bool (by first | rfl | simp only [mulN_one, V.fz, fzL, V.up, upL, fzL_map, fz_slr, fz_at, slr, List.cons_append, List.nil_append] | simp [mulN_one, V.fz, fzL, V.up, upL, fzL_map, fz_slr, fz_at, slr]) h (fun r h => t_spec_l23Leq h) (fun r5 h => ?_)
    conv => whnf
    refine Br.ob h (fun p6 h => ?_) (fun p6 h => ?_)
    · conv => whnf
      refine Br.yes ?_
      conv => whnf
      refine Br.yes ?_
      conv => whnf
      refine Br.yes ?_
      conv => whnf
      refine Br.yes ?_
      conv => whnf
      refine Br.yes ?_
      conv => whnf
      refine Br.yes ?_
      conv => whnf
      refine Br.yes ?_
      conv => whnf
      refine Br.yes ?_
      conv => whnf
      refine Br.yes ?_
      conv => whnf
      refine Br.yes ?_
      conv => whnf
      refine Br.yes ?_
      conv => whnf
      cases h; exact ⟨rfl, rfl⟩
    · conv => whnf
      refine Cells.lit rfl rfl ?_
      conv => whnf
      refine Br.no ?_
      conv => whnf
      refine Br.no ?_
      conv => whnf
      refine Br.no ?_
      conv => whnf
      refine Len.map ?_
      conv => whnf
      refine Ask.o h fun p7 h => ?_
      conv => whnf
      refine Elem.o (by first | omega | (simp only [mulN] at *; omega) | (simp [mulN] at *; omega)) ?_
      conv => whnf
      refine Br.no ?_
      conv => whnf
      refine Br.no ?_
      conv => whnf
      refine Br.no ?_
      conv => whnf
      refine Br.no ?_
      conv => whnf
      refine Len.map ?_
      conv => whnf
      refine Ask.o h fun p8 h => ?_
      conv => whnf
      refine Elem.o (by first | omega | (simp only [mulN] at *; omega) | (simp [mulN] at *; omega)) ?_
      conv => whnf
      refine Br.no ?_
      conv => whnf
      refine Br.no ?_
      conv => whnf
      refine CallQ.o V.bool (by first | rfl | simp only [mulN_one, V.fz, fzL, V.up, upL, fzL_map, fz_slr, fz_at, slr, List.cons_append, List.nil_append] | simp [mulN_one, V.fz, fzL, V.up, upL, fzL_map, fz_slr, fz_at, slr]) h (fun r h => t_spec_l23Leq h) (fun r9 h => ?_)
      conv => whnf
      refine Br.no ?_
      conv => whnf
      refine Br.ob h (fun p10 h => ?_) (fun p10 h => ?_)
      · conv => whnf
        cases h; exact ⟨rfl, rfl⟩
      · conv => whnf
        refine Ask.o h fun p11 h => ?_
        conv => whnf
        cases h; exact ⟨rfl, rfl⟩
  · conv => whnf
    cases h; exact ⟨rfl, rfl⟩

noncomputable def F_spec_l23Anti_l2 (p0 : SPoset) (some0 : List Int) : Int → Option (Int ⊕ (Unit ⊕ Unit)) := fun x5 =>
   if x5 < (↑some0.length : Int) then
    (loopO (F_spec_l23Anti_l1 p0 some0 x5) (0 : Int)).bind fun t => match t with
    | (.inl _) => (some (.inr (.inl ())))
    | (.inr _) => (ask (InI (x5 + (1 : Int))) <|
      some (.inl (x5 + (1 : Int))))
   else
    some (.inr (.inr ()))
def S_spec_l23Anti_l2 (p0 : SPoset) (some0 : List Int) : Int → St := fun s => [(5, A.val (vint s)), (2, A.val ((rP true (rS_Poset false)) (p0))), (1, A.val ((slr false 1 vint) (some0)))]
def T_spec_l23Anti_l2 (_p0 : SPoset) (_some0 : List Int) : (Unit ⊕ Unit) → Tgt
  | (.inl _s) => (Ex.ret, [4], [(4, A.val (V.bool (false)))])
  | (.inr _s) => ((Ex.exit 0), [], [])
theorem b_spec_l23Anti_l2 {p0 : SPoset} {some0 : List Int} (x5 : Int) (o : Int ⊕ (Unit ⊕ Unit)) (h : F_spec_l23Anti_l2 p0 some0 x5 = some o) : vc Try.prog c_spec_l23Anti_l2 (outQ [5, 2, 1] (S_spec_l23Anti_l2 p0 some0) (T_spec_l23Anti_l2 p0 some0) o) (S_spec_l23Anti_l2 p0 some0 x5) := by
  unfold F_spec_l23Anti_l2 at h
  try dsimp only at h
  conv => whnf
  refine Len.map ?_
  conv => whnf
  refine Br.od h (fun p1 h => ?_) (fun p1 h => ?_)
  · conv => whnf
    refine LoopQ.o [6, 5, 2, 1] (S_spec_l23Anti_l1 p0 some0 x5) (T_spec_l23Anti_l1 p0 some0 x5) h (fun s o h => b_spec_l23Anti_l1 s o h) (by first | rfl | simp [restrict, look, mulN_one, V.fz, fzL, V.up, upL, fzL_map, fz_slr, fz_at, slr]) (by rintro (_ | _) <;> rfl) ?_
    rintro (⟨⟩ | ⟨⟩) h
    · try dsimp only at h
      conv => whnf
      cases h; exact ⟨rfl, rfl⟩
    · try dsimp only at h
      conv => whnf
      refine Ask.o h fun p13 h => ?_
      conv => whnf
      cases h; exact ⟨rfl, rfl⟩
  · conv => whnf
    cases h; exact ⟨rfl, rfl⟩

noncomputable def F_spec_l23Anti (p0 : SPoset) (some0 : (List Int)) : Option Bool :=
  (loopO (F_spec_l23Anti_l2 p0 some0) (0 : Int)).bind fun t => match t with
  | (.inl _) => (some false)
  | (.inr _) => (some true)
theorem t_spec_l23Anti {p0 : SPoset} {some0 : (List Int)} {v : Bool} (h : F_spec_l23Anti p0 some0 = some v) : Ret Try.prog f_spec_l23Anti [(rS_Poset false) p0, (slr false 1 vint) some0] (V.bool v) := by
  refine ret_vc k_spec_l23Anti (Nat.le_of_ble_eq_true rfl) ?_
  unfold F_spec_l23Anti at h
  conv => whnf
  refine LoopQ.o [5, 2, 1] (S_spec_l23Anti_l2 p0 some0) (T_spec_l23Anti_l2 p0 some0) h (fun s o h => b_spec_l23Anti_l2 s o h) (by first | rfl | simp [restrict, look, mulN_one, V.fz, fzL, V.up, upL, fzL_map, fz_slr, fz_at, slr]) (by rintro (_ | _) <;> rfl) ?_
  rintro (⟨⟩ | ⟨⟩) h
  · try dsimp only at h
    conv => whnf
    cases h; exact (by first | rfl | simp [resV, mulN_one, V.fz, fzL, V.up, upL, fzL_map, fz_slr, fz_at, slr])
  · try dsimp only at h
    conv => whnf
    cases h; exact (by first | rfl | simp [resV, mulN_one, V.fz, fzL, V.up, upL, fzL_map, fz_slr, fz_at, slr])

noncomputable def F_impl_order_upperCovers_1 (y0 : Int) (a1 : (List (List Bool))) (a2 : Int) : Option Bool :=
  (F_impl_order_covers (a1) (a2) (y0)).bind fun r1 =>
  some r1
theorem t_impl_order_upperCovers_1 {y0 : Int} {a1 : (List (List Bool))} {a2 : Int} {v : Bool} (h : F_impl_order_upperCovers_1 y0 a1 a2 = some v) : Ret Try.prog f_impl_order_upperCovers_1 [vint y0, (rP false (slr false 1 (slr false 1 V.bool))) a1, (rP false vint) a2] (V.bool v) := by
  refine ret_vc k_impl_order_upperCovers_1 (Nat.le_of_ble_eq_true rfl) ?_
  unfold F_impl_order_upperCovers_1 at h
  conv => whnf
  refine CallQ.o V.bool (by first | rfl | simp only [mulN_one, V.fz, fzL, V.up, upL, fzL_map, fz_slr, fz_at, slr, List.cons_append, List.nil_append] | simp [mulN_one, V.fz, fzL, V.up, upL, fzL_map, fz_slr, fz_at, slr]) h (fun r h => t_impl_order_covers h) (fun r1 h => ?_)
  conv => whnf
  cases h; exact (by first | rfl | simp [resV, mulN_one, V.fz, fzL, V.up, upL, fzL_map, fz_slr, fz_at, slr])

noncomputable def F_impl_order_lowerCovers_1 (y0 : Int) (a1 : (List (List Bool))) (a2 : Int) : Option Bool :=
  (F_impl_order_covers (a1) (y0) (a2)).bind fun r1 =>
  some r1
theorem t_impl_order_lowerCovers_1 {y0 : Int} {a1 : (List (List Bool))} {a2 : Int} {v : Bool} (h : F_impl_order_lowerCovers_1 y0 a1 a2 = some v) : Ret Try.prog f_impl_order_lowerCovers_1 [vint y0, (rP false (slr false 1 (slr false 1 V.bool))) a1, (rP false vint) a2] (V.bool v) := by
  refine ret_vc k_impl_order_lowerCovers_1 (Nat.le_of_ble_eq_true rfl) ?_
  unfold F_impl_order_lowerCovers_1 at h
  conv => whnf
  refine CallQ.o V.bool (by first | rfl | simp only [mulN_one, V.fz, fzL, V.up, upL, fzL_map, fz_slr, fz_at, slr, List.cons_append, List.nil_append] | simp [mulN_one, V.fz, fzL, V.up, upL, fzL_map, fz_slr, fz_at, slr]) h (fun r h => t_impl_order_covers h) (fun r1 h => ?_)
  conv => whnf
  cases h; exact (by first | rfl | simp [resV, mulN_one, V.fz, fzL, V.up, upL, fzL_map, fz_slr, fz_at, slr])

noncomputable def F_impl_CoverPairs (p0 : SPoset) : Option ((List (Int × Int)) × Bool) :=
  (F_impl_orderOf (p0)).bind fun r1 =>
  if (r1.snd) = true then
   (F_impl_order_coverPairs (r1.fst)).bind fun r3 =>
   some (r3, true)
  else
   some (nilL (Int × Int), false)
theorem t_impl_CoverPairs {p0 : SPoset} {v : ((List (Int × Int)) × Bool)} (h : F_impl_CoverPairs p0 = some v) : Ret Try.prog f_impl_CoverPairs [(rS_Poset false) p0] ((fun r => V.tup [(slr true 2 (rA2 vint)) r.1, V.bool r.2]) v) := by
  refine ret_vc k_impl_CoverPairs (Nat.le_of_ble_eq_true rfl) ?_
  unfold F_impl_CoverPairs at h
  conv => whnf
  refine Cells.lit rfl rfl ?_
  conv => whnf
  refine CallQ.o (fun r => V.tup [(slr true 1 (slr true 1 V.bool)) r.1, V.bool r.2]) (by first | rfl | simp only [mulN_one, V.fz, fzL, V.up, upL, fzL_map, fz_slr, fz_at, slr, List.cons_append, List.nil_append] | simp [mulN_one, V.fz, fzL, V.up, upL, fzL_map, fz_slr, fz_at, slr]) h (fun r h => t_impl_orderOf h) (fun r1 h => ?_)
  conv => whnf
  refine Br.flip ?_
  conv => whnf
  refine Br.ob h (fun p2 h => ?_) (fun p2 h => ?_)
  · conv => whnf
    refine CallQ.rd (slr true 2 (rA2 vint)) (by first | rfl | simp only [V.fz, fzL_map, slr] | simp [mulN_one, V.fz, fzL, V.up, upL, fzL_map, fz_slr, fz_at, slr]) (fun _ => by simp [V.noFz, noFzL_map]) h (fun r h => t_impl_order_coverPairs h) (fun r3 h => ?_)
    conv => whnf
    cases h; exact (by first | rfl | simp [resV, mulN_one, V.fz, fzL, V.up, upL, fzL_map, fz_slr, fz_at, slr])
  · conv => whnf
    refine BslQ.o (rA2 vint) (nilL (Int × Int)) (by exact fun _ => ⟨rfl, rfl⟩) (by first | rfl | simp only [mulN_one, V.fz, fzL, V.up, upL, fzL_map, fz_slr, fz_at, slr, List.cons_append, List.nil_append] | simp [mulN_one, V.fz, fzL, V.up, upL, fzL_map, fz_slr, fz_at, slr]) ?_
    conv => whnf
    cases h; exact (by first | rfl | simp [resV, mulN_one, V.fz, fzL, V.up, upL, fzL_map, fz_slr, fz_at, slr])

noncomputable def F_spec_l23Largest_l1 (p0 : SPoset) : (Int × (List Int)) → Option ((Int × (List Int)) ⊕ (List Int)) := fun (x4, x3) =>
   ask ((0 : Int) ≤ (↑p0.Below.length : Int)) <|
   if x4 < shlI (1 : Int) (↑p0.Below.length : Int) then
    (F_spec_l5Bits (x4)).bind fun r3 =>
    if (↑r3.length : Int) > (↑x3.length : Int) then
     (F_spec_l23Anti (p0) (r3)).bind fun r5 =>
     if (r5) = true then
      ask (InI (x4 + (1 : Int))) <|
      some (.inl (x4 + (1 : Int), r3))
     else
      ask (InI (x4 + (1 : Int))) <|
      some (.inl (x4 + (1 : Int), x3))
    else
     if (↑r3.length : Int) = (↑x3.length : Int) then
      (F_spec_l5Less (r3) (x3)).bind fun r10 =>
      if (r10) = true then
       (F_spec_l23Anti (p0) (r3)).bind fun r12 =>
       if (r12) = true then
        ask (InI (x4 + (1 : Int))) <|
        some (.inl (x4 + (1 : Int), r3))
       else
        ask (InI (x4 + (1 : Int))) <|
        some (.inl (x4 + (1 : Int), x3))
      else
       ask (InI (x4 + (1 : Int))) <|
       some (.inl (x4 + (1 : Int), x3))
     else
      ask (InI (x4 + (1 : Int))) <|
      some (.inl (x4 + (1 : Int), x3))
   else
    some (.inr x3)
def S_spec_l23Largest_l1 (p0 : SPoset) : (Int × (List Int)) → St := fun s => [(4, A.val (vint s.1)), (3, A.val ((slr true 1 vint) s.2)), (1, A.val ((rP true (rS_Poset false)) (p0)))]
def T_spec_l23Largest_l1 (_p0 : SPoset) : (List Int) → Tgt
  | s => ((Ex.exit 0), [3], [(3, A.val ((slr true 1 vint) s))])
theorem b_spec_l23Largest_l1 {p0 : SPoset} (s : (Int × (List Int))) (o : (Int × (List Int)) ⊕ (List Int)) (h : F_spec_l23Largest_l1 p0 s = some o) : vc Try.prog c_spec_l23Largest_l1 (outQ [4, 3, 1] (S_spec_l23Largest_l1 p0) (T_spec_l23Largest_l1 p0) o) (S_spec_l23Largest_l1 p0 s) := by
  obtain ⟨x4, x3⟩ := s
  unfold F_spec_l23Largest_l1 at h
  try dsimp only at h
  conv => whnf
  refine Cells.lit rfl rfl ?_
  conv => whnf
  refine Len.map ?_
  conv => whnf
  refine Ask.o h fun p1 h => ?_
  conv => whnf
  refine Br.od h (fun p2 h => ?_) (fun p2 h => ?_)
  · conv => whnf
    refine CallQ.o (slr true 1 vint) (by first | rfl | simp only [mulN_one, V.fz, fzL, V.up, upL, fzL_map, fz_slr, fz_at, slr, List.cons_append, List.nil_append] | simp [mulN_one, V.fz, fzL, V.up, upL, fzL_map, fz_slr, fz_at, slr]) h (fun r h => t_spec_l5Bits h) (fun r3 h => ?_)
    conv => whnf
    refine Len.map ?_
    conv => whnf
    refine Len.map ?_
    conv => whnf
    refine Br.od h (fun p4 h => ?_) (fun p4 h => ?_)
    · conv => whnf
      refine Br.yes ?_
      conv => whnf
      refine Br.yes ?_
      conv => whnf
      refine Br.yes ?_
      conv => whnf
      refine Br.yes ?_
      conv => whnf
      refine Br.yes ?_
      conv => whnf
      refine Br.yes ?_
      conv => whnf
      refine Br.yes ?_
      conv => whnf
      refine Br.yes ?_
      conv => whnf
      refine Cells.lit rfl rfl ?_
      conv => whnf
      refine Br.yes ?_
      conv => whnf
      refine Br.yes ?_
      conv => whnf
      refine CallQ.rd V.bool (by first | rfl | simp only [V.fz, fzL, fzL_map, slr] | simp [mulN_one, V.fz, fzL, V.up, upL, fzL_map, fz_slr, fz_at, slr]) (fun _ => rfl) h (fun r h => t_spec_l23Anti h) (fun r5 h => ?_)
      conv => whnf
      refine Br.yes ?_
      conv => whnf
      refine Br.ob h (fun p6 h => ?_) (fun p6 h => ?_)
      · conv => whnf
        refine Ask.o h fun p7 h => ?_
        conv => whnf
        cases h; exact ⟨rfl, rfl⟩
      · conv => whnf
        refine Ask.o h fun p8 h => ?_
        conv => whnf
        cases h; exact ⟨rfl, rfl⟩
    · conv => whnf
      refine Br.no ?_
      conv => whnf
      refine Len.map ?_
      conv => whnf
      refine Br.no ?_
      conv => whnf
      refine Br.no ?_
      conv => whnf
      refine Len.map ?_
      conv => whnf
      refine Br.no ?_
      conv => whnf
      refine Br.no ?_
      conv => whnf
      refine Br.oe h (fun p9 h => ?_) (fun p9 h => ?_)
      · conv => whnf
        refine Br.yes ?_
        conv => whnf
        refine Br.yes ?_
        conv => whnf
        refine CallQ.rd V.bool (by first | rfl | simp only [V.fz, fzL_map, slr] | simp [mulN_one, V.fz, fzL, V.up, upL, fzL_map, fz_slr, fz_at, slr]) (fun _ => rfl) h (fun r h => t_spec_l5Less h) (fun r10 h => ?_)
        conv => whnf
        refine Br.no ?_
        conv => whnf
        refine Br.yes ?_
        conv => whnf
        refine Br.no ?_
        conv => whnf
        refine Br.ob h (fun p11 h => ?_) (fun p11 h => ?_)
        · conv => whnf
          refine Cells.lit rfl rfl ?_
          conv => whnf
          refine Br.yes ?_
          conv => whnf
          refine Br.yes ?_
          conv => whnf
          refine CallQ.rd V.bool (by first | rfl | simp only [V.fz, fzL, fzL_map, slr] | simp [mulN_one, V.fz, fzL, V.up, upL, fzL_map, fz_slr, fz_at, slr]) (fun _ => rfl) h (fun r h => t_spec_l23Anti h) (fun r12 h => ?_)
          conv => whnf
          refine Br.yes ?_
          conv => whnf
          refine Br.ob h (fun p13 h => ?_) (fun p13 h => ?_)
          · conv => whnf
            refine Ask.o h fun p14 h => ?_
            conv => whnf
            cases h; exact ⟨rfl, rfl⟩
          · conv => whnf
            refine Ask.o h fun p15 h => ?_
            conv => whnf
            cases h; exact ⟨rfl, rfl⟩
        · conv => whnf
          refine Br.no ?_
          conv => whnf
          refine Br.no ?_
          conv => whnf
          refine Br.no ?_
          conv => whnf
          refine Br.no ?_
          conv => whnf
          refine Ask.o h fun p16 h => ?_
          conv => whnf
          cases h; exact ⟨rfl, rfl⟩
      · conv => whnf
        refine Br.no ?_
        conv => whnf
        refine Br.no ?_
        conv => whnf
        refine Br.no ?_
        conv => whnf
        refine Br.no ?_
        conv => whnf
        refine Br.no ?_
        conv => whnf
        refine Br.no ?_
        conv => whnf
        refine Br.no ?_
        conv => whnf
        refine Br.no ?_
        conv => whnf
        refine Br.no ?_
        conv => whnf
        refine Br.no ?_
        conv => whnf
        refine Ask.o h fun p17 h => ?_
        conv => whnf
        cases h; exact ⟨rfl, rfl⟩
  · conv => whnf
    cases h; exact ⟨rfl, rfl⟩

noncomputable def F_spec_l23Largest (p0 : SPoset) : Option (List Int) :=
  (loopO (F_spec_l23Largest_l1 p0) ((0 : Int), nilL Int)).bind fun q18_3 =>
  some q18_3
theorem t_spec_l23Largest {p0 : SPoset} {v : (List Int)} (h : F_spec_l23Largest p0 = some v) : Ret Try.prog f_spec_l23Largest [(rS_Poset false) p0] ((slr true 1 vint) v) := by
  refine ret_vc k_spec_l23Largest (Nat.le_of_ble_eq_true rfl) ?_
  unfold F_spec_l23Largest at h
  conv => whnf
  refine BslQ.o vint (nilL Int) (by exact fun _ => ⟨rfl, rfl⟩) (by first | rfl | simp only [mulN_one, V.fz, fzL, V.up, upL, fzL_map, fz_slr, fz_at, slr, List.cons_append, List.nil_append] | simp [mulN_one, V.fz, fzL, V.up, upL, fzL_map, fz_slr, fz_at, slr]) ?_
  conv => whnf
  refine LoopQ.o [4, 3, 1] (S_spec_l23Largest_l1 p0) (T_spec_l23Largest_l1 p0) h (fun s o h => b_spec_l23Largest_l1 s o h) (by first | rfl | simp [restrict, look, mulN_one, V.fz, fzL, V.up, upL, fzL_map, fz_slr, fz_at, slr]) (fun _ => rfl) ?_
  rintro q18_3 h
  try dsimp only at h
  conv => whnf
  cases h; exact (by first | rfl | simp [resV, mulN_one, V.fz, fzL, V.up, upL, fzL_map, fz_slr, fz_at, slr])

noncomputable def F_spec_l24Good_l1 (p0 : SPoset) (r5 : SPoset) (x4 : Int) : Int → Option (Int ⊕ (Unit ⊕ Unit)) := fun x5 =>
   if x5 < x4 then
    (F_spec_l24Bound (p0) ([x4, x5])).bind fun r8 =>
    if r8 < (0 : Int) then
     some (.inr (.inl ()))
    else
     (F_spec_l24Bound (r5) ([x4, x5])).bind fun r10 =>
     if r10 < (0 : Int) then
      some (.inr (.inl ()))
     else
      ask (InI (x5 + (1 : Int))) <|
      some (.inl (x5 + (1 : Int)))
   else
    some (.inr (.inr ()))
def S_spec_l24Good_l1 (p0 : SPoset) (r5 : SPoset) (x4 : Int) : Int → St := fun s => [(5, A.val (vint s)), (4, A.val (vint (x4))), (3, A.val ((rP true (rS_Poset true)) (r5))), (1, A.val ((rP true (rS_Poset false)) (p0)))]
def T_spec_l24Good_l1 (p0 : SPoset) (r5 : SPoset) (x4 : Int) : (Unit ⊕ Unit) → Tgt
  | (.inl _s) => (Ex.ret, [2], [(2, A.val (V.bool (false)))])
  | (.inr _s) => ((Ex.exit 2), [4, 3, 1], [(4, A.val (vint (x4))), (3, A.val ((rP true (rS_Poset true)) (r5))), (1, A.val ((rP true (rS_Poset false)) (p0)))])
theorem b_spec_l24Good_l1 {p0 : SPoset} {r5 : SPoset} {x4 : Int} (x5 : Int) (o : Int ⊕ (Unit ⊕ Unit)) (h : F_spec_l24Good_l1 p0 r5 x4 x5 = some o) : vc Try.prog c_spec_l24Good_l1 (outQ [5, 4, 3, 1] (S_spec_l24Good_l1 p0 r5 x4) (T_spec_l24Good_l1 p0 r5 x4) o) (S_spec_l24Good_l1 p0 r5 x4 x5) := by
  unfold F_spec_l24Good_l1 at h
  try dsimp only at h
  conv => whnf
  refine Br.od h (fun p7 h => ?_) (fun p7 h => ?_)
  · conv => whnf
    refine Cells.lit rfl rfl ?_
    conv => whnf
    refine BslQ.o vint ([x4, x5]) (by exact fun _ => ⟨rfl, rfl⟩) (by first | rfl | simp only [mulN_one, V.fz, fzL, V.up, upL, fzL_map, fz_slr, fz_at, slr, List.cons_append, List.nil_append] | simp [mulN_one, V.fz, fzL, V.up, upL, fzL_map, fz_slr, fz_at, slr]) ?_
    conv => whnf
    refine CallQ.rd vint (by first | rfl | simp only [mulN_one, V.fz, fzL, V.up, upL, fzL_map, fz_slr, fz_at, slr, List.cons_append, List.nil_append] | simp [mulN_one, V.fz, fzL, V.up, upL, fzL_map, fz_slr, fz_at, slr]) (fun _ => rfl) h (fun r h => t_spec_l24Bound h) (fun r8 h => ?_)
    conv => whnf
    refine Br.od h (fun p9 h => ?_) (fun p9 h => ?_)
    · conv => whnf
      refine Br.yes ?_
      conv => whnf
      refine Br.yes ?_
      conv => whnf
      refine Br.yes ?_
      conv => whnf
      refine Br.yes ?_
      conv => whnf
      refine Br.yes ?_
      conv => whnf
      refine Br.yes ?_
      conv => whnf
      refine Br.yes ?_
      conv => whnf
      cases h; exact ⟨rfl, rfl⟩
    · conv => whnf
      refine Cells.lit rfl rfl ?_
      conv => whnf
      refine Br.no ?_
      conv => whnf
      refine Br.no ?_
      conv => whnf
      refine Br.no ?_
      conv => whnf
      refine BslQ.o vint ([x4, x5]) (by exact fun _ => ⟨rfl, rfl⟩) (by first | rfl | simp only [mulN_one, V.fz, fzL, V.up, upL, fzL_map, fz_slr, fz_at, slr, List.cons_append, List.nil_append] | simp [mulN_one, V.fz, fzL, V.up, upL, fzL_map, fz_slr, fz_at, slr]) ?_
      conv => whnf
      refine Br.no ?_
      conv => whnf
      refine CallQ.rd vint (by first | rfl | simp only [V.fz, fzL_map, slr] | simp [mulN_one, V.fz, fzL, V.up, upL, fzL_map, fz_slr, fz_at, slr]) (fun _ => rfl) h (fun r h => t_spec_l24Bound h) (fun r10 h => ?_)
      conv => whnf
      refine Br.no ?_
      conv => whnf
      refine Br.no ?_
      conv => whnf
      refine Br.od h (fun p11 h => ?_) (fun p11 h => ?_)
      · conv => whnf
        cases h; exact ⟨rfl, rfl⟩
      · conv => whnf
        refine Ask.o h fun p12 h => ?_
        conv => whnf
        cases h; exact ⟨rfl, rfl⟩
  · conv => whnf
    cases h; exact ⟨rfl, rfl⟩

noncomputable def F_spec_l24Good_l2 (p0 : SPoset) (r5 : SPoset) : Int → Option (Int ⊕ (Unit ⊕ Unit)) := fun x4 =>
   if x4 < (↑p0.Below.length : Int) then
    (loopO (F_spec_l24Good_l1 p0 r5 x4) (0 : Int)).bind fun t => match t with
    | (.inl _) => (some (.inr (.inl ())))
    | (.inr _) => (ask (InI (x4 + (1 : Int))) <|
      some (.inl (x4 + (1 : Int))))
   else
    some (.inr (.inr ()))
def S_spec_l24Good_l2 (p0 : SPoset) (r5 : SPoset) : Int → St := fun s => [(4, A.val (vint s)), (3, A.val ((rP true (rS_Poset true)) (r5))), (1, A.val ((rP true (rS_Poset false)) (p0)))]
def T_spec_l24Good_l2 (_p0 : SPoset) (_r5 : SPoset) : (Unit ⊕ Unit) → Tgt
  | (.inl _s) => (Ex.ret, [2], [(2, A.val (V.bool (false)))])
  | (.inr _s) => ((Ex.exit 0), [], [])
theorem b_spec_l24Good_l2 {p0 : SPoset} {r5 : SPoset} (x4 : Int) (o : Int ⊕ (Unit ⊕ Unit)) (h : F_spec_l24Good_l2 p0 r5 x4 = some o) : vc Try.prog c_spec_l24Good_l2 (outQ [4, 3, 1] (S_spec_l24Good_l2 p0 r5) (T_spec_l24Good_l2 p0 r5) o) (S_spec_l24Good_l2 p0 r5 x4) := by
  unfold F_spec_l24Good_l2 at h
  try dsimp only at h
  conv => whnf
  refine Cells.lit rfl rfl ?_
  conv => whnf
  refine Len.map ?_
  conv => whnf
  refine Br.od h (fun p6 h => ?_) (fun p6 h => ?_)
  · conv => whnf
    refine LoopQ.o [5, 4, 3, 1] (S_spec_l24Good_l1 p0 r5 x4) (T_spec_l24Good_l1 p0 r5 x4) h (fun s o h => b_spec_l24Good_l1 s o h) (by first | rfl | simp [restrict, look, mulN_one, V.fz, fzL, V.up, upL, fzL_map, fz_slr, fz_at, slr]) (by rintro (_ | _) <;> rfl) ?_
    rintro (⟨⟩ | ⟨⟩) h
    · try dsimp only at h
      conv => whnf
      cases h; exact ⟨rfl, rfl⟩
    · try dsimp only at h
      conv => whnf
      refine Ask.o h fun p14 h => ?_
      conv => whnf
      cases h; exact ⟨rfl, rfl⟩
  · conv => whnf
    cases h; exact ⟨rfl, rfl⟩

noncomputable def F_spec_l24Good (p0 : SPoset) : Option Bool :=
  (((F_spec_l23Good (p0)).bind fun r1 =>
     if (r1) = true then
      if (↑p0.Below.length : Int) = (0 : Int) then
       some (.inl ())
      else
       some (.inr ())
     else
      some (.inl ()) : Option (Unit ⊕ Unit))).bind fun t => match t with
  | (.inl _) => (some false)
  | (.inr _) => ((F_spec_l23Dual (p0)).bind fun r5 =>
    (loopO (F_spec_l24Good_l2 p0 r5) (0 : Int)).bind fun t => match t with
    | (.inl _) => (some false)
    | (.inr _) => (some true))
theorem t_spec_l24Good {p0 : SPoset} {v : Bool} (h : F_spec_l24Good p0 = some v) : Ret Try.prog f_spec_l24Good [(rS_Poset false) p0] (V.bool v) := by
  refine ret_vc k_spec_l24Good (Nat.le_of_ble_eq_true rfl) ?_
  unfold F_spec_l24Good at h
  conv => whnf
  refine CutQ.o (fun t : (Unit ⊕ Unit) => match t with | (.inl s) => (Ex.ret, [2], [(2, A.val (V.bool (false)))]) | (.inr s) => (Ex.normal, [1], [(1, A.val ((rP true (rS_Poset false)) (p0)))])) h ?_ ?_
  · intro t h
    conv => whnf
    refine Cells.lit rfl rfl ?_
    conv => whnf
    refine CallQ.o V.bool (by first | rfl | simp only [mulN_one, V.fz, fzL, V.up, upL, fzL_map, fz_slr, fz_at, slr, List.cons_append, List.nil_append] | simp [mulN_one, V.fz, fzL, V.up, upL, fzL_map, fz_slr, fz_at, slr]) h (fun r h => t_spec_l23Good h) (fun r1 h => ?_)
    conv => whnf
    refine Br.flip ?_
    conv => whnf
    refine Br.ob h (fun p2 h => ?_) (fun p2 h => ?_)
    · conv => whnf
      refine Br.no ?_
      conv => whnf
      refine Cells.lit rfl rfl ?_
      conv => whnf
      refine Br.no ?_
      conv => whnf
      refine Len.map ?_
      conv => whnf
      refine Br.no ?_
      conv => whnf
      refine Br.no ?_
      conv => whnf
      refine Br.oe h (fun p3 h => ?_) (fun p3 h => ?_)
      · conv => whnf
        cases h; exact ⟨rfl, rfl⟩
      · conv => whnf
        cases h; exact ⟨rfl, rfl⟩
    · conv => whnf
      refine Br.yes ?_
      conv => whnf
      refine Br.yes ?_
      conv => whnf
      refine Br.yes ?_
      conv => whnf
      refine Br.yes ?_
      conv => whnf
      refine Br.yes ?_
      conv => whnf
      cases h; exact ⟨rfl, rfl⟩
  · rintro (⟨⟩ | ⟨⟩) h
    · try dsimp only at h
      conv => whnf
      cases h; exact (by first | rfl | simp [resV, mulN_one, V.fz, fzL, V.up, upL, fzL_map, fz_slr, fz_at, slr])
    · try dsimp only at h
      conv => whnf
      refine Cells.lit rfl rfl ?_
      conv => whnf
      refine CallQ.o (rS_Poset true) (by first | rfl | simp only [mulN_one, V.fz, fzL, V.up, upL, fzL_map, fz_slr, fz_at, slr, List.cons_append, List.nil_append] | simp [mulN_one, V.fz, fzL, V.up, upL, fzL_map, fz_slr, fz_at, slr]) h (fun r h => t_spec_l23Dual h) (fun r5 h => ?_)
      conv => whnf
      refine SetKids.lit rfl ?_
      conv => whnf
      refine LoopQ.o [4, 3, 1] (S_spec_l24Good_l2 p0 r5) (T_spec_l24Good_l2 p0 r5) h (fun s o h => b_spec_l24Good_l2 s o h) (by first | rfl | simp [restrict, look, mulN_one, V.fz, fzL, V.up, upL, fzL_map, fz_slr, fz_at, slr]) (by rintro (_ | _) <;> rfl) ?_
      rintro (⟨⟩ | ⟨⟩) h
      · try dsimp only at h
        conv => whnf
        cases h; exact (by first | rfl | simp [resV, mulN_one, V.fz, fzL, V.up, upL, fzL_map, fz_slr, fz_at, slr])
      · try dsimp only at h
        conv => whnf
        cases h; exact (by first | rfl | simp [resV, mulN_one, V.fz, fzL, V.up, upL, fzL_map, fz_slr, fz_at, slr])

noncomputable def F_impl_listOf (p0 : SPoset) (list0 : (Slattice → Option (List Int))) : Option ((List Int) × Bool) :=
  (F_impl_latticeOf (p0)).bind fun t => match t with
  | (none, r1_2) => (if (r1_2) = true then
     none
    else
     some (nilL Int, false))
  | ((some r1_1), r1_2) => (if (r1_2) = true then
     (list0 (r1_1)).bind fun r4 =>
     some (r4, true)
    else
     some (nilL Int, false))
theorem t_impl_listOf {p0 : SPoset} {list0 : (Slattice → Option (List Int))} {f_list0 : Nat} {c_list0 : List V} (h_list0 : ∀ w_0 v, list0 w_0 = some v → Ret Try.prog f_list0 ([(rP false (rS_lattice false)) w_0] ++ fzL c_list0) ((slr true 1 vint) v)) {v : ((List Int) × Bool)} (h : F_impl_listOf p0 list0 = some v) : Ret Try.prog f_impl_listOf [(rS_Poset false) p0, V.fclo f_list0 c_list0] ((fun r => V.tup [(slr true 1 vint) r.1, V.bool r.2]) v) := by
  refine ret_vc k_impl_listOf (Nat.le_of_ble_eq_true rfl) ?_
  unfold F_impl_listOf at h
  conv => whnf
  refine Cells.lit rfl rfl ?_
  conv => whnf
  refine CallQ.o (fun r => V.tup [(rO true (rS_lattice true)) r.1, V.bool r.2]) (by first | rfl | simp only [mulN_one, V.fz, fzL, V.up, upL, fzL_map, fz_slr, fz_at, slr, List.cons_append, List.nil_append] | simp [mulN_one, V.fz, fzL, V.up, upL, fzL_map, fz_slr, fz_at, slr]) h (fun r h => t_impl_latticeOf h) (fun r1 h => ?_)
  rcases r1 with ⟨(_ | r1_1), r1_2⟩
  · try dsimp only at h
    conv => whnf
    refine Br.flip ?_
    conv => whnf
    refine Br.ob h (fun p2 h => ?_) (fun p2 h => ?_)
    · conv => whnf
      cases h
    · conv => whnf
      refine BslQ.o vint (nilL Int) (by exact fun _ => ⟨rfl, rfl⟩) (by first | rfl | simp only [mulN_one, V.fz, fzL, V.up, upL, fzL_map, fz_slr, fz_at, slr, List.cons_append, List.nil_append] | simp [mulN_one, V.fz, fzL, V.up, upL, fzL_map, fz_slr, fz_at, slr]) ?_
      conv => whnf
      cases h; exact (by first | rfl | simp [resV, mulN_one, V.fz, fzL, V.up, upL, fzL_map, fz_slr, fz_at, slr])
  · try dsimp only at h
    conv => whnf
    refine Br.flip ?_
    conv => whnf
    refine Br.ob h (fun p3 h => ?_) (fun p3 h => ?_)
    · conv => whnf
      refine CloQ.o (slr true 1 vint) (by first | rfl | simp only [V.fz, fzL, fzL_map, List.cons_append, List.nil_append] | simp [mulN_one, V.fz, fzL, V.up, upL, fzL_map, fz_slr, fz_at, slr]) (fun _ => by first | rfl | simp [resOk, V.noFz, noFzL_map]) h (fun r h => h_list0 _ _ h) (fun r4 h => ?_)
      conv => whnf
      cases h; exact (by first | rfl | simp [resV, mulN_one, V.fz, fzL, V.up, upL, fzL_map, fz_slr, fz_at, slr])
    · conv => whnf
      refine BslQ.o vint (nilL Int) (by exact fun _ => ⟨rfl, rfl⟩) (by first | rfl | simp only [mulN_one, V.fz, fzL, V.up, upL, fzL_map, fz_slr, fz_at, slr, List.cons_append, List.nil_append] | simp [mulN_one, V.fz, fzL, V.up, upL, fzL_map, fz_slr, fz_at, slr]) ?_
      conv => whnf
      cases h; exact (by first | rfl | simp [resV, mulN_one, V.fz, fzL, V.up, upL, fzL_map, fz_slr, fz_at, slr])

noncomputable def F_impl_order_upperCovers (o0 : (List (List Bool))) (x0 : Int) : Option (List Int) :=
  (F_impl_order_those (o0) (fun w_0 => F_impl_order_upperCovers_1 w_0 (o0) (x0))).bind fun r1 =>
  some r1
theorem t_impl_order_upperCovers {o0 : (List (List Bool))} {x0 : Int} {v : (List Int)} (h : F_impl_order_upperCovers o0 x0 = some v) : Ret Try.prog f_impl_order_upperCovers [(slr false 1 (slr false 1 V.bool)) o0, vint x0] ((slr true 1 vint) v) := by
  refine ret_vc k_impl_order_upperCovers (Nat.le_of_ble_eq_true rfl) ?_
  unfold F_impl_order_upperCovers at h
  conv => whnf
  refine Cells.lit rfl rfl ?_
  conv => whnf
  refine CallQ.rd (slr true 1 vint) (by first | rfl | simp only [mulN_one, V.fz, fzL, V.up, upL, fzL_map, fz_slr, fz_at, slr, List.cons_append, List.nil_append] | simp [mulN_one, V.fz, fzL, V.up, upL, fzL_map, fz_slr, fz_at, slr]) (fun _ => by simp [V.noFz, noFzL_map]) h (fun r h => t_impl_order_those (f_so0 := f_impl_order_upperCovers_1) (c_so0 := [(rP false (slr false 1 (slr false 1 V.bool))) (o0), (rP false vint) (x0)]) (fun w_0 v h => Ret.cast (by first | rfl | simp only [mulN_one, V.fz, fzL, V.up, upL, fzL_map, fz_slr, fz_at, slr, List.cons_append, List.nil_append] | simp [mulN_one, V.fz, fzL, V.up, upL, fzL_map, fz_slr, fz_at, slr]) (t_impl_order_upperCovers_1 h)) h) (fun r1 h => ?_)
  conv => whnf
  cases h; exact (by first | rfl | simp [resV, mulN_one, V.fz, fzL, V.up, upL, fzL_map, fz_slr, fz_at, slr])

end Go.Proofs.Ythcnmahjhahafab.Ax
