/-
  What the functions compute, as functions on plain data, and that the program does compute it; written by program.
-/
import Derived.Test.YthcnmahjhahafabCode
import Derived.Test.YthcnmahjhahafabG1
namespace Go.Proofs.Ythcnmahjhahafab.Ax
open Go
set_option maxRecDepth 100000
set_option maxHeartbeats 4000000

noncomputable def F_spec_l1In (x0 : Int) (a0 : Int) (b0 : Int) : Option Bool :=
  if x0 ≥ a0 then
   some (decide (x0 ≤ b0))
  else
   some false
theorem t_spec_l1In {x0 : Int} {a0 : Int} {b0 : Int} {v : Bool} (h : F_spec_l1In x0 a0 b0 = some v) : Ret Try.prog f_spec_l1In [vint x0, vint a0, vint b0] (V.bool v) := by
  refine ret_vc k_spec_l1In (Nat.le_of_ble_eq_true rfl) ?_
  unfold F_spec_l1In at h
  conv => whnf
  refine Br.od h (fun p1 h => ?_) (fun p1 h => ?_)
  · conv => whnf
    refine Br.yes ?_
    conv => whnf
    refine Br.yes ?_
    conv => whnf
    refine Br.yes ?_
    conv => whnf
    cases h; exact (by first | rfl | simp [resV, mulN_one, V.fz, fzL, V.up, upL, fzL_map, fz_slr, fz_at, slr])
  · conv => whnf
    refine Br.no ?_
    conv => whnf
    refine Br.no ?_
    conv => whnf
    refine Br.no ?_
    conv => whnf
    cases h; exact (by first | rfl | simp [resV, mulN_one, V.fz, fzL, V.up, upL, fzL_map, fz_slr, fz_at, slr])

noncomputable def F_spec_l2Args_l1 (n0 : Int) : (Int × (List Int) × Int) → Option ((Int × (List Int) × Int) ⊕ (List Int)) := fun (x8, x7, x2) =>
   if x8 ≥ (0 : Int) then
    ask (n0 ≠ (0 : Int)) <|
    ask ((0 : Int) ≤ x8 ∧ x8 < (↑x7.length : Int)) <|
    ask (n0 ≠ (0 : Int) ∧ InI (x2.tdiv n0)) <|
    ask (InI (x8 - (1 : Int))) <|
    some (.inl (x8 - (1 : Int), x7.set x8.toNat (x2.tmod n0), x2.tdiv n0))
   else
    some (.inr x7)
def S_spec_l2Args_l1 (n0 : Int) : (Int × (List Int) × Int) → St := fun s => [(8, A.val (vint s.1)), (7, A.val ((slr true 1 vint) s.2.1)), (0, A.val (vint (n0))), (2, A.val (vint s.2.2))]
def T_spec_l2Args_l1 (_n0 : Int) : (List Int) → Tgt
  | s => ((Ex.exit 0), [7], [(7, A.val ((slr true 1 vint) s))])
theorem b_spec_l2Args_l1 {n0 : Int} (s : (Int × (List Int) × Int)) (o : (Int × (List Int) × Int) ⊕ (List Int)) (h : F_spec_l2Args_l1 n0 s = some o) : vc Try.prog c_spec_l2Args_l1 (outQ [8, 7, 0, 2] (S_spec_l2Args_l1 n0) (T_spec_l2Args_l1 n0) o) (S_spec_l2Args_l1 n0 s) := by
  obtain ⟨x8, x7, x2⟩ := s
  unfold F_spec_l2Args_l1 at h
  try dsimp only at h
  conv => whnf
  refine Br.od h (fun p3 h => ?_) (fun p3 h => ?_)
  · conv => whnf
    refine Ask.o h fun p4 h => ?_
    conv => whnf
    refine Len.map ?_
    conv => whnf
    refine Ask.o h fun p5 h => ?_
    conv => whnf
    refine SetKids.one (fun _ => ⟨rfl, rfl⟩) (x2.tmod n0) (by first | rfl | simp only [mulN_one, V.fz, fzL, V.up, upL, fzL_map, fz_slr, fz_at, slr, List.cons_append, List.nil_append] | simp [mulN_one, V.fz, fzL, V.up, upL, fzL_map, fz_slr, fz_at, slr]) (by first | omega | (simp only [mulN] at *; omega) | (simp [mulN] at *; omega)) ?_
    conv => whnf
    refine Ask.o h fun p6 h => ?_
    conv => whnf
    refine Ask.o h fun p7 h => ?_
    conv => whnf
    cases h; exact ⟨rfl, rfl⟩
  · conv => whnf
    cases h; exact ⟨rfl, rfl⟩

noncomputable def F_spec_l2Args (n0 : Int) (arity0 : Int) (at0 : Int) : Option (List Int) :=
  ask ((0 : Int) ≤ arity0 ∧ arity0 ≤ (↑LIM : Int)) <|
  ask (InI (arity0 - (1 : Int))) <|
  (loopO (F_spec_l2Args_l1 n0) (arity0 - (1 : Int), List.replicate arity0.toNat (0 : Int), at0)).bind fun q8_7 =>
  some q8_7
theorem t_spec_l2Args {n0 : Int} {arity0 : Int} {at0 : Int} {v : (List Int)} (h : F_spec_l2Args n0 arity0 at0 = some v) : Ret Try.prog f_spec_l2Args [vint n0, vint arity0, vint at0] ((slr true 1 vint) v) := by
  refine ret_vc k_spec_l2Args (Nat.le_of_ble_eq_true rfl) ?_
  unfold F_spec_l2Args at h
  conv => whnf
  refine Ask.o h fun p1 h => ?_
  conv => whnf
  refine MkQ.o vint ((0 : Int)) rfl ?_
  conv => whnf
  refine Ask.o h fun p2 h => ?_
  conv => whnf
  refine LoopQ.o [8, 7, 0, 2] (S_spec_l2Args_l1 n0) (T_spec_l2Args_l1 n0) h (fun s o h => b_spec_l2Args_l1 s o h) (by first | rfl | simp [restrict, look, mulN_one, V.fz, fzL, V.up, upL, fzL_map, fz_slr, fz_at, slr]) (fun _ => rfl) ?_
  rintro q8_7 h
  try dsimp only at h
  conv => whnf
  cases h; exact (by first | rfl | simp [resV, mulN_one, V.fz, fzL, V.up, upL, fzL_map, fz_slr, fz_at, slr])

noncomputable def F_impl_argsAt_l1 (n0 : Int) : (Int × (List Int) × Int) → Option ((Int × (List Int) × Int) ⊕ (List Int)) := fun (x8, x7, x0) =>
   if x8 ≥ (0 : Int) then
    ask (n0 ≠ (0 : Int)) <|
    ask ((0 : Int) ≤ x8 ∧ x8 < (↑x7.length : Int)) <|
    ask (n0 ≠ (0 : Int) ∧ InI (x0.tdiv n0)) <|
    ask (InI (x8 - (1 : Int))) <|
    some (.inl (x8 - (1 : Int), x7.set x8.toNat (x0.tmod n0), x0.tdiv n0))
   else
    some (.inr x7)
def S_impl_argsAt_l1 (n0 : Int) : (Int × (List Int) × Int) → St := fun s => [(8, A.val (vint s.1)), (7, A.val ((slr true 1 vint) s.2.1)), (0, A.val (vint s.2.2)), (2, A.val (vint (n0)))]
def T_impl_argsAt_l1 (_n0 : Int) : (List Int) → Tgt
  | s => ((Ex.exit 0), [7], [(7, A.val ((slr true 1 vint) s))])
theorem b_impl_argsAt_l1 {n0 : Int} (s : (Int × (List Int) × Int)) (o : (Int × (List Int) × Int) ⊕ (List Int)) (h : F_impl_argsAt_l1 n0 s = some o) : vc Try.prog c_impl_argsAt_l1 (outQ [8, 7, 0, 2] (S_impl_argsAt_l1 n0) (T_impl_argsAt_l1 n0) o) (S_impl_argsAt_l1 n0 s) := by
  obtain ⟨x8, x7, x0⟩ := s
  unfold F_impl_argsAt_l1 at h
  try dsimp only at h
  conv => whnf
  refine Br.od h (fun p3 h => ?_) (fun p3 h => ?_)
  · conv => whnf
    refine Ask.o h fun p4 h => ?_
    conv => whnf
    refine Len.map ?_
    conv => whnf
    refine Ask.o h fun p5 h => ?_
    conv => whnf
    refine SetKids.one (fun _ => ⟨rfl, rfl⟩) (x0.tmod n0) (by first | rfl | simp only [mulN_one, V.fz, fzL, V.up, upL, fzL_map, fz_slr, fz_at, slr, List.cons_append, List.nil_append] | simp [mulN_one, V.fz, fzL, V.up, upL, fzL_map, fz_slr, fz_at, slr]) (by first | omega | (simp only [mulN] at *; omega) | (simp [mulN] at *; omega)) ?_
    conv => whnf
    refine Ask.o h fun p6 h => ?_
    conv => whnf
    refine Ask.o h fun p7 h => ?_
    conv => whnf
    cases h; exact ⟨rfl, rfl⟩
  · conv => whnf
    cases h; exact ⟨rfl, rfl⟩

noncomputable def F_impl_argsAt (i0 : Int) (k0 : Int) (n0 : Int) : Option (List Int) :=
  ask ((0 : Int) ≤ k0 ∧ k0 ≤ (↑LIM : Int)) <|
  ask (InI (k0 - (1 : Int))) <|
  (loopO (F_impl_argsAt_l1 n0) (k0 - (1 : Int), List.replicate k0.toNat (0 : Int), i0)).bind fun q8_7 =>
  some q8_7
theorem t_impl_argsAt {i0 : Int} {k0 : Int} {n0 : Int} {v : (List Int)} (h : F_impl_argsAt i0 k0 n0 = some v) : Ret Try.prog f_impl_argsAt [vint i0, vint k0, vint n0] ((slr true 1 vint) v) := by
  refine ret_vc k_impl_argsAt (Nat.le_of_ble_eq_true rfl) ?_
  unfold F_impl_argsAt at h
  conv => whnf
  refine Ask.o h fun p1 h => ?_
  conv => whnf
  refine MkQ.o vint ((0 : Int)) rfl ?_
  conv => whnf
  refine Ask.o h fun p2 h => ?_
  conv => whnf
  refine LoopQ.o [8, 7, 0, 2] (S_impl_argsAt_l1 n0) (T_impl_argsAt_l1 n0) h (fun s o h => b_impl_argsAt_l1 s o h) (by first | rfl | simp [restrict, look, mulN_one, V.fz, fzL, V.up, upL, fzL_map, fz_slr, fz_at, slr]) (fun _ => rfl) ?_
  rintro q8_7 h
  try dsimp only at h
  conv => whnf
  cases h; exact (by first | rfl | simp [resV, mulN_one, V.fz, fzL, V.up, upL, fzL_map, fz_slr, fz_at, slr])

noncomputable def F_impl_indexOf_l1 (args0 : List Int) (n0 : Int) : (Int × Int) → Option ((Int × Int) ⊕ Int) := fun (x10, x5) =>
   if x10 < (↑args0.length : Int) then
    ask ((0 : Int) ≤ x10 ∧ x10 < (↑args0.length : Int)) <|
    ask (InI (x5 * n0)) <|
    ask (InI (x5 * n0 + nth args0 x10.toNat)) <|
    ask (InI (x10 + (1 : Int))) <|
    some (.inl (x10 + (1 : Int), x5 * n0 + nth args0 x10.toNat))
   else
    some (.inr x5)
def S_impl_indexOf_l1 (args0 : List Int) (n0 : Int) : (Int × Int) → St := fun s => [(10, A.val (vint s.1)), (9, A.val (vint ((↑args0.length : Int)))), (8, A.val ((slr false 1 vint) (args0))), (5, A.val (vint s.2)), (1, A.val (vint (n0)))]
def T_impl_indexOf_l1 (_args0 : List Int) (_n0 : Int) : Int → Tgt
  | s => ((Ex.exit 0), [5], [(5, A.val (vint s))])
theorem b_impl_indexOf_l1 {args0 : List Int} {n0 : Int} (s : (Int × Int)) (o : (Int × Int) ⊕ Int) (h : F_impl_indexOf_l1 args0 n0 s = some o) : vc Try.prog c_impl_indexOf_l1 (outQ [10, 9, 8, 5, 1] (S_impl_indexOf_l1 args0 n0) (T_impl_indexOf_l1 args0 n0) o) (S_impl_indexOf_l1 args0 n0 s) := by
  obtain ⟨x10, x5⟩ := s
  unfold F_impl_indexOf_l1 at h
  try dsimp only at h
  conv => whnf
  refine Br.od h (fun p1 h => ?_) (fun p1 h => ?_)
  · conv => whnf
    refine Len.map ?_
    conv => whnf
    refine Ask.o h fun p2 h => ?_
    conv => whnf
    refine Elem.o (by first | omega | (simp only [mulN] at *; omega) | (simp [mulN] at *; omega)) ?_
    conv => whnf
    refine Ask.o h fun p3 h => ?_
    conv => whnf
    refine Ask.o h fun p4 h => ?_
    conv => whnf
    refine Ask.o h fun p5 h => ?_
    conv => whnf
    cases h; exact ⟨rfl, rfl⟩
  · conv => whnf
    cases h; exact ⟨rfl, rfl⟩

noncomputable def F_impl_indexOf (args0 : (List Int)) (n0 : Int) : Option Int :=
  (loopO (F_impl_indexOf_l1 args0 n0) ((0 : Int), (0 : Int))).bind fun q6_5 =>
  some q6_5
theorem t_impl_indexOf {args0 : (List Int)} {n0 : Int} {v : Int} (h : F_impl_indexOf args0 n0 = some v) : Ret Try.prog f_impl_indexOf [(slr false 1 vint) args0, vint n0] (vint v) := by
  refine ret_vc k_impl_indexOf (Nat.le_of_ble_eq_true rfl) ?_
  unfold F_impl_indexOf at h
  conv => whnf
  refine Len.map ?_
  conv => whnf
  refine LoopQ.o [10, 9, 8, 5, 1] (S_impl_indexOf_l1 args0 n0) (T_impl_indexOf_l1 args0 n0) h (fun s o h => b_impl_indexOf_l1 s o h) (by first | rfl | simp [restrict, look, mulN_one, V.fz, fzL, V.up, upL, fzL_map, fz_slr, fz_at, slr]) (fun _ => rfl) ?_
  rintro q6_5 h
  try dsimp only at h
  conv => whnf
  cases h; exact (by first | rfl | simp [resV, mulN_one, V.fz, fzL, V.up, upL, fzL_map, fz_slr, fz_at, slr])

noncomputable def F_impl_order_interval_1 (z0 : Int) (a1 : (List (List Bool))) (a2 : Int) (a3 : Int) : Option Bool :=
  ask ((0 : Int) ≤ a2 ∧ a2 < (↑a1.length : Int)) <|
  ask ((0 : Int) ≤ z0 ∧ z0 < (↑(nth a1 a2.toNat).length : Int)) <|
  if (nth (nth a1 a2.toNat) z0.toNat) = true then
   ask ((0 : Int) ≤ z0 ∧ z0 < (↑a1.length : Int)) <|
   ask ((0 : Int) ≤ a3 ∧ a3 < (↑(nth a1 z0.toNat).length : Int)) <|
   some (nth (nth a1 z0.toNat) a3.toNat)
  else
   some false
theorem t_impl_order_interval_1 {z0 : Int} {a1 : (List (List Bool))} {a2 : Int} {a3 : Int} {v : Bool} (h : F_impl_order_interval_1 z0 a1 a2 a3 = some v) : Ret Try.prog f_impl_order_interval_1 [vint z0, (rP false (slr false 1 (slr false 1 V.bool))) a1, (rP false vint) a2, (rP false vint) a3] (V.bool v) := by
  refine ret_vc k_impl_order_interval_1 (Nat.le_of_ble_eq_true rfl) ?_
  unfold F_impl_order_interval_1 at h
  conv => whnf
  refine Len.map ?_
  conv => whnf
  refine Ask.o h fun p1 h => ?_
  conv => whnf
  refine Elem.o (by first | omega | (simp only [mulN] at *; omega) | (simp [mulN] at *; omega)) ?_
  conv => whnf
  refine Len.map ?_
  conv => whnf
  refine Ask.o h fun p2 h => ?_
  conv => whnf
  refine Elem.o (by first | omega | (simp only [mulN] at *; omega) | (simp [mulN] at *; omega)) ?_
  conv => whnf
  refine Br.ob h (fun p3 h => ?_) (fun p3 h => ?_)
  · conv => whnf
    refine Br.yes ?_
    conv => whnf
    refine Br.yes ?_
    conv => whnf
    refine Len.map ?_
    conv => whnf
    refine Ask.o h fun p4 h => ?_
    conv => whnf
    refine Elem.o (by first | omega | (simp only [mulN] at *; omega) | (simp [mulN] at *; omega)) ?_
    conv => whnf
    refine Br.yes ?_
    conv => whnf
    refine Br.yes ?_
    conv => whnf
    refine Br.yes ?_
    conv => whnf
    refine Len.map ?_
    conv => whnf
    refine Ask.o h fun p5 h => ?_
    conv => whnf
    refine Elem.o (by first | omega | (simp only [mulN] at *; omega) | (simp [mulN] at *; omega)) ?_
    conv => whnf
    refine Br.yes ?_
    conv => whnf
    refine Br.yes ?_
    conv => whnf
    cases h; exact (by first | rfl | simp [resV, mulN_one, V.fz, fzL, V.up, upL, fzL_map, fz_slr, fz_at, slr])
  · conv => whnf
    refine Br.no ?_
    conv => whnf
    refine Br.no ?_
    conv => whnf
    refine Br.no ?_
    conv => whnf
    refine Br.no ?_
    conv => whnf
    refine Br.no ?_
    conv => whnf
    refine Br.no ?_
    conv => whnf
    refine Br.no ?_
    conv => whnf
    cases h; exact (by first | rfl | simp [resV, mulN_one, V.fz, fzL, V.up, upL, fzL_map, fz_slr, fz_at, slr])

noncomputable def F_impl_order_greatest_l1 (o0 : List (List Bool)) (list0 : List Int) (x12 : Int) : (Int × Bool) → Option ((Int × Bool) ⊕ Bool) := fun (x18, x7) =>
   if x18 < (↑list0.length : Int) then
    ask ((0 : Int) ≤ x18 ∧ x18 < (↑list0.length : Int)) <|
    if (x7) = true then
     ask ((0 : Int) ≤ nth list0 x18.toNat ∧ nth list0 x18.toNat < (↑o0.length : Int)) <|
     ask ((0 : Int) ≤ nth list0 x12.toNat ∧ nth list0 x12.toNat < (↑(nth o0 (nth list0 x18.toNat).toNat).length : Int)) <|
     ask (InI (x18 + (1 : Int))) <|
     some (.inl (x18 + (1 : Int), nth (nth o0 (nth list0 x18.toNat).toNat) (nth list0 x12.toNat).toNat))
    else
     ask (InI (x18 + (1 : Int))) <|
     some (.inl (x18 + (1 : Int), false))
   else
    some (.inr x7)
def S_impl_order_greatest_l1 (o0 : List (List Bool)) (list0 : List Int) (x12 : Int) : (Int × Bool) → St := fun s => [(18, A.val (vint s.1)), (17, A.val (vint ((↑list0.length : Int)))), (16, A.val ((slr false 1 vint) (list0))), (7, A.val (V.bool s.2)), (6, A.val (vint (nth list0 x12.toNat))), (12, A.val (vint (x12))), (11, A.val (vint ((↑list0.length : Int)))), (10, A.val ((slr false 1 vint) (list0))), (0, A.val ((slr false 1 (slr false 1 V.bool)) (o0))), (1, A.val ((slr false 1 vint) (list0)))]
def T_impl_order_greatest_l1 (o0 : List (List Bool)) (list0 : List Int) (x12 : Int) : Bool → Tgt
  | s => ((Ex.exit 2), [7, 6, 12, 11, 10, 0, 1], [(7, A.val (V.bool s)), (6, A.val (vint (nth list0 x12.toNat))), (12, A.val (vint (x12))), (11, A.val (vint ((↑list0.length : Int)))), (10, A.val ((slr false 1 vint) (list0))), (0, A.val ((slr false 1 (slr false 1 V.bool)) (o0))), (1, A.val ((slr false 1 vint) (list0)))])
theorem b_impl_order_greatest_l1 {o0 : List (List Bool)} {list0 : List Int} {x12 : Int} (s : (Int × Bool)) (o : (Int × Bool) ⊕ Bool) (h : F_impl_order_greatest_l1 o0 list0 x12 s = some o) : vc Try.prog c_impl_order_greatest_l1 (outQ [18, 17, 16, 7, 6, 12, 11, 10, 0, 1] (S_impl_order_greatest_l1 o0 list0 x12) (T_impl_order_greatest_l1 o0 list0 x12) o) (S_impl_order_greatest_l1 o0 list0 x12 s) := by
  obtain ⟨x18, x7⟩ := s
  unfold F_impl_order_greatest_l1 at h
  try dsimp only at h
  conv => whnf
  refine Br.od h (fun p3 h => ?_) (fun p3 h => ?_)
  · conv => whnf
    refine Len.map ?_
    conv => whnf
    refine Ask.o h fun p4 h => ?_
    conv => whnf
    refine Elem.o (by first | omega | (simp only [mulN] at *; omega) | (simp [mulN] at *; omega)) ?_
    conv => whnf
    refine Br.ob h (fun p5 h => ?_) (fun p5 h => ?_)
    · conv => whnf
      refine Br.yes ?_
      conv => whnf
      refine Br.yes ?_
      conv => whnf
      refine Len.map ?_
      conv => whnf
      refine Ask.o h fun p6 h => ?_
      conv => whnf
      refine Elem.o (by first | omega | (simp only [mulN] at *; omega) | (simp [mulN] at *; omega)) ?_
      conv => whnf
      refine Br.yes ?_
      conv => whnf
      refine Br.yes ?_
      conv => whnf
      refine Br.yes ?_
      conv => whnf
      refine Len.map ?_
      conv => whnf
      refine Ask.o h fun p7 h => ?_
      conv => whnf
      refine Elem.o (by first | omega | (simp only [mulN] at *; omega) | (simp [mulN] at *; omega)) ?_
      conv => whnf
      refine Br.yes ?_
      conv => whnf
      refine Br.yes ?_
      conv => whnf
      refine Ask.o h fun p8 h => ?_
      conv => whnf
      cases h; exact ⟨rfl, rfl⟩
    · conv => whnf
      refine Br.no ?_
      conv => whnf
      refine Br.no ?_
      conv => whnf
      refine Br.no ?_
      conv => whnf
      refine Br.no ?_
      conv => whnf
      refine Br.no ?_
      conv => whnf
      refine Br.no ?_
      conv => whnf
      refine Br.no ?_
      conv => whnf
      refine Ask.o h fun p9 h => ?_
      conv => whnf
      cases h; exact ⟨rfl, rfl⟩
  · conv => whnf
    cases h; exact ⟨rfl, rfl⟩

noncomputable def F_impl_order_greatest_l2 (o0 : List (List Bool)) (list0 : List Int) : Int → Option (Int ⊕ (Int ⊕ Unit)) := fun x12 =>
   if x12 < (↑list0.length : Int) then
    ask ((0 : Int) ≤ x12 ∧ x12 < (↑list0.length : Int)) <|
    (loopO (F_impl_order_greatest_l1 o0 list0 x12) ((0 : Int), true)).bind fun q10_7 =>
    if (q10_7) = true then
     some (.inr (.inl (nth list0 x12.toNat)))
    else
     ask (InI (x12 + (1 : Int))) <|
     some (.inl (x12 + (1 : Int)))
   else
    some (.inr (.inr ()))
def S_impl_order_greatest_l2 (o0 : List (List Bool)) (list0 : List Int) : Int → St := fun s => [(12, A.val (vint s)), (11, A.val (vint ((↑list0.length : Int)))), (10, A.val ((slr false 1 vint) (list0))), (0, A.val ((slr false 1 (slr false 1 V.bool)) (o0))), (1, A.val ((slr false 1 vint) (list0)))]
def T_impl_order_greatest_l2 (_o0 : List (List Bool)) (_list0 : List Int) : (Int ⊕ Unit) → Tgt
  | (.inl s) => (Ex.ret, [4], [(4, A.val (vint s))])
  | (.inr _s) => ((Ex.exit 0), [], [])
theorem b_impl_order_greatest_l2 {o0 : List (List Bool)} {list0 : List Int} (x12 : Int) (o : Int ⊕ (Int ⊕ Unit)) (h : F_impl_order_greatest_l2 o0 list0 x12 = some o) : vc Try.prog c_impl_order_greatest_l2 (outQ [12, 11, 10, 0, 1] (S_impl_order_greatest_l2 o0 list0) (T_impl_order_greatest_l2 o0 list0) o) (S_impl_order_greatest_l2 o0 list0 x12) := by
  unfold F_impl_order_greatest_l2 at h
  try dsimp only at h
  conv => whnf
  refine Br.od h (fun p1 h => ?_) (fun p1 h => ?_)
  · conv => whnf
    refine Len.map ?_
    conv => whnf
    refine Ask.o h fun p2 h => ?_
    conv => whnf
    refine Elem.o (by first | omega | (simp only [mulN] at *; omega) | (simp [mulN] at *; omega)) ?_
    conv => whnf
    refine Len.map ?_
    conv => whnf
    refine LoopQ.o [18, 17, 16, 7, 6, 12, 11, 10, 0, 1] (S_impl_order_greatest_l1 o0 list0 x12) (T_impl_order_greatest_l1 o0 list0 x12) h (fun s o h => b_impl_order_greatest_l1 s o h) (by first | rfl | simp [restrict, look, mulN_one, V.fz, fzL, V.up, upL, fzL_map, fz_slr, fz_at, slr]) (fun _ => rfl) ?_
    rintro q10_7 h
    try dsimp only at h
    conv => whnf
    refine Br.ob h (fun p11 h => ?_) (fun p11 h => ?_)
    · conv => whnf
      cases h; exact ⟨rfl, rfl⟩
    · conv => whnf
      refine Ask.o h fun p12 h => ?_
      conv => whnf
      cases h; exact ⟨rfl, rfl⟩
  · conv => whnf
    cases h; exact ⟨rfl, rfl⟩

noncomputable def F_impl_order_greatest (o0 : (List (List Bool))) (list0 : (List Int)) : Option Int :=
  (loopO (F_impl_order_greatest_l2 o0 list0) (0 : Int)).bind fun t => match t with
  | (.inl q13_4) => (some q13_4)
  | (.inr _) => (some (-1 : Int))
theorem t_impl_order_greatest {o0 : (List (List Bool))} {list0 : (List Int)} {v : Int} (h : F_impl_order_greatest o0 list0 = some v) : Ret Try.prog f_impl_order_greatest [(slr false 1 (slr false 1 V.bool)) o0, (slr false 1 vint) list0] (vint v) := by
  refine ret_vc k_impl_order_greatest (Nat.le_of_ble_eq_true rfl) ?_
  unfold F_impl_order_greatest at h
  conv => whnf
  refine Len.map ?_
  conv => whnf
  refine LoopQ.o [12, 11, 10, 0, 1] (S_impl_order_greatest_l2 o0 list0) (T_impl_order_greatest_l2 o0 list0) h (fun s o h => b_impl_order_greatest_l2 s o h) (by first | rfl | simp [restrict, look, mulN_one, V.fz, fzL, V.up, upL, fzL_map, fz_slr, fz_at, slr]) (by rintro (_ | _) <;> rfl) ?_
  rintro (q13_4 | ⟨⟩) h
  · try dsimp only at h
    conv => whnf
    cases h; exact (by first | rfl | simp [resV, mulN_one, V.fz, fzL, V.up, upL, fzL_map, fz_slr, fz_at, slr])
  · try dsimp only at h
    conv => whnf
    cases h; exact (by first | rfl | simp [resV, mulN_one, V.fz, fzL, V.up, upL, fzL_map, fz_slr, fz_at, slr])

noncomputable def F_impl_order_meetTable_1 (z0 : Int) (a1 : (List (List Bool))) (a2 : Int) (a3 : Int) : Option Bool :=
  ask ((0 : Int) ≤ z0 ∧ z0 < (↑a1.length : Int)) <|
  ask ((0 : Int) ≤ a2 ∧ a2 < (↑(nth a1 z0.toNat).length : Int)) <|
  if (nth (nth a1 z0.toNat) a2.toNat) = true then
   ask ((0 : Int) ≤ z0 ∧ z0 < (↑a1.length : Int)) <|
   ask ((0 : Int) ≤ a3 ∧ a3 < (↑(nth a1 z0.toNat).length : Int)) <|
   some (nth (nth a1 z0.toNat) a3.toNat)
  else
   some false
theorem t_impl_order_meetTable_1 {z0 : Int} {a1 : (List (List Bool))} {a2 : Int} {a3 : Int} {v : Bool} (h : F_impl_order_meetTable_1 z0 a1 a2 a3 = some v) : Ret Try.prog f_impl_order_meetTable_1 [vint z0, (rP false (slr false 1 (slr false 1 V.bool))) a1, (rP false vint) a2, (rP false vint) a3] (V.bool v) := by
  refine ret_vc k_impl_order_meetTable_1 (Nat.le_of_ble_eq_true rfl) ?_
  unfold F_impl_order_meetTable_1 at h
  conv => whnf
  refine Len.map ?_
  conv => whnf
  refine Ask.o h fun p1 h => ?_
  conv => whnf
  refine Elem.o (by first | omega | (simp only [mulN] at *; omega) | (simp [mulN] at *; omega)) ?_
  conv => whnf
  refine Len.map ?_
  conv => whnf
  refine Ask.o h fun p2 h => ?_
  conv => whnf
  refine Elem.o (by first | omega | (simp only [mulN] at *; omega) | (simp [mulN] at *; omega)) ?_
  conv => whnf
  refine Br.ob h (fun p3 h => ?_) (fun p3 h => ?_)
  · conv => whnf
    refine Br.yes ?_
    conv => whnf
    refine Br.yes ?_
    conv => whnf
    refine Len.map ?_
    conv => whnf
    refine Ask.o h fun p4 h => ?_
    conv => whnf
    refine Elem.o (by first | omega | (simp only [mulN] at *; omega) | (simp [mulN] at *; omega)) ?_
    conv => whnf
    refine Br.yes ?_
    conv => whnf
    refine Br.yes ?_
    conv => whnf
    refine Br.yes ?_
    conv => whnf
    refine Len.map ?_
    conv => whnf
    refine Ask.o h fun p5 h => ?_
    conv => whnf
    refine Elem.o (by first | omega | (simp only [mulN] at *; omega) | (simp [mulN] at *; omega)) ?_
    conv => whnf
    refine Br.yes ?_
    conv => whnf
    refine Br.yes ?_
    conv => whnf
    cases h; exact (by first | rfl | simp [resV, mulN_one, V.fz, fzL, V.up, upL, fzL_map, fz_slr, fz_at, slr])
  · conv => whnf
    refine Br.no ?_
    conv => whnf
    refine Br.no ?_
    conv => whnf
    refine Br.no ?_
    conv => whnf
    refine Br.no ?_
    conv => whnf
    refine Br.no ?_
    conv => whnf
    refine Br.no ?_
    conv => whnf
    refine Br.no ?_
    conv => whnf
    cases h; exact (by first | rfl | simp [resV, mulN_one, V.fz, fzL, V.up, upL, fzL_map, fz_slr, fz_at, slr])

noncomputable def F_spec_l2Pow_l1 (n0 : Int) : (Int × Int) → Option ((Int × Int) ⊕ Int) := fun (x5, x1) =>
   if x1 > (0 : Int) then
    ask (InI (x5 * n0)) <|
    ask (InI (x1 - (1 : Int))) <|
    some (.inl (x5 * n0, x1 - (1 : Int)))
   else
    some (.inr x5)
def S_spec_l2Pow_l1 (n0 : Int) : (Int × Int) → St := fun s => [(5, A.val (vint s.1)), (0, A.val (vint (n0))), (1, A.val (vint s.2))]
def T_spec_l2Pow_l1 (_n0 : Int) : Int → Tgt
  | s => ((Ex.exit 0), [5], [(5, A.val (vint s))])
theorem b_spec_l2Pow_l1 {n0 : Int} (s : (Int × Int)) (o : (Int × Int) ⊕ Int) (h : F_spec_l2Pow_l1 n0 s = some o) : vc Try.prog c_spec_l2Pow_l1 (outQ [5, 0, 1] (S_spec_l2Pow_l1 n0) (T_spec_l2Pow_l1 n0) o) (S_spec_l2Pow_l1 n0 s) := by
  obtain ⟨x5, x1⟩ := s
  unfold F_spec_l2Pow_l1 at h
  try dsimp only at h
  conv => whnf
  refine Br.od h (fun p1 h => ?_) (fun p1 h => ?_)
  · conv => whnf
    refine Ask.o h fun p2 h => ?_
    conv => whnf
    refine Ask.o h fun p3 h => ?_
    conv => whnf
    cases h; exact ⟨rfl, rfl⟩
  · conv => whnf
    cases h; exact ⟨rfl, rfl⟩

noncomputable def F_spec_l2Pow (n0 : Int) (k0 : Int) : Option Int :=
  (loopO (F_spec_l2Pow_l1 n0) ((1 : Int), k0)).bind fun q4_5 =>
  some q4_5
theorem t_spec_l2Pow {n0 : Int} {k0 : Int} {v : Int} (h : F_spec_l2Pow n0 k0 = some v) : Ret Try.prog f_spec_l2Pow [vint n0, vint k0] (vint v) := by
  refine ret_vc k_spec_l2Pow (Nat.le_of_ble_eq_true rfl) ?_
  unfold F_spec_l2Pow at h
  conv => whnf
  refine LoopQ.o [5, 0, 1] (S_spec_l2Pow_l1 n0) (T_spec_l2Pow_l1 n0) h (fun s o h => b_spec_l2Pow_l1 s o h) (by first | rfl | simp [restrict, look, mulN_one, V.fz, fzL, V.up, upL, fzL_map, fz_slr, fz_at, slr]) (fun _ => rfl) ?_
  rintro q4_5 h
  try dsimp only at h
  conv => whnf
  cases h; exact (by first | rfl | simp [resV, mulN_one, V.fz, fzL, V.up, upL, fzL_map, fz_slr, fz_at, slr])

noncomputable def F_impl_power_l1 (n0 : Int) : (Int × Int) → Option ((Int × Int) ⊕ Int) := fun (x5, x1) =>
   if x1 > (0 : Int) then
    ask (InI (x5 * n0)) <|
    ask (InI (x1 - (1 : Int))) <|
    some (.inl (x5 * n0, x1 - (1 : Int)))
   else
    some (.inr x5)
def S_impl_power_l1 (n0 : Int) : (Int × Int) → St := fun s => [(5, A.val (vint s.1)), (0, A.val (vint (n0))), (1, A.val (vint s.2))]
def T_impl_power_l1 (_n0 : Int) : Int → Tgt
  | s => ((Ex.exit 0), [5], [(5, A.val (vint s))])
theorem b_impl_power_l1 {n0 : Int} (s : (Int × Int)) (o : (Int × Int) ⊕ Int) (h : F_impl_power_l1 n0 s = some o) : vc Try.prog c_impl_power_l1 (outQ [5, 0, 1] (S_impl_power_l1 n0) (T_impl_power_l1 n0) o) (S_impl_power_l1 n0 s) := by
  obtain ⟨x5, x1⟩ := s
  unfold F_impl_power_l1 at h
  try dsimp only at h
  conv => whnf
  refine Br.od h (fun p1 h => ?_) (fun p1 h => ?_)
  · conv => whnf
    refine Ask.o h fun p2 h => ?_
    conv => whnf
    refine Ask.o h fun p3 h => ?_
    conv => whnf
    cases h; exact ⟨rfl, rfl⟩
  · conv => whnf
    cases h; exact ⟨rfl, rfl⟩

noncomputable def F_impl_power (n0 : Int) (k0 : Int) : Option Int :=
  (loopO (F_impl_power_l1 n0) ((1 : Int), k0)).bind fun q4_5 =>
  some q4_5
theorem t_impl_power {n0 : Int} {k0 : Int} {v : Int} (h : F_impl_power n0 k0 = some v) : Ret Try.prog f_impl_power [vint n0, vint k0] (vint v) := by
  refine ret_vc k_impl_power (Nat.le_of_ble_eq_true rfl) ?_
  unfold F_impl_power at h
  conv => whnf
  refine LoopQ.o [5, 0, 1] (S_impl_power_l1 n0) (T_impl_power_l1 n0) h (fun s o h => b_impl_power_l1 s o h) (by first | rfl | simp [restrict, look, mulN_one, V.fz, fzL, V.up, upL, fzL_map, fz_slr, fz_at, slr]) (fun _ => rfl) ?_
  rintro q4_5 h
  try dsimp only at h
  conv => whnf
  cases h; exact (by first | rfl | simp [resV, mulN_one, V.fz, fzL, V.up, upL, fzL_map, fz_slr, fz_at, slr])

noncomputable def F_impl_clone (list0 : (List Int)) : Option (List Int) :=
  ask ((nilL Int).length + (list0).length ≤ LIM) <|
  some (nilL Int ++ list0)
theorem t_impl_clone {list0 : (List Int)} {v : (List Int)} (h : F_impl_clone list0 = some v) : Ret Try.prog f_impl_clone [(slr false 1 vint) list0] ((slr true 1 vint) v) := by
  refine ret_vc k_impl_clone (Nat.le_of_ble_eq_true rfl) ?_
  unfold F_impl_clone at h
  conv => whnf
  refine BslQ.o vint (nilL Int) (by exact fun _ => ⟨rfl, rfl⟩) (by first | rfl | simp only [mulN_one, V.fz, fzL, V.up, upL, fzL_map, fz_slr, fz_at, slr, List.cons_append, List.nil_append] | simp [mulN_one, V.fz, fzL, V.up, upL, fzL_map, fz_slr, fz_at, slr]) ?_
  conv => whnf
  refine AppQ.o vint (by exact fun _ => ⟨rfl, rfl⟩) (nilL Int) (list0) (by first | rfl | simp only [mulN_one, V.fz, fzL, V.up, upL, fzL_map, fz_slr, fz_at, slr, List.cons_append, List.nil_append] | simp [mulN_one, V.fz, fzL, V.up, upL, fzL_map, fz_slr, fz_at, slr]) (by first | rfl | simp only [mulN_one, V.fz, fzL, V.up, upL, fzL_map, fz_slr, fz_at, slr, List.cons_append, List.nil_append] | simp [mulN_one, V.fz, fzL, V.up, upL, fzL_map, fz_slr, fz_at, slr]) h fun h => ?_
  conv => whnf
  cases h; exact (by first | rfl | simp [resV, mulN_one, V.fz, fzL, V.up, upL, fzL_map, fz_slr, fz_at, slr])

noncomputable def F_laws_eqIntA2S_l1 (a0 : List (Int × Int)) (b0 : List (Int × Int)) : Int → Option (Int ⊕ (Unit ⊕ Unit)) := fun x5 =>
   if x5 < (↑a0.length : Int) then
    ask ((0 : Int) ≤ x5 ∧ x5 < (↑a0.length : Int)) <|
    ask ((0 : Int) ≤ x5 ∧ x5 < (↑b0.length : Int)) <|
    (F_laws_eqIntA2 (nth a0 x5.toNat) (nth b0 x5.toNat)).bind fun r5 =>
    if (r5) = true then
     ask (InI (x5 + (1 : Int))) <|
     some (.inl (x5 + (1 : Int)))
    else
     some (.inr (.inl ()))
   else
    some (.inr (.inr ()))
def S_laws_eqIntA2S_l1 (a0 : List (Int × Int)) (b0 : List (Int × Int)) : Int → St := fun s => [(5, A.val (vint s)), (0, A.val ((slr false 2 (rA2 vint)) (a0))), (1, A.val ((slr false 2 (rA2 vint)) (b0)))]
def T_laws_eqIntA2S_l1 (_a0 : List (Int × Int)) (_b0 : List (Int × Int)) : (Unit ⊕ Unit) → Tgt
  | (.inl _s) => (Ex.ret, [4], [(4, A.val (V.bool (false)))])
  | (.inr _s) => ((Ex.exit 0), [], [])
theorem b_laws_eqIntA2S_l1 {a0 : List (Int × Int)} {b0 : List (Int × Int)} (x5 : Int) (o : Int ⊕ (Unit ⊕ Unit)) (h : F_laws_eqIntA2S_l1 a0 b0 x5 = some o) : vc Try.prog c_laws_eqIntA2S_l1 (outQ [5, 0, 1] (S_laws_eqIntA2S_l1 a0 b0) (T_laws_eqIntA2S_l1 a0 b0) o) (S_laws_eqIntA2S_l1 a0 b0 x5) := by
  unfold F_laws_eqIntA2S_l1 at h
  try dsimp only at h
  conv => whnf
  refine Len.map ?_
  conv => whnf
  refine Br.od h (fun p2 h => ?_) (fun p2 h => ?_)
  · conv => whnf
    refine Len.map ?_
    conv => whnf
    refine Ask.o h fun p3 h => ?_
    conv => whnf
    refine Elem.o (by first | omega | (simp only [mulN] at *; omega) | (simp [mulN] at *; omega)) ?_
    conv => whnf
    refine Len.map ?_
    conv => whnf
    refine Ask.o h fun p4 h => ?_
    conv => whnf
    refine Elem.o (by first | omega | (simp only [mulN] at *; omega) | (simp [mulN] at *; omega)) ?_
    conv => whnf
    refine CallQ.o V.bool (by first | rfl | simp only [mulN_one, V.fz, fzL, V.up, upL, fzL_map, fz_slr, fz_at, slr, List.cons_append, List.nil_append] | simp [mulN_one, V.fz, fzL, V.up, upL, fzL_map, fz_slr, fz_at, slr]) h (fun r h => t_laws_eqIntA2 h) (fun r5 h => ?_)
    conv => whnf
    refine Br.flip ?_
    conv => whnf
    refine Br.ob h (fun p6 h => ?_) (fun p6 h => ?_)
    · conv => whnf
      refine Ask.o h fun p7 h => ?_
      conv => whnf
      cases h; exact ⟨rfl, rfl⟩
    · conv => whnf
      cases h; exact ⟨rfl, rfl⟩
  · conv => whnf
    cases h; exact ⟨rfl, rfl⟩

noncomputable def F_laws_eqIntA2S (a0 : (List (Int × Int))) (b0 : (List (Int × Int))) : Option Bool :=
  if (↑a0.length : Int) ≠ (↑b0.length : Int) then
   some false
  else
   (loopO (F_laws_eqIntA2S_l1 a0 b0) (0 : Int)).bind fun t => match t with
   | (.inl _) => (some false)
   | (.inr _) => (some true)
theorem t_laws_eqIntA2S {a0 : (List (Int × Int))} {b0 : (List (Int × Int))} {v : Bool} (h : F_laws_eqIntA2S a0 b0 = some v) : Ret Try.prog f_laws_eqIntA2S [(slr false 2 (rA2 vint)) a0, (slr false 2 (rA2 vint)) b0] (V.bool v) := by
  refine ret_vc k_laws_eqIntA2S (Nat.le_of_ble_eq_true rfl) ?_
  unfold F_laws_eqIntA2S at h
  conv => whnf
  refine Len.map ?_
  conv => whnf
  refine Len.map ?_
  conv => whnf
  refine Br.on h (fun p1 h => ?_) (fun p1 h => ?_)
  · conv => whnf
    cases h; exact (by first | rfl | simp [resV, mulN_one, V.fz, fzL, V.up, upL, fzL_map, fz_slr, fz_at, slr])
  · conv => whnf
    refine LoopQ.o [5, 0, 1] (S_laws_eqIntA2S_l1 a0 b0) (T_laws_eqIntA2S_l1 a0 b0) h (fun s o h => b_laws_eqIntA2S_l1 s o h) (by first | rfl | simp [restrict, look, mulN_one, V.fz, fzL, V.up, upL, fzL_map, fz_slr, fz_at, slr]) (by rintro (_ | _) <;> rfl) ?_
    rintro (⟨⟩ | ⟨⟩) h
    · try dsimp only at h
      conv => whnf
      cases h; exact (by first | rfl | simp [resV, mulN_one, V.fz, fzL, V.up, upL, fzL_map, fz_slr, fz_at, slr])
    · try dsimp only at h
      conv => whnf
      cases h; exact (by first | rfl | simp [resV, mulN_one, V.fz, fzL, V.up, upL, fzL_map, fz_slr, fz_at, slr])

noncomputable def F_laws_eqIntSS_l1 (a0 : List (List Int)) (b0 : List (List Int)) : Int → Option (Int ⊕ (Unit ⊕ Unit)) := fun x5 =>
   if x5 < (↑a0.length : Int) then
    ask ((0 : Int) ≤ x5 ∧ x5 < (↑a0.length : Int)) <|
    ask ((0 : Int) ≤ x5 ∧ x5 < (↑b0.length : Int)) <|
    (F_laws_eqIntS (nth a0 x5.toNat) (nth b0 x5.toNat)).bind fun r5 =>
    if (r5) = true then
     ask (InI (x5 + (1 : Int))) <|
     some (.inl (x5 + (1 : Int)))
    else
     some (.inr (.inl ()))
   else
    some (.inr (.inr ()))
def S_laws_eqIntSS_l1 (a0 : List (List Int)) (b0 : List (List Int)) : Int → St := fun s => [(5, A.val (vint s)), (0, A.val ((slr false 1 (slr false 1 vint)) (a0))), (1, A.val ((slr false 1 (slr false 1 vint)) (b0)))]
def T_laws_eqIntSS_l1 (_a0 : List (List Int)) (_b0 : List (List Int)) : (Unit ⊕ Unit) → Tgt
  | (.inl _s) => (Ex.ret, [4], [(4, A.val (V.bool (false)))])
  | (.inr _s) => ((Ex.exit 0), [], [])
theorem b_laws_eqIntSS_l1 {a0 : List (List Int)} {b0 : List (List Int)} (x5 : Int) (o : Int ⊕ (Unit ⊕ Unit)) (h : F_laws_eqIntSS_l1 a0 b0 x5 = some o) : vc Try.prog c_laws_eqIntSS_l1 (outQ [5, 0, 1] (S_laws_eqIntSS_l1 a0 b0) (T_laws_eqIntSS_l1 a0 b0) o) (S_laws_eqIntSS_l1 a0 b0 x5) := by
  unfold F_laws_eqIntSS_l1 at h
  try dsimp only at h
  conv => whnf
  refine Len.map ?_
  conv => whnf
  refine Br.od h (fun p2 h => ?_) (fun p2 h => ?_)
  · conv => whnf
    refine Len.map ?_
    conv => whnf
    refine Ask.o h fun p3 h => ?_
    conv => whnf
    refine Elem.o (by first | omega | (simp only [mulN] at *; omega) | (simp [mulN] at *; omega)) ?_
    conv => whnf
    refine Len.map ?_
    conv => whnf
    refine Ask.o h fun p4 h => ?_
    conv => whnf
    refine Elem.o (by first | omega | (simp only [mulN] at *; omega) | (simp [mulN] at *; omega)) ?_
    conv => whnf
    refine CallQ.o V.bool (by first | rfl | simp only [mulN_one, V.fz, fzL, V.up, upL, fzL_map, fz_slr, fz_at, slr, List.cons_append, List.nil_append] | simp [mulN_one, V.fz, fzL, V.up, upL, fzL_map, fz_slr, fz_at, slr]) h (fun r h => t_laws_eqIntS h) (fun r5 h => ?_)
    conv => whnf
    refine Br.flip ?_
    conv => whnf
    refine Br.ob h (fun p6 h => ?_) (fun p6 h => ?_)
    · conv => whnf
      refine Ask.o h fun p7 h => ?_
      conv => whnf
      cases h; exact ⟨rfl, rfl⟩
    · conv => whnf
      cases h; exact ⟨rfl, rfl⟩
  · conv => whnf
    cases h; exact ⟨rfl, rfl⟩

noncomputable def F_laws_eqIntSS (a0 : (List (List Int))) (b0 : (List (List Int))) : Option Bool :=
  if (↑a0.length : Int) ≠ (↑b0.length : Int) then
   some false
  else
   (loopO (F_laws_eqIntSS_l1 a0 b0) (0 : Int)).bind fun t => match t with
   | (.inl _) => (some false)
   | (.inr _) => (some true)
theorem t_laws_eqIntSS {a0 : (List (List Int))} {b0 : (List (List Int))} {v : Bool} (h : F_laws_eqIntSS a0 b0 = some v) : Ret Try.prog f_laws_eqIntSS [(slr false 1 (slr false 1 vint)) a0, (slr false 1 (slr false 1 vint)) b0] (V.bool v) := by
  refine ret_vc k_laws_eqIntSS (Nat.le_of_ble_eq_true rfl) ?_
  unfold F_laws_eqIntSS at h
  conv => whnf
  refine Len.map ?_
  conv => whnf
  refine Len.map ?_
  conv => whnf
  refine Br.on h (fun p1 h => ?_) (fun p1 h => ?_)
  · conv => whnf
    cases h; exact (by first | rfl | simp [resV, mulN_one, V.fz, fzL, V.up, upL, fzL_map, fz_slr, fz_at, slr])
  · conv => whnf
    refine LoopQ.o [5, 0, 1] (S_laws_eqIntSS_l1 a0 b0) (T_laws_eqIntSS_l1 a0 b0) h (fun s o h => b_laws_eqIntSS_l1 s o h) (by first | rfl | simp [restrict, look, mulN_one, V.fz, fzL, V.up, upL, fzL_map, fz_slr, fz_at, slr]) (by rintro (_ | _) <;> rfl) ?_
    rintro (⟨⟩ | ⟨⟩) h
    · try dsimp only at h
      conv => whnf
      cases h; exact (by first | rfl | simp [resV, mulN_one, V.fz, fzL, V.up, upL, fzL_map, fz_slr, fz_at, slr])
    · try dsimp only at h
      conv => whnf
      cases h; exact (by first | rfl | simp [resV, mulN_one, V.fz, fzL, V.up, upL, fzL_map, fz_slr, fz_at, slr])

noncomputable def F_laws_markIntSS_l1 : (Int × (List (List Int)) × Int) → Option ((Int × (List (List Int)) × Int) ⊕ ((List (List Int)) × Int)) := fun (x5, x19, x1) =>
   if x5 < (↑x19.length : Int) then
    ask ((0 : Int) ≤ x5 ∧ x5 < (↑x19.length : Int)) <|
    (F_laws_markIntS (nth x19 x5.toNat) (x1)).bind fun (r3, u4) =>
    ask (InI (x5 + (1 : Int))) <|
    some (.inl (x5 + (1 : Int), x19.set x5.toNat u4, r3))
   else
    some (.inr (x19, x1))
def S_laws_markIntSS_l1 : (Int × (List (List Int)) × Int) → St := fun s => [(5, A.val (vint s.1)), (0, A.ref ((19 : Nat) + (0 : Nat)) []), (19, A.val ((slr true 1 (slr true 1 vint)) s.2.1)), (1, A.val (vint s.2.2))]
def T_laws_markIntSS_l1 : ((List (List Int)) × Int) → Tgt
  | s => ((Ex.exit 0), [19, 1], [(19, A.val ((slr true 1 (slr true 1 vint)) s.1)), (1, A.val (vint s.2))])
theorem b_laws_markIntSS_l1 (s : (Int × (List (List Int)) × Int)) (o : (Int × (List (List Int)) × Int) ⊕ ((List (List Int)) × Int)) (h : F_laws_markIntSS_l1 s = some o) : vc Try.prog c_laws_markIntSS_l1 (outQ [5, 0, 19, 1] (S_laws_markIntSS_l1) (T_laws_markIntSS_l1) o) (S_laws_markIntSS_l1 s) := by
  obtain ⟨x5, x19, x1⟩ := s
  unfold F_laws_markIntSS_l1 at h
  try dsimp only at h
  conv => whnf
  refine Len.map ?_
  conv => whnf
  refine Br.od h (fun p1 h => ?_) (fun p1 h => ?_)
  · conv => whnf
    refine Len.map ?_
    conv => whnf
    refine Ask.o h fun p2 h => ?_
    conv => whnf
    refine Cells.one (fun _ => ⟨rfl, rfl⟩) (by first | omega | (simp only [mulN] at *; omega) | (simp [mulN] at *; omega)) ?_
    conv => whnf
    refine Kid.one (fun _ => ⟨rfl, rfl⟩) (by first | omega | (simp only [mulN] at *; omega) | (simp [mulN] at *; omega)) ?_
    conv => whnf
    refine CallQ.io vint (slr true 1 vint) (by first | rfl | simp only [mulN_one, V.fz, fzL, V.up, upL, fzL_map, fz_slr, fz_at, slr, List.cons_append, List.nil_append] | simp [mulN_one, V.fz, fzL, V.up, upL, fzL_map, fz_slr, fz_at, slr]) rfl (fun _ => rfl) (fun _ => ⟨rfl, rfl⟩) rfl h (fun r h => t_laws_markIntS h) (fun r3 u4 h => ?_)
    conv => whnf
    refine Kid.one (fun _ => ⟨rfl, rfl⟩) (by first | omega | (simp only [mulN] at *; omega) | (simp [mulN] at *; omega)) ?_
    conv => whnf
    refine SetKids.one (fun _ => ⟨rfl, rfl⟩) (u4) (by first | rfl | simp only [mulN_one, V.fz, fzL, V.up, upL, fzL_map, fz_slr, fz_at, slr, List.cons_append, List.nil_append] | simp [mulN_one, V.fz, fzL, V.up, upL, fzL_map, fz_slr, fz_at, slr]) (by first | omega | (simp only [mulN] at *; omega) | (simp [mulN] at *; omega)) ?_
    conv => whnf
    refine Ask.o h fun p5 h => ?_
    conv => whnf
    cases h; exact ⟨rfl, rfl⟩
  · conv => whnf
    cases h; exact ⟨rfl, rfl⟩

noncomputable def F_laws_markIntSS (a0 : (List (List Int))) (k0 : Int) : Option (Int × (List (List Int))) :=
  (loopO (F_laws_markIntSS_l1) ((0 : Int), a0, k0)).bind fun (q6_19, q6_1) =>
  some (q6_1, q6_19)
theorem t_laws_markIntSS {a0 : (List (List Int))} {k0 : Int} {v : (Int × (List (List Int)))} (h : F_laws_markIntSS a0 k0 = some v) : RetO Try.prog f_laws_markIntSS [(slr true 1 (slr true 1 vint)) a0, vint k0] (vint v.1) 0 ((slr true 1 (slr true 1 vint)) v.2) := by
  refine reto_vc k_laws_markIntSS (Nat.le_of_ble_eq_true rfl) ?_
  unfold F_laws_markIntSS at h
  conv => whnf
  refine LoopQ.o [5, 0, 19, 1] (S_laws_markIntSS_l1) (T_laws_markIntSS_l1) h (fun s o h => b_laws_markIntSS_l1 s o h) (by first | rfl | simp [restrict, look, mulN_one, V.fz, fzL, V.up, upL, fzL_map, fz_slr, fz_at, slr]) (fun _ => rfl) ?_
  rintro ⟨q6_19, q6_1⟩ h
  try dsimp only at h
  conv => whnf
  cases h; exact ⟨(by first | rfl | simp [resV, mulN_one, V.fz, fzL, V.up, upL, fzL_map, fz_slr, fz_at, slr]), (by first | rfl | simp [resV, mulN_one, V.fz, fzL, V.up, upL, fzL_map, fz_slr, fz_at, slr])⟩

noncomputable def F_laws_heldIntSS_l1 (a0 : List (List Int)) : (Int × Int) → Option ((Int × Int) ⊕ (Unit ⊕ Int)) := fun (x5, x1) =>
   if x5 < (↑a0.length : Int) then
    ask ((0 : Int) ≤ x5 ∧ x5 < (↑a0.length : Int)) <|
    (F_laws_heldIntS (nth a0 x5.toNat) (x1)).bind fun r3 =>
    if r3 < (0 : Int) then
     some (.inr (.inl ()))
    else
     ask (InI (x5 + (1 : Int))) <|
     some (.inl (x5 + (1 : Int), r3))
   else
    some (.inr (.inr x1))
def S_laws_heldIntSS_l1 (a0 : List (List Int)) : (Int × Int) → St := fun s => [(5, A.val (vint s.1)), (0, A.val ((slr false 1 (slr false 1 vint)) (a0))), (1, A.val (vint s.2))]
def T_laws_heldIntSS_l1 (_a0 : List (List Int)) : (Unit ⊕ Int) → Tgt
  | (.inl _s) => (Ex.ret, [4], [(4, A.val (vint ((-1 : Int))))])
  | (.inr s) => ((Ex.exit 0), [1], [(1, A.val (vint s))])
theorem b_laws_heldIntSS_l1 {a0 : List (List Int)} (s : (Int × Int)) (o : (Int × Int) ⊕ (Unit ⊕ Int)) (h : F_laws_heldIntSS_l1 a0 s = some o) : vc Try.prog c_laws_heldIntSS_l1 (outQ [5, 0, 1] (S_laws_heldIntSS_l1 a0) (T_laws_heldIntSS_l1 a0) o) (S_laws_heldIntSS_l1 a0 s) := by
  obtain ⟨x5, x1⟩ := s
  unfold F_laws_heldIntSS_l1 at h
  try dsimp only at h
  conv => whnf
  refine Len.map ?_
  conv => whnf
  refine Br.od h (fun p1 h => ?_) (fun p1 h => ?_)
  · conv => whnf
    refine Len.map ?_
    conv => whnf
    refine Ask.o h fun p2 h => ?_
    conv => whnf
    refine Elem.o (by first | omega | (simp only [mulN] at *; omega) | (simp [mulN] at *; omega)) ?_
    conv => whnf
    refine CallQ.o vint (by first | rfl | simp only [mulN_one, V.fz, fzL, V.up, upL, fzL_map, fz_slr, fz_at, slr, List.cons_append, List.nil_append] | simp [mulN_one, V.fz, fzL, V.up, upL, fzL_map, fz_slr, fz_at, slr]) h (fun r h => t_laws_heldIntS h) (fun r3 h => ?_)
    conv => whnf
    refine Br.od h (fun p4 h => ?_) (fun p4 h => ?_)
    · conv => whnf
      cases h; exact ⟨rfl, rfl⟩
    · conv => whnf
      refine Ask.o h fun p5 h => ?_
      conv => whnf
      cases h; exact ⟨rfl, rfl⟩
  · conv => whnf
    cases h; exact ⟨rfl, rfl⟩

noncomputable def F_laws_heldIntSS (a0 : (List (List Int))) (k0 : Int) : Option Int :=
  (loopO (F_laws_heldIntSS_l1 a0) ((0 : Int), k0)).bind fun t => match t with
  | (.inl _) => (some (-1 : Int))
  | (.inr q6_1) => (some q6_1)
theorem t_laws_heldIntSS {a0 : (List (List Int))} {k0 : Int} {v : Int} (h : F_laws_heldIntSS a0 k0 = some v) : Ret Try.prog f_laws_heldIntSS [(slr false 1 (slr false 1 vint)) a0, vint k0] (vint v) := by
  refine ret_vc k_laws_heldIntSS (Nat.le_of_ble_eq_true rfl) ?_
  unfold F_laws_heldIntSS at h
  conv => whnf
  refine LoopQ.o [5, 0, 1] (S_laws_heldIntSS_l1 a0) (T_laws_heldIntSS_l1 a0) h (fun s o h => b_laws_heldIntSS_l1 s o h) (by first | rfl | simp [restrict, look, mulN_one, V.fz, fzL, V.up, upL, fzL_map, fz_slr, fz_at, slr]) (by rintro (_ | _) <;> rfl) ?_
  rintro (⟨⟩ | q6_1) h
  · try dsimp only at h
    conv => whnf
    cases h; exact (by first | rfl | simp [resV, mulN_one, V.fz, fzL, V.up, upL, fzL_map, fz_slr, fz_at, slr])
  · try dsimp only at h
    conv => whnf
    cases h; exact (by first | rfl | simp [resV, mulN_one, V.fz, fzL, V.up, upL, fzL_map, fz_slr, fz_at, slr])

end Go.Proofs.Ythcnmahjhahafab.Ax
