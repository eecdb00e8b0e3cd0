/-
  What the functions compute, as functions on plain data, and that the program does compute it; written by program.
-/
import Derived.Test.YtdodfnbbfkcgnaaCode
import Derived.Test.YtdodfnbbfkcgnaaG1
namespace Go.Proofs.Ytdodfnbbfkcgnaa.Ax
open Go
set_option maxRecDepth 100000
set_option maxHeartbeats 4000000

noncomputable def F_impl_argsAt_l1 (n0 : Int) : (Int × (List Int) × Int) → Option ((Int × (List Int) × Int) ⊕ (List Int)) := fun (x8, x7, x0) =>
   if x8 ≥ (0 : Int) then
    ask (n0 ≠ (0 : Int)) <|
    ask ((0 : Int) ≤ x8 ∧ x8 < (↑x7.length : Int)) <|
    ask (n0 ≠ (0 : Int) ∧ InI (x0.tdiv n0)) <|
    ask (InI (x8 - (1 : Int))) <|
    some (.inl (x8 - (1 : Int), x7.set x8.toNat (x0.tmod n0), x0.tdiv n0))
   else
    some (.inr x7)
def S_impl_argsAt_l1 (n0 : Int) : (Int × (List Int) × Int) → St := fun s => [(8, A.val (vint s.1)), (7, A.val ((slr true 1 vint) s.2.1)), (0, A.val (vint s.2.2)), (2, A.val (vint (n0)))]
def T_impl_argsAt_l1 (_n0 : Int) : (List Int) → Tgt
  | s => ((Ex.exit 0), [7], [(7, A.val ((slr true 1 vint) s))])
theorem b_impl_argsAt_l1 {n0 : Int} (s : (Int × (List Int) × Int)) (o : (Int × (List Int) × Int) ⊕ (List Int)) (h : F_impl_argsAt_l1 n0 s = some o) : vc Try.prog c_impl_argsAt_l1 (outQ [8, 7, 0, 2] (S_impl_argsAt_l1 n0) (T_impl_argsAt_l1 n0) o) (S_impl_argsAt_l1 n0 s) := by
  obtain ⟨x8, x7, x0⟩ := s
  unfold F_impl_argsAt_l1 at h
  try dsimp only at h
  conv => whnf
  refine Br.od h (fun p3 h => ?_) (fun p3 h => ?_)
  · conv => whnf
    refine Ask.o h fun p4 h => ?_
    conv => whnf
    refine Len.map ?_
    conv => whnf
    refine Ask.o h fun p5 h => ?_
    conv => whnf
    refine SetKids.one (fun _ => ⟨rfl, rfl⟩) (x0.tmod n0) (by first | rfl | simp only [mulN_one, V.fz, fzL, V.up, upL, fzL_map, fz_slr, fz_at, slr, List.cons_append, List.nil_append] | simp [mulN_one, V.fz, fzL, V.up, upL, fzL_map, fz_slr, fz_at, slr]) (by first | omega | (simp only [mulN] at *; omega) | (simp [mulN] at *; omega)) ?_
    conv => whnf
    refine Ask.o h fun p6 h => ?_
    conv => whnf
    refine Ask.o h fun p7 h => ?_
    conv => whnf
    cases h; exact ⟨rfl, rfl⟩
  · conv => whnf
    cases h; exact ⟨rfl, rfl⟩

noncomputable def F_impl_argsAt (i0 : Int) (k0 : Int) (n0 : Int) : Option (List Int) :=
  ask ((0 : Int) ≤ k0 ∧ k0 ≤ (↑LIM : Int)) <|
  ask (InI (k0 - (1 : Int))) <|
  (loopO (F_impl_argsAt_l1 n0) (k0 - (1 : Int), List.replicate k0.toNat (0 : Int), i0)).bind fun q8_7 =>
  some q8_7
theorem t_impl_argsAt {i0 : Int} {k0 : Int} {n0 : Int} {v : (List Int)} (h : F_impl_argsAt i0 k0 n0 = some v) : Ret Try.prog f_impl_argsAt [vint i0, vint k0, vint n0] ((slr true 1 vint) v) := by
  refine ret_vc k_impl_argsAt (Nat.le_of_ble_eq_true rfl) ?_
  unfold F_impl_argsAt at h
  conv => whnf
  refine Ask.o h fun p1 h => ?_
  conv => whnf
  refine MkQ.o vint ((0 : Int)) rfl ?_
  conv => whnf
  refine Ask.o h fun p2 h => ?_
  conv => whnf
  refine LoopQ.o [8, 7, 0, 2] (S_impl_argsAt_l1 n0) (T_impl_argsAt_l1 n0) h (fun s o h => b_impl_argsAt_l1 s o h) (by first | rfl | simp [restrict, look, mulN_one, V.fz, fzL, V.up, upL, fzL_map, fz_slr, fz_at, slr]) (fun _ => rfl) ?_
  rintro q8_7 h
  try dsimp only at h
  conv => whnf
  cases h; exact (by first | rfl | simp only [resV, mulN_one, V.fz, fzL, V.up, upL, fzL_map, fz_slr, fz_at, slr] | simp [resV, mulN_one, V.fz, fzL, V.up, upL, fzL_map, fz_slr, fz_at, slr])

noncomputable def F_impl_indexOf_l1 (args0 : List Int) (n0 : Int) : (Int × Int) → Option ((Int × Int) ⊕ Int) := fun (x10, x5) =>
   if x10 < (↑args0.length : Int) then
    ask ((0 : Int) ≤ x10 ∧ x10 < (↑args0.length : Int)) <|
    ask (InI (x5 * n0)) <|
    ask (InI (x5 * n0 + nth args0 x10.toNat)) <|
    ask (InI (x10 + (1 : Int))) <|
    some (.inl (x10 + (1 : Int), x5 * n0 + nth args0 x10.toNat))
   else
    some (.inr x5)
def S_impl_indexOf_l1 (args0 : List Int) (n0 : Int) : (Int × Int) → St := fun s => [(10, A.val (vint s.1)), (9, A.val (vint ((↑args0.length : Int)))), (8, A.val ((slr false 1 vint) (args0))), (5, A.val (vint s.2)), (1, A.val (vint (n0)))]
def T_impl_indexOf_l1 (_args0 : List Int) (_n0 : Int) : Int → Tgt
  | s => ((Ex.exit 0), [5], [(5, A.val (vint s))])
theorem b_impl_indexOf_l1 {args0 : List Int} {n0 : Int} (s : (Int × Int)) (o : (Int × Int) ⊕ Int) (h : F_impl_indexOf_l1 args0 n0 s = some o) : vc Try.prog c_impl_indexOf_l1 (outQ [10, 9, 8, 5, 1] (S_impl_indexOf_l1 args0 n0) (T_impl_indexOf_l1 args0 n0) o) (S_impl_indexOf_l1 args0 n0 s) := by
  obtain ⟨x10, x5⟩ := s
  unfold F_impl_indexOf_l1 at h
  try dsimp only at h
  conv => whnf
  refine Br.od h (fun p1 h => ?_) (fun p1 h => ?_)
  · conv => whnf
    refine Len.map ?_
    conv => whnf
    refine Ask.o h fun p2 h => ?_
    conv => whnf
    refine Elem.o (by first | omega | (simp only [mulN] at *; omega) | (simp [mulN] at *; omega)) ?_
    conv => whnf
    refine Ask.o h fun p3 h => ?_
    conv => whnf
    refine Ask.o h fun p4 h => ?_
    conv => whnf
    refine Ask.o h fun p5 h => ?_
    conv => whnf
    cases h; exact ⟨rfl, rfl⟩
  · conv => whnf
    cases h; exact ⟨rfl, rfl⟩

noncomputable def F_impl_indexOf (args0 : (List Int)) (n0 : Int) : Option Int :=
  (loopO (F_impl_indexOf_l1 args0 n0) ((0 : Int), (0 : Int))).bind fun q6_5 =>
  some q6_5
theorem t_impl_indexOf {args0 : (List Int)} {n0 : Int} {v : Int} (h : F_impl_indexOf args0 n0 = some v) : Ret Try.prog f_impl_indexOf [(slr false 1 vint) args0, vint n0] (vint v) := by
  refine ret_vc k_impl_indexOf (Nat.le_of_ble_eq_true rfl) ?_
  unfold F_impl_indexOf at h
  conv => whnf
  refine Len.map ?_
  conv => whnf
  refine LoopQ.o [10, 9, 8, 5, 1] (S_impl_indexOf_l1 args0 n0) (T_impl_indexOf_l1 args0 n0) h (fun s o h => b_impl_indexOf_l1 s o h) (by first | rfl | simp [restrict, look, mulN_one, V.fz, fzL, V.up, upL, fzL_map, fz_slr, fz_at, slr]) (fun _ => rfl) ?_
  rintro q6_5 h
  try dsimp only at h
  conv => whnf
  cases h; exact (by first | rfl | simp only [resV, mulN_one, V.fz, fzL, V.up, upL, fzL_map, fz_slr, fz_at, slr] | simp [resV, mulN_one, V.fz, fzL, V.up, upL, fzL_map, fz_slr, fz_at, slr])

noncomputable def F_spec_l1Has_l1 (l0 : List Int) (n0 : Int) : Int → Option (Int ⊕ (Unit ⊕ Unit)) := fun x5 =>
   if x5 < (↑l0.length : Int) then
    ask ((0 : Int) ≤ x5 ∧ x5 < (↑l0.length : Int)) <|
    if nth l0 x5.toNat = n0 then
     some (.inr (.inl ()))
    else
     ask (InI (x5 + (1 : Int))) <|
     some (.inl (x5 + (1 : Int)))
   else
    some (.inr (.inr ()))
def S_spec_l1Has_l1 (l0 : List Int) (n0 : Int) : Int → St := fun s => [(5, A.val (vint s)), (0, A.val ((slr false 1 vint) (l0))), (1, A.val (vint (n0)))]
def T_spec_l1Has_l1 (_l0 : List Int) (_n0 : Int) : (Unit ⊕ Unit) → Tgt
  | (.inl _s) => (Ex.ret, [4], [(4, A.val (V.bool (true)))])
  | (.inr _s) => ((Ex.exit 0), [], [])
theorem b_spec_l1Has_l1 {l0 : List Int} {n0 : Int} (x5 : Int) (o : Int ⊕ (Unit ⊕ Unit)) (h : F_spec_l1Has_l1 l0 n0 x5 = some o) : vc Try.prog c_spec_l1Has_l1 (outQ [5, 0, 1] (S_spec_l1Has_l1 l0 n0) (T_spec_l1Has_l1 l0 n0) o) (S_spec_l1Has_l1 l0 n0 x5) := by
  unfold F_spec_l1Has_l1 at h
  try dsimp only at h
  conv => whnf
  refine Len.map ?_
  conv => whnf
  refine Br.od h (fun p1 h => ?_) (fun p1 h => ?_)
  · conv => whnf
    refine Len.map ?_
    conv => whnf
    refine Ask.o h fun p2 h => ?_
    conv => whnf
    refine Elem.o (by first | omega | (simp only [mulN] at *; omega) | (simp [mulN] at *; omega)) ?_
    conv => whnf
    refine Br.oe h (fun p3 h => ?_) (fun p3 h => ?_)
    · conv => whnf
      cases h; exact ⟨rfl, rfl⟩
    · conv => whnf
      refine Ask.o h fun p4 h => ?_
      conv => whnf
      cases h; exact ⟨rfl, rfl⟩
  · conv => whnf
    cases h; exact ⟨rfl, rfl⟩

noncomputable def F_spec_l1Has (l0 : (List Int)) (n0 : Int) : Option Bool :=
  (loopO (F_spec_l1Has_l1 l0 n0) (0 : Int)).bind fun t => match t with
  | (.inl _) => (some true)
  | (.inr _) => (some false)
theorem t_spec_l1Has {l0 : (List Int)} {n0 : Int} {v : Bool} (h : F_spec_l1Has l0 n0 = some v) : Ret Try.prog f_spec_l1Has [(slr false 1 vint) l0, vint n0] (V.bool v) := by
  refine ret_vc k_spec_l1Has (Nat.le_of_ble_eq_true rfl) ?_
  unfold F_spec_l1Has at h
  conv => whnf
  refine LoopQ.o [5, 0, 1] (S_spec_l1Has_l1 l0 n0) (T_spec_l1Has_l1 l0 n0) h (fun s o h => b_spec_l1Has_l1 s o h) (by first | rfl | simp [restrict, look, mulN_one, V.fz, fzL, V.up, upL, fzL_map, fz_slr, fz_at, slr]) (by rintro (_ | _) <;> rfl) ?_
  rintro (⟨⟩ | ⟨⟩) h
  · try dsimp only at h
    conv => whnf
    cases h; exact (by first | rfl | simp only [resV, mulN_one, V.fz, fzL, V.up, upL, fzL_map, fz_slr, fz_at, slr] | simp [resV, mulN_one, V.fz, fzL, V.up, upL, fzL_map, fz_slr, fz_at, slr])
  · try dsimp only at h
    conv => whnf
    cases h; exact (by first | rfl | simp only [resV, mulN_one, V.fz, fzL, V.up, upL, fzL_map, fz_slr, fz_at, slr] | simp [resV, mulN_one, V.fz, fzL, V.up, upL, fzL_map, fz_slr, fz_at, slr])

noncomputable def F_spec_l2Pow_l1 (n0 : Int) : (Int × Int) → Option ((Int × Int) ⊕ Int) := fun (x5, x1) =>
   if x1 > (0 : Int) then
    ask (InI (x5 * n0)) <|
    ask (InI (x1 - (1 : Int))) <|
    some (.inl (x5 * n0, x1 - (1 : Int)))
   else
    some (.inr x5)
def S_spec_l2Pow_l1 (n0 : Int) : (Int × Int) → St := fun s => [(5, A.val (vint s.1)), (0, A.val (vint (n0))), (1, A.val (vint s.2))]
def T_spec_l2Pow_l1 (_n0 : Int) : Int → Tgt
  | s => ((Ex.exit 0), [5], [(5, A.val (vint s))])
theorem b_spec_l2Pow_l1 {n0 : Int} (s : (Int × Int)) (o : (Int × Int) ⊕ Int) (h : F_spec_l2Pow_l1 n0 s = some o) : vc Try.prog c_spec_l2Pow_l1 (outQ [5, 0, 1] (S_spec_l2Pow_l1 n0) (T_spec_l2Pow_l1 n0) o) (S_spec_l2Pow_l1 n0 s) := by
  obtain ⟨x5, x1⟩ := s
  unfold F_spec_l2Pow_l1 at h
  try dsimp only at h
  conv => whnf
  refine Br.od h (fun p1 h => ?_) (fun p1 h => ?_)
  · conv => whnf
    refine Ask.o h fun p2 h => ?_
    conv => whnf
    refine Ask.o h fun p3 h => ?_
    conv => whnf
    cases h; exact ⟨rfl, rfl⟩
  · conv => whnf
    cases h; exact ⟨rfl, rfl⟩

noncomputable def F_spec_l2Pow (n0 : Int) (k0 : Int) : Option Int :=
  (loopO (F_spec_l2Pow_l1 n0) ((1 : Int), k0)).bind fun q4_5 =>
  some q4_5
theorem t_spec_l2Pow {n0 : Int} {k0 : Int} {v : Int} (h : F_spec_l2Pow n0 k0 = some v) : Ret Try.prog f_spec_l2Pow [vint n0, vint k0] (vint v) := by
  refine ret_vc k_spec_l2Pow (Nat.le_of_ble_eq_true rfl) ?_
  unfold F_spec_l2Pow at h
  conv => whnf
  refine LoopQ.o [5, 0, 1] (S_spec_l2Pow_l1 n0) (T_spec_l2Pow_l1 n0) h (fun s o h => b_spec_l2Pow_l1 s o h) (by first | rfl | simp [restrict, look, mulN_one, V.fz, fzL, V.up, upL, fzL_map, fz_slr, fz_at, slr]) (fun _ => rfl) ?_
  rintro q4_5 h
  try dsimp only at h
  conv => whnf
  cases h; exact (by first | rfl | simp only [resV, mulN_one, V.fz, fzL, V.up, upL, fzL_map, fz_slr, fz_at, slr] | simp [resV, mulN_one, V.fz, fzL, V.up, upL, fzL_map, fz_slr, fz_at, slr])

noncomputable def F_impl_power_l1 (n0 : Int) : (Int × Int) → Option ((Int × Int) ⊕ Int) := fun (x5, x1) =>
   if x1 > (0 : Int) then
    ask (InI (x5 * n0)) <|
    ask (InI (x1 - (1 : Int))) <|
    some (.inl (x5 * n0, x1 - (1 : Int)))
   else
    some (.inr x5)
def S_impl_power_l1 (n0 : Int) : (Int × Int) → St := fun s => [(5, A.val (vint s.1)), (0, A.val (vint (n0))), (1, A.val (vint s.2))]
def T_impl_power_l1 (_n0 : Int) : Int → Tgt
  | s => ((Ex.exit 0), [5], [(5, A.val (vint s))])
theorem b_impl_power_l1 {n0 : Int} (s : (Int × Int)) (o : (Int × Int) ⊕ Int) (h : F_impl_power_l1 n0 s = some o) : vc Try.prog c_impl_power_l1 (outQ [5, 0, 1] (S_impl_power_l1 n0) (T_impl_power_l1 n0) o) (S_impl_power_l1 n0 s) := by
  obtain ⟨x5, x1⟩ := s
  unfold F_impl_power_l1 at h
  try dsimp only at h
  conv => whnf
  refine Br.od h (fun p1 h => ?_) (fun p1 h => ?_)
  · conv => whnf
    refine Ask.o h fun p2 h => ?_
    conv => whnf
    refine Ask.o h fun p3 h => ?_
    conv => whnf
    cases h; exact ⟨rfl, rfl⟩
  · conv => whnf
    cases h; exact ⟨rfl, rfl⟩

noncomputable def F_impl_power (n0 : Int) (k0 : Int) : Option Int :=
  (loopO (F_impl_power_l1 n0) ((1 : Int), k0)).bind fun q4_5 =>
  some q4_5
theorem t_impl_power {n0 : Int} {k0 : Int} {v : Int} (h : F_impl_power n0 k0 = some v) : Ret Try.prog f_impl_power [vint n0, vint k0] (vint v) := by
  refine ret_vc k_impl_power (Nat.le_of_ble_eq_true rfl) ?_
  unfold F_impl_power at h
  conv => whnf
  refine LoopQ.o [5, 0, 1] (S_impl_power_l1 n0) (T_impl_power_l1 n0) h (fun s o h => b_impl_power_l1 s o h) (by first | rfl | simp [restrict, look, mulN_one, V.fz, fzL, V.up, upL, fzL_map, fz_slr, fz_at, slr]) (fun _ => rfl) ?_
  rintro q4_5 h
  try dsimp only at h
  conv => whnf
  cases h; exact (by first | rfl | simp only [resV, mulN_one, V.fz, fzL, V.up, upL, fzL_map, fz_slr, fz_at, slr] | simp [resV, mulN_one, V.fz, fzL, V.up, upL, fzL_map, fz_slr, fz_at, slr])

noncomputable def F_spec_l7Images_l1 (f0 : List Int) (args0 : List Int) : (Int × (List Int)) → Option ((Int × (List Int)) ⊕ (List Int)) := fun (x6, x5) =>
   if x6 < (↑args0.length : Int) then
    ask ((0 : Int) ≤ x6 ∧ x6 < (↑args0.length : Int)) <|
    ask ((0 : Int) ≤ nth args0 x6.toNat ∧ nth args0 x6.toNat < (↑f0.length : Int)) <|
    ask ((x5).length + ([nth f0 (nth args0 x6.toNat).toNat]).length ≤ LIM) <|
    ask (InI (x6 + (1 : Int))) <|
    some (.inl (x6 + (1 : Int), x5 ++ [nth f0 (nth args0 x6.toNat).toNat]))
   else
    some (.inr x5)
def S_spec_l7Images_l1 (f0 : List Int) (args0 : List Int) : (Int × (List Int)) → St := fun s => [(6, A.val (vint s.1)), (5, A.val ((slr true 1 vint) s.2)), (0, A.val ((slr false 1 vint) (f0))), (1, A.val ((slr false 1 vint) (args0)))]
def T_spec_l7Images_l1 (_f0 : List Int) (_args0 : List Int) : (List Int) → Tgt
  | s => ((Ex.exit 0), [5], [(5, A.val ((slr true 1 vint) s))])
theorem b_spec_l7Images_l1 {f0 : List Int} {args0 : List Int} (s : (Int × (List Int))) (o : (Int × (List Int)) ⊕ (List Int)) (h : F_spec_l7Images_l1 f0 args0 s = some o) : vc Try.prog c_spec_l7Images_l1 (outQ [6, 5, 0, 1] (S_spec_l7Images_l1 f0 args0) (T_spec_l7Images_l1 f0 args0) o) (S_spec_l7Images_l1 f0 args0 s) := by
  obtain ⟨x6, x5⟩ := s
  unfold F_spec_l7Images_l1 at h
  try dsimp only at h
  conv => whnf
  refine Len.map ?_
  conv => whnf
  refine Br.od h (fun p1 h => ?_) (fun p1 h => ?_)
  · conv => whnf
    refine Len.map ?_
    conv => whnf
    refine Ask.o h fun p2 h => ?_
    conv => whnf
    refine Elem.o (by first | omega | (simp only [mulN] at *; omega) | (simp [mulN] at *; omega)) ?_
    conv => whnf
    refine Len.map ?_
    conv => whnf
    refine Ask.o h fun p3 h => ?_
    conv => whnf
    refine Elem.o (by first | omega | (simp only [mulN] at *; omega) | (simp [mulN] at *; omega)) ?_
    conv => whnf
    refine BslQ.o vint ([nth f0 (nth args0 x6.toNat).toNat]) (by exact fun _ => ⟨rfl, rfl⟩) (by first | rfl | simp only [mulN_one, V.fz, fzL, V.up, upL, fzL_map, fz_slr, fz_at, slr, List.cons_append, List.nil_append] | simp [mulN_one, V.fz, fzL, V.up, upL, fzL_map, fz_slr, fz_at, slr]) ?_
    conv => whnf
    refine NoOwn.o (fun _ => rfl) ?_
    conv => whnf
    refine AppQ.o (m := 1) vint (by exact fun _ => ⟨rfl, rfl⟩) (x5) ([nth f0 (nth args0 x6.toNat).toNat]) (by first | rfl | simp only [mulN_one, V.fz, fzL, V.up, upL, fzL_map, fz_slr, fz_at, slr, List.cons_append, List.nil_append] | simp [mulN_one, V.fz, fzL, V.up, upL, fzL_map, fz_slr, fz_at, slr]) (by first | rfl | simp only [mulN_one, V.fz, fzL, V.up, upL, fzL_map, fz_slr, fz_at, slr, List.cons_append, List.nil_append] | simp [mulN_one, V.fz, fzL, V.up, upL, fzL_map, fz_slr, fz_at, slr]) h fun h => ?_
    conv => whnf
    refine Ask.o h fun p4 h => ?_
    conv => whnf
    cases h; exact ⟨rfl, rfl⟩
  · conv => whnf
    cases h; exact ⟨rfl, rfl⟩

noncomputable def F_spec_l7Images (f0 : (List Int)) (args0 : (List Int)) : Option (List Int) :=
  (loopO (F_spec_l7Images_l1 f0 args0) ((0 : Int), nilL Int)).bind fun q5_5 =>
  some q5_5
theorem t_spec_l7Images {f0 : (List Int)} {args0 : (List Int)} {v : (List Int)} (h : F_spec_l7Images f0 args0 = some v) : Ret Try.prog f_spec_l7Images [(slr false 1 vint) f0, (slr false 1 vint) args0] ((slr true 1 vint) v) := by
  refine ret_vc k_spec_l7Images (Nat.le_of_ble_eq_true rfl) ?_
  unfold F_spec_l7Images at h
  conv => whnf
  refine BslQ.o vint (nilL Int) (by exact fun _ => ⟨rfl, rfl⟩) (by first | rfl | simp only [mulN_one, V.fz, fzL, V.up, upL, fzL_map, fz_slr, fz_at, slr, List.cons_append, List.nil_append] | simp [mulN_one, V.fz, fzL, V.up, upL, fzL_map, fz_slr, fz_at, slr]) ?_
  conv => whnf
  refine LoopQ.o [6, 5, 0, 1] (S_spec_l7Images_l1 f0 args0) (T_spec_l7Images_l1 f0 args0) h (fun s o h => b_spec_l7Images_l1 s o h) (by first | rfl | simp [restrict, look, mulN_one, V.fz, fzL, V.up, upL, fzL_map, fz_slr, fz_at, slr]) (fun _ => rfl) ?_
  rintro q5_5 h
  try dsimp only at h
  conv => whnf
  cases h; exact (by first | rfl | simp only [resV, mulN_one, V.fz, fzL, V.up, upL, fzL_map, fz_slr, fz_at, slr] | simp [resV, mulN_one, V.fz, fzL, V.up, upL, fzL_map, fz_slr, fz_at, slr])

noncomputable def F_impl_imageIndex_l1 (arity0 : Int) (a0 : SAlgebra) (b0 : SAlgebra) (f0 : List Int) : (Int × Int × Int × Int) → Option ((Int × Int × Int × Int) ⊕ Int) := fun (x13, x12, x11, x0) =>
   if x13 < arity0 then
    ask (a0.Size ≠ (0 : Int)) <|
    ask ((0 : Int) ≤ x0.tmod a0.Size ∧ x0.tmod a0.Size < (↑f0.length : Int)) <|
    ask (InI (nth f0 (x0.tmod a0.Size).toNat * x12)) <|
    ask (InI (x11 + nth f0 (x0.tmod a0.Size).toNat * x12)) <|
    ask (a0.Size ≠ (0 : Int) ∧ InI (x0.tdiv a0.Size)) <|
    ask (InI (x12 * b0.Size)) <|
    ask (InI (x13 + (1 : Int))) <|
    some (.inl (x13 + (1 : Int), x12 * b0.Size, x11 + nth f0 (x0.tmod a0.Size).toNat * x12, x0.tdiv a0.Size))
   else
    some (.inr x11)
def S_impl_imageIndex_l1 (arity0 : Int) (a0 : SAlgebra) (b0 : SAlgebra) (f0 : List Int) : (Int × Int × Int × Int) → St := fun s => [(13, A.val (vint s.1)), (12, A.val (vint s.2.1)), (11, A.val (vint s.2.2.1)), (8, A.val ((rP true (rS_Algebra false)) (b0))), (7, A.val ((rP true (rS_Algebra false)) (a0))), (0, A.val (vint s.2.2.2)), (1, A.val (vint (arity0))), (4, A.val ((slr false 1 vint) (f0)))]
def T_impl_imageIndex_l1 (_arity0 : Int) (_a0 : SAlgebra) (_b0 : SAlgebra) (_f0 : List Int) : Int → Tgt
  | s => ((Ex.exit 0), [11], [(11, A.val (vint s))])
theorem b_impl_imageIndex_l1 {arity0 : Int} {a0 : SAlgebra} {b0 : SAlgebra} {f0 : List Int} (s : (Int × Int × Int × Int)) (o : (Int × Int × Int × Int) ⊕ Int) (h : F_impl_imageIndex_l1 arity0 a0 b0 f0 s = some o) : vc Try.prog c_impl_imageIndex_l1 (outQ [13, 12, 11, 8, 7, 0, 1, 4] (S_impl_imageIndex_l1 arity0 a0 b0 f0) (T_impl_imageIndex_l1 arity0 a0 b0 f0) o) (S_impl_imageIndex_l1 arity0 a0 b0 f0 s) := by
  obtain ⟨x13, x12, x11, x0⟩ := s
  unfold F_impl_imageIndex_l1 at h
  try dsimp only at h
  conv => whnf
  refine Br.od h (fun p1 h => ?_) (fun p1 h => ?_)
  · conv => whnf
    refine Cells.lit rfl rfl ?_
    conv => whnf
    refine Ask.o h fun p2 h => ?_
    conv => whnf
    refine Len.map ?_
    conv => whnf
    refine Ask.o h fun p3 h => ?_
    conv => whnf
    refine Elem.o (by first | omega | (simp only [mulN] at *; omega) | (simp [mulN] at *; omega)) ?_
    conv => whnf
    refine Ask.o h fun p4 h => ?_
    conv => whnf
    refine Ask.o h fun p5 h => ?_
    conv => whnf
    refine Cells.lit rfl rfl ?_
    conv => whnf
    refine Ask.o h fun p6 h => ?_
    conv => whnf
    refine Cells.lit rfl rfl ?_
    conv => whnf
    refine Ask.o h fun p7 h => ?_
    conv => whnf
    refine Ask.o h fun p8 h => ?_
    conv => whnf
    cases h; exact ⟨rfl, rfl⟩
  · conv => whnf
    cases h; exact ⟨rfl, rfl⟩

noncomputable def F_impl_imageIndex (i0 : Int) (arity0 : Int) (a0 : SAlgebra) (b0 : SAlgebra) (f0 : (List Int)) : Option Int :=
  (loopO (F_impl_imageIndex_l1 arity0 a0 b0 f0) ((0 : Int), (1 : Int), (0 : Int), i0)).bind fun q9_11 =>
  some q9_11
theorem t_impl_imageIndex {i0 : Int} {arity0 : Int} {a0 : SAlgebra} {b0 : SAlgebra} {f0 : (List Int)} {v : Int} (h : F_impl_imageIndex i0 arity0 a0 b0 f0 = some v) : Ret Try.prog f_impl_imageIndex [vint i0, vint arity0, (rS_Algebra false) a0, (rS_Algebra false) b0, (slr false 1 vint) f0] (vint v) := by
  refine ret_vc k_impl_imageIndex (Nat.le_of_ble_eq_true rfl) ?_
  unfold F_impl_imageIndex at h
  conv => whnf
  refine LoopQ.o [13, 12, 11, 8, 7, 0, 1, 4] (S_impl_imageIndex_l1 arity0 a0 b0 f0) (T_impl_imageIndex_l1 arity0 a0 b0 f0) h (fun s o h => b_impl_imageIndex_l1 s o h) (by first | rfl | simp [restrict, look, mulN_one, V.fz, fzL, V.up, upL, fzL_map, fz_slr, fz_at, slr]) (fun _ => rfl) ?_
  rintro q9_11 h
  try dsimp only at h
  conv => whnf
  cases h; exact (by first | rfl | simp only [resV, mulN_one, V.fz, fzL, V.up, upL, fzL_map, fz_slr, fz_at, slr] | simp [resV, mulN_one, V.fz, fzL, V.up, upL, fzL_map, fz_slr, fz_at, slr])

noncomputable def F_impl_clone (list0 : (List Int)) : Option (List Int) :=
  ask ((nilL Int).length + (list0).length ≤ LIM) <|
  some (nilL Int ++ list0)
theorem t_impl_clone {list0 : (List Int)} {v : (List Int)} (h : F_impl_clone list0 = some v) : Ret Try.prog f_impl_clone [(slr false 1 vint) list0] ((slr true 1 vint) v) := by
  refine ret_vc k_impl_clone (Nat.le_of_ble_eq_true rfl) ?_
  unfold F_impl_clone at h
  conv => whnf
  refine BslQ.o vint (nilL Int) (by exact fun _ => ⟨rfl, rfl⟩) (by first | rfl | simp only [mulN_one, V.fz, fzL, V.up, upL, fzL_map, fz_slr, fz_at, slr, List.cons_append, List.nil_append] | simp [mulN_one, V.fz, fzL, V.up, upL, fzL_map, fz_slr, fz_at, slr]) ?_
  conv => whnf
  refine AppQ.o (m := 1) vint (by exact fun _ => ⟨rfl, rfl⟩) (nilL Int) (list0) (by first | rfl | simp only [mulN_one, V.fz, fzL, V.up, upL, fzL_map, fz_slr, fz_at, slr, List.cons_append, List.nil_append] | simp [mulN_one, V.fz, fzL, V.up, upL, fzL_map, fz_slr, fz_at, slr]) (by first | rfl | simp only [mulN_one, V.fz, fzL, V.up, upL, fzL_map, fz_slr, fz_at, slr, List.cons_append, List.nil_append] | simp [mulN_one, V.fz, fzL, V.up, upL, fzL_map, fz_slr, fz_at, slr]) h fun h => ?_
  conv => whnf
  cases h; exact (by first | rfl | simp only [resV, mulN_one, V.fz, fzL, V.up, upL, fzL_map, fz_slr, fz_at, slr] | simp [resV, mulN_one, V.fz, fzL, V.up, upL, fzL_map, fz_slr, fz_at, slr])

noncomputable def F_spec_l2Rename_l1 (a0 : SAlgebra) (names0 : List Int) (_x6 : Int) (_x5 : SAlgebra) (_x8 : Int) (_x7 : SOp) (r6 : List Int) : (Int × Int) → Option ((Int × Int) ⊕ Int) := fun (x11, x10) =>
   if x11 < (↑r6.length : Int) then
    ask (InI (x10 * a0.Size)) <|
    ask ((0 : Int) ≤ x11 ∧ x11 < (↑r6.length : Int)) <|
    ask ((0 : Int) ≤ nth r6 x11.toNat ∧ nth r6 x11.toNat < (↑names0.length : Int)) <|
    ask (InI (x10 * a0.Size + nth names0 (nth r6 x11.toNat).toNat)) <|
    ask (InI (x11 + (1 : Int))) <|
    some (.inl (x11 + (1 : Int), x10 * a0.Size + nth names0 (nth r6 x11.toNat).toNat))
   else
    some (.inr x10)
def S_spec_l2Rename_l1 (a0 : SAlgebra) (names0 : List Int) (x6 : Int) (x5 : SAlgebra) (x8 : Int) (x7 : SOp) (r6 : List Int) : (Int × Int) → St := fun s => [(11, A.val (vint s.1)), (10, A.val (vint s.2)), (9, A.val ((slr true 1 vint) (r6))), (8, A.val (vint (x8))), (7, A.val ((rP true (rS_Op true)) (x7))), (6, A.val (vint (x6))), (5, A.val ((rP true (rS_Algebra true)) (x5))), (4, A.val ((rP true (rS_Algebra true)) ({ Size := (0 : Int), Ops := nilL SOp }))), (2, A.val ((rP true (rS_Algebra false)) (a0))), (1, A.val ((slr false 1 vint) (names0)))]
def T_spec_l2Rename_l1 (a0 : SAlgebra) (names0 : List Int) (x6 : Int) (x5 : SAlgebra) (x8 : Int) (x7 : SOp) (_r6 : List Int) : Int → Tgt
  | s => ((Ex.exit 4), [10, 8, 7, 6, 5, 4, 2, 1], [(10, A.val (vint s)), (8, A.val (vint (x8))), (7, A.val ((rP true (rS_Op true)) (x7))), (6, A.val (vint (x6))), (5, A.val ((rP true (rS_Algebra true)) (x5))), (4, A.val ((rP true (rS_Algebra true)) ({ Size := (0 : Int), Ops := nilL SOp }))), (2, A.val ((rP true (rS_Algebra false)) (a0))), (1, A.val ((slr false 1 vint) (names0)))])
theorem b_spec_l2Rename_l1 {a0 : SAlgebra} {names0 : List Int} {x6 : Int} {x5 : SAlgebra} {x8 : Int} {x7 : SOp} {r6 : List Int} (s : (Int × Int)) (o : (Int × Int) ⊕ Int) (h : F_spec_l2Rename_l1 a0 names0 x6 x5 x8 x7 r6 s = some o) : vc Try.prog c_spec_l2Rename_l1 (outQ [11, 10, 9, 8, 7, 6, 5, 4, 2, 1] (S_spec_l2Rename_l1 a0 names0 x6 x5 x8 x7 r6) (T_spec_l2Rename_l1 a0 names0 x6 x5 x8 x7 r6) o) (S_spec_l2Rename_l1 a0 names0 x6 x5 x8 x7 r6 s) := by
  obtain ⟨x11, x10⟩ := s
  unfold F_spec_l2Rename_l1 at h
  try dsimp only at h
  conv => whnf
  refine Len.map ?_
  conv => whnf
  refine Br.od h (fun p7 h => ?_) (fun p7 h => ?_)
  · conv => whnf
    refine Cells.lit rfl rfl ?_
    conv => whnf
    refine Ask.o h fun p8 h => ?_
    conv => whnf
    refine Len.map ?_
    conv => whnf
    refine Ask.o h fun p9 h => ?_
    conv => whnf
    refine Cells.one (fun _ => ⟨rfl, rfl⟩) (by first | omega | (simp only [mulN] at *; omega) | (simp [mulN] at *; omega)) ?_
    conv => whnf
    refine Len.map ?_
    conv => whnf
    refine Ask.o h fun p10 h => ?_
    conv => whnf
    refine Elem.o (by first | omega | (simp only [mulN] at *; omega) | (simp [mulN] at *; omega)) ?_
    conv => whnf
    refine Ask.o h fun p11 h => ?_
    conv => whnf
    refine Ask.o h fun p12 h => ?_
    conv => whnf
    cases h; exact ⟨rfl, rfl⟩
  · conv => whnf
    cases h; exact ⟨rfl, rfl⟩

noncomputable def F_spec_l2Rename_l2 (a0 : SAlgebra) (names0 : List Int) (x6 : Int) (x5 : SAlgebra) : (Int × SOp) → Option ((Int × SOp) ⊕ SOp) := fun (x8, x7) =>
   if x8 < (↑x7.Table.length : Int) then
    (F_spec_l2Args (a0.Size) (x7.Arity) (x8)).bind fun r6 =>
    (loopO (F_spec_l2Rename_l1 a0 names0 x6 x5 x8 x7 r6) ((0 : Int), (0 : Int))).bind fun q13_10 =>
    ask ((0 : Int) ≤ x6 ∧ x6 < (↑a0.Ops.length : Int)) <|
    ask ((0 : Int) ≤ x8 ∧ x8 < (↑(nth a0.Ops x6.toNat).Table.length : Int)) <|
    ask ((0 : Int) ≤ nth (nth a0.Ops x6.toNat).Table x8.toNat ∧ nth (nth a0.Ops x6.toNat).Table x8.toNat < (↑names0.length : Int)) <|
    ask ((0 : Int) ≤ q13_10 ∧ q13_10 < (↑x7.Table.length : Int)) <|
    ask (InI (x8 + (1 : Int))) <|
    some (.inl (x8 + (1 : Int), { Arity := x7.Arity, Table := x7.Table.set q13_10.toNat (nth names0 (nth (nth a0.Ops x6.toNat).Table x8.toNat).toNat) }))
   else
    some (.inr x7)
def S_spec_l2Rename_l2 (a0 : SAlgebra) (names0 : List Int) (x6 : Int) (x5 : SAlgebra) : (Int × SOp) → St := fun s => [(8, A.val (vint s.1)), (7, A.val ((rP true (rS_Op true)) s.2)), (6, A.val (vint (x6))), (5, A.val ((rP true (rS_Algebra true)) (x5))), (4, A.val ((rP true (rS_Algebra true)) ({ Size := (0 : Int), Ops := nilL SOp }))), (2, A.val ((rP true (rS_Algebra false)) (a0))), (1, A.val ((slr false 1 vint) (names0)))]
def T_spec_l2Rename_l2 (a0 : SAlgebra) (names0 : List Int) (x6 : Int) (x5 : SAlgebra) : SOp → Tgt
  | s => ((Ex.exit 2), [7, 6, 5, 4, 2, 1], [(7, A.val ((rP true (rS_Op true)) s)), (6, A.val (vint (x6))), (5, A.val ((rP true (rS_Algebra true)) (x5))), (4, A.val ((rP true (rS_Algebra true)) ({ Size := (0 : Int), Ops := nilL SOp }))), (2, A.val ((rP true (rS_Algebra false)) (a0))), (1, A.val ((slr false 1 vint) (names0)))])
theorem b_spec_l2Rename_l2 {a0 : SAlgebra} {names0 : List Int} {x6 : Int} {x5 : SAlgebra} (s : (Int × SOp)) (o : (Int × SOp) ⊕ SOp) (h : F_spec_l2Rename_l2 a0 names0 x6 x5 s = some o) : vc Try.prog c_spec_l2Rename_l2 (outQ [8, 7, 6, 5, 4, 2, 1] (S_spec_l2Rename_l2 a0 names0 x6 x5) (T_spec_l2Rename_l2 a0 names0 x6 x5) o) (S_spec_l2Rename_l2 a0 names0 x6 x5 s) := by
  obtain ⟨x8, x7⟩ := s
  unfold F_spec_l2Rename_l2 at h
  try dsimp only at h
  conv => whnf
  refine Cells.lit rfl rfl ?_
  conv => whnf
  refine Kid.lit rfl rfl ?_
  conv => whnf
  refine Len.map ?_
  conv => whnf
  refine Br.od h (fun p5 h => ?_) (fun p5 h => ?_)
  · conv => whnf
    refine Cells.lit rfl rfl ?_
    conv => whnf
    refine Cells.lit rfl rfl ?_
    conv => whnf
    refine CallQ.o (slr true 1 vint) (by first | rfl | simp only [mulN_one, V.fz, fzL, V.up, upL, fzL_map, fz_slr, fz_at, slr, List.cons_append, List.nil_append] | simp [mulN_one, V.fz, fzL, V.up, upL, fzL_map, fz_slr, fz_at, slr]) h (fun r h => t_spec_l2Args h) (fun r6 h => ?_)
    conv => whnf
    refine LoopQ.o [11, 10, 9, 8, 7, 6, 5, 4, 2, 1] (S_spec_l2Rename_l1 a0 names0 x6 x5 x8 x7 r6) (T_spec_l2Rename_l1 a0 names0 x6 x5 x8 x7 r6) h (fun s o h => b_spec_l2Rename_l1 s o h) (by first | rfl | simp [restrict, look, mulN_one, V.fz, fzL, V.up, upL, fzL_map, fz_slr, fz_at, slr]) (fun _ => rfl) ?_
    rintro q13_10 h
    try dsimp only at h
    conv => whnf
    refine Cells.lit rfl rfl ?_
    conv => whnf
    refine Cells.lit rfl rfl ?_
    conv => whnf
    refine Len.map ?_
    conv => whnf
    refine Ask.o h fun p14 h => ?_
    conv => whnf
    refine Elem.o (by first | omega | (simp only [mulN] at *; omega) | (simp [mulN] at *; omega)) ?_
    conv => whnf
    refine Len.map ?_
    conv => whnf
    refine Ask.o h fun p15 h => ?_
    conv => whnf
    refine Elem.o (by first | omega | (simp only [mulN] at *; omega) | (simp [mulN] at *; omega)) ?_
    conv => whnf
    refine Len.map ?_
    conv => whnf
    refine Ask.o h fun p16 h => ?_
    conv => whnf
    refine Elem.o (by first | omega | (simp only [mulN] at *; omega) | (simp [mulN] at *; omega)) ?_
    conv => whnf
    refine Kid.lit rfl rfl ?_
    conv => whnf
    refine Len.map ?_
    conv => whnf
    refine Ask.o h fun p17 h => ?_
    conv => whnf
    refine Kid.lit rfl rfl ?_
    conv => whnf
    refine SetKids.one (fun _ => ⟨rfl, rfl⟩) (nth names0 (nth (nth a0.Ops x6.toNat).Table x8.toNat).toNat) (by first | rfl | simp only [mulN_one, V.fz, fzL, V.up, upL, fzL_map, fz_slr, fz_at, slr, List.cons_append, List.nil_append] | simp [mulN_one, V.fz, fzL, V.up, upL, fzL_map, fz_slr, fz_at, slr]) (by first | omega | (simp only [mulN] at *; omega) | (simp [mulN] at *; omega)) ?_
    conv => whnf
    refine Kid.lit rfl rfl ?_
    conv => whnf
    refine SetKids.lit rfl ?_
    conv => whnf
    refine Ask.o h fun p18 h => ?_
    conv => whnf
    cases h; exact ⟨rfl, rfl⟩
  · conv => whnf
    cases h; exact ⟨rfl, rfl⟩

noncomputable def F_spec_l2Rename_l3 (a0 : SAlgebra) (names0 : List Int) : (Int × SAlgebra) → Option ((Int × SAlgebra) ⊕ SAlgebra) := fun (x6, x5) =>
   if x6 < (↑a0.Ops.length : Int) then
    ask ((0 : Int) ≤ x6 ∧ x6 < (↑a0.Ops.length : Int)) <|
    ask ((0 : Int) ≤ x6 ∧ x6 < (↑a0.Ops.length : Int)) <|
    ask ((0 : Int) ≤ (↑(nth a0.Ops x6.toNat).Table.length : Int) ∧ (↑(nth a0.Ops x6.toNat).Table.length : Int) ≤ (↑LIM : Int)) <|
    (loopO (F_spec_l2Rename_l2 a0 names0 x6 x5) ((0 : Int), { Arity := (nth a0.Ops x6.toNat).Arity, Table := List.replicate (↑(nth a0.Ops x6.toNat).Table.length : Int).toNat (0 : Int) })).bind fun q19_7 =>
    ask ((x5.Ops).length + ([q19_7]).length ≤ LIM) <|
    ask (InI (x6 + (1 : Int))) <|
    some (.inl (x6 + (1 : Int), { Size := x5.Size, Ops := x5.Ops ++ [q19_7] }))
   else
    some (.inr x5)
def S_spec_l2Rename_l3 (a0 : SAlgebra) (names0 : List Int) : (Int × SAlgebra) → St := fun s => [(6, A.val (vint s.1)), (5, A.val ((rP true (rS_Algebra true)) s.2)), (4, A.val ((rP true (rS_Algebra true)) ({ Size := (0 : Int), Ops := nilL SOp }))), (2, A.val ((rP true (rS_Algebra false)) (a0))), (1, A.val ((slr false 1 vint) (names0)))]
def T_spec_l2Rename_l3 (_a0 : SAlgebra) (_names0 : List Int) : SAlgebra → Tgt
  | s => ((Ex.exit 0), [5, 4], [(5, A.val ((rP true (rS_Algebra true)) s)), (4, A.val ((rP true (rS_Algebra true)) ({ Size := (0 : Int), Ops := nilL SOp })))])
theorem b_spec_l2Rename_l3 {a0 : SAlgebra} {names0 : List Int} (s : (Int × SAlgebra)) (o : (Int × SAlgebra) ⊕ SAlgebra) (h : F_spec_l2Rename_l3 a0 names0 s = some o) : vc Try.prog c_spec_l2Rename_l3 (outQ [6, 5, 4, 2, 1] (S_spec_l2Rename_l3 a0 names0) (T_spec_l2Rename_l3 a0 names0) o) (S_spec_l2Rename_l3 a0 names0 s) := by
  obtain ⟨x6, x5⟩ := s
  unfold F_spec_l2Rename_l3 at h
  try dsimp only at h
  conv => whnf
  refine Cells.lit rfl rfl ?_
  conv => whnf
  refine Len.map ?_
  conv => whnf
  refine Br.od h (fun p1 h => ?_) (fun p1 h => ?_)
  · conv => whnf
    refine Cells.lit rfl rfl ?_
    conv => whnf
    refine Len.map ?_
    conv => whnf
    refine Ask.o h fun p2 h => ?_
    conv => whnf
    refine Elem.o (by first | omega | (simp only [mulN] at *; omega) | (simp [mulN] at *; omega)) ?_
    conv => whnf
    refine Cells.lit rfl rfl ?_
    conv => whnf
    refine Len.map ?_
    conv => whnf
    refine Ask.o h fun p3 h => ?_
    conv => whnf
    refine Elem.o (by first | omega | (simp only [mulN] at *; omega) | (simp [mulN] at *; omega)) ?_
    conv => whnf
    refine Len.map ?_
    conv => whnf
    refine Ask.o h fun p4 h => ?_
    conv => whnf
    refine MkQ.o vint ((0 : Int)) rfl ?_
    conv => whnf
    refine SetKids.lit rfl ?_
    conv => whnf
    refine LoopQ.o [8, 7, 6, 5, 4, 2, 1] (S_spec_l2Rename_l2 a0 names0 x6 x5) (T_spec_l2Rename_l2 a0 names0 x6 x5) h (fun s o h => b_spec_l2Rename_l2 s o h) (by first | rfl | simp [restrict, look, mulN_one, V.fz, fzL, V.up, upL, fzL_map, fz_slr, fz_at, slr]) (fun _ => rfl) ?_
    rintro q19_7 h
    try dsimp only at h
    conv => whnf
    refine Cells.lit rfl rfl ?_
    conv => whnf
    refine Cells.lit rfl rfl ?_
    conv => whnf
    refine BslQ.o (rS_Op true) [q19_7] (by exact fun _ => ⟨rfl, rfl⟩) (by first | rfl | simp only [mulN_one, V.fz, fzL, V.up, upL, fzL_map, fz_slr, fz_at, slr, List.cons_append, List.nil_append] | simp [mulN_one, V.fz, fzL, V.up, upL, fzL_map, fz_slr, fz_at, slr]) ?_
    conv => whnf
    refine NoOwn.own rfl ?_
    conv => whnf
    refine AppQ.o (m := 2) (rS_Op true) (by exact fun _ => ⟨rfl, rfl⟩) (x5.Ops) ([q19_7]) (by first | rfl | simp only [mulN_one, V.fz, fzL, V.up, upL, fzL_map, fz_slr, fz_at, slr, List.cons_append, List.nil_append] | simp [mulN_one, V.fz, fzL, V.up, upL, fzL_map, fz_slr, fz_at, slr]) (by first | rfl | simp only [mulN_one, V.fz, fzL, V.up, upL, fzL_map, fz_slr, fz_at, slr, List.cons_append, List.nil_append] | simp [mulN_one, V.fz, fzL, V.up, upL, fzL_map, fz_slr, fz_at, slr]) h fun h => ?_
    conv => whnf
    refine SetKids.lit rfl ?_
    conv => whnf
    refine Ask.o h fun p20 h => ?_
    conv => whnf
    cases h; exact ⟨rfl, rfl⟩
  · conv => whnf
    cases h; exact ⟨rfl, rfl⟩

noncomputable def F_spec_l2Rename (a0 : SAlgebra) (names0 : (List Int)) : Option SAlgebra :=
  (loopO (F_spec_l2Rename_l3 a0 names0) ((0 : Int), { Size := a0.Size, Ops := nilL SOp })).bind fun q21_5 =>
  some q21_5
theorem t_spec_l2Rename {a0 : SAlgebra} {names0 : (List Int)} {v : SAlgebra} (h : F_spec_l2Rename a0 names0 = some v) : Ret Try.prog f_spec_l2Rename [(rS_Algebra false) a0, (slr false 1 vint) names0] ((rS_Algebra true) v) := by
  refine ret_vc k_spec_l2Rename (Nat.le_of_ble_eq_true rfl) ?_
  unfold F_spec_l2Rename at h
  conv => whnf
  refine Cells.lit rfl rfl ?_
  conv => whnf
  refine SetKids.lit rfl ?_
  conv => whnf
  refine LoopQ.o [6, 5, 4, 2, 1] (S_spec_l2Rename_l3 a0 names0) (T_spec_l2Rename_l3 a0 names0) h (fun s o h => b_spec_l2Rename_l3 s o h) (by first | rfl | simp [restrict, look, mulN_one, V.fz, fzL, V.up, upL, fzL_map, fz_slr, fz_at, slr]) (fun _ => rfl) ?_
  rintro q21_5 h
  try dsimp only at h
  conv => whnf
  refine Cells.lit rfl rfl ?_
  conv => whnf
  refine SetKids.lit rfl ?_
  conv => whnf
  cases h; exact (by first | rfl | simp only [resV, mulN_one, V.fz, fzL, V.up, upL, fzL_map, fz_slr, fz_at, slr] | simp [resV, mulN_one, V.fz, fzL, V.up, upL, fzL_map, fz_slr, fz_at, slr])

noncomputable def F_impl_isOrder_l1 (list0 : List Int) : (Int × (List Bool)) → Option ((Int × (List Bool)) ⊕ (Unit ⊕ Unit)) := fun (x22, x5) =>
   if x22 < (↑list0.length : Int) then
    ask ((0 : Int) ≤ x22 ∧ x22 < (↑list0.length : Int)) <|
    ask ((0 : Int) ≤ nth list0 x22.toNat ∧ nth list0 x22.toNat < (↑x5.length : Int)) <|
    if (nth x5 (nth list0 x22.toNat).toNat) = true then
     some (.inr (.inl ()))
    else
     ask ((0 : Int) ≤ nth list0 x22.toNat ∧ nth list0 x22.toNat < (↑x5.length : Int)) <|
     ask (InI (x22 + (1 : Int))) <|
     some (.inl (x22 + (1 : Int), x5.set (nth list0 x22.toNat).toNat true))
   else
    some (.inr (.inr ()))
def S_impl_isOrder_l1 (list0 : List Int) : (Int × (List Bool)) → St := fun s => [(22, A.val (vint s.1)), (21, A.val (vint ((↑list0.length : Int)))), (20, A.val ((slr false 1 vint) (list0))), (5, A.val ((slr true 1 V.bool) s.2))]
def T_impl_isOrder_l1 (_list0 : List Int) : (Unit ⊕ Unit) → Tgt
  | (.inl _s) => (Ex.ret, [4], [(4, A.val (V.bool (false)))])
  | (.inr _s) => ((Ex.exit 0), [], [])
theorem b_impl_isOrder_l1 {list0 : List Int} (s : (Int × (List Bool))) (o : (Int × (List Bool)) ⊕ (Unit ⊕ Unit)) (h : F_impl_isOrder_l1 list0 s = some o) : vc Try.prog c_impl_isOrder_l1 (outQ [22, 21, 20, 5] (S_impl_isOrder_l1 list0) (T_impl_isOrder_l1 list0) o) (S_impl_isOrder_l1 list0 s) := by
  obtain ⟨x22, x5⟩ := s
  unfold F_impl_isOrder_l1 at h
  try dsimp only at h
  conv => whnf
  refine Br.od h (fun p6 h => ?_) (fun p6 h => ?_)
  · conv => whnf
    refine Len.map ?_
    conv => whnf
    refine Ask.o h fun p7 h => ?_
    conv => whnf
    refine Elem.o (by first | omega | (simp only [mulN] at *; omega) | (simp [mulN] at *; omega)) ?_
    conv => whnf
    refine Len.map ?_
    conv => whnf
    refine Ask.o h fun p8 h => ?_
    conv => whnf
    refine Cells.one (fun _ => ⟨rfl, rfl⟩) (by first | omega | (simp only [mulN] at *; omega) | (simp [mulN] at *; omega)) ?_
    conv => whnf
    refine Br.ob h (fun p9 h => ?_) (fun p9 h => ?_)
    · conv => whnf
      cases h; exact ⟨rfl, rfl⟩
    · conv => whnf
      refine Len.map ?_
      conv => whnf
      refine Ask.o h fun p10 h => ?_
      conv => whnf
      refine SetKids.one (fun _ => ⟨rfl, rfl⟩) (true) (by first | rfl | simp only [mulN_one, V.fz, fzL, V.up, upL, fzL_map, fz_slr, fz_at, slr, List.cons_append, List.nil_append] | simp [mulN_one, V.fz, fzL, V.up, upL, fzL_map, fz_slr, fz_at, slr]) (by first | omega | (simp only [mulN] at *; omega) | (simp [mulN] at *; omega)) ?_
      conv => whnf
      refine Ask.o h fun p11 h => ?_
      conv => whnf
      cases h; exact ⟨rfl, rfl⟩
  · conv => whnf
    cases h; exact ⟨rfl, rfl⟩

noncomputable def F_impl_isOrder (list0 : (List Int)) (n0 : Int) : Option Bool :=
  ((if (↑list0.length : Int) ≠ n0 then
      some (.inl ())
     else
      (F_impl_inSize (list0) (n0)).bind fun r2 =>
      if (r2) = true then
       some (.inr ())
      else
       some (.inl ()) : Option (Unit ⊕ Unit))).bind fun t => match t with
  | (.inl _) => (some false)
  | (.inr _) => (ask ((0 : Int) ≤ n0 ∧ n0 ≤ (↑LIM : Int)) <|
    (loopO (F_impl_isOrder_l1 list0) ((0 : Int), List.replicate n0.toNat false)).bind fun t => match t with
    | (.inl _) => (some false)
    | (.inr _) => (some true))
theorem t_impl_isOrder {list0 : (List Int)} {n0 : Int} {v : Bool} (h : F_impl_isOrder list0 n0 = some v) : Ret Try.prog f_impl_isOrder [(slr false 1 vint) list0, vint n0] (V.bool v) := by
  refine ret_vc k_impl_isOrder (Nat.le_of_ble_eq_true rfl) ?_
  unfold F_impl_isOrder at h
  conv => whnf
  refine CutQ.o (fun t : (Unit ⊕ Unit) => match t with | (.inl s) => (Ex.ret, [4], [(4, A.val (V.bool (false)))]) | (.inr s) => (Ex.normal, [0, 1], [(0, A.val ((slr false 1 vint) (list0))), (1, A.val (vint (n0)))])) h ?_ ?_
  · intro t h
    conv => whnf
    refine Len.map ?_
    conv => whnf
    refine Br.on h (fun p1 h => ?_) (fun p1 h => ?_)
    · conv => whnf
      refine Br.yes ?_
      conv => whnf
      refine Br.yes ?_
      conv => whnf
      refine Br.yes ?_
      conv => whnf
      refine Br.yes ?_
      conv => whnf
      refine Br.yes ?_
      conv => whnf
      cases h; exact ⟨rfl, rfl⟩
    · conv => whnf
      refine Br.no ?_
      conv => whnf
      refine Br.no ?_
      conv => whnf
      refine CallQ.o V.bool (by first | rfl | simp only [mulN_one, V.fz, fzL, V.up, upL, fzL_map, fz_slr, fz_at, slr, List.cons_append, List.nil_append] | simp [mulN_one, V.fz, fzL, V.up, upL, fzL_map, fz_slr, fz_at, slr]) h (fun r h => t_impl_inSize h) (fun r2 h => ?_)
      conv => whnf
      refine Br.no ?_
      conv => whnf
      refine Br.no ?_
      conv => whnf
      refine Br.flip ?_
      conv => whnf
      refine Br.ob h (fun p3 h => ?_) (fun p3 h => ?_)
      · conv => whnf
        cases h; exact ⟨rfl, rfl⟩
      · conv => whnf
        cases h; exact ⟨rfl, rfl⟩
  · rintro (⟨⟩ | ⟨⟩) h
    · try dsimp only at h
      conv => whnf
      cases h; exact (by first | rfl | simp only [resV, mulN_one, V.fz, fzL, V.up, upL, fzL_map, fz_slr, fz_at, slr] | simp [resV, mulN_one, V.fz, fzL, V.up, upL, fzL_map, fz_slr, fz_at, slr])
    · try dsimp only at h
      conv => whnf
      refine Ask.o h fun p5 h => ?_
      conv => whnf
      refine MkQ.o V.bool (false) rfl ?_
      conv => whnf
      refine Len.map ?_
      conv => whnf
      refine LoopQ.o [22, 21, 20, 5] (S_impl_isOrder_l1 list0) (T_impl_isOrder_l1 list0) h (fun s o h => b_impl_isOrder_l1 s o h) (by first | rfl | simp [restrict, look, mulN_one, V.fz, fzL, V.up, upL, fzL_map, fz_slr, fz_at, slr]) (by rintro (_ | _) <;> rfl) ?_
      rintro (⟨⟩ | ⟨⟩) h
      · try dsimp only at h
        conv => whnf
        cases h; exact (by first | rfl | simp only [resV, mulN_one, V.fz, fzL, V.up, upL, fzL_map, fz_slr, fz_at, slr] | simp [resV, mulN_one, V.fz, fzL, V.up, upL, fzL_map, fz_slr, fz_at, slr])
      · try dsimp only at h
        conv => whnf
        cases h; exact (by first | rfl | simp only [resV, mulN_one, V.fz, fzL, V.up, upL, fzL_map, fz_slr, fz_at, slr] | simp [resV, mulN_one, V.fz, fzL, V.up, upL, fzL_map, fz_slr, fz_at, slr])

end Go.Proofs.Ytdodfnbbfkcgnaa.Ax
