/-
  What the functions compute, as functions on plain data, and that the program does compute it; written by program.
-/
import Derived.Test.YtgjmaofgokgdiaaCode
namespace Go.Proofs.Ytgjmaofgokgdiaa.Ax
open Go
set_option maxRecDepth 100000
set_option maxHeartbeats 4000000

noncomputable def F_laws_eqIntS_l1 (a0 : List Int) (b0 : List Int) : Int → Option (Int ⊕ (Unit ⊕ Unit)) := fun x5 =>
   if x5 < (↑a0.length : Int) then
    ask ((0 : Int) ≤ x5 ∧ x5 < (↑a0.length : Int)) <|
    ask ((0 : Int) ≤ x5 ∧ x5 < (↑b0.length : Int)) <|
    if nth a0 x5.toNat ≠ nth b0 x5.toNat then
     some (.inr (.inl ()))
    else
     ask (InI (x5 + (1 : Int))) <|
     some (.inl (x5 + (1 : Int)))
   else
    some (.inr (.inr ()))
def S_laws_eqIntS_l1 (a0 : List Int) (b0 : List Int) : Int → St := fun s => [(5, A.val (vint s)), (0, A.val ((slr false 1 vint) (a0))), (1, A.val ((slr false 1 vint) (b0)))]
def T_laws_eqIntS_l1 (_a0 : List Int) (_b0 : List Int) : (Unit ⊕ Unit) → Tgt
  | (.inl _s) => (Ex.ret, [4], [(4, A.val (V.bool (false)))])
  | (.inr _s) => ((Ex.exit 0), [], [])
theorem b_laws_eqIntS_l1 {a0 : List Int} {b0 : List Int} (x5 : Int) (o : Int ⊕ (Unit ⊕ Unit)) (h : F_laws_eqIntS_l1 a0 b0 x5 = some o) : vc Try.prog c_laws_eqIntS_l1 (outQ [5, 0, 1] (S_laws_eqIntS_l1 a0 b0) (T_laws_eqIntS_l1 a0 b0) o) (S_laws_eqIntS_l1 a0 b0 x5) := by
  unfold F_laws_eqIntS_l1 at h
  try dsimp only at h
  conv => whnf
  refine Len.map ?_
  conv => whnf
  refine Br.od h (fun p2 h => ?_) (fun p2 h => ?_)
  · conv => whnf
    refine Len.map ?_
    conv => whnf
    refine Ask.o h fun p3 h => ?_
    conv => whnf
    refine Elem.o (by first | omega | (simp only [mulN] at *; omega) | (simp [mulN] at *; omega)) ?_
    conv => whnf
    refine Len.map ?_
    conv => whnf
    refine Ask.o h fun p4 h => ?_
    conv => whnf
    refine Elem.o (by first | omega | (simp only [mulN] at *; omega) | (simp [mulN] at *; omega)) ?_
    conv => whnf
    refine Br.on h (fun p5 h => ?_) (fun p5 h => ?_)
    · conv => whnf
      cases h; exact ⟨rfl, rfl⟩
    · conv => whnf
      refine Ask.o h fun p6 h => ?_
      conv => whnf
      cases h; exact ⟨rfl, rfl⟩
  · conv => whnf
    cases h; exact ⟨rfl, rfl⟩

noncomputable def F_laws_eqIntS (a0 : (List Int)) (b0 : (List Int)) : Option Bool :=
  if (↑a0.length : Int) ≠ (↑b0.length : Int) then
   some false
  else
   (loopO (F_laws_eqIntS_l1 a0 b0) (0 : Int)).bind fun t => match t with
   | (.inl _) => (some false)
   | (.inr _) => (some true)
theorem t_laws_eqIntS {a0 : (List Int)} {b0 : (List Int)} {v : Bool} (h : F_laws_eqIntS a0 b0 = some v) : Ret Try.prog f_laws_eqIntS [(slr false 1 vint) a0, (slr false 1 vint) b0] (V.bool v) := by
  refine ret_vc k_laws_eqIntS (Nat.le_of_ble_eq_true rfl) ?_
  unfold F_laws_eqIntS at h
  conv => whnf
  refine Len.map ?_
  conv => whnf
  refine Len.map ?_
  conv => whnf
  refine Br.on h (fun p1 h => ?_) (fun p1 h => ?_)
  · conv => whnf
    cases h; exact (by first | rfl | simp only [resV, mulN_one, V.fz, fzL, V.up, upL, fzL_map, fz_slr, fz_at, slr] | simp [resV, mulN_one, V.fz, fzL, V.up, upL, fzL_map, fz_slr, fz_at, slr])
  · conv => whnf
    refine LoopQ.o [5, 0, 1] (S_laws_eqIntS_l1 a0 b0) (T_laws_eqIntS_l1 a0 b0) h (fun s o h => b_laws_eqIntS_l1 s o h) (by first | rfl | simp [restrict, look, mulN_one, V.fz, fzL, V.up, upL, fzL_map, fz_slr, fz_at, slr]) (by rintro (_ | _) <;> rfl) ?_
    rintro (⟨⟩ | ⟨⟩) h
    · try dsimp only at h
      conv => whnf
      cases h; exact (by first | rfl | simp only [resV, mulN_one, V.fz, fzL, V.up, upL, fzL_map, fz_slr, fz_at, slr] | simp [resV, mulN_one, V.fz, fzL, V.up, upL, fzL_map, fz_slr, fz_at, slr])
    · try dsimp only at h
      conv => whnf
      cases h; exact (by first | rfl | simp only [resV, mulN_one, V.fz, fzL, V.up, upL, fzL_map, fz_slr, fz_at, slr] | simp [resV, mulN_one, V.fz, fzL, V.up, upL, fzL_map, fz_slr, fz_at, slr])

noncomputable def F_laws_markIntS_l1 : (Int × (List Int) × Int) → Option ((Int × (List Int) × Int) ⊕ ((List Int) × Int)) := fun (x5, x19, x1) =>
   if x5 < (↑x19.length : Int) then
    ask ((0 : Int) ≤ x5 ∧ x5 < (↑x19.length : Int)) <|
    ask (InI (x1 + (1 : Int))) <|
    ask (InI (x5 + (1 : Int))) <|
    some (.inl (x5 + (1 : Int), x19.set x5.toNat x1, x1 + (1 : Int)))
   else
    some (.inr (x19, x1))
def S_laws_markIntS_l1 : (Int × (List Int) × Int) → St := fun s => [(5, A.val (vint s.1)), (0, A.ref 19 []), (19, A.val ((slr true 1 vint) s.2.1)), (1, A.val (vint s.2.2))]
def T_laws_markIntS_l1 : ((List Int) × Int) → Tgt
  | s => ((Ex.exit 0), [19, 1], [(19, A.val ((slr true 1 vint) s.1)), (1, A.val (vint s.2))])
theorem b_laws_markIntS_l1 (s : (Int × (List Int) × Int)) (o : (Int × (List Int) × Int) ⊕ ((List Int) × Int)) (h : F_laws_markIntS_l1 s = some o) : vc Try.prog c_laws_markIntS_l1 (outQ [5, 0, 19, 1] (S_laws_markIntS_l1) (T_laws_markIntS_l1) o) (S_laws_markIntS_l1 s) := by
  obtain ⟨x5, x19, x1⟩ := s
  unfold F_laws_markIntS_l1 at h
  try dsimp only at h
  conv => whnf
  refine Len.map ?_
  conv => whnf
  refine Br.od h (fun p1 h => ?_) (fun p1 h => ?_)
  · conv => whnf
    refine Len.map ?_
    conv => whnf
    refine Ask.o h fun p2 h => ?_
    conv => whnf
    refine SetKids.one (fun _ => ⟨rfl, rfl⟩) (x1) (by first | rfl | simp only [mulN_one, V.fz, fzL, V.up, upL, fzL_map, fz_slr, fz_at, slr, List.cons_append, List.nil_append] | simp [mulN_one, V.fz, fzL, V.up, upL, fzL_map, fz_slr, fz_at, slr]) (by first | omega | (simp only [mulN] at *; omega) | (simp [mulN] at *; omega)) ?_
    conv => whnf
    refine Ask.o h fun p3 h => ?_
    conv => whnf
    refine Ask.o h fun p4 h => ?_
    conv => whnf
    cases h; exact ⟨rfl, rfl⟩
  · conv => whnf
    cases h; exact ⟨rfl, rfl⟩

noncomputable def F_laws_markIntS (a0 : (List Int)) (k0 : Int) : Option (Int × (List Int)) :=
  (loopO (F_laws_markIntS_l1) ((0 : Int), a0, k0)).bind fun (q5_19, q5_1) =>
  some (q5_1, q5_19)
theorem t_laws_markIntS {a0 : (List Int)} {k0 : Int} {v : (Int × (List Int))} (h : F_laws_markIntS a0 k0 = some v) : RetO Try.prog f_laws_markIntS [(slr true 1 vint) a0, vint k0] (vint v.1) 0 ((slr true 1 vint) v.2) := by
  refine reto_vc k_laws_markIntS (Nat.le_of_ble_eq_true rfl) ?_
  unfold F_laws_markIntS at h
  conv => whnf
  refine LoopQ.o [5, 0, 19, 1] (S_laws_markIntS_l1) (T_laws_markIntS_l1) h (fun s o h => b_laws_markIntS_l1 s o h) (by first | rfl | simp [restrict, look, mulN_one, V.fz, fzL, V.up, upL, fzL_map, fz_slr, fz_at, slr]) (fun _ => rfl) ?_
  rintro ⟨q5_19, q5_1⟩ h
  try dsimp only at h
  conv => whnf
  cases h; exact ⟨(by first | rfl | simp only [resV, mulN_one, V.fz, fzL, V.up, upL, fzL_map, fz_slr, fz_at, slr] | simp [resV, mulN_one, V.fz, fzL, V.up, upL, fzL_map, fz_slr, fz_at, slr]), (by first | rfl | simp only [resV, mulN_one, V.fz, fzL, V.up, upL, fzL_map, fz_slr, fz_at, slr] | simp [resV, mulN_one, V.fz, fzL, V.up, upL, fzL_map, fz_slr, fz_at, slr])⟩

noncomputable def F_laws_heldIntS_l1 (a0 : List Int) : (Int × Int) → Option ((Int × Int) ⊕ (Unit ⊕ Int)) := fun (x5, x1) =>
   if x5 < (↑a0.length : Int) then
    ask ((0 : Int) ≤ x5 ∧ x5 < (↑a0.length : Int)) <|
    if nth a0 x5.toNat ≠ x1 then
     some (.inr (.inl ()))
    else
     ask (InI (x1 + (1 : Int))) <|
     ask (InI (x5 + (1 : Int))) <|
     some (.inl (x5 + (1 : Int), x1 + (1 : Int)))
   else
    some (.inr (.inr x1))
def S_laws_heldIntS_l1 (a0 : List Int) : (Int × Int) → St := fun s => [(5, A.val (vint s.1)), (0, A.val ((slr false 1 vint) (a0))), (1, A.val (vint s.2))]
def T_laws_heldIntS_l1 (_a0 : List Int) : (Unit ⊕ Int) → Tgt
  | (.inl _s) => (Ex.ret, [4], [(4, A.val (vint ((-1 : Int))))])
  | (.inr s) => ((Ex.exit 0), [1], [(1, A.val (vint s))])
theorem b_laws_heldIntS_l1 {a0 : List Int} (s : (Int × Int)) (o : (Int × Int) ⊕ (Unit ⊕ Int)) (h : F_laws_heldIntS_l1 a0 s = some o) : vc Try.prog c_laws_heldIntS_l1 (outQ [5, 0, 1] (S_laws_heldIntS_l1 a0) (T_laws_heldIntS_l1 a0) o) (S_laws_heldIntS_l1 a0 s) := by
  obtain ⟨x5, x1⟩ := s
  unfold F_laws_heldIntS_l1 at h
  try dsimp only at h
  conv => whnf
  refine Len.map ?_
  conv => whnf
  refine Br.od h (fun p1 h => ?_) (fun p1 h => ?_)
  · conv => whnf
    refine Len.map ?_
    conv => whnf
    refine Ask.o h fun p2 h => ?_
    conv => whnf
    refine Elem.o (by first | omega | (simp only [mulN] at *; omega) | (simp [mulN] at *; omega)) ?_
    conv => whnf
    refine Br.on h (fun p3 h => ?_) (fun p3 h => ?_)
    · conv => whnf
      cases h; exact ⟨rfl, rfl⟩
    · conv => whnf
      refine Ask.o h fun p4 h => ?_
      conv => whnf
      refine Ask.o h fun p5 h => ?_
      conv => whnf
      cases h; exact ⟨rfl, rfl⟩
  · conv => whnf
    cases h; exact ⟨rfl, rfl⟩

noncomputable def F_laws_heldIntS (a0 : (List Int)) (k0 : Int) : Option Int :=
  (loopO (F_laws_heldIntS_l1 a0) ((0 : Int), k0)).bind fun t => match t with
  | (.inl _) => (some (-1 : Int))
  | (.inr q6_1) => (some q6_1)
theorem t_laws_heldIntS {a0 : (List Int)} {k0 : Int} {v : Int} (h : F_laws_heldIntS a0 k0 = some v) : Ret Try.prog f_laws_heldIntS [(slr false 1 vint) a0, vint k0] (vint v) := by
  refine ret_vc k_laws_heldIntS (Nat.le_of_ble_eq_true rfl) ?_
  unfold F_laws_heldIntS at h
  conv => whnf
  refine LoopQ.o [5, 0, 1] (S_laws_heldIntS_l1 a0) (T_laws_heldIntS_l1 a0) h (fun s o h => b_laws_heldIntS_l1 s o h) (by first | rfl | simp [restrict, look, mulN_one, V.fz, fzL, V.up, upL, fzL_map, fz_slr, fz_at, slr]) (by rintro (_ | _) <;> rfl) ?_
  rintro (⟨⟩ | q6_1) h
  · try dsimp only at h
    conv => whnf
    cases h; exact (by first | rfl | simp only [resV, mulN_one, V.fz, fzL, V.up, upL, fzL_map, fz_slr, fz_at, slr] | simp [resV, mulN_one, V.fz, fzL, V.up, upL, fzL_map, fz_slr, fz_at, slr])
  · try dsimp only at h
    conv => whnf
    cases h; exact (by first | rfl | simp only [resV, mulN_one, V.fz, fzL, V.up, upL, fzL_map, fz_slr, fz_at, slr] | simp [resV, mulN_one, V.fz, fzL, V.up, upL, fzL_map, fz_slr, fz_at, slr])

noncomputable def F_impl_marks_l1 (list0 : List Int) : (Int × (List Bool)) → Option ((Int × (List Bool)) ⊕ (List Bool)) := fun (x12, x5) =>
   if x12 < (↑list0.length : Int) then
    ask ((0 : Int) ≤ x12 ∧ x12 < (↑list0.length : Int)) <|
    ask ((0 : Int) ≤ nth list0 x12.toNat ∧ nth list0 x12.toNat < (↑x5.length : Int)) <|
    ask (InI (x12 + (1 : Int))) <|
    some (.inl (x12 + (1 : Int), x5.set (nth list0 x12.toNat).toNat true))
   else
    some (.inr x5)
def S_impl_marks_l1 (list0 : List Int) : (Int × (List Bool)) → St := fun s => [(12, A.val (vint s.1)), (11, A.val (vint ((↑list0.length : Int)))), (10, A.val ((slr false 1 vint) (list0))), (5, A.val ((slr true 1 V.bool) s.2))]
def T_impl_marks_l1 (_list0 : List Int) : (List Bool) → Tgt
  | s => ((Ex.exit 0), [5], [(5, A.val ((slr true 1 V.bool) s))])
theorem b_impl_marks_l1 {list0 : List Int} (s : (Int × (List Bool))) (o : (Int × (List Bool)) ⊕ (List Bool)) (h : F_impl_marks_l1 list0 s = some o) : vc Try.prog c_impl_marks_l1 (outQ [12, 11, 10, 5] (S_impl_marks_l1 list0) (T_impl_marks_l1 list0) o) (S_impl_marks_l1 list0 s) := by
  obtain ⟨x12, x5⟩ := s
  unfold F_impl_marks_l1 at h
  try dsimp only at h
  conv => whnf
  refine Br.od h (fun p2 h => ?_) (fun p2 h => ?_)
  · conv => whnf
    refine Len.map ?_
    conv => whnf
    refine Ask.o h fun p3 h => ?_
    conv => whnf
    refine Elem.o (by first | omega | (simp only [mulN] at *; omega) | (simp [mulN] at *; omega)) ?_
    conv => whnf
    refine Len.map ?_
    conv => whnf
    refine Ask.o h fun p4 h => ?_
    conv => whnf
    refine SetKids.one (fun _ => ⟨rfl, rfl⟩) (true) (by first | rfl | simp only [mulN_one, V.fz, fzL, V.up, upL, fzL_map, fz_slr, fz_at, slr, List.cons_append, List.nil_append] | simp [mulN_one, V.fz, fzL, V.up, upL, fzL_map, fz_slr, fz_at, slr]) (by first | omega | (simp only [mulN] at *; omega) | (simp [mulN] at *; omega)) ?_
    conv => whnf
    refine Ask.o h fun p5 h => ?_
    conv => whnf
    cases h; exact ⟨rfl, rfl⟩
  · conv => whnf
    cases h; exact ⟨rfl, rfl⟩

noncomputable def F_impl_marks (list0 : (List Int)) (n0 : Int) : Option (List Bool) :=
  ask ((0 : Int) ≤ n0 ∧ n0 ≤ (↑LIM : Int)) <|
  (loopO (F_impl_marks_l1 list0) ((0 : Int), List.replicate n0.toNat false)).bind fun q6_5 =>
  some q6_5
theorem t_impl_marks {list0 : (List Int)} {n0 : Int} {v : (List Bool)} (h : F_impl_marks list0 n0 = some v) : Ret Try.prog f_impl_marks [(slr false 1 vint) list0, vint n0] ((slr true 1 V.bool) v) := by
  refine ret_vc k_impl_marks (Nat.le_of_ble_eq_true rfl) ?_
  unfold F_impl_marks at h
  conv => whnf
  refine Ask.o h fun p1 h => ?_
  conv => whnf
  refine MkQ.o V.bool (false) rfl ?_
  conv => whnf
  refine Len.map ?_
  conv => whnf
  refine LoopQ.o [12, 11, 10, 5] (S_impl_marks_l1 list0) (T_impl_marks_l1 list0) h (fun s o h => b_impl_marks_l1 s o h) (by first | rfl | simp [restrict, look, mulN_one, V.fz, fzL, V.up, upL, fzL_map, fz_slr, fz_at, slr]) (fun _ => rfl) ?_
  rintro q6_5 h
  try dsimp only at h
  conv => whnf
  cases h; exact (by first | rfl | simp only [resV, mulN_one, V.fz, fzL, V.up, upL, fzL_map, fz_slr, fz_at, slr] | simp [resV, mulN_one, V.fz, fzL, V.up, upL, fzL_map, fz_slr, fz_at, slr])

noncomputable def F_spec_l5List_l1 (in0 : List Bool) : (Int × (List Int)) → Option ((Int × (List Int)) ⊕ (List Int)) := fun (x4, x3) =>
   if x4 < (↑in0.length : Int) then
    ask ((0 : Int) ≤ x4 ∧ x4 < (↑in0.length : Int)) <|
    if (nth in0 x4.toNat) = true then
     ask ((x3).length + ([x4]).length ≤ LIM) <|
     ask (InI (x4 + (1 : Int))) <|
     some (.inl (x4 + (1 : Int), x3 ++ [x4]))
    else
     ask (InI (x4 + (1 : Int))) <|
     some (.inl (x4 + (1 : Int), x3))
   else
    some (.inr x3)
def S_spec_l5List_l1 (in0 : List Bool) : (Int × (List Int)) → St := fun s => [(4, A.val (vint s.1)), (3, A.val ((slr true 1 vint) s.2)), (0, A.val ((slr false 1 V.bool) (in0)))]
def T_spec_l5List_l1 (_in0 : List Bool) : (List Int) → Tgt
  | s => ((Ex.exit 0), [3], [(3, A.val ((slr true 1 vint) s))])
theorem b_spec_l5List_l1 {in0 : List Bool} (s : (Int × (List Int))) (o : (Int × (List Int)) ⊕ (List Int)) (h : F_spec_l5List_l1 in0 s = some o) : vc Try.prog c_spec_l5List_l1 (outQ [4, 3, 0] (S_spec_l5List_l1 in0) (T_spec_l5List_l1 in0) o) (S_spec_l5List_l1 in0 s) := by
  obtain ⟨x4, x3⟩ := s
  unfold F_spec_l5List_l1 at h
  try dsimp only at h
  conv => whnf
  refine Len.map ?_
  conv => whnf
  refine Br.od h (fun p1 h => ?_) (fun p1 h => ?_)
  · conv => whnf
    refine Len.map ?_
    conv => whnf
    refine Ask.o h fun p2 h => ?_
    conv => whnf
    refine Elem.o (by first | omega | (simp only [mulN] at *; omega) | (simp [mulN] at *; omega)) ?_
    conv => whnf
    refine Br.ob h (fun p3 h => ?_) (fun p3 h => ?_)
    · conv => whnf
      refine BslQ.o vint [x4] (by exact fun _ => ⟨rfl, rfl⟩) (by first | rfl | simp only [mulN_one, V.fz, fzL, V.up, upL, fzL_map, fz_slr, fz_at, slr, List.cons_append, List.nil_append] | simp [mulN_one, V.fz, fzL, V.up, upL, fzL_map, fz_slr, fz_at, slr]) ?_
      conv => whnf
      refine NoOwn.o (fun _ => rfl) ?_
      conv => whnf
      refine AppQ.o (m := 1) vint (by exact fun _ => ⟨rfl, rfl⟩) (x3) ([x4]) (by first | rfl | simp only [mulN_one, V.fz, fzL, V.up, upL, fzL_map, fz_slr, fz_at, slr, List.cons_append, List.nil_append] | simp [mulN_one, V.fz, fzL, V.up, upL, fzL_map, fz_slr, fz_at, slr]) (by first | rfl | simp only [mulN_one, V.fz, fzL, V.up, upL, fzL_map, fz_slr, fz_at, slr, List.cons_append, List.nil_append] | simp [mulN_one, V.fz, fzL, V.up, upL, fzL_map, fz_slr, fz_at, slr]) h fun h => ?_
      conv => whnf
      refine Ask.o h fun p4 h => ?_
      conv => whnf
      cases h; exact ⟨rfl, rfl⟩
    · conv => whnf
      refine Ask.o h fun p5 h => ?_
      conv => whnf
      cases h; exact ⟨rfl, rfl⟩
  · conv => whnf
    cases h; exact ⟨rfl, rfl⟩

noncomputable def F_spec_l5List (in0 : (List Bool)) : Option (List Int) :=
  (loopO (F_spec_l5List_l1 in0) ((0 : Int), nilL Int)).bind fun q6_3 =>
  some q6_3
theorem t_spec_l5List {in0 : (List Bool)} {v : (List Int)} (h : F_spec_l5List in0 = some v) : Ret Try.prog f_spec_l5List [(slr false 1 V.bool) in0] ((slr true 1 vint) v) := by
  refine ret_vc k_spec_l5List (Nat.le_of_ble_eq_true rfl) ?_
  unfold F_spec_l5List at h
  conv => whnf
  refine BslQ.o vint (nilL Int) (by exact fun _ => ⟨rfl, rfl⟩) (by first | rfl | simp only [mulN_one, V.fz, fzL, V.up, upL, fzL_map, fz_slr, fz_at, slr, List.cons_append, List.nil_append] | simp [mulN_one, V.fz, fzL, V.up, upL, fzL_map, fz_slr, fz_at, slr]) ?_
  conv => whnf
  refine LoopQ.o [4, 3, 0] (S_spec_l5List_l1 in0) (T_spec_l5List_l1 in0) h (fun s o h => b_spec_l5List_l1 s o h) (by first | rfl | simp [restrict, look, mulN_one, V.fz, fzL, V.up, upL, fzL_map, fz_slr, fz_at, slr]) (fun _ => rfl) ?_
  rintro q6_3 h
  try dsimp only at h
  conv => whnf
  cases h; exact (by first | rfl | simp only [resV, mulN_one, V.fz, fzL, V.up, upL, fzL_map, fz_slr, fz_at, slr] | simp [resV, mulN_one, V.fz, fzL, V.up, upL, fzL_map, fz_slr, fz_at, slr])

noncomputable def F_spec_l1Has_l1 (l0 : List Int) (n0 : Int) : Int → Option (Int ⊕ (Unit ⊕ Unit)) := fun x5 =>
   if x5 < (↑l0.length : Int) then
    ask ((0 : Int) ≤ x5 ∧ x5 < (↑l0.length : Int)) <|
    if nth l0 x5.toNat = n0 then
     some (.inr (.inl ()))
    else
     ask (InI (x5 + (1 : Int))) <|
     some (.inl (x5 + (1 : Int)))
   else
    some (.inr (.inr ()))
def S_spec_l1Has_l1 (l0 : List Int) (n0 : Int) : Int → St := fun s => [(5, A.val (vint s)), (0, A.val ((slr false 1 vint) (l0))), (1, A.val (vint (n0)))]
def T_spec_l1Has_l1 (_l0 : List Int) (_n0 : Int) : (Unit ⊕ Unit) → Tgt
  | (.inl _s) => (Ex.ret, [4], [(4, A.val (V.bool (true)))])
  | (.inr _s) => ((Ex.exit 0), [], [])
theorem b_spec_l1Has_l1 {l0 : List Int} {n0 : Int} (x5 : Int) (o : Int ⊕ (Unit ⊕ Unit)) (h : F_spec_l1Has_l1 l0 n0 x5 = some o) : vc Try.prog c_spec_l1Has_l1 (outQ [5, 0, 1] (S_spec_l1Has_l1 l0 n0) (T_spec_l1Has_l1 l0 n0) o) (S_spec_l1Has_l1 l0 n0 x5) := by
  unfold F_spec_l1Has_l1 at h
  try dsimp only at h
  conv => whnf
  refine Len.map ?_
  conv => whnf
  refine Br.od h (fun p1 h => ?_) (fun p1 h => ?_)
  · conv => whnf
    refine Len.map ?_
    conv => whnf
    refine Ask.o h fun p2 h => ?_
    conv => whnf
    refine Elem.o (by first | omega | (simp only [mulN] at *; omega) | (simp [mulN] at *; omega)) ?_
    conv => whnf
    refine Br.oe h (fun p3 h => ?_) (fun p3 h => ?_)
    · conv => whnf
      cases h; exact ⟨rfl, rfl⟩
    · conv => whnf
      refine Ask.o h fun p4 h => ?_
      conv => whnf
      cases h; exact ⟨rfl, rfl⟩
  · conv => whnf
    cases h; exact ⟨rfl, rfl⟩

noncomputable def F_spec_l1Has (l0 : (List Int)) (n0 : Int) : Option Bool :=
  (loopO (F_spec_l1Has_l1 l0 n0) (0 : Int)).bind fun t => match t with
  | (.inl _) => (some true)
  | (.inr _) => (some false)
theorem t_spec_l1Has {l0 : (List Int)} {n0 : Int} {v : Bool} (h : F_spec_l1Has l0 n0 = some v) : Ret Try.prog f_spec_l1Has [(slr false 1 vint) l0, vint n0] (V.bool v) := by
  refine ret_vc k_spec_l1Has (Nat.le_of_ble_eq_true rfl) ?_
  unfold F_spec_l1Has at h
  conv => whnf
  refine LoopQ.o [5, 0, 1] (S_spec_l1Has_l1 l0 n0) (T_spec_l1Has_l1 l0 n0) h (fun s o h => b_spec_l1Has_l1 s o h) (by first | rfl | simp [restrict, look, mulN_one, V.fz, fzL, V.up, upL, fzL_map, fz_slr, fz_at, slr]) (by rintro (_ | _) <;> rfl) ?_
  rintro (⟨⟩ | ⟨⟩) h
  · try dsimp only at h
    conv => whnf
    cases h; exact (by first | rfl | simp only [resV, mulN_one, V.fz, fzL, V.up, upL, fzL_map, fz_slr, fz_at, slr] | simp [resV, mulN_one, V.fz, fzL, V.up, upL, fzL_map, fz_slr, fz_at, slr])
  · try dsimp only at h
    conv => whnf
    cases h; exact (by first | rfl | simp only [resV, mulN_one, V.fz, fzL, V.up, upL, fzL_map, fz_slr, fz_at, slr] | simp [resV, mulN_one, V.fz, fzL, V.up, upL, fzL_map, fz_slr, fz_at, slr])

noncomputable def F_impl_bitsOf_l1 (mask0 : Int) : (Int × (List Int)) → Option ((Int × (List Int)) ⊕ (List Int)) := fun (x4, x3) =>
   ask ((0 : Int) ≤ x4) <|
   if shrI mask0 x4 > (0 : Int) then
    ask ((0 : Int) ≤ x4) <|
    if andI (shrI mask0 x4) (1 : Int) = (1 : Int) then
     ask ((x3).length + ([x4]).length ≤ LIM) <|
     ask (InI (x4 + (1 : Int))) <|
     some (.inl (x4 + (1 : Int), x3 ++ [x4]))
    else
     ask (InI (x4 + (1 : Int))) <|
     some (.inl (x4 + (1 : Int), x3))
   else
    some (.inr x3)
def S_impl_bitsOf_l1 (mask0 : Int) : (Int × (List Int)) → St := fun s => [(4, A.val (vint s.1)), (3, A.val ((slr true 1 vint) s.2)), (0, A.val (vint (mask0)))]
def T_impl_bitsOf_l1 (_mask0 : Int) : (List Int) → Tgt
  | s => ((Ex.exit 0), [3], [(3, A.val ((slr true 1 vint) s))])
theorem b_impl_bitsOf_l1 {mask0 : Int} (s : (Int × (List Int))) (o : (Int × (List Int)) ⊕ (List Int)) (h : F_impl_bitsOf_l1 mask0 s = some o) : vc Try.prog c_impl_bitsOf_l1 (outQ [4, 3, 0] (S_impl_bitsOf_l1 mask0) (T_impl_bitsOf_l1 mask0) o) (S_impl_bitsOf_l1 mask0 s) := by
  obtain ⟨x4, x3⟩ := s
  unfold F_impl_bitsOf_l1 at h
  try dsimp only at h
  conv => whnf
  refine Ask.o h fun p1 h => ?_
  conv => whnf
  refine Br.od h (fun p2 h => ?_) (fun p2 h => ?_)
  · conv => whnf
    refine Ask.o h fun p3 h => ?_
    conv => whnf
    refine Br.oe h (fun p4 h => ?_) (fun p4 h => ?_)
    · conv => whnf
      refine BslQ.o vint [x4] (by exact fun _ => ⟨rfl, rfl⟩) (by first | rfl | simp only [mulN_one, V.fz, fzL, V.up, upL, fzL_map, fz_slr, fz_at, slr, List.cons_append, List.nil_append] | simp [mulN_one, V.fz, fzL, V.up, upL, fzL_map, fz_slr, fz_at, slr]) ?_
      conv => whnf
      refine NoOwn.o (fun _ => rfl) ?_
      conv => whnf
      refine AppQ.o (m := 1) vint (by exact fun _ => ⟨rfl, rfl⟩) (x3) ([x4]) (by first | rfl | simp only [mulN_one, V.fz, fzL, V.up, upL, fzL_map, fz_slr, fz_at, slr, List.cons_append, List.nil_append] | simp [mulN_one, V.fz, fzL, V.up, upL, fzL_map, fz_slr, fz_at, slr]) (by first | rfl | simp only [mulN_one, V.fz, fzL, V.up, upL, fzL_map, fz_slr, fz_at, slr, List.cons_append, List.nil_append] | simp [mulN_one, V.fz, fzL, V.up, upL, fzL_map, fz_slr, fz_at, slr]) h fun h => ?_
      conv => whnf
      refine Ask.o h fun p5 h => ?_
      conv => whnf
      cases h; exact ⟨rfl, rfl⟩
    · conv => whnf
      refine Ask.o h fun p6 h => ?_
      conv => whnf
      cases h; exact ⟨rfl, rfl⟩
  · conv => whnf
    cases h; exact ⟨rfl, rfl⟩

noncomputable def F_impl_bitsOf (mask0 : Int) : Option (List Int) :=
  (loopO (F_impl_bitsOf_l1 mask0) ((0 : Int), nilL Int)).bind fun q7_3 =>
  some q7_3
theorem t_impl_bitsOf {mask0 : Int} {v : (List Int)} (h : F_impl_bitsOf mask0 = some v) : Ret Try.prog f_impl_bitsOf [vint mask0] ((slr true 1 vint) v) := by
  refine ret_vc k_impl_bitsOf (Nat.le_of_ble_eq_true rfl) ?_
  unfold F_impl_bitsOf at h
  conv => whnf
  refine BslQ.o vint (nilL Int) (by exact fun _ => ⟨rfl, rfl⟩) (by first | rfl | simp only [mulN_one, V.fz, fzL, V.up, upL, fzL_map, fz_slr, fz_at, slr, List.cons_append, List.nil_append] | simp [mulN_one, V.fz, fzL, V.up, upL, fzL_map, fz_slr, fz_at, slr]) ?_
  conv => whnf
  refine LoopQ.o [4, 3, 0] (S_impl_bitsOf_l1 mask0) (T_impl_bitsOf_l1 mask0) h (fun s o h => b_impl_bitsOf_l1 s o h) (by first | rfl | simp [restrict, look, mulN_one, V.fz, fzL, V.up, upL, fzL_map, fz_slr, fz_at, slr]) (fun _ => rfl) ?_
  rintro q7_3 h
  try dsimp only at h
  conv => whnf
  cases h; exact (by first | rfl | simp only [resV, mulN_one, V.fz, fzL, V.up, upL, fzL_map, fz_slr, fz_at, slr] | simp [resV, mulN_one, V.fz, fzL, V.up, upL, fzL_map, fz_slr, fz_at, slr])

noncomputable def F_spec_l5Bits_l1 (bits0 : Int) : (Int × (List Int)) → Option ((Int × (List Int)) ⊕ (List Int)) := fun (x4, x3) =>
   ask ((0 : Int) ≤ x4) <|
   if shrI bits0 x4 > (0 : Int) then
    ask ((0 : Int) ≤ x4) <|
    if andI (shrI bits0 x4) (1 : Int) = (1 : Int) then
     ask ((x3).length + ([x4]).length ≤ LIM) <|
     ask (InI (x4 + (1 : Int))) <|
     some (.inl (x4 + (1 : Int), x3 ++ [x4]))
    else
     ask (InI (x4 + (1 : Int))) <|
     some (.inl (x4 + (1 : Int), x3))
   else
    some (.inr x3)
def S_spec_l5Bits_l1 (bits0 : Int) : (Int × (List Int)) → St := fun s => [(4, A.val (vint s.1)), (3, A.val ((slr true 1 vint) s.2)), (0, A.val (vint (bits0)))]
def T_spec_l5Bits_l1 (_bits0 : Int) : (List Int) → Tgt
  | s => ((Ex.exit 0), [3], [(3, A.val ((slr true 1 vint) s))])
theorem b_spec_l5Bits_l1 {bits0 : Int} (s : (Int × (List Int))) (o : (Int × (List Int)) ⊕ (List Int)) (h : F_spec_l5Bits_l1 bits0 s = some o) : vc Try.prog c_spec_l5Bits_l1 (outQ [4, 3, 0] (S_spec_l5Bits_l1 bits0) (T_spec_l5Bits_l1 bits0) o) (S_spec_l5Bits_l1 bits0 s) := by
  obtain ⟨x4, x3⟩ := s
  unfold F_spec_l5Bits_l1 at h
  try dsimp only at h
  conv => whnf
  refine Ask.o h fun p1 h => ?_
  conv => whnf
  refine Br.od h (fun p2 h => ?_) (fun p2 h => ?_)
  · conv => whnf
    refine Ask.o h fun p3 h => ?_
    conv => whnf
    refine Br.oe h (fun p4 h => ?_) (fun p4 h => ?_)
    · conv => whnf
      refine BslQ.o vint [x4] (by exact fun _ => ⟨rfl, rfl⟩) (by first | rfl | simp only [mulN_one, V.fz, fzL, V.up, upL, fzL_map, fz_slr, fz_at, slr, List.cons_append, List.nil_append] | simp [mulN_one, V.fz, fzL, V.up, upL, fzL_map, fz_slr, fz_at, slr]) ?_
      conv => whnf
      refine NoOwn.o (fun _ => rfl) ?_
      conv => whnf
      refine AppQ.o (m := 1) vint (by exact fun _ => ⟨rfl, rfl⟩) (x3) ([x4]) (by first | rfl | simp only [mulN_one, V.fz, fzL, V.up, upL, fzL_map, fz_slr, fz_at, slr, List.cons_append, List.nil_append] | simp [mulN_one, V.fz, fzL, V.up, upL, fzL_map, fz_slr, fz_at, slr]) (by first | rfl | simp only [mulN_one, V.fz, fzL, V.up, upL, fzL_map, fz_slr, fz_at, slr, List.cons_append, List.nil_append] | simp [mulN_one, V.fz, fzL, V.up, upL, fzL_map, fz_slr, fz_at, slr]) h fun h => ?_
      conv => whnf
      refine Ask.o h fun p5 h => ?_
      conv => whnf
      cases h; exact ⟨rfl, rfl⟩
    · conv => whnf
      refine Ask.o h fun p6 h => ?_
      conv => whnf
      cases h; exact ⟨rfl, rfl⟩
  · conv => whnf
    cases h; exact ⟨rfl, rfl⟩

noncomputable def F_spec_l5Bits (bits0 : Int) : Option (List Int) :=
  (loopO (F_spec_l5Bits_l1 bits0) ((0 : Int), nilL Int)).bind fun q7_3 =>
  some q7_3
theorem t_spec_l5Bits {bits0 : Int} {v : (List Int)} (h : F_spec_l5Bits bits0 = some v) : Ret Try.prog f_spec_l5Bits [vint bits0] ((slr true 1 vint) v) := by
  refine ret_vc k_spec_l5Bits (Nat.le_of_ble_eq_true rfl) ?_
  unfold F_spec_l5Bits at h
  conv => whnf
  refine BslQ.o vint (nilL Int) (by exact fun _ => ⟨rfl, rfl⟩) (by first | rfl | simp only [mulN_one, V.fz, fzL, V.up, upL, fzL_map, fz_slr, fz_at, slr, List.cons_append, List.nil_append] | simp [mulN_one, V.fz, fzL, V.up, upL, fzL_map, fz_slr, fz_at, slr]) ?_
  conv => whnf
  refine LoopQ.o [4, 3, 0] (S_spec_l5Bits_l1 bits0) (T_spec_l5Bits_l1 bits0) h (fun s o h => b_spec_l5Bits_l1 s o h) (by first | rfl | simp [restrict, look, mulN_one, V.fz, fzL, V.up, upL, fzL_map, fz_slr, fz_at, slr]) (fun _ => rfl) ?_
  rintro q7_3 h
  try dsimp only at h
  conv => whnf
  cases h; exact (by first | rfl | simp only [resV, mulN_one, V.fz, fzL, V.up, upL, fzL_map, fz_slr, fz_at, slr] | simp [resV, mulN_one, V.fz, fzL, V.up, upL, fzL_map, fz_slr, fz_at, slr])

noncomputable def F_spec_l5Less_l1 (a0 : List Int) (b0 : List Int) : Int → Option (Int ⊕ (Bool ⊕ Unit)) := fun x5 =>
   if x5 < (↑a0.length : Int) then
    ask ((0 : Int) ≤ x5 ∧ x5 < (↑a0.length : Int)) <|
    ask ((0 : Int) ≤ x5 ∧ x5 < (↑b0.length : Int)) <|
    if nth a0 x5.toNat ≠ nth b0 x5.toNat then
     ask ((0 : Int) ≤ x5 ∧ x5 < (↑a0.length : Int)) <|
     ask ((0 : Int) ≤ x5 ∧ x5 < (↑b0.length : Int)) <|
     some (.inr (.inl (decide (nth a0 x5.toNat < nth b0 x5.toNat))))
    else
     ask (InI (x5 + (1 : Int))) <|
     some (.inl (x5 + (1 : Int)))
   else
    some (.inr (.inr ()))
def S_spec_l5Less_l1 (a0 : List Int) (b0 : List Int) : Int → St := fun s => [(5, A.val (vint s)), (0, A.val ((slr false 1 vint) (a0))), (1, A.val ((slr false 1 vint) (b0)))]
def T_spec_l5Less_l1 (_a0 : List Int) (_b0 : List Int) : (Bool ⊕ Unit) → Tgt
  | (.inl s) => (Ex.ret, [4], [(4, A.val (V.bool s))])
  | (.inr _s) => ((Ex.exit 0), [], [])
theorem b_spec_l5Less_l1 {a0 : List Int} {b0 : List Int} (x5 : Int) (o : Int ⊕ (Bool ⊕ Unit)) (h : F_spec_l5Less_l1 a0 b0 x5 = some o) : vc Try.prog c_spec_l5Less_l1 (outQ [5, 0, 1] (S_spec_l5Less_l1 a0 b0) (T_spec_l5Less_l1 a0 b0) o) (S_spec_l5Less_l1 a0 b0 x5) := by
  unfold F_spec_l5Less_l1 at h
  try dsimp only at h
  conv => whnf
  refine Len.map ?_
  conv => whnf
  refine Br.od h (fun p1 h => ?_) (fun p1 h => ?_)
  · conv => whnf
    refine Len.map ?_
    conv => whnf
    refine Ask.o h fun p2 h => ?_
    conv => whnf
    refine Elem.o (by first | omega | (simp only [mulN] at *; omega) | (simp [mulN] at *; omega)) ?_
    conv => whnf
    refine Len.map ?_
    conv => whnf
    refine Ask.o h fun p3 h => ?_
    conv => whnf
    refine Elem.o (by first | omega | (simp only [mulN] at *; omega) | (simp [mulN] at *; omega)) ?_
    conv => whnf
    refine Br.on h (fun p4 h => ?_) (fun p4 h => ?_)
    · conv => whnf
      refine Len.map ?_
      conv => whnf
      refine Ask.o h fun p5 h => ?_
      conv => whnf
      refine Elem.o (by first | omega | (simp only [mulN] at *; omega) | (simp [mulN] at *; omega)) ?_
      conv => whnf
      refine Len.map ?_
      conv => whnf
      refine Ask.o h fun p6 h => ?_
      conv => whnf
      refine Elem.o (by first | omega | (simp only [mulN] at *; omega) | (simp [mulN] at *; omega)) ?_
      conv => whnf
      cases h; exact ⟨rfl, rfl⟩
    · conv => whnf
      refine Ask.o h fun p7 h => ?_
      conv => whnf
      cases h; exact ⟨rfl, rfl⟩
  · conv => whnf
    cases h; exact ⟨rfl, rfl⟩

noncomputable def F_spec_l5Less (a0 : (List Int)) (b0 : (List Int)) : Option Bool :=
  (loopO (F_spec_l5Less_l1 a0 b0) (0 : Int)).bind fun t => match t with
  | (.inl q8_4) => (some q8_4)
  | (.inr _) => (some false)
theorem t_spec_l5Less {a0 : (List Int)} {b0 : (List Int)} {v : Bool} (h : F_spec_l5Less a0 b0 = some v) : Ret Try.prog f_spec_l5Less [(slr false 1 vint) a0, (slr false 1 vint) b0] (V.bool v) := by
  refine ret_vc k_spec_l5Less (Nat.le_of_ble_eq_true rfl) ?_
  unfold F_spec_l5Less at h
  conv => whnf
  refine LoopQ.o [5, 0, 1] (S_spec_l5Less_l1 a0 b0) (T_spec_l5Less_l1 a0 b0) h (fun s o h => b_spec_l5Less_l1 s o h) (by first | rfl | simp [restrict, look, mulN_one, V.fz, fzL, V.up, upL, fzL_map, fz_slr, fz_at, slr]) (by rintro (_ | _) <;> rfl) ?_
  rintro (q8_4 | ⟨⟩) h
  · try dsimp only at h
    conv => whnf
    cases h; exact (by first | rfl | simp only [resV, mulN_one, V.fz, fzL, V.up, upL, fzL_map, fz_slr, fz_at, slr] | simp [resV, mulN_one, V.fz, fzL, V.up, upL, fzL_map, fz_slr, fz_at, slr])
  · try dsimp only at h
    conv => whnf
    cases h; exact (by first | rfl | simp only [resV, mulN_one, V.fz, fzL, V.up, upL, fzL_map, fz_slr, fz_at, slr] | simp [resV, mulN_one, V.fz, fzL, V.up, upL, fzL_map, fz_slr, fz_at, slr])

noncomputable def F_impl_inSize_l1 (list0 : List Int) (n0 : Int) : Int → Option (Int ⊕ (Unit ⊕ Unit)) := fun x9 =>
   if x9 < (↑list0.length : Int) then
    ask ((0 : Int) ≤ x9 ∧ x9 < (↑list0.length : Int)) <|
    if nth list0 x9.toNat < (0 : Int) then
     some (.inr (.inl ()))
    else
     if nth list0 x9.toNat ≥ n0 then
      some (.inr (.inl ()))
     else
      ask (InI (x9 + (1 : Int))) <|
      some (.inl (x9 + (1 : Int)))
   else
    some (.inr (.inr ()))
def S_impl_inSize_l1 (list0 : List Int) (n0 : Int) : Int → St := fun s => [(9, A.val (vint s)), (8, A.val (vint ((↑list0.length : Int)))), (7, A.val ((slr false 1 vint) (list0))), (1, A.val (vint (n0)))]
def T_impl_inSize_l1 (_list0 : List Int) (_n0 : Int) : (Unit ⊕ Unit) → Tgt
  | (.inl _s) => (Ex.ret, [4], [(4, A.val (V.bool (false)))])
  | (.inr _s) => ((Ex.exit 0), [], [])
theorem b_impl_inSize_l1 {list0 : List Int} {n0 : Int} (x9 : Int) (o : Int ⊕ (Unit ⊕ Unit)) (h : F_impl_inSize_l1 list0 n0 x9 = some o) : vc Try.prog c_impl_inSize_l1 (outQ [9, 8, 7, 1] (S_impl_inSize_l1 list0 n0) (T_impl_inSize_l1 list0 n0) o) (S_impl_inSize_l1 list0 n0 x9) := by
  unfold F_impl_inSize_l1 at h
  try dsimp only at h
  conv => whnf
  refine Br.od h (fun p1 h => ?_) (fun p1 h => ?_)
  · conv => whnf
    refine Len.map ?_
    conv => whnf
    refine Ask.o h fun p2 h => ?_
    conv => whnf
    refine Elem.o (by first | omega | (simp only [mulN] at *; omega) | (simp [mulN] at *; omega)) ?_
    conv => whnf
    refine Br.od h (fun p3 h => ?_) (fun p3 h => ?_)
    · conv => whnf
      refine Br.yes ?_
      conv => whnf
      refine Br.yes ?_
      conv => whnf
      refine Br.yes ?_
      conv => whnf
      refine Br.yes ?_
      conv => whnf
      cases h; exact ⟨rfl, rfl⟩
    · conv => whnf
      refine Br.no ?_
      conv => whnf
      refine Br.no ?_
      conv => whnf
      refine Br.no ?_
      conv => whnf
      refine Br.od h (fun p4 h => ?_) (fun p4 h => ?_)
      · conv => whnf
        cases h; exact ⟨rfl, rfl⟩
      · conv => whnf
        refine Ask.o h fun p5 h => ?_
        conv => whnf
        cases h; exact ⟨rfl, rfl⟩
  · conv => whnf
    cases h; exact ⟨rfl, rfl⟩

noncomputable def F_impl_inSize (list0 : (List Int)) (n0 : Int) : Option Bool :=
  (loopO (F_impl_inSize_l1 list0 n0) (0 : Int)).bind fun t => match t with
  | (.inl _) => (some false)
  | (.inr _) => (some true)
theorem t_impl_inSize {list0 : (List Int)} {n0 : Int} {v : Bool} (h : F_impl_inSize list0 n0 = some v) : Ret Try.prog f_impl_inSize [(slr false 1 vint) list0, vint n0] (V.bool v) := by
  refine ret_vc k_impl_inSize (Nat.le_of_ble_eq_true rfl) ?_
  unfold F_impl_inSize at h
  conv => whnf
  refine Len.map ?_
  conv => whnf
  refine LoopQ.o [9, 8, 7, 1] (S_impl_inSize_l1 list0 n0) (T_impl_inSize_l1 list0 n0) h (fun s o h => b_impl_inSize_l1 s o h) (by first | rfl | simp [restrict, look, mulN_one, V.fz, fzL, V.up, upL, fzL_map, fz_slr, fz_at, slr]) (by rintro (_ | _) <;> rfl) ?_
  rintro (⟨⟩ | ⟨⟩) h
  · try dsimp only at h
    conv => whnf
    cases h; exact (by first | rfl | simp only [resV, mulN_one, V.fz, fzL, V.up, upL, fzL_map, fz_slr, fz_at, slr] | simp [resV, mulN_one, V.fz, fzL, V.up, upL, fzL_map, fz_slr, fz_at, slr])
  · try dsimp only at h
    conv => whnf
    cases h; exact (by first | rfl | simp only [resV, mulN_one, V.fz, fzL, V.up, upL, fzL_map, fz_slr, fz_at, slr] | simp [resV, mulN_one, V.fz, fzL, V.up, upL, fzL_map, fz_slr, fz_at, slr])

noncomputable def F_spec_l1In (x0 : Int) (a0 : Int) (b0 : Int) : Option Bool :=
  if x0 ≥ a0 then
   some (decide (x0 ≤ b0))
  else
   some false
theorem t_spec_l1In {x0 : Int} {a0 : Int} {b0 : Int} {v : Bool} (h : F_spec_l1In x0 a0 b0 = some v) : Ret Try.prog f_spec_l1In [vint x0, vint a0, vint b0] (V.bool v) := by
  refine ret_vc k_spec_l1In (Nat.le_of_ble_eq_true rfl) ?_
  unfold F_spec_l1In at h
  conv => whnf
  refine Br.od h (fun p1 h => ?_) (fun p1 h => ?_)
  · conv => whnf
    refine Br.yes ?_
    conv => whnf
    refine Br.yes ?_
    conv => whnf
    refine Br.yes ?_
    conv => whnf
    cases h; exact (by first | rfl | simp only [resV, mulN_one, V.fz, fzL, V.up, upL, fzL_map, fz_slr, fz_at, slr] | simp [resV, mulN_one, V.fz, fzL, V.up, upL, fzL_map, fz_slr, fz_at, slr])
  · conv => whnf
    refine Br.no ?_
    conv => whnf
    refine Br.no ?_
    conv => whnf
    refine Br.no ?_
    conv => whnf
    cases h; exact (by first | rfl | simp only [resV, mulN_one, V.fz, fzL, V.up, upL, fzL_map, fz_slr, fz_at, slr] | simp [resV, mulN_one, V.fz, fzL, V.up, upL, fzL_map, fz_slr, fz_at, slr])

noncomputable def F_impl_compareLists_l1 (s0 : List Int) (t0 : List Int) : Int → Option (Int ⊕ (Int ⊕ Unit)) := fun x5 =>
   ((if x5 < (↑s0.length : Int) then
      if x5 < (↑t0.length : Int) then
       some (.inl ())
      else
       some (.inr ())
     else
      some (.inr ()) : Option (Unit ⊕ Unit))).bind fun t => match t with
   | (.inl _) => (ask ((0 : Int) ≤ x5 ∧ x5 < (↑s0.length : Int)) <|
     ask ((0 : Int) ≤ x5 ∧ x5 < (↑t0.length : Int)) <|
     if nth s0 x5.toNat ≠ nth t0 x5.toNat then
      ask ((0 : Int) ≤ x5 ∧ x5 < (↑s0.length : Int)) <|
      ask ((0 : Int) ≤ x5 ∧ x5 < (↑t0.length : Int)) <|
      if nth s0 x5.toNat < nth t0 x5.toNat then
       some (.inr (.inl (-1 : Int)))
      else
       some (.inr (.inl (1 : Int)))
     else
      ask (InI (x5 + (1 : Int))) <|
      some (.inl (x5 + (1 : Int))))
   | (.inr _) => (some (.inr (.inr ())))
def S_impl_compareLists_l1 (s0 : List Int) (t0 : List Int) : Int → St := fun s => [(5, A.val (vint s)), (0, A.val ((slr false 1 vint) (s0))), (1, A.val ((slr false 1 vint) (t0)))]
def T_impl_compareLists_l1 (s0 : List Int) (t0 : List Int) : (Int ⊕ Unit) → Tgt
  | (.inl s) => (Ex.ret, [4], [(4, A.val (vint s))])
  | (.inr _s) => ((Ex.exit 0), [0, 1], [(0, A.val ((slr false 1 vint) (s0))), (1, A.val ((slr false 1 vint) (t0)))])
theorem b_impl_compareLists_l1 {s0 : List Int} {t0 : List Int} (x5 : Int) (o : Int ⊕ (Int ⊕ Unit)) (h : F_impl_compareLists_l1 s0 t0 x5 = some o) : vc Try.prog c_impl_compareLists_l1 (outQ [5, 0, 1] (S_impl_compareLists_l1 s0 t0) (T_impl_compareLists_l1 s0 t0) o) (S_impl_compareLists_l1 s0 t0 x5) := by
  unfold F_impl_compareLists_l1 at h
  try dsimp only at h
  conv => whnf
  refine CutQ.o (fun t : (Unit ⊕ Unit) => match t with | (.inl s) => (Ex.normal, [5, 0, 1], [(5, A.val (vint (x5))), (0, A.val ((slr false 1 vint) (s0))), (1, A.val ((slr false 1 vint) (t0)))]) | (.inr s) => ((Ex.exit 0), [0, 1], [(0, A.val ((slr false 1 vint) (s0))), (1, A.val ((slr false 1 vint) (t0)))])) h ?_ ?_
  · intro t h
    conv => whnf
    refine Len.map ?_
    conv => whnf
    refine Br.od h (fun p1 h => ?_) (fun p1 h => ?_)
    · conv => whnf
      refine Br.yes ?_
      conv => whnf
      refine Br.yes ?_
      conv => whnf
      refine Len.map ?_
      conv => whnf
      refine Br.yes ?_
      conv => whnf
      refine Br.yes ?_
      conv => whnf
      refine Br.od h (fun p2 h => ?_) (fun p2 h => ?_)
      · conv => whnf
        cases h; exact ⟨rfl, rfl⟩
      · conv => whnf
        cases h; exact ⟨rfl, rfl⟩
    · conv => whnf
      refine Br.no ?_
      conv => whnf
      refine Br.no ?_
      conv => whnf
      refine Br.no ?_
      conv => whnf
      refine Br.no ?_
      conv => whnf
      refine Br.no ?_
      conv => whnf
      cases h; exact ⟨rfl, rfl⟩
  · rintro (⟨⟩ | ⟨⟩) h
    · try dsimp only at h
      conv => whnf
      refine Len.map ?_
      conv => whnf
      refine Ask.o h fun p4 h => ?_
      conv => whnf
      refine Elem.o (by first | omega | (simp only [mulN] at *; omega) | (simp [mulN] at *; omega)) ?_
      conv => whnf
      refine Len.map ?_
      conv => whnf
      refine Ask.o h fun p5 h => ?_
      conv => whnf
      refine Elem.o (by first | omega | (simp only [mulN] at *; omega) | (simp [mulN] at *; omega)) ?_
      conv => whnf
      refine Br.on h (fun p6 h => ?_) (fun p6 h => ?_)
      · conv => whnf
        refine Len.map ?_
        conv => whnf
        refine Ask.o h fun p7 h => ?_
        conv => whnf
        refine Elem.o (by first | omega | (simp only [mulN] at *; omega) | (simp [mulN] at *; omega)) ?_
        conv => whnf
        refine Len.map ?_
        conv => whnf
        refine Ask.o h fun p8 h => ?_
        conv => whnf
        refine Elem.o (by first | omega | (simp only [mulN] at *; omega) | (simp [mulN] at *; omega)) ?_
        conv => whnf
        refine Br.od h (fun p9 h => ?_) (fun p9 h => ?_)
        · conv => whnf
          cases h; exact ⟨rfl, rfl⟩
        · conv => whnf
          cases h; exact ⟨rfl, rfl⟩
      · conv => whnf
        refine Ask.o h fun p10 h => ?_
        conv => whnf
        cases h; exact ⟨rfl, rfl⟩
    · try dsimp only at h
      conv => whnf
      cases h; exact ⟨rfl, rfl⟩

noncomputable def F_impl_compareLists (s0 : (List Int)) (t0 : (List Int)) : Option Int :=
  (loopO (F_impl_compareLists_l1 s0 t0) (0 : Int)).bind fun t => match t with
  | (.inl q11_4) => (some q11_4)
  | (.inr _) => (if (↑s0.length : Int) < (↑t0.length : Int) then
     some (-1 : Int)
    else
     if (↑s0.length : Int) > (↑t0.length : Int) then
      some (1 : Int)
     else
      some (0 : Int))
theorem t_impl_compareLists {s0 : (List Int)} {t0 : (List Int)} {v : Int} (h : F_impl_compareLists s0 t0 = some v) : Ret Try.prog f_impl_compareLists [(slr false 1 vint) s0, (slr false 1 vint) t0] (vint v) := by
  refine ret_vc k_impl_compareLists (Nat.le_of_ble_eq_true rfl) ?_
  unfold F_impl_compareLists at h
  conv => whnf
  refine LoopQ.o [5, 0, 1] (S_impl_compareLists_l1 s0 t0) (T_impl_compareLists_l1 s0 t0) h (fun s o h => b_impl_compareLists_l1 s o h) (by first | rfl | simp [restrict, look, mulN_one, V.fz, fzL, V.up, upL, fzL_map, fz_slr, fz_at, slr]) (by rintro (_ | _) <;> rfl) ?_
  rintro (q11_4 | ⟨⟩) h
  · try dsimp only at h
    conv => whnf
    cases h; exact (by first | rfl | simp only [resV, mulN_one, V.fz, fzL, V.up, upL, fzL_map, fz_slr, fz_at, slr] | simp [resV, mulN_one, V.fz, fzL, V.up, upL, fzL_map, fz_slr, fz_at, slr])
  · try dsimp only at h
    conv => whnf
    refine Len.map ?_
    conv => whnf
    refine Len.map ?_
    conv => whnf
    refine Br.od h (fun p12 h => ?_) (fun p12 h => ?_)
    · conv => whnf
      cases h; exact (by first | rfl | simp only [resV, mulN_one, V.fz, fzL, V.up, upL, fzL_map, fz_slr, fz_at, slr] | simp [resV, mulN_one, V.fz, fzL, V.up, upL, fzL_map, fz_slr, fz_at, slr])
    · conv => whnf
      refine Len.map ?_
      conv => whnf
      refine Len.map ?_
      conv => whnf
      refine Br.od h (fun p13 h => ?_) (fun p13 h => ?_)
      · conv => whnf
        cases h; exact (by first | rfl | simp only [resV, mulN_one, V.fz, fzL, V.up, upL, fzL_map, fz_slr, fz_at, slr] | simp [resV, mulN_one, V.fz, fzL, V.up, upL, fzL_map, fz_slr, fz_at, slr])
      · conv => whnf
        cases h; exact (by first | rfl | simp only [resV, mulN_one, V.fz, fzL, V.up, upL, fzL_map, fz_slr, fz_at, slr] | simp [resV, mulN_one, V.fz, fzL, V.up, upL, fzL_map, fz_slr, fz_at, slr])

noncomputable def F_impl_newOrder_l1 (n0 : Int) : (Int × (List (List Bool))) → Option ((Int × (List (List Bool))) ⊕ (List (List Bool))) := fun (x9, x3) =>
   if x9 < (↑n0.toNat : Int) then
    ask ((0 : Int) ≤ n0 ∧ n0 ≤ (↑LIM : Int)) <|
    ask ((0 : Int) ≤ x9 ∧ x9 < (↑x3.length : Int)) <|
    ask (InI (x9 + (1 : Int))) <|
    some (.inl (x9 + (1 : Int), x3.set x9.toNat (List.replicate n0.toNat false)))
   else
    some (.inr x3)
def S_impl_newOrder_l1 (n0 : Int) : (Int × (List (List Bool))) → St := fun s => [(9, A.val (vint s.1)), (8, A.val (vint ((↑n0.toNat : Int)))), (3, A.val ((slr true 1 (slr true 1 V.bool)) s.2)), (0, A.val (vint (n0)))]
def T_impl_newOrder_l1 (_n0 : Int) : (List (List Bool)) → Tgt
  | s => ((Ex.exit 0), [3], [(3, A.val ((slr true 1 (slr true 1 V.bool)) s))])
theorem b_impl_newOrder_l1 {n0 : Int} (s : (Int × (List (List Bool)))) (o : (Int × (List (List Bool))) ⊕ (List (List Bool))) (h : F_impl_newOrder_l1 n0 s = some o) : vc Try.prog c_impl_newOrder_l1 (outQ [9, 8, 3, 0] (S_impl_newOrder_l1 n0) (T_impl_newOrder_l1 n0) o) (S_impl_newOrder_l1 n0 s) := by
  obtain ⟨x9, x3⟩ := s
  unfold F_impl_newOrder_l1 at h
  try dsimp only at h
  conv => whnf
  refine Br.od h (fun p2 h => ?_) (fun p2 h => ?_)
  · conv => whnf
    refine Ask.o h fun p3 h => ?_
    conv => whnf
    refine MkQ.o V.bool (false) rfl ?_
    conv => whnf
    refine Len.map ?_
    conv => whnf
    refine Ask.o h fun p4 h => ?_
    conv => whnf
    refine SetKids.one (fun _ => ⟨rfl, rfl⟩) (List.replicate n0.toNat false) (by first | rfl | simp only [mulN_one, V.fz, fzL, V.up, upL, fzL_map, fz_slr, fz_at, slr, List.cons_append, List.nil_append] | simp [mulN_one, V.fz, fzL, V.up, upL, fzL_map, fz_slr, fz_at, slr]) (by first | omega | (simp only [mulN] at *; omega) | (simp [mulN] at *; omega)) ?_
    conv => whnf
    refine Ask.o h fun p5 h => ?_
    conv => whnf
    cases h; exact ⟨rfl, rfl⟩
  · conv => whnf
    cases h; exact ⟨rfl, rfl⟩

noncomputable def F_impl_newOrder (n0 : Int) : Option (List (List Bool)) :=
  ask ((0 : Int) ≤ n0 ∧ n0 ≤ (↑LIM : Int)) <|
  (loopO (F_impl_newOrder_l1 n0) ((0 : Int), List.replicate n0.toNat (nilL Bool))).bind fun q6_3 =>
  some q6_3
theorem t_impl_newOrder {n0 : Int} {v : (List (List Bool))} (h : F_impl_newOrder n0 = some v) : Ret Try.prog f_impl_newOrder [vint n0] ((slr true 1 (slr true 1 V.bool)) v) := by
  refine ret_vc k_impl_newOrder (Nat.le_of_ble_eq_true rfl) ?_
  unfold F_impl_newOrder at h
  conv => whnf
  refine Ask.o h fun p1 h => ?_
  conv => whnf
  refine MkQ.o (slr true 1 V.bool) (nilL Bool) rfl ?_
  conv => whnf
  refine Len.mrep ?_
  conv => whnf
  refine LoopQ.o [9, 8, 3, 0] (S_impl_newOrder_l1 n0) (T_impl_newOrder_l1 n0) h (fun s o h => b_impl_newOrder_l1 s o h) (by first | rfl | simp [restrict, look, mulN_one, V.fz, fzL, V.up, upL, fzL_map, fz_slr, fz_at, slr]) (fun _ => rfl) ?_
  rintro q6_3 h
  try dsimp only at h
  conv => whnf
  cases h; exact (by first | rfl | simp only [resV, mulN_one, V.fz, fzL, V.up, upL, fzL_map, fz_slr, fz_at, slr] | simp [resV, mulN_one, V.fz, fzL, V.up, upL, fzL_map, fz_slr, fz_at, slr])

end Go.Proofs.Ytgjmaofgokgdiaa.Ax
