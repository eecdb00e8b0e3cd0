/-
  What the functions compute, as functions on plain data, and that the program does compute it; written by program.
-/
import Derived.Test.YtdodfnbbfkcgnaaCode
import Derived.Test.YtdodfnbbfkcgnaaG1
import Derived.Test.YtdodfnbbfkcgnaaG2
namespace Go.Proofs.Ytdodfnbbfkcgnaa.Ax
open Go
set_option maxRecDepth 100000
set_option maxHeartbeats 4000000

noncomputable def F_laws_markOpS_l1 : (Int × (List SOp) × Int) → Option ((Int × (List SOp) × Int) ⊕ ((List SOp) × Int)) := fun (x5, x27, x1) =>
   if x5 < (↑x27.length : Int) then
    ask ((0 : Int) ≤ x5 ∧ x5 < (↑x27.length : Int)) <|
    ask (InI (x1 + (1 : Int))) <|
    ask ((0 : Int) ≤ x5 ∧ x5 < (↑(x27.set x5.toNat { Arity := x1, Table := (nth x27 x5.toNat).Table }).length : Int)) <|
    (F_laws_markIntS ((nth (x27.set x5.toNat { Arity := x1, Table := (nth x27 x5.toNat).Table }) x5.toNat).Table) (x1 + (1 : Int))).bind fun (r5, u6) =>
    ask (InI (x5 + (1 : Int))) <|
    some (.inl (x5 + (1 : Int), (x27.set x5.toNat { Arity := x1, Table := (nth x27 x5.toNat).Table }).set x5.toNat { Arity := (nth (x27.set x5.toNat { Arity := x1, Table := (nth x27 x5.toNat).Table }) x5.toNat).Arity, Table := u6 }, r5))
   else
    some (.inr (x27, x1))
def S_laws_markOpS_l1 : (Int × (List SOp) × Int) → St := fun s => [(5, A.val (vint s.1)), (0, A.ref ((27 : Nat) + (0 : Nat)) []), (27, A.val ((slr true 2 (rS_Op true)) s.2.1)), (1, A.val (vint s.2.2))]
def T_laws_markOpS_l1 : ((List SOp) × Int) → Tgt
  | s => ((Ex.exit 0), [27, 1], [(27, A.val ((slr true 2 (rS_Op true)) s.1)), (1, A.val (vint s.2))])
theorem b_laws_markOpS_l1 (s : (Int × (List SOp) × Int)) (o : (Int × (List SOp) × Int) ⊕ ((List SOp) × Int)) (h : F_laws_markOpS_l1 s = some o) : vc Try.prog c_laws_markOpS_l1 (outQ [5, 0, 27, 1] (S_laws_markOpS_l1) (T_laws_markOpS_l1) o) (S_laws_markOpS_l1 s) := by
  obtain ⟨x5, x27, x1⟩ := s
  unfold F_laws_markOpS_l1 at h
  try dsimp only at h
  conv => whnf
  refine Len.map ?_
  conv => whnf
  refine Br.od h (fun p1 h => ?_) (fun p1 h => ?_)
  · conv => whnf
    refine Len.map ?_
    conv => whnf
    refine Ask.o h fun p2 h => ?_
    conv => whnf
    refine SetKids.wide (by exact fun _ => ⟨rfl, rfl⟩) ({ Arity := x1, Table := (nth x27 x5.toNat).Table }) (by first | omega | (simp only [mulN] at *; omega) | (simp [mulN] at *; omega)) (by rfl) (by decide) ?_
    conv => whnf
    refine Ask.o h fun p3 h => ?_
    conv => whnf
    refine Len.map ?_
    conv => whnf
    refine Ask.o h fun p4 h => ?_
    conv => whnf
    refine Cells.wide (by exact fun _ => ⟨rfl, rfl⟩) (by first | omega | (simp only [mulN] at *; omega) | (simp [mulN] at *; omega)) (by decide) ?_
    conv => whnf
    refine Kid.wide (by exact fun _ => ⟨rfl, rfl⟩) (by first | omega | (simp only [mulN] at *; omega) | (simp [mulN] at *; omega)) (by rfl) ?_
    conv => whnf
    refine CallQ.io vint (slr true 1 vint) (by first | rfl | simp only [mulN_one, V.fz, fzL, V.up, upL, fzL_map, fz_slr, fz_at, slr, List.cons_append, List.nil_append] | simp [mulN_one, V.fz, fzL, V.up, upL, fzL_map, fz_slr, fz_at, slr]) rfl (fun _ => rfl) (fun _ => ⟨rfl, rfl⟩) rfl h (fun r h => t_laws_markIntS h) (fun r5 u6 h => ?_)
    conv => whnf
    refine Kid.wide (by exact fun _ => ⟨rfl, rfl⟩) (by first | omega | (simp only [mulN] at *; omega) | (simp [mulN] at *; omega)) (by rfl) ?_
    conv => whnf
    refine SetKids.wide (by exact fun _ => ⟨rfl, rfl⟩) ({ Arity := (nth (x27.set x5.toNat { Arity := x1, Table := (nth x27 x5.toNat).Table }) x5.toNat).Arity, Table := u6 }) (by first | omega | (simp only [mulN] at *; omega) | (simp [mulN] at *; omega)) (by rfl) (by decide) ?_
    conv => whnf
    refine Ask.o h fun p7 h => ?_
    conv => whnf
    cases h; exact ⟨rfl, rfl⟩
  · conv => whnf
    cases h; exact ⟨rfl, rfl⟩

noncomputable def F_laws_markOpS (a0 : (List SOp)) (k0 : Int) : Option (Int × (List SOp)) :=
  (loopO (F_laws_markOpS_l1) ((0 : Int), a0, k0)).bind fun (q8_27, q8_1) =>
  some (q8_1, q8_27)
theorem t_laws_markOpS {a0 : (List SOp)} {k0 : Int} {v : (Int × (List SOp))} (h : F_laws_markOpS a0 k0 = some v) : RetO Try.prog f_laws_markOpS [(slr true 2 (rS_Op true)) a0, vint k0] (vint v.1) 0 ((slr true 2 (rS_Op true)) v.2) := by
  refine reto_vc k_laws_markOpS (Nat.le_of_ble_eq_true rfl) ?_
  unfold F_laws_markOpS at h
  conv => whnf
  refine LoopQ.o [5, 0, 27, 1] (S_laws_markOpS_l1) (T_laws_markOpS_l1) h (fun s o h => b_laws_markOpS_l1 s o h) (by first | rfl | simp [restrict, look, mulN_one, V.fz, fzL, V.up, upL, fzL_map, fz_slr, fz_at, slr]) (fun _ => rfl) ?_
  rintro ⟨q8_27, q8_1⟩ h
  try dsimp only at h
  conv => whnf
  cases h; exact ⟨(by first | rfl | simp only [resV, mulN_one, V.fz, fzL, V.up, upL, fzL_map, fz_slr, fz_at, slr] | simp [resV, mulN_one, V.fz, fzL, V.up, upL, fzL_map, fz_slr, fz_at, slr]), (by first | rfl | simp only [resV, mulN_one, V.fz, fzL, V.up, upL, fzL_map, fz_slr, fz_at, slr] | simp [resV, mulN_one, V.fz, fzL, V.up, upL, fzL_map, fz_slr, fz_at, slr])⟩

noncomputable def F_laws_heldOpS_l1 (a0 : List SOp) : (Int × Int) → Option ((Int × Int) ⊕ (Unit ⊕ Int)) := fun (x5, x1) =>
   if x5 < (↑a0.length : Int) then
    ask ((0 : Int) ≤ x5 ∧ x5 < (↑a0.length : Int)) <|
    if (nth a0 x5.toNat).Arity ≠ x1 then
     some (.inr (.inl ()))
    else
     ask (InI (x1 + (1 : Int))) <|
     ask ((0 : Int) ≤ x5 ∧ x5 < (↑a0.length : Int)) <|
     (F_laws_heldIntS ((nth a0 x5.toNat).Table) (x1 + (1 : Int))).bind fun r6 =>
     if r6 < (0 : Int) then
      some (.inr (.inl ()))
     else
      ask (InI (x5 + (1 : Int))) <|
      some (.inl (x5 + (1 : Int), r6))
   else
    some (.inr (.inr x1))
def S_laws_heldOpS_l1 (a0 : List SOp) : (Int × Int) → St := fun s => [(5, A.val (vint s.1)), (0, A.val ((slr false 2 (rS_Op false)) (a0))), (1, A.val (vint s.2))]
def T_laws_heldOpS_l1 (_a0 : List SOp) : (Unit ⊕ Int) → Tgt
  | (.inl _s) => (Ex.ret, [4], [(4, A.val (vint ((-1 : Int))))])
  | (.inr s) => ((Ex.exit 0), [1], [(1, A.val (vint s))])
theorem b_laws_heldOpS_l1 {a0 : List SOp} (s : (Int × Int)) (o : (Int × Int) ⊕ (Unit ⊕ Int)) (h : F_laws_heldOpS_l1 a0 s = some o) : vc Try.prog c_laws_heldOpS_l1 (outQ [5, 0, 1] (S_laws_heldOpS_l1 a0) (T_laws_heldOpS_l1 a0) o) (S_laws_heldOpS_l1 a0 s) := by
  obtain ⟨x5, x1⟩ := s
  unfold F_laws_heldOpS_l1 at h
  try dsimp only at h
  conv => whnf
  refine Len.map ?_
  conv => whnf
  refine Br.od h (fun p1 h => ?_) (fun p1 h => ?_)
  · conv => whnf
    refine Len.map ?_
    conv => whnf
    refine Ask.o h fun p2 h => ?_
    conv => whnf
    refine Elem.o (by first | omega | (simp only [mulN] at *; omega) | (simp [mulN] at *; omega)) ?_
    conv => whnf
    refine Br.on h (fun p3 h => ?_) (fun p3 h => ?_)
    · conv => whnf
      cases h; exact ⟨rfl, rfl⟩
    · conv => whnf
      refine Ask.o h fun p4 h => ?_
      conv => whnf
      refine Len.map ?_
      conv => whnf
      refine Ask.o h fun p5 h => ?_
      conv => whnf
      refine Elem.o (by first | omega | (simp only [mulN] at *; omega) | (simp [mulN] at *; omega)) ?_
      conv => whnf
      refine CallQ.o vint (by first | rfl | simp only [mulN_one, V.fz, fzL, V.up, upL, fzL_map, fz_slr, fz_at, slr, List.cons_append, List.nil_append] | simp [mulN_one, V.fz, fzL, V.up, upL, fzL_map, fz_slr, fz_at, slr]) h (fun r h => t_laws_heldIntS h) (fun r6 h => ?_)
      conv => whnf
      refine Br.od h (fun p7 h => ?_) (fun p7 h => ?_)
      · conv => whnf
        cases h; exact ⟨rfl, rfl⟩
      · conv => whnf
        refine Ask.o h fun p8 h => ?_
        conv => whnf
        cases h; exact ⟨rfl, rfl⟩
  · conv => whnf
    cases h; exact ⟨rfl, rfl⟩

noncomputable def F_laws_heldOpS (a0 : (List SOp)) (k0 : Int) : Option Int :=
  (loopO (F_laws_heldOpS_l1 a0) ((0 : Int), k0)).bind fun t => match t with
  | (.inl _) => (some (-1 : Int))
  | (.inr q9_1) => (some q9_1)
theorem t_laws_heldOpS {a0 : (List SOp)} {k0 : Int} {v : Int} (h : F_laws_heldOpS a0 k0 = some v) : Ret Try.prog f_laws_heldOpS [(slr false 2 (rS_Op false)) a0, vint k0] (vint v) := by
  refine ret_vc k_laws_heldOpS (Nat.le_of_ble_eq_true rfl) ?_
  unfold F_laws_heldOpS at h
  conv => whnf
  refine LoopQ.o [5, 0, 1] (S_laws_heldOpS_l1 a0) (T_laws_heldOpS_l1 a0) h (fun s o h => b_laws_heldOpS_l1 s o h) (by first | rfl | simp [restrict, look, mulN_one, V.fz, fzL, V.up, upL, fzL_map, fz_slr, fz_at, slr]) (by rintro (_ | _) <;> rfl) ?_
  rintro (⟨⟩ | q9_1) h
  · try dsimp only at h
    conv => whnf
    cases h; exact (by first | rfl | simp only [resV, mulN_one, V.fz, fzL, V.up, upL, fzL_map, fz_slr, fz_at, slr] | simp [resV, mulN_one, V.fz, fzL, V.up, upL, fzL_map, fz_slr, fz_at, slr])
  · try dsimp only at h
    conv => whnf
    cases h; exact (by first | rfl | simp only [resV, mulN_one, V.fz, fzL, V.up, upL, fzL_map, fz_slr, fz_at, slr] | simp [resV, mulN_one, V.fz, fzL, V.up, upL, fzL_map, fz_slr, fz_at, slr])

noncomputable def F_spec_l7Into_l1 (f0 : List Int) : Int → Option (Int ⊕ (Unit ⊕ Unit)) := fun x3 =>
   if x3 < (↑f0.length : Int) then
    ask ((0 : Int) ≤ x3 ∧ x3 < (↑f0.length : Int)) <|
    if nth f0 x3.toNat ≥ (0 : Int) then
     ask (0 ≤ (0 : Int) ∧ (0 : Int) ≤ x3 ∧ x3 ≤ ((f0.length : Nat) : Int)) <|
     ask ((0 : Int) ≤ x3 ∧ x3 < (↑f0.length : Int)) <|
     (F_spec_l1Has (List.take (x3.toNat - Int.toNat (0 : Int)) (List.drop (Int.toNat (0 : Int)) f0)) (nth f0 x3.toNat)).bind fun r5 =>
     if (r5) = true then
      some (.inr (.inl ()))
     else
      ask (InI (x3 + (1 : Int))) <|
      some (.inl (x3 + (1 : Int)))
    else
     ask (InI (x3 + (1 : Int))) <|
     some (.inl (x3 + (1 : Int)))
   else
    some (.inr (.inr ()))
def S_spec_l7Into_l1 (f0 : List Int) : Int → St := fun s => [(3, A.val (vint s)), (0, A.val ((slr false 1 vint) (f0)))]
def T_spec_l7Into_l1 (_f0 : List Int) : (Unit ⊕ Unit) → Tgt
  | (.inl _s) => (Ex.ret, [2], [(2, A.val (V.bool (false)))])
  | (.inr _s) => ((Ex.exit 0), [], [])
theorem b_spec_l7Into_l1 {f0 : List Int} (x3 : Int) (o : Int ⊕ (Unit ⊕ Unit)) (h : F_spec_l7Into_l1 f0 x3 = some o) : vc Try.prog c_spec_l7Into_l1 (outQ [3, 0] (S_spec_l7Into_l1 f0) (T_spec_l7Into_l1 f0) o) (S_spec_l7Into_l1 f0 x3) := by
  unfold F_spec_l7Into_l1 at h
  try dsimp only at h
  conv => whnf
  refine Len.map ?_
  conv => whnf
  refine Br.od h (fun p1 h => ?_) (fun p1 h => ?_)
  · conv => whnf
    refine Len.map ?_
    conv => whnf
    refine Ask.o h fun p2 h => ?_
    conv => whnf
    refine Elem.o (by first | omega | (simp only [mulN] at *; omega) | (simp [mulN] at *; omega)) ?_
    conv => whnf
    refine Br.od h (fun p3 h => ?_) (fun p3 h => ?_)
    · conv => whnf
      refine Br.yes ?_
      conv => whnf
      refine Br.yes ?_
      conv => whnf
      refine SlcQ.o vint h fun h => ?_
      conv => whnf
      refine Br.yes ?_
      conv => whnf
      refine Br.yes ?_
      conv => whnf
      refine Br.yes ?_
      conv => whnf
      refine Len.map ?_
      conv => whnf
      refine Ask.o h fun p4 h => ?_
      conv => whnf
      refine Elem.o (by first | omega | (simp only [mulN] at *; omega) | (simp [mulN] at *; omega)) ?_
      conv => whnf
      refine Br.yes ?_
      conv => whnf
      refine Br.yes ?_
      conv => whnf
      refine CallQ.o V.bool (by first | rfl | simp only [mulN_one, V.fz, fzL, V.up, upL, fzL_map, fz_slr, fz_at, slr, List.cons_append, List.nil_append] | simp [mulN_one, V.fz, fzL, V.up, upL, fzL_map, fz_slr, fz_at, slr]) h (fun r h => t_spec_l1Has h) (fun r5 h => ?_)
      conv => whnf
      refine Br.yes ?_
      conv => whnf
      refine Br.ob h (fun p6 h => ?_) (fun p6 h => ?_)
      · conv => whnf
        cases h; exact ⟨rfl, rfl⟩
      · conv => whnf
        refine Ask.o h fun p7 h => ?_
        conv => whnf
        cases h; exact ⟨rfl, rfl⟩
    · conv => whnf
      refine Br.no ?_
      conv => whnf
      refine Br.no ?_
      conv => whnf
      refine Br.no ?_
      conv => whnf
      refine Br.no ?_
      conv => whnf
      refine Br.no ?_
      conv => whnf
      refine Br.no ?_
      conv => whnf
      refine Br.no ?_
      conv => whnf
      refine Br.no ?_
      conv => whnf
      refine Br.no ?_
      conv => whnf
      refine Ask.o h fun p8 h => ?_
      conv => whnf
      cases h; exact ⟨rfl, rfl⟩
  · conv => whnf
    cases h; exact ⟨rfl, rfl⟩

noncomputable def F_spec_l7Into (f0 : (List Int)) : Option Bool :=
  (loopO (F_spec_l7Into_l1 f0) (0 : Int)).bind fun t => match t with
  | (.inl _) => (some false)
  | (.inr _) => (some true)
theorem t_spec_l7Into {f0 : (List Int)} {v : Bool} (h : F_spec_l7Into f0 = some v) : Ret Try.prog f_spec_l7Into [(slr false 1 vint) f0] (V.bool v) := by
  refine ret_vc k_spec_l7Into (Nat.le_of_ble_eq_true rfl) ?_
  unfold F_spec_l7Into at h
  conv => whnf
  refine LoopQ.o [3, 0] (S_spec_l7Into_l1 f0) (T_spec_l7Into_l1 f0) h (fun s o h => b_spec_l7Into_l1 s o h) (by first | rfl | simp [restrict, look, mulN_one, V.fz, fzL, V.up, upL, fzL_map, fz_slr, fz_at, slr]) (by rintro (_ | _) <;> rfl) ?_
  rintro (⟨⟩ | ⟨⟩) h
  · try dsimp only at h
    conv => whnf
    cases h; exact (by first | rfl | simp only [resV, mulN_one, V.fz, fzL, V.up, upL, fzL_map, fz_slr, fz_at, slr] | simp [resV, mulN_one, V.fz, fzL, V.up, upL, fzL_map, fz_slr, fz_at, slr])
  · try dsimp only at h
    conv => whnf
    cases h; exact (by first | rfl | simp only [resV, mulN_one, V.fz, fzL, V.up, upL, fzL_map, fz_slr, fz_at, slr] | simp [resV, mulN_one, V.fz, fzL, V.up, upL, fzL_map, fz_slr, fz_at, slr])

noncomputable def F_laws_szOp (a0 : SOp) (left0 : Int) : Option Int :=
  (F_laws_szIntS (a0.Table) (left0)).bind fun r1 =>
  if r1 < (0 : Int) then
   some (-1 : Int)
  else
   some r1
theorem t_laws_szOp {a0 : SOp} {left0 : Int} {v : Int} (h : F_laws_szOp a0 left0 = some v) : Ret Try.prog f_laws_szOp [(rS_Op false) a0, vint left0] (vint v) := by
  refine ret_vc k_laws_szOp (Nat.le_of_ble_eq_true rfl) ?_
  unfold F_laws_szOp at h
  conv => whnf
  refine Cells.lit rfl rfl ?_
  conv => whnf
  refine CallQ.o vint (by first | rfl | simp only [mulN_one, V.fz, fzL, V.up, upL, fzL_map, fz_slr, fz_at, slr, List.cons_append, List.nil_append] | simp [mulN_one, V.fz, fzL, V.up, upL, fzL_map, fz_slr, fz_at, slr]) h (fun r h => t_laws_szIntS h) (fun r1 h => ?_)
  conv => whnf
  refine Br.od h (fun p2 h => ?_) (fun p2 h => ?_)
  · conv => whnf
    cases h; exact (by first | rfl | simp only [resV, mulN_one, V.fz, fzL, V.up, upL, fzL_map, fz_slr, fz_at, slr] | simp [resV, mulN_one, V.fz, fzL, V.up, upL, fzL_map, fz_slr, fz_at, slr])
  · conv => whnf
    cases h; exact (by first | rfl | simp only [resV, mulN_one, V.fz, fzL, V.up, upL, fzL_map, fz_slr, fz_at, slr] | simp [resV, mulN_one, V.fz, fzL, V.up, upL, fzL_map, fz_slr, fz_at, slr])

noncomputable def F_spec_l2Op_l1 (n0 : Int) (op0 : SOp) : Int → Option (Int ⊕ (Unit ⊕ Unit)) := fun x5 =>
   if x5 < (↑op0.Table.length : Int) then
    ask ((0 : Int) ≤ x5 ∧ x5 < (↑op0.Table.length : Int)) <|
    ask (InI (n0 - (1 : Int))) <|
    (F_spec_l1In (nth op0.Table x5.toNat) ((0 : Int)) (n0 - (1 : Int))).bind fun r9 =>
    if (r9) = true then
     ask (InI (x5 + (1 : Int))) <|
     some (.inl (x5 + (1 : Int)))
    else
     some (.inr (.inl ()))
   else
    some (.inr (.inr ()))
def S_spec_l2Op_l1 (n0 : Int) (op0 : SOp) : Int → St := fun s => [(5, A.val (vint s)), (3, A.val ((rP true (rS_Op false)) (op0))), (0, A.val (vint (n0)))]
def T_spec_l2Op_l1 (_n0 : Int) (_op0 : SOp) : (Unit ⊕ Unit) → Tgt
  | (.inl _s) => (Ex.ret, [4], [(4, A.val (V.bool (false)))])
  | (.inr _s) => ((Ex.exit 0), [], [])
theorem b_spec_l2Op_l1 {n0 : Int} {op0 : SOp} (x5 : Int) (o : Int ⊕ (Unit ⊕ Unit)) (h : F_spec_l2Op_l1 n0 op0 x5 = some o) : vc Try.prog c_spec_l2Op_l1 (outQ [5, 3, 0] (S_spec_l2Op_l1 n0 op0) (T_spec_l2Op_l1 n0 op0) o) (S_spec_l2Op_l1 n0 op0 x5) := by
  unfold F_spec_l2Op_l1 at h
  try dsimp only at h
  conv => whnf
  refine Cells.lit rfl rfl ?_
  conv => whnf
  refine Len.map ?_
  conv => whnf
  refine Br.od h (fun p6 h => ?_) (fun p6 h => ?_)
  · conv => whnf
    refine Cells.lit rfl rfl ?_
    conv => whnf
    refine Len.map ?_
    conv => whnf
    refine Ask.o h fun p7 h => ?_
    conv => whnf
    refine Elem.o (by first | omega | (simp only [mulN] at *; omega) | (simp [mulN] at *; omega)) ?_
    conv => whnf
    refine Ask.o h fun p8 h => ?_
    conv => whnf
    refine CallQ.o V.bool (by first | rfl | simp only [mulN_one, V.fz, fzL, V.up, upL, fzL_map, fz_slr, fz_at, slr, List.cons_append, List.nil_append] | simp [mulN_one, V.fz, fzL, V.up, upL, fzL_map, fz_slr, fz_at, slr]) h (fun r h => t_spec_l1In h) (fun r9 h => ?_)
    conv => whnf
    refine Br.flip ?_
    conv => whnf
    refine Br.ob h (fun p10 h => ?_) (fun p10 h => ?_)
    · conv => whnf
      refine Ask.o h fun p11 h => ?_
      conv => whnf
      cases h; exact ⟨rfl, rfl⟩
    · conv => whnf
      cases h; exact ⟨rfl, rfl⟩
  · conv => whnf
    cases h; exact ⟨rfl, rfl⟩

noncomputable def F_spec_l2Op (n0 : Int) (op0 : SOp) : Option Bool :=
  (((F_spec_l1In (op0.Arity) ((0 : Int)) ((3 : Int))).bind fun r1 =>
     if (r1) = true then
      (F_spec_l2Pow (n0) (op0.Arity)).bind fun r3 =>
      if (↑op0.Table.length : Int) ≠ r3 then
       some (.inl ())
      else
       some (.inr ())
     else
      some (.inl ()) : Option (Unit ⊕ Unit))).bind fun t => match t with
  | (.inl _) => (some false)
  | (.inr _) => ((loopO (F_spec_l2Op_l1 n0 op0) (0 : Int)).bind fun t => match t with
    | (.inl _) => (some false)
    | (.inr _) => (some true))
theorem t_spec_l2Op {n0 : Int} {op0 : SOp} {v : Bool} (h : F_spec_l2Op n0 op0 = some v) : Ret Try.prog f_spec_l2Op [vint n0, (rS_Op false) op0] (V.bool v) := by
  refine ret_vc k_spec_l2Op (Nat.le_of_ble_eq_true rfl) ?_
  unfold F_spec_l2Op at h
  conv => whnf
  refine CutQ.o (fun t : (Unit ⊕ Unit) => match t with | (.inl s) => (Ex.ret, [4], [(4, A.val (V.bool (false)))]) | (.inr s) => (Ex.normal, [3, 0], [(3, A.val ((rP true (rS_Op false)) (op0))), (0, A.val (vint (n0)))])) h ?_ ?_
  · intro t h
    conv => whnf
    refine Cells.lit rfl rfl ?_
    conv => whnf
    refine CallP.o V.bool (by first | rfl | simp only [mulN_one, V.fz, fzL, V.up, upL, fzL_map, fz_slr, fz_at, slr, List.cons_append, List.nil_append] | simp [mulN_one, V.fz, fzL, V.up, upL, fzL_map, fz_slr, fz_at, slr]) h (fun r h => t_spec_l1In h) (fun r1 h => ?_)
    conv => whnf
    refine Br.flip ?_
    conv => whnf
    refine Br.ob h (fun p2 h => ?_) (fun p2 h => ?_)
    · conv => whnf
      refine Br.no ?_
      conv => whnf
      refine Cells.lit rfl rfl ?_
      conv => whnf
      refine Br.no ?_
      conv => whnf
      refine Len.map ?_
      conv => whnf
      refine Br.no ?_
      conv => whnf
      refine Br.no ?_
      conv => whnf
      refine Br.no ?_
      conv => whnf
      refine Cells.lit rfl rfl ?_
      conv => whnf
      refine Br.no ?_
      conv => whnf
      refine CallP.o vint (by first | rfl | simp only [mulN_one, V.fz, fzL, V.up, upL, fzL_map, fz_slr, fz_at, slr, List.cons_append, List.nil_append] | simp [mulN_one, V.fz, fzL, V.up, upL, fzL_map, fz_slr, fz_at, slr]) h (fun r h => t_spec_l2Pow h) (fun r3 h => ?_)
      conv => whnf
      refine Br.no ?_
      conv => whnf
      refine Br.no ?_
      conv => whnf
      refine Br.on h (fun p4 h => ?_) (fun p4 h => ?_)
      · conv => whnf
        cases h; exact ⟨rfl, rfl⟩
      · conv => whnf
        cases h; exact ⟨rfl, rfl⟩
    · conv => whnf
      refine Br.yes ?_
      conv => whnf
      refine Br.yes ?_
      conv => whnf
      refine Br.yes ?_
      conv => whnf
      refine Br.yes ?_
      conv => whnf
      refine Br.yes ?_
      conv => whnf
      refine Br.yes ?_
      conv => whnf
      refine Br.yes ?_
      conv => whnf
      refine Br.yes ?_
      conv => whnf
      refine Br.yes ?_
      conv => whnf
      cases h; exact ⟨rfl, rfl⟩
  · rintro (⟨⟩ | ⟨⟩) h
    · try dsimp only at h
      conv => whnf
      cases h; exact (by first | rfl | simp only [resV, mulN_one, V.fz, fzL, V.up, upL, fzL_map, fz_slr, fz_at, slr] | simp [resV, mulN_one, V.fz, fzL, V.up, upL, fzL_map, fz_slr, fz_at, slr])
    · try dsimp only at h
      conv => whnf
      refine LoopQ.o [5, 3, 0] (S_spec_l2Op_l1 n0 op0) (T_spec_l2Op_l1 n0 op0) h (fun s o h => b_spec_l2Op_l1 s o h) (by first | rfl | simp [restrict, look, mulN_one, V.fz, fzL, V.up, upL, fzL_map, fz_slr, fz_at, slr]) (by rintro (_ | _) <;> rfl) ?_
      rintro (⟨⟩ | ⟨⟩) h
      · try dsimp only at h
        conv => whnf
        cases h; exact (by first | rfl | simp only [resV, mulN_one, V.fz, fzL, V.up, upL, fzL_map, fz_slr, fz_at, slr] | simp [resV, mulN_one, V.fz, fzL, V.up, upL, fzL_map, fz_slr, fz_at, slr])
      · try dsimp only at h
        conv => whnf
        cases h; exact (by first | rfl | simp only [resV, mulN_one, V.fz, fzL, V.up, upL, fzL_map, fz_slr, fz_at, slr] | simp [resV, mulN_one, V.fz, fzL, V.up, upL, fzL_map, fz_slr, fz_at, slr])

noncomputable def F_spec_l2Elements_l1 (n0 : Int) (list0 : List Int) : Int → Option (Int ⊕ (Unit ⊕ Unit)) := fun x5 =>
   if x5 < (↑list0.length : Int) then
    ask ((0 : Int) ≤ x5 ∧ x5 < (↑list0.length : Int)) <|
    ask (InI (n0 - (1 : Int))) <|
    (F_spec_l1In (nth list0 x5.toNat) ((0 : Int)) (n0 - (1 : Int))).bind fun r4 =>
    if (r4) = true then
     ask (InI (x5 + (1 : Int))) <|
     some (.inl (x5 + (1 : Int)))
    else
     some (.inr (.inl ()))
   else
    some (.inr (.inr ()))
def S_spec_l2Elements_l1 (n0 : Int) (list0 : List Int) : Int → St := fun s => [(5, A.val (vint s)), (0, A.val (vint (n0))), (1, A.val ((slr false 1 vint) (list0)))]
def T_spec_l2Elements_l1 (_n0 : Int) (_list0 : List Int) : (Unit ⊕ Unit) → Tgt
  | (.inl _s) => (Ex.ret, [4], [(4, A.val (V.bool (false)))])
  | (.inr _s) => ((Ex.exit 0), [], [])
theorem b_spec_l2Elements_l1 {n0 : Int} {list0 : List Int} (x5 : Int) (o : Int ⊕ (Unit ⊕ Unit)) (h : F_spec_l2Elements_l1 n0 list0 x5 = some o) : vc Try.prog c_spec_l2Elements_l1 (outQ [5, 0, 1] (S_spec_l2Elements_l1 n0 list0) (T_spec_l2Elements_l1 n0 list0) o) (S_spec_l2Elements_l1 n0 list0 x5) := by
  unfold F_spec_l2Elements_l1 at h
  try dsimp only at h
  conv => whnf
  refine Len.map ?_
  conv => whnf
  refine Br.od h (fun p1 h => ?_) (fun p1 h => ?_)
  · conv => whnf
    refine Len.map ?_
    conv => whnf
    refine Ask.o h fun p2 h => ?_
    conv => whnf
    refine Elem.o (by first | omega | (simp only [mulN] at *; omega) | (simp [mulN] at *; omega)) ?_
    conv => whnf
    refine Ask.o h fun p3 h => ?_
    conv => whnf
    refine CallQ.o V.bool (by first | rfl | simp only [mulN_one, V.fz, fzL, V.up, upL, fzL_map, fz_slr, fz_at, slr, List.cons_append, List.nil_append] | simp [mulN_one, V.fz, fzL, V.up, upL, fzL_map, fz_slr, fz_at, slr]) h (fun r h => t_spec_l1In h) (fun r4 h => ?_)
    conv => whnf
    refine Br.flip ?_
    conv => whnf
    refine Br.ob h (fun p5 h => ?_) (fun p5 h => ?_)
    · conv => whnf
      refine Ask.o h fun p6 h => ?_
      conv => whnf
      cases h; exact ⟨rfl, rfl⟩
    · conv => whnf
      cases h; exact ⟨rfl, rfl⟩
  · conv => whnf
    cases h; exact ⟨rfl, rfl⟩

noncomputable def F_spec_l2Elements (n0 : Int) (list0 : (List Int)) : Option Bool :=
  (loopO (F_spec_l2Elements_l1 n0 list0) (0 : Int)).bind fun t => match t with
  | (.inl _) => (some false)
  | (.inr _) => (some true)
theorem t_spec_l2Elements {n0 : Int} {list0 : (List Int)} {v : Bool} (h : F_spec_l2Elements n0 list0 = some v) : Ret Try.prog f_spec_l2Elements [vint n0, (slr false 1 vint) list0] (V.bool v) := by
  refine ret_vc k_spec_l2Elements (Nat.le_of_ble_eq_true rfl) ?_
  unfold F_spec_l2Elements at h
  conv => whnf
  refine LoopQ.o [5, 0, 1] (S_spec_l2Elements_l1 n0 list0) (T_spec_l2Elements_l1 n0 list0) h (fun s o h => b_spec_l2Elements_l1 s o h) (by first | rfl | simp [restrict, look, mulN_one, V.fz, fzL, V.up, upL, fzL_map, fz_slr, fz_at, slr]) (by rintro (_ | _) <;> rfl) ?_
  rintro (⟨⟩ | ⟨⟩) h
  · try dsimp only at h
    conv => whnf
    cases h; exact (by first | rfl | simp only [resV, mulN_one, V.fz, fzL, V.up, upL, fzL_map, fz_slr, fz_at, slr] | simp [resV, mulN_one, V.fz, fzL, V.up, upL, fzL_map, fz_slr, fz_at, slr])
  · try dsimp only at h
    conv => whnf
    cases h; exact (by first | rfl | simp only [resV, mulN_one, V.fz, fzL, V.up, upL, fzL_map, fz_slr, fz_at, slr] | simp [resV, mulN_one, V.fz, fzL, V.up, upL, fzL_map, fz_slr, fz_at, slr])

noncomputable def F_laws_toOp (a0 : SOp) : Option SOp :=
  (F_laws_toIntS (a0.Table)).bind fun r1 =>
  some ({ Arity := a0.Arity, Table := r1 })
theorem t_laws_toOp {a0 : SOp} {v : SOp} (h : F_laws_toOp a0 = some v) : Ret Try.prog f_laws_toOp [(rS_Op false) a0] ((rS_Op true) v) := by
  refine ret_vc k_laws_toOp (Nat.le_of_ble_eq_true rfl) ?_
  unfold F_laws_toOp at h
  conv => whnf
  refine Cells.lit rfl rfl ?_
  conv => whnf
  refine SetKids.lit rfl ?_
  conv => whnf
  refine Cells.lit rfl rfl ?_
  conv => whnf
  refine CallQ.o (slr true 1 vint) (by first | rfl | simp only [mulN_one, V.fz, fzL, V.up, upL, fzL_map, fz_slr, fz_at, slr, List.cons_append, List.nil_append] | simp [mulN_one, V.fz, fzL, V.up, upL, fzL_map, fz_slr, fz_at, slr]) h (fun r h => t_laws_toIntS h) (fun r1 h => ?_)
  conv => whnf
  refine SetKids.lit rfl ?_
  conv => whnf
  refine Cells.lit rfl rfl ?_
  conv => whnf
  refine SetKids.lit rfl ?_
  conv => whnf
  cases h; exact (by first | rfl | simp only [resV, mulN_one, V.fz, fzL, V.up, upL, fzL_map, fz_slr, fz_at, slr] | simp [resV, mulN_one, V.fz, fzL, V.up, upL, fzL_map, fz_slr, fz_at, slr])

noncomputable def F_impl_isOp (f0 : SOp) (n0 : Int) : Option Bool :=
  if f0.Arity ≥ (0 : Int) then
   if f0.Arity ≤ (3 : Int) then
    (F_impl_power (n0) (f0.Arity)).bind fun r3 =>
    if (↑f0.Table.length : Int) = r3 then
     (F_impl_inSize (f0.Table) (n0)).bind fun r5 =>
     some r5
    else
     some false
   else
    some false
  else
   some false
theorem t_impl_isOp {f0 : SOp} {n0 : Int} {v : Bool} (h : F_impl_isOp f0 n0 = some v) : Ret Try.prog f_impl_isOp [(rS_Op false) f0, vint n0] (V.bool v) := by
  refine ret_vc k_impl_isOp (Nat.le_of_ble_eq_true rfl) ?_
  unfold F_impl_isOp at h
  conv => whnf
  refine Cells.lit rfl rfl ?_
  conv => whnf
  refine Br.od h (fun p1 h => ?_) (fun p1 h => ?_)
  · conv => whnf
    refine Br.yes ?_
    conv => whnf
    refine Cells.lit rfl rfl ?_
    conv => whnf
    refine Br.yes ?_
    conv => whnf
    refine Br.yes ?_
    conv => whnf
    refine Br.od h (fun p2 h => ?_) (fun p2 h => ?_)
    · conv => whnf
      refine Br.yes ?_
      conv => whnf
      refine Cells.lit rfl rfl ?_
      conv => whnf
      refine Br.yes ?_
      conv => whnf
      refine Len.map ?_
      conv => whnf
      refine Br.yes ?_
      conv => whnf
      refine Br.yes ?_
      conv => whnf
      refine Br.yes ?_
      conv => whnf
      refine Cells.lit rfl rfl ?_
      conv => whnf
      refine Br.yes ?_
      conv => whnf
      refine CallP.o vint (by first | rfl | simp only [mulN_one, V.fz, fzL, V.up, upL, fzL_map, fz_slr, fz_at, slr, List.cons_append, List.nil_append] | simp [mulN_one, V.fz, fzL, V.up, upL, fzL_map, fz_slr, fz_at, slr]) h (fun r h => t_impl_power h) (fun r3 h => ?_)
      conv => whnf
      refine Br.yes ?_
      conv => whnf
      refine Br.yes ?_
      conv => whnf
      refine Br.oe h (fun p4 h => ?_) (fun p4 h => ?_)
      · conv => whnf
        refine Br.yes ?_
        conv => whnf
        refine Cells.lit rfl rfl ?_
        conv => whnf
        refine Br.yes ?_
        conv => whnf
        refine Br.yes ?_
        conv => whnf
        refine CallQ.o V.bool (by first | rfl | simp only [mulN_one, V.fz, fzL, V.up, upL, fzL_map, fz_slr, fz_at, slr, List.cons_append, List.nil_append] | simp [mulN_one, V.fz, fzL, V.up, upL, fzL_map, fz_slr, fz_at, slr]) h (fun r h => t_impl_inSize h) (fun r5 h => ?_)
        conv => whnf
        refine Br.yes ?_
        conv => whnf
        cases h; exact (by first | rfl | simp only [resV, mulN_one, V.fz, fzL, V.up, upL, fzL_map, fz_slr, fz_at, slr] | simp [resV, mulN_one, V.fz, fzL, V.up, upL, fzL_map, fz_slr, fz_at, slr])
      · conv => whnf
        refine Br.no ?_
        conv => whnf
        refine Br.no ?_
        conv => whnf
        refine Br.no ?_
        conv => whnf
        refine Br.no ?_
        conv => whnf
        cases h; exact (by first | rfl | simp only [resV, mulN_one, V.fz, fzL, V.up, upL, fzL_map, fz_slr, fz_at, slr] | simp [resV, mulN_one, V.fz, fzL, V.up, upL, fzL_map, fz_slr, fz_at, slr])
    · conv => whnf
      refine Br.no ?_
      conv => whnf
      refine Br.no ?_
      conv => whnf
      refine Br.no ?_
      conv => whnf
      refine Br.no ?_
      conv => whnf
      refine Br.no ?_
      conv => whnf
      refine Br.no ?_
      conv => whnf
      refine Br.no ?_
      conv => whnf
      refine Br.no ?_
      conv => whnf
      refine Br.no ?_
      conv => whnf
      refine Br.no ?_
      conv => whnf
      refine Br.no ?_
      conv => whnf
      refine Br.no ?_
      conv => whnf
      refine Br.no ?_
      conv => whnf
      cases h; exact (by first | rfl | simp only [resV, mulN_one, V.fz, fzL, V.up, upL, fzL_map, fz_slr, fz_at, slr] | simp [resV, mulN_one, V.fz, fzL, V.up, upL, fzL_map, fz_slr, fz_at, slr])
  · conv => whnf
    refine Br.no ?_
    conv => whnf
    refine Br.no ?_
    conv => whnf
    refine Br.no ?_
    conv => whnf
    refine Br.no ?_
    conv => whnf
    refine Br.no ?_
    conv => whnf
    refine Br.no ?_
    conv => whnf
    refine Br.no ?_
    conv => whnf
    refine Br.no ?_
    conv => whnf
    refine Br.no ?_
    conv => whnf
    refine Br.no ?_
    conv => whnf
    refine Br.no ?_
    conv => whnf
    refine Br.no ?_
    conv => whnf
    refine Br.no ?_
    conv => whnf
    refine Br.no ?_
    conv => whnf
    refine Br.no ?_
    conv => whnf
    refine Br.no ?_
    conv => whnf
    refine Br.no ?_
    conv => whnf
    cases h; exact (by first | rfl | simp only [resV, mulN_one, V.fz, fzL, V.up, upL, fzL_map, fz_slr, fz_at, slr] | simp [resV, mulN_one, V.fz, fzL, V.up, upL, fzL_map, fz_slr, fz_at, slr])

noncomputable def F_laws_eqOp (a0 : SOp) (b0 : SOp) : Option Bool :=
  if a0.Arity ≠ b0.Arity then
   some false
  else
   (F_laws_eqIntS (a0.Table) (b0.Table)).bind fun r2 =>
   if (r2) = true then
    some true
   else
    some false
theorem t_laws_eqOp {a0 : SOp} {b0 : SOp} {v : Bool} (h : F_laws_eqOp a0 b0 = some v) : Ret Try.prog f_laws_eqOp [(rS_Op false) a0, (rS_Op false) b0] (V.bool v) := by
  refine ret_vc k_laws_eqOp (Nat.le_of_ble_eq_true rfl) ?_
  unfold F_laws_eqOp at h
  conv => whnf
  refine Cells.lit rfl rfl ?_
  conv => whnf
  refine Cells.lit rfl rfl ?_
  conv => whnf
  refine Br.on h (fun p1 h => ?_) (fun p1 h => ?_)
  · conv => whnf
    cases h; exact (by first | rfl | simp only [resV, mulN_one, V.fz, fzL, V.up, upL, fzL_map, fz_slr, fz_at, slr] | simp [resV, mulN_one, V.fz, fzL, V.up, upL, fzL_map, fz_slr, fz_at, slr])
  · conv => whnf
    refine Cells.lit rfl rfl ?_
    conv => whnf
    refine Cells.lit rfl rfl ?_
    conv => whnf
    refine CallQ.o V.bool (by first | rfl | simp only [mulN_one, V.fz, fzL, V.up, upL, fzL_map, fz_slr, fz_at, slr, List.cons_append, List.nil_append] | simp [mulN_one, V.fz, fzL, V.up, upL, fzL_map, fz_slr, fz_at, slr]) h (fun r h => t_laws_eqIntS h) (fun r2 h => ?_)
    conv => whnf
    refine Br.flip ?_
    conv => whnf
    refine Br.ob h (fun p3 h => ?_) (fun p3 h => ?_)
    · conv => whnf
      cases h; exact (by first | rfl | simp only [resV, mulN_one, V.fz, fzL, V.up, upL, fzL_map, fz_slr, fz_at, slr] | simp [resV, mulN_one, V.fz, fzL, V.up, upL, fzL_map, fz_slr, fz_at, slr])
    · conv => whnf
      cases h; exact (by first | rfl | simp only [resV, mulN_one, V.fz, fzL, V.up, upL, fzL_map, fz_slr, fz_at, slr] | simp [resV, mulN_one, V.fz, fzL, V.up, upL, fzL_map, fz_slr, fz_at, slr])

noncomputable def F_spec_l2Same (a0 : SAlgebra) (b0 : SAlgebra) : Option Bool :=
  (F_spec_l2Type (a0)).bind fun r1 =>
  (F_spec_l2Type (b0)).bind fun r2 =>
  (F_spec_l1Same (r1) (r2)).bind fun r3 =>
  some r3
theorem t_spec_l2Same {a0 : SAlgebra} {b0 : SAlgebra} {v : Bool} (h : F_spec_l2Same a0 b0 = some v) : Ret Try.prog f_spec_l2Same [(rS_Algebra false) a0, (rS_Algebra false) b0] (V.bool v) := by
  refine ret_vc k_spec_l2Same (Nat.le_of_ble_eq_true rfl) ?_
  unfold F_spec_l2Same at h
  conv => whnf
  refine Cells.lit rfl rfl ?_
  conv => whnf
  refine CallP.o (slr true 1 vint) (by first | rfl | simp only [mulN_one, V.fz, fzL, V.up, upL, fzL_map, fz_slr, fz_at, slr, List.cons_append, List.nil_append] | simp [mulN_one, V.fz, fzL, V.up, upL, fzL_map, fz_slr, fz_at, slr]) h (fun r h => t_spec_l2Type h) (fun r1 h => ?_)
  conv => whnf
  refine Cells.lit rfl rfl ?_
  conv => whnf
  refine CallQ.o (slr true 1 vint) (by first | rfl | simp only [mulN_one, V.fz, fzL, V.up, upL, fzL_map, fz_slr, fz_at, slr, List.cons_append, List.nil_append] | simp [mulN_one, V.fz, fzL, V.up, upL, fzL_map, fz_slr, fz_at, slr]) h (fun r h => t_spec_l2Type h) (fun r2 h => ?_)
  conv => whnf
  refine CallQ.rd V.bool (by first | rfl | simp only [V.fz, fzL_map, slr] | simp [mulN_one, V.fz, fzL, V.up, upL, fzL_map, fz_slr, fz_at, slr]) (fun _ => rfl) h (fun r h => t_spec_l1Same h) (fun r3 h => ?_)
  conv => whnf
  cases h; exact (by first | rfl | simp only [resV, mulN_one, V.fz, fzL, V.up, upL, fzL_map, fz_slr, fz_at, slr] | simp [resV, mulN_one, V.fz, fzL, V.up, upL, fzL_map, fz_slr, fz_at, slr])

noncomputable def F_spec_l7Fault_l1 (a0 : SAlgebra) (b0 : SAlgebra) (f0 : List Int) (x9 : Int) : Int → Option (Int ⊕ ((List Int) ⊕ Unit)) := fun x10 =>
   ask ((0 : Int) ≤ x9 ∧ x9 < (↑a0.Ops.length : Int)) <|
   if x10 < (↑(nth a0.Ops x9.toNat).Table.length : Int) then
    ask ((0 : Int) ≤ x9 ∧ x9 < (↑a0.Ops.length : Int)) <|
    (F_spec_l2Args (a0.Size) ((nth a0.Ops x9.toNat).Arity) (x10)).bind fun r5 =>
    ask ((0 : Int) ≤ x9 ∧ x9 < (↑a0.Ops.length : Int)) <|
    ask ((0 : Int) ≤ x10 ∧ x10 < (↑(nth a0.Ops x9.toNat).Table.length : Int)) <|
    ask ((0 : Int) ≤ nth (nth a0.Ops x9.toNat).Table x10.toNat ∧ nth (nth a0.Ops x9.toNat).Table x10.toNat < (↑f0.length : Int)) <|
    (F_spec_l7Images (f0) (r5)).bind fun r9 =>
    (F_spec_l2Value (b0) (x9) (r9)).bind fun r10 =>
    if nth f0 (nth (nth a0.Ops x9.toNat).Table x10.toNat).toNat ≠ r10 then
     some (.inr (.inl r5))
    else
     ask (InI (x10 + (1 : Int))) <|
     some (.inl (x10 + (1 : Int)))
   else
    some (.inr (.inr ()))
def S_spec_l7Fault_l1 (a0 : SAlgebra) (b0 : SAlgebra) (f0 : List Int) (x9 : Int) : Int → St := fun s => [(10, A.val (vint s)), (9, A.val (vint (x9))), (4, A.val ((rP true (rS_Algebra false)) (b0))), (3, A.val ((rP true (rS_Algebra false)) (a0))), (2, A.val ((slr false 1 vint) (f0)))]
def T_spec_l7Fault_l1 (a0 : SAlgebra) (b0 : SAlgebra) (f0 : List Int) (x9 : Int) : ((List Int) ⊕ Unit) → Tgt
  | (.inl s) => (Ex.ret, [8, 7, 6], [(8, A.val (V.bool (true))), (7, A.val ((slr true 1 vint) s)), (6, A.val (vint (x9)))])
  | (.inr _s) => ((Ex.exit 2), [9, 4, 3, 2], [(9, A.val (vint (x9))), (4, A.val ((rP true (rS_Algebra false)) (b0))), (3, A.val ((rP true (rS_Algebra false)) (a0))), (2, A.val ((slr false 1 vint) (f0)))])
theorem b_spec_l7Fault_l1 {a0 : SAlgebra} {b0 : SAlgebra} {f0 : List Int} {x9 : Int} (x10 : Int) (o : Int ⊕ ((List Int) ⊕ Unit)) (h : F_spec_l7Fault_l1 a0 b0 f0 x9 x10 = some o) : vc Try.prog c_spec_l7Fault_l1 (outQ [10, 9, 4, 3, 2] (S_spec_l7Fault_l1 a0 b0 f0 x9) (T_spec_l7Fault_l1 a0 b0 f0 x9) o) (S_spec_l7Fault_l1 a0 b0 f0 x9 x10) := by
  unfold F_spec_l7Fault_l1 at h
  try dsimp only at h
  conv => whnf
  refine Cells.lit rfl rfl ?_
  conv => whnf
  refine Len.map ?_
  conv => whnf
  refine Ask.o h fun p2 h => ?_
  conv => whnf
  refine Elem.o (by first | omega | (simp only [mulN] at *; omega) | (simp [mulN] at *; omega)) ?_
  conv => whnf
  refine Len.map ?_
  conv => whnf
  refine Br.od h (fun p3 h => ?_) (fun p3 h => ?_)
  · conv => whnf
    refine Cells.lit rfl rfl ?_
    conv => whnf
    refine Cells.lit rfl rfl ?_
    conv => whnf
    refine Len.map ?_
    conv => whnf
    refine Ask.o h fun p4 h => ?_
    conv => whnf
    refine Elem.o (by first | omega | (simp only [mulN] at *; omega) | (simp [mulN] at *; omega)) ?_
    conv => whnf
    refine CallQ.o (slr true 1 vint) (by first | rfl | simp only [mulN_one, V.fz, fzL, V.up, upL, fzL_map, fz_slr, fz_at, slr, List.cons_append, List.nil_append] | simp [mulN_one, V.fz, fzL, V.up, upL, fzL_map, fz_slr, fz_at, slr]) h (fun r h => t_spec_l2Args h) (fun r5 h => ?_)
    conv => whnf
    refine Cells.lit rfl rfl ?_
    conv => whnf
    refine Len.map ?_
    conv => whnf
    refine Ask.o h fun p6 h => ?_
    conv => whnf
    refine Elem.o (by first | omega | (simp only [mulN] at *; omega) | (simp [mulN] at *; omega)) ?_
    conv => whnf
    refine Len.map ?_
    conv => whnf
    refine Ask.o h fun p7 h => ?_
    conv => whnf
    refine Elem.o (by first | omega | (simp only [mulN] at *; omega) | (simp [mulN] at *; omega)) ?_
    conv => whnf
    refine Len.map ?_
    conv => whnf
    refine Ask.o h fun p8 h => ?_
    conv => whnf
    refine Elem.o (by first | omega | (simp only [mulN] at *; omega) | (simp [mulN] at *; omega)) ?_
    conv => whnf
    refine Cells.lit rfl rfl ?_
    conv => whnf
    refine CallP.rd (slr true 1 vint) (by first | rfl | simp only [V.fz, V.up, fzL_map, slr] | simp [mulN_one, V.fz, fzL, V.up, upL, fzL_map, fz_slr, fz_at, slr]) (fun _ => by simp [V.noFz, noFzL_map]) h (fun r h => t_spec_l7Images h) (fun r9 h => ?_)
    conv => whnf
    refine CallP.rd vint (by first | rfl | simp only [V.fz, fzL, V.up, fzL_map, fz_at, slr] | simp [mulN_one, V.fz, fzL, V.up, upL, fzL_map, fz_slr, fz_at, slr]) (fun _ => rfl) h (fun r h => t_spec_l2Value h) (fun r10 h => ?_)
    conv => whnf
    refine Br.on h (fun p11 h => ?_) (fun p11 h => ?_)
    · conv => whnf
      cases h; exact ⟨rfl, rfl⟩
    · conv => whnf
      refine Ask.o h fun p12 h => ?_
      conv => whnf
      cases h; exact ⟨rfl, rfl⟩
  · conv => whnf
    cases h; exact ⟨rfl, rfl⟩

noncomputable def F_spec_l7Fault_l2 (a0 : SAlgebra) (b0 : SAlgebra) (f0 : List Int) : Int → Option (Int ⊕ (((List Int) × Int) ⊕ Unit)) := fun x9 =>
   if x9 < (↑a0.Ops.length : Int) then
    (loopO (F_spec_l7Fault_l1 a0 b0 f0 x9) (0 : Int)).bind fun t => match t with
    | (.inl q13_7) => (some (.inr (.inl (q13_7, x9))))
    | (.inr _) => (ask (InI (x9 + (1 : Int))) <|
      some (.inl (x9 + (1 : Int))))
   else
    some (.inr (.inr ()))
def S_spec_l7Fault_l2 (a0 : SAlgebra) (b0 : SAlgebra) (f0 : List Int) : Int → St := fun s => [(9, A.val (vint s)), (4, A.val ((rP true (rS_Algebra false)) (b0))), (3, A.val ((rP true (rS_Algebra false)) (a0))), (2, A.val ((slr false 1 vint) (f0)))]
def T_spec_l7Fault_l2 (_a0 : SAlgebra) (_b0 : SAlgebra) (_f0 : List Int) : (((List Int) × Int) ⊕ Unit) → Tgt
  | (.inl s) => (Ex.ret, [8, 7, 6], [(8, A.val (V.bool (true))), (7, A.val ((slr true 1 vint) s.1)), (6, A.val (vint s.2))])
  | (.inr _s) => ((Ex.exit 0), [], [])
theorem b_spec_l7Fault_l2 {a0 : SAlgebra} {b0 : SAlgebra} {f0 : List Int} (x9 : Int) (o : Int ⊕ (((List Int) × Int) ⊕ Unit)) (h : F_spec_l7Fault_l2 a0 b0 f0 x9 = some o) : vc Try.prog c_spec_l7Fault_l2 (outQ [9, 4, 3, 2] (S_spec_l7Fault_l2 a0 b0 f0) (T_spec_l7Fault_l2 a0 b0 f0) o) (S_spec_l7Fault_l2 a0 b0 f0 x9) := by
  unfold F_spec_l7Fault_l2 at h
  try dsimp only at h
  conv => whnf
  refine Cells.lit rfl rfl ?_
  conv => whnf
  refine Len.map ?_
  conv => whnf
  refine Br.od h (fun p1 h => ?_) (fun p1 h => ?_)
  · conv => whnf
    refine LoopQ.o [10, 9, 4, 3, 2] (S_spec_l7Fault_l1 a0 b0 f0 x9) (T_spec_l7Fault_l1 a0 b0 f0 x9) h (fun s o h => b_spec_l7Fault_l1 s o h) (by first | rfl | simp [restrict, look, mulN_one, V.fz, fzL, V.up, upL, fzL_map, fz_slr, fz_at, slr]) (by rintro (_ | _) <;> rfl) ?_
    rintro (q13_7 | ⟨⟩) h
    · try dsimp only at h
      conv => whnf
      cases h; exact ⟨rfl, rfl⟩
    · try dsimp only at h
      conv => whnf
      refine Ask.o h fun p14 h => ?_
      conv => whnf
      cases h; exact ⟨rfl, rfl⟩
  · conv => whnf
    cases h; exact ⟨rfl, rfl⟩

noncomputable def F_spec_l7Fault (a0 : SAlgebra) (b0 : SAlgebra) (f0 : (List Int)) : Option (Int × (List Int) × Bool) :=
  (loopO (F_spec_l7Fault_l2 a0 b0 f0) (0 : Int)).bind fun t => match t with
  | (.inl (q15_7, q15_6)) => (some (q15_6, q15_7, true))
  | (.inr _) => (some ((0 : Int), nilL Int, false))
theorem t_spec_l7Fault {a0 : SAlgebra} {b0 : SAlgebra} {f0 : (List Int)} {v : (Int × (List Int) × Bool)} (h : F_spec_l7Fault a0 b0 f0 = some v) : Ret Try.prog f_spec_l7Fault [(rS_Algebra false) a0, (rS_Algebra false) b0, (slr false 1 vint) f0] ((fun r => V.tup [vint r.1, (slr true 1 vint) r.2.1, V.bool r.2.2]) v) := by
  refine ret_vc k_spec_l7Fault (Nat.le_of_ble_eq_true rfl) ?_
  unfold F_spec_l7Fault at h
  conv => whnf
  refine LoopQ.o [9, 4, 3, 2] (S_spec_l7Fault_l2 a0 b0 f0) (T_spec_l7Fault_l2 a0 b0 f0) h (fun s o h => b_spec_l7Fault_l2 s o h) (by first | rfl | simp [restrict, look, mulN_one, V.fz, fzL, V.up, upL, fzL_map, fz_slr, fz_at, slr]) (by rintro (_ | _) <;> rfl) ?_
  rintro (⟨q15_7, q15_6⟩ | ⟨⟩) h
  · try dsimp only at h
    conv => whnf
    cases h; exact (by first | rfl | simp only [resV, mulN_one, V.fz, fzL, V.up, upL, fzL_map, fz_slr, fz_at, slr] | simp [resV, mulN_one, V.fz, fzL, V.up, upL, fzL_map, fz_slr, fz_at, slr])
  · try dsimp only at h
    conv => whnf
    refine BslQ.o vint (nilL Int) (by exact fun _ => ⟨rfl, rfl⟩) (by first | rfl | simp only [mulN_one, V.fz, fzL, V.up, upL, fzL_map, fz_slr, fz_at, slr, List.cons_append, List.nil_append] | simp [mulN_one, V.fz, fzL, V.up, upL, fzL_map, fz_slr, fz_at, slr]) ?_
    conv => whnf
    cases h; exact (by first | rfl | simp only [resV, mulN_one, V.fz, fzL, V.up, upL, fzL_map, fz_slr, fz_at, slr] | simp [resV, mulN_one, V.fz, fzL, V.up, upL, fzL_map, fz_slr, fz_at, slr])

noncomputable def F_impl_isMap (a0 : SAlgebra) (b0 : SAlgebra) (f0 : (List Int)) : Option Bool :=
  if (↑f0.length : Int) = a0.Size then
   (F_impl_inSize (f0) (b0.Size)).bind fun r2 =>
   some r2
  else
   some false
theorem t_impl_isMap {a0 : SAlgebra} {b0 : SAlgebra} {f0 : (List Int)} {v : Bool} (h : F_impl_isMap a0 b0 f0 = some v) : Ret Try.prog f_impl_isMap [(rS_Algebra false) a0, (rS_Algebra false) b0, (slr false 1 vint) f0] (V.bool v) := by
  refine ret_vc k_impl_isMap (Nat.le_of_ble_eq_true rfl) ?_
  unfold F_impl_isMap at h
  conv => whnf
  refine Len.map ?_
  conv => whnf
  refine Cells.lit rfl rfl ?_
  conv => whnf
  refine Br.oe h (fun p1 h => ?_) (fun p1 h => ?_)
  · conv => whnf
    refine Br.yes ?_
    conv => whnf
    refine Br.yes ?_
    conv => whnf
    refine Cells.lit rfl rfl ?_
    conv => whnf
    refine Br.yes ?_
    conv => whnf
    refine CallQ.o V.bool (by first | rfl | simp only [mulN_one, V.fz, fzL, V.up, upL, fzL_map, fz_slr, fz_at, slr, List.cons_append, List.nil_append] | simp [mulN_one, V.fz, fzL, V.up, upL, fzL_map, fz_slr, fz_at, slr]) h (fun r h => t_impl_inSize h) (fun r2 h => ?_)
    conv => whnf
    refine Br.yes ?_
    conv => whnf
    cases h; exact (by first | rfl | simp only [resV, mulN_one, V.fz, fzL, V.up, upL, fzL_map, fz_slr, fz_at, slr] | simp [resV, mulN_one, V.fz, fzL, V.up, upL, fzL_map, fz_slr, fz_at, slr])
  · conv => whnf
    refine Br.no ?_
    conv => whnf
    refine Br.no ?_
    conv => whnf
    refine Br.no ?_
    conv => whnf
    refine Br.no ?_
    conv => whnf
    cases h; exact (by first | rfl | simp only [resV, mulN_one, V.fz, fzL, V.up, upL, fzL_map, fz_slr, fz_at, slr] | simp [resV, mulN_one, V.fz, fzL, V.up, upL, fzL_map, fz_slr, fz_at, slr])

end Go.Proofs.Ytdodfnbbfkcgnaa.Ax
