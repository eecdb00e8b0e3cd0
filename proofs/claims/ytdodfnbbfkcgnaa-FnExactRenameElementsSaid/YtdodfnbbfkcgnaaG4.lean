/-
  What the functions compute, as functions on plain data, and that the program does compute it; written by program.
-/
import Derived.Test.YtdodfnbbfkcgnaaCode
import Derived.Test.YtdodfnbbfkcgnaaG1
import Derived.Test.YtdodfnbbfkcgnaaG2
import Derived.Test.YtdodfnbbfkcgnaaG3
namespace Go.Proofs.Ytdodfnbbfkcgnaa.Ax
open Go
set_option maxRecDepth 100000
set_option maxHeartbeats 4000000

noncomputable def F_impl_faultOf_l1 (a0 : SAlgebra) (b0 : SAlgebra) (f0 : List Int) (x15 : Int) : Int → Option (Int ⊕ (Int ⊕ Unit)) := fun x23 =>
   if x23 < (↑(nth a0.Ops x15.toNat).Table.length : Int) then
    ask ((0 : Int) ≤ x23 ∧ x23 < (↑(nth a0.Ops x15.toNat).Table.length : Int)) <|
    ask ((0 : Int) ≤ nth (nth a0.Ops x15.toNat).Table x23.toNat ∧ nth (nth a0.Ops x15.toNat).Table x23.toNat < (↑f0.length : Int)) <|
    ask ((0 : Int) ≤ x15 ∧ x15 < (↑b0.Ops.length : Int)) <|
    (F_impl_imageIndex (x23) ((nth a0.Ops x15.toNat).Arity) (a0) (b0) (f0)).bind fun r7 =>
    ask ((0 : Int) ≤ r7 ∧ r7 < (↑(nth b0.Ops x15.toNat).Table.length : Int)) <|
    if nth f0 (nth (nth a0.Ops x15.toNat).Table x23.toNat).toNat ≠ nth (nth b0.Ops x15.toNat).Table r7.toNat then
     some (.inr (.inl x23))
    else
     ask (InI (x23 + (1 : Int))) <|
     some (.inl (x23 + (1 : Int)))
   else
    some (.inr (.inr ()))
def S_impl_faultOf_l1 (a0 : SAlgebra) (b0 : SAlgebra) (f0 : List Int) (x15 : Int) : Int → St := fun s => [(23, A.val (vint s)), (22, A.val (vint ((↑(nth a0.Ops x15.toNat).Table.length : Int)))), (21, A.val ((slr false 1 vint) ((nth a0.Ops x15.toNat).Table))), (8, A.val (vint (x15))), (9, A.val ((rP true (rS_Op false)) (nth a0.Ops x15.toNat))), (15, A.val (vint (x15))), (14, A.val (vint ((↑a0.Ops.length : Int)))), (13, A.val ((slr false 2 (rS_Op false)) (a0.Ops))), (4, A.val ((rP true (rS_Algebra false)) (b0))), (3, A.val ((rP true (rS_Algebra false)) (a0))), (2, A.val ((slr false 1 vint) (f0)))]
def T_impl_faultOf_l1 (a0 : SAlgebra) (b0 : SAlgebra) (f0 : List Int) (x15 : Int) : (Int ⊕ Unit) → Tgt
  | (.inl s) => (Ex.ret, [7, 6], [(7, A.val (vint s)), (6, A.val (vint (x15)))])
  | (.inr _s) => ((Ex.exit 2), [15, 14, 13, 4, 3, 2], [(15, A.val (vint (x15))), (14, A.val (vint ((↑a0.Ops.length : Int)))), (13, A.val ((slr false 2 (rS_Op false)) (a0.Ops))), (4, A.val ((rP true (rS_Algebra false)) (b0))), (3, A.val ((rP true (rS_Algebra false)) (a0))), (2, A.val ((slr false 1 vint) (f0)))])
theorem b_impl_faultOf_l1 {a0 : SAlgebra} {b0 : SAlgebra} {f0 : List Int} {x15 : Int} (x23 : Int) (o : Int ⊕ (Int ⊕ Unit)) (h : F_impl_faultOf_l1 a0 b0 f0 x15 x23 = some o) : vc Try.prog c_impl_faultOf_l1 (outQ [23, 22, 21, 8, 9, 15, 14, 13, 4, 3, 2] (S_impl_faultOf_l1 a0 b0 f0 x15) (T_impl_faultOf_l1 a0 b0 f0 x15) o) (S_impl_faultOf_l1 a0 b0 f0 x15 x23) := by
  unfold F_impl_faultOf_l1 at h
  try dsimp only at h
  conv => whnf
  refine Br.od h (fun p3 h => ?_) (fun p3 h => ?_)
  · conv => whnf
    refine Len.map ?_
    conv => whnf
    refine Ask.o h fun p4 h => ?_
    conv => whnf
    refine Elem.o (by first | omega | (simp only [mulN] at *; omega) | (simp [mulN] at *; omega)) ?_
    conv => whnf
    refine Len.map ?_
    conv => whnf
    refine Ask.o h fun p5 h => ?_
    conv => whnf
    refine Elem.o (by first | omega | (simp only [mulN] at *; omega) | (simp [mulN] at *; omega)) ?_
    conv => whnf
    refine Cells.lit rfl rfl ?_
    conv => whnf
    refine Len.map ?_
    conv => whnf
    refine Ask.o h fun p6 h => ?_
    conv => whnf
    refine Elem.o (by first | omega | (simp only [mulN] at *; omega) | (simp [mulN] at *; omega)) ?_
    conv => whnf
    refine Cells.lit rfl rfl ?_
    conv => whnf
    refine Cells.lit rfl rfl ?_
    conv => whnf
    refine Cells.lit rfl rfl ?_
    conv => whnf
    refine CallP.o vint (by first | rfl | simp only [mulN_one, V.fz, fzL, V.up, upL, fzL_map, fz_slr, fz_at, slr, List.cons_append, List.nil_append] | simp [mulN_one, V.fz, fzL, V.up, upL, fzL_map, fz_slr, fz_at, slr]) h (fun r h => t_impl_imageIndex h) (fun r7 h => ?_)
    conv => whnf
    refine Len.map ?_
    conv => whnf
    refine Ask.o h fun p8 h => ?_
    conv => whnf
    refine Elem.o (by first | omega | (simp only [mulN] at *; omega) | (simp [mulN] at *; omega)) ?_
    conv => whnf
    refine Br.on h (fun p9 h => ?_) (fun p9 h => ?_)
    · conv => whnf
      cases h; exact ⟨rfl, rfl⟩
    · conv => whnf
      refine Ask.o h fun p10 h => ?_
      conv => whnf
      cases h; exact ⟨rfl, rfl⟩
  · conv => whnf
    cases h; exact ⟨rfl, rfl⟩

noncomputable def F_impl_faultOf_l2 (a0 : SAlgebra) (b0 : SAlgebra) (f0 : List Int) : Int → Option (Int ⊕ ((Int × Int) ⊕ Unit)) := fun x15 =>
   if x15 < (↑a0.Ops.length : Int) then
    ask ((0 : Int) ≤ x15 ∧ x15 < (↑a0.Ops.length : Int)) <|
    (loopO (F_impl_faultOf_l1 a0 b0 f0 x15) (0 : Int)).bind fun t => match t with
    | (.inl q11_7) => (some (.inr (.inl (q11_7, x15))))
    | (.inr _) => (ask (InI (x15 + (1 : Int))) <|
      some (.inl (x15 + (1 : Int))))
   else
    some (.inr (.inr ()))
def S_impl_faultOf_l2 (a0 : SAlgebra) (b0 : SAlgebra) (f0 : List Int) : Int → St := fun s => [(15, A.val (vint s)), (14, A.val (vint ((↑a0.Ops.length : Int)))), (13, A.val ((slr false 2 (rS_Op false)) (a0.Ops))), (4, A.val ((rP true (rS_Algebra false)) (b0))), (3, A.val ((rP true (rS_Algebra false)) (a0))), (2, A.val ((slr false 1 vint) (f0)))]
def T_impl_faultOf_l2 (_a0 : SAlgebra) (_b0 : SAlgebra) (_f0 : List Int) : ((Int × Int) ⊕ Unit) → Tgt
  | (.inl s) => (Ex.ret, [7, 6], [(7, A.val (vint s.1)), (6, A.val (vint s.2))])
  | (.inr _s) => ((Ex.exit 0), [], [])
theorem b_impl_faultOf_l2 {a0 : SAlgebra} {b0 : SAlgebra} {f0 : List Int} (x15 : Int) (o : Int ⊕ ((Int × Int) ⊕ Unit)) (h : F_impl_faultOf_l2 a0 b0 f0 x15 = some o) : vc Try.prog c_impl_faultOf_l2 (outQ [15, 14, 13, 4, 3, 2] (S_impl_faultOf_l2 a0 b0 f0) (T_impl_faultOf_l2 a0 b0 f0) o) (S_impl_faultOf_l2 a0 b0 f0 x15) := by
  unfold F_impl_faultOf_l2 at h
  try dsimp only at h
  conv => whnf
  refine Br.od h (fun p1 h => ?_) (fun p1 h => ?_)
  · conv => whnf
    refine Len.map ?_
    conv => whnf
    refine Ask.o h fun p2 h => ?_
    conv => whnf
    refine Elem.o (by first | omega | (simp only [mulN] at *; omega) | (simp [mulN] at *; omega)) ?_
    conv => whnf
    refine SetKids.lit rfl ?_
    conv => whnf
    refine Cells.lit rfl rfl ?_
    conv => whnf
    refine Len.map ?_
    conv => whnf
    refine LoopQ.o [23, 22, 21, 8, 9, 15, 14, 13, 4, 3, 2] (S_impl_faultOf_l1 a0 b0 f0 x15) (T_impl_faultOf_l1 a0 b0 f0 x15) h (fun s o h => b_impl_faultOf_l1 s o h) (by first | rfl | simp [restrict, look, mulN_one, V.fz, fzL, V.up, upL, fzL_map, fz_slr, fz_at, slr]) (by rintro (_ | _) <;> rfl) ?_
    rintro (q11_7 | ⟨⟩) h
    · try dsimp only at h
      conv => whnf
      cases h; exact ⟨rfl, rfl⟩
    · try dsimp only at h
      conv => whnf
      refine Ask.o h fun p12 h => ?_
      conv => whnf
      cases h; exact ⟨rfl, rfl⟩
  · conv => whnf
    cases h; exact ⟨rfl, rfl⟩

noncomputable def F_impl_faultOf (a0 : SAlgebra) (b0 : SAlgebra) (f0 : (List Int)) : Option (Int × Int) :=
  (loopO (F_impl_faultOf_l2 a0 b0 f0) (0 : Int)).bind fun t => match t with
  | (.inl (q13_7, q13_6)) => (some (q13_6, q13_7))
  | (.inr _) => (some ((-1 : Int), (0 : Int)))
theorem t_impl_faultOf {a0 : SAlgebra} {b0 : SAlgebra} {f0 : (List Int)} {v : (Int × Int)} (h : F_impl_faultOf a0 b0 f0 = some v) : Ret Try.prog f_impl_faultOf [(rS_Algebra false) a0, (rS_Algebra false) b0, (slr false 1 vint) f0] ((fun r => V.tup [vint r.1, vint r.2]) v) := by
  refine ret_vc k_impl_faultOf (Nat.le_of_ble_eq_true rfl) ?_
  unfold F_impl_faultOf at h
  conv => whnf
  refine Cells.lit rfl rfl ?_
  conv => whnf
  refine Len.map ?_
  conv => whnf
  refine LoopQ.o [15, 14, 13, 4, 3, 2] (S_impl_faultOf_l2 a0 b0 f0) (T_impl_faultOf_l2 a0 b0 f0) h (fun s o h => b_impl_faultOf_l2 s o h) (by first | rfl | simp [restrict, look, mulN_one, V.fz, fzL, V.up, upL, fzL_map, fz_slr, fz_at, slr]) (by rintro (_ | _) <;> rfl) ?_
  rintro (⟨q13_7, q13_6⟩ | ⟨⟩) h
  · try dsimp only at h
    conv => whnf
    cases h; exact (by first | rfl | simp only [resV, mulN_one, V.fz, fzL, V.up, upL, fzL_map, fz_slr, fz_at, slr] | simp [resV, mulN_one, V.fz, fzL, V.up, upL, fzL_map, fz_slr, fz_at, slr])
  · try dsimp only at h
    conv => whnf
    cases h; exact (by first | rfl | simp only [resV, mulN_one, V.fz, fzL, V.up, upL, fzL_map, fz_slr, fz_at, slr] | simp [resV, mulN_one, V.fz, fzL, V.up, upL, fzL_map, fz_slr, fz_at, slr])

noncomputable def F_impl_cloneOp (f0 : SOp) : Option SOp :=
  (F_impl_clone (f0.Table)).bind fun r1 =>
  some ({ Arity := f0.Arity, Table := r1 })
theorem t_impl_cloneOp {f0 : SOp} {v : SOp} (h : F_impl_cloneOp f0 = some v) : Ret Try.prog f_impl_cloneOp [(rS_Op false) f0] ((rS_Op true) v) := by
  refine ret_vc k_impl_cloneOp (Nat.le_of_ble_eq_true rfl) ?_
  unfold F_impl_cloneOp at h
  conv => whnf
  refine Cells.lit rfl rfl ?_
  conv => whnf
  refine Cells.lit rfl rfl ?_
  conv => whnf
  refine CallP.o (slr true 1 vint) (by first | rfl | simp only [mulN_one, V.fz, fzL, V.up, upL, fzL_map, fz_slr, fz_at, slr, List.cons_append, List.nil_append] | simp [mulN_one, V.fz, fzL, V.up, upL, fzL_map, fz_slr, fz_at, slr]) h (fun r h => t_impl_clone h) (fun r1 h => ?_)
  conv => whnf
  refine SetKids.lit rfl ?_
  conv => whnf
  cases h; exact (by first | rfl | simp only [resV, mulN_one, V.fz, fzL, V.up, upL, fzL_map, fz_slr, fz_at, slr] | simp [resV, mulN_one, V.fz, fzL, V.up, upL, fzL_map, fz_slr, fz_at, slr])

noncomputable def F_laws_markAlgebra (a0 : SAlgebra) (k0 : Int) : Option (Int × SAlgebra) :=
  (F_laws_markOpS (a0.Ops) (k0)).bind fun (r1, u2) =>
  some (r1, { Size := a0.Size, Ops := u2 })
theorem t_laws_markAlgebra {a0 : SAlgebra} {k0 : Int} {v : (Int × SAlgebra)} (h : F_laws_markAlgebra a0 k0 = some v) : RetO Try.prog f_laws_markAlgebra [(rS_Algebra true) a0, vint k0] (vint v.1) 0 ((rS_Algebra true) v.2) := by
  refine reto_vc k_laws_markAlgebra (Nat.le_of_ble_eq_true rfl) ?_
  unfold F_laws_markAlgebra at h
  conv => whnf
  refine Cells.lit rfl rfl ?_
  conv => whnf
  refine Kid.lit rfl rfl ?_
  conv => whnf
  refine CallQ.io vint (slr true 2 (rS_Op true)) (by first | rfl | simp only [mulN_one, V.fz, fzL, V.up, upL, fzL_map, fz_slr, fz_at, slr, List.cons_append, List.nil_append] | simp [mulN_one, V.fz, fzL, V.up, upL, fzL_map, fz_slr, fz_at, slr]) rfl (fun _ => rfl) (fun _ => ⟨rfl, rfl⟩) rfl h (fun r h => t_laws_markOpS h) (fun r1 u2 h => ?_)
  conv => whnf
  refine Kid.lit rfl rfl ?_
  conv => whnf
  refine SetKids.lit rfl ?_
  conv => whnf
  cases h; exact ⟨(by first | rfl | simp only [resV, mulN_one, V.fz, fzL, V.up, upL, fzL_map, fz_slr, fz_at, slr] | simp [resV, mulN_one, V.fz, fzL, V.up, upL, fzL_map, fz_slr, fz_at, slr]), (by first | rfl | simp only [resV, mulN_one, V.fz, fzL, V.up, upL, fzL_map, fz_slr, fz_at, slr] | simp [resV, mulN_one, V.fz, fzL, V.up, upL, fzL_map, fz_slr, fz_at, slr])⟩

noncomputable def F_laws_heldAlgebra (a0 : SAlgebra) (k0 : Int) : Option Int :=
  (F_laws_heldOpS (a0.Ops) (k0)).bind fun r1 =>
  if r1 < (0 : Int) then
   some (-1 : Int)
  else
   some r1
theorem t_laws_heldAlgebra {a0 : SAlgebra} {k0 : Int} {v : Int} (h : F_laws_heldAlgebra a0 k0 = some v) : Ret Try.prog f_laws_heldAlgebra [(rS_Algebra false) a0, vint k0] (vint v) := by
  refine ret_vc k_laws_heldAlgebra (Nat.le_of_ble_eq_true rfl) ?_
  unfold F_laws_heldAlgebra at h
  conv => whnf
  refine Cells.lit rfl rfl ?_
  conv => whnf
  refine CallQ.o vint (by first | rfl | simp only [mulN_one, V.fz, fzL, V.up, upL, fzL_map, fz_slr, fz_at, slr, List.cons_append, List.nil_append] | simp [mulN_one, V.fz, fzL, V.up, upL, fzL_map, fz_slr, fz_at, slr]) h (fun r h => t_laws_heldOpS h) (fun r1 h => ?_)
  conv => whnf
  refine Br.od h (fun p2 h => ?_) (fun p2 h => ?_)
  · conv => whnf
    cases h; exact (by first | rfl | simp only [resV, mulN_one, V.fz, fzL, V.up, upL, fzL_map, fz_slr, fz_at, slr] | simp [resV, mulN_one, V.fz, fzL, V.up, upL, fzL_map, fz_slr, fz_at, slr])
  · conv => whnf
    cases h; exact (by first | rfl | simp only [resV, mulN_one, V.fz, fzL, V.up, upL, fzL_map, fz_slr, fz_at, slr] | simp [resV, mulN_one, V.fz, fzL, V.up, upL, fzL_map, fz_slr, fz_at, slr])

noncomputable def F_laws_szOpS_l1 (a0 : List SOp) : (Int × Int) → Option ((Int × Int) ⊕ (Unit ⊕ Int)) := fun (x5, x1) =>
   if x5 < (↑a0.length : Int) then
    ask ((0 : Int) ≤ x5 ∧ x5 < (↑a0.length : Int)) <|
    (F_laws_szOp (nth a0 x5.toNat) (x1)).bind fun r5 =>
    if r5 < (0 : Int) then
     some (.inr (.inl ()))
    else
     ask (InI (x5 + (1 : Int))) <|
     some (.inl (x5 + (1 : Int), r5))
   else
    some (.inr (.inr x1))
def S_laws_szOpS_l1 (a0 : List SOp) : (Int × Int) → St := fun s => [(5, A.val (vint s.1)), (1, A.val (vint s.2)), (0, A.val ((slr false 2 (rS_Op false)) (a0)))]
def T_laws_szOpS_l1 (_a0 : List SOp) : (Unit ⊕ Int) → Tgt
  | (.inl _s) => (Ex.ret, [4], [(4, A.val (vint ((-1 : Int))))])
  | (.inr s) => ((Ex.exit 0), [1], [(1, A.val (vint s))])
theorem b_laws_szOpS_l1 {a0 : List SOp} (s : (Int × Int)) (o : (Int × Int) ⊕ (Unit ⊕ Int)) (h : F_laws_szOpS_l1 a0 s = some o) : vc Try.prog c_laws_szOpS_l1 (outQ [5, 1, 0] (S_laws_szOpS_l1 a0) (T_laws_szOpS_l1 a0) o) (S_laws_szOpS_l1 a0 s) := by
  obtain ⟨x5, x1⟩ := s
  unfold F_laws_szOpS_l1 at h
  try dsimp only at h
  conv => whnf
  refine Len.map ?_
  conv => whnf
  refine Br.od h (fun p3 h => ?_) (fun p3 h => ?_)
  · conv => whnf
    refine Len.map ?_
    conv => whnf
    refine Ask.o h fun p4 h => ?_
    conv => whnf
    refine Elem.o (by first | omega | (simp only [mulN] at *; omega) | (simp [mulN] at *; omega)) ?_
    conv => whnf
    refine CallQ.o vint (by first | rfl | simp only [mulN_one, V.fz, fzL, V.up, upL, fzL_map, fz_slr, fz_at, slr, List.cons_append, List.nil_append] | simp [mulN_one, V.fz, fzL, V.up, upL, fzL_map, fz_slr, fz_at, slr]) h (fun r h => t_laws_szOp h) (fun r5 h => ?_)
    conv => whnf
    refine Br.od h (fun p6 h => ?_) (fun p6 h => ?_)
    · conv => whnf
      cases h; exact ⟨rfl, rfl⟩
    · conv => whnf
      refine Ask.o h fun p7 h => ?_
      conv => whnf
      cases h; exact ⟨rfl, rfl⟩
  · conv => whnf
    cases h; exact ⟨rfl, rfl⟩

noncomputable def F_laws_szOpS (a0 : (List SOp)) (left0 : Int) : Option Int :=
  ask (InI (left0 - (↑a0.length : Int))) <|
  if left0 - (↑a0.length : Int) < (0 : Int) then
   some (-1 : Int)
  else
   (loopO (F_laws_szOpS_l1 a0) ((0 : Int), left0 - (↑a0.length : Int))).bind fun t => match t with
   | (.inl _) => (some (-1 : Int))
   | (.inr q8_1) => (some q8_1)
theorem t_laws_szOpS {a0 : (List SOp)} {left0 : Int} {v : Int} (h : F_laws_szOpS a0 left0 = some v) : Ret Try.prog f_laws_szOpS [(slr false 2 (rS_Op false)) a0, vint left0] (vint v) := by
  refine ret_vc k_laws_szOpS (Nat.le_of_ble_eq_true rfl) ?_
  unfold F_laws_szOpS at h
  conv => whnf
  refine Len.map ?_
  conv => whnf
  refine Ask.o h fun p1 h => ?_
  conv => whnf
  refine Br.od h (fun p2 h => ?_) (fun p2 h => ?_)
  · conv => whnf
    cases h; exact (by first | rfl | simp only [resV, mulN_one, V.fz, fzL, V.up, upL, fzL_map, fz_slr, fz_at, slr] | simp [resV, mulN_one, V.fz, fzL, V.up, upL, fzL_map, fz_slr, fz_at, slr])
  · conv => whnf
    refine LoopQ.o [5, 1, 0] (S_laws_szOpS_l1 a0) (T_laws_szOpS_l1 a0) h (fun s o h => b_laws_szOpS_l1 s o h) (by first | rfl | simp [restrict, look, mulN_one, V.fz, fzL, V.up, upL, fzL_map, fz_slr, fz_at, slr]) (by rintro (_ | _) <;> rfl) ?_
    rintro (⟨⟩ | q8_1) h
    · try dsimp only at h
      conv => whnf
      cases h; exact (by first | rfl | simp only [resV, mulN_one, V.fz, fzL, V.up, upL, fzL_map, fz_slr, fz_at, slr] | simp [resV, mulN_one, V.fz, fzL, V.up, upL, fzL_map, fz_slr, fz_at, slr])
    · try dsimp only at h
      conv => whnf
      cases h; exact (by first | rfl | simp only [resV, mulN_one, V.fz, fzL, V.up, upL, fzL_map, fz_slr, fz_at, slr] | simp [resV, mulN_one, V.fz, fzL, V.up, upL, fzL_map, fz_slr, fz_at, slr])

noncomputable def F_spec_l2Good_l1 (a0 : SAlgebra) : Int → Option (Int ⊕ (Unit ⊕ Unit)) := fun x3 =>
   if x3 < (↑a0.Ops.length : Int) then
    ask ((0 : Int) ≤ x3 ∧ x3 < (↑a0.Ops.length : Int)) <|
    (F_spec_l2Op (a0.Size) (nth a0.Ops x3.toNat)).bind fun r7 =>
    if (r7) = true then
     ask (InI (x3 + (1 : Int))) <|
     some (.inl (x3 + (1 : Int)))
    else
     some (.inr (.inl ()))
   else
    some (.inr (.inr ()))
def S_spec_l2Good_l1 (a0 : SAlgebra) : Int → St := fun s => [(3, A.val (vint s)), (1, A.val ((rP true (rS_Algebra false)) (a0)))]
def T_spec_l2Good_l1 (_a0 : SAlgebra) : (Unit ⊕ Unit) → Tgt
  | (.inl _s) => (Ex.ret, [2], [(2, A.val (V.bool (false)))])
  | (.inr _s) => ((Ex.exit 0), [], [])
theorem b_spec_l2Good_l1 {a0 : SAlgebra} (x3 : Int) (o : Int ⊕ (Unit ⊕ Unit)) (h : F_spec_l2Good_l1 a0 x3 = some o) : vc Try.prog c_spec_l2Good_l1 (outQ [3, 1] (S_spec_l2Good_l1 a0) (T_spec_l2Good_l1 a0) o) (S_spec_l2Good_l1 a0 x3) := by
  unfold F_spec_l2Good_l1 at h
  try dsimp only at h
  conv => whnf
  refine Cells.lit rfl rfl ?_
  conv => whnf
  refine Len.map ?_
  conv => whnf
  refine Br.od h (fun p5 h => ?_) (fun p5 h => ?_)
  · conv => whnf
    refine Cells.lit rfl rfl ?_
    conv => whnf
    refine Cells.lit rfl rfl ?_
    conv => whnf
    refine Len.map ?_
    conv => whnf
    refine Ask.o h fun p6 h => ?_
    conv => whnf
    refine Elem.o (by first | omega | (simp only [mulN] at *; omega) | (simp [mulN] at *; omega)) ?_
    conv => whnf
    refine CallQ.o V.bool (by first | rfl | simp only [mulN_one, V.fz, fzL, V.up, upL, fzL_map, fz_slr, fz_at, slr, List.cons_append, List.nil_append] | simp [mulN_one, V.fz, fzL, V.up, upL, fzL_map, fz_slr, fz_at, slr]) h (fun r h => t_spec_l2Op h) (fun r7 h => ?_)
    conv => whnf
    refine Br.flip ?_
    conv => whnf
    refine Br.ob h (fun p8 h => ?_) (fun p8 h => ?_)
    · conv => whnf
      refine Ask.o h fun p9 h => ?_
      conv => whnf
      cases h; exact ⟨rfl, rfl⟩
    · conv => whnf
      cases h; exact ⟨rfl, rfl⟩
  · conv => whnf
    cases h; exact ⟨rfl, rfl⟩

noncomputable def F_spec_l2Good (a0 : SAlgebra) : Option Bool :=
  (((F_spec_l1In (a0.Size) ((1 : Int)) ((8 : Int))).bind fun r1 =>
     if (r1) = true then
      if (↑a0.Ops.length : Int) > (4 : Int) then
       some (.inl ())
      else
       some (.inr ())
     else
      some (.inl ()) : Option (Unit ⊕ Unit))).bind fun t => match t with
  | (.inl _) => (some false)
  | (.inr _) => ((loopO (F_spec_l2Good_l1 a0) (0 : Int)).bind fun t => match t with
    | (.inl _) => (some false)
    | (.inr _) => (some true))
theorem t_spec_l2Good {a0 : SAlgebra} {v : Bool} (h : F_spec_l2Good a0 = some v) : Ret Try.prog f_spec_l2Good [(rS_Algebra false) a0] (V.bool v) := by
  refine ret_vc k_spec_l2Good (Nat.le_of_ble_eq_true rfl) ?_
  unfold F_spec_l2Good at h
  conv => whnf
  refine CutQ.o (fun t : (Unit ⊕ Unit) => match t with | (.inl s) => (Ex.ret, [2], [(2, A.val (V.bool (false)))]) | (.inr s) => (Ex.normal, [1], [(1, A.val ((rP true (rS_Algebra false)) (a0)))])) h ?_ ?_
  · intro t h
    conv => whnf
    refine Cells.lit rfl rfl ?_
    conv => whnf
    refine CallQ.o V.bool (by first | rfl | simp only [mulN_one, V.fz, fzL, V.up, upL, fzL_map, fz_slr, fz_at, slr, List.cons_append, List.nil_append] | simp [mulN_one, V.fz, fzL, V.up, upL, fzL_map, fz_slr, fz_at, slr]) h (fun r h => t_spec_l1In h) (fun r1 h => ?_)
    conv => whnf
    refine Br.flip ?_
    conv => whnf
    refine Br.ob h (fun p2 h => ?_) (fun p2 h => ?_)
    · conv => whnf
      refine Br.no ?_
      conv => whnf
      refine Cells.lit rfl rfl ?_
      conv => whnf
      refine Br.no ?_
      conv => whnf
      refine Len.map ?_
      conv => whnf
      refine Br.no ?_
      conv => whnf
      refine Br.no ?_
      conv => whnf
      refine Br.od h (fun p3 h => ?_) (fun p3 h => ?_)
      · conv => whnf
        cases h; exact ⟨rfl, rfl⟩
      · conv => whnf
        cases h; exact ⟨rfl, rfl⟩
    · conv => whnf
      refine Br.yes ?_
      conv => whnf
      refine Br.yes ?_
      conv => whnf
      refine Br.yes ?_
      conv => whnf
      refine Br.yes ?_
      conv => whnf
      refine Br.yes ?_
      conv => whnf
      cases h; exact ⟨rfl, rfl⟩
  · rintro (⟨⟩ | ⟨⟩) h
    · try dsimp only at h
      conv => whnf
      cases h; exact (by first | rfl | simp only [resV, mulN_one, V.fz, fzL, V.up, upL, fzL_map, fz_slr, fz_at, slr] | simp [resV, mulN_one, V.fz, fzL, V.up, upL, fzL_map, fz_slr, fz_at, slr])
    · try dsimp only at h
      conv => whnf
      refine LoopQ.o [3, 1] (S_spec_l2Good_l1 a0) (T_spec_l2Good_l1 a0) h (fun s o h => b_spec_l2Good_l1 s o h) (by first | rfl | simp [restrict, look, mulN_one, V.fz, fzL, V.up, upL, fzL_map, fz_slr, fz_at, slr]) (by rintro (_ | _) <;> rfl) ?_
      rintro (⟨⟩ | ⟨⟩) h
      · try dsimp only at h
        conv => whnf
        cases h; exact (by first | rfl | simp only [resV, mulN_one, V.fz, fzL, V.up, upL, fzL_map, fz_slr, fz_at, slr] | simp [resV, mulN_one, V.fz, fzL, V.up, upL, fzL_map, fz_slr, fz_at, slr])
      · try dsimp only at h
        conv => whnf
        cases h; exact (by first | rfl | simp only [resV, mulN_one, V.fz, fzL, V.up, upL, fzL_map, fz_slr, fz_at, slr] | simp [resV, mulN_one, V.fz, fzL, V.up, upL, fzL_map, fz_slr, fz_at, slr])

noncomputable def F_spec_l2Perm_l1 (l0 : List Int) (n0 : Int) : (Int × (List Bool)) → Option ((Int × (List Bool)) ⊕ (Unit ⊕ Unit)) := fun (x6, x5) =>
   if x6 < n0 then
    ask ((0 : Int) ≤ x6 ∧ x6 < (↑l0.length : Int)) <|
    ask ((0 : Int) ≤ nth l0 x6.toNat ∧ nth l0 x6.toNat < (↑x5.length : Int)) <|
    if (nth x5 (nth l0 x6.toNat).toNat) = true then
     some (.inr (.inl ()))
    else
     ask ((0 : Int) ≤ x6 ∧ x6 < (↑l0.length : Int)) <|
     ask ((0 : Int) ≤ nth l0 x6.toNat ∧ nth l0 x6.toNat < (↑x5.length : Int)) <|
     ask (InI (x6 + (1 : Int))) <|
     some (.inl (x6 + (1 : Int), x5.set (nth l0 x6.toNat).toNat true))
   else
    some (.inr (.inr ()))
def S_spec_l2Perm_l1 (l0 : List Int) (n0 : Int) : (Int × (List Bool)) → St := fun s => [(6, A.val (vint s.1)), (5, A.val ((slr true 1 V.bool) s.2)), (0, A.val ((slr false 1 vint) (l0))), (1, A.val (vint (n0)))]
def T_spec_l2Perm_l1 (_l0 : List Int) (_n0 : Int) : (Unit ⊕ Unit) → Tgt
  | (.inl _s) => (Ex.ret, [4], [(4, A.val (V.bool (false)))])
  | (.inr _s) => ((Ex.exit 0), [], [])
theorem b_spec_l2Perm_l1 {l0 : List Int} {n0 : Int} (s : (Int × (List Bool))) (o : (Int × (List Bool)) ⊕ (Unit ⊕ Unit)) (h : F_spec_l2Perm_l1 l0 n0 s = some o) : vc Try.prog c_spec_l2Perm_l1 (outQ [6, 5, 0, 1] (S_spec_l2Perm_l1 l0 n0) (T_spec_l2Perm_l1 l0 n0) o) (S_spec_l2Perm_l1 l0 n0 s) := by
  obtain ⟨x6, x5⟩ := s
  unfold F_spec_l2Perm_l1 at h
  try dsimp only at h
  conv => whnf
  refine Br.od h (fun p6 h => ?_) (fun p6 h => ?_)
  · conv => whnf
    refine Len.map ?_
    conv => whnf
    refine Ask.o h fun p7 h => ?_
    conv => whnf
    refine Elem.o (by first | omega | (simp only [mulN] at *; omega) | (simp [mulN] at *; omega)) ?_
    conv => whnf
    refine Len.map ?_
    conv => whnf
    refine Ask.o h fun p8 h => ?_
    conv => whnf
    refine Cells.one (fun _ => ⟨rfl, rfl⟩) (by first | omega | (simp only [mulN] at *; omega) | (simp [mulN] at *; omega)) ?_
    conv => whnf
    refine Br.ob h (fun p9 h => ?_) (fun p9 h => ?_)
    · conv => whnf
      cases h; exact ⟨rfl, rfl⟩
    · conv => whnf
      refine Len.map ?_
      conv => whnf
      refine Ask.o h fun p10 h => ?_
      conv => whnf
      refine Elem.o (by first | omega | (simp only [mulN] at *; omega) | (simp [mulN] at *; omega)) ?_
      conv => whnf
      refine Len.map ?_
      conv => whnf
      refine Ask.o h fun p11 h => ?_
      conv => whnf
      refine SetKids.one (fun _ => ⟨rfl, rfl⟩) (true) (by first | rfl | simp only [mulN_one, V.fz, fzL, V.up, upL, fzL_map, fz_slr, fz_at, slr, List.cons_append, List.nil_append] | simp [mulN_one, V.fz, fzL, V.up, upL, fzL_map, fz_slr, fz_at, slr]) (by first | omega | (simp only [mulN] at *; omega) | (simp [mulN] at *; omega)) ?_
      conv => whnf
      refine Ask.o h fun p12 h => ?_
      conv => whnf
      cases h; exact ⟨rfl, rfl⟩
  · conv => whnf
    cases h; exact ⟨rfl, rfl⟩

noncomputable def F_spec_l2Perm (l0 : (List Int)) (n0 : Int) : Option Bool :=
  ((if (↑l0.length : Int) ≠ n0 then
      some (.inl ())
     else
      (F_spec_l2Elements (n0) (l0)).bind fun r2 =>
      if (r2) = true then
       some (.inr ())
      else
       some (.inl ()) : Option (Unit ⊕ Unit))).bind fun t => match t with
  | (.inl _) => (some false)
  | (.inr _) => (ask ((0 : Int) ≤ n0 ∧ n0 ≤ (↑LIM : Int)) <|
    (loopO (F_spec_l2Perm_l1 l0 n0) ((0 : Int), List.replicate n0.toNat false)).bind fun t => match t with
    | (.inl _) => (some false)
    | (.inr _) => (some true))
theorem t_spec_l2Perm {l0 : (List Int)} {n0 : Int} {v : Bool} (h : F_spec_l2Perm l0 n0 = some v) : Ret Try.prog f_spec_l2Perm [(slr false 1 vint) l0, vint n0] (V.bool v) := by
  refine ret_vc k_spec_l2Perm (Nat.le_of_ble_eq_true rfl) ?_
  unfold F_spec_l2Perm at h
  conv => whnf
  refine CutQ.o (fun t : (Unit ⊕ Unit) => match t with | (.inl s) => (Ex.ret, [4], [(4, A.val (V.bool (false)))]) | (.inr s) => (Ex.normal, [0, 1], [(0, A.val ((slr false 1 vint) (l0))), (1, A.val (vint (n0)))])) h ?_ ?_
  · intro t h
    conv => whnf
    refine Len.map ?_
    conv => whnf
    refine Br.on h (fun p1 h => ?_) (fun p1 h => ?_)
    · conv => whnf
      refine Br.yes ?_
      conv => whnf
      refine Br.yes ?_
      conv => whnf
      refine Br.yes ?_
      conv => whnf
      refine Br.yes ?_
      conv => whnf
      refine Br.yes ?_
      conv => whnf
      cases h; exact ⟨rfl, rfl⟩
    · conv => whnf
      refine Br.no ?_
      conv => whnf
      refine Br.no ?_
      conv => whnf
      refine CallQ.o V.bool (by first | rfl | simp only [mulN_one, V.fz, fzL, V.up, upL, fzL_map, fz_slr, fz_at, slr, List.cons_append, List.nil_append] | simp [mulN_one, V.fz, fzL, V.up, upL, fzL_map, fz_slr, fz_at, slr]) h (fun r h => t_spec_l2Elements h) (fun r2 h => ?_)
      conv => whnf
      refine Br.no ?_
      conv => whnf
      refine Br.no ?_
      conv => whnf
      refine Br.flip ?_
      conv => whnf
      refine Br.ob h (fun p3 h => ?_) (fun p3 h => ?_)
      · conv => whnf
        cases h; exact ⟨rfl, rfl⟩
      · conv => whnf
        cases h; exact ⟨rfl, rfl⟩
  · rintro (⟨⟩ | ⟨⟩) h
    · try dsimp only at h
      conv => whnf
      cases h; exact (by first | rfl | simp only [resV, mulN_one, V.fz, fzL, V.up, upL, fzL_map, fz_slr, fz_at, slr] | simp [resV, mulN_one, V.fz, fzL, V.up, upL, fzL_map, fz_slr, fz_at, slr])
    · try dsimp only at h
      conv => whnf
      refine Ask.o h fun p5 h => ?_
      conv => whnf
      refine MkQ.o V.bool (false) rfl ?_
      conv => whnf
      refine LoopQ.o [6, 5, 0, 1] (S_spec_l2Perm_l1 l0 n0) (T_spec_l2Perm_l1 l0 n0) h (fun s o h => b_spec_l2Perm_l1 s o h) (by first | rfl | simp [restrict, look, mulN_one, V.fz, fzL, V.up, upL, fzL_map, fz_slr, fz_at, slr]) (by rintro (_ | _) <;> rfl) ?_
      rintro (⟨⟩ | ⟨⟩) h
      · try dsimp only at h
        conv => whnf
        cases h; exact (by first | rfl | simp only [resV, mulN_one, V.fz, fzL, V.up, upL, fzL_map, fz_slr, fz_at, slr] | simp [resV, mulN_one, V.fz, fzL, V.up, upL, fzL_map, fz_slr, fz_at, slr])
      · try dsimp only at h
        conv => whnf
        cases h; exact (by first | rfl | simp only [resV, mulN_one, V.fz, fzL, V.up, upL, fzL_map, fz_slr, fz_at, slr] | simp [resV, mulN_one, V.fz, fzL, V.up, upL, fzL_map, fz_slr, fz_at, slr])

noncomputable def F_laws_toOpS_l1 (a0 : List SOp) : (Int × (List SOp)) → Option ((Int × (List SOp)) ⊕ (List SOp)) := fun (x4, x3) =>
   if x4 < (↑a0.length : Int) then
    ask ((0 : Int) ≤ x4 ∧ x4 < (↑a0.length : Int)) <|
    (F_laws_toOp (nth a0 x4.toNat)).bind fun r4 =>
    ask ((0 : Int) ≤ x4 ∧ x4 < (↑x3.length : Int)) <|
    ask (InI (x4 + (1 : Int))) <|
    some (.inl (x4 + (1 : Int), x3.set x4.toNat r4))
   else
    some (.inr x3)
def S_laws_toOpS_l1 (a0 : List SOp) : (Int × (List SOp)) → St := fun s => [(4, A.val (vint s.1)), (3, A.val ((slr true 2 (rS_Op true)) s.2)), (0, A.val ((slr false 2 (rS_Op false)) (a0)))]
def T_laws_toOpS_l1 (_a0 : List SOp) : (List SOp) → Tgt
  | s => ((Ex.exit 0), [3], [(3, A.val ((slr true 2 (rS_Op true)) s))])
theorem b_laws_toOpS_l1 {a0 : List SOp} (s : (Int × (List SOp))) (o : (Int × (List SOp)) ⊕ (List SOp)) (h : F_laws_toOpS_l1 a0 s = some o) : vc Try.prog c_laws_toOpS_l1 (outQ [4, 3, 0] (S_laws_toOpS_l1 a0) (T_laws_toOpS_l1 a0) o) (S_laws_toOpS_l1 a0 s) := by
  obtain ⟨x4, x3⟩ := s
  unfold F_laws_toOpS_l1 at h
  try dsimp only at h
  conv => whnf
  refine Len.map ?_
  conv => whnf
  refine Br.od h (fun p2 h => ?_) (fun p2 h => ?_)
  · conv => whnf
    refine Len.map ?_
    conv => whnf
    refine Ask.o h fun p3 h => ?_
    conv => whnf
    refine Elem.o (by first | omega | (simp only [mulN] at *; omega) | (simp [mulN] at *; omega)) ?_
    conv => whnf
    refine CallQ.o (rS_Op true) (by first | rfl | simp only [mulN_one, V.fz, fzL, V.up, upL, fzL_map, fz_slr, fz_at, slr, List.cons_append, List.nil_append] | simp [mulN_one, V.fz, fzL, V.up, upL, fzL_map, fz_slr, fz_at, slr]) h (fun r h => t_laws_toOp h) (fun r4 h => ?_)
    conv => whnf
    refine Len.map ?_
    conv => whnf
    refine Ask.o h fun p5 h => ?_
    conv => whnf
    refine SetKids.wide0 (by exact fun _ => ⟨rfl, rfl⟩) (r4) (by first | omega | (simp only [mulN] at *; omega) | (simp [mulN] at *; omega)) (by rfl) (by decide) ?_
    conv => whnf
    refine Ask.o h fun p6 h => ?_
    conv => whnf
    cases h; exact ⟨rfl, rfl⟩
  · conv => whnf
    cases h; exact ⟨rfl, rfl⟩

noncomputable def F_laws_toOpS (a0 : (List SOp)) : Option (List SOp) :=
  ask ((0 : Int) ≤ (↑a0.length : Int) ∧ (↑a0.length : Int) ≤ (↑LIM : Int)) <|
  (loopO (F_laws_toOpS_l1 a0) ((0 : Int), List.replicate (↑a0.length : Int).toNat { Arity := (0 : Int), Table := nilL Int })).bind fun q7_3 =>
  some q7_3
theorem t_laws_toOpS {a0 : (List SOp)} {v : (List SOp)} (h : F_laws_toOpS a0 = some v) : Ret Try.prog f_laws_toOpS [(slr false 2 (rS_Op false)) a0] ((slr true 2 (rS_Op true)) v) := by
  refine ret_vc k_laws_toOpS (Nat.le_of_ble_eq_true rfl) ?_
  unfold F_laws_toOpS at h
  conv => whnf
  refine Len.map ?_
  conv => whnf
  refine Ask.o h fun p1 h => ?_
  conv => whnf
  refine MkQ.o (rS_Op true) ({ Arity := (0 : Int), Table := nilL Int }) rfl ?_
  conv => whnf
  refine LoopQ.o [4, 3, 0] (S_laws_toOpS_l1 a0) (T_laws_toOpS_l1 a0) h (fun s o h => b_laws_toOpS_l1 s o h) (by first | rfl | simp [restrict, look, mulN_one, V.fz, fzL, V.up, upL, fzL_map, fz_slr, fz_at, slr]) (fun _ => rfl) ?_
  rintro q7_3 h
  try dsimp only at h
  conv => whnf
  cases h; exact (by first | rfl | simp only [resV, mulN_one, V.fz, fzL, V.up, upL, fzL_map, fz_slr, fz_at, slr] | simp [resV, mulN_one, V.fz, fzL, V.up, upL, fzL_map, fz_slr, fz_at, slr])

noncomputable def F_impl_IsAlgebra_l1 (a0 : SAlgebra) : Int → Option (Int ⊕ (Unit ⊕ Unit)) := fun x22 =>
   if x22 < (↑a0.Ops.length : Int) then
    ask ((0 : Int) ≤ x22 ∧ x22 < (↑a0.Ops.length : Int)) <|
    (F_impl_isOp (nth a0.Ops x22.toNat) (a0.Size)).bind fun r7 =>
    if (r7) = true then
     ask (InI (x22 + (1 : Int))) <|
     some (.inl (x22 + (1 : Int)))
    else
     some (.inr (.inl ()))
   else
    some (.inr (.inr ()))
def S_impl_IsAlgebra_l1 (a0 : SAlgebra) : Int → St := fun s => [(22, A.val (vint s)), (21, A.val (vint ((↑a0.Ops.length : Int)))), (20, A.val ((slr false 2 (rS_Op false)) (a0.Ops))), (1, A.val ((rP true (rS_Algebra false)) (a0)))]
def T_impl_IsAlgebra_l1 (_a0 : SAlgebra) : (Unit ⊕ Unit) → Tgt
  | (.inl _s) => (Ex.ret, [2], [(2, A.val (V.bool (false)))])
  | (.inr _s) => ((Ex.exit 0), [], [])
theorem b_impl_IsAlgebra_l1 {a0 : SAlgebra} (x22 : Int) (o : Int ⊕ (Unit ⊕ Unit)) (h : F_impl_IsAlgebra_l1 a0 x22 = some o) : vc Try.prog c_impl_IsAlgebra_l1 (outQ [22, 21, 20, 1] (S_impl_IsAlgebra_l1 a0) (T_impl_IsAlgebra_l1 a0) o) (S_impl_IsAlgebra_l1 a0 x22) := by
  unfold F_impl_IsAlgebra_l1 at h
  try dsimp only at h
  conv => whnf
  refine Br.od h (fun p5 h => ?_) (fun p5 h => ?_)
  · conv => whnf
    refine Len.map ?_
    conv => whnf
    refine Ask.o h fun p6 h => ?_
    conv => whnf
    refine Elem.o (by first | omega | (simp only [mulN] at *; omega) | (simp [mulN] at *; omega)) ?_
    conv => whnf
    refine SetKids.lit rfl ?_
    conv => whnf
    refine Cells.lit rfl rfl ?_
    conv => whnf
    refine Cells.lit rfl rfl ?_
    conv => whnf
    refine CallQ.o V.bool (by first | rfl | simp only [mulN_one, V.fz, fzL, V.up, upL, fzL_map, fz_slr, fz_at, slr, List.cons_append, List.nil_append] | simp [mulN_one, V.fz, fzL, V.up, upL, fzL_map, fz_slr, fz_at, slr]) h (fun r h => t_impl_isOp h) (fun r7 h => ?_)
    conv => whnf
    refine Br.flip ?_
    conv => whnf
    refine Br.ob h (fun p8 h => ?_) (fun p8 h => ?_)
    · conv => whnf
      refine Ask.o h fun p9 h => ?_
      conv => whnf
      cases h; exact ⟨rfl, rfl⟩
    · conv => whnf
      cases h; exact ⟨rfl, rfl⟩
  · conv => whnf
    cases h; exact ⟨rfl, rfl⟩

noncomputable def F_impl_IsAlgebra (a0 : SAlgebra) : Option Bool :=
  ((if a0.Size < (1 : Int) then
      some (.inl ())
     else
      if a0.Size > (8 : Int) then
       some (.inl ())
      else
       if (↑a0.Ops.length : Int) > (4 : Int) then
        some (.inl ())
       else
        some (.inr ()) : Option (Unit ⊕ Unit))).bind fun t => match t with
  | (.inl _) => (some false)
  | (.inr _) => ((loopO (F_impl_IsAlgebra_l1 a0) (0 : Int)).bind fun t => match t with
    | (.inl _) => (some false)
    | (.inr _) => (some true))
theorem t_impl_IsAlgebra {a0 : SAlgebra} {v : Bool} (h : F_impl_IsAlgebra a0 = some v) : Ret Try.prog f_impl_IsAlgebra [(rS_Algebra false) a0] (V.bool v) := by
  refine ret_vc k_impl_IsAlgebra (Nat.le_of_ble_eq_true rfl) ?_
  unfold F_impl_IsAlgebra at h
  conv => whnf
  refine CutQ.o (fun t : (Unit ⊕ Unit) => match t with | (.inl s) => (Ex.ret, [2], [(2, A.val (V.bool (false)))]) | (.inr s) => (Ex.normal, [1], [(1, A.val ((rP true (rS_Algebra false)) (a0)))])) h ?_ ?_
  · intro t h
    conv => whnf
    refine Cells.lit rfl rfl ?_
    conv => whnf
    refine Br.od h (fun p1 h => ?_) (fun p1 h => ?_)
    · conv => whnf
      refine Br.yes ?_
      conv => whnf
      refine Br.yes ?_
      conv => whnf
      refine Br.yes ?_
      conv => whnf
      refine Br.yes ?_
      conv => whnf
      refine Br.yes ?_
      conv => whnf
      refine Br.yes ?_
      conv => whnf
      refine Br.yes ?_
      conv => whnf
      refine Br.yes ?_
      conv => whnf
      refine Br.yes ?_
      conv => whnf
      cases h; exact ⟨rfl, rfl⟩
    · conv => whnf
      refine Br.no ?_
      conv => whnf
      refine Cells.lit rfl rfl ?_
      conv => whnf
      refine Br.no ?_
      conv => whnf
      refine Br.no ?_
      conv => whnf
      refine Br.od h (fun p2 h => ?_) (fun p2 h => ?_)
      · conv => whnf
        refine Br.yes ?_
        conv => whnf
        refine Br.yes ?_
        conv => whnf
        refine Br.yes ?_
        conv => whnf
        refine Br.yes ?_
        conv => whnf
        refine Br.yes ?_
        conv => whnf
        cases h; exact ⟨rfl, rfl⟩
      · conv => whnf
        refine Br.no ?_
        conv => whnf
        refine Cells.lit rfl rfl ?_
        conv => whnf
        refine Br.no ?_
        conv => whnf
        refine Len.map ?_
        conv => whnf
        refine Br.no ?_
        conv => whnf
        refine Br.no ?_
        conv => whnf
        refine Br.od h (fun p3 h => ?_) (fun p3 h => ?_)
        · conv => whnf
          cases h; exact ⟨rfl, rfl⟩
        · conv => whnf
          cases h; exact ⟨rfl, rfl⟩
  · rintro (⟨⟩ | ⟨⟩) h
    · try dsimp only at h
      conv => whnf
      cases h; exact (by first | rfl | simp only [resV, mulN_one, V.fz, fzL, V.up, upL, fzL_map, fz_slr, fz_at, slr] | simp [resV, mulN_one, V.fz, fzL, V.up, upL, fzL_map, fz_slr, fz_at, slr])
    · try dsimp only at h
      conv => whnf
      refine Cells.lit rfl rfl ?_
      conv => whnf
      refine Len.map ?_
      conv => whnf
      refine LoopQ.o [22, 21, 20, 1] (S_impl_IsAlgebra_l1 a0) (T_impl_IsAlgebra_l1 a0) h (fun s o h => b_impl_IsAlgebra_l1 s o h) (by first | rfl | simp [restrict, look, mulN_one, V.fz, fzL, V.up, upL, fzL_map, fz_slr, fz_at, slr]) (by rintro (_ | _) <;> rfl) ?_
      rintro (⟨⟩ | ⟨⟩) h
      · try dsimp only at h
        conv => whnf
        cases h; exact (by first | rfl | simp only [resV, mulN_one, V.fz, fzL, V.up, upL, fzL_map, fz_slr, fz_at, slr] | simp [resV, mulN_one, V.fz, fzL, V.up, upL, fzL_map, fz_slr, fz_at, slr])
      · try dsimp only at h
        conv => whnf
        cases h; exact (by first | rfl | simp only [resV, mulN_one, V.fz, fzL, V.up, upL, fzL_map, fz_slr, fz_at, slr] | simp [resV, mulN_one, V.fz, fzL, V.up, upL, fzL_map, fz_slr, fz_at, slr])

noncomputable def F_laws_eqOpS_l1 (a0 : List SOp) (b0 : List SOp) : Int → Option (Int ⊕ (Unit ⊕ Unit)) := fun x5 =>
   if x5 < (↑a0.length : Int) then
    ask ((0 : Int) ≤ x5 ∧ x5 < (↑a0.length : Int)) <|
    ask ((0 : Int) ≤ x5 ∧ x5 < (↑b0.length : Int)) <|
    (F_laws_eqOp (nth a0 x5.toNat) (nth b0 x5.toNat)).bind fun r5 =>
    if (r5) = true then
     ask (InI (x5 + (1 : Int))) <|
     some (.inl (x5 + (1 : Int)))
    else
     some (.inr (.inl ()))
   else
    some (.inr (.inr ()))
def S_laws_eqOpS_l1 (a0 : List SOp) (b0 : List SOp) : Int → St := fun s => [(5, A.val (vint s)), (0, A.val ((slr false 2 (rS_Op false)) (a0))), (1, A.val ((slr false 2 (rS_Op false)) (b0)))]
def T_laws_eqOpS_l1 (_a0 : List SOp) (_b0 : List SOp) : (Unit ⊕ Unit) → Tgt
  | (.inl _s) => (Ex.ret, [4], [(4, A.val (V.bool (false)))])
  | (.inr _s) => ((Ex.exit 0), [], [])
theorem b_laws_eqOpS_l1 {a0 : List SOp} {b0 : List SOp} (x5 : Int) (o : Int ⊕ (Unit ⊕ Unit)) (h : F_laws_eqOpS_l1 a0 b0 x5 = some o) : vc Try.prog c_laws_eqOpS_l1 (outQ [5, 0, 1] (S_laws_eqOpS_l1 a0 b0) (T_laws_eqOpS_l1 a0 b0) o) (S_laws_eqOpS_l1 a0 b0 x5) := by
  unfold F_laws_eqOpS_l1 at h
  try dsimp only at h
  conv => whnf
  refine Len.map ?_
  conv => whnf
  refine Br.od h (fun p2 h => ?_) (fun p2 h => ?_)
  · conv => whnf
    refine Len.map ?_
    conv => whnf
    refine Ask.o h fun p3 h => ?_
    conv => whnf
    refine Elem.o (by first | omega | (simp only [mulN] at *; omega) | (simp [mulN] at *; omega)) ?_
    conv => whnf
    refine Len.map ?_
    conv => whnf
    refine Ask.o h fun p4 h => ?_
    conv => whnf
    refine Elem.o (by first | omega | (simp only [mulN] at *; omega) | (simp [mulN] at *; omega)) ?_
    conv => whnf
    refine CallQ.o V.bool (by first | rfl | simp only [mulN_one, V.fz, fzL, V.up, upL, fzL_map, fz_slr, fz_at, slr, List.cons_append, List.nil_append] | simp [mulN_one, V.fz, fzL, V.up, upL, fzL_map, fz_slr, fz_at, slr]) h (fun r h => t_laws_eqOp h) (fun r5 h => ?_)
    conv => whnf
    refine Br.flip ?_
    conv => whnf
    refine Br.ob h (fun p6 h => ?_) (fun p6 h => ?_)
    · conv => whnf
      refine Ask.o h fun p7 h => ?_
      conv => whnf
      cases h; exact ⟨rfl, rfl⟩
    · conv => whnf
      cases h; exact ⟨rfl, rfl⟩
  · conv => whnf
    cases h; exact ⟨rfl, rfl⟩

noncomputable def F_laws_eqOpS (a0 : (List SOp)) (b0 : (List SOp)) : Option Bool :=
  if (↑a0.length : Int) ≠ (↑b0.length : Int) then
   some false
  else
   (loopO (F_laws_eqOpS_l1 a0 b0) (0 : Int)).bind fun t => match t with
   | (.inl _) => (some false)
   | (.inr _) => (some true)
theorem t_laws_eqOpS {a0 : (List SOp)} {b0 : (List SOp)} {v : Bool} (h : F_laws_eqOpS a0 b0 = some v) : Ret Try.prog f_laws_eqOpS [(slr false 2 (rS_Op false)) a0, (slr false 2 (rS_Op false)) b0] (V.bool v) := by
  refine ret_vc k_laws_eqOpS (Nat.le_of_ble_eq_true rfl) ?_
  unfold F_laws_eqOpS at h
  conv => whnf
  refine Len.map ?_
  conv => whnf
  refine Len.map ?_
  conv => whnf
  refine Br.on h (fun p1 h => ?_) (fun p1 h => ?_)
  · conv => whnf
    cases h; exact (by first | rfl | simp only [resV, mulN_one, V.fz, fzL, V.up, upL, fzL_map, fz_slr, fz_at, slr] | simp [resV, mulN_one, V.fz, fzL, V.up, upL, fzL_map, fz_slr, fz_at, slr])
  · conv => whnf
    refine LoopQ.o [5, 0, 1] (S_laws_eqOpS_l1 a0 b0) (T_laws_eqOpS_l1 a0 b0) h (fun s o h => b_laws_eqOpS_l1 s o h) (by first | rfl | simp [restrict, look, mulN_one, V.fz, fzL, V.up, upL, fzL_map, fz_slr, fz_at, slr]) (by rintro (_ | _) <;> rfl) ?_
    rintro (⟨⟩ | ⟨⟩) h
    · try dsimp only at h
      conv => whnf
      cases h; exact (by first | rfl | simp only [resV, mulN_one, V.fz, fzL, V.up, upL, fzL_map, fz_slr, fz_at, slr] | simp [resV, mulN_one, V.fz, fzL, V.up, upL, fzL_map, fz_slr, fz_at, slr])
    · try dsimp only at h
      conv => whnf
      cases h; exact (by first | rfl | simp only [resV, mulN_one, V.fz, fzL, V.up, upL, fzL_map, fz_slr, fz_at, slr] | simp [resV, mulN_one, V.fz, fzL, V.up, upL, fzL_map, fz_slr, fz_at, slr])

noncomputable def F_impl_isHom (a0 : SAlgebra) (b0 : SAlgebra) (f0 : (List Int)) : Option Bool :=
  (F_impl_isMap (a0) (b0) (f0)).bind fun r1 =>
  if (r1) = true then
   (F_impl_faultOf (a0) (b0) (f0)).bind fun r3 =>
   some (decide (r3.fst < (0 : Int)))
  else
   some false
theorem t_impl_isHom {a0 : SAlgebra} {b0 : SAlgebra} {f0 : (List Int)} {v : Bool} (h : F_impl_isHom a0 b0 f0 = some v) : Ret Try.prog f_impl_isHom [(rS_Algebra false) a0, (rS_Algebra false) b0, (slr false 1 vint) f0] (V.bool v) := by
  refine ret_vc k_impl_isHom (Nat.le_of_ble_eq_true rfl) ?_
  unfold F_impl_isHom at h
  conv => whnf
  refine Cells.lit rfl rfl ?_
  conv => whnf
  refine Cells.lit rfl rfl ?_
  conv => whnf
  refine CallQ.o V.bool (by first | rfl | simp only [mulN_one, V.fz, fzL, V.up, upL, fzL_map, fz_slr, fz_at, slr, List.cons_append, List.nil_append] | simp [mulN_one, V.fz, fzL, V.up, upL, fzL_map, fz_slr, fz_at, slr]) h (fun r h => t_impl_isMap h) (fun r1 h => ?_)
  conv => whnf
  refine Br.flip ?_
  conv => whnf
  refine Br.ob h (fun p2 h => ?_) (fun p2 h => ?_)
  · conv => whnf
    refine Cells.lit rfl rfl ?_
    conv => whnf
    refine Cells.lit rfl rfl ?_
    conv => whnf
    refine CallQ.o (fun r => V.tup [vint r.1, vint r.2]) (by first | rfl | simp only [mulN_one, V.fz, fzL, V.up, upL, fzL_map, fz_slr, fz_at, slr, List.cons_append, List.nil_append] | simp [mulN_one, V.fz, fzL, V.up, upL, fzL_map, fz_slr, fz_at, slr]) h (fun r h => t_impl_faultOf h) (fun r3 h => ?_)
    conv => whnf
    cases h; exact (by first | rfl | simp only [resV, mulN_one, V.fz, fzL, V.up, upL, fzL_map, fz_slr, fz_at, slr] | simp [resV, mulN_one, V.fz, fzL, V.up, upL, fzL_map, fz_slr, fz_at, slr])
  · conv => whnf
    cases h; exact (by first | rfl | simp only [resV, mulN_one, V.fz, fzL, V.up, upL, fzL_map, fz_slr, fz_at, slr] | simp [resV, mulN_one, V.fz, fzL, V.up, upL, fzL_map, fz_slr, fz_at, slr])

end Go.Proofs.Ytdodfnbbfkcgnaa.Ax
