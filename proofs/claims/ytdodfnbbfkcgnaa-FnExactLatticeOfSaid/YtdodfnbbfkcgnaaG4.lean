/-
  What the functions compute, as functions on plain data, and that the program does compute it; written by program.
-/
import Derived.Test.YtdodfnbbfkcgnaaCode
import Derived.Test.YtdodfnbbfkcgnaaG1
import Derived.Test.YtdodfnbbfkcgnaaG2
namespace Go.Proofs.Ytdodfnbbfkcgnaa.Ax
open Go
set_option maxRecDepth 100000
set_option maxHeartbeats 4000000

noncomputable def F_impl_orderOfMeet_l1 (n0 : Int) (table0 : List Int) (_r1 : List (List Bool)) (x12 : Int) (x5 : List (List Bool)) : (Int × (List (List Bool))) → Option ((Int × (List (List Bool))) ⊕ (List (List Bool))) := fun (x17, x5') =>
   if x17 < (↑x5.length : Int) then
    ask ((0 : Int) ≤ x12 ∧ x12 < (↑x5'.length : Int)) <|
    ask (InI (x12 * n0)) <|
    ask (InI (x12 * n0 + x17)) <|
    ask ((0 : Int) ≤ x12 * n0 + x17 ∧ x12 * n0 + x17 < (↑table0.length : Int)) <|
    ask ((0 : Int) ≤ x17 ∧ x17 < (↑(nth x5' x12.toNat).length : Int)) <|
    ask (InI (x17 + (1 : Int))) <|
    some (.inl (x17 + (1 : Int), x5'.set x12.toNat ((nth x5' x12.toNat).set x17.toNat (nth table0 (x12 * n0 + x17).toNat == x12))))
   else
    some (.inr x5')
def S_impl_orderOfMeet_l1 (n0 : Int) (table0 : List Int) (r1 : List (List Bool)) (x12 : Int) (x5 : List (List Bool)) : (Int × (List (List Bool))) → St := fun s => [(17, A.val (vint s.1)), (16, A.val (vint ((↑x5.length : Int)))), (6, A.val (vint (x12))), (12, A.val (vint (x12))), (11, A.val (vint ((↑r1.length : Int)))), (5, A.val ((slr true 1 (slr true 1 V.bool)) s.2)), (0, A.val (vint (n0))), (1, A.val ((slr false 1 vint) (table0)))]
def T_impl_orderOfMeet_l1 (n0 : Int) (table0 : List Int) (r1 : List (List Bool)) (x12 : Int) (_x5 : List (List Bool)) : (List (List Bool)) → Tgt
  | s => ((Ex.exit 2), [12, 11, 5, 0, 1], [(12, A.val (vint (x12))), (11, A.val (vint ((↑r1.length : Int)))), (5, A.val ((slr true 1 (slr true 1 V.bool)) s)), (0, A.val (vint (n0))), (1, A.val ((slr false 1 vint) (table0)))])
theorem b_impl_orderOfMeet_l1 {n0 : Int} {table0 : List Int} {r1 : List (List Bool)} {x12 : Int} {x5 : List (List Bool)} (s : (Int × (List (List Bool)))) (o : (Int × (List (List Bool))) ⊕ (List (List Bool))) (h : F_impl_orderOfMeet_l1 n0 table0 r1 x12 x5 s = some o) : vc Try.prog c_impl_orderOfMeet_l1 (outQ [17, 16, 6, 12, 11, 5, 0, 1] (S_impl_orderOfMeet_l1 n0 table0 r1 x12 x5) (T_impl_orderOfMeet_l1 n0 table0 r1 x12 x5) o) (S_impl_orderOfMeet_l1 n0 table0 r1 x12 x5 s) := by
  obtain ⟨x17, x5'⟩ := s
  unfold F_impl_orderOfMeet_l1 at h
  try dsimp only at h
  conv => whnf
  refine Br.od h (fun p3 h => ?_) (fun p3 h => ?_)
  · conv => whnf
    refine Len.map ?_
    conv => whnf
    refine Ask.o h fun p4 h => ?_
    conv => whnf
    refine Cells.one (fun _ => ⟨rfl, rfl⟩) (by first | omega | (simp only [mulN] at *; omega) | (simp [mulN] at *; omega)) ?_
    conv => whnf
    refine Ask.o h fun p5 h => ?_
    conv => whnf
    refine Ask.o h fun p6 h => ?_
    conv => whnf
    refine Len.map ?_
    conv => whnf
    refine Ask.o h fun p7 h => ?_
    conv => whnf
    refine Elem.o (by first | omega | (simp only [mulN] at *; omega) | (simp [mulN] at *; omega)) ?_
    conv => whnf
    refine Kid.one (fun _ => ⟨rfl, rfl⟩) (by first | omega | (simp only [mulN] at *; omega) | (simp [mulN] at *; omega)) ?_
    conv => whnf
    refine Len.map ?_
    conv => whnf
    refine Ask.o h fun p8 h => ?_
    conv => whnf
    refine Kid.one (fun _ => ⟨rfl, rfl⟩) (by first | omega | (simp only [mulN] at *; omega) | (simp [mulN] at *; omega)) ?_
    conv => whnf
    refine SetKids.one (fun _ => ⟨rfl, rfl⟩) (nth table0 (x12 * n0 + x17).toNat == x12) (by first | rfl | simp only [mulN_one, V.fz, fzL, V.up, upL, fzL_map, fz_slr, fz_at, slr, List.cons_append, List.nil_append] | simp [mulN_one, V.fz, fzL, V.up, upL, fzL_map, fz_slr, fz_at, slr]) (by first | omega | (simp only [mulN] at *; omega) | (simp [mulN] at *; omega)) ?_
    conv => whnf
    refine Kid.one (fun _ => ⟨rfl, rfl⟩) (by first | omega | (simp only [mulN] at *; omega) | (simp [mulN] at *; omega)) ?_
    conv => whnf
    refine SetKids.one (fun _ => ⟨rfl, rfl⟩) ((nth x5' x12.toNat).set x17.toNat (nth table0 (x12 * n0 + x17).toNat == x12)) (by first | rfl | simp only [mulN_one, V.fz, fzL, V.up, upL, fzL_map, fz_slr, fz_at, slr, List.cons_append, List.nil_append] | simp [mulN_one, V.fz, fzL, V.up, upL, fzL_map, fz_slr, fz_at, slr]) (by first | omega | (simp only [mulN] at *; omega) | (simp [mulN] at *; omega)) ?_
    conv => whnf
    refine Ask.o h fun p9 h => ?_
    conv => whnf
    cases h; exact ⟨rfl, rfl⟩
  · conv => whnf
    cases h; exact ⟨rfl, rfl⟩

noncomputable def F_impl_orderOfMeet_l2 (n0 : Int) (table0 : List Int) (r1 : List (List Bool)) : (Int × (List (List Bool))) → Option ((Int × (List (List Bool))) ⊕ (List (List Bool))) := fun (x12, x5) =>
   if x12 < (↑r1.length : Int) then
    (loopO (F_impl_orderOfMeet_l1 n0 table0 r1 x12 x5) ((0 : Int), x5)).bind fun q10_5 =>
    ask (InI (x12 + (1 : Int))) <|
    some (.inl (x12 + (1 : Int), q10_5))
   else
    some (.inr x5)
def S_impl_orderOfMeet_l2 (n0 : Int) (table0 : List Int) (r1 : List (List Bool)) : (Int × (List (List Bool))) → St := fun s => [(12, A.val (vint s.1)), (11, A.val (vint ((↑r1.length : Int)))), (5, A.val ((slr true 1 (slr true 1 V.bool)) s.2)), (0, A.val (vint (n0))), (1, A.val ((slr false 1 vint) (table0)))]
def T_impl_orderOfMeet_l2 (_n0 : Int) (_table0 : List Int) (_r1 : List (List Bool)) : (List (List Bool)) → Tgt
  | s => ((Ex.exit 0), [5], [(5, A.val ((slr true 1 (slr true 1 V.bool)) s))])
theorem b_impl_orderOfMeet_l2 {n0 : Int} {table0 : List Int} {r1 : List (List Bool)} (s : (Int × (List (List Bool)))) (o : (Int × (List (List Bool))) ⊕ (List (List Bool))) (h : F_impl_orderOfMeet_l2 n0 table0 r1 s = some o) : vc Try.prog c_impl_orderOfMeet_l2 (outQ [12, 11, 5, 0, 1] (S_impl_orderOfMeet_l2 n0 table0 r1) (T_impl_orderOfMeet_l2 n0 table0 r1) o) (S_impl_orderOfMeet_l2 n0 table0 r1 s) := by
  obtain ⟨x12, x5⟩ := s
  unfold F_impl_orderOfMeet_l2 at h
  try dsimp only at h
  conv => whnf
  refine Br.od h (fun p2 h => ?_) (fun p2 h => ?_)
  · conv => whnf
    refine Len.map ?_
    conv => whnf
    refine LoopQ.o [17, 16, 6, 12, 11, 5, 0, 1] (S_impl_orderOfMeet_l1 n0 table0 r1 x12 x5) (T_impl_orderOfMeet_l1 n0 table0 r1 x12 x5) h (fun s o h => b_impl_orderOfMeet_l1 s o h) (by first | rfl | simp [restrict, look, mulN_one, V.fz, fzL, V.up, upL, fzL_map, fz_slr, fz_at, slr]) (fun _ => rfl) ?_
    rintro q10_5 h
    try dsimp only at h
    conv => whnf
    refine Ask.o h fun p11 h => ?_
    conv => whnf
    cases h; exact ⟨rfl, rfl⟩
  · conv => whnf
    cases h; exact ⟨rfl, rfl⟩

noncomputable def F_impl_orderOfMeet (n0 : Int) (table0 : (List Int)) : Option (List (List Bool)) :=
  (F_impl_newOrder (n0)).bind fun r1 =>
  (loopO (F_impl_orderOfMeet_l2 n0 table0 r1) ((0 : Int), r1)).bind fun q12_5 =>
  some q12_5
theorem t_impl_orderOfMeet {n0 : Int} {table0 : (List Int)} {v : (List (List Bool))} (h : F_impl_orderOfMeet n0 table0 = some v) : Ret Try.prog f_impl_orderOfMeet [vint n0, (slr false 1 vint) table0] ((slr true 1 (slr true 1 V.bool)) v) := by
  refine ret_vc k_impl_orderOfMeet (Nat.le_of_ble_eq_true rfl) ?_
  unfold F_impl_orderOfMeet at h
  conv => whnf
  refine CallQ.o (slr true 1 (slr true 1 V.bool)) (by first | rfl | simp only [mulN_one, V.fz, fzL, V.up, upL, fzL_map, fz_slr, fz_at, slr, List.cons_append, List.nil_append] | simp [mulN_one, V.fz, fzL, V.up, upL, fzL_map, fz_slr, fz_at, slr]) h (fun r h => t_impl_newOrder h) (fun r1 h => ?_)
  conv => whnf
  refine Len.map ?_
  conv => whnf
  refine LoopQ.o [12, 11, 5, 0, 1] (S_impl_orderOfMeet_l2 n0 table0 r1) (T_impl_orderOfMeet_l2 n0 table0 r1) h (fun s o h => b_impl_orderOfMeet_l2 s o h) (by first | rfl | simp [restrict, look, mulN_one, V.fz, fzL, V.up, upL, fzL_map, fz_slr, fz_at, slr]) (fun _ => rfl) ?_
  rintro q12_5 h
  try dsimp only at h
  conv => whnf
  cases h; exact (by first | rfl | simp only [resV, mulN_one, V.fz, fzL, V.up, upL, fzL_map, fz_slr, fz_at, slr] | simp [resV, mulN_one, V.fz, fzL, V.up, upL, fzL_map, fz_slr, fz_at, slr])

noncomputable def F_impl_sameAlgebra_l1 (a0 : SAlgebra) (b0 : SAlgebra) : Int → Option (Int ⊕ (Unit ⊕ Unit)) := fun x24 =>
   if x24 < (↑a0.Ops.length : Int) then
    ask ((0 : Int) ≤ x24 ∧ x24 < (↑a0.Ops.length : Int)) <|
    ask ((0 : Int) ≤ x24 ∧ x24 < (↑b0.Ops.length : Int)) <|
    if (nth a0.Ops x24.toNat).Arity ≠ (nth b0.Ops x24.toNat).Arity then
     some (.inr (.inl ()))
    else
     ask ((0 : Int) ≤ x24 ∧ x24 < (↑b0.Ops.length : Int)) <|
     (F_impl_sameList ((nth a0.Ops x24.toNat).Table) ((nth b0.Ops x24.toNat).Table)).bind fun r9 =>
     if (r9) = true then
      ask (InI (x24 + (1 : Int))) <|
      some (.inl (x24 + (1 : Int)))
     else
      some (.inr (.inl ()))
   else
    some (.inr (.inr ()))
def S_impl_sameAlgebra_l1 (a0 : SAlgebra) (b0 : SAlgebra) : Int → St := fun s => [(24, A.val (vint s)), (23, A.val (vint ((↑a0.Ops.length : Int)))), (22, A.val ((slr false 2 (rS_Op false)) (a0.Ops))), (3, A.val ((rP true (rS_Algebra false)) (b0)))]
def T_impl_sameAlgebra_l1 (_a0 : SAlgebra) (_b0 : SAlgebra) : (Unit ⊕ Unit) → Tgt
  | (.inl _s) => (Ex.ret, [4], [(4, A.val (V.bool (false)))])
  | (.inr _s) => ((Ex.exit 0), [], [])
theorem b_impl_sameAlgebra_l1 {a0 : SAlgebra} {b0 : SAlgebra} (x24 : Int) (o : Int ⊕ (Unit ⊕ Unit)) (h : F_impl_sameAlgebra_l1 a0 b0 x24 = some o) : vc Try.prog c_impl_sameAlgebra_l1 (outQ [24, 23, 22, 3] (S_impl_sameAlgebra_l1 a0 b0) (T_impl_sameAlgebra_l1 a0 b0) o) (S_impl_sameAlgebra_l1 a0 b0 x24) := by
  unfold F_impl_sameAlgebra_l1 at h
  try dsimp only at h
  conv => whnf
  refine Br.od h (fun p4 h => ?_) (fun p4 h => ?_)
  · conv => whnf
    refine Len.map ?_
    conv => whnf
    refine Ask.o h fun p5 h => ?_
    conv => whnf
    refine Elem.o (by first | omega | (simp only [mulN] at *; omega) | (simp [mulN] at *; omega)) ?_
    conv => whnf
    refine SetKids.lit rfl ?_
    conv => whnf
    refine Cells.lit rfl rfl ?_
    conv => whnf
    refine Cells.lit rfl rfl ?_
    conv => whnf
    refine Len.map ?_
    conv => whnf
    refine Ask.o h fun p6 h => ?_
    conv => whnf
    refine Elem.o (by first | omega | (simp only [mulN] at *; omega) | (simp [mulN] at *; omega)) ?_
    conv => whnf
    refine Br.on h (fun p7 h => ?_) (fun p7 h => ?_)
    · conv => whnf
      refine Br.yes ?_
      conv => whnf
      refine Br.yes ?_
      conv => whnf
      refine Br.yes ?_
      conv => whnf
      refine Br.yes ?_
      conv => whnf
      refine Br.yes ?_
      conv => whnf
      refine Br.yes ?_
      conv => whnf
      refine Br.yes ?_
      conv => whnf
      refine Br.yes ?_
      conv => whnf
      refine Br.yes ?_
      conv => whnf
      refine Br.yes ?_
      conv => whnf
      refine Br.yes ?_
      conv => whnf
      cases h; exact ⟨rfl, rfl⟩
    · conv => whnf
      refine Br.no ?_
      conv => whnf
      refine Cells.lit rfl rfl ?_
      conv => whnf
      refine Br.no ?_
      conv => whnf
      refine Br.no ?_
      conv => whnf
      refine Cells.lit rfl rfl ?_
      conv => whnf
      refine Br.no ?_
      conv => whnf
      refine Br.no ?_
      conv => whnf
      refine Len.map ?_
      conv => whnf
      refine Ask.o h fun p8 h => ?_
      conv => whnf
      refine Elem.o (by first | omega | (simp only [mulN] at *; omega) | (simp [mulN] at *; omega)) ?_
      conv => whnf
      refine Br.no ?_
      conv => whnf
      refine Br.no ?_
      conv => whnf
      refine Br.no ?_
      conv => whnf
      refine CallQ.o V.bool (by first | rfl | simp only [mulN_one, V.fz, fzL, V.up, upL, fzL_map, fz_slr, fz_at, slr, List.cons_append, List.nil_append] | simp [mulN_one, V.fz, fzL, V.up, upL, fzL_map, fz_slr, fz_at, slr]) h (fun r h => t_impl_sameList h) (fun r9 h => ?_)
      conv => whnf
      refine Br.no ?_
      conv => whnf
      refine Br.no ?_
      conv => whnf
      refine Br.flip ?_
      conv => whnf
      refine Br.ob h (fun p10 h => ?_) (fun p10 h => ?_)
      · conv => whnf
        refine Ask.o h fun p11 h => ?_
        conv => whnf
        cases h; exact ⟨rfl, rfl⟩
      · conv => whnf
        cases h; exact ⟨rfl, rfl⟩
  · conv => whnf
    cases h; exact ⟨rfl, rfl⟩

noncomputable def F_impl_sameAlgebra (a0 : SAlgebra) (b0 : SAlgebra) : Option Bool :=
  ((if a0.Size ≠ b0.Size then
      some (.inl ())
     else
      if (↑a0.Ops.length : Int) ≠ (↑b0.Ops.length : Int) then
       some (.inl ())
      else
       some (.inr ()) : Option (Unit ⊕ Unit))).bind fun t => match t with
  | (.inl _) => (some false)
  | (.inr _) => ((loopO (F_impl_sameAlgebra_l1 a0 b0) (0 : Int)).bind fun t => match t with
    | (.inl _) => (some false)
    | (.inr _) => (some true))
theorem t_impl_sameAlgebra {a0 : SAlgebra} {b0 : SAlgebra} {v : Bool} (h : F_impl_sameAlgebra a0 b0 = some v) : Ret Try.prog f_impl_sameAlgebra [(rS_Algebra false) a0, (rS_Algebra false) b0] (V.bool v) := by
  refine ret_vc k_impl_sameAlgebra (Nat.le_of_ble_eq_true rfl) ?_
  unfold F_impl_sameAlgebra at h
  conv => whnf
  refine CutQ.o (fun t : (Unit ⊕ Unit) => match t with | (.inl s) => (Ex.ret, [4], [(4, A.val (V.bool (false)))]) | (.inr s) => (Ex.normal, [3, 2], [(3, A.val ((rP true (rS_Algebra false)) (b0))), (2, A.val ((rP true (rS_Algebra false)) (a0)))])) h ?_ ?_
  · intro t h
    conv => whnf
    refine Cells.lit rfl rfl ?_
    conv => whnf
    refine Cells.lit rfl rfl ?_
    conv => whnf
    refine Br.on h (fun p1 h => ?_) (fun p1 h => ?_)
    · conv => whnf
      refine Br.yes ?_
      conv => whnf
      refine Br.yes ?_
      conv => whnf
      refine Br.yes ?_
      conv => whnf
      refine Br.yes ?_
      conv => whnf
      refine Br.yes ?_
      conv => whnf
      refine Br.yes ?_
      conv => whnf
      refine Br.yes ?_
      conv => whnf
      refine Br.yes ?_
      conv => whnf
      cases h; exact ⟨rfl, rfl⟩
    · conv => whnf
      refine Br.no ?_
      conv => whnf
      refine Cells.lit rfl rfl ?_
      conv => whnf
      refine Br.no ?_
      conv => whnf
      refine Len.map ?_
      conv => whnf
      refine Br.no ?_
      conv => whnf
      refine Br.no ?_
      conv => whnf
      refine Cells.lit rfl rfl ?_
      conv => whnf
      refine Br.no ?_
      conv => whnf
      refine Len.map ?_
      conv => whnf
      refine Br.no ?_
      conv => whnf
      refine Br.no ?_
      conv => whnf
      refine Br.on h (fun p2 h => ?_) (fun p2 h => ?_)
      · conv => whnf
        cases h; exact ⟨rfl, rfl⟩
      · conv => whnf
        cases h; exact ⟨rfl, rfl⟩
  · rintro (⟨⟩ | ⟨⟩) h
    · try dsimp only at h
      conv => whnf
      cases h; exact (by first | rfl | simp only [resV, mulN_one, V.fz, fzL, V.up, upL, fzL_map, fz_slr, fz_at, slr] | simp [resV, mulN_one, V.fz, fzL, V.up, upL, fzL_map, fz_slr, fz_at, slr])
    · try dsimp only at h
      conv => whnf
      refine Cells.lit rfl rfl ?_
      conv => whnf
      refine Len.map ?_
      conv => whnf
      refine LoopQ.o [24, 23, 22, 3] (S_impl_sameAlgebra_l1 a0 b0) (T_impl_sameAlgebra_l1 a0 b0) h (fun s o h => b_impl_sameAlgebra_l1 s o h) (by first | rfl | simp [restrict, look, mulN_one, V.fz, fzL, V.up, upL, fzL_map, fz_slr, fz_at, slr]) (by rintro (_ | _) <;> rfl) ?_
      rintro (⟨⟩ | ⟨⟩) h
      · try dsimp only at h
        conv => whnf
        cases h; exact (by first | rfl | simp only [resV, mulN_one, V.fz, fzL, V.up, upL, fzL_map, fz_slr, fz_at, slr] | simp [resV, mulN_one, V.fz, fzL, V.up, upL, fzL_map, fz_slr, fz_at, slr])
      · try dsimp only at h
        conv => whnf
        cases h; exact (by first | rfl | simp only [resV, mulN_one, V.fz, fzL, V.up, upL, fzL_map, fz_slr, fz_at, slr] | simp [resV, mulN_one, V.fz, fzL, V.up, upL, fzL_map, fz_slr, fz_at, slr])

noncomputable def F_laws_szOp (a0 : SOp) (left0 : Int) : Option Int :=
  (F_laws_szIntS (a0.Table) (left0)).bind fun r1 =>
  if r1 < (0 : Int) then
   some (-1 : Int)
  else
   some r1
theorem t_laws_szOp {a0 : SOp} {left0 : Int} {v : Int} (h : F_laws_szOp a0 left0 = some v) : Ret Try.prog f_laws_szOp [(rS_Op false) a0, vint left0] (vint v) := by
  refine ret_vc k_laws_szOp (Nat.le_of_ble_eq_true rfl) ?_
  unfold F_laws_szOp at h
  conv => whnf
  refine Cells.lit rfl rfl ?_
  conv => whnf
  refine CallQ.o vint (by first | rfl | simp only [mulN_one, V.fz, fzL, V.up, upL, fzL_map, fz_slr, fz_at, slr, List.cons_append, List.nil_append] | simp [mulN_one, V.fz, fzL, V.up, upL, fzL_map, fz_slr, fz_at, slr]) h (fun r h => t_laws_szIntS h) (fun r1 h => ?_)
  conv => whnf
  refine Br.od h (fun p2 h => ?_) (fun p2 h => ?_)
  · conv => whnf
    cases h; exact (by first | rfl | simp only [resV, mulN_one, V.fz, fzL, V.up, upL, fzL_map, fz_slr, fz_at, slr] | simp [resV, mulN_one, V.fz, fzL, V.up, upL, fzL_map, fz_slr, fz_at, slr])
  · conv => whnf
    cases h; exact (by first | rfl | simp only [resV, mulN_one, V.fz, fzL, V.up, upL, fzL_map, fz_slr, fz_at, slr] | simp [resV, mulN_one, V.fz, fzL, V.up, upL, fzL_map, fz_slr, fz_at, slr])

noncomputable def F_spec_l2Op_l1 (n0 : Int) (op0 : SOp) : Int → Option (Int ⊕ (Unit ⊕ Unit)) := fun x5 =>
   if x5 < (↑op0.Table.length : Int) then
    ask ((0 : Int) ≤ x5 ∧ x5 < (↑op0.Table.length : Int)) <|
    ask (InI (n0 - (1 : Int))) <|
    (F_spec_l1In (nth op0.Table x5.toNat) ((0 : Int)) (n0 - (1 : Int))).bind fun r9 =>
    if (r9) = true then
     ask (InI (x5 + (1 : Int))) <|
     some (.inl (x5 + (1 : Int)))
    else
     some (.inr (.inl ()))
   else
    some (.inr (.inr ()))
def S_spec_l2Op_l1 (n0 : Int) (op0 : SOp) : Int → St := fun s => [(5, A.val (vint s)), (3, A.val ((rP true (rS_Op false)) (op0))), (0, A.val (vint (n0)))]
def T_spec_l2Op_l1 (_n0 : Int) (_op0 : SOp) : (Unit ⊕ Unit) → Tgt
  | (.inl _s) => (Ex.ret, [4], [(4, A.val (V.bool (false)))])
  | (.inr _s) => ((Ex.exit 0), [], [])
theorem b_spec_l2Op_l1 {n0 : Int} {op0 : SOp} (x5 : Int) (o : Int ⊕ (Unit ⊕ Unit)) (h : F_spec_l2Op_l1 n0 op0 x5 = some o) : vc Try.prog c_spec_l2Op_l1 (outQ [5, 3, 0] (S_spec_l2Op_l1 n0 op0) (T_spec_l2Op_l1 n0 op0) o) (S_spec_l2Op_l1 n0 op0 x5) := by
  unfold F_spec_l2Op_l1 at h
  try dsimp only at h
  conv => whnf
  refine Cells.lit rfl rfl ?_
  conv => whnf
  refine Len.map ?_
  conv => whnf
  refine Br.od h (fun p6 h => ?_) (fun p6 h => ?_)
  · conv => whnf
    refine Cells.lit rfl rfl ?_
    conv => whnf
    refine Len.map ?_
    conv => whnf
    refine Ask.o h fun p7 h => ?_
    conv => whnf
    refine Elem.o (by first | omega | (simp only [mulN] at *; omega) | (simp [mulN] at *; omega)) ?_
    conv => whnf
    refine Ask.o h fun p8 h => ?_
    conv => whnf
    refine CallQ.o V.bool (by first | rfl | simp only [mulN_one, V.fz, fzL, V.up, upL, fzL_map, fz_slr, fz_at, slr, List.cons_append, List.nil_append] | simp [mulN_one, V.fz, fzL, V.up, upL, fzL_map, fz_slr, fz_at, slr]) h (fun r h => t_spec_l1In h) (fun r9 h => ?_)
    conv => whnf
    refine Br.flip ?_
    conv => whnf
    refine Br.ob h (fun p10 h => ?_) (fun p10 h => ?_)
    · conv => whnf
      refine Ask.o h fun p11 h => ?_
      conv => whnf
      cases h; exact ⟨rfl, rfl⟩
    · conv => whnf
      cases h; exact ⟨rfl, rfl⟩
  · conv => whnf
    cases h; exact ⟨rfl, rfl⟩

noncomputable def F_spec_l2Op (n0 : Int) (op0 : SOp) : Option Bool :=
  (((F_spec_l1In (op0.Arity) ((0 : Int)) ((3 : Int))).bind fun r1 =>
     if (r1) = true then
      (F_spec_l2Pow (n0) (op0.Arity)).bind fun r3 =>
      if (↑op0.Table.length : Int) ≠ r3 then
       some (.inl ())
      else
       some (.inr ())
     else
      some (.inl ()) : Option (Unit ⊕ Unit))).bind fun t => match t with
  | (.inl _) => (some false)
  | (.inr _) => ((loopO (F_spec_l2Op_l1 n0 op0) (0 : Int)).bind fun t => match t with
    | (.inl _) => (some false)
    | (.inr _) => (some true))
theorem t_spec_l2Op {n0 : Int} {op0 : SOp} {v : Bool} (h : F_spec_l2Op n0 op0 = some v) : Ret Try.prog f_spec_l2Op [vint n0, (rS_Op false) op0] (V.bool v) := by
  refine ret_vc k_spec_l2Op (Nat.le_of_ble_eq_true rfl) ?_
  unfold F_spec_l2Op at h
  conv => whnf
  refine CutQ.o (fun t : (Unit ⊕ Unit) => match t with | (.inl s) => (Ex.ret, [4], [(4, A.val (V.bool (false)))]) | (.inr s) => (Ex.normal, [3, 0], [(3, A.val ((rP true (rS_Op false)) (op0))), (0, A.val (vint (n0)))])) h ?_ ?_
  · intro t h
    conv => whnf
    refine Cells.lit rfl rfl ?_
    conv => whnf
    refine CallP.o V.bool (by first | rfl | simp only [mulN_one, V.fz, fzL, V.up, upL, fzL_map, fz_slr, fz_at, slr, List.cons_append, List.nil_append] | simp [mulN_one, V.fz, fzL, V.up, upL, fzL_map, fz_slr, fz_at, slr]) h (fun r h => t_spec_l1In h) (fun r1 h => ?_)
    conv => whnf
    refine Br.flip ?_
    conv => whnf
    refine Br.ob h (fun p2 h => ?_) (fun p2 h => ?_)
    · conv => whnf
      refine Br.no ?_
      conv => whnf
      refine Cells.lit rfl rfl ?_
      conv => whnf
      refine Br.no ?_
      conv => whnf
      refine Len.map ?_
      conv => whnf
      refine Br.no ?_
      conv => whnf
      refine Br.no ?_
      conv => whnf
      refine Br.no ?_
      conv => whnf
      refine Cells.lit rfl rfl ?_
      conv => whnf
      refine Br.no ?_
      conv => whnf
      refine CallP.o vint (by first | rfl | simp only [mulN_one, V.fz, fzL, V.up, upL, fzL_map, fz_slr, fz_at, slr, List.cons_append, List.nil_append] | simp [mulN_one, V.fz, fzL, V.up, upL, fzL_map, fz_slr, fz_at, slr]) h (fun r h => t_spec_l2Pow h) (fun r3 h => ?_)
      conv => whnf
      refine Br.no ?_
      conv => whnf
      refine Br.no ?_
      conv => whnf
      refine Br.on h (fun p4 h => ?_) (fun p4 h => ?_)
      · conv => whnf
        cases h; exact ⟨rfl, rfl⟩
      · conv => whnf
        cases h; exact ⟨rfl, rfl⟩
    · conv => whnf
      refine Br.yes ?_
      conv => whnf
      refine Br.yes ?_
      conv => whnf
      refine Br.yes ?_
      conv => whnf
      refine Br.yes ?_
      conv => whnf
      refine Br.yes ?_
      conv => whnf
      refine Br.yes ?_
      conv => whnf
      refine Br.yes ?_
      conv => whnf
      refine Br.yes ?_
      conv => whnf
      refine Br.yes ?_
      conv => whnf
      cases h; exact ⟨rfl, rfl⟩
  · rintro (⟨⟩ | ⟨⟩) h
    · try dsimp only at h
      conv => whnf
      cases h; exact (by first | rfl | simp only [resV, mulN_one, V.fz, fzL, V.up, upL, fzL_map, fz_slr, fz_at, slr] | simp [resV, mulN_one, V.fz, fzL, V.up, upL, fzL_map, fz_slr, fz_at, slr])
    · try dsimp only at h
      conv => whnf
      refine LoopQ.o [5, 3, 0] (S_spec_l2Op_l1 n0 op0) (T_spec_l2Op_l1 n0 op0) h (fun s o h => b_spec_l2Op_l1 s o h) (by first | rfl | simp [restrict, look, mulN_one, V.fz, fzL, V.up, upL, fzL_map, fz_slr, fz_at, slr]) (by rintro (_ | _) <;> rfl) ?_
      rintro (⟨⟩ | ⟨⟩) h
      · try dsimp only at h
        conv => whnf
        cases h; exact (by first | rfl | simp only [resV, mulN_one, V.fz, fzL, V.up, upL, fzL_map, fz_slr, fz_at, slr] | simp [resV, mulN_one, V.fz, fzL, V.up, upL, fzL_map, fz_slr, fz_at, slr])
      · try dsimp only at h
        conv => whnf
        cases h; exact (by first | rfl | simp only [resV, mulN_one, V.fz, fzL, V.up, upL, fzL_map, fz_slr, fz_at, slr] | simp [resV, mulN_one, V.fz, fzL, V.up, upL, fzL_map, fz_slr, fz_at, slr])

noncomputable def F_laws_toOp (a0 : SOp) : Option SOp :=
  (F_laws_toIntS (a0.Table)).bind fun r1 =>
  some ({ Arity := a0.Arity, Table := r1 })
theorem t_laws_toOp {a0 : SOp} {v : SOp} (h : F_laws_toOp a0 = some v) : Ret Try.prog f_laws_toOp [(rS_Op false) a0] ((rS_Op true) v) := by
  refine ret_vc k_laws_toOp (Nat.le_of_ble_eq_true rfl) ?_
  unfold F_laws_toOp at h
  conv => whnf
  refine Cells.lit rfl rfl ?_
  conv => whnf
  refine SetKids.lit rfl ?_
  conv => whnf
  refine Cells.lit rfl rfl ?_
  conv => whnf
  refine CallQ.o (slr true 1 vint) (by first | rfl | simp only [mulN_one, V.fz, fzL, V.up, upL, fzL_map, fz_slr, fz_at, slr, List.cons_append, List.nil_append] | simp [mulN_one, V.fz, fzL, V.up, upL, fzL_map, fz_slr, fz_at, slr]) h (fun r h => t_laws_toIntS h) (fun r1 h => ?_)
  conv => whnf
  refine SetKids.lit rfl ?_
  conv => whnf
  refine Cells.lit rfl rfl ?_
  conv => whnf
  refine SetKids.lit rfl ?_
  conv => whnf
  cases h; exact (by first | rfl | simp only [resV, mulN_one, V.fz, fzL, V.up, upL, fzL_map, fz_slr, fz_at, slr] | simp [resV, mulN_one, V.fz, fzL, V.up, upL, fzL_map, fz_slr, fz_at, slr])

noncomputable def F_impl_isOp (f0 : SOp) (n0 : Int) : Option Bool :=
  if f0.Arity ≥ (0 : Int) then
   if f0.Arity ≤ (3 : Int) then
    (F_impl_power (n0) (f0.Arity)).bind fun r3 =>
    if (↑f0.Table.length : Int) = r3 then
     (F_impl_inSize (f0.Table) (n0)).bind fun r5 =>
     some r5
    else
     some false
   else
    some false
  else
   some false
theorem t_impl_isOp {f0 : SOp} {n0 : Int} {v : Bool} (h : F_impl_isOp f0 n0 = some v) : Ret Try.prog f_impl_isOp [(rS_Op false) f0, vint n0] (V.bool v) := by
  refine ret_vc k_impl_isOp (Nat.le_of_ble_eq_true rfl) ?_
  unfold F_impl_isOp at h
  conv => whnf
  refine Cells.lit rfl rfl ?_
  conv => whnf
  refine Br.od h (fun p1 h => ?_) (fun p1 h => ?_)
  · conv => whnf
    refine Br.yes ?_
    conv => whnf
    refine Cells.lit rfl rfl ?_
    conv => whnf
    refine Br.yes ?_
    conv => whnf
    refine Br.yes ?_
    conv => whnf
    refine Br.od h (fun p2 h => ?_) (fun p2 h => ?_)
    · conv => whnf
      refine Br.yes ?_
      conv => whnf
      refine Cells.lit rfl rfl ?_
      conv => whnf
      refine Br.yes ?_
      conv => whnf
      refine Len.map ?_
      conv => whnf
      refine Br.yes ?_
      conv => whnf
      refine Br.yes ?_
      conv => whnf
      refine Br.yes ?_
      conv => whnf
      refine Cells.lit rfl rfl ?_
      conv => whnf
      refine Br.yes ?_
      conv => whnf
      refine CallP.o vint (by first | rfl | simp only [mulN_one, V.fz, fzL, V.up, upL, fzL_map, fz_slr, fz_at, slr, List.cons_append, List.nil_append] | simp [mulN_one, V.fz, fzL, V.up, upL, fzL_map, fz_slr, fz_at, slr]) h (fun r h => t_impl_power h) (fun r3 h => ?_)
      conv => whnf
      refine Br.yes ?_
      conv => whnf
      refine Br.yes ?_
      conv => whnf
      refine Br.oe h (fun p4 h => ?_) (fun p4 h => ?_)
      · conv => whnf
        refine Br.yes ?_
        conv => whnf
        refine Cells.lit rfl rfl ?_
        conv => whnf
        refine Br.yes ?_
        conv => whnf
        refine Br.yes ?_
        conv => whnf
        refine CallQ.o V.bool (by first | rfl | simp only [mulN_one, V.fz, fzL, V.up, upL, fzL_map, fz_slr, fz_at, slr, List.cons_append, List.nil_append] | simp [mulN_one, V.fz, fzL, V.up, upL, fzL_map, fz_slr, fz_at, slr]) h (fun r h => t_impl_inSize h) (fun r5 h => ?_)
        conv => whnf
        refine Br.yes ?_
        conv => whnf
        cases h; exact (by first | rfl | simp only [resV, mulN_one, V.fz, fzL, V.up, upL, fzL_map, fz_slr, fz_at, slr] | simp [resV, mulN_one, V.fz, fzL, V.up, upL, fzL_map, fz_slr, fz_at, slr])
      · conv => whnf
        refine Br.no ?_
        conv => whnf
        refine Br.no ?_
        conv => whnf
        refine Br.no ?_
        conv => whnf
        refine Br.no ?_
        conv => whnf
        cases h; exact (by first | rfl | simp only [resV, mulN_one, V.fz, fzL, V.up, upL, fzL_map, fz_slr, fz_at, slr] | simp [resV, mulN_one, V.fz, fzL, V.up, upL, fzL_map, fz_slr, fz_at, slr])
    · conv => whnf
      refine Br.no ?_
      conv => whnf
      refine Br.no ?_
      conv => whnf
      refine Br.no ?_
      conv => whnf
      refine Br.no ?_
      conv => whnf
      refine Br.no ?_
      conv => whnf
      refine Br.no ?_
      conv => whnf
      refine Br.no ?_
      conv => whnf
      refine Br.no ?_
      conv => whnf
      refine Br.no ?_
      conv => whnf
      refine Br.no ?_
      conv => whnf
      refine Br.no ?_
      conv => whnf
      refine Br.no ?_
      conv => whnf
      refine Br.no ?_
      conv => whnf
      cases h; exact (by first | rfl | simp only [resV, mulN_one, V.fz, fzL, V.up, upL, fzL_map, fz_slr, fz_at, slr] | simp [resV, mulN_one, V.fz, fzL, V.up, upL, fzL_map, fz_slr, fz_at, slr])
  · conv => whnf
    refine Br.no ?_
    conv => whnf
    refine Br.no ?_
    conv => whnf
    refine Br.no ?_
    conv => whnf
    refine Br.no ?_
    conv => whnf
    refine Br.no ?_
    conv => whnf
    refine Br.no ?_
    conv => whnf
    refine Br.no ?_
    conv => whnf
    refine Br.no ?_
    conv => whnf
    refine Br.no ?_
    conv => whnf
    refine Br.no ?_
    conv => whnf
    refine Br.no ?_
    conv => whnf
    refine Br.no ?_
    conv => whnf
    refine Br.no ?_
    conv => whnf
    refine Br.no ?_
    conv => whnf
    refine Br.no ?_
    conv => whnf
    refine Br.no ?_
    conv => whnf
    refine Br.no ?_
    conv => whnf
    cases h; exact (by first | rfl | simp only [resV, mulN_one, V.fz, fzL, V.up, upL, fzL_map, fz_slr, fz_at, slr] | simp [resV, mulN_one, V.fz, fzL, V.up, upL, fzL_map, fz_slr, fz_at, slr])

noncomputable def F_laws_eqOp (a0 : SOp) (b0 : SOp) : Option Bool :=
  if a0.Arity ≠ b0.Arity then
   some false
  else
   (F_laws_eqIntS (a0.Table) (b0.Table)).bind fun r2 =>
   if (r2) = true then
    some true
   else
    some false
theorem t_laws_eqOp {a0 : SOp} {b0 : SOp} {v : Bool} (h : F_laws_eqOp a0 b0 = some v) : Ret Try.prog f_laws_eqOp [(rS_Op false) a0, (rS_Op false) b0] (V.bool v) := by
  refine ret_vc k_laws_eqOp (Nat.le_of_ble_eq_true rfl) ?_
  unfold F_laws_eqOp at h
  conv => whnf
  refine Cells.lit rfl rfl ?_
  conv => whnf
  refine Cells.lit rfl rfl ?_
  conv => whnf
  refine Br.on h (fun p1 h => ?_) (fun p1 h => ?_)
  · conv => whnf
    cases h; exact (by first | rfl | simp only [resV, mulN_one, V.fz, fzL, V.up, upL, fzL_map, fz_slr, fz_at, slr] | simp [resV, mulN_one, V.fz, fzL, V.up, upL, fzL_map, fz_slr, fz_at, slr])
  · conv => whnf
    refine Cells.lit rfl rfl ?_
    conv => whnf
    refine Cells.lit rfl rfl ?_
    conv => whnf
    refine CallQ.o V.bool (by first | rfl | simp only [mulN_one, V.fz, fzL, V.up, upL, fzL_map, fz_slr, fz_at, slr, List.cons_append, List.nil_append] | simp [mulN_one, V.fz, fzL, V.up, upL, fzL_map, fz_slr, fz_at, slr]) h (fun r h => t_laws_eqIntS h) (fun r2 h => ?_)
    conv => whnf
    refine Br.flip ?_
    conv => whnf
    refine Br.ob h (fun p3 h => ?_) (fun p3 h => ?_)
    · conv => whnf
      cases h; exact (by first | rfl | simp only [resV, mulN_one, V.fz, fzL, V.up, upL, fzL_map, fz_slr, fz_at, slr] | simp [resV, mulN_one, V.fz, fzL, V.up, upL, fzL_map, fz_slr, fz_at, slr])
    · conv => whnf
      cases h; exact (by first | rfl | simp only [resV, mulN_one, V.fz, fzL, V.up, upL, fzL_map, fz_slr, fz_at, slr] | simp [resV, mulN_one, V.fz, fzL, V.up, upL, fzL_map, fz_slr, fz_at, slr])

noncomputable def F_spec_l1Rising_l1 (l0 : List Int) (lo0 : Int) (hi0 : Int) : Int → Option (Int ⊕ (Unit ⊕ Unit)) := fun x7 =>
   if x7 < (↑l0.length : Int) then
    ask ((0 : Int) ≤ x7 ∧ x7 < (↑l0.length : Int)) <|
    (F_spec_l1In (nth l0 x7.toNat) (lo0) (hi0)).bind fun r3 =>
    if (r3) = true then
     if x7 > (0 : Int) then
      ask (InI (x7 - (1 : Int))) <|
      ask ((0 : Int) ≤ x7 - (1 : Int) ∧ x7 - (1 : Int) < (↑l0.length : Int)) <|
      ask ((0 : Int) ≤ x7 ∧ x7 < (↑l0.length : Int)) <|
      if nth l0 (x7 - (1 : Int)).toNat ≥ nth l0 x7.toNat then
       some (.inr (.inl ()))
      else
       ask (InI (x7 + (1 : Int))) <|
       some (.inl (x7 + (1 : Int)))
     else
      ask (InI (x7 + (1 : Int))) <|
      some (.inl (x7 + (1 : Int)))
    else
     some (.inr (.inl ()))
   else
    some (.inr (.inr ()))
def S_spec_l1Rising_l1 (l0 : List Int) (lo0 : Int) (hi0 : Int) : Int → St := fun s => [(7, A.val (vint s)), (0, A.val ((slr false 1 vint) (l0))), (1, A.val (vint (lo0))), (2, A.val (vint (hi0)))]
def T_spec_l1Rising_l1 (_l0 : List Int) (_lo0 : Int) (_hi0 : Int) : (Unit ⊕ Unit) → Tgt
  | (.inl _s) => (Ex.ret, [6], [(6, A.val (V.bool (false)))])
  | (.inr _s) => ((Ex.exit 0), [], [])
theorem b_spec_l1Rising_l1 {l0 : List Int} {lo0 : Int} {hi0 : Int} (x7 : Int) (o : Int ⊕ (Unit ⊕ Unit)) (h : F_spec_l1Rising_l1 l0 lo0 hi0 x7 = some o) : vc Try.prog c_spec_l1Rising_l1 (outQ [7, 0, 1, 2] (S_spec_l1Rising_l1 l0 lo0 hi0) (T_spec_l1Rising_l1 l0 lo0 hi0) o) (S_spec_l1Rising_l1 l0 lo0 hi0 x7) := by
  unfold F_spec_l1Rising_l1 at h
  try dsimp only at h
  conv => whnf
  refine Len.map ?_
  conv => whnf
  refine Br.od h (fun p1 h => ?_) (fun p1 h => ?_)
  · conv => whnf
    refine Len.map ?_
    conv => whnf
    refine Ask.o h fun p2 h => ?_
    conv => whnf
    refine Elem.o (by first | omega | (simp only [mulN] at *; omega) | (simp [mulN] at *; omega)) ?_
    conv => whnf
    refine CallP.o V.bool (by first | rfl | simp only [mulN_one, V.fz, fzL, V.up, upL, fzL_map, fz_slr, fz_at, slr, List.cons_append, List.nil_append] | simp [mulN_one, V.fz, fzL, V.up, upL, fzL_map, fz_slr, fz_at, slr]) h (fun r h => t_spec_l1In h) (fun r3 h => ?_)
    conv => whnf
    refine Br.flip ?_
    conv => whnf
    refine Br.ob h (fun p4 h => ?_) (fun p4 h => ?_)
    · conv => whnf
      refine Br.no ?_
      conv => whnf
      refine Br.no ?_
      conv => whnf
      refine Br.od h (fun p5 h => ?_) (fun p5 h => ?_)
      · conv => whnf
        refine Br.yes ?_
        conv => whnf
        refine Br.yes ?_
        conv => whnf
        refine Ask.o h fun p6 h => ?_
        conv => whnf
        refine Br.yes ?_
        conv => whnf
        refine Len.map ?_
        conv => whnf
        refine Ask.o h fun p7 h => ?_
        conv => whnf
        refine Elem.o (by first | omega | (simp only [mulN] at *; omega) | (simp [mulN] at *; omega)) ?_
        conv => whnf
        refine Br.yes ?_
        conv => whnf
        refine Br.yes ?_
        conv => whnf
        refine Br.yes ?_
        conv => whnf
        refine Br.yes ?_
        conv => whnf
        refine Len.map ?_
        conv => whnf
        refine Ask.o h fun p8 h => ?_
        conv => whnf
        refine Elem.o (by first | omega | (simp only [mulN] at *; omega) | (simp [mulN] at *; omega)) ?_
        conv => whnf
        refine Br.yes ?_
        conv => whnf
        refine Br.yes ?_
        conv => whnf
        refine Br.no ?_
        conv => whnf
        refine Br.yes ?_
        conv => whnf
        refine Br.no ?_
        conv => whnf
        refine Br.od h (fun p9 h => ?_) (fun p9 h => ?_)
        · conv => whnf
          cases h; exact ⟨rfl, rfl⟩
        · conv => whnf
          refine Ask.o h fun p10 h => ?_
          conv => whnf
          cases h; exact ⟨rfl, rfl⟩
      · conv => whnf
        refine Br.no ?_
        conv => whnf
        refine Br.no ?_
        conv => whnf
        refine Br.no ?_
        conv => whnf
        refine Br.no ?_
        conv => whnf
        refine Br.no ?_
        conv => whnf
        refine Br.no ?_
        conv => whnf
        refine Br.no ?_
        conv => whnf
        refine Br.no ?_
        conv => whnf
        refine Br.no ?_
        conv => whnf
        refine Br.no ?_
        conv => whnf
        refine Br.no ?_
        conv => whnf
        refine Br.no ?_
        conv => whnf
        refine Br.no ?_
        conv => whnf
        refine Ask.o h fun p11 h => ?_
        conv => whnf
        cases h; exact ⟨rfl, rfl⟩
    · conv => whnf
      refine Br.yes ?_
      conv => whnf
      refine Br.yes ?_
      conv => whnf
      refine Br.yes ?_
      conv => whnf
      refine Br.yes ?_
      conv => whnf
      refine Br.yes ?_
      conv => whnf
      cases h; exact ⟨rfl, rfl⟩
  · conv => whnf
    cases h; exact ⟨rfl, rfl⟩

noncomputable def F_spec_l1Rising (l0 : (List Int)) (lo0 : Int) (hi0 : Int) : Option Bool :=
  (loopO (F_spec_l1Rising_l1 l0 lo0 hi0) (0 : Int)).bind fun t => match t with
  | (.inl _) => (some false)
  | (.inr _) => (some true)
theorem t_spec_l1Rising {l0 : (List Int)} {lo0 : Int} {hi0 : Int} {v : Bool} (h : F_spec_l1Rising l0 lo0 hi0 = some v) : Ret Try.prog f_spec_l1Rising [(slr false 1 vint) l0, vint lo0, vint hi0] (V.bool v) := by
  refine ret_vc k_spec_l1Rising (Nat.le_of_ble_eq_true rfl) ?_
  unfold F_spec_l1Rising at h
  conv => whnf
  refine LoopQ.o [7, 0, 1, 2] (S_spec_l1Rising_l1 l0 lo0 hi0) (T_spec_l1Rising_l1 l0 lo0 hi0) h (fun s o h => b_spec_l1Rising_l1 s o h) (by first | rfl | simp [restrict, look, mulN_one, V.fz, fzL, V.up, upL, fzL_map, fz_slr, fz_at, slr]) (by rintro (_ | _) <;> rfl) ?_
  rintro (⟨⟩ | ⟨⟩) h
  · try dsimp only at h
    conv => whnf
    cases h; exact (by first | rfl | simp only [resV, mulN_one, V.fz, fzL, V.up, upL, fzL_map, fz_slr, fz_at, slr] | simp [resV, mulN_one, V.fz, fzL, V.up, upL, fzL_map, fz_slr, fz_at, slr])
  · try dsimp only at h
    conv => whnf
    cases h; exact (by first | rfl | simp only [resV, mulN_one, V.fz, fzL, V.up, upL, fzL_map, fz_slr, fz_at, slr] | simp [resV, mulN_one, V.fz, fzL, V.up, upL, fzL_map, fz_slr, fz_at, slr])

noncomputable def F_spec_l5Within_l1 (x0 : List Int) (y0 : List Int) : Int → Option (Int ⊕ (Unit ⊕ Unit)) := fun x5 =>
   if x5 < (↑x0.length : Int) then
    ask ((0 : Int) ≤ x5 ∧ x5 < (↑x0.length : Int)) <|
    (F_spec_l1Has (y0) (nth x0 x5.toNat)).bind fun r3 =>
    if (r3) = true then
     ask (InI (x5 + (1 : Int))) <|
     some (.inl (x5 + (1 : Int)))
    else
     some (.inr (.inl ()))
   else
    some (.inr (.inr ()))
def S_spec_l5Within_l1 (x0 : List Int) (y0 : List Int) : Int → St := fun s => [(5, A.val (vint s)), (0, A.val ((slr false 1 vint) (x0))), (1, A.val ((slr false 1 vint) (y0)))]
def T_spec_l5Within_l1 (_x0 : List Int) (_y0 : List Int) : (Unit ⊕ Unit) → Tgt
  | (.inl _s) => (Ex.ret, [4], [(4, A.val (V.bool (false)))])
  | (.inr _s) => ((Ex.exit 0), [], [])
theorem b_spec_l5Within_l1 {x0 : List Int} {y0 : List Int} (x5 : Int) (o : Int ⊕ (Unit ⊕ Unit)) (h : F_spec_l5Within_l1 x0 y0 x5 = some o) : vc Try.prog c_spec_l5Within_l1 (outQ [5, 0, 1] (S_spec_l5Within_l1 x0 y0) (T_spec_l5Within_l1 x0 y0) o) (S_spec_l5Within_l1 x0 y0 x5) := by
  unfold F_spec_l5Within_l1 at h
  try dsimp only at h
  conv => whnf
  refine Len.map ?_
  conv => whnf
  refine Br.od h (fun p1 h => ?_) (fun p1 h => ?_)
  · conv => whnf
    refine Len.map ?_
    conv => whnf
    refine Ask.o h fun p2 h => ?_
    conv => whnf
    refine Elem.o (by first | omega | (simp only [mulN] at *; omega) | (simp [mulN] at *; omega)) ?_
    conv => whnf
    refine CallQ.o V.bool (by first | rfl | simp only [mulN_one, V.fz, fzL, V.up, upL, fzL_map, fz_slr, fz_at, slr, List.cons_append, List.nil_append] | simp [mulN_one, V.fz, fzL, V.up, upL, fzL_map, fz_slr, fz_at, slr]) h (fun r h => t_spec_l1Has h) (fun r3 h => ?_)
    conv => whnf
    refine Br.flip ?_
    conv => whnf
    refine Br.ob h (fun p4 h => ?_) (fun p4 h => ?_)
    · conv => whnf
      refine Ask.o h fun p5 h => ?_
      conv => whnf
      cases h; exact ⟨rfl, rfl⟩
    · conv => whnf
      cases h; exact ⟨rfl, rfl⟩
  · conv => whnf
    cases h; exact ⟨rfl, rfl⟩

noncomputable def F_spec_l5Within (x0 : (List Int)) (y0 : (List Int)) : Option Bool :=
  (loopO (F_spec_l5Within_l1 x0 y0) (0 : Int)).bind fun t => match t with
  | (.inl _) => (some false)
  | (.inr _) => (some true)
theorem t_spec_l5Within {x0 : (List Int)} {y0 : (List Int)} {v : Bool} (h : F_spec_l5Within x0 y0 = some v) : Ret Try.prog f_spec_l5Within [(slr false 1 vint) x0, (slr false 1 vint) y0] (V.bool v) := by
  refine ret_vc k_spec_l5Within (Nat.le_of_ble_eq_true rfl) ?_
  unfold F_spec_l5Within at h
  conv => whnf
  refine LoopQ.o [5, 0, 1] (S_spec_l5Within_l1 x0 y0) (T_spec_l5Within_l1 x0 y0) h (fun s o h => b_spec_l5Within_l1 s o h) (by first | rfl | simp [restrict, look, mulN_one, V.fz, fzL, V.up, upL, fzL_map, fz_slr, fz_at, slr]) (by rintro (_ | _) <;> rfl) ?_
  rintro (⟨⟩ | ⟨⟩) h
  · try dsimp only at h
    conv => whnf
    cases h; exact (by first | rfl | simp only [resV, mulN_one, V.fz, fzL, V.up, upL, fzL_map, fz_slr, fz_at, slr] | simp [resV, mulN_one, V.fz, fzL, V.up, upL, fzL_map, fz_slr, fz_at, slr])
  · try dsimp only at h
    conv => whnf
    cases h; exact (by first | rfl | simp only [resV, mulN_one, V.fz, fzL, V.up, upL, fzL_map, fz_slr, fz_at, slr] | simp [resV, mulN_one, V.fz, fzL, V.up, upL, fzL_map, fz_slr, fz_at, slr])

end Go.Proofs.Ytdodfnbbfkcgnaa.Ax
