/-
  What the functions compute, as functions on plain data, and that the program does compute it; written by program.
-/
import Derived.Test.YtoikbcagaanhgaaCode
import Derived.Test.YtoikbcagaanhgaaG1
import Derived.Test.YtoikbcagaanhgaaG2
import Derived.Test.YtoikbcagaanhgaaG3
import Derived.Test.YtoikbcagaanhgaaG4
namespace Go.Proofs.Ytoikbcagaanhgaa.Ax
open Go
set_option maxRecDepth 100000
set_option maxHeartbeats 4000000

noncomputable def F_impl_sameAlgebra_l1 (a0 : SAlgebra) (b0 : SAlgebra) : Int → Option (Int ⊕ (Unit ⊕ Unit)) := fun x24 =>
 if x24 < (↑a0.Ops.length : Int) then
 ask ((0 : Int) ≤ x24 ∧ x24 < (↑a0.Ops.length : Int)) <|
 ask ((0 : Int) ≤ x24 ∧ x24 < (↑b0.Ops.length : Int)) <|
 if (nth a0.Ops x24.toNat).Arity ≠ (nth b0.Ops x24.toNat).Arity then
 some (.inr (.inl ()))
 else
 ask ((0 : Int) ≤ x24 ∧ x24 < (↑b0.Ops.length : Int)) <|
 (F_impl_sameList ((nth a0.Ops x24.toNat).Table) ((nth b0.Ops x24.toNat).Table)).bind fun r9 =>
 if (r9) = true then
 ask (InI (x24 + (1 : Int))) <|
 some (.inl (x24 + (1 : Int)))
 else
 some (.inr (.inl ()))
 else
 some (.inr (.inr ()))
def S_impl_sameAlgebra_l1 (a0 : SAlgebra) (b0 : SAlgebra) : Int → St := fun s => [(24, A.val (vint s)), (23, A.val (vint ((↑a0.Ops.length : Int)))), (22, A.val ((slr false 2 (rS_Op false)) (a0.Ops))), (3, A.val ((rP true (rS_Algebra false)) (b0)))]
def T_impl_sameAlgebra_l1 (_a0 : SAlgebra) (_b0 : SAlgebra) : (Unit ⊕ Unit) → Tgt
 | (.inl _s) => (Ex.ret, [4], [(4, A.val (V.bool (false)))])
 | (.inr _s) => ((Ex.exit 0), [], [])
theorem b_impl_sameAlgebra_l1 {a0 : SAlgebra} {b0 : SAlgebra} (x24 : Int) (o : Int ⊕ (Unit ⊕ Unit)) (h : F_impl_sameAlgebra_l1 a0 b0 x24 = some o) : vc Try.prog c_impl_sameAlgebra_l1 (outQ [24, 23, 22, 3] (S_impl_sameAlgebra_l1 a0 b0) (T_impl_sameAlgebra_l1 a0 b0) o) (S_impl_sameAlgebra_l1 a0 b0 x24) := by
  unfold F_impl_sameAlgebra_l1 at h
  try dsimp only at h
  refine Br.od h (fun p4 h => ?_) (fun p4 h => ?_)
  · refine Len.map ?_
    refine Ask.o h fun p5 h => ?_
    refine Elem.o (by first | omega | (simp [mulN] at *; omega)) ?_
    refine SetKids.lit rfl ?_
    refine Cells.lit rfl rfl ?_
    refine Cells.lit rfl rfl ?_
    refine Len.map ?_
    refine Ask.o h fun p6 h => ?_
    refine Elem.o (by first | omega | (simp [mulN] at *; omega)) ?_
    refine Br.on h (fun p7 h => ?_) (fun p7 h => ?_)
    · refine Br.yes ?_
      refine Br.yes ?_
      refine Br.yes ?_
      refine Br.yes ?_
      refine Br.yes ?_
      refine Br.yes ?_
      refine Br.yes ?_
      refine Br.yes ?_
      refine Br.yes ?_
      refine Br.yes ?_
      refine Br.yes ?_
      cases h; exact ⟨rfl, rfl⟩
    refine Br.no ?_
    refine Cells.lit rfl rfl ?_
    refine Br.no ?_
    refine Br.no ?_
    refine Cells.lit rfl rfl ?_
    refine Br.no ?_
    refine Br.no ?_
    refine Len.map ?_
    refine Ask.o h fun p8 h => ?_
    refine Elem.o (by first | omega | (simp [mulN] at *; omega)) ?_
    refine Br.no ?_
    refine Br.no ?_
    refine Br.no ?_
    refine CallQ.o V.bool (by rfl) h (fun r h => t_impl_sameList h) (fun r9 h => ?_)
    refine Br.no ?_
    refine Br.no ?_
    refine Br.flip ?_
    refine Br.ob h (fun p10 h => ?_) (fun p10 h => ?_)
    · refine Ask.o h fun p11 h => ?_
      cases h; exact ⟨rfl, rfl⟩
    cases h; exact ⟨rfl, rfl⟩
  cases h; exact ⟨rfl, rfl⟩

noncomputable def F_impl_sameAlgebra (a0 : SAlgebra) (b0 : SAlgebra) : Option Bool :=
 ((if a0.Size ≠ b0.Size then
 some (.inl ())
 else
 if (↑a0.Ops.length : Int) ≠ (↑b0.Ops.length : Int) then
 some (.inl ())
 else
 some (.inr ()) : Option (Unit ⊕ Unit))).bind fun t => match t with
 | (.inl _) => (some false)
 | (.inr _) => ((loopO (F_impl_sameAlgebra_l1 a0 b0) (0 : Int)).bind fun t => match t with
 | (.inl _) => (some false)
 | (.inr _) => (some true))
theorem t_impl_sameAlgebra {a0 : SAlgebra} {b0 : SAlgebra} {v : Bool} (h : F_impl_sameAlgebra a0 b0 = some v) : Ret Try.prog f_impl_sameAlgebra [(rS_Algebra false) a0, (rS_Algebra false) b0] (V.bool v) := by
  refine ret_vc k_impl_sameAlgebra (Nat.le_of_ble_eq_true rfl) ?_
  unfold F_impl_sameAlgebra at h
  refine CutQ.o (fun t : (Unit ⊕ Unit) => match t with | (.inl s) => (Ex.ret, [4], [(4, A.val (V.bool (false)))]) | (.inr s) => (Ex.normal, [3, 2], [(3, A.val ((rP true (rS_Algebra false)) (b0))), (2, A.val ((rP true (rS_Algebra false)) (a0)))])) h ?_ ?_
  · intro t h
    refine Cells.lit rfl rfl ?_
    refine Cells.lit rfl rfl ?_
    refine Br.on h (fun p1 h => ?_) (fun p1 h => ?_)
    · refine Br.yes ?_
      refine Br.yes ?_
      refine Br.yes ?_
      refine Br.yes ?_
      refine Br.yes ?_
      refine Br.yes ?_
      refine Br.yes ?_
      refine Br.yes ?_
      cases h; exact ⟨rfl, rfl⟩
    refine Br.no ?_
    refine Cells.lit rfl rfl ?_
    refine Br.no ?_
    refine Len.map ?_
    refine Br.no ?_
    refine Br.no ?_
    refine Cells.lit rfl rfl ?_
    refine Br.no ?_
    refine Len.map ?_
    refine Br.no ?_
    refine Br.no ?_
    refine Br.on h (fun p2 h => ?_) (fun p2 h => ?_)
    · cases h; exact ⟨rfl, rfl⟩
    cases h; exact ⟨rfl, rfl⟩
  rintro (⟨⟩ | ⟨⟩) h
  · try dsimp only at h
    cases h; exact (by rfl)
  try dsimp only at h
  refine Cells.lit rfl rfl ?_
  refine Len.map ?_
  refine LoopQ.o [24, 23, 22, 3] (S_impl_sameAlgebra_l1 a0 b0) (T_impl_sameAlgebra_l1 a0 b0) h (fun s o h => b_impl_sameAlgebra_l1 s o h) (by first | rfl | simp [restrict, look, mulN_one, V.fz, fzL, V.up, upL, fzL_map, fz_slr, fz_at, slr]) (by rintro (_ | _) <;> rfl) ?_
  rintro (⟨⟩ | ⟨⟩) h
  · try dsimp only at h
    cases h; exact (by rfl)
  try dsimp only at h
  cases h; exact (by rfl)

noncomputable def F_impl_orderOf_l1 (p0 : SPoset) (x20 : Int) : (Int × (List (List Bool))) → Option ((Int × (List (List Bool))) ⊕ (List (List Bool))) := fun (x36, x5') =>
 if x36 < (↑(nth p0.Below x20.toNat).length : Int) then
 ask ((0 : Int) ≤ x36 ∧ x36 < (↑(nth p0.Below x20.toNat).length : Int)) <|
 ask ((0 : Int) ≤ nth (nth p0.Below x20.toNat) x36.toNat ∧ nth (nth p0.Below x20.toNat) x36.toNat < (↑x5'.length : Int)) <|
 ask ((0 : Int) ≤ x20 ∧ x20 < (↑(nth x5' (nth (nth p0.Below x20.toNat) x36.toNat).toNat).length : Int)) <|
 ask (InI (x36 + (1 : Int))) <|
 some (.inl (x36 + (1 : Int), x5'.set (nth (nth p0.Below x20.toNat) x36.toNat).toNat ((nth x5' (nth (nth p0.Below x20.toNat) x36.toNat).toNat).set x20.toNat true)))
 else
 some (.inr x5')
def S_impl_orderOf_l1 (p0 : SPoset) (x20 : Int) : (Int × (List (List Bool))) → St := fun s => [(36, A.val (vint s.1)), (35, A.val (vint ((↑(nth p0.Below x20.toNat).length : Int)))), (34, A.val ((slr false 1 vint) (nth p0.Below x20.toNat))), (6, A.val (vint (x20))), (20, A.val (vint (x20))), (19, A.val (vint ((↑p0.Below.length : Int)))), (18, A.val ((slr false 1 (slr false 1 vint)) (p0.Below))), (5, A.val ((slr true 1 (slr true 1 V.bool)) s.2)), (4, A.val (vint ((↑p0.Below.length : Int))))]
def T_impl_orderOf_l1 (p0 : SPoset) (x20 : Int) : (List (List Bool)) → Tgt
 | s => ((Ex.exit 2), [20, 19, 18, 5, 4], [(20, A.val (vint (x20))), (19, A.val (vint ((↑p0.Below.length : Int)))), (18, A.val ((slr false 1 (slr false 1 vint)) (p0.Below))), (5, A.val ((slr true 1 (slr true 1 V.bool)) s)), (4, A.val (vint ((↑p0.Below.length : Int))))])
theorem b_impl_orderOf_l1 {p0 : SPoset} {x20 : Int} (s : (Int × (List (List Bool)))) (o : (Int × (List (List Bool))) ⊕ (List (List Bool))) (h : F_impl_orderOf_l1 p0 x20 s = some o) : vc Try.prog c_impl_orderOf_l1 (outQ [36, 35, 34, 6, 20, 19, 18, 5, 4] (S_impl_orderOf_l1 p0 x20) (T_impl_orderOf_l1 p0 x20) o) (S_impl_orderOf_l1 p0 x20 s) := by
  obtain ⟨x36, x5'⟩ := s
  unfold F_impl_orderOf_l1 at h
  try dsimp only at h
  refine Br.od h (fun p10 h => ?_) (fun p10 h => ?_)
  · refine Len.map ?_
    refine Ask.o h fun p11 h => ?_
    refine Elem.o (by first | omega | (simp [mulN] at *; omega)) ?_
    refine Len.map ?_
    refine Ask.o h fun p12 h => ?_
    refine Cells.one (fun _ => ⟨rfl, rfl⟩) (by first | omega | (simp [mulN] at *; omega)) ?_
    refine Kid.one (fun _ => ⟨rfl, rfl⟩) (by first | omega | (simp [mulN] at *; omega)) ?_
    refine Len.map ?_
    refine Ask.o h fun p13 h => ?_
    refine Kid.one (fun _ => ⟨rfl, rfl⟩) (by first | omega | (simp [mulN] at *; omega)) ?_
    refine SetKids.one (fun _ => ⟨rfl, rfl⟩) (true) (by rfl) (by first | omega | (simp [mulN] at *; omega)) ?_
    refine Kid.one (fun _ => ⟨rfl, rfl⟩) (by first | omega | (simp [mulN] at *; omega)) ?_
    refine SetKids.one (fun _ => ⟨rfl, rfl⟩) ((nth x5' (nth (nth p0.Below x20.toNat) x36.toNat).toNat).set x20.toNat true) (by rfl) (by first | omega | (simp [mulN] at *; omega)) ?_
    refine Ask.o h fun p14 h => ?_
    cases h; exact ⟨rfl, rfl⟩
  cases h; exact ⟨rfl, rfl⟩

noncomputable def F_impl_orderOf_l2 (p0 : SPoset) : (Int × (List (List Bool))) → Option ((Int × (List (List Bool))) ⊕ (Unit ⊕ (List (List Bool)))) := fun (x20, x5) =>
 if x20 < (↑p0.Below.length : Int) then
 ask ((0 : Int) ≤ x20 ∧ x20 < (↑p0.Below.length : Int)) <|
 (((F_impl_rises (nth p0.Below x20.toNat)).bind fun r5 =>
 if (r5) = true then
 (F_impl_inSize (nth p0.Below x20.toNat) ((↑p0.Below.length : Int))).bind fun r7 =>
 if (r7) = true then
 some (.inl ())
 else
 some (.inr ())
 else
 some (.inr ()) : Option (Unit ⊕ Unit))).bind fun t => match t with
 | (.inl _) => ((loopO (F_impl_orderOf_l1 p0 x20) ((0 : Int), x5)).bind fun q15_5 =>
 ask (InI (x20 + (1 : Int))) <|
 some (.inl (x20 + (1 : Int), q15_5)))
 | (.inr _) => (some (.inr (.inl ())))
 else
 some (.inr (.inr x5))
def S_impl_orderOf_l2 (p0 : SPoset) : (Int × (List (List Bool))) → St := fun s => [(20, A.val (vint s.1)), (19, A.val (vint ((↑p0.Below.length : Int)))), (18, A.val ((slr false 1 (slr false 1 vint)) (p0.Below))), (5, A.val ((slr true 1 (slr true 1 V.bool)) s.2)), (4, A.val (vint ((↑p0.Below.length : Int))))]
def T_impl_orderOf_l2 (_p0 : SPoset) : (Unit ⊕ (List (List Bool))) → Tgt
 | (.inl _s) => (Ex.ret, [3, 2], [(3, A.val (V.bool (false))), (2, A.val ((slr true 1 (slr true 1 V.bool)) (nilL (List Bool))))])
 | (.inr s) => ((Ex.exit 0), [5], [(5, A.val ((slr true 1 (slr true 1 V.bool)) s))])
theorem b_impl_orderOf_l2 {p0 : SPoset} (s : (Int × (List (List Bool)))) (o : (Int × (List (List Bool))) ⊕ (Unit ⊕ (List (List Bool)))) (h : F_impl_orderOf_l2 p0 s = some o) : vc Try.prog c_impl_orderOf_l2 (outQ [20, 19, 18, 5, 4] (S_impl_orderOf_l2 p0) (T_impl_orderOf_l2 p0) o) (S_impl_orderOf_l2 p0 s) := by
  obtain ⟨x20, x5⟩ := s
  unfold F_impl_orderOf_l2 at h
  try dsimp only at h
  refine Br.od h (fun p3 h => ?_) (fun p3 h => ?_)
  · refine Len.map ?_
    refine Ask.o h fun p4 h => ?_
    refine Elem.o (by first | omega | (simp [mulN] at *; omega)) ?_
    refine CutQ.o (fun t : (Unit ⊕ Unit) => match t with | (.inl s) => (Ex.normal, [7, 6, 20, 19, 18, 5, 4], [(7, A.val ((slr false 1 vint) (nth p0.Below x20.toNat))), (6, A.val (vint (x20))), (20, A.val (vint (x20))), (19, A.val (vint ((↑p0.Below.length : Int)))), (18, A.val ((slr false 1 (slr false 1 vint)) (p0.Below))), (5, A.val ((slr true 1 (slr true 1 V.bool)) (x5))), (4, A.val (vint ((↑p0.Below.length : Int))))]) | (.inr s) => (Ex.ret, [3, 2], [(3, A.val (V.bool (false))), (2, A.val ((slr true 1 (slr true 1 V.bool)) (nilL (List Bool))))])) h ?_ ?_
    · intro t h
      refine CallQ.o V.bool (by rfl) h (fun r h => t_impl_rises h) (fun r5 h => ?_)
      refine Br.flip ?_
      refine Br.ob h (fun p6 h => ?_) (fun p6 h => ?_)
      · refine Br.no ?_
        refine Br.no ?_
        refine CallQ.o V.bool (by rfl) h (fun r h => t_impl_inSize h) (fun r7 h => ?_)
        refine Br.no ?_
        refine Br.no ?_
        refine Br.flip ?_
        refine Br.ob h (fun p8 h => ?_) (fun p8 h => ?_)
        · cases h; exact ⟨rfl, rfl⟩
        cases h; exact ⟨rfl, rfl⟩
      refine Br.yes ?_
      refine Br.yes ?_
      refine Br.yes ?_
      refine Br.yes ?_
      refine Br.yes ?_
      cases h; exact ⟨rfl, rfl⟩
    rintro (⟨⟩ | ⟨⟩) h
    · try dsimp only at h
      refine Len.map ?_
      refine LoopQ.o [36, 35, 34, 6, 20, 19, 18, 5, 4] (S_impl_orderOf_l1 p0 x20) (T_impl_orderOf_l1 p0 x20) h (fun s o h => b_impl_orderOf_l1 s o h) (by first | rfl | simp [restrict, look, mulN_one, V.fz, fzL, V.up, upL, fzL_map, fz_slr, fz_at, slr]) (fun _ => rfl) ?_
      rintro q15_5 h
      try dsimp only at h
      refine Ask.o h fun p16 h => ?_
      cases h; exact ⟨rfl, rfl⟩
    try dsimp only at h
    cases h; exact ⟨rfl, rfl⟩
  cases h; exact ⟨rfl, rfl⟩

noncomputable def F_impl_orderOf (p0 : SPoset) : Option ((List (List Bool)) × Bool) :=
 if (↑p0.Below.length : Int) > (10 : Int) then
 some (nilL (List Bool), false)
 else
 (F_impl_newOrder ((↑p0.Below.length : Int))).bind fun r2 =>
 (loopO (F_impl_orderOf_l2 p0) ((0 : Int), r2)).bind fun t => match t with
 | (.inl _) => (some (nilL (List Bool), false))
 | (.inr q17_5) => ((F_impl_order_isOrder (q17_5)).bind fun r18 =>
 some (q17_5, r18))
theorem t_impl_orderOf {p0 : SPoset} {v : ((List (List Bool)) × Bool)} (h : F_impl_orderOf p0 = some v) : Ret Try.prog f_impl_orderOf [(rS_Poset false) p0] ((fun r => V.tup [(slr true 1 (slr true 1 V.bool)) r.1, V.bool r.2]) v) := by
  refine ret_vc k_impl_orderOf (Nat.le_of_ble_eq_true rfl) ?_
  unfold F_impl_orderOf at h
  refine Cells.lit rfl rfl ?_
  refine Len.map ?_
  refine Br.od h (fun p1 h => ?_) (fun p1 h => ?_)
  · cases h; exact (by rfl)
  refine CallQ.o (slr true 1 (slr true 1 V.bool)) (by rfl) h (fun r h => t_impl_newOrder h) (fun r2 h => ?_)
  refine Cells.lit rfl rfl ?_
  refine Len.map ?_
  refine LoopQ.o [20, 19, 18, 5, 4] (S_impl_orderOf_l2 p0) (T_impl_orderOf_l2 p0) h (fun s o h => b_impl_orderOf_l2 s o h) (by first | rfl | simp [restrict, look, mulN_one, V.fz, fzL, V.up, upL, fzL_map, fz_slr, fz_at, slr]) (by rintro (_ | _) <;> rfl) ?_
  rintro (⟨⟩ | q17_5) h
  · try dsimp only at h
    cases h; exact (by rfl)
  try dsimp only at h
  refine CallQ.rd V.bool (by first | rfl | simp only [V.fz, fzL_map, slr] | simp [mulN_one, V.fz, fzL, V.up, upL, fzL_map, fz_slr, fz_at, slr]) (fun _ => rfl) h (fun r h => t_impl_order_isOrder h) (fun r18 h => ?_)
  cases h; exact (by rfl)

noncomputable def F_impl_order_dual_l1 (o0 : List (List Bool)) (x11 : Int) : (Int × (List (List Bool))) → Option ((Int × (List (List Bool))) ⊕ (List (List Bool))) := fun (x16, x3') =>
 if x16 < (↑o0.length : Int) then
 ask ((0 : Int) ≤ x11 ∧ x11 < (↑x3'.length : Int)) <|
 ask ((0 : Int) ≤ x16 ∧ x16 < (↑o0.length : Int)) <|
 ask ((0 : Int) ≤ x11 ∧ x11 < (↑(nth o0 x16.toNat).length : Int)) <|
 ask ((0 : Int) ≤ x16 ∧ x16 < (↑(nth x3' x11.toNat).length : Int)) <|
 ask (InI (x16 + (1 : Int))) <|
 some (.inl (x16 + (1 : Int), x3'.set x11.toNat ((nth x3' x11.toNat).set x16.toNat (nth (nth o0 x16.toNat) x11.toNat))))
 else
 some (.inr x3')
def S_impl_order_dual_l1 (o0 : List (List Bool)) (x11 : Int) : (Int × (List (List Bool))) → St := fun s => [(16, A.val (vint s.1)), (15, A.val (vint ((↑o0.length : Int)))), (4, A.val (vint (x11))), (11, A.val (vint (x11))), (10, A.val (vint ((↑o0.length : Int)))), (3, A.val ((slr true 1 (slr true 1 V.bool)) s.2)), (0, A.val ((slr false 1 (slr false 1 V.bool)) (o0)))]
def T_impl_order_dual_l1 (o0 : List (List Bool)) (x11 : Int) : (List (List Bool)) → Tgt
 | s => ((Ex.exit 2), [11, 10, 3, 0], [(11, A.val (vint (x11))), (10, A.val (vint ((↑o0.length : Int)))), (3, A.val ((slr true 1 (slr true 1 V.bool)) s)), (0, A.val ((slr false 1 (slr false 1 V.bool)) (o0)))])
theorem b_impl_order_dual_l1 {o0 : List (List Bool)} {x11 : Int} (s : (Int × (List (List Bool)))) (o : (Int × (List (List Bool))) ⊕ (List (List Bool))) (h : F_impl_order_dual_l1 o0 x11 s = some o) : vc Try.prog c_impl_order_dual_l1 (outQ [16, 15, 4, 11, 10, 3, 0] (S_impl_order_dual_l1 o0 x11) (T_impl_order_dual_l1 o0 x11) o) (S_impl_order_dual_l1 o0 x11 s) := by
  obtain ⟨x16, x3'⟩ := s
  unfold F_impl_order_dual_l1 at h
  try dsimp only at h
  refine Br.od h (fun p3 h => ?_) (fun p3 h => ?_)
  · refine Len.map ?_
    refine Ask.o h fun p4 h => ?_
    refine Cells.one (fun _ => ⟨rfl, rfl⟩) (by first | omega | (simp [mulN] at *; omega)) ?_
    refine Len.map ?_
    refine Ask.o h fun p5 h => ?_
    refine Elem.o (by first | omega | (simp [mulN] at *; omega)) ?_
    refine Len.map ?_
    refine Ask.o h fun p6 h => ?_
    refine Elem.o (by first | omega | (simp [mulN] at *; omega)) ?_
    refine Kid.one (fun _ => ⟨rfl, rfl⟩) (by first | omega | (simp [mulN] at *; omega)) ?_
    refine Len.map ?_
    refine Ask.o h fun p7 h => ?_
    refine Kid.one (fun _ => ⟨rfl, rfl⟩) (by first | omega | (simp [mulN] at *; omega)) ?_
    refine SetKids.one (fun _ => ⟨rfl, rfl⟩) (nth (nth o0 x16.toNat) x11.toNat) (by rfl) (by first | omega | (simp [mulN] at *; omega)) ?_
    refine Kid.one (fun _ => ⟨rfl, rfl⟩) (by first | omega | (simp [mulN] at *; omega)) ?_
    refine SetKids.one (fun _ => ⟨rfl, rfl⟩) ((nth x3' x11.toNat).set x16.toNat (nth (nth o0 x16.toNat) x11.toNat)) (by rfl) (by first | omega | (simp [mulN] at *; omega)) ?_
    refine Ask.o h fun p8 h => ?_
    cases h; exact ⟨rfl, rfl⟩
  cases h; exact ⟨rfl, rfl⟩

noncomputable def F_impl_order_dual_l2 (o0 : List (List Bool)) : (Int × (List (List Bool))) → Option ((Int × (List (List Bool))) ⊕ (List (List Bool))) := fun (x11, x3) =>
 if x11 < (↑o0.length : Int) then
 (loopO (F_impl_order_dual_l1 o0 x11) ((0 : Int), x3)).bind fun q9_3 =>
 ask (InI (x11 + (1 : Int))) <|
 some (.inl (x11 + (1 : Int), q9_3))
 else
 some (.inr x3)
def S_impl_order_dual_l2 (o0 : List (List Bool)) : (Int × (List (List Bool))) → St := fun s => [(11, A.val (vint s.1)), (10, A.val (vint ((↑o0.length : Int)))), (3, A.val ((slr true 1 (slr true 1 V.bool)) s.2)), (0, A.val ((slr false 1 (slr false 1 V.bool)) (o0)))]
def T_impl_order_dual_l2 (_o0 : List (List Bool)) : (List (List Bool)) → Tgt
 | s => ((Ex.exit 0), [3], [(3, A.val ((slr true 1 (slr true 1 V.bool)) s))])
theorem b_impl_order_dual_l2 {o0 : List (List Bool)} (s : (Int × (List (List Bool)))) (o : (Int × (List (List Bool))) ⊕ (List (List Bool))) (h : F_impl_order_dual_l2 o0 s = some o) : vc Try.prog c_impl_order_dual_l2 (outQ [11, 10, 3, 0] (S_impl_order_dual_l2 o0) (T_impl_order_dual_l2 o0) o) (S_impl_order_dual_l2 o0 s) := by
  obtain ⟨x11, x3⟩ := s
  unfold F_impl_order_dual_l2 at h
  try dsimp only at h
  refine Br.od h (fun p2 h => ?_) (fun p2 h => ?_)
  · refine Len.map ?_
    refine LoopQ.o [16, 15, 4, 11, 10, 3, 0] (S_impl_order_dual_l1 o0 x11) (T_impl_order_dual_l1 o0 x11) h (fun s o h => b_impl_order_dual_l1 s o h) (by first | rfl | simp [restrict, look, mulN_one, V.fz, fzL, V.up, upL, fzL_map, fz_slr, fz_at, slr]) (fun _ => rfl) ?_
    rintro q9_3 h
    try dsimp only at h
    refine Ask.o h fun p10 h => ?_
    cases h; exact ⟨rfl, rfl⟩
  cases h; exact ⟨rfl, rfl⟩

noncomputable def F_impl_order_dual (o0 : (List (List Bool))) : Option (List (List Bool)) :=
 (F_impl_newOrder ((↑o0.length : Int))).bind fun r1 =>
 (loopO (F_impl_order_dual_l2 o0) ((0 : Int), r1)).bind fun q11_3 =>
 some q11_3
theorem t_impl_order_dual {o0 : (List (List Bool))} {v : (List (List Bool))} (h : F_impl_order_dual o0 = some v) : Ret Try.prog f_impl_order_dual [(slr false 1 (slr false 1 V.bool)) o0] ((slr true 1 (slr true 1 V.bool)) v) := by
  refine ret_vc k_impl_order_dual (Nat.le_of_ble_eq_true rfl) ?_
  unfold F_impl_order_dual at h
  refine Len.map ?_
  refine CallQ.o (slr true 1 (slr true 1 V.bool)) (by rfl) h (fun r h => t_impl_newOrder h) (fun r1 h => ?_)
  refine Len.map ?_
  refine LoopQ.o [11, 10, 3, 0] (S_impl_order_dual_l2 o0) (T_impl_order_dual_l2 o0) h (fun s o h => b_impl_order_dual_l2 s o h) (by first | rfl | simp [restrict, look, mulN_one, V.fz, fzL, V.up, upL, fzL_map, fz_slr, fz_at, slr]) (fun _ => rfl) ?_
  rintro q11_3 h
  try dsimp only at h
  cases h; exact (by rfl)

noncomputable def F_impl_order_has (o0 : (List (List Bool))) (list0 : (List Int)) : Option Bool :=
 (F_impl_inSize (list0) ((↑o0.length : Int))).bind fun r1 =>
 some r1
theorem t_impl_order_has {o0 : (List (List Bool))} {list0 : (List Int)} {v : Bool} (h : F_impl_order_has o0 list0 = some v) : Ret Try.prog f_impl_order_has [(slr false 1 (slr false 1 V.bool)) o0, (slr false 1 vint) list0] (V.bool v) := by
  refine ret_vc k_impl_order_has (Nat.le_of_ble_eq_true rfl) ?_
  unfold F_impl_order_has at h
  refine Len.map ?_
  refine CallQ.o V.bool (by rfl) h (fun r h => t_impl_inSize h) (fun r1 h => ?_)
  cases h; exact (by rfl)

noncomputable def F_impl_lattice_joinAll_l1 (l0 : Slattice) (list0 : List Int) : (Int × Int) → Option ((Int × Int) ⊕ Int) := fun (x12, x5) =>
 if x12 < (↑list0.length : Int) then
 ask ((0 : Int) ≤ x12 ∧ x12 < (↑list0.length : Int)) <|
 ask ((0 : Int) ≤ x5 ∧ x5 < (↑l0.joins.length : Int)) <|
 ask ((0 : Int) ≤ nth list0 x12.toNat ∧ nth list0 x12.toNat < (↑(nth l0.joins x5.toNat).length : Int)) <|
 ask (InI (x12 + (1 : Int))) <|
 some (.inl (x12 + (1 : Int), nth (nth l0.joins x5.toNat) (nth list0 x12.toNat).toNat))
 else
 some (.inr x5)
def S_impl_lattice_joinAll_l1 (l0 : Slattice) (list0 : List Int) : (Int × Int) → St := fun s => [(12, A.val (vint s.1)), (11, A.val (vint ((↑list0.length : Int)))), (10, A.val ((slr false 1 vint) (list0))), (5, A.val (vint s.2)), (0, A.val ((rP false (rS_lattice false)) (l0)))]
def T_impl_lattice_joinAll_l1 (_l0 : Slattice) (_list0 : List Int) : Int → Tgt
 | s => ((Ex.exit 0), [5], [(5, A.val (vint s))])
theorem b_impl_lattice_joinAll_l1 {l0 : Slattice} {list0 : List Int} (s : (Int × Int)) (o : (Int × Int) ⊕ Int) (h : F_impl_lattice_joinAll_l1 l0 list0 s = some o) : vc Try.prog c_impl_lattice_joinAll_l1 (outQ [12, 11, 10, 5, 0] (S_impl_lattice_joinAll_l1 l0 list0) (T_impl_lattice_joinAll_l1 l0 list0) o) (S_impl_lattice_joinAll_l1 l0 list0 s) := by
  obtain ⟨x12, x5⟩ := s
  unfold F_impl_lattice_joinAll_l1 at h
  try dsimp only at h
  refine Br.od h (fun p2 h => ?_) (fun p2 h => ?_)
  · refine Len.map ?_
    refine Ask.o h fun p3 h => ?_
    refine Elem.o (by first | omega | (simp [mulN] at *; omega)) ?_
    refine Len.map ?_
    refine Ask.o h fun p4 h => ?_
    refine Elem.o (by first | omega | (simp [mulN] at *; omega)) ?_
    refine Len.map ?_
    refine Ask.o h fun p5 h => ?_
    refine Elem.o (by first | omega | (simp [mulN] at *; omega)) ?_
    refine Ask.o h fun p6 h => ?_
    cases h; exact ⟨rfl, rfl⟩
  cases h; exact ⟨rfl, rfl⟩

noncomputable def F_impl_lattice_joinAll (l0 : Slattice) (list0 : (List Int)) : Option Int :=
 (F_impl_lattice_bottom (l0)).bind fun r1 =>
 (loopO (F_impl_lattice_joinAll_l1 l0 list0) ((0 : Int), r1)).bind fun q7_5 =>
 some q7_5
theorem t_impl_lattice_joinAll {l0 : Slattice} {list0 : (List Int)} {v : Int} (h : F_impl_lattice_joinAll l0 list0 = some v) : Ret Try.prog f_impl_lattice_joinAll [(rP false (rS_lattice false)) l0, (slr false 1 vint) list0] (vint v) := by
  refine ret_vc k_impl_lattice_joinAll (Nat.le_of_ble_eq_true rfl) ?_
  unfold F_impl_lattice_joinAll at h
  refine CallQ.o vint (by rfl) h (fun r h => t_impl_lattice_bottom h) (fun r1 h => ?_)
  refine Len.map ?_
  refine LoopQ.o [12, 11, 10, 5, 0] (S_impl_lattice_joinAll_l1 l0 list0) (T_impl_lattice_joinAll_l1 l0 list0) h (fun s o h => b_impl_lattice_joinAll_l1 s o h) (by first | rfl | simp [restrict, look, mulN_one, V.fz, fzL, V.up, upL, fzL_map, fz_slr, fz_at, slr]) (fun _ => rfl) ?_
  rintro q7_5 h
  try dsimp only at h
  cases h; exact (by rfl)

noncomputable def F_impl_lattice_meetAll_l1 (l0 : Slattice) (list0 : List Int) : (Int × Int) → Option ((Int × Int) ⊕ Int) := fun (x12, x5) =>
 if x12 < (↑list0.length : Int) then
 ask ((0 : Int) ≤ x12 ∧ x12 < (↑list0.length : Int)) <|
 ask ((0 : Int) ≤ x5 ∧ x5 < (↑l0.meets.length : Int)) <|
 ask ((0 : Int) ≤ nth list0 x12.toNat ∧ nth list0 x12.toNat < (↑(nth l0.meets x5.toNat).length : Int)) <|
 ask (InI (x12 + (1 : Int))) <|
 some (.inl (x12 + (1 : Int), nth (nth l0.meets x5.toNat) (nth list0 x12.toNat).toNat))
 else
 some (.inr x5)
def S_impl_lattice_meetAll_l1 (l0 : Slattice) (list0 : List Int) : (Int × Int) → St := fun s => [(12, A.val (vint s.1)), (11, A.val (vint ((↑list0.length : Int)))), (10, A.val ((slr false 1 vint) (list0))), (5, A.val (vint s.2)), (0, A.val ((rP false (rS_lattice false)) (l0)))]
def T_impl_lattice_meetAll_l1 (_l0 : Slattice) (_list0 : List Int) : Int → Tgt
 | s => ((Ex.exit 0), [5], [(5, A.val (vint s))])
theorem b_impl_lattice_meetAll_l1 {l0 : Slattice} {list0 : List Int} (s : (Int × Int)) (o : (Int × Int) ⊕ Int) (h : F_impl_lattice_meetAll_l1 l0 list0 s = some o) : vc Try.prog c_impl_lattice_meetAll_l1 (outQ [12, 11, 10, 5, 0] (S_impl_lattice_meetAll_l1 l0 list0) (T_impl_lattice_meetAll_l1 l0 list0) o) (S_impl_lattice_meetAll_l1 l0 list0 s) := by
  obtain ⟨x12, x5⟩ := s
  unfold F_impl_lattice_meetAll_l1 at h
  try dsimp only at h
  refine Br.od h (fun p2 h => ?_) (fun p2 h => ?_)
  · refine Len.map ?_
    refine Ask.o h fun p3 h => ?_
    refine Elem.o (by first | omega | (simp [mulN] at *; omega)) ?_
    refine Len.map ?_
    refine Ask.o h fun p4 h => ?_
    refine Elem.o (by first | omega | (simp [mulN] at *; omega)) ?_
    refine Len.map ?_
    refine Ask.o h fun p5 h => ?_
    refine Elem.o (by first | omega | (simp [mulN] at *; omega)) ?_
    refine Ask.o h fun p6 h => ?_
    cases h; exact ⟨rfl, rfl⟩
  cases h; exact ⟨rfl, rfl⟩

noncomputable def F_impl_lattice_meetAll (l0 : Slattice) (list0 : (List Int)) : Option Int :=
 (F_impl_lattice_top (l0)).bind fun r1 =>
 (loopO (F_impl_lattice_meetAll_l1 l0 list0) ((0 : Int), r1)).bind fun q7_5 =>
 some q7_5
theorem t_impl_lattice_meetAll {l0 : Slattice} {list0 : (List Int)} {v : Int} (h : F_impl_lattice_meetAll l0 list0 = some v) : Ret Try.prog f_impl_lattice_meetAll [(rP false (rS_lattice false)) l0, (slr false 1 vint) list0] (vint v) := by
  refine ret_vc k_impl_lattice_meetAll (Nat.le_of_ble_eq_true rfl) ?_
  unfold F_impl_lattice_meetAll at h
  refine CallQ.o vint (by rfl) h (fun r h => t_impl_lattice_top h) (fun r1 h => ?_)
  refine Len.map ?_
  refine LoopQ.o [12, 11, 10, 5, 0] (S_impl_lattice_meetAll_l1 l0 list0) (T_impl_lattice_meetAll_l1 l0 list0) h (fun s o h => b_impl_lattice_meetAll_l1 s o h) (by first | rfl | simp [restrict, look, mulN_one, V.fz, fzL, V.up, upL, fzL_map, fz_slr, fz_at, slr]) (fun _ => rfl) ?_
  rintro q7_5 h
  try dsimp only at h
  cases h; exact (by rfl)

noncomputable def F_impl_order_interval (o0 : (List (List Bool))) (x0 : Int) (y0 : Int) : Option (List Int) :=
 (F_impl_order_those (o0) (fun w_0 => F_impl_order_interval_1 w_0 (o0) (x0) (y0))).bind fun r1 =>
 some r1
theorem t_impl_order_interval {o0 : (List (List Bool))} {x0 : Int} {y0 : Int} {v : (List Int)} (h : F_impl_order_interval o0 x0 y0 = some v) : Ret Try.prog f_impl_order_interval [(slr false 1 (slr false 1 V.bool)) o0, vint x0, vint y0] ((slr true 1 vint) v) := by
  refine ret_vc k_impl_order_interval (Nat.le_of_ble_eq_true rfl) ?_
  unfold F_impl_order_interval at h
  refine Cells.lit rfl rfl ?_
  refine CallQ.rd (slr true 1 vint) (by rfl) (fun _ => by simp [V.noFz, noFzL_map]) h (fun r h => t_impl_order_those (f_so0 := f_impl_order_interval_1) (c_so0 := [(rP false (slr false 1 (slr false 1 V.bool))) (o0), (rP false vint) (x0), (rP false vint) (y0)]) (fun w_0 v h => Ret.cast (by rfl) (t_impl_order_interval_1 h)) h) (fun r1 h => ?_)
  cases h; exact (by rfl)

noncomputable def F_spec_l23Leq (p0 : SPoset) (x0 : Int) (y0 : Int) : Option Bool :=
 ask ((0 : Int) ≤ y0 ∧ y0 < (↑p0.Below.length : Int)) <|
 (F_spec_l1Has (nth p0.Below y0.toNat) (x0)).bind fun r2 =>
 some r2
theorem t_spec_l23Leq {p0 : SPoset} {x0 : Int} {y0 : Int} {v : Bool} (h : F_spec_l23Leq p0 x0 y0 = some v) : Ret Try.prog f_spec_l23Leq [(rS_Poset false) p0, vint x0, vint y0] (V.bool v) := by
  refine ret_vc k_spec_l23Leq (Nat.le_of_ble_eq_true rfl) ?_
  unfold F_spec_l23Leq at h
  refine Cells.lit rfl rfl ?_
  refine Len.map ?_
  refine Ask.o h fun p1 h => ?_
  refine Elem.o (by first | omega | (simp [mulN] at *; omega)) ?_
  refine CallQ.o V.bool (by rfl) h (fun r h => t_spec_l1Has h) (fun r2 h => ?_)
  cases h; exact (by rfl)

noncomputable def F_spec_l2Elements_l1 (n0 : Int) (list0 : List Int) : Int → Option (Int ⊕ (Unit ⊕ Unit)) := fun x5 =>
 if x5 < (↑list0.length : Int) then
 ask ((0 : Int) ≤ x5 ∧ x5 < (↑list0.length : Int)) <|
 ask (InI (n0 - (1 : Int))) <|
 (F_spec_l1In (nth list0 x5.toNat) ((0 : Int)) (n0 - (1 : Int))).bind fun r4 =>
 if (r4) = true then
 ask (InI (x5 + (1 : Int))) <|
 some (.inl (x5 + (1 : Int)))
 else
 some (.inr (.inl ()))
 else
 some (.inr (.inr ()))
def S_spec_l2Elements_l1 (n0 : Int) (list0 : List Int) : Int → St := fun s => [(5, A.val (vint s)), (0, A.val (vint (n0))), (1, A.val ((slr false 1 vint) (list0)))]
def T_spec_l2Elements_l1 (_n0 : Int) (_list0 : List Int) : (Unit ⊕ Unit) → Tgt
 | (.inl _s) => (Ex.ret, [4], [(4, A.val (V.bool (false)))])
 | (.inr _s) => ((Ex.exit 0), [], [])
theorem b_spec_l2Elements_l1 {n0 : Int} {list0 : List Int} (x5 : Int) (o : Int ⊕ (Unit ⊕ Unit)) (h : F_spec_l2Elements_l1 n0 list0 x5 = some o) : vc Try.prog c_spec_l2Elements_l1 (outQ [5, 0, 1] (S_spec_l2Elements_l1 n0 list0) (T_spec_l2Elements_l1 n0 list0) o) (S_spec_l2Elements_l1 n0 list0 x5) := by
  unfold F_spec_l2Elements_l1 at h
  try dsimp only at h
  refine Len.map ?_
  refine Br.od h (fun p1 h => ?_) (fun p1 h => ?_)
  · refine Len.map ?_
    refine Ask.o h fun p2 h => ?_
    refine Elem.o (by first | omega | (simp [mulN] at *; omega)) ?_
    refine Ask.o h fun p3 h => ?_
    refine CallQ.o V.bool (by rfl) h (fun r h => t_spec_l1In h) (fun r4 h => ?_)
    refine Br.flip ?_
    refine Br.ob h (fun p5 h => ?_) (fun p5 h => ?_)
    · refine Ask.o h fun p6 h => ?_
      cases h; exact ⟨rfl, rfl⟩
    cases h; exact ⟨rfl, rfl⟩
  cases h; exact ⟨rfl, rfl⟩

noncomputable def F_spec_l2Elements (n0 : Int) (list0 : (List Int)) : Option Bool :=
 (loopO (F_spec_l2Elements_l1 n0 list0) (0 : Int)).bind fun t => match t with
 | (.inl _) => (some false)
 | (.inr _) => (some true)
theorem t_spec_l2Elements {n0 : Int} {list0 : (List Int)} {v : Bool} (h : F_spec_l2Elements n0 list0 = some v) : Ret Try.prog f_spec_l2Elements [vint n0, (slr false 1 vint) list0] (V.bool v) := by
  refine ret_vc k_spec_l2Elements (Nat.le_of_ble_eq_true rfl) ?_
  unfold F_spec_l2Elements at h
  refine LoopQ.o [5, 0, 1] (S_spec_l2Elements_l1 n0 list0) (T_spec_l2Elements_l1 n0 list0) h (fun s o h => b_spec_l2Elements_l1 s o h) (by first | rfl | simp [restrict, look, mulN_one, V.fz, fzL, V.up, upL, fzL_map, fz_slr, fz_at, slr]) (by rintro (_ | _) <;> rfl) ?_
  rintro (⟨⟩ | ⟨⟩) h
  · try dsimp only at h
    cases h; exact (by rfl)
  try dsimp only at h
  cases h; exact (by rfl)

end Go.Proofs.Ytoikbcagaanhgaa.Ax
