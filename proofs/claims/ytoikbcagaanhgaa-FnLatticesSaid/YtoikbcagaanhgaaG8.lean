/-
  What the functions compute, as functions on plain data, and that the program does compute it; written by program.
-/
import Derived.Test.YtoikbcagaanhgaaCode
import Derived.Test.YtoikbcagaanhgaaG4
import Derived.Test.YtoikbcagaanhgaaG5
import Derived.Test.YtoikbcagaanhgaaG6
import Derived.Test.YtoikbcagaanhgaaG7
namespace Go.Proofs.Ytoikbcagaanhgaa.Ax
open Go
set_option maxRecDepth 100000
set_option maxHeartbeats 4000000

noncomputable def F_impl_IsAlgebra_l1 (a0 : SAlgebra) : Int → Option (Int ⊕ (Unit ⊕ Unit)) := fun x22 =>
 if x22 < (↑a0.Ops.length : Int) then
 ask ((0 : Int) ≤ x22 ∧ x22 < (↑a0.Ops.length : Int)) <|
 (F_impl_isOp (nth a0.Ops x22.toNat) (a0.Size)).bind fun r7 =>
 if (r7) = true then
 ask (InI (x22 + (1 : Int))) <|
 some (.inl (x22 + (1 : Int)))
 else
 some (.inr (.inl ()))
 else
 some (.inr (.inr ()))
def S_impl_IsAlgebra_l1 (a0 : SAlgebra) : Int → St := fun s => [(22, A.val (vint s)), (21, A.val (vint ((↑a0.Ops.length : Int)))), (20, A.val ((slr false 2 (rS_Op false)) (a0.Ops))), (1, A.val ((rP true (rS_Algebra false)) (a0)))]
def T_impl_IsAlgebra_l1 (_a0 : SAlgebra) : (Unit ⊕ Unit) → Tgt
 | (.inl _s) => (Ex.ret, [2], [(2, A.val (V.bool (false)))])
 | (.inr _s) => ((Ex.exit 0), [], [])
theorem b_impl_IsAlgebra_l1 {a0 : SAlgebra} (x22 : Int) (o : Int ⊕ (Unit ⊕ Unit)) (h : F_impl_IsAlgebra_l1 a0 x22 = some o) : vc Try.prog c_impl_IsAlgebra_l1 (outQ [22, 21, 20, 1] (S_impl_IsAlgebra_l1 a0) (T_impl_IsAlgebra_l1 a0) o) (S_impl_IsAlgebra_l1 a0 x22) := by
  unfold F_impl_IsAlgebra_l1 at h
  try dsimp only at h
  refine Br.od h (fun p5 h => ?_) (fun p5 h => ?_)
  · refine Len.map ?_
    refine Ask.o h fun p6 h => ?_
    refine Elem.o (by first | omega | (simp [mulN] at *; omega)) ?_
    refine SetKids.lit rfl ?_
    refine Cells.lit rfl rfl ?_
    refine Cells.lit rfl rfl ?_
    refine CallQ.o V.bool (by rfl) h (fun r h => t_impl_isOp h) (fun r7 h => ?_)
    refine Br.flip ?_
    refine Br.ob h (fun p8 h => ?_) (fun p8 h => ?_)
    · refine Ask.o h fun p9 h => ?_
      cases h; exact ⟨rfl, rfl⟩
    cases h; exact ⟨rfl, rfl⟩
  cases h; exact ⟨rfl, rfl⟩

noncomputable def F_impl_IsAlgebra (a0 : SAlgebra) : Option Bool :=
 ((if a0.Size < (1 : Int) then
 some (.inl ())
 else
 if a0.Size > (8 : Int) then
 some (.inl ())
 else
 if (↑a0.Ops.length : Int) > (4 : Int) then
 some (.inl ())
 else
 some (.inr ()) : Option (Unit ⊕ Unit))).bind fun t => match t with
 | (.inl _) => (some false)
 | (.inr _) => ((loopO (F_impl_IsAlgebra_l1 a0) (0 : Int)).bind fun t => match t with
 | (.inl _) => (some false)
 | (.inr _) => (some true))
theorem t_impl_IsAlgebra {a0 : SAlgebra} {v : Bool} (h : F_impl_IsAlgebra a0 = some v) : Ret Try.prog f_impl_IsAlgebra [(rS_Algebra false) a0] (V.bool v) := by
  refine ret_vc k_impl_IsAlgebra (Nat.le_of_ble_eq_true rfl) ?_
  unfold F_impl_IsAlgebra at h
  refine CutQ.o (fun t : (Unit ⊕ Unit) => match t with | (.inl s) => (Ex.ret, [2], [(2, A.val (V.bool (false)))]) | (.inr s) => (Ex.normal, [1], [(1, A.val ((rP true (rS_Algebra false)) (a0)))])) h ?_ ?_
  · intro t h
    refine Cells.lit rfl rfl ?_
    refine Br.od h (fun p1 h => ?_) (fun p1 h => ?_)
    · refine Br.yes ?_
      refine Br.yes ?_
      refine Br.yes ?_
      refine Br.yes ?_
      refine Br.yes ?_
      refine Br.yes ?_
      refine Br.yes ?_
      refine Br.yes ?_
      refine Br.yes ?_
      cases h; exact ⟨rfl, rfl⟩
    refine Br.no ?_
    refine Cells.lit rfl rfl ?_
    refine Br.no ?_
    refine Br.no ?_
    refine Br.od h (fun p2 h => ?_) (fun p2 h => ?_)
    · refine Br.yes ?_
      refine Br.yes ?_
      refine Br.yes ?_
      refine Br.yes ?_
      refine Br.yes ?_
      cases h; exact ⟨rfl, rfl⟩
    refine Br.no ?_
    refine Cells.lit rfl rfl ?_
    refine Br.no ?_
    refine Len.map ?_
    refine Br.no ?_
    refine Br.no ?_
    refine Br.od h (fun p3 h => ?_) (fun p3 h => ?_)
    · cases h; exact ⟨rfl, rfl⟩
    cases h; exact ⟨rfl, rfl⟩
  rintro (⟨⟩ | ⟨⟩) h
  · try dsimp only at h
    cases h; exact (by rfl)
  try dsimp only at h
  refine Cells.lit rfl rfl ?_
  refine Len.map ?_
  refine LoopQ.o [22, 21, 20, 1] (S_impl_IsAlgebra_l1 a0) (T_impl_IsAlgebra_l1 a0) h (fun s o h => b_impl_IsAlgebra_l1 s o h) (by first | rfl | simp [restrict, look, mulN_one, V.fz, fzL, V.up, upL, fzL_map, fz_slr, fz_at, slr]) (by rintro (_ | _) <;> rfl) ?_
  rintro (⟨⟩ | ⟨⟩) h
  · try dsimp only at h
    cases h; exact (by rfl)
  try dsimp only at h
  cases h; exact (by rfl)

noncomputable def F_spec_l23Dual_l1 (p0 : SPoset) (x4 : Int) (_x3 : SPoset) : (Int × (List Int)) → Option ((Int × (List Int)) ⊕ (List Int)) := fun (x6, x5) =>
 if x6 < (↑p0.Below.length : Int) then
 (F_spec_l23Leq (p0) (x4) (x6)).bind fun r3 =>
 if (r3) = true then
 ask ((x5).length + ([x6]).length ≤ LIM) <|
 ask (InI (x6 + (1 : Int))) <|
 some (.inl (x6 + (1 : Int), x5 ++ [x6]))
 else
 ask (InI (x6 + (1 : Int))) <|
 some (.inl (x6 + (1 : Int), x5))
 else
 some (.inr x5)
def S_spec_l23Dual_l1 (p0 : SPoset) (x4 : Int) (x3 : SPoset) : (Int × (List Int)) → St := fun s => [(6, A.val (vint s.1)), (5, A.val ((slr true 1 vint) s.2)), (4, A.val (vint (x4))), (3, A.val ((rP true (rS_Poset true)) (x3))), (2, A.val ((rP true (rS_Poset true)) ({ Below := nilL (List Int) }))), (1, A.val ((rP true (rS_Poset false)) (p0)))]
def T_spec_l23Dual_l1 (p0 : SPoset) (x4 : Int) (x3 : SPoset) : (List Int) → Tgt
 | s => ((Ex.exit 2), [5, 4, 3, 2, 1], [(5, A.val ((slr true 1 vint) s)), (4, A.val (vint (x4))), (3, A.val ((rP true (rS_Poset true)) (x3))), (2, A.val ((rP true (rS_Poset true)) ({ Below := nilL (List Int) }))), (1, A.val ((rP true (rS_Poset false)) (p0)))])
theorem b_spec_l23Dual_l1 {p0 : SPoset} {x4 : Int} {x3 : SPoset} (s : (Int × (List Int))) (o : (Int × (List Int)) ⊕ (List Int)) (h : F_spec_l23Dual_l1 p0 x4 x3 s = some o) : vc Try.prog c_spec_l23Dual_l1 (outQ [6, 5, 4, 3, 2, 1] (S_spec_l23Dual_l1 p0 x4 x3) (T_spec_l23Dual_l1 p0 x4 x3) o) (S_spec_l23Dual_l1 p0 x4 x3 s) := by
  obtain ⟨x6, x5⟩ := s
  unfold F_spec_l23Dual_l1 at h
  try dsimp only at h
  refine Cells.lit rfl rfl ?_
  refine Len.map ?_
  refine Br.od h (fun p2 h => ?_) (fun p2 h => ?_)
  · refine Cells.lit rfl rfl ?_
    refine CallQ.o V.bool (by rfl) h (fun r h => t_spec_l23Leq h) (fun r3 h => ?_)
    refine Br.ob h (fun p4 h => ?_) (fun p4 h => ?_)
    · refine BslQ.o vint [x6] (by exact fun _ => ⟨rfl, rfl⟩) (by rfl) ?_
      refine NoOwn.o (fun _ => rfl) ?_
      refine AppQ.o (m := 1) vint (by exact fun _ => ⟨rfl, rfl⟩) (x5) ([x6]) (by rfl) (by rfl) h fun h => ?_
      refine Ask.o h fun p5 h => ?_
      cases h; exact ⟨rfl, rfl⟩
    refine Ask.o h fun p6 h => ?_
    cases h; exact ⟨rfl, rfl⟩
  cases h; exact ⟨rfl, rfl⟩

noncomputable def F_spec_l23Dual_l2 (p0 : SPoset) : (Int × SPoset) → Option ((Int × SPoset) ⊕ SPoset) := fun (x4, x3) =>
 if x4 < (↑p0.Below.length : Int) then
 (loopO (F_spec_l23Dual_l1 p0 x4 x3) ((0 : Int), nilL Int)).bind fun q7_5 =>
 ask ((x3.Below).length + ([q7_5]).length ≤ LIM) <|
 ask (InI (x4 + (1 : Int))) <|
 some (.inl (x4 + (1 : Int), { Below := x3.Below ++ [q7_5] }))
 else
 some (.inr x3)
def S_spec_l23Dual_l2 (p0 : SPoset) : (Int × SPoset) → St := fun s => [(4, A.val (vint s.1)), (3, A.val ((rP true (rS_Poset true)) s.2)), (2, A.val ((rP true (rS_Poset true)) ({ Below := nilL (List Int) }))), (1, A.val ((rP true (rS_Poset false)) (p0)))]
def T_spec_l23Dual_l2 (_p0 : SPoset) : SPoset → Tgt
 | s => ((Ex.exit 0), [3, 2], [(3, A.val ((rP true (rS_Poset true)) s)), (2, A.val ((rP true (rS_Poset true)) ({ Below := nilL (List Int) })))])
theorem b_spec_l23Dual_l2 {p0 : SPoset} (s : (Int × SPoset)) (o : (Int × SPoset) ⊕ SPoset) (h : F_spec_l23Dual_l2 p0 s = some o) : vc Try.prog c_spec_l23Dual_l2 (outQ [4, 3, 2, 1] (S_spec_l23Dual_l2 p0) (T_spec_l23Dual_l2 p0) o) (S_spec_l23Dual_l2 p0 s) := by
  obtain ⟨x4, x3⟩ := s
  unfold F_spec_l23Dual_l2 at h
  try dsimp only at h
  refine Cells.lit rfl rfl ?_
  refine Len.map ?_
  refine Br.od h (fun p1 h => ?_) (fun p1 h => ?_)
  · refine BslQ.o vint (nilL Int) (by exact fun _ => ⟨rfl, rfl⟩) (by rfl) ?_
    refine LoopQ.o [6, 5, 4, 3, 2, 1] (S_spec_l23Dual_l1 p0 x4 x3) (T_spec_l23Dual_l1 p0 x4 x3) h (fun s o h => b_spec_l23Dual_l1 s o h) (by first | rfl | simp [restrict, look, mulN_one, V.fz, fzL, V.up, upL, fzL_map, fz_slr, fz_at, slr]) (fun _ => rfl) ?_
    rintro q7_5 h
    try dsimp only at h
    refine Cells.lit rfl rfl ?_
    refine BslQ.o (slr true 1 vint) [q7_5] (by exact fun _ => ⟨rfl, rfl⟩) (by rfl) ?_
    refine NoOwn.own rfl ?_
    refine Kid.lit rfl rfl ?_
    refine Kid.lit rfl rfl ?_
    refine SetKids.lit rfl ?_
    refine AppQ.o (m := 1) (slr true 1 vint) (by exact fun _ => ⟨rfl, rfl⟩) (x3.Below) ([q7_5]) (by rfl) (by rfl) h fun h => ?_
    refine SetKids.lit rfl ?_
    refine Ask.o h fun p8 h => ?_
    cases h; exact ⟨rfl, rfl⟩
  cases h; exact ⟨rfl, rfl⟩

noncomputable def F_spec_l23Dual (p0 : SPoset) : Option SPoset :=
 (loopO (F_spec_l23Dual_l2 p0) ((0 : Int), { Below := nilL (List Int) })).bind fun q9_3 =>
 some q9_3
theorem t_spec_l23Dual {p0 : SPoset} {v : SPoset} (h : F_spec_l23Dual p0 = some v) : Ret Try.prog f_spec_l23Dual [(rS_Poset false) p0] ((rS_Poset true) v) := by
  refine ret_vc k_spec_l23Dual (Nat.le_of_ble_eq_true rfl) ?_
  unfold F_spec_l23Dual at h
  refine BslQ.o (slr true 1 vint) (nilL (List Int)) (by exact fun _ => ⟨rfl, rfl⟩) (by rfl) ?_
  refine SetKids.lit rfl ?_
  refine LoopQ.o [4, 3, 2, 1] (S_spec_l23Dual_l2 p0) (T_spec_l23Dual_l2 p0) h (fun s o h => b_spec_l23Dual_l2 s o h) (by first | rfl | simp [restrict, look, mulN_one, V.fz, fzL, V.up, upL, fzL_map, fz_slr, fz_at, slr]) (fun _ => rfl) ?_
  rintro q9_3 h
  try dsimp only at h
  refine Cells.lit rfl rfl ?_
  refine SetKids.lit rfl ?_
  cases h; exact (by rfl)

noncomputable def F_spec_l2Perm_l1 (l0 : List Int) (n0 : Int) : (Int × (List Bool)) → Option ((Int × (List Bool)) ⊕ (Unit ⊕ Unit)) := fun (x6, x5) =>
 if x6 < n0 then
 ask ((0 : Int) ≤ x6 ∧ x6 < (↑l0.length : Int)) <|
 ask ((0 : Int) ≤ nth l0 x6.toNat ∧ nth l0 x6.toNat < (↑x5.length : Int)) <|
 if (nth x5 (nth l0 x6.toNat).toNat) = true then
 some (.inr (.inl ()))
 else
 ask ((0 : Int) ≤ x6 ∧ x6 < (↑l0.length : Int)) <|
 ask ((0 : Int) ≤ nth l0 x6.toNat ∧ nth l0 x6.toNat < (↑x5.length : Int)) <|
 ask (InI (x6 + (1 : Int))) <|
 some (.inl (x6 + (1 : Int), x5.set (nth l0 x6.toNat).toNat true))
 else
 some (.inr (.inr ()))
def S_spec_l2Perm_l1 (l0 : List Int) (n0 : Int) : (Int × (List Bool)) → St := fun s => [(6, A.val (vint s.1)), (5, A.val ((slr true 1 V.bool) s.2)), (0, A.val ((slr false 1 vint) (l0))), (1, A.val (vint (n0)))]
def T_spec_l2Perm_l1 (_l0 : List Int) (_n0 : Int) : (Unit ⊕ Unit) → Tgt
 | (.inl _s) => (Ex.ret, [4], [(4, A.val (V.bool (false)))])
 | (.inr _s) => ((Ex.exit 0), [], [])
theorem b_spec_l2Perm_l1 {l0 : List Int} {n0 : Int} (s : (Int × (List Bool))) (o : (Int × (List Bool)) ⊕ (Unit ⊕ Unit)) (h : F_spec_l2Perm_l1 l0 n0 s = some o) : vc Try.prog c_spec_l2Perm_l1 (outQ [6, 5, 0, 1] (S_spec_l2Perm_l1 l0 n0) (T_spec_l2Perm_l1 l0 n0) o) (S_spec_l2Perm_l1 l0 n0 s) := by
  obtain ⟨x6, x5⟩ := s
  unfold F_spec_l2Perm_l1 at h
  try dsimp only at h
  refine Br.od h (fun p6 h => ?_) (fun p6 h => ?_)
  · refine Len.map ?_
    refine Ask.o h fun p7 h => ?_
    refine Elem.o (by first | omega | (simp [mulN] at *; omega)) ?_
    refine Len.map ?_
    refine Ask.o h fun p8 h => ?_
    refine Cells.one (fun _ => ⟨rfl, rfl⟩) (by first | omega | (simp [mulN] at *; omega)) ?_
    refine Br.ob h (fun p9 h => ?_) (fun p9 h => ?_)
    · cases h; exact ⟨rfl, rfl⟩
    refine Len.map ?_
    refine Ask.o h fun p10 h => ?_
    refine Elem.o (by first | omega | (simp [mulN] at *; omega)) ?_
    refine Len.map ?_
    refine Ask.o h fun p11 h => ?_
    refine SetKids.one (fun _ => ⟨rfl, rfl⟩) (true) (by rfl) (by first | omega | (simp [mulN] at *; omega)) ?_
    refine Ask.o h fun p12 h => ?_
    cases h; exact ⟨rfl, rfl⟩
  cases h; exact ⟨rfl, rfl⟩

noncomputable def F_spec_l2Perm (l0 : (List Int)) (n0 : Int) : Option Bool :=
 ((if (↑l0.length : Int) ≠ n0 then
 some (.inl ())
 else
 (F_spec_l2Elements (n0) (l0)).bind fun r2 =>
 if (r2) = true then
 some (.inr ())
 else
 some (.inl ()) : Option (Unit ⊕ Unit))).bind fun t => match t with
 | (.inl _) => (some false)
 | (.inr _) => (ask ((0 : Int) ≤ n0 ∧ n0 ≤ (↑LIM : Int)) <|
 (loopO (F_spec_l2Perm_l1 l0 n0) ((0 : Int), List.replicate n0.toNat false)).bind fun t => match t with
 | (.inl _) => (some false)
 | (.inr _) => (some true))
theorem t_spec_l2Perm {l0 : (List Int)} {n0 : Int} {v : Bool} (h : F_spec_l2Perm l0 n0 = some v) : Ret Try.prog f_spec_l2Perm [(slr false 1 vint) l0, vint n0] (V.bool v) := by
  refine ret_vc k_spec_l2Perm (Nat.le_of_ble_eq_true rfl) ?_
  unfold F_spec_l2Perm at h
  refine CutQ.o (fun t : (Unit ⊕ Unit) => match t with | (.inl s) => (Ex.ret, [4], [(4, A.val (V.bool (false)))]) | (.inr s) => (Ex.normal, [0, 1], [(0, A.val ((slr false 1 vint) (l0))), (1, A.val (vint (n0)))])) h ?_ ?_
  · intro t h
    refine Len.map ?_
    refine Br.on h (fun p1 h => ?_) (fun p1 h => ?_)
    · refine Br.yes ?_
      refine Br.yes ?_
      refine Br.yes ?_
      refine Br.yes ?_
      refine Br.yes ?_
      cases h; exact ⟨rfl, rfl⟩
    refine Br.no ?_
    refine Br.no ?_
    refine CallQ.o V.bool (by rfl) h (fun r h => t_spec_l2Elements h) (fun r2 h => ?_)
    refine Br.no ?_
    refine Br.no ?_
    refine Br.flip ?_
    refine Br.ob h (fun p3 h => ?_) (fun p3 h => ?_)
    · cases h; exact ⟨rfl, rfl⟩
    cases h; exact ⟨rfl, rfl⟩
  rintro (⟨⟩ | ⟨⟩) h
  · try dsimp only at h
    cases h; exact (by rfl)
  try dsimp only at h
  refine Ask.o h fun p5 h => ?_
  refine MkQ.o V.bool (false) rfl ?_
  refine LoopQ.o [6, 5, 0, 1] (S_spec_l2Perm_l1 l0 n0) (T_spec_l2Perm_l1 l0 n0) h (fun s o h => b_spec_l2Perm_l1 s o h) (by first | rfl | simp [restrict, look, mulN_one, V.fz, fzL, V.up, upL, fzL_map, fz_slr, fz_at, slr]) (by rintro (_ | _) <;> rfl) ?_
  rintro (⟨⟩ | ⟨⟩) h
  · try dsimp only at h
    cases h; exact (by rfl)
  try dsimp only at h
  cases h; exact (by rfl)

noncomputable def F_spec_l23Good_l1 (p0 : SPoset) : Int → Option (Int ⊕ (Unit ⊕ Unit)) := fun x4 =>
 if x4 < (↑p0.Below.length : Int) then
 ask ((0 : Int) ≤ x4 ∧ x4 < (↑p0.Below.length : Int)) <|
 ask (InI ((↑p0.Below.length : Int) - (1 : Int))) <|
 (F_spec_l1Rising (nth p0.Below x4.toNat) ((0 : Int)) ((↑p0.Below.length : Int) - (1 : Int))).bind fun r5 =>
 if (r5) = true then
 ask ((0 : Int) ≤ x4 ∧ x4 < (↑p0.Below.length : Int)) <|
 (F_spec_l1Has (nth p0.Below x4.toNat) (x4)).bind fun r8 =>
 if (r8) = true then
 ask (InI (x4 + (1 : Int))) <|
 some (.inl (x4 + (1 : Int)))
 else
 some (.inr (.inl ()))
 else
 some (.inr (.inl ()))
 else
 some (.inr (.inr ()))
def S_spec_l23Good_l1 (p0 : SPoset) : Int → St := fun s => [(4, A.val (vint s)), (3, A.val (vint ((↑p0.Below.length : Int)))), (1, A.val ((rP true (rS_Poset false)) (p0)))]
def T_spec_l23Good_l1 (p0 : SPoset) : (Unit ⊕ Unit) → Tgt
 | (.inl _s) => (Ex.ret, [2], [(2, A.val (V.bool (false)))])
 | (.inr _s) => ((Ex.exit 0), [3, 1], [(3, A.val (vint ((↑p0.Below.length : Int)))), (1, A.val ((rP true (rS_Poset false)) (p0)))])
theorem b_spec_l23Good_l1 {p0 : SPoset} (x4 : Int) (o : Int ⊕ (Unit ⊕ Unit)) (h : F_spec_l23Good_l1 p0 x4 = some o) : vc Try.prog c_spec_l23Good_l1 (outQ [4, 3, 1] (S_spec_l23Good_l1 p0) (T_spec_l23Good_l1 p0) o) (S_spec_l23Good_l1 p0 x4) := by
  unfold F_spec_l23Good_l1 at h
  try dsimp only at h
  refine Br.od h (fun p2 h => ?_) (fun p2 h => ?_)
  · refine Cells.lit rfl rfl ?_
    refine Len.map ?_
    refine Ask.o h fun p3 h => ?_
    refine Elem.o (by first | omega | (simp [mulN] at *; omega)) ?_
    refine Ask.o h fun p4 h => ?_
    refine CallQ.o V.bool (by rfl) h (fun r h => t_spec_l1Rising h) (fun r5 h => ?_)
    refine Br.flip ?_
    refine Br.ob h (fun p6 h => ?_) (fun p6 h => ?_)
    · refine Br.no ?_
      refine Cells.lit rfl rfl ?_
      refine Br.no ?_
      refine Br.no ?_
      refine Len.map ?_
      refine Ask.o h fun p7 h => ?_
      refine Elem.o (by first | omega | (simp [mulN] at *; omega)) ?_
      refine Br.no ?_
      refine Br.no ?_
      refine Br.no ?_
      refine CallQ.o V.bool (by rfl) h (fun r h => t_spec_l1Has h) (fun r8 h => ?_)
      refine Br.no ?_
      refine Br.no ?_
      refine Br.flip ?_
      refine Br.ob h (fun p9 h => ?_) (fun p9 h => ?_)
      · refine Ask.o h fun p10 h => ?_
        cases h; exact ⟨rfl, rfl⟩
      cases h; exact ⟨rfl, rfl⟩
    refine Br.yes ?_
    refine Br.yes ?_
    refine Br.yes ?_
    refine Br.yes ?_
    refine Br.yes ?_
    refine Br.yes ?_
    refine Br.yes ?_
    refine Br.yes ?_
    refine Br.yes ?_
    cases h; exact ⟨rfl, rfl⟩
  cases h; exact ⟨rfl, rfl⟩

noncomputable def F_spec_l23Good_l2 (p0 : SPoset) (x5 : Int) : Int → Option (Int ⊕ (Unit ⊕ Unit)) := fun x6 =>
 ask ((0 : Int) ≤ x5 ∧ x5 < (↑p0.Below.length : Int)) <|
 if x6 < (↑(nth p0.Below x5.toNat).length : Int) then
 ask ((0 : Int) ≤ x5 ∧ x5 < (↑p0.Below.length : Int)) <|
 ask ((0 : Int) ≤ x6 ∧ x6 < (↑(nth p0.Below x5.toNat).length : Int)) <|
 if nth (nth p0.Below x5.toNat) x6.toNat ≠ x5 then
 ask ((0 : Int) ≤ nth (nth p0.Below x5.toNat) x6.toNat ∧ nth (nth p0.Below x5.toNat) x6.toNat < (↑p0.Below.length : Int)) <|
 (F_spec_l1Has (nth p0.Below (nth (nth p0.Below x5.toNat) x6.toNat).toNat) (x5)).bind fun r19 =>
 if (r19) = true then
 some (.inr (.inl ()))
 else
 ask ((0 : Int) ≤ nth (nth p0.Below x5.toNat) x6.toNat ∧ nth (nth p0.Below x5.toNat) x6.toNat < (↑p0.Below.length : Int)) <|
 ask ((0 : Int) ≤ x5 ∧ x5 < (↑p0.Below.length : Int)) <|
 (F_spec_l5Within (nth p0.Below (nth (nth p0.Below x5.toNat) x6.toNat).toNat) (nth p0.Below x5.toNat)).bind fun r23 =>
 if (r23) = true then
 ask (InI (x6 + (1 : Int))) <|
 some (.inl (x6 + (1 : Int)))
 else
 some (.inr (.inl ()))
 else
 ask ((0 : Int) ≤ nth (nth p0.Below x5.toNat) x6.toNat ∧ nth (nth p0.Below x5.toNat) x6.toNat < (↑p0.Below.length : Int)) <|
 ask ((0 : Int) ≤ x5 ∧ x5 < (↑p0.Below.length : Int)) <|
 (F_spec_l5Within (nth p0.Below (nth (nth p0.Below x5.toNat) x6.toNat).toNat) (nth p0.Below x5.toNat)).bind fun r28 =>
 if (r28) = true then
 ask (InI (x6 + (1 : Int))) <|
 some (.inl (x6 + (1 : Int)))
 else
 some (.inr (.inl ()))
 else
 some (.inr (.inr ()))
def S_spec_l23Good_l2 (p0 : SPoset) (x5 : Int) : Int → St := fun s => [(6, A.val (vint s)), (5, A.val (vint (x5))), (3, A.val (vint ((↑p0.Below.length : Int)))), (1, A.val ((rP true (rS_Poset false)) (p0)))]
def T_spec_l23Good_l2 (p0 : SPoset) (x5 : Int) : (Unit ⊕ Unit) → Tgt
 | (.inl _s) => (Ex.ret, [2], [(2, A.val (V.bool (false)))])
 | (.inr _s) => ((Ex.exit 4), [5, 3, 1], [(5, A.val (vint (x5))), (3, A.val (vint ((↑p0.Below.length : Int)))), (1, A.val ((rP true (rS_Poset false)) (p0)))])
theorem b_spec_l23Good_l2 {p0 : SPoset} {x5 : Int} (x6 : Int) (o : Int ⊕ (Unit ⊕ Unit)) (h : F_spec_l23Good_l2 p0 x5 x6 = some o) : vc Try.prog c_spec_l23Good_l2 (outQ [6, 5, 3, 1] (S_spec_l23Good_l2 p0 x5) (T_spec_l23Good_l2 p0 x5) o) (S_spec_l23Good_l2 p0 x5 x6) := by
  unfold F_spec_l23Good_l2 at h
  try dsimp only at h
  refine Cells.lit rfl rfl ?_
  refine Len.map ?_
  refine Ask.o h fun p13 h => ?_
  refine Elem.o (by first | omega | (simp [mulN] at *; omega)) ?_
  refine Len.map ?_
  refine Br.od h (fun p14 h => ?_) (fun p14 h => ?_)
  · refine Cells.lit rfl rfl ?_
    refine Len.map ?_
    refine Ask.o h fun p15 h => ?_
    refine Elem.o (by first | omega | (simp [mulN] at *; omega)) ?_
    refine Len.map ?_
    refine Ask.o h fun p16 h => ?_
    refine Elem.o (by first | omega | (simp [mulN] at *; omega)) ?_
    refine Br.on h (fun p17 h => ?_) (fun p17 h => ?_)
    · refine Br.yes ?_
      refine Cells.lit rfl rfl ?_
      refine Br.yes ?_
      refine Br.yes ?_
      refine Len.map ?_
      refine Ask.o h fun p18 h => ?_
      refine Elem.o (by first | omega | (simp [mulN] at *; omega)) ?_
      refine Br.yes ?_
      refine Br.yes ?_
      refine Br.yes ?_
      refine CallP.o V.bool (by rfl) h (fun r h => t_spec_l1Has h) (fun r19 h => ?_)
      refine Br.yes ?_
      refine Br.ob h (fun p20 h => ?_) (fun p20 h => ?_)
      · refine Br.yes ?_
        refine Br.yes ?_
        refine Br.yes ?_
        refine Br.yes ?_
        refine Br.yes ?_
        refine Br.yes ?_
        refine Br.yes ?_
        refine Br.yes ?_
        refine Br.yes ?_
        refine Br.yes ?_
        refine Br.yes ?_
        refine Br.yes ?_
        refine Br.yes ?_
        cases h; exact ⟨rfl, rfl⟩
      refine Br.no ?_
      refine Cells.lit rfl rfl ?_
      refine Br.no ?_
      refine Br.no ?_
      refine Len.map ?_
      refine Ask.o h fun p21 h => ?_
      refine Elem.o (by first | omega | (simp [mulN] at *; omega)) ?_
      refine Br.no ?_
      refine Br.no ?_
      refine Br.no ?_
      refine Cells.lit rfl rfl ?_
      refine Br.no ?_
      refine Br.no ?_
      refine Len.map ?_
      refine Ask.o h fun p22 h => ?_
      refine Elem.o (by first | omega | (simp [mulN] at *; omega)) ?_
      refine Br.no ?_
      refine Br.no ?_
      refine CallQ.o V.bool (by rfl) h (fun r h => t_spec_l5Within h) (fun r23 h => ?_)
      refine Br.no ?_
      refine Br.no ?_
      refine Br.flip ?_
      refine Br.ob h (fun p24 h => ?_) (fun p24 h => ?_)
      · refine Ask.o h fun p25 h => ?_
        cases h; exact ⟨rfl, rfl⟩
      cases h; exact ⟨rfl, rfl⟩
    refine Br.no ?_
    refine Br.no ?_
    refine Br.no ?_
    refine Br.no ?_
    refine Br.no ?_
    refine Br.no ?_
    refine Br.no ?_
    refine Br.no ?_
    refine Br.no ?_
    refine Cells.lit rfl rfl ?_
    refine Br.no ?_
    refine Br.no ?_
    refine Len.map ?_
    refine Ask.o h fun p26 h => ?_
    refine Elem.o (by first | omega | (simp [mulN] at *; omega)) ?_
    refine Br.no ?_
    refine Br.no ?_
    refine Br.no ?_
    refine Cells.lit rfl rfl ?_
    refine Br.no ?_
    refine Br.no ?_
    refine Len.map ?_
    refine Ask.o h fun p27 h => ?_
    refine Elem.o (by first | omega | (simp [mulN] at *; omega)) ?_
    refine Br.no ?_
    refine Br.no ?_
    refine CallQ.o V.bool (by rfl) h (fun r h => t_spec_l5Within h) (fun r28 h => ?_)
    refine Br.no ?_
    refine Br.no ?_
    refine Br.flip ?_
    refine Br.ob h (fun p29 h => ?_) (fun p29 h => ?_)
    · refine Ask.o h fun p30 h => ?_
      cases h; exact ⟨rfl, rfl⟩
    cases h; exact ⟨rfl, rfl⟩
  cases h; exact ⟨rfl, rfl⟩

noncomputable def F_spec_l23Good_l3 (p0 : SPoset) : Int → Option (Int ⊕ (Unit ⊕ Unit)) := fun x5 =>
 if x5 < (↑p0.Below.length : Int) then
 (loopO (F_spec_l23Good_l2 p0 x5) (0 : Int)).bind fun t => match t with
 | (.inl _) => (some (.inr (.inl ())))
 | (.inr _) => (ask (InI (x5 + (1 : Int))) <|
 some (.inl (x5 + (1 : Int))))
 else
 some (.inr (.inr ()))
def S_spec_l23Good_l3 (p0 : SPoset) : Int → St := fun s => [(5, A.val (vint s)), (3, A.val (vint ((↑p0.Below.length : Int)))), (1, A.val ((rP true (rS_Poset false)) (p0)))]
def T_spec_l23Good_l3 (_p0 : SPoset) : (Unit ⊕ Unit) → Tgt
 | (.inl _s) => (Ex.ret, [2], [(2, A.val (V.bool (false)))])
 | (.inr _s) => ((Ex.exit 2), [], [])
theorem b_spec_l23Good_l3 {p0 : SPoset} (x5 : Int) (o : Int ⊕ (Unit ⊕ Unit)) (h : F_spec_l23Good_l3 p0 x5 = some o) : vc Try.prog c_spec_l23Good_l3 (outQ [5, 3, 1] (S_spec_l23Good_l3 p0) (T_spec_l23Good_l3 p0) o) (S_spec_l23Good_l3 p0 x5) := by
  unfold F_spec_l23Good_l3 at h
  try dsimp only at h
  refine Br.od h (fun p12 h => ?_) (fun p12 h => ?_)
  · refine LoopQ.o [6, 5, 3, 1] (S_spec_l23Good_l2 p0 x5) (T_spec_l23Good_l2 p0 x5) h (fun s o h => b_spec_l23Good_l2 s o h) (by first | rfl | simp [restrict, look, mulN_one, V.fz, fzL, V.up, upL, fzL_map, fz_slr, fz_at, slr]) (by rintro (_ | _) <;> rfl) ?_
    rintro (⟨⟩ | ⟨⟩) h
    · try dsimp only at h
      cases h; exact ⟨rfl, rfl⟩
    try dsimp only at h
    refine Ask.o h fun p32 h => ?_
    cases h; exact ⟨rfl, rfl⟩
  cases h; exact ⟨rfl, rfl⟩

noncomputable def F_spec_l23Good (p0 : SPoset) : Option Bool :=
 if (↑p0.Below.length : Int) > (10 : Int) then
 some false
 else
 (loopO (F_spec_l23Good_l1 p0) (0 : Int)).bind fun t => match t with
 | (.inl _) => (some false)
 | (.inr _) => ((loopO (F_spec_l23Good_l3 p0) (0 : Int)).bind fun t => match t with
 | (.inl _) => (some false)
 | (.inr _) => (some true))
theorem t_spec_l23Good {p0 : SPoset} {v : Bool} (h : F_spec_l23Good p0 = some v) : Ret Try.prog f_spec_l23Good [(rS_Poset false) p0] (V.bool v) := by
  refine ret_vc k_spec_l23Good (Nat.le_of_ble_eq_true rfl) ?_
  unfold F_spec_l23Good at h
  refine Cells.lit rfl rfl ?_
  refine Len.map ?_
  refine Br.od h (fun p1 h => ?_) (fun p1 h => ?_)
  · cases h; exact (by rfl)
  refine LoopQ.o [4, 3, 1] (S_spec_l23Good_l1 p0) (T_spec_l23Good_l1 p0) h (fun s o h => b_spec_l23Good_l1 s o h) (by first | rfl | simp [restrict, look, mulN_one, V.fz, fzL, V.up, upL, fzL_map, fz_slr, fz_at, slr]) (by rintro (_ | _) <;> rfl) ?_
  rintro (⟨⟩ | ⟨⟩) h
  · try dsimp only at h
    cases h; exact (by rfl)
  try dsimp only at h
  refine LoopQ.o [5, 3, 1] (S_spec_l23Good_l3 p0) (T_spec_l23Good_l3 p0) h (fun s o h => b_spec_l23Good_l3 s o h) (by first | rfl | simp [restrict, look, mulN_one, V.fz, fzL, V.up, upL, fzL_map, fz_slr, fz_at, slr]) (by rintro (_ | _) <;> rfl) ?_
  rintro (⟨⟩ | ⟨⟩) h
  · try dsimp only at h
    cases h; exact (by rfl)
  try dsimp only at h
  cases h; exact (by rfl)

end Go.Proofs.Ytoikbcagaanhgaa.Ax
