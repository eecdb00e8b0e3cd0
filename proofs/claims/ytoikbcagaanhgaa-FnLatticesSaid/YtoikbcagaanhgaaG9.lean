/-
  What the functions compute, as functions on plain data, and that the program does compute it; written by program.
-/
import Derived.Test.YtoikbcagaanhgaaCode
import Derived.Test.YtoikbcagaanhgaaG1
import Derived.Test.YtoikbcagaanhgaaG2
import Derived.Test.YtoikbcagaanhgaaG5
import Derived.Test.YtoikbcagaanhgaaG6
import Derived.Test.YtoikbcagaanhgaaG7
import Derived.Test.YtoikbcagaanhgaaG8
namespace Go.Proofs.Ytoikbcagaanhgaa.Ax
open Go
set_option maxRecDepth 100000
set_option maxHeartbeats 4000000

noncomputable def F_spec_l24Bound_l1 (p0 : SPoset) (some0 : List Int) (x6 : Int) (_x5 : List Int) : (Int × Bool) → Option ((Int × Bool) ⊕ Bool) := fun (x8, x7) =>
 if x8 < (↑some0.length : Int) then
 if (x7) = true then
 ask ((0 : Int) ≤ x8 ∧ x8 < (↑some0.length : Int)) <|
 (F_spec_l23Leq (p0) (x6) (nth some0 x8.toNat)).bind fun r5 =>
 ask (InI (x8 + (1 : Int))) <|
 some (.inl (x8 + (1 : Int), r5))
 else
 ask (InI (x8 + (1 : Int))) <|
 some (.inl (x8 + (1 : Int), false))
 else
 some (.inr x7)
def S_spec_l24Bound_l1 (p0 : SPoset) (some0 : List Int) (x6 : Int) (x5 : List Int) : (Int × Bool) → St := fun s => [(8, A.val (vint s.1)), (7, A.val (V.bool s.2)), (6, A.val (vint (x6))), (5, A.val ((slr true 1 vint) (x5))), (2, A.val ((rP true (rS_Poset false)) (p0))), (1, A.val ((slr false 1 vint) (some0)))]
def T_spec_l24Bound_l1 (p0 : SPoset) (some0 : List Int) (x6 : Int) (x5 : List Int) : Bool → Tgt
 | s => ((Ex.exit 2), [7, 6, 5, 2, 1], [(7, A.val (V.bool s)), (6, A.val (vint (x6))), (5, A.val ((slr true 1 vint) (x5))), (2, A.val ((rP true (rS_Poset false)) (p0))), (1, A.val ((slr false 1 vint) (some0)))])
theorem b_spec_l24Bound_l1 {p0 : SPoset} {some0 : List Int} {x6 : Int} {x5 : List Int} (s : (Int × Bool)) (o : (Int × Bool) ⊕ Bool) (h : F_spec_l24Bound_l1 p0 some0 x6 x5 s = some o) : vc Try.prog c_spec_l24Bound_l1 (outQ [8, 7, 6, 5, 2, 1] (S_spec_l24Bound_l1 p0 some0 x6 x5) (T_spec_l24Bound_l1 p0 some0 x6 x5) o) (S_spec_l24Bound_l1 p0 some0 x6 x5 s) := by
  obtain ⟨x8, x7⟩ := s
  unfold F_spec_l24Bound_l1 at h
  try dsimp only at h
  refine Len.map ?_
  refine Br.od h (fun p2 h => ?_) (fun p2 h => ?_)
  · refine Br.ob h (fun p3 h => ?_) (fun p3 h => ?_)
    · refine Cells.lit rfl rfl ?_
      refine Br.yes ?_
      refine Br.yes ?_
      refine Br.yes ?_
      refine Br.yes ?_
      refine Len.map ?_
      refine Ask.o h fun p4 h => ?_
      refine Elem.o (by first | omega | (simp [mulN] at *; omega)) ?_
      refine Br.yes ?_
      refine Br.yes ?_
      refine CallQ.o V.bool (by rfl) h (fun r h => t_spec_l23Leq h) (fun r5 h => ?_)
      refine Br.yes ?_
      refine Ask.o h fun p6 h => ?_
      cases h; exact ⟨rfl, rfl⟩
    refine Br.no ?_
    refine Br.no ?_
    refine Br.no ?_
    refine Br.no ?_
    refine Br.no ?_
    refine Br.no ?_
    refine Br.no ?_
    refine Ask.o h fun p7 h => ?_
    cases h; exact ⟨rfl, rfl⟩
  cases h; exact ⟨rfl, rfl⟩

noncomputable def F_spec_l24Bound_l2 (p0 : SPoset) (some0 : List Int) : (Int × (List Int)) → Option ((Int × (List Int)) ⊕ (List Int)) := fun (x6, x5) =>
 if x6 < (↑p0.Below.length : Int) then
 (loopO (F_spec_l24Bound_l1 p0 some0 x6 x5) ((0 : Int), true)).bind fun q8_7 =>
 if (q8_7) = true then
 ask ((x5).length + ([x6]).length ≤ LIM) <|
 ask (InI (x6 + (1 : Int))) <|
 some (.inl (x6 + (1 : Int), x5 ++ [x6]))
 else
 ask (InI (x6 + (1 : Int))) <|
 some (.inl (x6 + (1 : Int), x5))
 else
 some (.inr x5)
def S_spec_l24Bound_l2 (p0 : SPoset) (some0 : List Int) : (Int × (List Int)) → St := fun s => [(6, A.val (vint s.1)), (5, A.val ((slr true 1 vint) s.2)), (2, A.val ((rP true (rS_Poset false)) (p0))), (1, A.val ((slr false 1 vint) (some0)))]
def T_spec_l24Bound_l2 (p0 : SPoset) (_some0 : List Int) : (List Int) → Tgt
 | s => ((Ex.exit 0), [5, 2], [(5, A.val ((slr true 1 vint) s)), (2, A.val ((rP true (rS_Poset false)) (p0)))])
theorem b_spec_l24Bound_l2 {p0 : SPoset} {some0 : List Int} (s : (Int × (List Int))) (o : (Int × (List Int)) ⊕ (List Int)) (h : F_spec_l24Bound_l2 p0 some0 s = some o) : vc Try.prog c_spec_l24Bound_l2 (outQ [6, 5, 2, 1] (S_spec_l24Bound_l2 p0 some0) (T_spec_l24Bound_l2 p0 some0) o) (S_spec_l24Bound_l2 p0 some0 s) := by
  obtain ⟨x6, x5⟩ := s
  unfold F_spec_l24Bound_l2 at h
  try dsimp only at h
  refine Cells.lit rfl rfl ?_
  refine Len.map ?_
  refine Br.od h (fun p1 h => ?_) (fun p1 h => ?_)
  · refine LoopQ.o [8, 7, 6, 5, 2, 1] (S_spec_l24Bound_l1 p0 some0 x6 x5) (T_spec_l24Bound_l1 p0 some0 x6 x5) h (fun s o h => b_spec_l24Bound_l1 s o h) (by first | rfl | simp [restrict, look, mulN_one, V.fz, fzL, V.up, upL, fzL_map, fz_slr, fz_at, slr]) (fun _ => rfl) ?_
    rintro q8_7 h
    try dsimp only at h
    refine Br.ob h (fun p9 h => ?_) (fun p9 h => ?_)
    · refine BslQ.o vint [x6] (by exact fun _ => ⟨rfl, rfl⟩) (by rfl) ?_
      refine NoOwn.o (fun _ => rfl) ?_
      refine AppQ.o (m := 1) vint (by exact fun _ => ⟨rfl, rfl⟩) (x5) ([x6]) (by rfl) (by rfl) h fun h => ?_
      refine Ask.o h fun p10 h => ?_
      cases h; exact ⟨rfl, rfl⟩
    refine Ask.o h fun p11 h => ?_
    cases h; exact ⟨rfl, rfl⟩
  cases h; exact ⟨rfl, rfl⟩

noncomputable def F_spec_l24Bound_l3 (p0 : SPoset) (q12_5 : List Int) : Int → Option (Int ⊕ (Int ⊕ Unit)) := fun x9 =>
 if x9 < (↑q12_5.length : Int) then
 ask ((0 : Int) ≤ x9 ∧ x9 < (↑q12_5.length : Int)) <|
 ask ((0 : Int) ≤ nth q12_5 x9.toNat ∧ nth q12_5 x9.toNat < (↑p0.Below.length : Int)) <|
 (F_spec_l5Within (q12_5) (nth p0.Below (nth q12_5 x9.toNat).toNat)).bind fun r16 =>
 if (r16) = true then
 ask ((0 : Int) ≤ x9 ∧ x9 < (↑q12_5.length : Int)) <|
 some (.inr (.inl (nth q12_5 x9.toNat)))
 else
 ask (InI (x9 + (1 : Int))) <|
 some (.inl (x9 + (1 : Int)))
 else
 some (.inr (.inr ()))
def S_spec_l24Bound_l3 (p0 : SPoset) (q12_5 : List Int) : Int → St := fun s => [(9, A.val (vint s)), (5, A.val ((slr true 1 vint) (q12_5))), (2, A.val ((rP true (rS_Poset false)) (p0)))]
def T_spec_l24Bound_l3 (_p0 : SPoset) (_q12_5 : List Int) : (Int ⊕ Unit) → Tgt
 | (.inl s) => (Ex.ret, [4], [(4, A.val (vint s))])
 | (.inr _s) => ((Ex.exit 4), [], [])
theorem b_spec_l24Bound_l3 {p0 : SPoset} {q12_5 : List Int} (x9 : Int) (o : Int ⊕ (Int ⊕ Unit)) (h : F_spec_l24Bound_l3 p0 q12_5 x9 = some o) : vc Try.prog c_spec_l24Bound_l3 (outQ [9, 5, 2] (S_spec_l24Bound_l3 p0 q12_5) (T_spec_l24Bound_l3 p0 q12_5) o) (S_spec_l24Bound_l3 p0 q12_5 x9) := by
  unfold F_spec_l24Bound_l3 at h
  try dsimp only at h
  refine Len.map ?_
  refine Br.od h (fun p13 h => ?_) (fun p13 h => ?_)
  · refine Cells.lit rfl rfl ?_
    refine Len.map ?_
    refine Ask.o h fun p14 h => ?_
    refine Cells.one (fun _ => ⟨rfl, rfl⟩) (by first | omega | (simp [mulN] at *; omega)) ?_
    refine Len.map ?_
    refine Ask.o h fun p15 h => ?_
    refine Elem.o (by first | omega | (simp [mulN] at *; omega)) ?_
    refine CallQ.rd V.bool (by first | rfl | simp only [mulN_one, V.fz, fzL_map, slr] | simp [mulN_one, V.fz, fzL, V.up, upL, fzL_map, fz_slr, fz_at, slr]) (fun _ => rfl) h (fun r h => t_spec_l5Within h) (fun r16 h => ?_)
    refine Br.ob h (fun p17 h => ?_) (fun p17 h => ?_)
    · refine Len.map ?_
      refine Ask.o h fun p18 h => ?_
      refine Cells.one (fun _ => ⟨rfl, rfl⟩) (by first | omega | (simp [mulN] at *; omega)) ?_
      cases h; exact ⟨rfl, rfl⟩
    refine Ask.o h fun p19 h => ?_
    cases h; exact ⟨rfl, rfl⟩
  cases h; exact ⟨rfl, rfl⟩

noncomputable def F_spec_l24Bound (p0 : SPoset) (some0 : (List Int)) : Option Int :=
 (loopO (F_spec_l24Bound_l2 p0 some0) ((0 : Int), nilL Int)).bind fun q12_5 =>
 (loopO (F_spec_l24Bound_l3 p0 q12_5) (0 : Int)).bind fun t => match t with
 | (.inl q20_4) => (some q20_4)
 | (.inr _) => (some (-1 : Int))
theorem t_spec_l24Bound {p0 : SPoset} {some0 : (List Int)} {v : Int} (h : F_spec_l24Bound p0 some0 = some v) : Ret Try.prog f_spec_l24Bound [(rS_Poset false) p0, (slr false 1 vint) some0] (vint v) := by
  refine ret_vc k_spec_l24Bound (Nat.le_of_ble_eq_true rfl) ?_
  unfold F_spec_l24Bound at h
  refine BslQ.o vint (nilL Int) (by exact fun _ => ⟨rfl, rfl⟩) (by rfl) ?_
  refine LoopQ.o [6, 5, 2, 1] (S_spec_l24Bound_l2 p0 some0) (T_spec_l24Bound_l2 p0 some0) h (fun s o h => b_spec_l24Bound_l2 s o h) (by first | rfl | simp [restrict, look, mulN_one, V.fz, fzL, V.up, upL, fzL_map, fz_slr, fz_at, slr]) (fun _ => rfl) ?_
  rintro q12_5 h
  try dsimp only at h
  refine LoopQ.o [9, 5, 2] (S_spec_l24Bound_l3 p0 q12_5) (T_spec_l24Bound_l3 p0 q12_5) h (fun s o h => b_spec_l24Bound_l3 s o h) (by first | rfl | simp [restrict, look, mulN_one, V.fz, fzL, V.up, upL, fzL_map, fz_slr, fz_at, slr]) (by rintro (_ | _) <;> rfl) ?_
  rintro (q20_4 | ⟨⟩) h
  · try dsimp only at h
    cases h; exact (by rfl)
  try dsimp only at h
  cases h; exact (by rfl)

noncomputable def F_impl_order_upperCovers_1 (y0 : Int) (a1 : (List (List Bool))) (a2 : Int) : Option Bool :=
 (F_impl_order_covers (a1) (a2) (y0)).bind fun r1 =>
 some r1
theorem t_impl_order_upperCovers_1 {y0 : Int} {a1 : (List (List Bool))} {a2 : Int} {v : Bool} (h : F_impl_order_upperCovers_1 y0 a1 a2 = some v) : Ret Try.prog f_impl_order_upperCovers_1 [vint y0, (rP false (slr false 1 (slr false 1 V.bool))) a1, (rP false vint) a2] (V.bool v) := by
  refine ret_vc k_impl_order_upperCovers_1 (Nat.le_of_ble_eq_true rfl) ?_
  unfold F_impl_order_upperCovers_1 at h
  refine CallQ.o V.bool (by rfl) h (fun r h => t_impl_order_covers h) (fun r1 h => ?_)
  cases h; exact (by rfl)

noncomputable def F_spec_l23Less (p0 : SPoset) (x0 : Int) (y0 : Int) : Option Bool :=
 if x0 ≠ y0 then
 (F_spec_l23Leq (p0) (x0) (y0)).bind fun r2 =>
 some r2
 else
 some false
theorem t_spec_l23Less {p0 : SPoset} {x0 : Int} {y0 : Int} {v : Bool} (h : F_spec_l23Less p0 x0 y0 = some v) : Ret Try.prog f_spec_l23Less [(rS_Poset false) p0, vint x0, vint y0] (V.bool v) := by
  refine ret_vc k_spec_l23Less (Nat.le_of_ble_eq_true rfl) ?_
  unfold F_spec_l23Less at h
  refine Br.on h (fun p1 h => ?_) (fun p1 h => ?_)
  · refine Cells.lit rfl rfl ?_
    refine Br.yes ?_
    refine Br.yes ?_
    refine Br.yes ?_
    refine CallQ.o V.bool (by rfl) h (fun r h => t_spec_l23Leq h) (fun r2 h => ?_)
    refine Br.yes ?_
    cases h; exact (by rfl)
  refine Br.no ?_
  refine Br.no ?_
  refine Br.no ?_
  refine Br.no ?_
  cases h; exact (by rfl)

noncomputable def F_impl_order_lowerCovers_1 (y0 : Int) (a1 : (List (List Bool))) (a2 : Int) : Option Bool :=
 (F_impl_order_covers (a1) (y0) (a2)).bind fun r1 =>
 some r1
theorem t_impl_order_lowerCovers_1 {y0 : Int} {a1 : (List (List Bool))} {a2 : Int} {v : Bool} (h : F_impl_order_lowerCovers_1 y0 a1 a2 = some v) : Ret Try.prog f_impl_order_lowerCovers_1 [vint y0, (rP false (slr false 1 (slr false 1 V.bool))) a1, (rP false vint) a2] (V.bool v) := by
  refine ret_vc k_impl_order_lowerCovers_1 (Nat.le_of_ble_eq_true rfl) ?_
  unfold F_impl_order_lowerCovers_1 at h
  refine CallQ.o V.bool (by rfl) h (fun r h => t_impl_order_covers h) (fun r1 h => ?_)
  cases h; exact (by rfl)

noncomputable def F_impl_IsLattice (p0 : SPoset) : Option Bool :=
 (F_impl_latticeOf (p0)).bind fun t => match t with
 | (none, r1_2) => (some r1_2)
 | ((some _r1_1), r1_2) => (some r1_2)
theorem t_impl_IsLattice {p0 : SPoset} {v : Bool} (h : F_impl_IsLattice p0 = some v) : Ret Try.prog f_impl_IsLattice [(rS_Poset false) p0] (V.bool v) := by
  refine ret_vc k_impl_IsLattice (Nat.le_of_ble_eq_true rfl) ?_
  unfold F_impl_IsLattice at h
  refine Cells.lit rfl rfl ?_
  refine CallQ.o (fun r => V.tup [(rO true (rS_lattice true)) r.1, V.bool r.2]) (by rfl) h (fun r h => t_impl_latticeOf h) (fun r1 h => ?_)
  rcases r1 with ⟨(_ | r1_1), r1_2⟩
  · try dsimp only at h
    cases h; exact (by rfl)
  try dsimp only at h
  cases h; exact (by rfl)

noncomputable def F_impl_EndsOf (p0 : SPoset) : Option (Int × Int × Bool) :=
 (F_impl_latticeOf (p0)).bind fun t => match t with
 | (none, r1_2) => (if (r1_2) = true then
 none
 else
 some ((0 : Int), (0 : Int), false))
 | ((some r1_1), r1_2) => (if (r1_2) = true then
 (F_impl_lattice_bottom (r1_1)).bind fun r4 =>
 (F_impl_lattice_top (r1_1)).bind fun r5 =>
 some (r4, r5, true)
 else
 some ((0 : Int), (0 : Int), false))
theorem t_impl_EndsOf {p0 : SPoset} {v : (Int × Int × Bool)} (h : F_impl_EndsOf p0 = some v) : Ret Try.prog f_impl_EndsOf [(rS_Poset false) p0] ((fun r => V.tup [vint r.1, vint r.2.1, V.bool r.2.2]) v) := by
  refine ret_vc k_impl_EndsOf (Nat.le_of_ble_eq_true rfl) ?_
  unfold F_impl_EndsOf at h
  refine Cells.lit rfl rfl ?_
  refine CallQ.o (fun r => V.tup [(rO true (rS_lattice true)) r.1, V.bool r.2]) (by rfl) h (fun r h => t_impl_latticeOf h) (fun r1 h => ?_)
  rcases r1 with ⟨(_ | r1_1), r1_2⟩
  · try dsimp only at h
    refine Br.flip ?_
    refine Br.ob h (fun p2 h => ?_) (fun p2 h => ?_)
    · cases h
    cases h; exact (by rfl)
  try dsimp only at h
  refine Br.flip ?_
  refine Br.ob h (fun p3 h => ?_) (fun p3 h => ?_)
  · refine CallQ.rd vint (by first | rfl | simp only [V.fz, fzL, fzL_map] | simp [mulN_one, V.fz, fzL, V.up, upL, fzL_map, fz_slr, fz_at, slr]) (fun _ => rfl) h (fun r h => t_impl_lattice_bottom h) (fun r4 h => ?_)
    refine CallQ.rd vint (by first | rfl | simp only [V.fz, fzL, fzL_map] | simp [mulN_one, V.fz, fzL, V.up, upL, fzL_map, fz_slr, fz_at, slr]) (fun _ => rfl) h (fun r h => t_impl_lattice_top h) (fun r5 h => ?_)
    cases h; exact (by rfl)
  cases h; exact (by rfl)

noncomputable def F_impl_LatticeAlgebra (p0 : SPoset) : Option (SAlgebra × Bool) :=
 (F_impl_latticeOf (p0)).bind fun t => match t with
 | (none, r1_2) => (if (r1_2) = true then
 none
 else
 some ({ Size := (0 : Int), Ops := nilL SOp }, false))
 | ((some r1_1), r1_2) => (if (r1_2) = true then
 if (↑r1_1.order.length : Int) > (8 : Int) then
 some ({ Size := (0 : Int), Ops := nilL SOp }, false)
 else
 (F_impl_lattice_algebra (r1_1)).bind fun r5 =>
 some (r5, true)
 else
 some ({ Size := (0 : Int), Ops := nilL SOp }, false))
theorem t_impl_LatticeAlgebra {p0 : SPoset} {v : (SAlgebra × Bool)} (h : F_impl_LatticeAlgebra p0 = some v) : Ret Try.prog f_impl_LatticeAlgebra [(rS_Poset false) p0] ((fun r => V.tup [(rS_Algebra true) r.1, V.bool r.2]) v) := by
  refine ret_vc k_impl_LatticeAlgebra (Nat.le_of_ble_eq_true rfl) ?_
  unfold F_impl_LatticeAlgebra at h
  refine Cells.lit rfl rfl ?_
  refine CallQ.o (fun r => V.tup [(rO true (rS_lattice true)) r.1, V.bool r.2]) (by rfl) h (fun r h => t_impl_latticeOf h) (fun r1 h => ?_)
  rcases r1 with ⟨(_ | r1_1), r1_2⟩
  · try dsimp only at h
    refine Br.flip ?_
    refine Br.ob h (fun p2 h => ?_) (fun p2 h => ?_)
    · refine Br.no ?_
      cases h
    refine Br.yes ?_
    refine Br.yes ?_
    refine Br.yes ?_
    refine Br.yes ?_
    refine Br.yes ?_
    refine Br.yes ?_
    refine Br.yes ?_
    refine SetKids.lit rfl ?_
    cases h; exact (by rfl)
  try dsimp only at h
  refine Br.flip ?_
  refine Br.ob h (fun p3 h => ?_) (fun p3 h => ?_)
  · refine Br.no ?_
    refine Br.no ?_
    refine Br.no ?_
    refine Cells.lit rfl rfl ?_
    refine Br.no ?_
    refine Kid.lit rfl rfl ?_
    refine Len.map ?_
    refine Br.no ?_
    refine Br.no ?_
    refine Br.od h (fun p4 h => ?_) (fun p4 h => ?_)
    · refine SetKids.lit rfl ?_
      cases h; exact (by rfl)
    refine CallQ.rd (rS_Algebra true) (by first | rfl | simp only [V.fz, fzL, fzL_map] | simp [mulN_one, V.fz, fzL, V.up, upL, fzL_map, fz_slr, fz_at, slr]) (fun _ => by simp [V.noFz, noFzL, noFzL_map]) h (fun r h => t_impl_lattice_algebra h) (fun r5 h => ?_)
    refine SetKids.lit rfl ?_
    cases h; exact (by rfl)
  refine Br.yes ?_
  refine Br.yes ?_
  refine Br.yes ?_
  refine Br.yes ?_
  refine Br.yes ?_
  refine Br.yes ?_
  refine Br.yes ?_
  refine SetKids.lit rfl ?_
  cases h; exact (by rfl)

noncomputable def F_laws_rAlgebra (a0 : SAlgebra) (b0 : SAlgebra) : Option Bool :=
 if a0.Size = b0.Size then
 (F_laws_rOps (a0.Ops) (b0.Ops)).bind fun r2 =>
 some r2
 else
 some false
theorem t_laws_rAlgebra {a0 : SAlgebra} {b0 : SAlgebra} {v : Bool} (h : F_laws_rAlgebra a0 b0 = some v) : Ret Try.prog f_laws_rAlgebra [(rS_Algebra false) a0, (rS_Algebra false) b0] (V.bool v) := by
  refine ret_vc k_laws_rAlgebra (Nat.le_of_ble_eq_true rfl) ?_
  unfold F_laws_rAlgebra at h
  refine Cells.lit rfl rfl ?_
  refine Cells.lit rfl rfl ?_
  refine Br.oe h (fun p1 h => ?_) (fun p1 h => ?_)
  · refine Br.yes ?_
    refine Cells.lit rfl rfl ?_
    refine Br.yes ?_
    refine Br.yes ?_
    refine Cells.lit rfl rfl ?_
    refine Br.yes ?_
    refine CallQ.o V.bool (by rfl) h (fun r h => t_laws_rOps h) (fun r2 h => ?_)
    refine Br.yes ?_
    cases h; exact (by rfl)
  refine Br.no ?_
  refine Br.no ?_
  refine Br.no ?_
  refine Br.no ?_
  refine Br.no ?_
  cases h; exact (by rfl)

noncomputable def F_impl_LatticeOf (a0 : SAlgebra) : Option (SPoset × Bool) :=
 (((F_impl_IsAlgebra (a0)).bind fun r1 =>
 if (r1) = true then
 (F_impl_typeOf (a0)).bind fun r3 =>
 (F_impl_sameList (r3) ([(2 : Int), (2 : Int)])).bind fun r4 =>
 if (r4) = true then
 some (.inl ())
 else
 some (.inr ())
 else
 some (.inr ()) : Option (Unit ⊕ Unit))).bind fun t => match t with
 | (.inl _) => (ask ((0 : Int) ≤ (0 : Int) ∧ (0 : Int) < (↑a0.Ops.length : Int)) <|
 (F_impl_orderOfMeet (a0.Size) ((nth a0.Ops (Int.toNat (0 : Int))).Table)).bind fun r8 =>
 (F_impl_order_poset (r8)).bind fun r9 =>
 (F_impl_latticeOf (r9)).bind fun t => match t with
 | (none, r10_2) => (if (r10_2) = true then
 none
 else
 some ({ Below := nilL (List Int) }, false))
 | ((some r10_1), r10_2) => (if (r10_2) = true then
 (F_impl_lattice_algebra (r10_1)).bind fun r13 =>
 (F_impl_sameAlgebra (r13) (a0)).bind fun r14 =>
 if (r14) = true then
 some (r9, true)
 else
 some ({ Below := nilL (List Int) }, false)
 else
 some ({ Below := nilL (List Int) }, false)))
 | (.inr _) => (some ({ Below := nilL (List Int) }, false))
theorem t_impl_LatticeOf {a0 : SAlgebra} {v : (SPoset × Bool)} (h : F_impl_LatticeOf a0 = some v) : Ret Try.prog f_impl_LatticeOf [(rS_Algebra false) a0] ((fun r => V.tup [(rS_Poset true) r.1, V.bool r.2]) v) := by
  refine ret_vc k_impl_LatticeOf (Nat.le_of_ble_eq_true rfl) ?_
  unfold F_impl_LatticeOf at h
  refine CutQ.o (fun t : (Unit ⊕ Unit) => match t with | (.inl s) => (Ex.normal, [2, 1], [(2, A.val ((rP true (rS_Poset true)) ({ Below := nilL (List Int) }))), (1, A.val ((rP true (rS_Algebra false)) (a0)))]) | (.inr s) => (Ex.ret, [3, 2], [(3, A.val (V.bool (false))), (2, A.val ((rP true (rS_Poset true)) ({ Below := nilL (List Int) })))])) h ?_ ?_
  · intro t h
    refine Cells.lit rfl rfl ?_
    refine CallQ.o V.bool (by rfl) h (fun r h => t_impl_IsAlgebra h) (fun r1 h => ?_)
    refine Br.flip ?_
    refine Br.ob h (fun p2 h => ?_) (fun p2 h => ?_)
    · refine Cells.lit rfl rfl ?_
      refine Br.no ?_
      refine CallQ.o (slr true 1 vint) (by rfl) h (fun r h => t_impl_typeOf h) (fun r3 h => ?_)
      refine Br.no ?_
      refine BslQ.o vint ([(2 : Int), (2 : Int)]) (by exact fun _ => ⟨rfl, rfl⟩) (by rfl) ?_
      refine Br.no ?_
      refine CallQ.rd V.bool (by first | rfl | simp only [V.fz, fzL_map, slr] | simp [mulN_one, V.fz, fzL, V.up, upL, fzL_map, fz_slr, fz_at, slr]) (fun _ => rfl) h (fun r h => t_impl_sameList h) (fun r4 h => ?_)
      refine Br.no ?_
      refine Br.no ?_
      refine Br.flip ?_
      refine Br.ob h (fun p5 h => ?_) (fun p5 h => ?_)
      · cases h; exact ⟨rfl, rfl⟩
      refine SetKids.lit rfl ?_
      cases h; exact ⟨rfl, rfl⟩
    refine Br.yes ?_
    refine Br.yes ?_
    refine Br.yes ?_
    refine Br.yes ?_
    refine Br.yes ?_
    refine Br.yes ?_
    refine SetKids.lit rfl ?_
    cases h; exact ⟨rfl, rfl⟩
  rintro (⟨⟩ | ⟨⟩) h
  · try dsimp only at h
    refine Cells.lit rfl rfl ?_
    refine Cells.lit rfl rfl ?_
    refine Len.map ?_
    refine Ask.o h fun p7 h => ?_
    refine Elem.o (by first | omega | (simp [mulN] at *; omega)) ?_
    refine CallP.o (slr true 1 (slr true 1 V.bool)) (by rfl) h (fun r h => t_impl_orderOfMeet h) (fun r8 h => ?_)
    refine CallP.rd (rS_Poset true) (by first | rfl | simp only [V.fz, fzL_map, slr] | simp [mulN_one, V.fz, fzL, V.up, upL, fzL_map, fz_slr, fz_at, slr]) (fun _ => by simp [V.noFz, noFzL, noFzL_map]) h (fun r h => t_impl_order_poset h) (fun r9 h => ?_)
    refine SetKids.lit rfl ?_
    refine Cells.lit rfl rfl ?_
    refine CallQ.rd (fun r => V.tup [(rO true (rS_lattice true)) r.1, V.bool r.2]) (by first | rfl | simp only [V.fz, fzL_map] | simp [mulN_one, V.fz, fzL, V.up, upL, fzL_map, fz_slr, fz_at, slr]) (fun _ => by simp [V.noFz, noFzL, NoFz.eq]) h (fun r h => t_impl_latticeOf h) (fun r10 h => ?_)
    rcases r10 with ⟨(_ | r10_1), r10_2⟩
    · try dsimp only at h
      refine Br.flip ?_
      refine Br.ob h (fun p11 h => ?_) (fun p11 h => ?_)
      · refine Br.no ?_
        cases h
      refine Br.yes ?_
      refine Br.yes ?_
      refine Br.yes ?_
      refine Br.yes ?_
      refine Br.yes ?_
      refine Br.yes ?_
      refine SetKids.lit rfl ?_
      cases h; exact (by rfl)
    try dsimp only at h
    refine Br.flip ?_
    refine Br.ob h (fun p12 h => ?_) (fun p12 h => ?_)
    · refine Br.no ?_
      refine CallP.rd (rS_Algebra true) (by first | rfl | simp only [V.fz, fzL, fzL_map] | simp [mulN_one, V.fz, fzL, V.up, upL, fzL_map, fz_slr, fz_at, slr]) (fun _ => by simp [V.noFz, noFzL, noFzL_map]) h (fun r h => t_impl_lattice_algebra h) (fun r13 h => ?_)
      refine Br.no ?_
      refine Cells.lit rfl rfl ?_
      refine Br.no ?_
      refine CallQ.rd V.bool (by first | rfl | simp only [V.fz, fzL, fzL_map] | simp [mulN_one, V.fz, fzL, V.up, upL, fzL_map, fz_slr, fz_at, slr]) (fun _ => rfl) h (fun r h => t_impl_sameAlgebra h) (fun r14 h => ?_)
      refine Br.no ?_
      refine Br.no ?_
      refine Br.flip ?_
      refine Br.ob h (fun p15 h => ?_) (fun p15 h => ?_)
      · refine Cells.lit rfl rfl ?_
        refine SetKids.lit rfl ?_
        cases h; exact (by rfl)
      refine SetKids.lit rfl ?_
      cases h; exact (by rfl)
    refine Br.yes ?_
    refine Br.yes ?_
    refine Br.yes ?_
    refine Br.yes ?_
    refine Br.yes ?_
    refine Br.yes ?_
    refine SetKids.lit rfl ?_
    cases h; exact (by rfl)
  try dsimp only at h
  cases h; exact (by rfl)

noncomputable def F_impl_JoinAll (p0 : SPoset) (some0 : (List Int)) : Option (Int × Bool) :=
 (F_impl_latticeOf (p0)).bind fun t => match t with
 | (none, r1_2) => (if (r1_2) = true then
 if (↑some0.length : Int) > (20 : Int) then
 some ((0 : Int), false)
 else
 none
 else
 some ((0 : Int), false))
 | ((some r1_1), r1_2) => (if (r1_2) = true then
 if (↑some0.length : Int) > (20 : Int) then
 some ((0 : Int), false)
 else
 (F_impl_order_has (r1_1.order) (some0)).bind fun r6 =>
 if (r6) = true then
 (F_impl_lattice_joinAll (r1_1) (some0)).bind fun r8 =>
 some (r8, true)
 else
 some ((0 : Int), false)
 else
 some ((0 : Int), false))
theorem t_impl_JoinAll {p0 : SPoset} {some0 : (List Int)} {v : (Int × Bool)} (h : F_impl_JoinAll p0 some0 = some v) : Ret Try.prog f_impl_JoinAll [(rS_Poset false) p0, (slr false 1 vint) some0] ((fun r => V.tup [vint r.1, V.bool r.2]) v) := by
  refine ret_vc k_impl_JoinAll (Nat.le_of_ble_eq_true rfl) ?_
  unfold F_impl_JoinAll at h
  refine Cells.lit rfl rfl ?_
  refine CallQ.o (fun r => V.tup [(rO true (rS_lattice true)) r.1, V.bool r.2]) (by rfl) h (fun r h => t_impl_latticeOf h) (fun r1 h => ?_)
  rcases r1 with ⟨(_ | r1_1), r1_2⟩
  · try dsimp only at h
    refine Br.flip ?_
    refine Br.ob h (fun p2 h => ?_) (fun p2 h => ?_)
    · refine Br.no ?_
      refine Len.map ?_
      refine Br.no ?_
      refine Br.no ?_
      refine Br.od h (fun p3 h => ?_) (fun p3 h => ?_)
      · refine Br.yes ?_
        refine Br.yes ?_
        refine Br.yes ?_
        refine Br.yes ?_
        refine Br.yes ?_
        refine Br.yes ?_
        refine Br.yes ?_
        refine Br.yes ?_
        cases h; exact (by rfl)
      refine Br.no ?_
      cases h
    refine Br.yes ?_
    refine Br.yes ?_
    refine Br.yes ?_
    refine Br.yes ?_
    refine Br.yes ?_
    refine Br.yes ?_
    refine Br.yes ?_
    refine Br.yes ?_
    refine Br.yes ?_
    refine Br.yes ?_
    refine Br.yes ?_
    refine Br.yes ?_
    cases h; exact (by rfl)
  try dsimp only at h
  refine Br.flip ?_
  refine Br.ob h (fun p4 h => ?_) (fun p4 h => ?_)
  · refine Br.no ?_
    refine Len.map ?_
    refine Br.no ?_
    refine Br.no ?_
    refine Br.od h (fun p5 h => ?_) (fun p5 h => ?_)
    · refine Br.yes ?_
      refine Br.yes ?_
      refine Br.yes ?_
      refine Br.yes ?_
      refine Br.yes ?_
      refine Br.yes ?_
      refine Br.yes ?_
      refine Br.yes ?_
      cases h; exact (by rfl)
    refine Br.no ?_
    refine Br.no ?_
    refine Br.no ?_
    refine Cells.lit rfl rfl ?_
    refine Br.no ?_
    refine Br.no ?_
    refine Kid.lit rfl rfl ?_
    refine CallQ.rd V.bool (by first | rfl | simp only [V.fz, V.up, fzL_map, slr] | simp [mulN_one, V.fz, fzL, V.up, upL, fzL_map, fz_slr, fz_at, slr]) (fun _ => rfl) h (fun r h => t_impl_order_has h) (fun r6 h => ?_)
    refine Br.no ?_
    refine Br.no ?_
    refine Br.flip ?_
    refine Br.ob h (fun p7 h => ?_) (fun p7 h => ?_)
    · refine CallQ.rd vint (by first | rfl | simp only [V.fz, fzL, V.up, fzL_map, slr] | simp [mulN_one, V.fz, fzL, V.up, upL, fzL_map, fz_slr, fz_at, slr]) (fun _ => rfl) h (fun r h => t_impl_lattice_joinAll h) (fun r8 h => ?_)
      cases h; exact (by rfl)
    cases h; exact (by rfl)
  refine Br.yes ?_
  refine Br.yes ?_
  refine Br.yes ?_
  refine Br.yes ?_
  refine Br.yes ?_
  refine Br.yes ?_
  refine Br.yes ?_
  refine Br.yes ?_
  refine Br.yes ?_
  refine Br.yes ?_
  refine Br.yes ?_
  refine Br.yes ?_
  cases h; exact (by rfl)

end Go.Proofs.Ytoikbcagaanhgaa.Ax
