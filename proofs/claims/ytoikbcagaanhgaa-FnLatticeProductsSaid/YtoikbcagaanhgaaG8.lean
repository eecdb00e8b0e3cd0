/-
  What the functions compute, as functions on plain data, and that the program does compute it; written by program.
-/
import Derived.Test.YtoikbcagaanhgaaCode
import Derived.Test.YtoikbcagaanhgaaG1
import Derived.Test.YtoikbcagaanhgaaG7
namespace Go.Proofs.Ytoikbcagaanhgaa.Ax
open Go
set_option maxRecDepth 100000
set_option maxHeartbeats 4000000

noncomputable def F_impl_ProductLattice_l1 (r1_1 : Slattice) (r1_2 : Slattice) (_r13 : List (List Bool)) (x52 : Int) (x10 : List (List Bool)) : (Int × (List (List Bool))) → Option ((Int × (List (List Bool))) ⊕ (List (List Bool))) := fun (x57, x10') =>
 if x57 < (↑x10.length : Int) then
 ask ((0 : Int) ≤ x52 ∧ x52 < (↑x10'.length : Int)) <|
 ask ((↑r1_2.order.length : Int) ≠ (0 : Int) ∧ InI (x52.tdiv (↑r1_2.order.length : Int))) <|
 ask ((0 : Int) ≤ x52.tdiv (↑r1_2.order.length : Int) ∧ x52.tdiv (↑r1_2.order.length : Int) < (↑r1_1.order.length : Int)) <|
 ask ((↑r1_2.order.length : Int) ≠ (0 : Int) ∧ InI (x57.tdiv (↑r1_2.order.length : Int))) <|
 ask ((0 : Int) ≤ x57.tdiv (↑r1_2.order.length : Int) ∧ x57.tdiv (↑r1_2.order.length : Int) < (↑(nth r1_1.order (x52.tdiv (↑r1_2.order.length : Int)).toNat).length : Int)) <|
 if (nth (nth r1_1.order (x52.tdiv (↑r1_2.order.length : Int)).toNat) (x57.tdiv (↑r1_2.order.length : Int)).toNat) = true then
 ask ((↑r1_2.order.length : Int) ≠ (0 : Int)) <|
 ask ((0 : Int) ≤ x52.tmod (↑r1_2.order.length : Int) ∧ x52.tmod (↑r1_2.order.length : Int) < (↑r1_2.order.length : Int)) <|
 ask ((↑r1_2.order.length : Int) ≠ (0 : Int)) <|
 ask ((0 : Int) ≤ x57.tmod (↑r1_2.order.length : Int) ∧ x57.tmod (↑r1_2.order.length : Int) < (↑(nth r1_2.order (x52.tmod (↑r1_2.order.length : Int)).toNat).length : Int)) <|
 ask ((0 : Int) ≤ x57 ∧ x57 < (↑(nth x10' x52.toNat).length : Int)) <|
 ask (InI (x57 + (1 : Int))) <|
 some (.inl (x57 + (1 : Int), x10'.set x52.toNat ((nth x10' x52.toNat).set x57.toNat (nth (nth r1_2.order (x52.tmod (↑r1_2.order.length : Int)).toNat) (x57.tmod (↑r1_2.order.length : Int)).toNat))))
 else
 ask ((0 : Int) ≤ x57 ∧ x57 < (↑(nth x10' x52.toNat).length : Int)) <|
 ask (InI (x57 + (1 : Int))) <|
 some (.inl (x57 + (1 : Int), x10'.set x52.toNat ((nth x10' x52.toNat).set x57.toNat false)))
 else
 some (.inr x10')
def S_impl_ProductLattice_l1 (r1_1 : Slattice) (r1_2 : Slattice) (r13 : List (List Bool)) (x52 : Int) (x10 : List (List Bool)) : (Int × (List (List Bool))) → St := fun s => [(57, A.val (vint s.1)), (56, A.val (vint ((↑x10.length : Int)))), (11, A.val (vint (x52))), (52, A.val (vint (x52))), (51, A.val (vint ((↑r13.length : Int)))), (10, A.val ((slr true 1 (slr true 1 V.bool)) s.2)), (9, A.val (vint ((↑r1_2.order.length : Int)))), (7, A.val ((rP true (rS_lattice true)) (r1_2))), (6, A.val ((rP true (rS_lattice true)) (r1_1))), (4, A.val ((rP true (rS_Poset true)) ({ Below := nilL (List Int) })))]
def T_impl_ProductLattice_l1 (r1_1 : Slattice) (r1_2 : Slattice) (r13 : List (List Bool)) (x52 : Int) (_x10 : List (List Bool)) : (List (List Bool)) → Tgt
 | s => ((Ex.exit 2), [52, 51, 10, 9, 7, 6, 4], [(52, A.val (vint (x52))), (51, A.val (vint ((↑r13.length : Int)))), (10, A.val ((slr true 1 (slr true 1 V.bool)) s)), (9, A.val (vint ((↑r1_2.order.length : Int)))), (7, A.val ((rP true (rS_lattice true)) (r1_2))), (6, A.val ((rP true (rS_lattice true)) (r1_1))), (4, A.val ((rP true (rS_Poset true)) ({ Below := nilL (List Int) })))])
theorem b_impl_ProductLattice_l1 {r1_1 : Slattice} {r1_2 : Slattice} {r13 : List (List Bool)} {x52 : Int} {x10 : List (List Bool)} (s : (Int × (List (List Bool)))) (o : (Int × (List (List Bool))) ⊕ (List (List Bool))) (h : F_impl_ProductLattice_l1 r1_1 r1_2 r13 x52 x10 s = some o) : vc Try.prog c_impl_ProductLattice_l1 (outQ [57, 56, 11, 52, 51, 10, 9, 7, 6, 4] (S_impl_ProductLattice_l1 r1_1 r1_2 r13 x52 x10) (T_impl_ProductLattice_l1 r1_1 r1_2 r13 x52 x10) o) (S_impl_ProductLattice_l1 r1_1 r1_2 r13 x52 x10 s) := by
  obtain ⟨x57, x10'⟩ := s
  unfold F_impl_ProductLattice_l1 at h
  try dsimp only at h
  conv => whnf
  refine Br.od h (fun p15 h => ?_) (fun p15 h => ?_)
  · conv => whnf
    refine Len.map ?_
    conv => whnf
    refine Ask.o h fun p16 h => ?_
    conv => whnf
    refine Cells.one (fun _ => ⟨rfl, rfl⟩) (by first | omega | (simp [mulN] at *; omega)) ?_
    conv => whnf
    refine Cells.lit rfl rfl ?_
    conv => whnf
    refine Ask.o h fun p17 h => ?_
    conv => whnf
    refine Kid.lit rfl rfl ?_
    conv => whnf
    refine Len.map ?_
    conv => whnf
    refine Ask.o h fun p18 h => ?_
    conv => whnf
    refine Kid.lit rfl rfl ?_
    conv => whnf
    refine Cells.one (fun _ => ⟨rfl, rfl⟩) (by first | omega | (simp [mulN] at *; omega)) ?_
    conv => whnf
    refine Ask.o h fun p19 h => ?_
    conv => whnf
    refine Kid.lit rfl rfl ?_
    conv => whnf
    refine Kid.one (fun _ => ⟨rfl, rfl⟩) (by first | omega | (simp [mulN] at *; omega)) ?_
    conv => whnf
    refine Len.map ?_
    conv => whnf
    refine Ask.o h fun p20 h => ?_
    conv => whnf
    refine Kid.lit rfl rfl ?_
    conv => whnf
    refine Kid.one (fun _ => ⟨rfl, rfl⟩) (by first | omega | (simp [mulN] at *; omega)) ?_
    conv => whnf
    refine Cells.one (fun _ => ⟨rfl, rfl⟩) (by first | omega | (simp [mulN] at *; omega)) ?_
    conv => whnf
    refine Br.ob h (fun p21 h => ?_) (fun p21 h => ?_)
    · conv => whnf
      refine Br.yes ?_
      conv => whnf
      refine Br.yes ?_
      conv => whnf
      refine Br.yes ?_
      conv => whnf
      refine Cells.lit rfl rfl ?_
      conv => whnf
      refine Br.yes ?_
      conv => whnf
      refine Br.yes ?_
      conv => whnf
      refine Br.yes ?_
      conv => whnf
      refine Ask.o h fun p22 h => ?_
      conv => whnf
      refine Br.yes ?_
      conv => whnf
      refine Kid.lit rfl rfl ?_
      conv => whnf
      refine Len.map ?_
      conv => whnf
      refine Ask.o h fun p23 h => ?_
      conv => whnf
      refine Br.yes ?_
      conv => whnf
      refine Kid.lit rfl rfl ?_
      conv => whnf
      refine Cells.one (fun _ => ⟨rfl, rfl⟩) (by first | omega | (simp [mulN] at *; omega)) ?_
      conv => whnf
      refine Br.yes ?_
      conv => whnf
      refine Br.yes ?_
      conv => whnf
      refine Br.yes ?_
      conv => whnf
      refine Ask.o h fun p24 h => ?_
      conv => whnf
      refine Br.yes ?_
      conv => whnf
      refine Kid.lit rfl rfl ?_
      conv => whnf
      refine Kid.one (fun _ => ⟨rfl, rfl⟩) (by first | omega | (simp [mulN] at *; omega)) ?_
      conv => whnf
      refine Len.map ?_
      conv => whnf
      refine Ask.o h fun p25 h => ?_
      conv => whnf
      refine Br.yes ?_
      conv => whnf
      refine Kid.lit rfl rfl ?_
      conv => whnf
      refine Kid.one (fun _ => ⟨rfl, rfl⟩) (by first | omega | (simp [mulN] at *; omega)) ?_
      conv => whnf
      refine Cells.one (fun _ => ⟨rfl, rfl⟩) (by first | omega | (simp [mulN] at *; omega)) ?_
      conv => whnf
      refine Br.yes ?_
      conv => whnf
      refine Kid.one (fun _ => ⟨rfl, rfl⟩) (by first | omega | (simp [mulN] at *; omega)) ?_
      conv => whnf
      refine Len.map ?_
      conv => whnf
      refine Ask.o h fun p26 h => ?_
      conv => whnf
      refine Kid.one (fun _ => ⟨rfl, rfl⟩) (by first | omega | (simp [mulN] at *; omega)) ?_
      conv => whnf
      refine SetKids.one (fun _ => ⟨rfl, rfl⟩) (nth (nth r1_2.order (x52.tmod (↑r1_2.order.length : Int)).toNat) (x57.tmod (↑r1_2.order.length : Int)).toNat) (by rfl) (by first | omega | (simp [mulN] at *; omega)) ?_
      conv => whnf
      refine Kid.one (fun _ => ⟨rfl, rfl⟩) (by first | omega | (simp [mulN] at *; omega)) ?_
      conv => whnf
      refine SetKids.one (fun _ => ⟨rfl, rfl⟩) ((nth x10' x52.toNat).set x57.toNat (nth (nth r1_2.order (x52.tmod (↑r1_2.order.length : Int)).toNat) (x57.tmod (↑r1_2.order.length : Int)).toNat)) (by rfl) (by first | omega | (simp [mulN] at *; omega)) ?_
      conv => whnf
      refine Ask.o h fun p27 h => ?_
      conv => whnf
      cases h; exact ⟨rfl, rfl⟩
    conv => whnf
    refine Br.no ?_
    conv => whnf
    refine Br.no ?_
    conv => whnf
    refine Br.no ?_
    conv => whnf
    refine Br.no ?_
    conv => whnf
    refine Br.no ?_
    conv => whnf
    refine Br.no ?_
    conv => whnf
    refine Br.no ?_
    conv => whnf
    refine Br.no ?_
    conv => whnf
    refine Br.no ?_
    conv => whnf
    refine Br.no ?_
    conv => whnf
    refine Br.no ?_
    conv => whnf
    refine Br.no ?_
    conv => whnf
    refine Br.no ?_
    conv => whnf
    refine Br.no ?_
    conv => whnf
    refine Kid.one (fun _ => ⟨rfl, rfl⟩) (by first | omega | (simp [mulN] at *; omega)) ?_
    conv => whnf
    refine Len.map ?_
    conv => whnf
    refine Ask.o h fun p28 h => ?_
    conv => whnf
    refine Kid.one (fun _ => ⟨rfl, rfl⟩) (by first | omega | (simp [mulN] at *; omega)) ?_
    conv => whnf
    refine SetKids.one (fun _ => ⟨rfl, rfl⟩) (false) (by rfl) (by first | omega | (simp [mulN] at *; omega)) ?_
    conv => whnf
    refine Kid.one (fun _ => ⟨rfl, rfl⟩) (by first | omega | (simp [mulN] at *; omega)) ?_
    conv => whnf
    refine SetKids.one (fun _ => ⟨rfl, rfl⟩) ((nth x10' x52.toNat).set x57.toNat false) (by rfl) (by first | omega | (simp [mulN] at *; omega)) ?_
    conv => whnf
    refine Ask.o h fun p29 h => ?_
    conv => whnf
    cases h; exact ⟨rfl, rfl⟩
  conv => whnf
  cases h; exact ⟨rfl, rfl⟩

noncomputable def F_impl_ProductLattice_l2 (r1_1 : Slattice) (r1_2 : Slattice) (r13 : List (List Bool)) : (Int × (List (List Bool))) → Option ((Int × (List (List Bool))) ⊕ (List (List Bool))) := fun (x52, x10) =>
 if x52 < (↑r13.length : Int) then
 (loopO (F_impl_ProductLattice_l1 r1_1 r1_2 r13 x52 x10) ((0 : Int), x10)).bind fun q30_10 =>
 ask (InI (x52 + (1 : Int))) <|
 some (.inl (x52 + (1 : Int), q30_10))
 else
 some (.inr x10)
def S_impl_ProductLattice_l2 (r1_1 : Slattice) (r1_2 : Slattice) (r13 : List (List Bool)) : (Int × (List (List Bool))) → St := fun s => [(52, A.val (vint s.1)), (51, A.val (vint ((↑r13.length : Int)))), (10, A.val ((slr true 1 (slr true 1 V.bool)) s.2)), (9, A.val (vint ((↑r1_2.order.length : Int)))), (7, A.val ((rP true (rS_lattice true)) (r1_2))), (6, A.val ((rP true (rS_lattice true)) (r1_1))), (4, A.val ((rP true (rS_Poset true)) ({ Below := nilL (List Int) })))]
def T_impl_ProductLattice_l2 (_r1_1 : Slattice) (_r1_2 : Slattice) (_r13 : List (List Bool)) : (List (List Bool)) → Tgt
 | s => ((Ex.exit 0), [10, 4], [(10, A.val ((slr true 1 (slr true 1 V.bool)) s)), (4, A.val ((rP true (rS_Poset true)) ({ Below := nilL (List Int) })))])
theorem b_impl_ProductLattice_l2 {r1_1 : Slattice} {r1_2 : Slattice} {r13 : List (List Bool)} (s : (Int × (List (List Bool)))) (o : (Int × (List (List Bool))) ⊕ (List (List Bool))) (h : F_impl_ProductLattice_l2 r1_1 r1_2 r13 s = some o) : vc Try.prog c_impl_ProductLattice_l2 (outQ [52, 51, 10, 9, 7, 6, 4] (S_impl_ProductLattice_l2 r1_1 r1_2 r13) (T_impl_ProductLattice_l2 r1_1 r1_2 r13) o) (S_impl_ProductLattice_l2 r1_1 r1_2 r13 s) := by
  obtain ⟨x52, x10⟩ := s
  unfold F_impl_ProductLattice_l2 at h
  try dsimp only at h
  conv => whnf
  refine Br.od h (fun p14 h => ?_) (fun p14 h => ?_)
  · conv => whnf
    refine Len.map ?_
    conv => whnf
    refine LoopQ.o [57, 56, 11, 52, 51, 10, 9, 7, 6, 4] (S_impl_ProductLattice_l1 r1_1 r1_2 r13 x52 x10) (T_impl_ProductLattice_l1 r1_1 r1_2 r13 x52 x10) h (fun s o h => b_impl_ProductLattice_l1 s o h) (by first | rfl | simp [restrict, look, mulN_one, V.fz, fzL, V.up, upL, fzL_map, fz_slr, fz_at, slr]) (fun _ => rfl) ?_
    rintro q30_10 h
    try dsimp only at h
    conv => whnf
    refine Ask.o h fun p31 h => ?_
    conv => whnf
    cases h; exact ⟨rfl, rfl⟩
  conv => whnf
  cases h; exact ⟨rfl, rfl⟩

noncomputable def F_impl_ProductLattice (p0 : SPoset) (q0 : SPoset) : Option (SPoset × Bool) :=
 (F_impl_twoLattices (p0) (q0)).bind fun t => match t with
 | (none, none, r1_3) => (((if (r1_3) = true then
 none
 else
 some () : Option Unit)).bind fun _ =>
 some ({ Below := nilL (List Int) }, false))
 | (none, (some _r1_2), r1_3) => (((if (r1_3) = true then
 none
 else
 some () : Option Unit)).bind fun _ =>
 some ({ Below := nilL (List Int) }, false))
 | ((some _r1_1), none, r1_3) => (((if (r1_3) = true then
 none
 else
 some () : Option Unit)).bind fun _ =>
 some ({ Below := nilL (List Int) }, false))
 | ((some r1_1), (some r1_2), r1_3) => (((if (r1_3) = true then
 ask (InI ((↑r1_1.order.length : Int) * (↑r1_2.order.length : Int))) <|
 if (↑r1_1.order.length : Int) * (↑r1_2.order.length : Int) > (10 : Int) then
 some (.inl ())
 else
 some (.inr ())
 else
 some (.inl ()) : Option (Unit ⊕ Unit))).bind fun t => match t with
 | (.inl _) => (some ({ Below := nilL (List Int) }, false))
 | (.inr _) => (ask (InI ((↑r1_1.order.length : Int) * (↑r1_2.order.length : Int))) <|
 (F_impl_newOrder ((↑r1_1.order.length : Int) * (↑r1_2.order.length : Int))).bind fun r13 =>
 (loopO (F_impl_ProductLattice_l2 r1_1 r1_2 r13) ((0 : Int), r13)).bind fun q32_10 =>
 (F_impl_order_poset (q32_10)).bind fun r33 =>
 some (r33, true)))
theorem t_impl_ProductLattice {p0 : SPoset} {q0 : SPoset} {v : (SPoset × Bool)} (h : F_impl_ProductLattice p0 q0 = some v) : Ret Try.prog f_impl_ProductLattice [(rS_Poset false) p0, (rS_Poset false) q0] ((fun r => V.tup [(rS_Poset true) r.1, V.bool r.2]) v) := by
  refine ret_vc k_impl_ProductLattice (Nat.le_of_ble_eq_true rfl) ?_
  unfold F_impl_ProductLattice at h
  conv => whnf
  refine Cells.lit rfl rfl ?_
  conv => whnf
  refine Cells.lit rfl rfl ?_
  conv => whnf
  refine CallQ.o (fun r => V.tup [(rO true (rS_lattice true)) r.1, (rO true (rS_lattice true)) r.2.1, V.bool r.2.2]) (by rfl) h (fun r h => t_impl_twoLattices h) (fun r1 h => ?_)
  rcases r1 with ⟨(_ | r1_1), (_ | r1_2), r1_3⟩
  · try dsimp only at h
    conv => whnf
    refine CutQ.o (fun t : Unit => match t with | s => (Ex.ret, [5, 4], [(5, A.val (V.bool (false))), (4, A.val ((rP true (rS_Poset true)) ({ Below := nilL (List Int) })))])) h ?_ ?_
    · intro t h
      conv => whnf
      refine Br.flip ?_
      conv => whnf
      refine Br.ob h (fun p2 h => ?_) (fun p2 h => ?_)
      · conv => whnf
        refine Br.no ?_
        conv => whnf
        cases h
      conv => whnf
      refine Br.yes ?_
      conv => whnf
      refine Br.yes ?_
      conv => whnf
      refine Br.yes ?_
      conv => whnf
      refine Br.yes ?_
      conv => whnf
      refine Br.yes ?_
      conv => whnf
      refine Br.yes ?_
      conv => whnf
      refine Br.yes ?_
      conv => whnf
      refine Br.yes ?_
      conv => whnf
      refine Br.yes ?_
      conv => whnf
      refine Br.yes ?_
      conv => whnf
      refine Br.yes ?_
      conv => whnf
      refine Br.yes ?_
      conv => whnf
      refine Br.yes ?_
      conv => whnf
      refine SetKids.lit rfl ?_
      conv => whnf
      cases h; exact ⟨rfl, rfl⟩
    rintro ⟨⟩ h
    try dsimp only at h
    conv => whnf
    cases h; exact (by rfl)
  · try dsimp only at h
    conv => whnf
    refine CutQ.o (fun t : Unit => match t with | s => (Ex.ret, [5, 4], [(5, A.val (V.bool (false))), (4, A.val ((rP true (rS_Poset true)) ({ Below := nilL (List Int) })))])) h ?_ ?_
    · intro t h
      conv => whnf
      refine Br.flip ?_
      conv => whnf
      refine Br.ob h (fun p4 h => ?_) (fun p4 h => ?_)
      · conv => whnf
        refine Br.no ?_
        conv => whnf
        cases h
      conv => whnf
      refine Br.yes ?_
      conv => whnf
      refine Br.yes ?_
      conv => whnf
      refine Br.yes ?_
      conv => whnf
      refine Br.yes ?_
      conv => whnf
      refine Br.yes ?_
      conv => whnf
      refine Br.yes ?_
      conv => whnf
      refine Br.yes ?_
      conv => whnf
      refine Br.yes ?_
      conv => whnf
      refine Br.yes ?_
      conv => whnf
      refine Br.yes ?_
      conv => whnf
      refine Br.yes ?_
      conv => whnf
      refine Br.yes ?_
      conv => whnf
      refine Br.yes ?_
      conv => whnf
      refine SetKids.lit rfl ?_
      conv => whnf
      cases h; exact ⟨rfl, rfl⟩
    rintro ⟨⟩ h
    try dsimp only at h
    conv => whnf
    cases h; exact (by rfl)
  · try dsimp only at h
    conv => whnf
    refine CutQ.o (fun t : Unit => match t with | s => (Ex.ret, [5, 4], [(5, A.val (V.bool (false))), (4, A.val ((rP true (rS_Poset true)) ({ Below := nilL (List Int) })))])) h ?_ ?_
    · intro t h
      conv => whnf
      refine Br.flip ?_
      conv => whnf
      refine Br.ob h (fun p6 h => ?_) (fun p6 h => ?_)
      · conv => whnf
        refine Br.no ?_
        conv => whnf
        refine Br.no ?_
        conv => whnf
        refine Br.no ?_
        conv => whnf
        refine Cells.lit rfl rfl ?_
        conv => whnf
        refine Br.no ?_
        conv => whnf
        refine Kid.lit rfl rfl ?_
        conv => whnf
        refine Len.map ?_
        conv => whnf
        refine Br.no ?_
        conv => whnf
        refine Br.no ?_
        conv => whnf
        cases h
      conv => whnf
      refine Br.yes ?_
      conv => whnf
      refine Br.yes ?_
      conv => whnf
      refine Br.yes ?_
      conv => whnf
      refine Br.yes ?_
      conv => whnf
      refine Br.yes ?_
      conv => whnf
      refine Br.yes ?_
      conv => whnf
      refine Br.yes ?_
      conv => whnf
      refine Br.yes ?_
      conv => whnf
      refine Br.yes ?_
      conv => whnf
      refine Br.yes ?_
      conv => whnf
      refine Br.yes ?_
      conv => whnf
      refine Br.yes ?_
      conv => whnf
      refine Br.yes ?_
      conv => whnf
      refine SetKids.lit rfl ?_
      conv => whnf
      cases h; exact ⟨rfl, rfl⟩
    rintro ⟨⟩ h
    try dsimp only at h
    conv => whnf
    cases h; exact (by rfl)
  try dsimp only at h
  conv => whnf
  refine CutQ.o (fun t : (Unit ⊕ Unit) => match t with | (.inl s) => (Ex.ret, [5, 4], [(5, A.val (V.bool (false))), (4, A.val ((rP true (rS_Poset true)) ({ Below := nilL (List Int) })))]) | (.inr s) => (Ex.normal, [7, 6, 4], [(7, A.val ((rP true (rS_lattice true)) (r1_2))), (6, A.val ((rP true (rS_lattice true)) (r1_1))), (4, A.val ((rP true (rS_Poset true)) ({ Below := nilL (List Int) })))])) h ?_ ?_
  · intro t h
    conv => whnf
    refine Br.flip ?_
    conv => whnf
    refine Br.ob h (fun p8 h => ?_) (fun p8 h => ?_)
    · conv => whnf
      refine Br.no ?_
      conv => whnf
      refine Br.no ?_
      conv => whnf
      refine Br.no ?_
      conv => whnf
      refine Cells.lit rfl rfl ?_
      conv => whnf
      refine Br.no ?_
      conv => whnf
      refine Kid.lit rfl rfl ?_
      conv => whnf
      refine Len.map ?_
      conv => whnf
      refine Br.no ?_
      conv => whnf
      refine Br.no ?_
      conv => whnf
      refine Br.no ?_
      conv => whnf
      refine Br.no ?_
      conv => whnf
      refine Cells.lit rfl rfl ?_
      conv => whnf
      refine Br.no ?_
      conv => whnf
      refine Kid.lit rfl rfl ?_
      conv => whnf
      refine Len.map ?_
      conv => whnf
      refine Br.no ?_
      conv => whnf
      refine Ask.o h fun p9 h => ?_
      conv => whnf
      refine Br.no ?_
      conv => whnf
      refine Br.no ?_
      conv => whnf
      refine Br.od h (fun p10 h => ?_) (fun p10 h => ?_)
      · conv => whnf
        refine SetKids.lit rfl ?_
        conv => whnf
        cases h; exact ⟨rfl, rfl⟩
      conv => whnf
      cases h; exact ⟨rfl, rfl⟩
    conv => whnf
    refine Br.yes ?_
    conv => whnf
    refine Br.yes ?_
    conv => whnf
    refine Br.yes ?_
    conv => whnf
    refine Br.yes ?_
    conv => whnf
    refine Br.yes ?_
    conv => whnf
    refine Br.yes ?_
    conv => whnf
    refine Br.yes ?_
    conv => whnf
    refine Br.yes ?_
    conv => whnf
    refine Br.yes ?_
    conv => whnf
    refine Br.yes ?_
    conv => whnf
    refine Br.yes ?_
    conv => whnf
    refine Br.yes ?_
    conv => whnf
    refine Br.yes ?_
    conv => whnf
    refine SetKids.lit rfl ?_
    conv => whnf
    cases h; exact ⟨rfl, rfl⟩
  rintro (⟨⟩ | ⟨⟩) h
  · try dsimp only at h
    conv => whnf
    cases h; exact (by rfl)
  try dsimp only at h
  conv => whnf
  refine Cells.lit rfl rfl ?_
  conv => whnf
  refine Kid.lit rfl rfl ?_
  conv => whnf
  refine Len.map ?_
  conv => whnf
  refine Cells.lit rfl rfl ?_
  conv => whnf
  refine Kid.lit rfl rfl ?_
  conv => whnf
  refine Len.map ?_
  conv => whnf
  refine Ask.o h fun p12 h => ?_
  conv => whnf
  refine CallQ.o (slr true 1 (slr true 1 V.bool)) (by rfl) h (fun r h => t_impl_newOrder h) (fun r13 h => ?_)
  conv => whnf
  refine Len.map ?_
  conv => whnf
  refine LoopQ.o [52, 51, 10, 9, 7, 6, 4] (S_impl_ProductLattice_l2 r1_1 r1_2 r13) (T_impl_ProductLattice_l2 r1_1 r1_2 r13) h (fun s o h => b_impl_ProductLattice_l2 s o h) (by first | rfl | simp [restrict, look, mulN_one, V.fz, fzL, V.up, upL, fzL_map, fz_slr, fz_at, slr]) (fun _ => rfl) ?_
  rintro q32_10 h
  try dsimp only at h
  conv => whnf
  refine CallQ.rd (rS_Poset true) (by first | rfl | simp only [V.fz, fzL_map, slr] | simp [mulN_one, V.fz, fzL, V.up, upL, fzL_map, fz_slr, fz_at, slr]) (fun _ => by simp [V.noFz, noFzL, noFzL_map]) h (fun r h => t_impl_order_poset h) (fun r33 h => ?_)
  conv => whnf
  refine SetKids.lit rfl ?_
  conv => whnf
  cases h; exact (by rfl)

noncomputable def F_spec_ProductLattice (p0 : SPoset) (q0 : SPoset) : Option (SPoset × Bool) :=
 (F_spec_l24Good (p0)).bind fun r1 =>
 if (r1) = true then
 (F_spec_l24Good (q0)).bind fun r3 =>
 if (r3) = true then
 ask (InI ((↑p0.Below.length : Int) * (↑q0.Below.length : Int))) <|
 if (↑p0.Below.length : Int) * (↑q0.Below.length : Int) > (10 : Int) then
 some ({ Below := nilL (List Int) }, false)
 else
 (F_spec_l24Product (p0) (q0)).bind fun r7 =>
 some (r7, true)
 else
 some ({ Below := nilL (List Int) }, false)
 else
 some ({ Below := nilL (List Int) }, false)
theorem t_spec_ProductLattice {p0 : SPoset} {q0 : SPoset} {v : (SPoset × Bool)} (h : F_spec_ProductLattice p0 q0 = some v) : Ret Try.prog f_spec_ProductLattice [(rS_Poset false) p0, (rS_Poset false) q0] ((fun r => V.tup [(rS_Poset true) r.1, V.bool r.2]) v) := by
  refine ret_vc k_spec_ProductLattice (Nat.le_of_ble_eq_true rfl) ?_
  unfold F_spec_ProductLattice at h
  conv => whnf
  refine Cells.lit rfl rfl ?_
  conv => whnf
  refine CallQ.o V.bool (by rfl) h (fun r h => t_spec_l24Good h) (fun r1 h => ?_)
  conv => whnf
  refine Br.flip ?_
  conv => whnf
  refine Br.ob h (fun p2 h => ?_) (fun p2 h => ?_)
  · conv => whnf
    refine Cells.lit rfl rfl ?_
    conv => whnf
    refine Br.no ?_
    conv => whnf
    refine CallQ.o V.bool (by rfl) h (fun r h => t_spec_l24Good h) (fun r3 h => ?_)
    conv => whnf
    refine Br.no ?_
    conv => whnf
    refine Br.no ?_
    conv => whnf
    refine Br.flip ?_
    conv => whnf
    refine Br.ob h (fun p4 h => ?_) (fun p4 h => ?_)
    · conv => whnf
      refine Br.no ?_
      conv => whnf
      refine Cells.lit rfl rfl ?_
      conv => whnf
      refine Br.no ?_
      conv => whnf
      refine Len.map ?_
      conv => whnf
      refine Br.no ?_
      conv => whnf
      refine Br.no ?_
      conv => whnf
      refine Cells.lit rfl rfl ?_
      conv => whnf
      refine Br.no ?_
      conv => whnf
      refine Len.map ?_
      conv => whnf
      refine Br.no ?_
      conv => whnf
      refine Ask.o h fun p5 h => ?_
      conv => whnf
      refine Br.no ?_
      conv => whnf
      refine Br.no ?_
      conv => whnf
      refine Br.od h (fun p6 h => ?_) (fun p6 h => ?_)
      · conv => whnf
        refine SetKids.lit rfl ?_
        conv => whnf
        cases h; exact (by rfl)
      conv => whnf
      refine Cells.lit rfl rfl ?_
      conv => whnf
      refine Cells.lit rfl rfl ?_
      conv => whnf
      refine CallQ.o (rS_Poset true) (by rfl) h (fun r h => t_spec_l24Product h) (fun r7 h => ?_)
      conv => whnf
      refine SetKids.lit rfl ?_
      conv => whnf
      cases h; exact (by rfl)
    conv => whnf
    refine Br.yes ?_
    conv => whnf
    refine Br.yes ?_
    conv => whnf
    refine Br.yes ?_
    conv => whnf
    refine Br.yes ?_
    conv => whnf
    refine Br.yes ?_
    conv => whnf
    refine Br.yes ?_
    conv => whnf
    refine Br.yes ?_
    conv => whnf
    refine Br.yes ?_
    conv => whnf
    refine Br.yes ?_
    conv => whnf
    refine SetKids.lit rfl ?_
    conv => whnf
    cases h; exact (by rfl)
  conv => whnf
  refine Br.yes ?_
  conv => whnf
  refine Br.yes ?_
  conv => whnf
  refine Br.yes ?_
  conv => whnf
  refine Br.yes ?_
  conv => whnf
  refine Br.yes ?_
  conv => whnf
  refine Br.yes ?_
  conv => whnf
  refine Br.yes ?_
  conv => whnf
  refine Br.yes ?_
  conv => whnf
  refine Br.yes ?_
  conv => whnf
  refine Br.yes ?_
  conv => whnf
  refine Br.yes ?_
  conv => whnf
  refine Br.yes ?_
  conv => whnf
  refine Br.yes ?_
  conv => whnf
  refine SetKids.lit rfl ?_
  conv => whnf
  cases h; exact (by rfl)

end Go.Proofs.Ytoikbcagaanhgaa.Ax
