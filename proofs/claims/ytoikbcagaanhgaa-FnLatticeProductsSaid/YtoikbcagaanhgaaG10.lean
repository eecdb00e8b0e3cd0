/-
  What the functions compute, as functions on plain data, and that the program does compute it; written by program.
-/
import Derived.Test.YtoikbcagaanhgaaCode
import Derived.Test.YtoikbcagaanhgaaG1
import Derived.Test.YtoikbcagaanhgaaG7
namespace Go.Proofs.Ytoikbcagaanhgaa.Ax
open Go
set_option maxRecDepth 100000
set_option maxHeartbeats 4000000

noncomputable def F_spec_StackLattice_l1 (p0 : SPoset) (_q0 : SPoset) : (Int × SPoset) → Option ((Int × SPoset) ⊕ SPoset) := fun (x7, x6) =>
 if x7 < (↑p0.Below.length : Int) then
 ask ((0 : Int) ≤ x7 ∧ x7 < (↑p0.Below.length : Int)) <|
 (F_spec_l1Own (nth p0.Below x7.toNat)).bind fun r10 =>
 ask ((x6.Below).length + ([r10]).length ≤ LIM) <|
 ask (InI (x7 + (1 : Int))) <|
 some (.inl (x7 + (1 : Int), { Below := x6.Below ++ [r10] }))
 else
 some (.inr x6)
def S_spec_StackLattice_l1 (p0 : SPoset) (q0 : SPoset) : (Int × SPoset) → St := fun s => [(7, A.val (vint s.1)), (6, A.val ((rP true (rS_Poset true)) s.2)), (4, A.val ((rP true (rS_Poset true)) ({ Below := nilL (List Int) }))), (3, A.val ((rP true (rS_Poset false)) (q0))), (2, A.val ((rP true (rS_Poset false)) (p0)))]
def T_spec_StackLattice_l1 (p0 : SPoset) (q0 : SPoset) : SPoset → Tgt
 | s => ((Ex.exit 0), [6, 4, 3, 2], [(6, A.val ((rP true (rS_Poset true)) s)), (4, A.val ((rP true (rS_Poset true)) ({ Below := nilL (List Int) }))), (3, A.val ((rP true (rS_Poset false)) (q0))), (2, A.val ((rP true (rS_Poset false)) (p0)))])
theorem b_spec_StackLattice_l1 {p0 : SPoset} {q0 : SPoset} (s : (Int × SPoset)) (o : (Int × SPoset) ⊕ SPoset) (h : F_spec_StackLattice_l1 p0 q0 s = some o) : vc Try.prog c_spec_StackLattice_l1 (outQ [7, 6, 4, 3, 2] (S_spec_StackLattice_l1 p0 q0) (T_spec_StackLattice_l1 p0 q0) o) (S_spec_StackLattice_l1 p0 q0 s) := by
  obtain ⟨x7, x6⟩ := s
  unfold F_spec_StackLattice_l1 at h
  try dsimp only at h
  conv => whnf
  refine Cells.lit rfl rfl ?_
  conv => whnf
  refine Len.map ?_
  conv => whnf
  refine Br.od h (fun p8 h => ?_) (fun p8 h => ?_)
  · conv => whnf
    refine Cells.lit rfl rfl ?_
    conv => whnf
    refine Cells.lit rfl rfl ?_
    conv => whnf
    refine Len.map ?_
    conv => whnf
    refine Ask.o h fun p9 h => ?_
    conv => whnf
    refine Elem.o (by first | omega | (simp [mulN] at *; omega)) ?_
    conv => whnf
    refine CallP.o (slr true 1 vint) (by rfl) h (fun r h => t_spec_l1Own h) (fun r10 h => ?_)
    conv => whnf
    refine BslQ.o (slr true 1 vint) [r10] (by exact fun _ => ⟨rfl, rfl⟩) (by rfl) ?_
    conv => whnf
    refine NoOwn.own rfl ?_
    conv => whnf
    refine Kid.lit rfl rfl ?_
    conv => whnf
    refine Kid.lit rfl rfl ?_
    conv => whnf
    refine SetKids.lit rfl ?_
    conv => whnf
    refine AppQ.o (m := 1) (slr true 1 vint) (by exact fun _ => ⟨rfl, rfl⟩) (x6.Below) ([r10]) (by rfl) (by rfl) h fun h => ?_
    conv => whnf
    refine SetKids.lit rfl ?_
    conv => whnf
    refine Ask.o h fun p11 h => ?_
    conv => whnf
    cases h; exact ⟨rfl, rfl⟩
  conv => whnf
  cases h; exact ⟨rfl, rfl⟩

noncomputable def F_spec_StackLattice_l2 (p0 : SPoset) (q0 : SPoset) (x8 : Int) (_x6 : SPoset) : (Int × (List Int)) → Option ((Int × (List Int)) ⊕ (List Int)) := fun (x10, x9) =>
 ask ((0 : Int) ≤ x8 ∧ x8 < (↑q0.Below.length : Int)) <|
 if x10 < (↑(nth q0.Below x8.toNat).length : Int) then
 ask ((0 : Int) ≤ x8 ∧ x8 < (↑q0.Below.length : Int)) <|
 ask ((0 : Int) ≤ x10 ∧ x10 < (↑(nth q0.Below x8.toNat).length : Int)) <|
 ask (InI ((↑p0.Below.length : Int) + nth (nth q0.Below x8.toNat) x10.toNat)) <|
 ask ((x9).length + ([(↑p0.Below.length : Int) + nth (nth q0.Below x8.toNat) x10.toNat]).length ≤ LIM) <|
 ask (InI (x10 + (1 : Int))) <|
 some (.inl (x10 + (1 : Int), x9 ++ [(↑p0.Below.length : Int) + nth (nth q0.Below x8.toNat) x10.toNat]))
 else
 some (.inr x9)
def S_spec_StackLattice_l2 (p0 : SPoset) (q0 : SPoset) (x8 : Int) (x6 : SPoset) : (Int × (List Int)) → St := fun s => [(10, A.val (vint s.1)), (9, A.val ((slr true 1 vint) s.2)), (8, A.val (vint (x8))), (6, A.val ((rP true (rS_Poset true)) (x6))), (4, A.val ((rP true (rS_Poset true)) ({ Below := nilL (List Int) }))), (3, A.val ((rP true (rS_Poset false)) (q0))), (2, A.val ((rP true (rS_Poset false)) (p0)))]
def T_spec_StackLattice_l2 (p0 : SPoset) (q0 : SPoset) (x8 : Int) (x6 : SPoset) : (List Int) → Tgt
 | s => ((Ex.exit 4), [9, 8, 6, 4, 3, 2], [(9, A.val ((slr true 1 vint) s)), (8, A.val (vint (x8))), (6, A.val ((rP true (rS_Poset true)) (x6))), (4, A.val ((rP true (rS_Poset true)) ({ Below := nilL (List Int) }))), (3, A.val ((rP true (rS_Poset false)) (q0))), (2, A.val ((rP true (rS_Poset false)) (p0)))])
theorem b_spec_StackLattice_l2 {p0 : SPoset} {q0 : SPoset} {x8 : Int} {x6 : SPoset} (s : (Int × (List Int))) (o : (Int × (List Int)) ⊕ (List Int)) (h : F_spec_StackLattice_l2 p0 q0 x8 x6 s = some o) : vc Try.prog c_spec_StackLattice_l2 (outQ [10, 9, 8, 6, 4, 3, 2] (S_spec_StackLattice_l2 p0 q0 x8 x6) (T_spec_StackLattice_l2 p0 q0 x8 x6) o) (S_spec_StackLattice_l2 p0 q0 x8 x6 s) := by
  obtain ⟨x10, x9⟩ := s
  unfold F_spec_StackLattice_l2 at h
  try dsimp only at h
  conv => whnf
  refine Cells.lit rfl rfl ?_
  conv => whnf
  refine Len.map ?_
  conv => whnf
  refine Ask.o h fun p15 h => ?_
  conv => whnf
  refine Elem.o (by first | omega | (simp [mulN] at *; omega)) ?_
  conv => whnf
  refine Len.map ?_
  conv => whnf
  refine Br.od h (fun p16 h => ?_) (fun p16 h => ?_)
  · conv => whnf
    refine Cells.lit rfl rfl ?_
    conv => whnf
    refine Len.map ?_
    conv => whnf
    refine Cells.lit rfl rfl ?_
    conv => whnf
    refine Len.map ?_
    conv => whnf
    refine Ask.o h fun p17 h => ?_
    conv => whnf
    refine Elem.o (by first | omega | (simp [mulN] at *; omega)) ?_
    conv => whnf
    refine Len.map ?_
    conv => whnf
    refine Ask.o h fun p18 h => ?_
    conv => whnf
    refine Elem.o (by first | omega | (simp [mulN] at *; omega)) ?_
    conv => whnf
    refine Ask.o h fun p19 h => ?_
    conv => whnf
    refine BslQ.o vint ([(↑p0.Below.length : Int) + nth (nth q0.Below x8.toNat) x10.toNat]) (by exact fun _ => ⟨rfl, rfl⟩) (by rfl) ?_
    conv => whnf
    refine NoOwn.o (fun _ => rfl) ?_
    conv => whnf
    refine AppQ.o (m := 1) vint (by exact fun _ => ⟨rfl, rfl⟩) (x9) ([(↑p0.Below.length : Int) + nth (nth q0.Below x8.toNat) x10.toNat]) (by rfl) (by rfl) h fun h => ?_
    conv => whnf
    refine Ask.o h fun p20 h => ?_
    conv => whnf
    cases h; exact ⟨rfl, rfl⟩
  conv => whnf
  cases h; exact ⟨rfl, rfl⟩

noncomputable def F_spec_StackLattice_l3 (p0 : SPoset) (q0 : SPoset) : (Int × SPoset) → Option ((Int × SPoset) ⊕ SPoset) := fun (x8, x6) =>
 if x8 < (↑q0.Below.length : Int) then
 (F_spec_l6Identity ((↑p0.Below.length : Int))).bind fun r14 =>
 (loopO (F_spec_StackLattice_l2 p0 q0 x8 x6) ((0 : Int), r14)).bind fun q21_9 =>
 ask ((x6.Below).length + ([q21_9]).length ≤ LIM) <|
 ask (InI (x8 + (1 : Int))) <|
 some (.inl (x8 + (1 : Int), { Below := x6.Below ++ [q21_9] }))
 else
 some (.inr x6)
def S_spec_StackLattice_l3 (p0 : SPoset) (q0 : SPoset) : (Int × SPoset) → St := fun s => [(8, A.val (vint s.1)), (6, A.val ((rP true (rS_Poset true)) s.2)), (4, A.val ((rP true (rS_Poset true)) ({ Below := nilL (List Int) }))), (3, A.val ((rP true (rS_Poset false)) (q0))), (2, A.val ((rP true (rS_Poset false)) (p0)))]
def T_spec_StackLattice_l3 (_p0 : SPoset) (_q0 : SPoset) : SPoset → Tgt
 | s => ((Ex.exit 2), [6, 4], [(6, A.val ((rP true (rS_Poset true)) s)), (4, A.val ((rP true (rS_Poset true)) ({ Below := nilL (List Int) })))])
theorem b_spec_StackLattice_l3 {p0 : SPoset} {q0 : SPoset} (s : (Int × SPoset)) (o : (Int × SPoset) ⊕ SPoset) (h : F_spec_StackLattice_l3 p0 q0 s = some o) : vc Try.prog c_spec_StackLattice_l3 (outQ [8, 6, 4, 3, 2] (S_spec_StackLattice_l3 p0 q0) (T_spec_StackLattice_l3 p0 q0) o) (S_spec_StackLattice_l3 p0 q0 s) := by
  obtain ⟨x8, x6⟩ := s
  unfold F_spec_StackLattice_l3 at h
  try dsimp only at h
  conv => whnf
  refine Cells.lit rfl rfl ?_
  conv => whnf
  refine Len.map ?_
  conv => whnf
  refine Br.od h (fun p13 h => ?_) (fun p13 h => ?_)
  · conv => whnf
    refine Cells.lit rfl rfl ?_
    conv => whnf
    refine Len.map ?_
    conv => whnf
    refine CallQ.o (slr true 1 vint) (by rfl) h (fun r h => t_spec_l6Identity h) (fun r14 h => ?_)
    conv => whnf
    refine LoopQ.o [10, 9, 8, 6, 4, 3, 2] (S_spec_StackLattice_l2 p0 q0 x8 x6) (T_spec_StackLattice_l2 p0 q0 x8 x6) h (fun s o h => b_spec_StackLattice_l2 s o h) (by first | rfl | simp [restrict, look, mulN_one, V.fz, fzL, V.up, upL, fzL_map, fz_slr, fz_at, slr]) (fun _ => rfl) ?_
    rintro q21_9 h
    try dsimp only at h
    conv => whnf
    refine Cells.lit rfl rfl ?_
    conv => whnf
    refine BslQ.o (slr true 1 vint) [q21_9] (by exact fun _ => ⟨rfl, rfl⟩) (by rfl) ?_
    conv => whnf
    refine NoOwn.own rfl ?_
    conv => whnf
    refine Kid.lit rfl rfl ?_
    conv => whnf
    refine Kid.lit rfl rfl ?_
    conv => whnf
    refine SetKids.lit rfl ?_
    conv => whnf
    refine AppQ.o (m := 1) (slr true 1 vint) (by exact fun _ => ⟨rfl, rfl⟩) (x6.Below) ([q21_9]) (by rfl) (by rfl) h fun h => ?_
    conv => whnf
    refine SetKids.lit rfl ?_
    conv => whnf
    refine Ask.o h fun p22 h => ?_
    conv => whnf
    cases h; exact ⟨rfl, rfl⟩
  conv => whnf
  cases h; exact ⟨rfl, rfl⟩

noncomputable def F_spec_StackLattice (p0 : SPoset) (q0 : SPoset) : Option (SPoset × Bool) :=
 (((F_spec_l24Good (p0)).bind fun r1 =>
 if (r1) = true then
 (F_spec_l24Good (q0)).bind fun r3 =>
 if (r3) = true then
 ask (InI ((↑p0.Below.length : Int) + (↑q0.Below.length : Int))) <|
 if (↑p0.Below.length : Int) + (↑q0.Below.length : Int) > (10 : Int) then
 some (.inl ())
 else
 some (.inr ())
 else
 some (.inl ())
 else
 some (.inl ()) : Option (Unit ⊕ Unit))).bind fun t => match t with
 | (.inl _) => (some ({ Below := nilL (List Int) }, false))
 | (.inr _) => ((loopO (F_spec_StackLattice_l1 p0 q0) ((0 : Int), { Below := nilL (List Int) })).bind fun q12_6 =>
 (loopO (F_spec_StackLattice_l3 p0 q0) ((0 : Int), q12_6)).bind fun q23_6 =>
 some (q23_6, true))
theorem t_spec_StackLattice {p0 : SPoset} {q0 : SPoset} {v : (SPoset × Bool)} (h : F_spec_StackLattice p0 q0 = some v) : Ret Try.prog f_spec_StackLattice [(rS_Poset false) p0, (rS_Poset false) q0] ((fun r => V.tup [(rS_Poset true) r.1, V.bool r.2]) v) := by
  refine ret_vc k_spec_StackLattice (Nat.le_of_ble_eq_true rfl) ?_
  unfold F_spec_StackLattice at h
  conv => whnf
  refine CutQ.o (fun t : (Unit ⊕ Unit) => match t with | (.inl s) => (Ex.ret, [5, 4], [(5, A.val (V.bool (false))), (4, A.val ((rP true (rS_Poset true)) ({ Below := nilL (List Int) })))]) | (.inr s) => (Ex.normal, [4, 3, 2], [(4, A.val ((rP true (rS_Poset true)) ({ Below := nilL (List Int) }))), (3, A.val ((rP true (rS_Poset false)) (q0))), (2, A.val ((rP true (rS_Poset false)) (p0)))])) h ?_ ?_
  · intro t h
    conv => whnf
    refine Cells.lit rfl rfl ?_
    conv => whnf
    refine CallQ.o V.bool (by rfl) h (fun r h => t_spec_l24Good h) (fun r1 h => ?_)
    conv => whnf
    refine Br.flip ?_
    conv => whnf
    refine Br.ob h (fun p2 h => ?_) (fun p2 h => ?_)
    · conv => whnf
      refine Cells.lit rfl rfl ?_
      conv => whnf
      refine Br.no ?_
      conv => whnf
      refine CallQ.o V.bool (by rfl) h (fun r h => t_spec_l24Good h) (fun r3 h => ?_)
      conv => whnf
      refine Br.no ?_
      conv => whnf
      refine Br.no ?_
      conv => whnf
      refine Br.flip ?_
      conv => whnf
      refine Br.ob h (fun p4 h => ?_) (fun p4 h => ?_)
      · conv => whnf
        refine Br.no ?_
        conv => whnf
        refine Cells.lit rfl rfl ?_
        conv => whnf
        refine Br.no ?_
        conv => whnf
        refine Len.map ?_
        conv => whnf
        refine Br.no ?_
        conv => whnf
        refine Br.no ?_
        conv => whnf
        refine Cells.lit rfl rfl ?_
        conv => whnf
        refine Br.no ?_
        conv => whnf
        refine Len.map ?_
        conv => whnf
        refine Br.no ?_
        conv => whnf
        refine Ask.o h fun p5 h => ?_
        conv => whnf
        refine Br.no ?_
        conv => whnf
        refine Br.no ?_
        conv => whnf
        refine Br.od h (fun p6 h => ?_) (fun p6 h => ?_)
        · conv => whnf
          refine SetKids.lit rfl ?_
          conv => whnf
          cases h; exact ⟨rfl, rfl⟩
        conv => whnf
        cases h; exact ⟨rfl, rfl⟩
      conv => whnf
      refine Br.yes ?_
      conv => whnf
      refine Br.yes ?_
      conv => whnf
      refine Br.yes ?_
      conv => whnf
      refine Br.yes ?_
      conv => whnf
      refine Br.yes ?_
      conv => whnf
      refine Br.yes ?_
      conv => whnf
      refine Br.yes ?_
      conv => whnf
      refine Br.yes ?_
      conv => whnf
      refine Br.yes ?_
      conv => whnf
      refine SetKids.lit rfl ?_
      conv => whnf
      cases h; exact ⟨rfl, rfl⟩
    conv => whnf
    refine Br.yes ?_
    conv => whnf
    refine Br.yes ?_
    conv => whnf
    refine Br.yes ?_
    conv => whnf
    refine Br.yes ?_
    conv => whnf
    refine Br.yes ?_
    conv => whnf
    refine Br.yes ?_
    conv => whnf
    refine Br.yes ?_
    conv => whnf
    refine Br.yes ?_
    conv => whnf
    refine Br.yes ?_
    conv => whnf
    refine Br.yes ?_
    conv => whnf
    refine Br.yes ?_
    conv => whnf
    refine Br.yes ?_
    conv => whnf
    refine Br.yes ?_
    conv => whnf
    refine SetKids.lit rfl ?_
    conv => whnf
    cases h; exact ⟨rfl, rfl⟩
  rintro (⟨⟩ | ⟨⟩) h
  · try dsimp only at h
    conv => whnf
    cases h; exact (by rfl)
  try dsimp only at h
  conv => whnf
  refine BslQ.o (slr true 1 vint) (nilL (List Int)) (by exact fun _ => ⟨rfl, rfl⟩) (by rfl) ?_
  conv => whnf
  refine SetKids.lit rfl ?_
  conv => whnf
  refine LoopQ.o [7, 6, 4, 3, 2] (S_spec_StackLattice_l1 p0 q0) (T_spec_StackLattice_l1 p0 q0) h (fun s o h => b_spec_StackLattice_l1 s o h) (by first | rfl | simp [restrict, look, mulN_one, V.fz, fzL, V.up, upL, fzL_map, fz_slr, fz_at, slr]) (fun _ => rfl) ?_
  rintro q12_6 h
  try dsimp only at h
  conv => whnf
  refine LoopQ.o [8, 6, 4, 3, 2] (S_spec_StackLattice_l3 p0 q0) (T_spec_StackLattice_l3 p0 q0) h (fun s o h => b_spec_StackLattice_l3 s o h) (by first | rfl | simp [restrict, look, mulN_one, V.fz, fzL, V.up, upL, fzL_map, fz_slr, fz_at, slr]) (fun _ => rfl) ?_
  rintro q23_6 h
  try dsimp only at h
  conv => whnf
  refine Cells.lit rfl rfl ?_
  conv => whnf
  refine SetKids.lit rfl ?_
  conv => whnf
  cases h; exact (by rfl)

noncomputable def F_impl_lattice_atoms (l0 : Slattice) : Option (List Int) :=
 (F_impl_lattice_bottom (l0)).bind fun r1 =>
 (F_impl_order_upperCovers (l0.order) (r1)).bind fun r2 =>
 some r2
theorem t_impl_lattice_atoms {l0 : Slattice} {v : (List Int)} (h : F_impl_lattice_atoms l0 = some v) : Ret Try.prog f_impl_lattice_atoms [(rP false (rS_lattice false)) l0] ((slr true 1 vint) v) := by
  refine ret_vc k_impl_lattice_atoms (Nat.le_of_ble_eq_true rfl) ?_
  unfold F_impl_lattice_atoms at h
  conv => whnf
  refine CallP.o vint (by rfl) h (fun r h => t_impl_lattice_bottom h) (fun r1 h => ?_)
  conv => whnf
  refine CallQ.o (slr true 1 vint) (by rfl) h (fun r h => t_impl_order_upperCovers h) (fun r2 h => ?_)
  conv => whnf
  cases h; exact (by rfl)

noncomputable def F_spec_l24Atoms_l1 (p0 : SPoset) (r1 : Int) : (Int × (List Int)) → Option ((Int × (List Int)) ⊕ (List Int)) := fun (x5, x3) =>
 if x5 < (↑p0.Below.length : Int) then
 (F_spec_l23Covers (p0) (r1) (x5)).bind fun r3 =>
 if (r3) = true then
 ask ((x3).length + ([x5]).length ≤ LIM) <|
 ask (InI (x5 + (1 : Int))) <|
 some (.inl (x5 + (1 : Int), x3 ++ [x5]))
 else
 ask (InI (x5 + (1 : Int))) <|
 some (.inl (x5 + (1 : Int), x3))
 else
 some (.inr x3)
def S_spec_l24Atoms_l1 (p0 : SPoset) (r1 : Int) : (Int × (List Int)) → St := fun s => [(5, A.val (vint s.1)), (4, A.val (vint (r1))), (3, A.val ((slr true 1 vint) s.2)), (1, A.val ((rP true (rS_Poset false)) (p0)))]
def T_spec_l24Atoms_l1 (_p0 : SPoset) (_r1 : Int) : (List Int) → Tgt
 | s => ((Ex.exit 0), [3], [(3, A.val ((slr true 1 vint) s))])
theorem b_spec_l24Atoms_l1 {p0 : SPoset} {r1 : Int} (s : (Int × (List Int))) (o : (Int × (List Int)) ⊕ (List Int)) (h : F_spec_l24Atoms_l1 p0 r1 s = some o) : vc Try.prog c_spec_l24Atoms_l1 (outQ [5, 4, 3, 1] (S_spec_l24Atoms_l1 p0 r1) (T_spec_l24Atoms_l1 p0 r1) o) (S_spec_l24Atoms_l1 p0 r1 s) := by
  obtain ⟨x5, x3⟩ := s
  unfold F_spec_l24Atoms_l1 at h
  try dsimp only at h
  conv => whnf
  refine Cells.lit rfl rfl ?_
  conv => whnf
  refine Len.map ?_
  conv => whnf
  refine Br.od h (fun p2 h => ?_) (fun p2 h => ?_)
  · conv => whnf
    refine Cells.lit rfl rfl ?_
    conv => whnf
    refine CallQ.o V.bool (by rfl) h (fun r h => t_spec_l23Covers h) (fun r3 h => ?_)
    conv => whnf
    refine Br.ob h (fun p4 h => ?_) (fun p4 h => ?_)
    · conv => whnf
      refine BslQ.o vint [x5] (by exact fun _ => ⟨rfl, rfl⟩) (by rfl) ?_
      conv => whnf
      refine NoOwn.o (fun _ => rfl) ?_
      conv => whnf
      refine AppQ.o (m := 1) vint (by exact fun _ => ⟨rfl, rfl⟩) (x3) ([x5]) (by rfl) (by rfl) h fun h => ?_
      conv => whnf
      refine Ask.o h fun p5 h => ?_
      conv => whnf
      cases h; exact ⟨rfl, rfl⟩
    conv => whnf
    refine Ask.o h fun p6 h => ?_
    conv => whnf
    cases h; exact ⟨rfl, rfl⟩
  conv => whnf
  cases h; exact ⟨rfl, rfl⟩

noncomputable def F_spec_l24Atoms (p0 : SPoset) : Option (List Int) :=
 (F_spec_l24Bottom (p0)).bind fun r1 =>
 (loopO (F_spec_l24Atoms_l1 p0 r1) ((0 : Int), nilL Int)).bind fun q7_3 =>
 some q7_3
theorem t_spec_l24Atoms {p0 : SPoset} {v : (List Int)} (h : F_spec_l24Atoms p0 = some v) : Ret Try.prog f_spec_l24Atoms [(rS_Poset false) p0] ((slr true 1 vint) v) := by
  refine ret_vc k_spec_l24Atoms (Nat.le_of_ble_eq_true rfl) ?_
  unfold F_spec_l24Atoms at h
  conv => whnf
  refine BslQ.o vint (nilL Int) (by exact fun _ => ⟨rfl, rfl⟩) (by rfl) ?_
  conv => whnf
  refine Cells.lit rfl rfl ?_
  conv => whnf
  refine CallQ.o vint (by rfl) h (fun r h => t_spec_l24Bottom h) (fun r1 h => ?_)
  conv => whnf
  refine LoopQ.o [5, 4, 3, 1] (S_spec_l24Atoms_l1 p0 r1) (T_spec_l24Atoms_l1 p0 r1) h (fun s o h => b_spec_l24Atoms_l1 s o h) (by first | rfl | simp [restrict, look, mulN_one, V.fz, fzL, V.up, upL, fzL_map, fz_slr, fz_at, slr]) (fun _ => rfl) ?_
  rintro q7_3 h
  try dsimp only at h
  conv => whnf
  cases h; exact (by rfl)

end Go.Proofs.Ytoikbcagaanhgaa.Ax
