/-
  What the functions compute, as functions on plain data, and that the program does compute it; written by program.
-/
import Derived.Test.YtoikbcagaanhgaaCode
import Derived.Test.YtoikbcagaanhgaaG2
import Derived.Test.YtoikbcagaanhgaaG3
import Derived.Test.YtoikbcagaanhgaaG5
import Derived.Test.YtoikbcagaanhgaaG7
import Derived.Test.YtoikbcagaanhgaaG8
import Derived.Test.YtoikbcagaanhgaaG10
import Derived.Test.YtoikbcagaanhgaaG11
import Derived.Test.YtoikbcagaanhgaaG12
namespace Go.Proofs.Ytoikbcagaanhgaa.Ax
open Go
set_option maxRecDepth 100000
set_option maxHeartbeats 4000000

noncomputable def F_spec_JoinIrreducibles (p0 : SPoset) : Option ((List Int) × Bool) :=
 (F_spec_l24Good (p0)).bind fun r1 =>
 if (r1) = true then
 (F_spec_l24Irreducibles (p0)).bind fun r3 =>
 some (r3, true)
 else
 some (nilL Int, false)
theorem t_spec_JoinIrreducibles {p0 : SPoset} {v : ((List Int) × Bool)} (h : F_spec_JoinIrreducibles p0 = some v) : Ret Try.prog f_spec_JoinIrreducibles [(rS_Poset false) p0] ((fun r => V.tup [(slr true 1 vint) r.1, V.bool r.2]) v) := by
  refine ret_vc k_spec_JoinIrreducibles (Nat.le_of_ble_eq_true rfl) ?_
  unfold F_spec_JoinIrreducibles at h
  refine Cells.lit rfl rfl ?_
  refine CallQ.o V.bool (by rfl) h (fun r h => t_spec_l24Good h) (fun r1 h => ?_)
  refine Br.flip ?_
  refine Br.ob h (fun p2 h => ?_) (fun p2 h => ?_)
  · refine Cells.lit rfl rfl ?_
    refine CallQ.o (slr true 1 vint) (by rfl) h (fun r h => t_spec_l24Irreducibles h) (fun r3 h => ?_)
    cases h; exact (by rfl)
  refine BslQ.o vint (nilL Int) (by exact fun _ => ⟨rfl, rfl⟩) (by rfl) ?_
  cases h; exact (by rfl)

noncomputable def F_spec_MeetIrreducibles (p0 : SPoset) : Option ((List Int) × Bool) :=
 (F_spec_l24Good (p0)).bind fun r1 =>
 if (r1) = true then
 (F_spec_l23Dual (p0)).bind fun r3 =>
 (F_spec_l24Irreducibles (r3)).bind fun r4 =>
 some (r4, true)
 else
 some (nilL Int, false)
theorem t_spec_MeetIrreducibles {p0 : SPoset} {v : ((List Int) × Bool)} (h : F_spec_MeetIrreducibles p0 = some v) : Ret Try.prog f_spec_MeetIrreducibles [(rS_Poset false) p0] ((fun r => V.tup [(slr true 1 vint) r.1, V.bool r.2]) v) := by
  refine ret_vc k_spec_MeetIrreducibles (Nat.le_of_ble_eq_true rfl) ?_
  unfold F_spec_MeetIrreducibles at h
  refine Cells.lit rfl rfl ?_
  refine CallQ.o V.bool (by rfl) h (fun r h => t_spec_l24Good h) (fun r1 h => ?_)
  refine Br.flip ?_
  refine Br.ob h (fun p2 h => ?_) (fun p2 h => ?_)
  · refine Cells.lit rfl rfl ?_
    refine CallQ.o (rS_Poset true) (by rfl) h (fun r h => t_spec_l23Dual h) (fun r3 h => ?_)
    refine CallQ.rd (slr true 1 vint) (by first | rfl | simp only [V.fz, fzL, fzL_map] | simp [mulN_one, V.fz, fzL, V.up, upL, fzL_map, fz_slr, fz_at, slr]) (fun _ => by simp [V.noFz, noFzL_map]) h (fun r h => t_spec_l24Irreducibles h) (fun r4 h => ?_)
    cases h; exact (by rfl)
  refine BslQ.o vint (nilL Int) (by exact fun _ => ⟨rfl, rfl⟩) (by rfl) ?_
  cases h; exact (by rfl)

noncomputable def F_spec_l1Cur_lattice_l1 (_r8 : SPoset) (r9 : List Int) (_q15_60 : Sl1Cur) : (Int × (List (Int × Int))) → Option ((Int × (List (Int × Int))) ⊕ (List (Int × Int))) := fun (x7, x6) =>
 if x7 < (↑x6.length : Int) then
 ask ((0 : Int) ≤ x7 ∧ x7 < (↑x6.length : Int)) <|
 ask ((0 : Int) ≤ (nth x6 x7.toNat).fst ∧ (nth x6 x7.toNat).fst < (↑r9.length : Int)) <|
 ask ((0 : Int) ≤ x7 ∧ x7 < (↑x6.length : Int)) <|
 ask ((0 : Int) ≤ (nth x6 x7.toNat).snd ∧ (nth x6 x7.toNat).snd < (↑r9.length : Int)) <|
 ask ((0 : Int) ≤ x7 ∧ x7 < (↑x6.length : Int)) <|
 ask (InI (x7 + (1 : Int))) <|
 some (.inl (x7 + (1 : Int), x6.set x7.toNat (nth r9 (nth x6 x7.toNat).fst.toNat, nth r9 (nth x6 x7.toNat).snd.toNat)))
 else
 some (.inr x6)
def S_spec_l1Cur_lattice_l1 (r8 : SPoset) (r9 : List Int) (q15_60 : Sl1Cur) : (Int × (List (Int × Int))) → St := fun s => [(7, A.val (vint s.1)), (6, A.val ((slr true 2 (rA2 vint)) s.2)), (5, A.val ((slr true 1 vint) (r9))), (4, A.val (vint ((↑r8.Below.length : Int)))), (3, A.val ((rP true (rS_Poset true)) (r8))), (2, A.val ((rP true (rS_Poset true)) ({ Below := nilL (List Int) }))), (60, A.val ((rP true (rS_l1Cur false)) (q15_60)))]
def T_spec_l1Cur_lattice_l1 (r8 : SPoset) (_r9 : List Int) (q15_60 : Sl1Cur) : (List (Int × Int)) → Tgt
 | s => ((Ex.exit 0), [6, 4, 3, 2, 60], [(6, A.val ((slr true 2 (rA2 vint)) s)), (4, A.val (vint ((↑r8.Below.length : Int)))), (3, A.val ((rP true (rS_Poset true)) (r8))), (2, A.val ((rP true (rS_Poset true)) ({ Below := nilL (List Int) }))), (60, A.val ((rP true (rS_l1Cur false)) (q15_60)))])
theorem b_spec_l1Cur_lattice_l1 {r8 : SPoset} {r9 : List Int} {q15_60 : Sl1Cur} (s : (Int × (List (Int × Int)))) (o : (Int × (List (Int × Int))) ⊕ (List (Int × Int))) (h : F_spec_l1Cur_lattice_l1 r8 r9 q15_60 s = some o) : vc Try.prog c_spec_l1Cur_lattice_l1 (outQ [7, 6, 5, 4, 3, 2, 60] (S_spec_l1Cur_lattice_l1 r8 r9 q15_60) (T_spec_l1Cur_lattice_l1 r8 r9 q15_60) o) (S_spec_l1Cur_lattice_l1 r8 r9 q15_60 s) := by
  obtain ⟨x7, x6⟩ := s
  unfold F_spec_l1Cur_lattice_l1 at h
  try dsimp only at h
  refine Len.map ?_
  refine Br.od h (fun p18 h => ?_) (fun p18 h => ?_)
  · refine Len.map ?_
    refine Ask.o h fun p19 h => ?_
    refine Ask.mk (by decide) ?_
    refine Idx.lit ?_
    refine Cells.wide (by exact fun _ => ⟨rfl, rfl⟩) (by first | omega | (simp [mulN] at *; omega)) (by decide) ?_
    refine Len.map ?_
    refine Ask.o h fun p20 h => ?_
    refine Cells.one (fun _ => ⟨rfl, rfl⟩) (by first | omega | (simp [mulN] at *; omega)) ?_
    refine Len.map ?_
    refine Ask.o h fun p21 h => ?_
    refine Ask.mk (by decide) ?_
    refine Idx.lit ?_
    refine Cells.wide (by exact fun _ => ⟨rfl, rfl⟩) (by first | omega | (simp [mulN] at *; omega)) (by decide) ?_
    refine Len.map ?_
    refine Ask.o h fun p22 h => ?_
    refine Cells.one (fun _ => ⟨rfl, rfl⟩) (by first | omega | (simp [mulN] at *; omega)) ?_
    refine Len.map ?_
    refine Ask.o h fun p23 h => ?_
    refine SetKids.wide0 (by exact fun _ => ⟨rfl, rfl⟩) ((nth r9 (nth x6 x7.toNat).fst.toNat, nth r9 (nth x6 x7.toNat).snd.toNat)) (by first | omega | (simp [mulN] at *; omega)) (by rfl) (by decide) ?_
    refine Ask.o h fun p24 h => ?_
    cases h; exact ⟨rfl, rfl⟩
  cases h; exact ⟨rfl, rfl⟩

noncomputable def F_spec_l1Cur_lattice (c0 : Sl1Cur) : Option (SPoset × Sl1Cur) :=
 (F_spec_l1Cur_one (c0) ((10 : Int))).bind fun (r1, u2) =>
 if (r1) = true then
 (F_spec_l1Cur_poset (u2)).bind fun (r4, u5) =>
 some (r4, u5)
 else
 (F_spec_l1Cur_pick (u2) ((12 : Int))).bind fun (r6, u7) =>
 (F_spec_l24Known (r6)).bind fun r8 =>
 (F_spec_l1Cur_names2 (u7) ((↑r8.Below.length : Int))).bind fun (r9, u10) =>
 (((F_spec_l2Perm (r9) ((↑r8.Below.length : Int))).bind fun r11 =>
 if (r11) = true then
 (F_spec_l1Cur_one (u10) ((2 : Int))).bind fun (r13, u14) =>
 some (r13, u14)
 else
 some (false, u10) : Option (Bool × Sl1Cur))).bind fun (q15_27, q15_60) =>
 if (q15_27) = true then
 (F_spec_l23Pairs (r8)).bind fun r17 =>
 (loopO (F_spec_l1Cur_lattice_l1 r8 r9 q15_60) ((0 : Int), r17)).bind fun q25_6 =>
 (F_spec_l23From ((↑r8.Below.length : Int)) (q25_6)).bind fun r26 =>
 some (r26, q15_60)
 else
 some (r8, q15_60)
theorem t_spec_l1Cur_lattice {c0 : Sl1Cur} {v : (SPoset × Sl1Cur)} (h : F_spec_l1Cur_lattice c0 = some v) : RetO Try.prog f_spec_l1Cur_lattice [(rP true (rS_l1Cur false)) c0] ((rS_Poset false) v.1) 0 ((rP true (rS_l1Cur false)) v.2) := by
  refine retofz_vc k_spec_l1Cur_lattice (Nat.le_of_ble_eq_true rfl) ?_
  unfold F_spec_l1Cur_lattice at h
  refine CallQ.io V.bool (rP true (rS_l1Cur false)) (by rfl) rfl (fun _ => rfl) (fun _ => ⟨rfl, rfl⟩) rfl h (fun r h => t_spec_l1Cur_one h) (fun r1 u2 h => ?_)
  refine Br.ob h (fun p3 h => ?_) (fun p3 h => ?_)
  · refine CallQ.io (rS_Poset false) (rP true (rS_l1Cur false)) (by rfl) rfl (fun _ => rfl) (fun _ => ⟨rfl, rfl⟩) rfl h (fun r h => t_spec_l1Cur_poset h) (fun r4 u5 h => ?_)
    refine SetKids.lit rfl ?_
    cases h; exact ⟨(by rfl), (by rfl)⟩
  refine CallQ.io vint (rP true (rS_l1Cur false)) (by rfl) rfl (fun _ => rfl) (fun _ => ⟨rfl, rfl⟩) rfl h (fun r h => t_spec_l1Cur_pick h) (fun r6 u7 h => ?_)
  refine CallQ.o (rS_Poset true) (by rfl) h (fun r h => t_spec_l24Known h) (fun r8 h => ?_)
  refine SetKids.lit rfl ?_
  refine Cells.lit rfl rfl ?_
  refine Kid.lit rfl rfl ?_
  refine Len.map ?_
  refine CallQ.io (slr true 1 vint) (rP true (rS_l1Cur false)) (by rfl) rfl (fun _ => rfl) (fun _ => ⟨rfl, rfl⟩) rfl h (fun r h => t_spec_l1Cur_names2 h) (fun r9 u10 h => ?_)
  refine CutQ.o (fun t : (Bool × Sl1Cur) => match t with | s => (Ex.normal, [27, 5, 4, 3, 2, 60], [(27, A.val (V.bool s.1)), (5, A.val ((slr true 1 vint) (r9))), (4, A.val (vint ((↑r8.Below.length : Int)))), (3, A.val ((rP true (rS_Poset true)) (r8))), (2, A.val ((rP true (rS_Poset true)) ({ Below := nilL (List Int) }))), (60, A.val ((rP true (rS_l1Cur false)) s.2))])) h ?_ ?_
  · intro t h
    refine CallQ.rd V.bool (by first | rfl | simp only [V.fz, V.up, fzL_map, fz_at, slr] | simp [mulN_one, V.fz, fzL, V.up, upL, fzL_map, fz_slr, fz_at, slr]) (fun _ => rfl) h (fun r h => t_spec_l2Perm h) (fun r11 h => ?_)
    refine Br.ob h (fun p12 h => ?_) (fun p12 h => ?_)
    · refine Br.yes ?_
      refine CallQ.io V.bool (rP true (rS_l1Cur false)) (by rfl) rfl (fun _ => rfl) (fun _ => ⟨rfl, rfl⟩) rfl h (fun r h => t_spec_l1Cur_one h) (fun r13 u14 h => ?_)
      refine Br.yes ?_
      cases h; exact ⟨rfl, rfl⟩
    refine Br.no ?_
    refine Br.no ?_
    cases h; exact ⟨rfl, rfl⟩
  rintro ⟨q15_27, q15_60⟩ h
  try dsimp only at h
  refine Br.ob h (fun p16 h => ?_) (fun p16 h => ?_)
  · refine Cells.lit rfl rfl ?_
    refine CallQ.rd (slr true 2 (rA2 vint)) (by first | rfl | simp only [V.fz, fzL_map] | simp [mulN_one, V.fz, fzL, V.up, upL, fzL_map, fz_slr, fz_at, slr]) (fun _ => by simp [V.noFz, noFzL_map]) h (fun r h => t_spec_l23Pairs h) (fun r17 h => ?_)
    refine LoopQ.o [7, 6, 5, 4, 3, 2, 60] (S_spec_l1Cur_lattice_l1 r8 r9 q15_60) (T_spec_l1Cur_lattice_l1 r8 r9 q15_60) h (fun s o h => b_spec_l1Cur_lattice_l1 s o h) (by first | rfl | simp [restrict, look, mulN_one, V.fz, fzL, V.up, upL, fzL_map, fz_slr, fz_at, slr]) (fun _ => rfl) ?_
    rintro q25_6 h
    try dsimp only at h
    refine CallQ.rd (rS_Poset true) (by first | rfl | simp only [V.fz, V.up, fzL_map, fz_at, slr] | simp [mulN_one, V.fz, fzL, V.up, upL, fzL_map, fz_slr, fz_at, slr]) (fun _ => by simp [V.noFz, noFzL, noFzL_map]) h (fun r h => t_spec_l23From h) (fun r26 h => ?_)
    refine SetKids.lit rfl ?_
    refine Cells.lit rfl rfl ?_
    refine SetKids.lit rfl ?_
    cases h; exact ⟨(by first | rfl | simp only [resV, V.fz, fzL, fzL_map, slr] | simp [resV, mulN_one, V.fz, fzL, V.up, upL, fzL_map, fz_slr, fz_at, slr]), (by rfl)⟩
  refine Cells.lit rfl rfl ?_
  refine SetKids.lit rfl ?_
  cases h; exact ⟨(by first | rfl | simp only [resV, V.fz, fzL, fzL_map, slr] | simp [resV, mulN_one, V.fz, fzL, V.up, upL, fzL_map, fz_slr, fz_at, slr]), (by rfl)⟩

noncomputable def F_impl_lattice_irreducibles (l0 : Slattice) : Option (List Int) :=
 (F_impl_order_those (l0.order) (fun w_0 => F_impl_lattice_irreducibles_1 w_0 (l0))).bind fun r1 =>
 some r1
theorem t_impl_lattice_irreducibles {l0 : Slattice} {v : (List Int)} (h : F_impl_lattice_irreducibles l0 = some v) : Ret Try.prog f_impl_lattice_irreducibles [(rP false (rS_lattice false)) l0] ((slr true 1 vint) v) := by
  refine ret_vc k_impl_lattice_irreducibles (Nat.le_of_ble_eq_true rfl) ?_
  unfold F_impl_lattice_irreducibles at h
  refine Cells.lit rfl rfl ?_
  refine CallQ.rd (slr true 1 vint) (by rfl) (fun _ => by simp [V.noFz, noFzL_map]) h (fun r h => t_impl_order_those (f_so0 := f_impl_lattice_irreducibles_1) (c_so0 := [(rP false (rP false (rS_lattice false))) (l0)]) (fun w_0 v h => Ret.cast (by rfl) (t_impl_lattice_irreducibles_1 h)) h) (fun r1 h => ?_)
  cases h; exact (by rfl)

noncomputable def F_impl_MeetIrreducibles_1 (l0 : Slattice) : Option (List Int) :=
 (F_impl_order_those (l0.order) (fun w_0 => F_impl_MeetIrreducibles_1_1 w_0 (l0))).bind fun r1 =>
 some r1
theorem t_impl_MeetIrreducibles_1 {l0 : Slattice} {v : (List Int)} (h : F_impl_MeetIrreducibles_1 l0 = some v) : Ret Try.prog f_impl_MeetIrreducibles_1 [(rP false (rS_lattice false)) l0] ((slr true 1 vint) v) := by
  refine ret_vc k_impl_MeetIrreducibles_1 (Nat.le_of_ble_eq_true rfl) ?_
  unfold F_impl_MeetIrreducibles_1 at h
  refine Cells.lit rfl rfl ?_
  refine CallQ.rd (slr true 1 vint) (by rfl) (fun _ => by simp [V.noFz, noFzL_map]) h (fun r h => t_impl_order_those (f_so0 := f_impl_MeetIrreducibles_1_1) (c_so0 := [(rP false (rP false (rS_lattice false))) (l0)]) (fun w_0 v h => Ret.cast (by rfl) (t_impl_MeetIrreducibles_1_1 h)) h) (fun r1 h => ?_)
  cases h; exact (by rfl)

noncomputable def F_impl_JoinIrreducibles (p0 : SPoset) : Option ((List Int) × Bool) :=
 (F_impl_listOf (p0) (fun w_0 => F_impl_lattice_irreducibles w_0)).bind fun r1 =>
 some r1
theorem t_impl_JoinIrreducibles {p0 : SPoset} {v : ((List Int) × Bool)} (h : F_impl_JoinIrreducibles p0 = some v) : Ret Try.prog f_impl_JoinIrreducibles [(rS_Poset false) p0] ((fun r => V.tup [(slr true 1 vint) r.1, V.bool r.2]) v) := by
  refine ret_vc k_impl_JoinIrreducibles (Nat.le_of_ble_eq_true rfl) ?_
  unfold F_impl_JoinIrreducibles at h
  refine Cells.lit rfl rfl ?_
  refine CallQ.o (fun r => V.tup [(slr true 1 vint) r.1, V.bool r.2]) (by rfl) h (fun r h => t_impl_listOf (f_list0 := f_impl_lattice_irreducibles) (c_list0 := []) (fun w_0 v h => Ret.cast (by rfl) (t_impl_lattice_irreducibles h)) h) (fun r1 h => ?_)
  cases h; exact (by rfl)

noncomputable def F_impl_MeetIrreducibles (p0 : SPoset) : Option ((List Int) × Bool) :=
 (F_impl_listOf (p0) (fun w_0 => F_impl_MeetIrreducibles_1 w_0)).bind fun r1 =>
 some r1
theorem t_impl_MeetIrreducibles {p0 : SPoset} {v : ((List Int) × Bool)} (h : F_impl_MeetIrreducibles p0 = some v) : Ret Try.prog f_impl_MeetIrreducibles [(rS_Poset false) p0] ((fun r => V.tup [(slr true 1 vint) r.1, V.bool r.2]) v) := by
  refine ret_vc k_impl_MeetIrreducibles (Nat.le_of_ble_eq_true rfl) ?_
  unfold F_impl_MeetIrreducibles at h
  refine Cells.lit rfl rfl ?_
  refine CallQ.o (fun r => V.tup [(slr true 1 vint) r.1, V.bool r.2]) (by rfl) h (fun r h => t_impl_listOf (f_list0 := f_impl_MeetIrreducibles_1) (c_list0 := []) (fun w_0 v h => Ret.cast (by rfl) (t_impl_MeetIrreducibles_1 h)) h) (fun r1 h => ?_)
  cases h; exact (by rfl)

noncomputable def F_spec_DrawIsLattice (code0 : (List Int)) : Option SPoset :=
 (F_spec_l1Cur_lattice ({ code := code0, at_ := (0 : Int), seed := (0 : Int) })).bind fun (r1, _u2) =>
 some r1
theorem t_spec_DrawIsLattice {code0 : (List Int)} {v : SPoset} (h : F_spec_DrawIsLattice code0 = some v) : Ret Try.prog f_spec_DrawIsLattice [(slr false 1 (V.int IntKind.u8)) code0] ((rS_Poset false) v) := by
  refine retfz_vc k_spec_DrawIsLattice (Nat.le_of_ble_eq_true rfl) ?_
  unfold F_spec_DrawIsLattice at h
  refine CallQ.io (rS_Poset false) (rP true (rS_l1Cur false)) (by rfl) rfl (fun _ => rfl) (fun _ => ⟨rfl, rfl⟩) rfl h (fun r h => t_spec_l1Cur_lattice h) (fun r1 u2 h => ?_)
  refine SetKids.lit rfl ?_
  cases h; exact (by rfl)

noncomputable def F_spec_DrawLatticeAlgebra (code0 : (List Int)) : Option SPoset :=
 (F_spec_DrawIsLattice (code0)).bind fun r1 =>
 some r1
theorem t_spec_DrawLatticeAlgebra {code0 : (List Int)} {v : SPoset} (h : F_spec_DrawLatticeAlgebra code0 = some v) : Ret Try.prog f_spec_DrawLatticeAlgebra [(slr false 1 (V.int IntKind.u8)) code0] ((rS_Poset false) v) := by
  refine retfz_vc k_spec_DrawLatticeAlgebra (Nat.le_of_ble_eq_true rfl) ?_
  unfold F_spec_DrawLatticeAlgebra at h
  refine CallQ.o (rS_Poset false) (by rfl) h (fun r h => t_spec_DrawIsLattice h) (fun r1 h => ?_)
  refine SetKids.lit rfl ?_
  cases h; exact (by rfl)

end Go.Proofs.Ytoikbcagaanhgaa.Ax
