/-
  What the functions compute, as functions on plain data, and that the program does compute it; written by program.
-/
import Derived.Test.YtoikbcagaanhgaaCode
import Derived.Test.YtoikbcagaanhgaaG2
import Derived.Test.YtoikbcagaanhgaaG4
import Derived.Test.YtoikbcagaanhgaaG5
import Derived.Test.YtoikbcagaanhgaaG6
namespace Go.Proofs.Ytoikbcagaanhgaa.Ax
open Go
set_option maxRecDepth 100000
set_option maxHeartbeats 4000000

noncomputable def F_impl_twoLattices (p0 : SPoset) (q0 : SPoset) : Option ((Option Slattice) × (Option Slattice) × Bool) :=
 (F_impl_latticeOf (p0)).bind fun t => match t with
 | (none, r1_2) => ((F_impl_latticeOf (q0)).bind fun t => match t with
 | (none, r2_2) => (if (r1_2) = true then
 some (none, none, r2_2)
 else
 some (none, none, false))
 | ((some r2_1), r2_2) => (if (r1_2) = true then
 some (none, some r2_1, r2_2)
 else
 some (none, some r2_1, false)))
 | ((some r1_1), r1_2) => ((F_impl_latticeOf (q0)).bind fun t => match t with
 | (none, r5_2) => (if (r1_2) = true then
 some (some r1_1, none, r5_2)
 else
 some (some r1_1, none, false))
 | ((some r5_1), r5_2) => (if (r1_2) = true then
 some (some r1_1, some r5_1, r5_2)
 else
 some (some r1_1, some r5_1, false)))
theorem t_impl_twoLattices {p0 : SPoset} {q0 : SPoset} {v : ((Option Slattice) × (Option Slattice) × Bool)} (h : F_impl_twoLattices p0 q0 = some v) : Ret Try.prog f_impl_twoLattices [(rS_Poset false) p0, (rS_Poset false) q0] ((fun r => V.tup [(rO true (rS_lattice true)) r.1, (rO true (rS_lattice true)) r.2.1, V.bool r.2.2]) v) := by
  refine ret_vc k_impl_twoLattices (Nat.le_of_ble_eq_true rfl) ?_
  unfold F_impl_twoLattices at h
  conv => whnf
  refine Cells.lit rfl rfl ?_
  conv => whnf
  refine CallQ.o (fun r => V.tup [(rO true (rS_lattice true)) r.1, V.bool r.2]) (by rfl) h (fun r h => t_impl_latticeOf h) (fun r1 h => ?_)
  rcases r1 with ⟨(_ | r1_1), r1_2⟩
  · try dsimp only at h
    conv => whnf
    refine Cells.lit rfl rfl ?_
    conv => whnf
    refine CallQ.o (fun r => V.tup [(rO true (rS_lattice true)) r.1, V.bool r.2]) (by rfl) h (fun r h => t_impl_latticeOf h) (fun r2 h => ?_)
    rcases r2 with ⟨(_ | r2_1), r2_2⟩
    · try dsimp only at h
      conv => whnf
      refine Br.ob h (fun p3 h => ?_) (fun p3 h => ?_)
      · conv => whnf
        refine Br.yes ?_
        conv => whnf
        cases h; exact (by rfl)
      conv => whnf
      refine Br.no ?_
      conv => whnf
      cases h; exact (by rfl)
    try dsimp only at h
    conv => whnf
    refine Br.ob h (fun p4 h => ?_) (fun p4 h => ?_)
    · conv => whnf
      refine Br.yes ?_
      conv => whnf
      cases h; exact (by rfl)
    conv => whnf
    refine Br.no ?_
    conv => whnf
    cases h; exact (by rfl)
  try dsimp only at h
  conv => whnf
  refine Cells.lit rfl rfl ?_
  conv => whnf
  refine CallQ.o (fun r => V.tup [(rO true (rS_lattice true)) r.1, V.bool r.2]) (by rfl) h (fun r h => t_impl_latticeOf h) (fun r5 h => ?_)
  rcases r5 with ⟨(_ | r5_1), r5_2⟩
  · try dsimp only at h
    conv => whnf
    refine Br.ob h (fun p6 h => ?_) (fun p6 h => ?_)
    · conv => whnf
      refine Br.yes ?_
      conv => whnf
      cases h; exact (by rfl)
    conv => whnf
    refine Br.no ?_
    conv => whnf
    cases h; exact (by rfl)
  try dsimp only at h
  conv => whnf
  refine Br.ob h (fun p7 h => ?_) (fun p7 h => ?_)
  · conv => whnf
    refine Br.yes ?_
    conv => whnf
    cases h; exact (by rfl)
  conv => whnf
  refine Br.no ?_
  conv => whnf
  cases h; exact (by rfl)

noncomputable def F_spec_l24Good_l1 (p0 : SPoset) (r5 : SPoset) (x4 : Int) : Int → Option (Int ⊕ (Unit ⊕ Unit)) := fun x5 =>
 if x5 < x4 then
 (F_spec_l24Bound (p0) ([x4, x5])).bind fun r8 =>
 if r8 < (0 : Int) then
 some (.inr (.inl ()))
 else
 (F_spec_l24Bound (r5) ([x4, x5])).bind fun r10 =>
 if r10 < (0 : Int) then
 some (.inr (.inl ()))
 else
 ask (InI (x5 + (1 : Int))) <|
 some (.inl (x5 + (1 : Int)))
 else
 some (.inr (.inr ()))
def S_spec_l24Good_l1 (p0 : SPoset) (r5 : SPoset) (x4 : Int) : Int → St := fun s => [(5, A.val (vint s)), (4, A.val (vint (x4))), (3, A.val ((rP true (rS_Poset true)) (r5))), (1, A.val ((rP true (rS_Poset false)) (p0)))]
def T_spec_l24Good_l1 (p0 : SPoset) (r5 : SPoset) (x4 : Int) : (Unit ⊕ Unit) → Tgt
 | (.inl _s) => (Ex.ret, [2], [(2, A.val (V.bool (false)))])
 | (.inr _s) => ((Ex.exit 2), [4, 3, 1], [(4, A.val (vint (x4))), (3, A.val ((rP true (rS_Poset true)) (r5))), (1, A.val ((rP true (rS_Poset false)) (p0)))])
theorem b_spec_l24Good_l1 {p0 : SPoset} {r5 : SPoset} {x4 : Int} (x5 : Int) (o : Int ⊕ (Unit ⊕ Unit)) (h : F_spec_l24Good_l1 p0 r5 x4 x5 = some o) : vc Try.prog c_spec_l24Good_l1 (outQ [5, 4, 3, 1] (S_spec_l24Good_l1 p0 r5 x4) (T_spec_l24Good_l1 p0 r5 x4) o) (S_spec_l24Good_l1 p0 r5 x4 x5) := by
  unfold F_spec_l24Good_l1 at h
  try dsimp only at h
  conv => whnf
  refine Br.od h (fun p7 h => ?_) (fun p7 h => ?_)
  · conv => whnf
    refine Cells.lit rfl rfl ?_
    conv => whnf
    refine BslQ.o vint ([x4, x5]) (by exact fun _ => ⟨rfl, rfl⟩) (by rfl) ?_
    conv => whnf
    refine CallQ.rd vint (by rfl) (fun _ => rfl) h (fun r h => t_spec_l24Bound h) (fun r8 h => ?_)
    conv => whnf
    refine Br.od h (fun p9 h => ?_) (fun p9 h => ?_)
    · conv => whnf
      refine Br.yes ?_
      conv => whnf
      refine Br.yes ?_
      conv => whnf
      refine Br.yes ?_
      conv => whnf
      refine Br.yes ?_
      conv => whnf
      refine Br.yes ?_
      conv => whnf
      refine Br.yes ?_
      conv => whnf
      refine Br.yes ?_
      conv => whnf
      cases h; exact ⟨rfl, rfl⟩
    conv => whnf
    refine Cells.lit rfl rfl ?_
    conv => whnf
    refine Br.no ?_
    conv => whnf
    refine Br.no ?_
    conv => whnf
    refine Br.no ?_
    conv => whnf
    refine BslQ.o vint ([x4, x5]) (by exact fun _ => ⟨rfl, rfl⟩) (by rfl) ?_
    conv => whnf
    refine Br.no ?_
    conv => whnf
    refine CallQ.rd vint (by first | rfl | simp only [V.fz, fzL_map, slr] | simp [mulN_one, V.fz, fzL, V.up, upL, fzL_map, fz_slr, fz_at, slr]) (fun _ => rfl) h (fun r h => t_spec_l24Bound h) (fun r10 h => ?_)
    conv => whnf
    refine Br.no ?_
    conv => whnf
    refine Br.no ?_
    conv => whnf
    refine Br.od h (fun p11 h => ?_) (fun p11 h => ?_)
    · conv => whnf
      cases h; exact ⟨rfl, rfl⟩
    conv => whnf
    refine Ask.o h fun p12 h => ?_
    conv => whnf
    cases h; exact ⟨rfl, rfl⟩
  conv => whnf
  cases h; exact ⟨rfl, rfl⟩

noncomputable def F_spec_l24Good_l2 (p0 : SPoset) (r5 : SPoset) : Int → Option (Int ⊕ (Unit ⊕ Unit)) := fun x4 =>
 if x4 < (↑p0.Below.length : Int) then
 (loopO (F_spec_l24Good_l1 p0 r5 x4) (0 : Int)).bind fun t => match t with
 | (.inl _) => (some (.inr (.inl ())))
 | (.inr _) => (ask (InI (x4 + (1 : Int))) <|
 some (.inl (x4 + (1 : Int))))
 else
 some (.inr (.inr ()))
def S_spec_l24Good_l2 (p0 : SPoset) (r5 : SPoset) : Int → St := fun s => [(4, A.val (vint s)), (3, A.val ((rP true (rS_Poset true)) (r5))), (1, A.val ((rP true (rS_Poset false)) (p0)))]
def T_spec_l24Good_l2 (_p0 : SPoset) (_r5 : SPoset) : (Unit ⊕ Unit) → Tgt
 | (.inl _s) => (Ex.ret, [2], [(2, A.val (V.bool (false)))])
 | (.inr _s) => ((Ex.exit 0), [], [])
theorem b_spec_l24Good_l2 {p0 : SPoset} {r5 : SPoset} (x4 : Int) (o : Int ⊕ (Unit ⊕ Unit)) (h : F_spec_l24Good_l2 p0 r5 x4 = some o) : vc Try.prog c_spec_l24Good_l2 (outQ [4, 3, 1] (S_spec_l24Good_l2 p0 r5) (T_spec_l24Good_l2 p0 r5) o) (S_spec_l24Good_l2 p0 r5 x4) := by
  unfold F_spec_l24Good_l2 at h
  try dsimp only at h
  conv => whnf
  refine Cells.lit rfl rfl ?_
  conv => whnf
  refine Len.map ?_
  conv => whnf
  refine Br.od h (fun p6 h => ?_) (fun p6 h => ?_)
  · conv => whnf
    refine LoopQ.o [5, 4, 3, 1] (S_spec_l24Good_l1 p0 r5 x4) (T_spec_l24Good_l1 p0 r5 x4) h (fun s o h => b_spec_l24Good_l1 s o h) (by first | rfl | simp [restrict, look, mulN_one, V.fz, fzL, V.up, upL, fzL_map, fz_slr, fz_at, slr]) (by rintro (_ | _) <;> rfl) ?_
    rintro (⟨⟩ | ⟨⟩) h
    · try dsimp only at h
      conv => whnf
      cases h; exact ⟨rfl, rfl⟩
    try dsimp only at h
    conv => whnf
    refine Ask.o h fun p14 h => ?_
    conv => whnf
    cases h; exact ⟨rfl, rfl⟩
  conv => whnf
  cases h; exact ⟨rfl, rfl⟩

noncomputable def F_spec_l24Good (p0 : SPoset) : Option Bool :=
 (((F_spec_l23Good (p0)).bind fun r1 =>
 if (r1) = true then
 if (↑p0.Below.length : Int) = (0 : Int) then
 some (.inl ())
 else
 some (.inr ())
 else
 some (.inl ()) : Option (Unit ⊕ Unit))).bind fun t => match t with
 | (.inl _) => (some false)
 | (.inr _) => ((F_spec_l23Dual (p0)).bind fun r5 =>
 (loopO (F_spec_l24Good_l2 p0 r5) (0 : Int)).bind fun t => match t with
 | (.inl _) => (some false)
 | (.inr _) => (some true))
theorem t_spec_l24Good {p0 : SPoset} {v : Bool} (h : F_spec_l24Good p0 = some v) : Ret Try.prog f_spec_l24Good [(rS_Poset false) p0] (V.bool v) := by
  refine ret_vc k_spec_l24Good (Nat.le_of_ble_eq_true rfl) ?_
  unfold F_spec_l24Good at h
  conv => whnf
  refine CutQ.o (fun t : (Unit ⊕ Unit) => match t with | (.inl s) => (Ex.ret, [2], [(2, A.val (V.bool (false)))]) | (.inr s) => (Ex.normal, [1], [(1, A.val ((rP true (rS_Poset false)) (p0)))])) h ?_ ?_
  · intro t h
    conv => whnf
    refine Cells.lit rfl rfl ?_
    conv => whnf
    refine CallQ.o V.bool (by rfl) h (fun r h => t_spec_l23Good h) (fun r1 h => ?_)
    conv => whnf
    refine Br.flip ?_
    conv => whnf
    refine Br.ob h (fun p2 h => ?_) (fun p2 h => ?_)
    · conv => whnf
      refine Br.no ?_
      conv => whnf
      refine Cells.lit rfl rfl ?_
      conv => whnf
      refine Br.no ?_
      conv => whnf
      refine Len.map ?_
      conv => whnf
      refine Br.no ?_
      conv => whnf
      refine Br.no ?_
      conv => whnf
      refine Br.oe h (fun p3 h => ?_) (fun p3 h => ?_)
      · conv => whnf
        cases h; exact ⟨rfl, rfl⟩
      conv => whnf
      cases h; exact ⟨rfl, rfl⟩
    conv => whnf
    refine Br.yes ?_
    conv => whnf
    refine Br.yes ?_
    conv => whnf
    refine Br.yes ?_
    conv => whnf
    refine Br.yes ?_
    conv => whnf
    refine Br.yes ?_
    conv => whnf
    cases h; exact ⟨rfl, rfl⟩
  rintro (⟨⟩ | ⟨⟩) h
  · try dsimp only at h
    conv => whnf
    cases h; exact (by rfl)
  try dsimp only at h
  conv => whnf
  refine Cells.lit rfl rfl ?_
  conv => whnf
  refine CallQ.o (rS_Poset true) (by rfl) h (fun r h => t_spec_l23Dual h) (fun r5 h => ?_)
  conv => whnf
  refine SetKids.lit rfl ?_
  conv => whnf
  refine LoopQ.o [4, 3, 1] (S_spec_l24Good_l2 p0 r5) (T_spec_l24Good_l2 p0 r5) h (fun s o h => b_spec_l24Good_l2 s o h) (by first | rfl | simp [restrict, look, mulN_one, V.fz, fzL, V.up, upL, fzL_map, fz_slr, fz_at, slr]) (by rintro (_ | _) <;> rfl) ?_
  rintro (⟨⟩ | ⟨⟩) h
  · try dsimp only at h
    conv => whnf
    cases h; exact (by rfl)
  try dsimp only at h
  conv => whnf
  cases h; exact (by rfl)

noncomputable def F_impl_listOf (p0 : SPoset) (list0 : (Slattice → Option (List Int))) : Option ((List Int) × Bool) :=
 (F_impl_latticeOf (p0)).bind fun t => match t with
 | (none, r1_2) => (if (r1_2) = true then
 none
 else
 some (nilL Int, false))
 | ((some r1_1), r1_2) => (if (r1_2) = true then
 (list0 (r1_1)).bind fun r4 =>
 some (r4, true)
 else
 some (nilL Int, false))
theorem t_impl_listOf {p0 : SPoset} {list0 : (Slattice → Option (List Int))} {f_list0 : Nat} {c_list0 : List V} (h_list0 : ∀ w_0 v, list0 w_0 = some v → Ret Try.prog f_list0 ([(rP false (rS_lattice false)) w_0] ++ fzL c_list0) ((slr true 1 vint) v)) {v : ((List Int) × Bool)} (h : F_impl_listOf p0 list0 = some v) : Ret Try.prog f_impl_listOf [(rS_Poset false) p0, V.fclo f_list0 c_list0] ((fun r => V.tup [(slr true 1 vint) r.1, V.bool r.2]) v) := by
  refine ret_vc k_impl_listOf (Nat.le_of_ble_eq_true rfl) ?_
  unfold F_impl_listOf at h
  conv => whnf
  refine Cells.lit rfl rfl ?_
  conv => whnf
  refine CallQ.o (fun r => V.tup [(rO true (rS_lattice true)) r.1, V.bool r.2]) (by rfl) h (fun r h => t_impl_latticeOf h) (fun r1 h => ?_)
  rcases r1 with ⟨(_ | r1_1), r1_2⟩
  · try dsimp only at h
    conv => whnf
    refine Br.flip ?_
    conv => whnf
    refine Br.ob h (fun p2 h => ?_) (fun p2 h => ?_)
    · conv => whnf
      cases h
    conv => whnf
    refine BslQ.o vint (nilL Int) (by exact fun _ => ⟨rfl, rfl⟩) (by rfl) ?_
    conv => whnf
    cases h; exact (by rfl)
  try dsimp only at h
  conv => whnf
  refine Br.flip ?_
  conv => whnf
  refine Br.ob h (fun p3 h => ?_) (fun p3 h => ?_)
  · conv => whnf
    refine CloQ.o (slr true 1 vint) (by first | rfl | simp only [V.fz, fzL, fzL_map, List.cons_append, List.nil_append] | simp [mulN_one, V.fz, fzL, V.up, upL, fzL_map, fz_slr, fz_at, slr]) (fun _ => by first | rfl | simp [resOk, V.noFz, noFzL_map]) h (fun r h => h_list0 _ _ h) (fun r4 h => ?_)
    conv => whnf
    cases h; exact (by rfl)
  conv => whnf
  refine BslQ.o vint (nilL Int) (by exact fun _ => ⟨rfl, rfl⟩) (by rfl) ?_
  conv => whnf
  cases h; exact (by rfl)

noncomputable def F_impl_order_upperCovers (o0 : (List (List Bool))) (x0 : Int) : Option (List Int) :=
 (F_impl_order_those (o0) (fun w_0 => F_impl_order_upperCovers_1 w_0 (o0) (x0))).bind fun r1 =>
 some r1
theorem t_impl_order_upperCovers {o0 : (List (List Bool))} {x0 : Int} {v : (List Int)} (h : F_impl_order_upperCovers o0 x0 = some v) : Ret Try.prog f_impl_order_upperCovers [(slr false 1 (slr false 1 V.bool)) o0, vint x0] ((slr true 1 vint) v) := by
  refine ret_vc k_impl_order_upperCovers (Nat.le_of_ble_eq_true rfl) ?_
  unfold F_impl_order_upperCovers at h
  conv => whnf
  refine Cells.lit rfl rfl ?_
  conv => whnf
  refine CallQ.rd (slr true 1 vint) (by rfl) (fun _ => by simp [V.noFz, noFzL_map]) h (fun r h => t_impl_order_those (f_so0 := f_impl_order_upperCovers_1) (c_so0 := [(rP false (slr false 1 (slr false 1 V.bool))) (o0), (rP false vint) (x0)]) (fun w_0 v h => Ret.cast (by rfl) (t_impl_order_upperCovers_1 h)) h) (fun r1 h => ?_)
  conv => whnf
  cases h; exact (by rfl)

noncomputable def F_spec_l1Cur_names2_l1 (n0 : Int) : (Int × (List Int) × Sl1Cur) → Option ((Int × (List Int) × Sl1Cur) ⊕ ((List Int) × Sl1Cur)) := fun (x6, x5, x53) =>
 if x6 < n0 then
 ask (InI ((↑x5.length : Int) + (1 : Int))) <|
 (F_spec_l1Cur_pick (x53) ((↑x5.length : Int) + (1 : Int))).bind fun (r3, u4) =>
 ask (0 ≤ (0 : Int) ∧ (0 : Int) ≤ r3 ∧ r3 ≤ ((x5.length : Nat) : Int)) <|
 ask ((nilL Int).length + (List.take (r3.toNat - Int.toNat (0 : Int)) (List.drop (Int.toNat (0 : Int)) x5)).length ≤ LIM) <|
 ask ((nilL Int ++ List.take (r3.toNat - Int.toNat (0 : Int)) (List.drop (Int.toNat (0 : Int)) x5)).length + ([x6]).length ≤ LIM) <|
 ask (0 ≤ r3 ∧ r3 ≤ (↑x5.length : Int) ∧ (↑x5.length : Int) ≤ ((x5.length : Nat) : Int)) <|
 ask ((nilL Int ++ List.take (r3.toNat - Int.toNat (0 : Int)) (List.drop (Int.toNat (0 : Int)) x5) ++ [x6]).length + (List.take ((↑x5.length : Int).toNat - r3.toNat) (List.drop r3.toNat x5)).length ≤ LIM) <|
 ask (InI (x6 + (1 : Int))) <|
 some (.inl (x6 + (1 : Int), nilL Int ++ List.take (r3.toNat - Int.toNat (0 : Int)) (List.drop (Int.toNat (0 : Int)) x5) ++ [x6] ++ List.take ((↑x5.length : Int).toNat - r3.toNat) (List.drop r3.toNat x5), u4))
 else
 some (.inr (x5, x53))
def S_spec_l1Cur_names2_l1 (n0 : Int) : (Int × (List Int) × Sl1Cur) → St := fun s => [(6, A.val (vint s.1)), (5, A.val ((slr true 1 vint) s.2.1)), (0, A.ref 53 []), (53, A.val ((rP true (rS_l1Cur false)) s.2.2)), (1, A.val (vint (n0)))]
def T_spec_l1Cur_names2_l1 (n0 : Int) : ((List Int) × Sl1Cur) → Tgt
 | s => ((Ex.exit 0), [5, 0, 53, 1], [(5, A.val ((slr true 1 vint) s.1)), (0, A.ref 53 []), (53, A.val ((rP true (rS_l1Cur false)) s.2)), (1, A.val (vint (n0)))])
theorem b_spec_l1Cur_names2_l1 {n0 : Int} (s : (Int × (List Int) × Sl1Cur)) (o : (Int × (List Int) × Sl1Cur) ⊕ ((List Int) × Sl1Cur)) (h : F_spec_l1Cur_names2_l1 n0 s = some o) : vc Try.prog c_spec_l1Cur_names2_l1 (outQ [6, 5, 0, 53, 1] (S_spec_l1Cur_names2_l1 n0) (T_spec_l1Cur_names2_l1 n0) o) (S_spec_l1Cur_names2_l1 n0 s) := by
  obtain ⟨x6, x5, x53⟩ := s
  unfold F_spec_l1Cur_names2_l1 at h
  try dsimp only at h
  conv => whnf
  refine Br.od h (fun p1 h => ?_) (fun p1 h => ?_)
  · conv => whnf
    refine Len.map ?_
    conv => whnf
    refine Ask.o h fun p2 h => ?_
    conv => whnf
    refine CallQ.io vint (rP true (rS_l1Cur false)) (by rfl) rfl (fun _ => rfl) (fun _ => ⟨rfl, rfl⟩) rfl h (fun r h => t_spec_l1Cur_pick h) (fun r3 u4 h => ?_)
    conv => whnf
    refine FrzQ.z ?_
    conv => whnf
    refine BslQ.o vint (nilL Int) (by exact fun _ => ⟨rfl, rfl⟩) (by rfl) ?_
    conv => whnf
    refine SlcQ.lst (xs := x5) vint (by first | rfl | simp only [fzL_map] | simp [mulN_one, V.fz, fzL, V.up, upL, fzL_map, fz_slr, fz_at, slr]) h fun h => ?_
    conv => whnf
    refine AppQ.o (m := 1) vint (by exact fun _ => ⟨rfl, rfl⟩) (nilL Int) (List.take (r3.toNat - Int.toNat (0 : Int)) (List.drop (Int.toNat (0 : Int)) x5)) (by rfl) (by rfl) h fun h => ?_
    conv => whnf
    refine BslQ.o vint [x6] (by exact fun _ => ⟨rfl, rfl⟩) (by rfl) ?_
    conv => whnf
    refine NoOwn.o (fun _ => rfl) ?_
    conv => whnf
    refine AppQ.o (m := 1) vint (by exact fun _ => ⟨rfl, rfl⟩) (nilL Int ++ List.take (r3.toNat - Int.toNat (0 : Int)) (List.drop (Int.toNat (0 : Int)) x5)) ([x6]) (by rfl) (by rfl) h fun h => ?_
    conv => whnf
    refine Len.fzmap ?_
    conv => whnf
    refine SlcQ.lst (xs := x5) vint (by first | rfl | simp only [fzL_map] | simp [mulN_one, V.fz, fzL, V.up, upL, fzL_map, fz_slr, fz_at, slr]) h fun h => ?_
    conv => whnf
    refine AppQ.o (m := 1) vint (by exact fun _ => ⟨rfl, rfl⟩) (nilL Int ++ List.take (r3.toNat - Int.toNat (0 : Int)) (List.drop (Int.toNat (0 : Int)) x5) ++ [x6]) (List.take ((↑x5.length : Int).toNat - r3.toNat) (List.drop r3.toNat x5)) (by rfl) (by rfl) h fun h => ?_
    conv => whnf
    refine Ask.o h fun p5 h => ?_
    conv => whnf
    cases h; exact ⟨rfl, rfl⟩
  conv => whnf
  cases h; exact ⟨rfl, rfl⟩

noncomputable def F_spec_l1Cur_names2 (c0 : Sl1Cur) (n0 : Int) : Option ((List Int) × Sl1Cur) :=
 (loopO (F_spec_l1Cur_names2_l1 n0) ((0 : Int), nilL Int, c0)).bind fun (q6_5, q6_53) =>
 (F_spec_l1Cur_pick (q6_53) ((24 : Int))).bind fun (r7, u8) =>
 if r7 = (0 : Int) then
 ask ((q6_5).length + ([n0]).length ≤ LIM) <|
 some (q6_5 ++ [n0], u8)
 else
 if r7 = (1 : Int) then
 if n0 > (0 : Int) then
 (F_spec_l1Cur_pick (u8) (n0)).bind fun (r12, u13) =>
 (F_spec_l1Cur_among (u13) ([(0 : Int), (-1 : Int), n0])).bind fun (r14, u15) =>
 ask ((0 : Int) ≤ r12 ∧ r12 < (↑q6_5.length : Int)) <|
 some (q6_5.set r12.toNat r14, u15)
 else
 some (q6_5, u8)
 else
 some (q6_5, u8)
theorem t_spec_l1Cur_names2 {c0 : Sl1Cur} {n0 : Int} {v : ((List Int) × Sl1Cur)} (h : F_spec_l1Cur_names2 c0 n0 = some v) : RetO Try.prog f_spec_l1Cur_names2 [(rP true (rS_l1Cur false)) c0, vint n0] ((slr true 1 vint) v.1) 0 ((rP true (rS_l1Cur false)) v.2) := by
  refine reto_vc k_spec_l1Cur_names2 (Nat.le_of_ble_eq_true rfl) ?_
  unfold F_spec_l1Cur_names2 at h
  conv => whnf
  refine BslQ.o vint (nilL Int) (by exact fun _ => ⟨rfl, rfl⟩) (by rfl) ?_
  conv => whnf
  refine LoopQ.o [6, 5, 0, 53, 1] (S_spec_l1Cur_names2_l1 n0) (T_spec_l1Cur_names2_l1 n0) h (fun s o h => b_spec_l1Cur_names2_l1 s o h) (by first | rfl | simp [restrict, look, mulN_one, V.fz, fzL, V.up, upL, fzL_map, fz_slr, fz_at, slr]) (fun _ => rfl) ?_
  rintro ⟨q6_5, q6_53⟩ h
  try dsimp only at h
  conv => whnf
  refine CallQ.io vint (rP true (rS_l1Cur false)) (by rfl) rfl (fun _ => rfl) (fun _ => ⟨rfl, rfl⟩) rfl h (fun r h => t_spec_l1Cur_pick h) (fun r7 u8 h => ?_)
  conv => whnf
  refine Br.oe h (fun p9 h => ?_) (fun p9 h => ?_)
  · conv => whnf
    refine BslQ.o vint [n0] (by exact fun _ => ⟨rfl, rfl⟩) (by rfl) ?_
    conv => whnf
    refine NoOwn.o (fun _ => rfl) ?_
    conv => whnf
    refine AppQ.o (m := 1) vint (by exact fun _ => ⟨rfl, rfl⟩) (q6_5) ([n0]) (by rfl) (by rfl) h fun h => ?_
    conv => whnf
    cases h; exact ⟨(by rfl), (by rfl)⟩
  conv => whnf
  refine Br.oe h (fun p10 h => ?_) (fun p10 h => ?_)
  · conv => whnf
    refine Br.od h (fun p11 h => ?_) (fun p11 h => ?_)
    · conv => whnf
      refine CallQ.io vint (rP true (rS_l1Cur false)) (by rfl) rfl (fun _ => rfl) (fun _ => ⟨rfl, rfl⟩) rfl h (fun r h => t_spec_l1Cur_pick h) (fun r12 u13 h => ?_)
      conv => whnf
      refine BslQ.o vint ([(0 : Int), (-1 : Int), n0]) (by exact fun _ => ⟨rfl, rfl⟩) (by rfl) ?_
      conv => whnf
      refine CallQ.io vint (rP true (rS_l1Cur false)) (by rfl) rfl (fun _ => rfl) (fun _ => ⟨rfl, rfl⟩) rfl h (fun r h => t_spec_l1Cur_among h) (fun r14 u15 h => ?_)
      conv => whnf
      refine Len.map ?_
      conv => whnf
      refine Ask.o h fun p16 h => ?_
      conv => whnf
      refine SetKids.one (fun _ => ⟨rfl, rfl⟩) (r14) (by rfl) (by first | omega | (simp [mulN] at *; omega)) ?_
      conv => whnf
      cases h; exact ⟨(by rfl), (by rfl)⟩
    conv => whnf
    cases h; exact ⟨(by rfl), (by rfl)⟩
  conv => whnf
  cases h; exact ⟨(by rfl), (by rfl)⟩

noncomputable def F_spec_l24Bottom (p0 : SPoset) : Option Int :=
 (F_spec_l23Dual (p0)).bind fun r1 =>
 (F_spec_l24Bound (r1) (nilL Int)).bind fun r2 =>
 some r2
theorem t_spec_l24Bottom {p0 : SPoset} {v : Int} (h : F_spec_l24Bottom p0 = some v) : Ret Try.prog f_spec_l24Bottom [(rS_Poset false) p0] (vint v) := by
  refine ret_vc k_spec_l24Bottom (Nat.le_of_ble_eq_true rfl) ?_
  unfold F_spec_l24Bottom at h
  conv => whnf
  refine Cells.lit rfl rfl ?_
  conv => whnf
  refine CallQ.o (rS_Poset true) (by rfl) h (fun r h => t_spec_l23Dual h) (fun r1 h => ?_)
  conv => whnf
  refine BslQ.o vint (nilL Int) (by exact fun _ => ⟨rfl, rfl⟩) (by rfl) ?_
  conv => whnf
  refine CallQ.rd vint (by first | rfl | simp only [V.fz, fzL, fzL_map, slr] | simp [mulN_one, V.fz, fzL, V.up, upL, fzL_map, fz_slr, fz_at, slr]) (fun _ => rfl) h (fun r h => t_spec_l24Bound h) (fun r2 h => ?_)
  conv => whnf
  cases h; exact (by rfl)

noncomputable def F_spec_l23Covers_l1 (p0 : SPoset) (x0 : Int) (y0 : Int) : Int → Option (Int ⊕ (Unit ⊕ Unit)) := fun x7 =>
 if x7 < (↑p0.Below.length : Int) then
 (F_spec_l23Less (p0) (x0) (x7)).bind fun r4 =>
 if (r4) = true then
 (F_spec_l23Less (p0) (x7) (y0)).bind fun r6 =>
 if (r6) = true then
 some (.inr (.inl ()))
 else
 ask (InI (x7 + (1 : Int))) <|
 some (.inl (x7 + (1 : Int)))
 else
 ask (InI (x7 + (1 : Int))) <|
 some (.inl (x7 + (1 : Int)))
 else
 some (.inr (.inr ()))
def S_spec_l23Covers_l1 (p0 : SPoset) (x0 : Int) (y0 : Int) : Int → St := fun s => [(7, A.val (vint s)), (3, A.val ((rP true (rS_Poset false)) (p0))), (1, A.val (vint (x0))), (2, A.val (vint (y0)))]
def T_spec_l23Covers_l1 (_p0 : SPoset) (_x0 : Int) (_y0 : Int) : (Unit ⊕ Unit) → Tgt
 | (.inl _s) => (Ex.ret, [6], [(6, A.val (V.bool (false)))])
 | (.inr _s) => ((Ex.exit 0), [], [])
theorem b_spec_l23Covers_l1 {p0 : SPoset} {x0 : Int} {y0 : Int} (x7 : Int) (o : Int ⊕ (Unit ⊕ Unit)) (h : F_spec_l23Covers_l1 p0 x0 y0 x7 = some o) : vc Try.prog c_spec_l23Covers_l1 (outQ [7, 3, 1, 2] (S_spec_l23Covers_l1 p0 x0 y0) (T_spec_l23Covers_l1 p0 x0 y0) o) (S_spec_l23Covers_l1 p0 x0 y0 x7) := by
  unfold F_spec_l23Covers_l1 at h
  try dsimp only at h
  conv => whnf
  refine Cells.lit rfl rfl ?_
  conv => whnf
  refine Len.map ?_
  conv => whnf
  refine Br.od h (fun p3 h => ?_) (fun p3 h => ?_)
  · conv => whnf
    refine Cells.lit rfl rfl ?_
    conv => whnf
    refine CallQ.o V.bool (by rfl) h (fun r h => t_spec_l23Less h) (fun r4 h => ?_)
    conv => whnf
    refine Br.ob h (fun p5 h => ?_) (fun p5 h => ?_)
    · conv => whnf
      refine Cells.lit rfl rfl ?_
      conv => whnf
      refine Br.yes ?_
      conv => whnf
      refine Br.yes ?_
      conv => whnf
      refine Br.yes ?_
      conv => whnf
      refine CallQ.o V.bool (by rfl) h (fun r h => t_spec_l23Less h) (fun r6 h => ?_)
      conv => whnf
      refine Br.yes ?_
      conv => whnf
      refine Br.ob h (fun p7 h => ?_) (fun p7 h => ?_)
      · conv => whnf
        cases h; exact ⟨rfl, rfl⟩
      conv => whnf
      refine Ask.o h fun p8 h => ?_
      conv => whnf
      cases h; exact ⟨rfl, rfl⟩
    conv => whnf
    refine Br.no ?_
    conv => whnf
    refine Br.no ?_
    conv => whnf
    refine Br.no ?_
    conv => whnf
    refine Br.no ?_
    conv => whnf
    refine Br.no ?_
    conv => whnf
    refine Ask.o h fun p9 h => ?_
    conv => whnf
    cases h; exact ⟨rfl, rfl⟩
  conv => whnf
  cases h; exact ⟨rfl, rfl⟩

noncomputable def F_spec_l23Covers (p0 : SPoset) (x0 : Int) (y0 : Int) : Option Bool :=
 (F_spec_l23Less (p0) (x0) (y0)).bind fun r1 =>
 if (r1) = true then
 (loopO (F_spec_l23Covers_l1 p0 x0 y0) (0 : Int)).bind fun t => match t with
 | (.inl _) => (some false)
 | (.inr _) => (some true)
 else
 some false
theorem t_spec_l23Covers {p0 : SPoset} {x0 : Int} {y0 : Int} {v : Bool} (h : F_spec_l23Covers p0 x0 y0 = some v) : Ret Try.prog f_spec_l23Covers [(rS_Poset false) p0, vint x0, vint y0] (V.bool v) := by
  refine ret_vc k_spec_l23Covers (Nat.le_of_ble_eq_true rfl) ?_
  unfold F_spec_l23Covers at h
  conv => whnf
  refine Cells.lit rfl rfl ?_
  conv => whnf
  refine CallQ.o V.bool (by rfl) h (fun r h => t_spec_l23Less h) (fun r1 h => ?_)
  conv => whnf
  refine Br.flip ?_
  conv => whnf
  refine Br.ob h (fun p2 h => ?_) (fun p2 h => ?_)
  · conv => whnf
    refine LoopQ.o [7, 3, 1, 2] (S_spec_l23Covers_l1 p0 x0 y0) (T_spec_l23Covers_l1 p0 x0 y0) h (fun s o h => b_spec_l23Covers_l1 s o h) (by first | rfl | simp [restrict, look, mulN_one, V.fz, fzL, V.up, upL, fzL_map, fz_slr, fz_at, slr]) (by rintro (_ | _) <;> rfl) ?_
    rintro (⟨⟩ | ⟨⟩) h
    · try dsimp only at h
      conv => whnf
      cases h; exact (by rfl)
    try dsimp only at h
    conv => whnf
    cases h; exact (by rfl)
  conv => whnf
  cases h; exact (by rfl)

noncomputable def F_impl_order_lowerCovers (o0 : (List (List Bool))) (x0 : Int) : Option (List Int) :=
 (F_impl_order_those (o0) (fun w_0 => F_impl_order_lowerCovers_1 w_0 (o0) (x0))).bind fun r1 =>
 some r1
theorem t_impl_order_lowerCovers {o0 : (List (List Bool))} {x0 : Int} {v : (List Int)} (h : F_impl_order_lowerCovers o0 x0 = some v) : Ret Try.prog f_impl_order_lowerCovers [(slr false 1 (slr false 1 V.bool)) o0, vint x0] ((slr true 1 vint) v) := by
  refine ret_vc k_impl_order_lowerCovers (Nat.le_of_ble_eq_true rfl) ?_
  unfold F_impl_order_lowerCovers at h
  conv => whnf
  refine Cells.lit rfl rfl ?_
  conv => whnf
  refine CallQ.rd (slr true 1 vint) (by rfl) (fun _ => by simp [V.noFz, noFzL_map]) h (fun r h => t_impl_order_those (f_so0 := f_impl_order_lowerCovers_1) (c_so0 := [(rP false (slr false 1 (slr false 1 V.bool))) (o0), (rP false vint) (x0)]) (fun w_0 v h => Ret.cast (by rfl) (t_impl_order_lowerCovers_1 h)) h) (fun r1 h => ?_)
  conv => whnf
  cases h; exact (by rfl)

end Go.Proofs.Ytoikbcagaanhgaa.Ax
