/-
  What the functions compute, as functions on plain data, and that the program does compute it; written by program.
-/
import Derived.Test.YtoikbcagaanhgaaCode
namespace Go.Proofs.Ytoikbcagaanhgaa.Ax
open Go
set_option maxRecDepth 100000
set_option maxHeartbeats 4000000

noncomputable def F_impl_lattice_top_l1 (l0 : Slattice) : (Int × Int) → Option ((Int × Int) ⊕ Int) := fun (x10, x3) =>
 if x10 < (↑l0.order.length : Int) then
 ask ((0 : Int) ≤ x3 ∧ x3 < (↑l0.joins.length : Int)) <|
 ask ((0 : Int) ≤ x10 ∧ x10 < (↑(nth l0.joins x3.toNat).length : Int)) <|
 ask (InI (x10 + (1 : Int))) <|
 some (.inl (x10 + (1 : Int), nth (nth l0.joins x3.toNat) x10.toNat))
 else
 some (.inr x3)
def S_impl_lattice_top_l1 (l0 : Slattice) : (Int × Int) → St := fun s => [(10, A.val (vint s.1)), (9, A.val (vint ((↑l0.order.length : Int)))), (3, A.val (vint s.2)), (0, A.val ((rP false (rS_lattice false)) (l0)))]
def T_impl_lattice_top_l1 (_l0 : Slattice) : Int → Tgt
 | s => ((Ex.exit 0), [3], [(3, A.val (vint s))])
theorem b_impl_lattice_top_l1 {l0 : Slattice} (s : (Int × Int)) (o : (Int × Int) ⊕ Int) (h : F_impl_lattice_top_l1 l0 s = some o) : vc Try.prog c_impl_lattice_top_l1 (outQ [10, 9, 3, 0] (S_impl_lattice_top_l1 l0) (T_impl_lattice_top_l1 l0) o) (S_impl_lattice_top_l1 l0 s) := by
  obtain ⟨x10, x3⟩ := s
  unfold F_impl_lattice_top_l1 at h
  try dsimp only at h
  conv => whnf
  refine Br.od h (fun p1 h => ?_) (fun p1 h => ?_)
  · conv => whnf
    refine Len.map ?_
    conv => whnf
    refine Ask.o h fun p2 h => ?_
    conv => whnf
    refine Elem.o (by first | omega | (simp [mulN] at *; omega)) ?_
    conv => whnf
    refine Len.map ?_
    conv => whnf
    refine Ask.o h fun p3 h => ?_
    conv => whnf
    refine Elem.o (by first | omega | (simp [mulN] at *; omega)) ?_
    conv => whnf
    refine Ask.o h fun p4 h => ?_
    conv => whnf
    cases h; exact ⟨rfl, rfl⟩
  conv => whnf
  cases h; exact ⟨rfl, rfl⟩

noncomputable def F_impl_lattice_top (l0 : Slattice) : Option Int :=
 (loopO (F_impl_lattice_top_l1 l0) ((0 : Int), (0 : Int))).bind fun q5_3 =>
 some q5_3
theorem t_impl_lattice_top {l0 : Slattice} {v : Int} (h : F_impl_lattice_top l0 = some v) : Ret Try.prog f_impl_lattice_top [(rP false (rS_lattice false)) l0] (vint v) := by
  refine ret_vc k_impl_lattice_top (Nat.le_of_ble_eq_true rfl) ?_
  unfold F_impl_lattice_top at h
  conv => whnf
  refine Len.map ?_
  conv => whnf
  refine LoopQ.o [10, 9, 3, 0] (S_impl_lattice_top_l1 l0) (T_impl_lattice_top_l1 l0) h (fun s o h => b_impl_lattice_top_l1 s o h) (by first | rfl | simp [restrict, look, mulN_one, V.fz, fzL, V.up, upL, fzL_map, fz_slr, fz_at, slr]) (fun _ => rfl) ?_
  rintro q5_3 h
  try dsimp only at h
  conv => whnf
  cases h; exact (by rfl)

noncomputable def F_impl_order_those_l1 (o0 : List (List Bool)) (so0 : Int → Option Bool) : (Int × (List Int)) → Option ((Int × (List Int)) ⊕ (List Int)) := fun (x10, x5) =>
 if x10 < (↑o0.length : Int) then
 (so0 (x10)).bind fun r2 =>
 if (r2) = true then
 ask ((x5).length + ([x10]).length ≤ LIM) <|
 ask (InI (x10 + (1 : Int))) <|
 some (.inl (x10 + (1 : Int), x5 ++ [x10]))
 else
 ask (InI (x10 + (1 : Int))) <|
 some (.inl (x10 + (1 : Int), x5))
 else
 some (.inr x5)
def S_impl_order_those_l1 (o0 : List (List Bool)) (f_so0 : Nat) (c_so0 : List V) : (Int × (List Int)) → St := fun s => [(10, A.val (vint s.1)), (9, A.val (vint ((↑o0.length : Int)))), (5, A.val ((slr true 1 vint) s.2)), (1, A.val (V.fclo f_so0 c_so0))]
def T_impl_order_those_l1 (_o0 : List (List Bool)) (_f_so0 : Nat) (_c_so0 : List V) : (List Int) → Tgt
 | s => ((Ex.exit 0), [5], [(5, A.val ((slr true 1 vint) s))])
theorem b_impl_order_those_l1 {o0 : List (List Bool)} {so0 : Int → Option Bool} {f_so0 : Nat} {c_so0 : List V} (h_so0 : ∀ w_0 v, so0 w_0 = some v → Ret Try.prog f_so0 ([vint w_0] ++ fzL c_so0) (V.bool v)) (s : (Int × (List Int))) (o : (Int × (List Int)) ⊕ (List Int)) (h : F_impl_order_those_l1 o0 so0 s = some o) : vc Try.prog c_impl_order_those_l1 (outQ [10, 9, 5, 1] (S_impl_order_those_l1 o0 f_so0 c_so0) (T_impl_order_those_l1 o0 f_so0 c_so0) o) (S_impl_order_those_l1 o0 f_so0 c_so0 s) := by
  obtain ⟨x10, x5⟩ := s
  unfold F_impl_order_those_l1 at h
  try dsimp only at h
  conv => whnf
  refine Br.od h (fun p1 h => ?_) (fun p1 h => ?_)
  · conv => whnf
    refine CloQ.o V.bool (by rfl) (fun _ => by first | rfl | simp [resOk, V.noFz, noFzL, noFzL_map, NoFz.eq]) h (fun r h => h_so0 _ _ h) (fun r2 h => ?_)
    conv => whnf
    refine Br.ob h (fun p3 h => ?_) (fun p3 h => ?_)
    · conv => whnf
      refine BslQ.o vint [x10] (by exact fun _ => ⟨rfl, rfl⟩) (by rfl) ?_
      conv => whnf
      refine NoOwn.o (fun _ => rfl) ?_
      conv => whnf
      refine AppQ.o (m := 1) vint (by exact fun _ => ⟨rfl, rfl⟩) (x5) ([x10]) (by rfl) (by rfl) h fun h => ?_
      conv => whnf
      refine Ask.o h fun p4 h => ?_
      conv => whnf
      cases h; exact ⟨rfl, rfl⟩
    conv => whnf
    refine Ask.o h fun p5 h => ?_
    conv => whnf
    cases h; exact ⟨rfl, rfl⟩
  conv => whnf
  cases h; exact ⟨rfl, rfl⟩

noncomputable def F_impl_order_those (o0 : (List (List Bool))) (so0 : (Int → Option Bool)) : Option (List Int) :=
 (loopO (F_impl_order_those_l1 o0 so0) ((0 : Int), nilL Int)).bind fun q6_5 =>
 some q6_5
theorem t_impl_order_those {o0 : (List (List Bool))} {so0 : (Int → Option Bool)} {f_so0 : Nat} {c_so0 : List V} (h_so0 : ∀ w_0 v, so0 w_0 = some v → Ret Try.prog f_so0 ([vint w_0] ++ fzL c_so0) (V.bool v)) {v : (List Int)} (h : F_impl_order_those o0 so0 = some v) : Ret Try.prog f_impl_order_those [(slr false 1 (slr false 1 V.bool)) o0, V.fclo f_so0 c_so0] ((slr true 1 vint) v) := by
  refine ret_vc k_impl_order_those (Nat.le_of_ble_eq_true rfl) ?_
  unfold F_impl_order_those at h
  conv => whnf
  refine BslQ.o vint (nilL Int) (by exact fun _ => ⟨rfl, rfl⟩) (by rfl) ?_
  conv => whnf
  refine Len.map ?_
  conv => whnf
  refine LoopQ.o [10, 9, 5, 1] (S_impl_order_those_l1 o0 f_so0 c_so0) (T_impl_order_those_l1 o0 f_so0 c_so0) h (fun s o h => b_impl_order_those_l1 h_so0 s o h) (by first | rfl | simp [restrict, look, mulN_one, V.fz, fzL, V.up, upL, fzL_map, fz_slr, fz_at, slr]) (fun _ => rfl) ?_
  rintro q6_5 h
  try dsimp only at h
  conv => whnf
  cases h; exact (by rfl)

noncomputable def F_spec_l1Cur_next (c0 : Sl1Cur) : Option (Int × Sl1Cur) :=
 ((if c0.at_ < (↑c0.code.length : Int) then
 ask ((0 : Int) ≤ c0.at_ ∧ c0.at_ < (↑c0.code.length : Int)) <|
 some (IntKind.i64.wrap (nth c0.code c0.at_.toNat))
 else
 some (0 : Int) : Option Int)).bind fun q3_3 =>
 ask (InI (c0.at_ + (1 : Int))) <|
 if c0.at_ + (1 : Int) ≤ (↑c0.code.length : Int) then
 some (q3_3, { code := c0.code, at_ := c0.at_ + (1 : Int), seed := IntKind.u64.wrap (IntKind.u64.wrap (IntKind.u64.wrap (c0.seed * (6364136223846793005 : Int)) + IntKind.u64.wrap q3_3) + (550289 : Int)) })
 else
 some (IntKind.i64.wrap (IntKind.u64.wrap (↑(BitVec.ofInt IntKind.u64.bits ((IntKind.u64.wrap (IntKind.u64.wrap (IntKind.u64.wrap (c0.seed * (6364136223846793005 : Int)) + IntKind.u64.wrap q3_3) + (550289 : Int))).fdiv ((2 : Int) ^ min (Int.toNat (40 : Int)) IntKind.u64.bits)) &&& BitVec.ofInt IntKind.u64.bits (255 : Int)).toNat : Int)), { code := c0.code, at_ := c0.at_ + (1 : Int), seed := IntKind.u64.wrap (IntKind.u64.wrap (IntKind.u64.wrap (c0.seed * (6364136223846793005 : Int)) + IntKind.u64.wrap q3_3) + (550289 : Int)) })
theorem t_spec_l1Cur_next {c0 : Sl1Cur} {v : (Int × Sl1Cur)} (h : F_spec_l1Cur_next c0 = some v) : RetO Try.prog f_spec_l1Cur_next [(rP true (rS_l1Cur false)) c0] (vint v.1) 0 ((rP true (rS_l1Cur false)) v.2) := by
  refine reto_vc k_spec_l1Cur_next (Nat.le_of_ble_eq_true rfl) ?_
  unfold F_spec_l1Cur_next at h
  conv => whnf
  refine CutQ.o (fun t : Int => match t with | s => (Ex.normal, [3, 0, 62], [(3, A.val (vint s)), (0, A.ref 62 []), (62, A.val ((rP true (rS_l1Cur false)) (c0)))])) h ?_ ?_
  · intro t h
    conv => whnf
    refine Cells.lit rfl rfl ?_
    conv => whnf
    refine Cells.lit rfl rfl ?_
    conv => whnf
    refine Len.map ?_
    conv => whnf
    refine Br.od h (fun p1 h => ?_) (fun p1 h => ?_)
    · conv => whnf
      refine Cells.lit rfl rfl ?_
      conv => whnf
      refine Cells.lit rfl rfl ?_
      conv => whnf
      refine Len.map ?_
      conv => whnf
      refine Ask.o h fun p2 h => ?_
      conv => whnf
      refine Elem.o (by first | omega | (simp [mulN] at *; omega)) ?_
      conv => whnf
      cases h; exact ⟨rfl, rfl⟩
    conv => whnf
    cases h; exact ⟨rfl, rfl⟩
  rintro q3_3 h
  try dsimp only at h
  conv => whnf
  refine Cells.lit rfl rfl ?_
  conv => whnf
  refine Ask.o h fun p4 h => ?_
  conv => whnf
  refine SetKids.lit rfl ?_
  conv => whnf
  refine Cells.lit rfl rfl ?_
  conv => whnf
  refine SetKids.lit rfl ?_
  conv => whnf
  refine Cells.lit rfl rfl ?_
  conv => whnf
  refine Cells.lit rfl rfl ?_
  conv => whnf
  refine Len.map ?_
  conv => whnf
  refine Br.od h (fun p5 h => ?_) (fun p5 h => ?_)
  · conv => whnf
    cases h; exact ⟨(by rfl), (by rfl)⟩
  conv => whnf
  refine Cells.lit rfl rfl ?_
  conv => whnf
  cases h; exact ⟨(by rfl), (by rfl)⟩

noncomputable def F_spec_l23From_l1 (n0 : Int) (_pairs0 : List (Int × Int)) : (Int × (List (List Bool))) → Option ((Int × (List (List Bool))) ⊕ (List (List Bool))) := fun (x6, x5) =>
 if x6 < n0 then
 ask ((0 : Int) ≤ n0 ∧ n0 ≤ (↑LIM : Int)) <|
 ask ((0 : Int) ≤ x6 ∧ x6 < (↑n0.toNat : Int)) <|
 ask ((x5).length + ([(List.replicate n0.toNat false).set x6.toNat true]).length ≤ LIM) <|
 ask (InI (x6 + (1 : Int))) <|
 some (.inl (x6 + (1 : Int), x5 ++ [(List.replicate n0.toNat false).set x6.toNat true]))
 else
 some (.inr x5)
def S_spec_l23From_l1 (n0 : Int) (pairs0 : List (Int × Int)) : (Int × (List (List Bool))) → St := fun s => [(6, A.val (vint s.1)), (5, A.val ((slr true 1 (slr true 1 V.bool)) s.2)), (4, A.val ((rP true (rS_Poset true)) ({ Below := nilL (List Int) }))), (0, A.val (vint (n0))), (1, A.val ((slr false 2 (rA2 vint)) (pairs0)))]
def T_spec_l23From_l1 (n0 : Int) (pairs0 : List (Int × Int)) : (List (List Bool)) → Tgt
 | s => ((Ex.exit 0), [5, 4, 0, 1], [(5, A.val ((slr true 1 (slr true 1 V.bool)) s)), (4, A.val ((rP true (rS_Poset true)) ({ Below := nilL (List Int) }))), (0, A.val (vint (n0))), (1, A.val ((slr false 2 (rA2 vint)) (pairs0)))])
theorem b_spec_l23From_l1 {n0 : Int} {pairs0 : List (Int × Int)} (s : (Int × (List (List Bool)))) (o : (Int × (List (List Bool))) ⊕ (List (List Bool))) (h : F_spec_l23From_l1 n0 pairs0 s = some o) : vc Try.prog c_spec_l23From_l1 (outQ [6, 5, 4, 0, 1] (S_spec_l23From_l1 n0 pairs0) (T_spec_l23From_l1 n0 pairs0) o) (S_spec_l23From_l1 n0 pairs0 s) := by
  obtain ⟨x6, x5⟩ := s
  unfold F_spec_l23From_l1 at h
  try dsimp only at h
  conv => whnf
  refine Br.od h (fun p1 h => ?_) (fun p1 h => ?_)
  · conv => whnf
    refine Ask.o h fun p2 h => ?_
    conv => whnf
    refine MkQ.o V.bool (false) rfl ?_
    conv => whnf
    refine Len.mrep ?_
    conv => whnf
    refine Ask.o h fun p3 h => ?_
    conv => whnf
    refine SetKids.one (fun _ => ⟨rfl, rfl⟩) (true) (by rfl) (by first | omega | (simp [mulN] at *; omega)) ?_
    conv => whnf
    refine BslQ.o (slr true 1 V.bool) ([(List.replicate n0.toNat false).set x6.toNat true]) (by exact fun _ => ⟨rfl, rfl⟩) (by rfl) ?_
    conv => whnf
    refine NoOwn.own rfl ?_
    conv => whnf
    refine AppQ.o (m := 1) (slr true 1 V.bool) (by exact fun _ => ⟨rfl, rfl⟩) (x5) ([(List.replicate n0.toNat false).set x6.toNat true]) (by rfl) (by rfl) h fun h => ?_
    conv => whnf
    refine Ask.o h fun p4 h => ?_
    conv => whnf
    cases h; exact ⟨rfl, rfl⟩
  conv => whnf
  cases h; exact ⟨rfl, rfl⟩

noncomputable def F_spec_l23From_l2 (_n0 : Int) (pairs0 : List (Int × Int)) : (Int × (List (List Bool))) → Option ((Int × (List (List Bool))) ⊕ (List (List Bool))) := fun (x8, x5) =>
 if x8 < (↑pairs0.length : Int) then
 ask ((0 : Int) ≤ x8 ∧ x8 < (↑pairs0.length : Int)) <|
 ask ((0 : Int) ≤ (nth pairs0 x8.toNat).fst ∧ (nth pairs0 x8.toNat).fst < (↑x5.length : Int)) <|
 ask ((0 : Int) ≤ x8 ∧ x8 < (↑pairs0.length : Int)) <|
 ask ((0 : Int) ≤ (nth pairs0 x8.toNat).snd ∧ (nth pairs0 x8.toNat).snd < (↑(nth x5 (nth pairs0 x8.toNat).fst.toNat).length : Int)) <|
 ask (InI (x8 + (1 : Int))) <|
 some (.inl (x8 + (1 : Int), x5.set (nth pairs0 x8.toNat).fst.toNat ((nth x5 (nth pairs0 x8.toNat).fst.toNat).set (nth pairs0 x8.toNat).snd.toNat true)))
 else
 some (.inr x5)
def S_spec_l23From_l2 (n0 : Int) (pairs0 : List (Int × Int)) : (Int × (List (List Bool))) → St := fun s => [(8, A.val (vint s.1)), (5, A.val ((slr true 1 (slr true 1 V.bool)) s.2)), (4, A.val ((rP true (rS_Poset true)) ({ Below := nilL (List Int) }))), (0, A.val (vint (n0))), (1, A.val ((slr false 2 (rA2 vint)) (pairs0)))]
def T_spec_l23From_l2 (n0 : Int) (_pairs0 : List (Int × Int)) : (List (List Bool)) → Tgt
 | s => ((Ex.exit 2), [5, 4, 0], [(5, A.val ((slr true 1 (slr true 1 V.bool)) s)), (4, A.val ((rP true (rS_Poset true)) ({ Below := nilL (List Int) }))), (0, A.val (vint (n0)))])
theorem b_spec_l23From_l2 {n0 : Int} {pairs0 : List (Int × Int)} (s : (Int × (List (List Bool)))) (o : (Int × (List (List Bool))) ⊕ (List (List Bool))) (h : F_spec_l23From_l2 n0 pairs0 s = some o) : vc Try.prog c_spec_l23From_l2 (outQ [8, 5, 4, 0, 1] (S_spec_l23From_l2 n0 pairs0) (T_spec_l23From_l2 n0 pairs0) o) (S_spec_l23From_l2 n0 pairs0 s) := by
  obtain ⟨x8, x5⟩ := s
  unfold F_spec_l23From_l2 at h
  try dsimp only at h
  conv => whnf
  refine Len.map ?_
  conv => whnf
  refine Br.od h (fun p6 h => ?_) (fun p6 h => ?_)
  · conv => whnf
    refine Len.map ?_
    conv => whnf
    refine Ask.o h fun p7 h => ?_
    conv => whnf
    refine Elem.o (by first | omega | (simp [mulN] at *; omega)) ?_
    conv => whnf
    refine Ask.mk (by decide) ?_
    conv => whnf
    refine Idx.lit ?_
    conv => whnf
    refine Len.map ?_
    conv => whnf
    refine Ask.o h fun p8 h => ?_
    conv => whnf
    refine Cells.one (fun _ => ⟨rfl, rfl⟩) (by first | omega | (simp [mulN] at *; omega)) ?_
    conv => whnf
    refine Len.map ?_
    conv => whnf
    refine Ask.o h fun p9 h => ?_
    conv => whnf
    refine Elem.o (by first | omega | (simp [mulN] at *; omega)) ?_
    conv => whnf
    refine Ask.mk (by decide) ?_
    conv => whnf
    refine Idx.lit ?_
    conv => whnf
    refine Kid.one (fun _ => ⟨rfl, rfl⟩) (by first | omega | (simp [mulN] at *; omega)) ?_
    conv => whnf
    refine Len.map ?_
    conv => whnf
    refine Ask.o h fun p10 h => ?_
    conv => whnf
    refine Kid.one (fun _ => ⟨rfl, rfl⟩) (by first | omega | (simp [mulN] at *; omega)) ?_
    conv => whnf
    refine SetKids.one (fun _ => ⟨rfl, rfl⟩) (true) (by rfl) (by first | omega | (simp [mulN] at *; omega)) ?_
    conv => whnf
    refine Kid.one (fun _ => ⟨rfl, rfl⟩) (by first | omega | (simp [mulN] at *; omega)) ?_
    conv => whnf
    refine SetKids.one (fun _ => ⟨rfl, rfl⟩) ((nth x5 (nth pairs0 x8.toNat).fst.toNat).set (nth pairs0 x8.toNat).snd.toNat true) (by rfl) (by first | omega | (simp [mulN] at *; omega)) ?_
    conv => whnf
    refine Ask.o h fun p11 h => ?_
    conv => whnf
    cases h; exact ⟨rfl, rfl⟩
  conv => whnf
  cases h; exact ⟨rfl, rfl⟩

noncomputable def F_spec_l23From_l3 (n0 : Int) (x9 : Int) (x10 : Int) : (Int × (List (List Bool))) → Option ((Int × (List (List Bool))) ⊕ (List (List Bool))) := fun (x11, x5'') =>
 if x11 < n0 then
 ask ((0 : Int) ≤ x10 ∧ x10 < (↑x5''.length : Int)) <|
 ask ((0 : Int) ≤ x10 ∧ x10 < (↑x5''.length : Int)) <|
 ask ((0 : Int) ≤ x11 ∧ x11 < (↑(nth x5'' x10.toNat).length : Int)) <|
 if (nth (nth x5'' x10.toNat) x11.toNat) = true then
 ask ((0 : Int) ≤ x11 ∧ x11 < (↑(nth x5'' x10.toNat).length : Int)) <|
 ask (InI (x11 + (1 : Int))) <|
 some (.inl (x11 + (1 : Int), x5''.set x10.toNat ((nth x5'' x10.toNat).set x11.toNat true)))
 else
 ask ((0 : Int) ≤ x10 ∧ x10 < (↑x5''.length : Int)) <|
 ask ((0 : Int) ≤ x9 ∧ x9 < (↑(nth x5'' x10.toNat).length : Int)) <|
 if (nth (nth x5'' x10.toNat) x9.toNat) = true then
 ask ((0 : Int) ≤ x9 ∧ x9 < (↑x5''.length : Int)) <|
 ask ((0 : Int) ≤ x11 ∧ x11 < (↑(nth x5'' x9.toNat).length : Int)) <|
 ask ((0 : Int) ≤ x11 ∧ x11 < (↑(nth x5'' x10.toNat).length : Int)) <|
 ask (InI (x11 + (1 : Int))) <|
 some (.inl (x11 + (1 : Int), x5''.set x10.toNat ((nth x5'' x10.toNat).set x11.toNat (nth (nth x5'' x9.toNat) x11.toNat))))
 else
 ask ((0 : Int) ≤ x11 ∧ x11 < (↑(nth x5'' x10.toNat).length : Int)) <|
 ask (InI (x11 + (1 : Int))) <|
 some (.inl (x11 + (1 : Int), x5''.set x10.toNat ((nth x5'' x10.toNat).set x11.toNat false)))
 else
 some (.inr x5'')
def S_spec_l23From_l3 (n0 : Int) (x9 : Int) (x10 : Int) : (Int × (List (List Bool))) → St := fun s => [(11, A.val (vint s.1)), (10, A.val (vint (x10))), (9, A.val (vint (x9))), (5, A.val ((slr true 1 (slr true 1 V.bool)) s.2)), (4, A.val ((rP true (rS_Poset true)) ({ Below := nilL (List Int) }))), (0, A.val (vint (n0)))]
def T_spec_l23From_l3 (n0 : Int) (x9 : Int) (x10 : Int) : (List (List Bool)) → Tgt
 | s => ((Ex.exit 8), [10, 9, 5, 4, 0], [(10, A.val (vint (x10))), (9, A.val (vint (x9))), (5, A.val ((slr true 1 (slr true 1 V.bool)) s)), (4, A.val ((rP true (rS_Poset true)) ({ Below := nilL (List Int) }))), (0, A.val (vint (n0)))])
theorem b_spec_l23From_l3 {n0 : Int} {x9 : Int} {x10 : Int} (s : (Int × (List (List Bool)))) (o : (Int × (List (List Bool))) ⊕ (List (List Bool))) (h : F_spec_l23From_l3 n0 x9 x10 s = some o) : vc Try.prog c_spec_l23From_l3 (outQ [11, 10, 9, 5, 4, 0] (S_spec_l23From_l3 n0 x9 x10) (T_spec_l23From_l3 n0 x9 x10) o) (S_spec_l23From_l3 n0 x9 x10 s) := by
  obtain ⟨x11, x5''⟩ := s
  unfold F_spec_l23From_l3 at h
  try dsimp only at h
  conv => whnf
  refine Br.od h (fun p15 h => ?_) (fun p15 h => ?_)
  · conv => whnf
    refine Len.map ?_
    conv => whnf
    refine Ask.o h fun p16 h => ?_
    conv => whnf
    refine Cells.one (fun _ => ⟨rfl, rfl⟩) (by first | omega | (simp [mulN] at *; omega)) ?_
    conv => whnf
    refine Len.map ?_
    conv => whnf
    refine Ask.o h fun p17 h => ?_
    conv => whnf
    refine Cells.one (fun _ => ⟨rfl, rfl⟩) (by first | omega | (simp [mulN] at *; omega)) ?_
    conv => whnf
    refine Kid.one (fun _ => ⟨rfl, rfl⟩) (by first | omega | (simp [mulN] at *; omega)) ?_
    conv => whnf
    refine Len.map ?_
    conv => whnf
    refine Ask.o h fun p18 h => ?_
    conv => whnf
    refine Kid.one (fun _ => ⟨rfl, rfl⟩) (by first | omega | (simp [mulN] at *; omega)) ?_
    conv => whnf
    refine Cells.one (fun _ => ⟨rfl, rfl⟩) (by first | omega | (simp [mulN] at *; omega)) ?_
    conv => whnf
    refine Br.ob h (fun p19 h => ?_) (fun p19 h => ?_)
    · conv => whnf
      refine Br.yes ?_
      conv => whnf
      refine Br.yes ?_
      conv => whnf
      refine Br.yes ?_
      conv => whnf
      refine Br.yes ?_
      conv => whnf
      refine Br.yes ?_
      conv => whnf
      refine Br.yes ?_
      conv => whnf
      refine Br.yes ?_
      conv => whnf
      refine Br.yes ?_
      conv => whnf
      refine Br.yes ?_
      conv => whnf
      refine Kid.one (fun _ => ⟨rfl, rfl⟩) (by first | omega | (simp [mulN] at *; omega)) ?_
      conv => whnf
      refine Len.map ?_
      conv => whnf
      refine Ask.o h fun p20 h => ?_
      conv => whnf
      refine Kid.one (fun _ => ⟨rfl, rfl⟩) (by first | omega | (simp [mulN] at *; omega)) ?_
      conv => whnf
      refine SetKids.one (fun _ => ⟨rfl, rfl⟩) (true) (by rfl) (by first | omega | (simp [mulN] at *; omega)) ?_
      conv => whnf
      refine Kid.one (fun _ => ⟨rfl, rfl⟩) (by first | omega | (simp [mulN] at *; omega)) ?_
      conv => whnf
      refine SetKids.one (fun _ => ⟨rfl, rfl⟩) ((nth x5'' x10.toNat).set x11.toNat true) (by rfl) (by first | omega | (simp [mulN] at *; omega)) ?_
      conv => whnf
      refine Ask.o h fun p21 h => ?_
      conv => whnf
      cases h; exact ⟨rfl, rfl⟩
    conv => whnf
    refine Br.no ?_
    conv => whnf
    refine Br.no ?_
    conv => whnf
    refine Len.map ?_
    conv => whnf
    refine Ask.o h fun p22 h => ?_
    conv => whnf
    refine Br.no ?_
    conv => whnf
    refine Cells.one (fun _ => ⟨rfl, rfl⟩) (by first | omega | (simp [mulN] at *; omega)) ?_
    conv => whnf
    refine Br.no ?_
    conv => whnf
    refine Br.no ?_
    conv => whnf
    refine Kid.one (fun _ => ⟨rfl, rfl⟩) (by first | omega | (simp [mulN] at *; omega)) ?_
    conv => whnf
    refine Len.map ?_
    conv => whnf
    refine Ask.o h fun p23 h => ?_
    conv => whnf
    refine Br.no ?_
    conv => whnf
    refine Kid.one (fun _ => ⟨rfl, rfl⟩) (by first | omega | (simp [mulN] at *; omega)) ?_
    conv => whnf
    refine Cells.one (fun _ => ⟨rfl, rfl⟩) (by first | omega | (simp [mulN] at *; omega)) ?_
    conv => whnf
    refine Br.no ?_
    conv => whnf
    refine Br.ob h (fun p24 h => ?_) (fun p24 h => ?_)
    · conv => whnf
      refine Br.yes ?_
      conv => whnf
      refine Br.yes ?_
      conv => whnf
      refine Len.map ?_
      conv => whnf
      refine Ask.o h fun p25 h => ?_
      conv => whnf
      refine Br.yes ?_
      conv => whnf
      refine Cells.one (fun _ => ⟨rfl, rfl⟩) (by first | omega | (simp [mulN] at *; omega)) ?_
      conv => whnf
      refine Br.yes ?_
      conv => whnf
      refine Br.yes ?_
      conv => whnf
      refine Kid.one (fun _ => ⟨rfl, rfl⟩) (by first | omega | (simp [mulN] at *; omega)) ?_
      conv => whnf
      refine Len.map ?_
      conv => whnf
      refine Ask.o h fun p26 h => ?_
      conv => whnf
      refine Br.yes ?_
      conv => whnf
      refine Kid.one (fun _ => ⟨rfl, rfl⟩) (by first | omega | (simp [mulN] at *; omega)) ?_
      conv => whnf
      refine Cells.one (fun _ => ⟨rfl, rfl⟩) (by first | omega | (simp [mulN] at *; omega)) ?_
      conv => whnf
      refine Br.no ?_
      conv => whnf
      refine Br.yes ?_
      conv => whnf
      refine Br.no ?_
      conv => whnf
      refine Kid.one (fun _ => ⟨rfl, rfl⟩) (by first | omega | (simp [mulN] at *; omega)) ?_
      conv => whnf
      refine Len.map ?_
      conv => whnf
      refine Ask.o h fun p27 h => ?_
      conv => whnf
      refine Kid.one (fun _ => ⟨rfl, rfl⟩) (by first | omega | (simp [mulN] at *; omega)) ?_
      conv => whnf
      refine SetKids.one (fun _ => ⟨rfl, rfl⟩) (nth (nth x5'' x9.toNat) x11.toNat) (by rfl) (by first | omega | (simp [mulN] at *; omega)) ?_
      conv => whnf
      refine Kid.one (fun _ => ⟨rfl, rfl⟩) (by first | omega | (simp [mulN] at *; omega)) ?_
      conv => whnf
      refine SetKids.one (fun _ => ⟨rfl, rfl⟩) ((nth x5'' x10.toNat).set x11.toNat (nth (nth x5'' x9.toNat) x11.toNat)) (by rfl) (by first | omega | (simp [mulN] at *; omega)) ?_
      conv => whnf
      refine Ask.o h fun p28 h => ?_
      conv => whnf
      cases h; exact ⟨rfl, rfl⟩
    conv => whnf
    refine Br.no ?_
    conv => whnf
    refine Br.no ?_
    conv => whnf
    refine Br.no ?_
    conv => whnf
    refine Br.no ?_
    conv => whnf
    refine Br.no ?_
    conv => whnf
    refine Br.no ?_
    conv => whnf
    refine Br.no ?_
    conv => whnf
    refine Br.no ?_
    conv => whnf
    refine Br.no ?_
    conv => whnf
    refine Kid.one (fun _ => ⟨rfl, rfl⟩) (by first | omega | (simp [mulN] at *; omega)) ?_
    conv => whnf
    refine Len.map ?_
    conv => whnf
    refine Ask.o h fun p29 h => ?_
    conv => whnf
    refine Kid.one (fun _ => ⟨rfl, rfl⟩) (by first | omega | (simp [mulN] at *; omega)) ?_
    conv => whnf
    refine SetKids.one (fun _ => ⟨rfl, rfl⟩) (false) (by rfl) (by first | omega | (simp [mulN] at *; omega)) ?_
    conv => whnf
    refine Kid.one (fun _ => ⟨rfl, rfl⟩) (by first | omega | (simp [mulN] at *; omega)) ?_
    conv => whnf
    refine SetKids.one (fun _ => ⟨rfl, rfl⟩) ((nth x5'' x10.toNat).set x11.toNat false) (by rfl) (by first | omega | (simp [mulN] at *; omega)) ?_
    conv => whnf
    refine Ask.o h fun p30 h => ?_
    conv => whnf
    cases h; exact ⟨rfl, rfl⟩
  conv => whnf
  cases h; exact ⟨rfl, rfl⟩

noncomputable def F_spec_l23From_l4 (n0 : Int) (x9 : Int) : (Int × (List (List Bool))) → Option ((Int × (List (List Bool))) ⊕ (List (List Bool))) := fun (x10, x5') =>
 if x10 < n0 then
 (loopO (F_spec_l23From_l3 n0 x9 x10) ((0 : Int), x5')).bind fun q31_5 =>
 ask (InI (x10 + (1 : Int))) <|
 some (.inl (x10 + (1 : Int), q31_5))
 else
 some (.inr x5')
def S_spec_l23From_l4 (n0 : Int) (x9 : Int) : (Int × (List (List Bool))) → St := fun s => [(10, A.val (vint s.1)), (9, A.val (vint (x9))), (5, A.val ((slr true 1 (slr true 1 V.bool)) s.2)), (4, A.val ((rP true (rS_Poset true)) ({ Below := nilL (List Int) }))), (0, A.val (vint (n0)))]
def T_spec_l23From_l4 (n0 : Int) (x9 : Int) : (List (List Bool)) → Tgt
 | s => ((Ex.exit 6), [9, 5, 4, 0], [(9, A.val (vint (x9))), (5, A.val ((slr true 1 (slr true 1 V.bool)) s)), (4, A.val ((rP true (rS_Poset true)) ({ Below := nilL (List Int) }))), (0, A.val (vint (n0)))])
theorem b_spec_l23From_l4 {n0 : Int} {x9 : Int} (s : (Int × (List (List Bool)))) (o : (Int × (List (List Bool))) ⊕ (List (List Bool))) (h : F_spec_l23From_l4 n0 x9 s = some o) : vc Try.prog c_spec_l23From_l4 (outQ [10, 9, 5, 4, 0] (S_spec_l23From_l4 n0 x9) (T_spec_l23From_l4 n0 x9) o) (S_spec_l23From_l4 n0 x9 s) := by
  obtain ⟨x10, x5'⟩ := s
  unfold F_spec_l23From_l4 at h
  try dsimp only at h
  conv => whnf
  refine Br.od h (fun p14 h => ?_) (fun p14 h => ?_)
  · conv => whnf
    refine LoopQ.o [11, 10, 9, 5, 4, 0] (S_spec_l23From_l3 n0 x9 x10) (T_spec_l23From_l3 n0 x9 x10) h (fun s o h => b_spec_l23From_l3 s o h) (by first | rfl | simp [restrict, look, mulN_one, V.fz, fzL, V.up, upL, fzL_map, fz_slr, fz_at, slr]) (fun _ => rfl) ?_
    rintro q31_5 h
    try dsimp only at h
    conv => whnf
    refine Ask.o h fun p32 h => ?_
    conv => whnf
    cases h; exact ⟨rfl, rfl⟩
  conv => whnf
  cases h; exact ⟨rfl, rfl⟩

noncomputable def F_spec_l23From_l5 (n0 : Int) : (Int × (List (List Bool))) → Option ((Int × (List (List Bool))) ⊕ (List (List Bool))) := fun (x9, x5) =>
 if x9 < n0 then
 (loopO (F_spec_l23From_l4 n0 x9) ((0 : Int), x5)).bind fun q33_5 =>
 ask (InI (x9 + (1 : Int))) <|
 some (.inl (x9 + (1 : Int), q33_5))
 else
 some (.inr x5)
def S_spec_l23From_l5 (n0 : Int) : (Int × (List (List Bool))) → St := fun s => [(9, A.val (vint s.1)), (5, A.val ((slr true 1 (slr true 1 V.bool)) s.2)), (4, A.val ((rP true (rS_Poset true)) ({ Below := nilL (List Int) }))), (0, A.val (vint (n0)))]
def T_spec_l23From_l5 (n0 : Int) : (List (List Bool)) → Tgt
 | s => ((Ex.exit 4), [5, 4, 0], [(5, A.val ((slr true 1 (slr true 1 V.bool)) s)), (4, A.val ((rP true (rS_Poset true)) ({ Below := nilL (List Int) }))), (0, A.val (vint (n0)))])
theorem b_spec_l23From_l5 {n0 : Int} (s : (Int × (List (List Bool)))) (o : (Int × (List (List Bool))) ⊕ (List (List Bool))) (h : F_spec_l23From_l5 n0 s = some o) : vc Try.prog c_spec_l23From_l5 (outQ [9, 5, 4, 0] (S_spec_l23From_l5 n0) (T_spec_l23From_l5 n0) o) (S_spec_l23From_l5 n0 s) := by
  obtain ⟨x9, x5⟩ := s
  unfold F_spec_l23From_l5 at h
  try dsimp only at h
  conv => whnf
  refine Br.od h (fun p13 h => ?_) (fun p13 h => ?_)
  · conv => whnf
    refine LoopQ.o [10, 9, 5, 4, 0] (S_spec_l23From_l4 n0 x9) (T_spec_l23From_l4 n0 x9) h (fun s o h => b_spec_l23From_l4 s o h) (by first | rfl | simp [restrict, look, mulN_one, V.fz, fzL, V.up, upL, fzL_map, fz_slr, fz_at, slr]) (fun _ => rfl) ?_
    rintro q33_5 h
    try dsimp only at h
    conv => whnf
    refine Ask.o h fun p34 h => ?_
    conv => whnf
    cases h; exact ⟨rfl, rfl⟩
  conv => whnf
  cases h; exact ⟨rfl, rfl⟩

noncomputable def F_spec_l23From_l6 (n0 : Int) (q35_5 : List (List Bool)) (x13 : Int) (_x12 : SPoset) : (Int × (List Int)) → Option ((Int × (List Int)) ⊕ (List Int)) := fun (x15, x14) =>
 if x15 < n0 then
 ask ((0 : Int) ≤ x15 ∧ x15 < (↑q35_5.length : Int)) <|
 ask ((0 : Int) ≤ x13 ∧ x13 < (↑(nth q35_5 x15.toNat).length : Int)) <|
 if (nth (nth q35_5 x15.toNat) x13.toNat) = true then
 ask ((x14).length + ([x15]).length ≤ LIM) <|
 ask (InI (x15 + (1 : Int))) <|
 some (.inl (x15 + (1 : Int), x14 ++ [x15]))
 else
 ask (InI (x15 + (1 : Int))) <|
 some (.inl (x15 + (1 : Int), x14))
 else
 some (.inr x14)
def S_spec_l23From_l6 (n0 : Int) (q35_5 : List (List Bool)) (x13 : Int) (x12 : SPoset) : (Int × (List Int)) → St := fun s => [(15, A.val (vint s.1)), (14, A.val ((slr true 1 vint) s.2)), (13, A.val (vint (x13))), (12, A.val ((rP true (rS_Poset true)) (x12))), (5, A.val ((slr true 1 (slr true 1 V.bool)) (q35_5))), (4, A.val ((rP true (rS_Poset true)) ({ Below := nilL (List Int) }))), (0, A.val (vint (n0)))]
def T_spec_l23From_l6 (n0 : Int) (q35_5 : List (List Bool)) (x13 : Int) (x12 : SPoset) : (List Int) → Tgt
 | s => ((Ex.exit 12), [14, 13, 12, 5, 4, 0], [(14, A.val ((slr true 1 vint) s)), (13, A.val (vint (x13))), (12, A.val ((rP true (rS_Poset true)) (x12))), (5, A.val ((slr true 1 (slr true 1 V.bool)) (q35_5))), (4, A.val ((rP true (rS_Poset true)) ({ Below := nilL (List Int) }))), (0, A.val (vint (n0)))])
theorem b_spec_l23From_l6 {n0 : Int} {q35_5 : List (List Bool)} {x13 : Int} {x12 : SPoset} (s : (Int × (List Int))) (o : (Int × (List Int)) ⊕ (List Int)) (h : F_spec_l23From_l6 n0 q35_5 x13 x12 s = some o) : vc Try.prog c_spec_l23From_l6 (outQ [15, 14, 13, 12, 5, 4, 0] (S_spec_l23From_l6 n0 q35_5 x13 x12) (T_spec_l23From_l6 n0 q35_5 x13 x12) o) (S_spec_l23From_l6 n0 q35_5 x13 x12 s) := by
  obtain ⟨x15, x14⟩ := s
  unfold F_spec_l23From_l6 at h
  try dsimp only at h
  conv => whnf
  refine Br.od h (fun p37 h => ?_) (fun p37 h => ?_)
  · conv => whnf
    refine Len.map ?_
    conv => whnf
    refine Ask.o h fun p38 h => ?_
    conv => whnf
    refine Cells.one (fun _ => ⟨rfl, rfl⟩) (by first | omega | (simp [mulN] at *; omega)) ?_
    conv => whnf
    refine Kid.one (fun _ => ⟨rfl, rfl⟩) (by first | omega | (simp [mulN] at *; omega)) ?_
    conv => whnf
    refine Len.map ?_
    conv => whnf
    refine Ask.o h fun p39 h => ?_
    conv => whnf
    refine Kid.one (fun _ => ⟨rfl, rfl⟩) (by first | omega | (simp [mulN] at *; omega)) ?_
    conv => whnf
    refine Cells.one (fun _ => ⟨rfl, rfl⟩) (by first | omega | (simp [mulN] at *; omega)) ?_
    conv => whnf
    refine Br.ob h (fun p40 h => ?_) (fun p40 h => ?_)
    · conv => whnf
      refine BslQ.o vint [x15] (by exact fun _ => ⟨rfl, rfl⟩) (by rfl) ?_
      conv => whnf
      refine NoOwn.o (fun _ => rfl) ?_
      conv => whnf
      refine AppQ.o (m := 1) vint (by exact fun _ => ⟨rfl, rfl⟩) (x14) ([x15]) (by rfl) (by rfl) h fun h => ?_
      conv => whnf
      refine Ask.o h fun p41 h => ?_
      conv => whnf
      cases h; exact ⟨rfl, rfl⟩
    conv => whnf
    refine Ask.o h fun p42 h => ?_
    conv => whnf
    cases h; exact ⟨rfl, rfl⟩
  conv => whnf
  cases h; exact ⟨rfl, rfl⟩

noncomputable def F_spec_l23From_l7 (n0 : Int) (q35_5 : List (List Bool)) : (Int × SPoset) → Option ((Int × SPoset) ⊕ SPoset) := fun (x13, x12) =>
 if x13 < n0 then
 (loopO (F_spec_l23From_l6 n0 q35_5 x13 x12) ((0 : Int), nilL Int)).bind fun q43_14 =>
 ask ((x12.Below).length + ([q43_14]).length ≤ LIM) <|
 ask (InI (x13 + (1 : Int))) <|
 some (.inl (x13 + (1 : Int), { Below := x12.Below ++ [q43_14] }))
 else
 some (.inr x12)
def S_spec_l23From_l7 (n0 : Int) (q35_5 : List (List Bool)) : (Int × SPoset) → St := fun s => [(13, A.val (vint s.1)), (12, A.val ((rP true (rS_Poset true)) s.2)), (5, A.val ((slr true 1 (slr true 1 V.bool)) (q35_5))), (4, A.val ((rP true (rS_Poset true)) ({ Below := nilL (List Int) }))), (0, A.val (vint (n0)))]
def T_spec_l23From_l7 (_n0 : Int) (_q35_5 : List (List Bool)) : SPoset → Tgt
 | s => ((Ex.exit 10), [12, 4], [(12, A.val ((rP true (rS_Poset true)) s)), (4, A.val ((rP true (rS_Poset true)) ({ Below := nilL (List Int) })))])
theorem b_spec_l23From_l7 {n0 : Int} {q35_5 : List (List Bool)} (s : (Int × SPoset)) (o : (Int × SPoset) ⊕ SPoset) (h : F_spec_l23From_l7 n0 q35_5 s = some o) : vc Try.prog c_spec_l23From_l7 (outQ [13, 12, 5, 4, 0] (S_spec_l23From_l7 n0 q35_5) (T_spec_l23From_l7 n0 q35_5) o) (S_spec_l23From_l7 n0 q35_5 s) := by
  obtain ⟨x13, x12⟩ := s
  unfold F_spec_l23From_l7 at h
  try dsimp only at h
  conv => whnf
  refine Br.od h (fun p36 h => ?_) (fun p36 h => ?_)
  · conv => whnf
    refine BslQ.o vint (nilL Int) (by exact fun _ => ⟨rfl, rfl⟩) (by rfl) ?_
    conv => whnf
    refine LoopQ.o [15, 14, 13, 12, 5, 4, 0] (S_spec_l23From_l6 n0 q35_5 x13 x12) (T_spec_l23From_l6 n0 q35_5 x13 x12) h (fun s o h => b_spec_l23From_l6 s o h) (by first | rfl | simp [restrict, look, mulN_one, V.fz, fzL, V.up, upL, fzL_map, fz_slr, fz_at, slr]) (fun _ => rfl) ?_
    rintro q43_14 h
    try dsimp only at h
    conv => whnf
    refine Cells.lit rfl rfl ?_
    conv => whnf
    refine BslQ.o (slr true 1 vint) [q43_14] (by exact fun _ => ⟨rfl, rfl⟩) (by rfl) ?_
    conv => whnf
    refine NoOwn.own rfl ?_
    conv => whnf
    refine Kid.lit rfl rfl ?_
    conv => whnf
    refine Kid.lit rfl rfl ?_
    conv => whnf
    refine SetKids.lit rfl ?_
    conv => whnf
    refine AppQ.o (m := 1) (slr true 1 vint) (by exact fun _ => ⟨rfl, rfl⟩) (x12.Below) ([q43_14]) (by rfl) (by rfl) h fun h => ?_
    conv => whnf
    refine SetKids.lit rfl ?_
    conv => whnf
    refine Ask.o h fun p44 h => ?_
    conv => whnf
    cases h; exact ⟨rfl, rfl⟩
  conv => whnf
  cases h; exact ⟨rfl, rfl⟩

noncomputable def F_spec_l23From (n0 : Int) (pairs0 : (List (Int × Int))) : Option SPoset :=
 (loopO (F_spec_l23From_l1 n0 pairs0) ((0 : Int), nilL (List Bool))).bind fun q5_5 =>
 (loopO (F_spec_l23From_l2 n0 pairs0) ((0 : Int), q5_5)).bind fun q12_5 =>
 (loopO (F_spec_l23From_l5 n0) ((0 : Int), q12_5)).bind fun q35_5 =>
 (loopO (F_spec_l23From_l7 n0 q35_5) ((0 : Int), { Below := nilL (List Int) })).bind fun q45_12 =>
 some q45_12
theorem t_spec_l23From {n0 : Int} {pairs0 : (List (Int × Int))} {v : SPoset} (h : F_spec_l23From n0 pairs0 = some v) : Ret Try.prog f_spec_l23From [vint n0, (slr false 2 (rA2 vint)) pairs0] ((rS_Poset true) v) := by
  refine ret_vc k_spec_l23From (Nat.le_of_ble_eq_true rfl) ?_
  unfold F_spec_l23From at h
  conv => whnf
  refine BslQ.o (slr true 1 V.bool) (nilL (List Bool)) (by exact fun _ => ⟨rfl, rfl⟩) (by rfl) ?_
  conv => whnf
  refine LoopQ.o [6, 5, 4, 0, 1] (S_spec_l23From_l1 n0 pairs0) (T_spec_l23From_l1 n0 pairs0) h (fun s o h => b_spec_l23From_l1 s o h) (by first | rfl | simp [restrict, look, mulN_one, V.fz, fzL, V.up, upL, fzL_map, fz_slr, fz_at, slr]) (fun _ => rfl) ?_
  rintro q5_5 h
  try dsimp only at h
  conv => whnf
  refine LoopQ.o [8, 5, 4, 0, 1] (S_spec_l23From_l2 n0 pairs0) (T_spec_l23From_l2 n0 pairs0) h (fun s o h => b_spec_l23From_l2 s o h) (by first | rfl | simp [restrict, look, mulN_one, V.fz, fzL, V.up, upL, fzL_map, fz_slr, fz_at, slr]) (fun _ => rfl) ?_
  rintro q12_5 h
  try dsimp only at h
  conv => whnf
  refine LoopQ.o [9, 5, 4, 0] (S_spec_l23From_l5 n0) (T_spec_l23From_l5 n0) h (fun s o h => b_spec_l23From_l5 s o h) (by first | rfl | simp [restrict, look, mulN_one, V.fz, fzL, V.up, upL, fzL_map, fz_slr, fz_at, slr]) (fun _ => rfl) ?_
  rintro q35_5 h
  try dsimp only at h
  conv => whnf
  refine BslQ.o (slr true 1 vint) (nilL (List Int)) (by exact fun _ => ⟨rfl, rfl⟩) (by rfl) ?_
  conv => whnf
  refine SetKids.lit rfl ?_
  conv => whnf
  refine LoopQ.o [13, 12, 5, 4, 0] (S_spec_l23From_l7 n0 q35_5) (T_spec_l23From_l7 n0 q35_5) h (fun s o h => b_spec_l23From_l7 s o h) (by first | rfl | simp [restrict, look, mulN_one, V.fz, fzL, V.up, upL, fzL_map, fz_slr, fz_at, slr]) (fun _ => rfl) ?_
  rintro q45_12 h
  try dsimp only at h
  conv => whnf
  refine Cells.lit rfl rfl ?_
  conv => whnf
  refine SetKids.lit rfl ?_
  conv => whnf
  cases h; exact (by rfl)

end Go.Proofs.Ytoikbcagaanhgaa.Ax
