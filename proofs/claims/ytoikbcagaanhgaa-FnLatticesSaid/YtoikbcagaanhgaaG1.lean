/-
  What the functions compute, as functions on plain data, and that the program does compute it; written by program.
-/
import Derived.Test.YtoikbcagaanhgaaCode
namespace Go.Proofs.Ytoikbcagaanhgaa.Ax
open Go
set_option maxRecDepth 100000
set_option maxHeartbeats 4000000

noncomputable def F_laws_rBig (code0 : (List Int)) : Option Bool :=
 some (decide ((↑code0.length : Int) > (65536 : Int)))
theorem t_laws_rBig {code0 : (List Int)} {v : Bool} (h : F_laws_rBig code0 = some v) : Ret Try.prog f_laws_rBig [(slr false 1 (V.int IntKind.u8)) code0] (V.bool v) := by
  refine ret_vc k_laws_rBig (Nat.le_of_ble_eq_true rfl) ?_
  unfold F_laws_rBig at h
  refine Len.map ?_
  cases h; exact (by rfl)

noncomputable def F_laws_rInts_l1 (a0 : List Int) (b0 : List Int) : Int → Option (Int ⊕ (Unit ⊕ Unit)) := fun x5 =>
 if x5 < (↑a0.length : Int) then
 ask ((0 : Int) ≤ x5 ∧ x5 < (↑a0.length : Int)) <|
 ask ((0 : Int) ≤ x5 ∧ x5 < (↑b0.length : Int)) <|
 if nth a0 x5.toNat ≠ nth b0 x5.toNat then
 some (.inr (.inl ()))
 else
 ask (InI (x5 + (1 : Int))) <|
 some (.inl (x5 + (1 : Int)))
 else
 some (.inr (.inr ()))
def S_laws_rInts_l1 (a0 : List Int) (b0 : List Int) : Int → St := fun s => [(5, A.val (vint s)), (0, A.val ((slr false 1 vint) (a0))), (1, A.val ((slr false 1 vint) (b0)))]
def T_laws_rInts_l1 (_a0 : List Int) (_b0 : List Int) : (Unit ⊕ Unit) → Tgt
 | (.inl _s) => (Ex.ret, [4], [(4, A.val (V.bool (false)))])
 | (.inr _s) => ((Ex.exit 0), [], [])
theorem b_laws_rInts_l1 {a0 : List Int} {b0 : List Int} (x5 : Int) (o : Int ⊕ (Unit ⊕ Unit)) (h : F_laws_rInts_l1 a0 b0 x5 = some o) : vc Try.prog c_laws_rInts_l1 (outQ [5, 0, 1] (S_laws_rInts_l1 a0 b0) (T_laws_rInts_l1 a0 b0) o) (S_laws_rInts_l1 a0 b0 x5) := by
  unfold F_laws_rInts_l1 at h
  try dsimp only at h
  refine Len.map ?_
  refine Br.od h (fun p2 h => ?_) (fun p2 h => ?_)
  · refine Len.map ?_
    refine Ask.o h fun p3 h => ?_
    refine Elem.o (by first | omega | (simp [mulN] at *; omega)) ?_
    refine Len.map ?_
    refine Ask.o h fun p4 h => ?_
    refine Elem.o (by first | omega | (simp [mulN] at *; omega)) ?_
    refine Br.on h (fun p5 h => ?_) (fun p5 h => ?_)
    · cases h; exact ⟨rfl, rfl⟩
    refine Ask.o h fun p6 h => ?_
    cases h; exact ⟨rfl, rfl⟩
  cases h; exact ⟨rfl, rfl⟩

noncomputable def F_laws_rInts (a0 : (List Int)) (b0 : (List Int)) : Option Bool :=
 if (↑a0.length : Int) ≠ (↑b0.length : Int) then
 some false
 else
 (loopO (F_laws_rInts_l1 a0 b0) (0 : Int)).bind fun t => match t with
 | (.inl _) => (some false)
 | (.inr _) => (some true)
theorem t_laws_rInts {a0 : (List Int)} {b0 : (List Int)} {v : Bool} (h : F_laws_rInts a0 b0 = some v) : Ret Try.prog f_laws_rInts [(slr false 1 vint) a0, (slr false 1 vint) b0] (V.bool v) := by
  refine ret_vc k_laws_rInts (Nat.le_of_ble_eq_true rfl) ?_
  unfold F_laws_rInts at h
  refine Len.map ?_
  refine Len.map ?_
  refine Br.on h (fun p1 h => ?_) (fun p1 h => ?_)
  · cases h; exact (by rfl)
  refine LoopQ.o [5, 0, 1] (S_laws_rInts_l1 a0 b0) (T_laws_rInts_l1 a0 b0) h (fun s o h => b_laws_rInts_l1 s o h) (by first | rfl | simp [restrict, look, mulN_one, V.fz, fzL, V.up, upL, fzL_map, fz_slr, fz_at, slr]) (by rintro (_ | _) <;> rfl) ?_
  rintro (⟨⟩ | ⟨⟩) h
  · try dsimp only at h
    cases h; exact (by rfl)
  try dsimp only at h
  cases h; exact (by rfl)

noncomputable def F_spec_l1In (x0 : Int) (a0 : Int) (b0 : Int) : Option Bool :=
 if x0 ≥ a0 then
 some (decide (x0 ≤ b0))
 else
 some false
theorem t_spec_l1In {x0 : Int} {a0 : Int} {b0 : Int} {v : Bool} (h : F_spec_l1In x0 a0 b0 = some v) : Ret Try.prog f_spec_l1In [vint x0, vint a0, vint b0] (V.bool v) := by
  refine ret_vc k_spec_l1In (Nat.le_of_ble_eq_true rfl) ?_
  unfold F_spec_l1In at h
  refine Br.od h (fun p1 h => ?_) (fun p1 h => ?_)
  · refine Br.yes ?_
    refine Br.yes ?_
    refine Br.yes ?_
    cases h; exact (by rfl)
  refine Br.no ?_
  refine Br.no ?_
  refine Br.no ?_
  cases h; exact (by rfl)

noncomputable def F_impl_inSize_l1 (list0 : List Int) (n0 : Int) : Int → Option (Int ⊕ (Unit ⊕ Unit)) := fun x9 =>
 if x9 < (↑list0.length : Int) then
 ask ((0 : Int) ≤ x9 ∧ x9 < (↑list0.length : Int)) <|
 if nth list0 x9.toNat < (0 : Int) then
 some (.inr (.inl ()))
 else
 if nth list0 x9.toNat ≥ n0 then
 some (.inr (.inl ()))
 else
 ask (InI (x9 + (1 : Int))) <|
 some (.inl (x9 + (1 : Int)))
 else
 some (.inr (.inr ()))
def S_impl_inSize_l1 (list0 : List Int) (n0 : Int) : Int → St := fun s => [(9, A.val (vint s)), (8, A.val (vint ((↑list0.length : Int)))), (7, A.val ((slr false 1 vint) (list0))), (1, A.val (vint (n0)))]
def T_impl_inSize_l1 (_list0 : List Int) (_n0 : Int) : (Unit ⊕ Unit) → Tgt
 | (.inl _s) => (Ex.ret, [4], [(4, A.val (V.bool (false)))])
 | (.inr _s) => ((Ex.exit 0), [], [])
theorem b_impl_inSize_l1 {list0 : List Int} {n0 : Int} (x9 : Int) (o : Int ⊕ (Unit ⊕ Unit)) (h : F_impl_inSize_l1 list0 n0 x9 = some o) : vc Try.prog c_impl_inSize_l1 (outQ [9, 8, 7, 1] (S_impl_inSize_l1 list0 n0) (T_impl_inSize_l1 list0 n0) o) (S_impl_inSize_l1 list0 n0 x9) := by
  unfold F_impl_inSize_l1 at h
  try dsimp only at h
  refine Br.od h (fun p1 h => ?_) (fun p1 h => ?_)
  · refine Len.map ?_
    refine Ask.o h fun p2 h => ?_
    refine Elem.o (by first | omega | (simp [mulN] at *; omega)) ?_
    refine Br.od h (fun p3 h => ?_) (fun p3 h => ?_)
    · refine Br.yes ?_
      refine Br.yes ?_
      refine Br.yes ?_
      refine Br.yes ?_
      cases h; exact ⟨rfl, rfl⟩
    refine Br.no ?_
    refine Br.no ?_
    refine Br.no ?_
    refine Br.od h (fun p4 h => ?_) (fun p4 h => ?_)
    · cases h; exact ⟨rfl, rfl⟩
    refine Ask.o h fun p5 h => ?_
    cases h; exact ⟨rfl, rfl⟩
  cases h; exact ⟨rfl, rfl⟩

noncomputable def F_impl_inSize (list0 : (List Int)) (n0 : Int) : Option Bool :=
 (loopO (F_impl_inSize_l1 list0 n0) (0 : Int)).bind fun t => match t with
 | (.inl _) => (some false)
 | (.inr _) => (some true)
theorem t_impl_inSize {list0 : (List Int)} {n0 : Int} {v : Bool} (h : F_impl_inSize list0 n0 = some v) : Ret Try.prog f_impl_inSize [(slr false 1 vint) list0, vint n0] (V.bool v) := by
  refine ret_vc k_impl_inSize (Nat.le_of_ble_eq_true rfl) ?_
  unfold F_impl_inSize at h
  refine Len.map ?_
  refine LoopQ.o [9, 8, 7, 1] (S_impl_inSize_l1 list0 n0) (T_impl_inSize_l1 list0 n0) h (fun s o h => b_impl_inSize_l1 s o h) (by first | rfl | simp [restrict, look, mulN_one, V.fz, fzL, V.up, upL, fzL_map, fz_slr, fz_at, slr]) (by rintro (_ | _) <;> rfl) ?_
  rintro (⟨⟩ | ⟨⟩) h
  · try dsimp only at h
    cases h; exact (by rfl)
  try dsimp only at h
  cases h; exact (by rfl)

noncomputable def F_impl_power_l1 (n0 : Int) : (Int × Int) → Option ((Int × Int) ⊕ Int) := fun (x5, x1) =>
 if x1 > (0 : Int) then
 ask (InI (x5 * n0)) <|
 ask (InI (x1 - (1 : Int))) <|
 some (.inl (x5 * n0, x1 - (1 : Int)))
 else
 some (.inr x5)
def S_impl_power_l1 (n0 : Int) : (Int × Int) → St := fun s => [(5, A.val (vint s.1)), (0, A.val (vint (n0))), (1, A.val (vint s.2))]
def T_impl_power_l1 (_n0 : Int) : Int → Tgt
 | s => ((Ex.exit 0), [5], [(5, A.val (vint s))])
theorem b_impl_power_l1 {n0 : Int} (s : (Int × Int)) (o : (Int × Int) ⊕ Int) (h : F_impl_power_l1 n0 s = some o) : vc Try.prog c_impl_power_l1 (outQ [5, 0, 1] (S_impl_power_l1 n0) (T_impl_power_l1 n0) o) (S_impl_power_l1 n0 s) := by
  obtain ⟨x5, x1⟩ := s
  unfold F_impl_power_l1 at h
  try dsimp only at h
  refine Br.od h (fun p1 h => ?_) (fun p1 h => ?_)
  · refine Ask.o h fun p2 h => ?_
    refine Ask.o h fun p3 h => ?_
    cases h; exact ⟨rfl, rfl⟩
  cases h; exact ⟨rfl, rfl⟩

noncomputable def F_impl_power (n0 : Int) (k0 : Int) : Option Int :=
 (loopO (F_impl_power_l1 n0) ((1 : Int), k0)).bind fun q4_5 =>
 some q4_5
theorem t_impl_power {n0 : Int} {k0 : Int} {v : Int} (h : F_impl_power n0 k0 = some v) : Ret Try.prog f_impl_power [vint n0, vint k0] (vint v) := by
  refine ret_vc k_impl_power (Nat.le_of_ble_eq_true rfl) ?_
  unfold F_impl_power at h
  refine LoopQ.o [5, 0, 1] (S_impl_power_l1 n0) (T_impl_power_l1 n0) h (fun s o h => b_impl_power_l1 s o h) (by first | rfl | simp [restrict, look, mulN_one, V.fz, fzL, V.up, upL, fzL_map, fz_slr, fz_at, slr]) (fun _ => rfl) ?_
  rintro q4_5 h
  try dsimp only at h
  cases h; exact (by rfl)

noncomputable def F_impl_newOrder_l1 (n0 : Int) : (Int × (List (List Bool))) → Option ((Int × (List (List Bool))) ⊕ (List (List Bool))) := fun (x9, x3) =>
 if x9 < (↑n0.toNat : Int) then
 ask ((0 : Int) ≤ n0 ∧ n0 ≤ (↑LIM : Int)) <|
 ask ((0 : Int) ≤ x9 ∧ x9 < (↑x3.length : Int)) <|
 ask (InI (x9 + (1 : Int))) <|
 some (.inl (x9 + (1 : Int), x3.set x9.toNat (List.replicate n0.toNat false)))
 else
 some (.inr x3)
def S_impl_newOrder_l1 (n0 : Int) : (Int × (List (List Bool))) → St := fun s => [(9, A.val (vint s.1)), (8, A.val (vint ((↑n0.toNat : Int)))), (3, A.val ((slr true 1 (slr true 1 V.bool)) s.2)), (0, A.val (vint (n0)))]
def T_impl_newOrder_l1 (_n0 : Int) : (List (List Bool)) → Tgt
 | s => ((Ex.exit 0), [3], [(3, A.val ((slr true 1 (slr true 1 V.bool)) s))])
theorem b_impl_newOrder_l1 {n0 : Int} (s : (Int × (List (List Bool)))) (o : (Int × (List (List Bool))) ⊕ (List (List Bool))) (h : F_impl_newOrder_l1 n0 s = some o) : vc Try.prog c_impl_newOrder_l1 (outQ [9, 8, 3, 0] (S_impl_newOrder_l1 n0) (T_impl_newOrder_l1 n0) o) (S_impl_newOrder_l1 n0 s) := by
  obtain ⟨x9, x3⟩ := s
  unfold F_impl_newOrder_l1 at h
  try dsimp only at h
  refine Br.od h (fun p2 h => ?_) (fun p2 h => ?_)
  · refine Ask.o h fun p3 h => ?_
    refine MkQ.o V.bool (false) rfl ?_
    refine Len.map ?_
    refine Ask.o h fun p4 h => ?_
    refine SetKids.one (fun _ => ⟨rfl, rfl⟩) (List.replicate n0.toNat false) (by rfl) (by first | omega | (simp [mulN] at *; omega)) ?_
    refine Ask.o h fun p5 h => ?_
    cases h; exact ⟨rfl, rfl⟩
  cases h; exact ⟨rfl, rfl⟩

noncomputable def F_impl_newOrder (n0 : Int) : Option (List (List Bool)) :=
 ask ((0 : Int) ≤ n0 ∧ n0 ≤ (↑LIM : Int)) <|
 (loopO (F_impl_newOrder_l1 n0) ((0 : Int), List.replicate n0.toNat (nilL Bool))).bind fun q6_3 =>
 some q6_3
theorem t_impl_newOrder {n0 : Int} {v : (List (List Bool))} (h : F_impl_newOrder n0 = some v) : Ret Try.prog f_impl_newOrder [vint n0] ((slr true 1 (slr true 1 V.bool)) v) := by
  refine ret_vc k_impl_newOrder (Nat.le_of_ble_eq_true rfl) ?_
  unfold F_impl_newOrder at h
  refine Ask.o h fun p1 h => ?_
  refine MkQ.o (slr true 1 V.bool) (nilL Bool) rfl ?_
  refine Len.mrep ?_
  refine LoopQ.o [9, 8, 3, 0] (S_impl_newOrder_l1 n0) (T_impl_newOrder_l1 n0) h (fun s o h => b_impl_newOrder_l1 s o h) (by first | rfl | simp [restrict, look, mulN_one, V.fz, fzL, V.up, upL, fzL_map, fz_slr, fz_at, slr]) (fun _ => rfl) ?_
  rintro q6_3 h
  try dsimp only at h
  cases h; exact (by rfl)

noncomputable def F_impl_order_poset_l1 (o0 : List (List Bool)) (x11 : Int) (_x3 : SPoset) : (Int × (List Int)) → Option ((Int × (List Int)) ⊕ (List Int)) := fun (x17, x5) =>
 if x17 < (↑o0.length : Int) then
 ask ((0 : Int) ≤ x17 ∧ x17 < (↑o0.length : Int)) <|
 ask ((0 : Int) ≤ x11 ∧ x11 < (↑(nth o0 x17.toNat).length : Int)) <|
 if (nth (nth o0 x17.toNat) x11.toNat) = true then
 ask ((x5).length + ([x17]).length ≤ LIM) <|
 ask (InI (x17 + (1 : Int))) <|
 some (.inl (x17 + (1 : Int), x5 ++ [x17]))
 else
 ask (InI (x17 + (1 : Int))) <|
 some (.inl (x17 + (1 : Int), x5))
 else
 some (.inr x5)
def S_impl_order_poset_l1 (o0 : List (List Bool)) (x11 : Int) (x3 : SPoset) : (Int × (List Int)) → St := fun s => [(17, A.val (vint s.1)), (16, A.val (vint ((↑o0.length : Int)))), (5, A.val ((slr true 1 vint) s.2)), (4, A.val (vint (x11))), (11, A.val (vint (x11))), (10, A.val (vint ((↑o0.length : Int)))), (3, A.val ((rP true (rS_Poset true)) (x3))), (2, A.val ((rP true (rS_Poset true)) ({ Below := nilL (List Int) }))), (0, A.val ((slr false 1 (slr false 1 V.bool)) (o0)))]
def T_impl_order_poset_l1 (o0 : List (List Bool)) (x11 : Int) (x3 : SPoset) : (List Int) → Tgt
 | s => ((Ex.exit 2), [5, 11, 10, 3, 2, 0], [(5, A.val ((slr true 1 vint) s)), (11, A.val (vint (x11))), (10, A.val (vint ((↑o0.length : Int)))), (3, A.val ((rP true (rS_Poset true)) (x3))), (2, A.val ((rP true (rS_Poset true)) ({ Below := nilL (List Int) }))), (0, A.val ((slr false 1 (slr false 1 V.bool)) (o0)))])
theorem b_impl_order_poset_l1 {o0 : List (List Bool)} {x11 : Int} {x3 : SPoset} (s : (Int × (List Int))) (o : (Int × (List Int)) ⊕ (List Int)) (h : F_impl_order_poset_l1 o0 x11 x3 s = some o) : vc Try.prog c_impl_order_poset_l1 (outQ [17, 16, 5, 4, 11, 10, 3, 2, 0] (S_impl_order_poset_l1 o0 x11 x3) (T_impl_order_poset_l1 o0 x11 x3) o) (S_impl_order_poset_l1 o0 x11 x3 s) := by
  obtain ⟨x17, x5⟩ := s
  unfold F_impl_order_poset_l1 at h
  try dsimp only at h
  refine Br.od h (fun p2 h => ?_) (fun p2 h => ?_)
  · refine Len.map ?_
    refine Ask.o h fun p3 h => ?_
    refine Elem.o (by first | omega | (simp [mulN] at *; omega)) ?_
    refine Len.map ?_
    refine Ask.o h fun p4 h => ?_
    refine Elem.o (by first | omega | (simp [mulN] at *; omega)) ?_
    refine Br.ob h (fun p5 h => ?_) (fun p5 h => ?_)
    · refine BslQ.o vint [x17] (by exact fun _ => ⟨rfl, rfl⟩) (by rfl) ?_
      refine NoOwn.o (fun _ => rfl) ?_
      refine AppQ.o (m := 1) vint (by exact fun _ => ⟨rfl, rfl⟩) (x5) ([x17]) (by rfl) (by rfl) h fun h => ?_
      refine Ask.o h fun p6 h => ?_
      cases h; exact ⟨rfl, rfl⟩
    refine Ask.o h fun p7 h => ?_
    cases h; exact ⟨rfl, rfl⟩
  cases h; exact ⟨rfl, rfl⟩

noncomputable def F_impl_order_poset_l2 (o0 : List (List Bool)) : (Int × SPoset) → Option ((Int × SPoset) ⊕ SPoset) := fun (x11, x3) =>
 if x11 < (↑o0.length : Int) then
 (loopO (F_impl_order_poset_l1 o0 x11 x3) ((0 : Int), nilL Int)).bind fun q8_5 =>
 ask ((x3.Below).length + ([q8_5]).length ≤ LIM) <|
 ask (InI (x11 + (1 : Int))) <|
 some (.inl (x11 + (1 : Int), { Below := x3.Below ++ [q8_5] }))
 else
 some (.inr x3)
def S_impl_order_poset_l2 (o0 : List (List Bool)) : (Int × SPoset) → St := fun s => [(11, A.val (vint s.1)), (10, A.val (vint ((↑o0.length : Int)))), (3, A.val ((rP true (rS_Poset true)) s.2)), (2, A.val ((rP true (rS_Poset true)) ({ Below := nilL (List Int) }))), (0, A.val ((slr false 1 (slr false 1 V.bool)) (o0)))]
def T_impl_order_poset_l2 (_o0 : List (List Bool)) : SPoset → Tgt
 | s => ((Ex.exit 0), [3, 2], [(3, A.val ((rP true (rS_Poset true)) s)), (2, A.val ((rP true (rS_Poset true)) ({ Below := nilL (List Int) })))])
theorem b_impl_order_poset_l2 {o0 : List (List Bool)} (s : (Int × SPoset)) (o : (Int × SPoset) ⊕ SPoset) (h : F_impl_order_poset_l2 o0 s = some o) : vc Try.prog c_impl_order_poset_l2 (outQ [11, 10, 3, 2, 0] (S_impl_order_poset_l2 o0) (T_impl_order_poset_l2 o0) o) (S_impl_order_poset_l2 o0 s) := by
  obtain ⟨x11, x3⟩ := s
  unfold F_impl_order_poset_l2 at h
  try dsimp only at h
  refine Br.od h (fun p1 h => ?_) (fun p1 h => ?_)
  · refine BslQ.o vint (nilL Int) (by exact fun _ => ⟨rfl, rfl⟩) (by rfl) ?_
    refine Len.map ?_
    refine LoopQ.o [17, 16, 5, 4, 11, 10, 3, 2, 0] (S_impl_order_poset_l1 o0 x11 x3) (T_impl_order_poset_l1 o0 x11 x3) h (fun s o h => b_impl_order_poset_l1 s o h) (by first | rfl | simp [restrict, look, mulN_one, V.fz, fzL, V.up, upL, fzL_map, fz_slr, fz_at, slr]) (fun _ => rfl) ?_
    rintro q8_5 h
    try dsimp only at h
    refine Cells.lit rfl rfl ?_
    refine BslQ.o (slr true 1 vint) [q8_5] (by exact fun _ => ⟨rfl, rfl⟩) (by rfl) ?_
    refine NoOwn.own rfl ?_
    refine Kid.lit rfl rfl ?_
    refine Kid.lit rfl rfl ?_
    refine SetKids.lit rfl ?_
    refine AppQ.o (m := 1) (slr true 1 vint) (by exact fun _ => ⟨rfl, rfl⟩) (x3.Below) ([q8_5]) (by rfl) (by rfl) h fun h => ?_
    refine SetKids.lit rfl ?_
    refine Ask.o h fun p9 h => ?_
    cases h; exact ⟨rfl, rfl⟩
  cases h; exact ⟨rfl, rfl⟩

noncomputable def F_impl_order_poset (o0 : (List (List Bool))) : Option SPoset :=
 (loopO (F_impl_order_poset_l2 o0) ((0 : Int), { Below := nilL (List Int) })).bind fun q10_3 =>
 some q10_3
theorem t_impl_order_poset {o0 : (List (List Bool))} {v : SPoset} (h : F_impl_order_poset o0 = some v) : Ret Try.prog f_impl_order_poset [(slr false 1 (slr false 1 V.bool)) o0] ((rS_Poset true) v) := by
  refine ret_vc k_impl_order_poset (Nat.le_of_ble_eq_true rfl) ?_
  unfold F_impl_order_poset at h
  refine BslQ.o (slr true 1 vint) (nilL (List Int)) (by exact fun _ => ⟨rfl, rfl⟩) (by rfl) ?_
  refine SetKids.lit rfl ?_
  refine Len.map ?_
  refine LoopQ.o [11, 10, 3, 2, 0] (S_impl_order_poset_l2 o0) (T_impl_order_poset_l2 o0) h (fun s o h => b_impl_order_poset_l2 s o h) (by first | rfl | simp [restrict, look, mulN_one, V.fz, fzL, V.up, upL, fzL_map, fz_slr, fz_at, slr]) (fun _ => rfl) ?_
  rintro q10_3 h
  try dsimp only at h
  refine Cells.lit rfl rfl ?_
  refine SetKids.lit rfl ?_
  cases h; exact (by rfl)

noncomputable def F_spec_l24Product_l1 (p0 : SPoset) (q0 : SPoset) (x7 : Int) (x8 : Int) (_x5' : SPoset) (x10 : Int) : (Int × (List Int)) → Option ((Int × (List Int)) ⊕ (List Int)) := fun (x11, x9') =>
 ask ((0 : Int) ≤ x8 ∧ x8 < (↑q0.Below.length : Int)) <|
 if x11 < (↑(nth q0.Below x8.toNat).length : Int) then
 ask ((0 : Int) ≤ x7 ∧ x7 < (↑p0.Below.length : Int)) <|
 ask ((0 : Int) ≤ x10 ∧ x10 < (↑(nth p0.Below x7.toNat).length : Int)) <|
 ask (InI (nth (nth p0.Below x7.toNat) x10.toNat * (↑q0.Below.length : Int))) <|
 ask ((0 : Int) ≤ x8 ∧ x8 < (↑q0.Below.length : Int)) <|
 ask ((0 : Int) ≤ x11 ∧ x11 < (↑(nth q0.Below x8.toNat).length : Int)) <|
 ask (InI (nth (nth p0.Below x7.toNat) x10.toNat * (↑q0.Below.length : Int) + nth (nth q0.Below x8.toNat) x11.toNat)) <|
 ask ((x9').length + ([nth (nth p0.Below x7.toNat) x10.toNat * (↑q0.Below.length : Int) + nth (nth q0.Below x8.toNat) x11.toNat]).length ≤ LIM) <|
 ask (InI (x11 + (1 : Int))) <|
 some (.inl (x11 + (1 : Int), x9' ++ [nth (nth p0.Below x7.toNat) x10.toNat * (↑q0.Below.length : Int) + nth (nth q0.Below x8.toNat) x11.toNat]))
 else
 some (.inr x9')
def S_spec_l24Product_l1 (p0 : SPoset) (q0 : SPoset) (x7 : Int) (x8 : Int) (x5' : SPoset) (x10 : Int) : (Int × (List Int)) → St := fun s => [(11, A.val (vint s.1)), (10, A.val (vint (x10))), (9, A.val ((slr true 1 vint) s.2)), (8, A.val (vint (x8))), (7, A.val (vint (x7))), (6, A.val (vint ((↑q0.Below.length : Int)))), (5, A.val ((rP true (rS_Poset true)) (x5'))), (4, A.val ((rP true (rS_Poset true)) ({ Below := nilL (List Int) }))), (3, A.val ((rP true (rS_Poset false)) (q0))), (2, A.val ((rP true (rS_Poset false)) (p0)))]
def T_spec_l24Product_l1 (p0 : SPoset) (q0 : SPoset) (x7 : Int) (x8 : Int) (x5' : SPoset) (x10 : Int) : (List Int) → Tgt
 | s => ((Ex.exit 6), [10, 9, 8, 7, 6, 5, 4, 3, 2], [(10, A.val (vint (x10))), (9, A.val ((slr true 1 vint) s)), (8, A.val (vint (x8))), (7, A.val (vint (x7))), (6, A.val (vint ((↑q0.Below.length : Int)))), (5, A.val ((rP true (rS_Poset true)) (x5'))), (4, A.val ((rP true (rS_Poset true)) ({ Below := nilL (List Int) }))), (3, A.val ((rP true (rS_Poset false)) (q0))), (2, A.val ((rP true (rS_Poset false)) (p0)))])
theorem b_spec_l24Product_l1 {p0 : SPoset} {q0 : SPoset} {x7 : Int} {x8 : Int} {x5' : SPoset} {x10 : Int} (s : (Int × (List Int))) (o : (Int × (List Int)) ⊕ (List Int)) (h : F_spec_l24Product_l1 p0 q0 x7 x8 x5' x10 s = some o) : vc Try.prog c_spec_l24Product_l1 (outQ [11, 10, 9, 8, 7, 6, 5, 4, 3, 2] (S_spec_l24Product_l1 p0 q0 x7 x8 x5' x10) (T_spec_l24Product_l1 p0 q0 x7 x8 x5' x10) o) (S_spec_l24Product_l1 p0 q0 x7 x8 x5' x10 s) := by
  obtain ⟨x11, x9'⟩ := s
  unfold F_spec_l24Product_l1 at h
  try dsimp only at h
  refine Cells.lit rfl rfl ?_
  refine Len.map ?_
  refine Ask.o h fun p5 h => ?_
  refine Elem.o (by first | omega | (simp [mulN] at *; omega)) ?_
  refine Len.map ?_
  refine Br.od h (fun p6 h => ?_) (fun p6 h => ?_)
  · refine Cells.lit rfl rfl ?_
    refine Len.map ?_
    refine Ask.o h fun p7 h => ?_
    refine Elem.o (by first | omega | (simp [mulN] at *; omega)) ?_
    refine Len.map ?_
    refine Ask.o h fun p8 h => ?_
    refine Elem.o (by first | omega | (simp [mulN] at *; omega)) ?_
    refine Ask.o h fun p9 h => ?_
    refine Cells.lit rfl rfl ?_
    refine Len.map ?_
    refine Ask.o h fun p10 h => ?_
    refine Elem.o (by first | omega | (simp [mulN] at *; omega)) ?_
    refine Len.map ?_
    refine Ask.o h fun p11 h => ?_
    refine Elem.o (by first | omega | (simp [mulN] at *; omega)) ?_
    refine Ask.o h fun p12 h => ?_
    refine BslQ.o vint ([nth (nth p0.Below x7.toNat) x10.toNat * (↑q0.Below.length : Int) + nth (nth q0.Below x8.toNat) x11.toNat]) (by exact fun _ => ⟨rfl, rfl⟩) (by rfl) ?_
    refine NoOwn.o (fun _ => rfl) ?_
    refine AppQ.o (m := 1) vint (by exact fun _ => ⟨rfl, rfl⟩) (x9') ([nth (nth p0.Below x7.toNat) x10.toNat * (↑q0.Below.length : Int) + nth (nth q0.Below x8.toNat) x11.toNat]) (by rfl) (by rfl) h fun h => ?_
    refine Ask.o h fun p13 h => ?_
    cases h; exact ⟨rfl, rfl⟩
  cases h; exact ⟨rfl, rfl⟩

noncomputable def F_spec_l24Product_l2 (p0 : SPoset) (q0 : SPoset) (x7 : Int) (x8 : Int) (x5' : SPoset) : (Int × (List Int)) → Option ((Int × (List Int)) ⊕ (List Int)) := fun (x10, x9) =>
 ask ((0 : Int) ≤ x7 ∧ x7 < (↑p0.Below.length : Int)) <|
 if x10 < (↑(nth p0.Below x7.toNat).length : Int) then
 (loopO (F_spec_l24Product_l1 p0 q0 x7 x8 x5' x10) ((0 : Int), x9)).bind fun q14_9 =>
 ask (InI (x10 + (1 : Int))) <|
 some (.inl (x10 + (1 : Int), q14_9))
 else
 some (.inr x9)
def S_spec_l24Product_l2 (p0 : SPoset) (q0 : SPoset) (x7 : Int) (x8 : Int) (x5' : SPoset) : (Int × (List Int)) → St := fun s => [(10, A.val (vint s.1)), (9, A.val ((slr true 1 vint) s.2)), (8, A.val (vint (x8))), (7, A.val (vint (x7))), (6, A.val (vint ((↑q0.Below.length : Int)))), (5, A.val ((rP true (rS_Poset true)) (x5'))), (4, A.val ((rP true (rS_Poset true)) ({ Below := nilL (List Int) }))), (3, A.val ((rP true (rS_Poset false)) (q0))), (2, A.val ((rP true (rS_Poset false)) (p0)))]
def T_spec_l24Product_l2 (p0 : SPoset) (q0 : SPoset) (x7 : Int) (x8 : Int) (x5' : SPoset) : (List Int) → Tgt
 | s => ((Ex.exit 4), [9, 8, 7, 6, 5, 4, 3, 2], [(9, A.val ((slr true 1 vint) s)), (8, A.val (vint (x8))), (7, A.val (vint (x7))), (6, A.val (vint ((↑q0.Below.length : Int)))), (5, A.val ((rP true (rS_Poset true)) (x5'))), (4, A.val ((rP true (rS_Poset true)) ({ Below := nilL (List Int) }))), (3, A.val ((rP true (rS_Poset false)) (q0))), (2, A.val ((rP true (rS_Poset false)) (p0)))])
theorem b_spec_l24Product_l2 {p0 : SPoset} {q0 : SPoset} {x7 : Int} {x8 : Int} {x5' : SPoset} (s : (Int × (List Int))) (o : (Int × (List Int)) ⊕ (List Int)) (h : F_spec_l24Product_l2 p0 q0 x7 x8 x5' s = some o) : vc Try.prog c_spec_l24Product_l2 (outQ [10, 9, 8, 7, 6, 5, 4, 3, 2] (S_spec_l24Product_l2 p0 q0 x7 x8 x5') (T_spec_l24Product_l2 p0 q0 x7 x8 x5') o) (S_spec_l24Product_l2 p0 q0 x7 x8 x5' s) := by
  obtain ⟨x10, x9⟩ := s
  unfold F_spec_l24Product_l2 at h
  try dsimp only at h
  refine Cells.lit rfl rfl ?_
  refine Len.map ?_
  refine Ask.o h fun p3 h => ?_
  refine Elem.o (by first | omega | (simp [mulN] at *; omega)) ?_
  refine Len.map ?_
  refine Br.od h (fun p4 h => ?_) (fun p4 h => ?_)
  · refine LoopQ.o [11, 10, 9, 8, 7, 6, 5, 4, 3, 2] (S_spec_l24Product_l1 p0 q0 x7 x8 x5' x10) (T_spec_l24Product_l1 p0 q0 x7 x8 x5' x10) h (fun s o h => b_spec_l24Product_l1 s o h) (by first | rfl | simp [restrict, look, mulN_one, V.fz, fzL, V.up, upL, fzL_map, fz_slr, fz_at, slr]) (fun _ => rfl) ?_
    rintro q14_9 h
    try dsimp only at h
    refine Ask.o h fun p15 h => ?_
    cases h; exact ⟨rfl, rfl⟩
  cases h; exact ⟨rfl, rfl⟩

noncomputable def F_spec_l24Product_l3 (p0 : SPoset) (q0 : SPoset) (x7 : Int) : (Int × SPoset) → Option ((Int × SPoset) ⊕ SPoset) := fun (x8, x5') =>
 if x8 < (↑q0.Below.length : Int) then
 (loopO (F_spec_l24Product_l2 p0 q0 x7 x8 x5') ((0 : Int), nilL Int)).bind fun q16_9 =>
 ask ((x5'.Below).length + ([q16_9]).length ≤ LIM) <|
 ask (InI (x8 + (1 : Int))) <|
 some (.inl (x8 + (1 : Int), { Below := x5'.Below ++ [q16_9] }))
 else
 some (.inr x5')
def S_spec_l24Product_l3 (p0 : SPoset) (q0 : SPoset) (x7 : Int) : (Int × SPoset) → St := fun s => [(8, A.val (vint s.1)), (7, A.val (vint (x7))), (6, A.val (vint ((↑q0.Below.length : Int)))), (5, A.val ((rP true (rS_Poset true)) s.2)), (4, A.val ((rP true (rS_Poset true)) ({ Below := nilL (List Int) }))), (3, A.val ((rP true (rS_Poset false)) (q0))), (2, A.val ((rP true (rS_Poset false)) (p0)))]
def T_spec_l24Product_l3 (p0 : SPoset) (q0 : SPoset) (x7 : Int) : SPoset → Tgt
 | s => ((Ex.exit 2), [7, 6, 5, 4, 3, 2], [(7, A.val (vint (x7))), (6, A.val (vint ((↑q0.Below.length : Int)))), (5, A.val ((rP true (rS_Poset true)) s)), (4, A.val ((rP true (rS_Poset true)) ({ Below := nilL (List Int) }))), (3, A.val ((rP true (rS_Poset false)) (q0))), (2, A.val ((rP true (rS_Poset false)) (p0)))])
theorem b_spec_l24Product_l3 {p0 : SPoset} {q0 : SPoset} {x7 : Int} (s : (Int × SPoset)) (o : (Int × SPoset) ⊕ SPoset) (h : F_spec_l24Product_l3 p0 q0 x7 s = some o) : vc Try.prog c_spec_l24Product_l3 (outQ [8, 7, 6, 5, 4, 3, 2] (S_spec_l24Product_l3 p0 q0 x7) (T_spec_l24Product_l3 p0 q0 x7) o) (S_spec_l24Product_l3 p0 q0 x7 s) := by
  obtain ⟨x8, x5'⟩ := s
  unfold F_spec_l24Product_l3 at h
  try dsimp only at h
  refine Br.od h (fun p2 h => ?_) (fun p2 h => ?_)
  · refine BslQ.o vint (nilL Int) (by exact fun _ => ⟨rfl, rfl⟩) (by rfl) ?_
    refine LoopQ.o [10, 9, 8, 7, 6, 5, 4, 3, 2] (S_spec_l24Product_l2 p0 q0 x7 x8 x5') (T_spec_l24Product_l2 p0 q0 x7 x8 x5') h (fun s o h => b_spec_l24Product_l2 s o h) (by first | rfl | simp [restrict, look, mulN_one, V.fz, fzL, V.up, upL, fzL_map, fz_slr, fz_at, slr]) (fun _ => rfl) ?_
    rintro q16_9 h
    try dsimp only at h
    refine Cells.lit rfl rfl ?_
    refine BslQ.o (slr true 1 vint) [q16_9] (by exact fun _ => ⟨rfl, rfl⟩) (by rfl) ?_
    refine NoOwn.own rfl ?_
    refine Kid.lit rfl rfl ?_
    refine Kid.lit rfl rfl ?_
    refine SetKids.lit rfl ?_
    refine AppQ.o (m := 1) (slr true 1 vint) (by exact fun _ => ⟨rfl, rfl⟩) (x5'.Below) ([q16_9]) (by rfl) (by rfl) h fun h => ?_
    refine SetKids.lit rfl ?_
    refine Ask.o h fun p17 h => ?_
    cases h; exact ⟨rfl, rfl⟩
  cases h; exact ⟨rfl, rfl⟩

noncomputable def F_spec_l24Product_l4 (p0 : SPoset) (q0 : SPoset) : (Int × SPoset) → Option ((Int × SPoset) ⊕ SPoset) := fun (x7, x5) =>
 if x7 < (↑p0.Below.length : Int) then
 (loopO (F_spec_l24Product_l3 p0 q0 x7) ((0 : Int), x5)).bind fun q18_5 =>
 ask (InI (x7 + (1 : Int))) <|
 some (.inl (x7 + (1 : Int), q18_5))
 else
 some (.inr x5)
def S_spec_l24Product_l4 (p0 : SPoset) (q0 : SPoset) : (Int × SPoset) → St := fun s => [(7, A.val (vint s.1)), (6, A.val (vint ((↑q0.Below.length : Int)))), (5, A.val ((rP true (rS_Poset true)) s.2)), (4, A.val ((rP true (rS_Poset true)) ({ Below := nilL (List Int) }))), (3, A.val ((rP true (rS_Poset false)) (q0))), (2, A.val ((rP true (rS_Poset false)) (p0)))]
def T_spec_l24Product_l4 (_p0 : SPoset) (_q0 : SPoset) : SPoset → Tgt
 | s => ((Ex.exit 0), [5, 4], [(5, A.val ((rP true (rS_Poset true)) s)), (4, A.val ((rP true (rS_Poset true)) ({ Below := nilL (List Int) })))])
theorem b_spec_l24Product_l4 {p0 : SPoset} {q0 : SPoset} (s : (Int × SPoset)) (o : (Int × SPoset) ⊕ SPoset) (h : F_spec_l24Product_l4 p0 q0 s = some o) : vc Try.prog c_spec_l24Product_l4 (outQ [7, 6, 5, 4, 3, 2] (S_spec_l24Product_l4 p0 q0) (T_spec_l24Product_l4 p0 q0) o) (S_spec_l24Product_l4 p0 q0 s) := by
  obtain ⟨x7, x5⟩ := s
  unfold F_spec_l24Product_l4 at h
  try dsimp only at h
  refine Cells.lit rfl rfl ?_
  refine Len.map ?_
  refine Br.od h (fun p1 h => ?_) (fun p1 h => ?_)
  · refine LoopQ.o [8, 7, 6, 5, 4, 3, 2] (S_spec_l24Product_l3 p0 q0 x7) (T_spec_l24Product_l3 p0 q0 x7) h (fun s o h => b_spec_l24Product_l3 s o h) (by first | rfl | simp [restrict, look, mulN_one, V.fz, fzL, V.up, upL, fzL_map, fz_slr, fz_at, slr]) (fun _ => rfl) ?_
    rintro q18_5 h
    try dsimp only at h
    refine Ask.o h fun p19 h => ?_
    cases h; exact ⟨rfl, rfl⟩
  cases h; exact ⟨rfl, rfl⟩

noncomputable def F_spec_l24Product (p0 : SPoset) (q0 : SPoset) : Option SPoset :=
 (loopO (F_spec_l24Product_l4 p0 q0) ((0 : Int), { Below := nilL (List Int) })).bind fun q20_5 =>
 some q20_5
theorem t_spec_l24Product {p0 : SPoset} {q0 : SPoset} {v : SPoset} (h : F_spec_l24Product p0 q0 = some v) : Ret Try.prog f_spec_l24Product [(rS_Poset false) p0, (rS_Poset false) q0] ((rS_Poset true) v) := by
  refine ret_vc k_spec_l24Product (Nat.le_of_ble_eq_true rfl) ?_
  unfold F_spec_l24Product at h
  refine BslQ.o (slr true 1 vint) (nilL (List Int)) (by exact fun _ => ⟨rfl, rfl⟩) (by rfl) ?_
  refine SetKids.lit rfl ?_
  refine Cells.lit rfl rfl ?_
  refine Len.map ?_
  refine LoopQ.o [7, 6, 5, 4, 3, 2] (S_spec_l24Product_l4 p0 q0) (T_spec_l24Product_l4 p0 q0) h (fun s o h => b_spec_l24Product_l4 s o h) (by first | rfl | simp [restrict, look, mulN_one, V.fz, fzL, V.up, upL, fzL_map, fz_slr, fz_at, slr]) (fun _ => rfl) ?_
  rintro q20_5 h
  try dsimp only at h
  refine Cells.lit rfl rfl ?_
  refine SetKids.lit rfl ?_
  cases h; exact (by rfl)

noncomputable def F_impl_lattice_bottom_l1 (l0 : Slattice) : (Int × Int) → Option ((Int × Int) ⊕ Int) := fun (x10, x3) =>
 if x10 < (↑l0.order.length : Int) then
 ask ((0 : Int) ≤ x3 ∧ x3 < (↑l0.meets.length : Int)) <|
 ask ((0 : Int) ≤ x10 ∧ x10 < (↑(nth l0.meets x3.toNat).length : Int)) <|
 ask (InI (x10 + (1 : Int))) <|
 some (.inl (x10 + (1 : Int), nth (nth l0.meets x3.toNat) x10.toNat))
 else
 some (.inr x3)
def S_impl_lattice_bottom_l1 (l0 : Slattice) : (Int × Int) → St := fun s => [(10, A.val (vint s.1)), (9, A.val (vint ((↑l0.order.length : Int)))), (3, A.val (vint s.2)), (0, A.val ((rP false (rS_lattice false)) (l0)))]
def T_impl_lattice_bottom_l1 (_l0 : Slattice) : Int → Tgt
 | s => ((Ex.exit 0), [3], [(3, A.val (vint s))])
theorem b_impl_lattice_bottom_l1 {l0 : Slattice} (s : (Int × Int)) (o : (Int × Int) ⊕ Int) (h : F_impl_lattice_bottom_l1 l0 s = some o) : vc Try.prog c_impl_lattice_bottom_l1 (outQ [10, 9, 3, 0] (S_impl_lattice_bottom_l1 l0) (T_impl_lattice_bottom_l1 l0) o) (S_impl_lattice_bottom_l1 l0 s) := by
  obtain ⟨x10, x3⟩ := s
  unfold F_impl_lattice_bottom_l1 at h
  try dsimp only at h
  refine Br.od h (fun p1 h => ?_) (fun p1 h => ?_)
  · refine Len.map ?_
    refine Ask.o h fun p2 h => ?_
    refine Elem.o (by first | omega | (simp [mulN] at *; omega)) ?_
    refine Len.map ?_
    refine Ask.o h fun p3 h => ?_
    refine Elem.o (by first | omega | (simp [mulN] at *; omega)) ?_
    refine Ask.o h fun p4 h => ?_
    cases h; exact ⟨rfl, rfl⟩
  cases h; exact ⟨rfl, rfl⟩

noncomputable def F_impl_lattice_bottom (l0 : Slattice) : Option Int :=
 (loopO (F_impl_lattice_bottom_l1 l0) ((0 : Int), (0 : Int))).bind fun q5_3 =>
 some q5_3
theorem t_impl_lattice_bottom {l0 : Slattice} {v : Int} (h : F_impl_lattice_bottom l0 = some v) : Ret Try.prog f_impl_lattice_bottom [(rP false (rS_lattice false)) l0] (vint v) := by
  refine ret_vc k_impl_lattice_bottom (Nat.le_of_ble_eq_true rfl) ?_
  unfold F_impl_lattice_bottom at h
  refine Len.map ?_
  refine LoopQ.o [10, 9, 3, 0] (S_impl_lattice_bottom_l1 l0) (T_impl_lattice_bottom_l1 l0) h (fun s o h => b_impl_lattice_bottom_l1 s o h) (by first | rfl | simp [restrict, look, mulN_one, V.fz, fzL, V.up, upL, fzL_map, fz_slr, fz_at, slr]) (fun _ => rfl) ?_
  rintro q5_3 h
  try dsimp only at h
  cases h; exact (by rfl)

noncomputable def F_impl_lattice_top_l1 (l0 : Slattice) : (Int × Int) → Option ((Int × Int) ⊕ Int) := fun (x10, x3) =>
 if x10 < (↑l0.order.length : Int) then
 ask ((0 : Int) ≤ x3 ∧ x3 < (↑l0.joins.length : Int)) <|
 ask ((0 : Int) ≤ x10 ∧ x10 < (↑(nth l0.joins x3.toNat).length : Int)) <|
 ask (InI (x10 + (1 : Int))) <|
 some (.inl (x10 + (1 : Int), nth (nth l0.joins x3.toNat) x10.toNat))
 else
 some (.inr x3)
def S_impl_lattice_top_l1 (l0 : Slattice) : (Int × Int) → St := fun s => [(10, A.val (vint s.1)), (9, A.val (vint ((↑l0.order.length : Int)))), (3, A.val (vint s.2)), (0, A.val ((rP false (rS_lattice false)) (l0)))]
def T_impl_lattice_top_l1 (_l0 : Slattice) : Int → Tgt
 | s => ((Ex.exit 0), [3], [(3, A.val (vint s))])
theorem b_impl_lattice_top_l1 {l0 : Slattice} (s : (Int × Int)) (o : (Int × Int) ⊕ Int) (h : F_impl_lattice_top_l1 l0 s = some o) : vc Try.prog c_impl_lattice_top_l1 (outQ [10, 9, 3, 0] (S_impl_lattice_top_l1 l0) (T_impl_lattice_top_l1 l0) o) (S_impl_lattice_top_l1 l0 s) := by
  obtain ⟨x10, x3⟩ := s
  unfold F_impl_lattice_top_l1 at h
  try dsimp only at h
  refine Br.od h (fun p1 h => ?_) (fun p1 h => ?_)
  · refine Len.map ?_
    refine Ask.o h fun p2 h => ?_
    refine Elem.o (by first | omega | (simp [mulN] at *; omega)) ?_
    refine Len.map ?_
    refine Ask.o h fun p3 h => ?_
    refine Elem.o (by first | omega | (simp [mulN] at *; omega)) ?_
    refine Ask.o h fun p4 h => ?_
    cases h; exact ⟨rfl, rfl⟩
  cases h; exact ⟨rfl, rfl⟩

noncomputable def F_impl_lattice_top (l0 : Slattice) : Option Int :=
 (loopO (F_impl_lattice_top_l1 l0) ((0 : Int), (0 : Int))).bind fun q5_3 =>
 some q5_3
theorem t_impl_lattice_top {l0 : Slattice} {v : Int} (h : F_impl_lattice_top l0 = some v) : Ret Try.prog f_impl_lattice_top [(rP false (rS_lattice false)) l0] (vint v) := by
  refine ret_vc k_impl_lattice_top (Nat.le_of_ble_eq_true rfl) ?_
  unfold F_impl_lattice_top at h
  refine Len.map ?_
  refine LoopQ.o [10, 9, 3, 0] (S_impl_lattice_top_l1 l0) (T_impl_lattice_top_l1 l0) h (fun s o h => b_impl_lattice_top_l1 s o h) (by first | rfl | simp [restrict, look, mulN_one, V.fz, fzL, V.up, upL, fzL_map, fz_slr, fz_at, slr]) (fun _ => rfl) ?_
  rintro q5_3 h
  try dsimp only at h
  cases h; exact (by rfl)

end Go.Proofs.Ytoikbcagaanhgaa.Ax
