/-
  What the functions compute, as functions on plain data, and that the program does compute it; written by program.
-/
import Derived.Test.YtoikbcagaanhgaaCode
namespace Go.Proofs.Ytoikbcagaanhgaa.Ax
open Go
set_option maxRecDepth 100000
set_option maxHeartbeats 4000000

noncomputable def F_impl_order_isOrder_l1 (o0 : List (List Bool)) (x8 : Int) (x21 : Int) : Int → Option (Int ⊕ (Unit ⊕ Unit)) := fun x47 =>
 if x47 < (↑o0.length : Int) then
 ask ((0 : Int) ≤ x8 ∧ x8 < (↑o0.length : Int)) <|
 ask ((0 : Int) ≤ x21 ∧ x21 < (↑(nth o0 x8.toNat).length : Int)) <|
 if (nth (nth o0 x8.toNat) x21.toNat) = true then
 ask ((0 : Int) ≤ x21 ∧ x21 < (↑o0.length : Int)) <|
 ask ((0 : Int) ≤ x47 ∧ x47 < (↑(nth o0 x21.toNat).length : Int)) <|
 if (nth (nth o0 x21.toNat) x47.toNat) = true then
 ask ((0 : Int) ≤ x8 ∧ x8 < (↑o0.length : Int)) <|
 ask ((0 : Int) ≤ x47 ∧ x47 < (↑(nth o0 x8.toNat).length : Int)) <|
 if (nth (nth o0 x8.toNat) x47.toNat) = true then
 ask (InI (x47 + (1 : Int))) <|
 some (.inl (x47 + (1 : Int)))
 else
 some (.inr (.inl ()))
 else
 ask (InI (x47 + (1 : Int))) <|
 some (.inl (x47 + (1 : Int)))
 else
 ask (InI (x47 + (1 : Int))) <|
 some (.inl (x47 + (1 : Int)))
 else
 some (.inr (.inr ()))
def S_impl_order_isOrder_l1 (o0 : List (List Bool)) (x8 : Int) (x21 : Int) : Int → St := fun s => [(47, A.val (vint s)), (46, A.val (vint ((↑o0.length : Int)))), (4, A.val (vint (x21))), (21, A.val (vint (x21))), (20, A.val (vint ((↑o0.length : Int)))), (3, A.val (vint (x8))), (8, A.val (vint (x8))), (7, A.val (vint ((↑o0.length : Int)))), (0, A.val ((slr false 1 (slr false 1 V.bool)) (o0)))]
def T_impl_order_isOrder_l1 (o0 : List (List Bool)) (x8 : Int) (x21 : Int) : (Unit ⊕ Unit) → Tgt
 | (.inl _s) => (Ex.ret, [2], [(2, A.val (V.bool (false)))])
 | (.inr _s) => ((Ex.exit 4), [21, 20, 3, 8, 7, 0], [(21, A.val (vint (x21))), (20, A.val (vint ((↑o0.length : Int)))), (3, A.val (vint (x8))), (8, A.val (vint (x8))), (7, A.val (vint ((↑o0.length : Int)))), (0, A.val ((slr false 1 (slr false 1 V.bool)) (o0)))])
theorem b_impl_order_isOrder_l1 {o0 : List (List Bool)} {x8 : Int} {x21 : Int} (x47 : Int) (o : Int ⊕ (Unit ⊕ Unit)) (h : F_impl_order_isOrder_l1 o0 x8 x21 x47 = some o) : vc Try.prog c_impl_order_isOrder_l1 (outQ [47, 46, 4, 21, 20, 3, 8, 7, 0] (S_impl_order_isOrder_l1 o0 x8 x21) (T_impl_order_isOrder_l1 o0 x8 x21) o) (S_impl_order_isOrder_l1 o0 x8 x21 x47) := by
  unfold F_impl_order_isOrder_l1 at h
  try dsimp only at h
  refine Br.od h (fun p14 h => ?_) (fun p14 h => ?_)
  · refine Len.map ?_
    refine Ask.o h fun p15 h => ?_
    refine Elem.o (by first | omega | (simp [mulN] at *; omega)) ?_
    refine Len.map ?_
    refine Ask.o h fun p16 h => ?_
    refine Elem.o (by first | omega | (simp [mulN] at *; omega)) ?_
    refine Br.ob h (fun p17 h => ?_) (fun p17 h => ?_)
    · refine Br.yes ?_
      refine Br.yes ?_
      refine Len.map ?_
      refine Ask.o h fun p18 h => ?_
      refine Elem.o (by first | omega | (simp [mulN] at *; omega)) ?_
      refine Br.yes ?_
      refine Br.yes ?_
      refine Br.yes ?_
      refine Len.map ?_
      refine Ask.o h fun p19 h => ?_
      refine Elem.o (by first | omega | (simp [mulN] at *; omega)) ?_
      refine Br.yes ?_
      refine Br.yes ?_
      refine Br.ob h (fun p20 h => ?_) (fun p20 h => ?_)
      · refine Br.yes ?_
        refine Br.yes ?_
        refine Len.map ?_
        refine Ask.o h fun p21 h => ?_
        refine Elem.o (by first | omega | (simp [mulN] at *; omega)) ?_
        refine Br.yes ?_
        refine Br.yes ?_
        refine Br.yes ?_
        refine Len.map ?_
        refine Ask.o h fun p22 h => ?_
        refine Elem.o (by first | omega | (simp [mulN] at *; omega)) ?_
        refine Br.yes ?_
        refine Br.yes ?_
        refine Br.yes ?_
        refine Br.flip ?_
        refine Br.ob h (fun p23 h => ?_) (fun p23 h => ?_)
        · refine Ask.o h fun p24 h => ?_
          cases h; exact ⟨rfl, rfl⟩
        cases h; exact ⟨rfl, rfl⟩
      refine Br.no ?_
      refine Br.no ?_
      refine Br.no ?_
      refine Br.no ?_
      refine Br.no ?_
      refine Br.no ?_
      refine Br.no ?_
      refine Br.no ?_
      refine Br.no ?_
      refine Ask.o h fun p25 h => ?_
      cases h; exact ⟨rfl, rfl⟩
    refine Br.no ?_
    refine Br.no ?_
    refine Br.no ?_
    refine Br.no ?_
    refine Br.no ?_
    refine Br.no ?_
    refine Br.no ?_
    refine Br.no ?_
    refine Br.no ?_
    refine Br.no ?_
    refine Br.no ?_
    refine Br.no ?_
    refine Br.no ?_
    refine Br.no ?_
    refine Br.no ?_
    refine Br.no ?_
    refine Br.no ?_
    refine Ask.o h fun p26 h => ?_
    cases h; exact ⟨rfl, rfl⟩
  cases h; exact ⟨rfl, rfl⟩

noncomputable def F_impl_order_isOrder_l2 (o0 : List (List Bool)) (x8 : Int) : Int → Option (Int ⊕ (Unit ⊕ Unit)) := fun x21 =>
 if x21 < (↑o0.length : Int) then
 ((if x8 ≠ x21 then
 ask ((0 : Int) ≤ x8 ∧ x8 < (↑o0.length : Int)) <|
 ask ((0 : Int) ≤ x21 ∧ x21 < (↑(nth o0 x8.toNat).length : Int)) <|
 if (nth (nth o0 x8.toNat) x21.toNat) = true then
 ask ((0 : Int) ≤ x21 ∧ x21 < (↑o0.length : Int)) <|
 ask ((0 : Int) ≤ x8 ∧ x8 < (↑(nth o0 x21.toNat).length : Int)) <|
 if (nth (nth o0 x21.toNat) x8.toNat) = true then
 some (.inl ())
 else
 some (.inr ())
 else
 some (.inr ())
 else
 some (.inr ()) : Option (Unit ⊕ Unit))).bind fun t => match t with
 | (.inl _) => (some (.inr (.inl ())))
 | (.inr _) => ((loopO (F_impl_order_isOrder_l1 o0 x8 x21) (0 : Int)).bind fun t => match t with
 | (.inl _) => (some (.inr (.inl ())))
 | (.inr _) => (ask (InI (x21 + (1 : Int))) <|
 some (.inl (x21 + (1 : Int)))))
 else
 some (.inr (.inr ()))
def S_impl_order_isOrder_l2 (o0 : List (List Bool)) (x8 : Int) : Int → St := fun s => [(21, A.val (vint s)), (20, A.val (vint ((↑o0.length : Int)))), (3, A.val (vint (x8))), (8, A.val (vint (x8))), (7, A.val (vint ((↑o0.length : Int)))), (0, A.val ((slr false 1 (slr false 1 V.bool)) (o0)))]
def T_impl_order_isOrder_l2 (o0 : List (List Bool)) (x8 : Int) : (Unit ⊕ Unit) → Tgt
 | (.inl _s) => (Ex.ret, [2], [(2, A.val (V.bool (false)))])
 | (.inr _s) => ((Ex.exit 2), [8, 7, 0], [(8, A.val (vint (x8))), (7, A.val (vint ((↑o0.length : Int)))), (0, A.val ((slr false 1 (slr false 1 V.bool)) (o0)))])
theorem b_impl_order_isOrder_l2 {o0 : List (List Bool)} {x8 : Int} (x21 : Int) (o : Int ⊕ (Unit ⊕ Unit)) (h : F_impl_order_isOrder_l2 o0 x8 x21 = some o) : vc Try.prog c_impl_order_isOrder_l2 (outQ [21, 20, 3, 8, 7, 0] (S_impl_order_isOrder_l2 o0 x8) (T_impl_order_isOrder_l2 o0 x8) o) (S_impl_order_isOrder_l2 o0 x8 x21) := by
  unfold F_impl_order_isOrder_l2 at h
  try dsimp only at h
  refine Br.od h (fun p5 h => ?_) (fun p5 h => ?_)
  · refine CutQ.o (fun t : (Unit ⊕ Unit) => match t with | (.inl s) => (Ex.ret, [2], [(2, A.val (V.bool (false)))]) | (.inr s) => (Ex.normal, [4, 21, 20, 3, 8, 7, 0], [(4, A.val (vint (x21))), (21, A.val (vint (x21))), (20, A.val (vint ((↑o0.length : Int)))), (3, A.val (vint (x8))), (8, A.val (vint (x8))), (7, A.val (vint ((↑o0.length : Int)))), (0, A.val ((slr false 1 (slr false 1 V.bool)) (o0)))])) h ?_ ?_
    · intro t h
      refine Br.on h (fun p6 h => ?_) (fun p6 h => ?_)
      · refine Br.yes ?_
        refine Br.yes ?_
        refine Len.map ?_
        refine Ask.o h fun p7 h => ?_
        refine Elem.o (by first | omega | (simp [mulN] at *; omega)) ?_
        refine Br.yes ?_
        refine Br.yes ?_
        refine Br.yes ?_
        refine Len.map ?_
        refine Ask.o h fun p8 h => ?_
        refine Elem.o (by first | omega | (simp [mulN] at *; omega)) ?_
        refine Br.yes ?_
        refine Br.yes ?_
        refine Br.ob h (fun p9 h => ?_) (fun p9 h => ?_)
        · refine Br.yes ?_
          refine Br.yes ?_
          refine Len.map ?_
          refine Ask.o h fun p10 h => ?_
          refine Elem.o (by first | omega | (simp [mulN] at *; omega)) ?_
          refine Br.yes ?_
          refine Br.yes ?_
          refine Br.yes ?_
          refine Len.map ?_
          refine Ask.o h fun p11 h => ?_
          refine Elem.o (by first | omega | (simp [mulN] at *; omega)) ?_
          refine Br.yes ?_
          refine Br.yes ?_
          refine Br.ob h (fun p12 h => ?_) (fun p12 h => ?_)
          · cases h; exact ⟨rfl, rfl⟩
          cases h; exact ⟨rfl, rfl⟩
        refine Br.no ?_
        refine Br.no ?_
        refine Br.no ?_
        refine Br.no ?_
        refine Br.no ?_
        refine Br.no ?_
        refine Br.no ?_
        refine Br.no ?_
        cases h; exact ⟨rfl, rfl⟩
      refine Br.no ?_
      refine Br.no ?_
      refine Br.no ?_
      refine Br.no ?_
      refine Br.no ?_
      refine Br.no ?_
      refine Br.no ?_
      refine Br.no ?_
      refine Br.no ?_
      refine Br.no ?_
      refine Br.no ?_
      refine Br.no ?_
      refine Br.no ?_
      refine Br.no ?_
      refine Br.no ?_
      refine Br.no ?_
      cases h; exact ⟨rfl, rfl⟩
    rintro (⟨⟩ | ⟨⟩) h
    · try dsimp only at h
      cases h; exact ⟨rfl, rfl⟩
    try dsimp only at h
    refine Len.map ?_
    refine LoopQ.o [47, 46, 4, 21, 20, 3, 8, 7, 0] (S_impl_order_isOrder_l1 o0 x8 x21) (T_impl_order_isOrder_l1 o0 x8 x21) h (fun s o h => b_impl_order_isOrder_l1 s o h) (by first | rfl | simp [restrict, look, mulN_one, V.fz, fzL, V.up, upL, fzL_map, fz_slr, fz_at, slr]) (by rintro (_ | _) <;> rfl) ?_
    rintro (⟨⟩ | ⟨⟩) h
    · try dsimp only at h
      cases h; exact ⟨rfl, rfl⟩
    try dsimp only at h
    refine Ask.o h fun p28 h => ?_
    cases h; exact ⟨rfl, rfl⟩
  cases h; exact ⟨rfl, rfl⟩

noncomputable def F_impl_order_isOrder_l3 (o0 : List (List Bool)) : Int → Option (Int ⊕ (Unit ⊕ Unit)) := fun x8 =>
 if x8 < (↑o0.length : Int) then
 ask ((0 : Int) ≤ x8 ∧ x8 < (↑o0.length : Int)) <|
 ask ((0 : Int) ≤ x8 ∧ x8 < (↑(nth o0 x8.toNat).length : Int)) <|
 if (nth (nth o0 x8.toNat) x8.toNat) = true then
 (loopO (F_impl_order_isOrder_l2 o0 x8) (0 : Int)).bind fun t => match t with
 | (.inl _) => (some (.inr (.inl ())))
 | (.inr _) => (ask (InI (x8 + (1 : Int))) <|
 some (.inl (x8 + (1 : Int))))
 else
 some (.inr (.inl ()))
 else
 some (.inr (.inr ()))
def S_impl_order_isOrder_l3 (o0 : List (List Bool)) : Int → St := fun s => [(8, A.val (vint s)), (7, A.val (vint ((↑o0.length : Int)))), (0, A.val ((slr false 1 (slr false 1 V.bool)) (o0)))]
def T_impl_order_isOrder_l3 (_o0 : List (List Bool)) : (Unit ⊕ Unit) → Tgt
 | (.inl _s) => (Ex.ret, [2], [(2, A.val (V.bool (false)))])
 | (.inr _s) => ((Ex.exit 0), [], [])
theorem b_impl_order_isOrder_l3 {o0 : List (List Bool)} (x8 : Int) (o : Int ⊕ (Unit ⊕ Unit)) (h : F_impl_order_isOrder_l3 o0 x8 = some o) : vc Try.prog c_impl_order_isOrder_l3 (outQ [8, 7, 0] (S_impl_order_isOrder_l3 o0) (T_impl_order_isOrder_l3 o0) o) (S_impl_order_isOrder_l3 o0 x8) := by
  unfold F_impl_order_isOrder_l3 at h
  try dsimp only at h
  refine Br.od h (fun p1 h => ?_) (fun p1 h => ?_)
  · refine Len.map ?_
    refine Ask.o h fun p2 h => ?_
    refine Elem.o (by first | omega | (simp [mulN] at *; omega)) ?_
    refine Len.map ?_
    refine Ask.o h fun p3 h => ?_
    refine Elem.o (by first | omega | (simp [mulN] at *; omega)) ?_
    refine Br.flip ?_
    refine Br.ob h (fun p4 h => ?_) (fun p4 h => ?_)
    · refine Len.map ?_
      refine LoopQ.o [21, 20, 3, 8, 7, 0] (S_impl_order_isOrder_l2 o0 x8) (T_impl_order_isOrder_l2 o0 x8) h (fun s o h => b_impl_order_isOrder_l2 s o h) (by first | rfl | simp [restrict, look, mulN_one, V.fz, fzL, V.up, upL, fzL_map, fz_slr, fz_at, slr]) (by rintro (_ | _) <;> rfl) ?_
      rintro (⟨⟩ | ⟨⟩) h
      · try dsimp only at h
        cases h; exact ⟨rfl, rfl⟩
      try dsimp only at h
      refine Ask.o h fun p30 h => ?_
      cases h; exact ⟨rfl, rfl⟩
    cases h; exact ⟨rfl, rfl⟩
  cases h; exact ⟨rfl, rfl⟩

noncomputable def F_impl_order_isOrder (o0 : (List (List Bool))) : Option Bool :=
 (loopO (F_impl_order_isOrder_l3 o0) (0 : Int)).bind fun t => match t with
 | (.inl _) => (some false)
 | (.inr _) => (some true)
theorem t_impl_order_isOrder {o0 : (List (List Bool))} {v : Bool} (h : F_impl_order_isOrder o0 = some v) : Ret Try.prog f_impl_order_isOrder [(slr false 1 (slr false 1 V.bool)) o0] (V.bool v) := by
  refine ret_vc k_impl_order_isOrder (Nat.le_of_ble_eq_true rfl) ?_
  unfold F_impl_order_isOrder at h
  refine Len.map ?_
  refine LoopQ.o [8, 7, 0] (S_impl_order_isOrder_l3 o0) (T_impl_order_isOrder_l3 o0) h (fun s o h => b_impl_order_isOrder_l3 s o h) (by first | rfl | simp [restrict, look, mulN_one, V.fz, fzL, V.up, upL, fzL_map, fz_slr, fz_at, slr]) (by rintro (_ | _) <;> rfl) ?_
  rintro (⟨⟩ | ⟨⟩) h
  · try dsimp only at h
    cases h; exact (by rfl)
  try dsimp only at h
  cases h; exact (by rfl)

noncomputable def F_impl_order_interval_1 (z0 : Int) (a1 : (List (List Bool))) (a2 : Int) (a3 : Int) : Option Bool :=
 ask ((0 : Int) ≤ a2 ∧ a2 < (↑a1.length : Int)) <|
 ask ((0 : Int) ≤ z0 ∧ z0 < (↑(nth a1 a2.toNat).length : Int)) <|
 if (nth (nth a1 a2.toNat) z0.toNat) = true then
 ask ((0 : Int) ≤ z0 ∧ z0 < (↑a1.length : Int)) <|
 ask ((0 : Int) ≤ a3 ∧ a3 < (↑(nth a1 z0.toNat).length : Int)) <|
 some (nth (nth a1 z0.toNat) a3.toNat)
 else
 some false
theorem t_impl_order_interval_1 {z0 : Int} {a1 : (List (List Bool))} {a2 : Int} {a3 : Int} {v : Bool} (h : F_impl_order_interval_1 z0 a1 a2 a3 = some v) : Ret Try.prog f_impl_order_interval_1 [vint z0, (rP false (slr false 1 (slr false 1 V.bool))) a1, (rP false vint) a2, (rP false vint) a3] (V.bool v) := by
  refine ret_vc k_impl_order_interval_1 (Nat.le_of_ble_eq_true rfl) ?_
  unfold F_impl_order_interval_1 at h
  refine Len.map ?_
  refine Ask.o h fun p1 h => ?_
  refine Elem.o (by first | omega | (simp [mulN] at *; omega)) ?_
  refine Len.map ?_
  refine Ask.o h fun p2 h => ?_
  refine Elem.o (by first | omega | (simp [mulN] at *; omega)) ?_
  refine Br.ob h (fun p3 h => ?_) (fun p3 h => ?_)
  · refine Br.yes ?_
    refine Br.yes ?_
    refine Len.map ?_
    refine Ask.o h fun p4 h => ?_
    refine Elem.o (by first | omega | (simp [mulN] at *; omega)) ?_
    refine Br.yes ?_
    refine Br.yes ?_
    refine Br.yes ?_
    refine Len.map ?_
    refine Ask.o h fun p5 h => ?_
    refine Elem.o (by first | omega | (simp [mulN] at *; omega)) ?_
    refine Br.yes ?_
    refine Br.yes ?_
    cases h; exact (by rfl)
  refine Br.no ?_
  refine Br.no ?_
  refine Br.no ?_
  refine Br.no ?_
  refine Br.no ?_
  refine Br.no ?_
  refine Br.no ?_
  cases h; exact (by rfl)

noncomputable def F_spec_l1Has_l1 (l0 : List Int) (n0 : Int) : Int → Option (Int ⊕ (Unit ⊕ Unit)) := fun x5 =>
 if x5 < (↑l0.length : Int) then
 ask ((0 : Int) ≤ x5 ∧ x5 < (↑l0.length : Int)) <|
 if nth l0 x5.toNat = n0 then
 some (.inr (.inl ()))
 else
 ask (InI (x5 + (1 : Int))) <|
 some (.inl (x5 + (1 : Int)))
 else
 some (.inr (.inr ()))
def S_spec_l1Has_l1 (l0 : List Int) (n0 : Int) : Int → St := fun s => [(5, A.val (vint s)), (0, A.val ((slr false 1 vint) (l0))), (1, A.val (vint (n0)))]
def T_spec_l1Has_l1 (_l0 : List Int) (_n0 : Int) : (Unit ⊕ Unit) → Tgt
 | (.inl _s) => (Ex.ret, [4], [(4, A.val (V.bool (true)))])
 | (.inr _s) => ((Ex.exit 0), [], [])
theorem b_spec_l1Has_l1 {l0 : List Int} {n0 : Int} (x5 : Int) (o : Int ⊕ (Unit ⊕ Unit)) (h : F_spec_l1Has_l1 l0 n0 x5 = some o) : vc Try.prog c_spec_l1Has_l1 (outQ [5, 0, 1] (S_spec_l1Has_l1 l0 n0) (T_spec_l1Has_l1 l0 n0) o) (S_spec_l1Has_l1 l0 n0 x5) := by
  unfold F_spec_l1Has_l1 at h
  try dsimp only at h
  refine Len.map ?_
  refine Br.od h (fun p1 h => ?_) (fun p1 h => ?_)
  · refine Len.map ?_
    refine Ask.o h fun p2 h => ?_
    refine Elem.o (by first | omega | (simp [mulN] at *; omega)) ?_
    refine Br.oe h (fun p3 h => ?_) (fun p3 h => ?_)
    · cases h; exact ⟨rfl, rfl⟩
    refine Ask.o h fun p4 h => ?_
    cases h; exact ⟨rfl, rfl⟩
  cases h; exact ⟨rfl, rfl⟩

noncomputable def F_spec_l1Has (l0 : (List Int)) (n0 : Int) : Option Bool :=
 (loopO (F_spec_l1Has_l1 l0 n0) (0 : Int)).bind fun t => match t with
 | (.inl _) => (some true)
 | (.inr _) => (some false)
theorem t_spec_l1Has {l0 : (List Int)} {n0 : Int} {v : Bool} (h : F_spec_l1Has l0 n0 = some v) : Ret Try.prog f_spec_l1Has [(slr false 1 vint) l0, vint n0] (V.bool v) := by
  refine ret_vc k_spec_l1Has (Nat.le_of_ble_eq_true rfl) ?_
  unfold F_spec_l1Has at h
  refine LoopQ.o [5, 0, 1] (S_spec_l1Has_l1 l0 n0) (T_spec_l1Has_l1 l0 n0) h (fun s o h => b_spec_l1Has_l1 s o h) (by first | rfl | simp [restrict, look, mulN_one, V.fz, fzL, V.up, upL, fzL_map, fz_slr, fz_at, slr]) (by rintro (_ | _) <;> rfl) ?_
  rintro (⟨⟩ | ⟨⟩) h
  · try dsimp only at h
    cases h; exact (by rfl)
  try dsimp only at h
  cases h; exact (by rfl)

noncomputable def F_spec_l1Put_l1 (l0 : List Int) (n0 : Int) : Int → Option (Int ⊕ Int) := fun x5 =>
 if x5 < (↑l0.length : Int) then
 ask ((0 : Int) ≤ x5 ∧ x5 < (↑l0.length : Int)) <|
 if nth l0 x5.toNat < n0 then
 ask (InI (x5 + (1 : Int))) <|
 some (.inl (x5 + (1 : Int)))
 else
 some (.inr x5)
 else
 some (.inr x5)
def S_spec_l1Put_l1 (l0 : List Int) (n0 : Int) : Int → St := fun s => [(5, A.val (vint s)), (0, A.val ((slr false 1 vint) (l0))), (1, A.val (vint (n0)))]
def T_spec_l1Put_l1 (l0 : List Int) (n0 : Int) : Int → Tgt
 | s => ((Ex.exit 0), [5, 0, 1], [(5, A.val (vint s)), (0, A.val ((slr false 1 vint) (l0))), (1, A.val (vint (n0)))])
theorem b_spec_l1Put_l1 {l0 : List Int} {n0 : Int} (x5 : Int) (o : Int ⊕ Int) (h : F_spec_l1Put_l1 l0 n0 x5 = some o) : vc Try.prog c_spec_l1Put_l1 (outQ [5, 0, 1] (S_spec_l1Put_l1 l0 n0) (T_spec_l1Put_l1 l0 n0) o) (S_spec_l1Put_l1 l0 n0 x5) := by
  unfold F_spec_l1Put_l1 at h
  try dsimp only at h
  refine Len.map ?_
  refine Br.od h (fun p1 h => ?_) (fun p1 h => ?_)
  · refine Br.yes ?_
    refine Br.yes ?_
    refine Len.map ?_
    refine Ask.o h fun p2 h => ?_
    refine Elem.o (by first | omega | (simp [mulN] at *; omega)) ?_
    refine Br.yes ?_
    refine Br.yes ?_
    refine Br.yes ?_
    refine Br.yes ?_
    refine Br.od h (fun p3 h => ?_) (fun p3 h => ?_)
    · refine Ask.o h fun p4 h => ?_
      cases h; exact ⟨rfl, rfl⟩
    cases h; exact ⟨rfl, rfl⟩
  refine Br.no ?_
  refine Br.no ?_
  refine Br.no ?_
  refine Br.no ?_
  refine Br.no ?_
  refine Br.no ?_
  refine Br.no ?_
  cases h; exact ⟨rfl, rfl⟩

noncomputable def F_spec_l1Put (l0 : (List Int)) (n0 : Int) : Option (List Int) :=
 (loopO (F_spec_l1Put_l1 l0 n0) (0 : Int)).bind fun q5_5 =>
 ((if q5_5 < (↑l0.length : Int) then
 ask ((0 : Int) ≤ q5_5 ∧ q5_5 < (↑l0.length : Int)) <|
 if nth l0 q5_5.toNat = n0 then
 some (.inl ())
 else
 some (.inr ())
 else
 some (.inr ()) : Option (Unit ⊕ Unit))).bind fun t => match t with
 | (.inl _) => (some l0)
 | (.inr _) => (ask (0 ≤ (0 : Int) ∧ (0 : Int) ≤ q5_5 ∧ q5_5 ≤ ((l0.length : Nat) : Int)) <|
 ask ((nilL Int).length + (List.take (q5_5.toNat - Int.toNat (0 : Int)) (List.drop (Int.toNat (0 : Int)) l0)).length ≤ LIM) <|
 ask ((nilL Int ++ List.take (q5_5.toNat - Int.toNat (0 : Int)) (List.drop (Int.toNat (0 : Int)) l0)).length + ([n0]).length ≤ LIM) <|
 ask (0 ≤ q5_5 ∧ q5_5 ≤ (↑l0.length : Int) ∧ (↑l0.length : Int) ≤ ((l0.length : Nat) : Int)) <|
 ask ((nilL Int ++ List.take (q5_5.toNat - Int.toNat (0 : Int)) (List.drop (Int.toNat (0 : Int)) l0) ++ [n0]).length + (List.take ((↑l0.length : Int).toNat - q5_5.toNat) (List.drop q5_5.toNat l0)).length ≤ LIM) <|
 some (nilL Int ++ List.take (q5_5.toNat - Int.toNat (0 : Int)) (List.drop (Int.toNat (0 : Int)) l0) ++ [n0] ++ List.take ((↑l0.length : Int).toNat - q5_5.toNat) (List.drop q5_5.toNat l0)))
theorem t_spec_l1Put {l0 : (List Int)} {n0 : Int} {v : (List Int)} (h : F_spec_l1Put l0 n0 = some v) : Ret Try.prog f_spec_l1Put [(slr false 1 vint) l0, vint n0] ((slr false 1 vint) v) := by
  refine retfz_vc k_spec_l1Put (Nat.le_of_ble_eq_true rfl) ?_
  unfold F_spec_l1Put at h
  conv => whnf
  refine LoopQ.o [5, 0, 1] (S_spec_l1Put_l1 l0 n0) (T_spec_l1Put_l1 l0 n0) h (fun s o h => b_spec_l1Put_l1 s o h) (by first | rfl | simp [restrict, look, mulN_one, V.fz, fzL, V.up, upL, fzL_map, fz_slr, fz_at, slr]) (fun _ => rfl) ?_
  rintro q5_5 h
  try dsimp only at h
  conv => whnf
  refine CutQ.o (fun t : (Unit ⊕ Unit) => match t with | (.inl s) => (Ex.ret, [4], [(4, A.val ((slr false 1 vint) (l0)))]) | (.inr s) => (Ex.normal, [5, 0, 1], [(5, A.val (vint (q5_5))), (0, A.val ((slr false 1 vint) (l0))), (1, A.val (vint (n0)))])) h ?_ ?_
  · intro t h
    conv => whnf
    refine Len.map ?_
    conv => whnf
    refine Br.od h (fun p6 h => ?_) (fun p6 h => ?_)
    · conv => whnf
      refine Br.yes ?_
      conv => whnf
      refine Br.yes ?_
      conv => whnf
      refine Len.map ?_
      conv => whnf
      refine Ask.o h fun p7 h => ?_
      conv => whnf
      refine Elem.o (by first | omega | (simp [mulN] at *; omega)) ?_
      conv => whnf
      refine Br.yes ?_
      conv => whnf
      refine Br.yes ?_
      conv => whnf
      refine Br.yes ?_
      conv => whnf
      refine Br.yes ?_
      conv => whnf
      refine Br.oe h (fun p8 h => ?_) (fun p8 h => ?_)
      · conv => whnf
        cases h; exact ⟨rfl, rfl⟩
      conv => whnf
      cases h; exact ⟨rfl, rfl⟩
    conv => whnf
    refine Br.no ?_
    conv => whnf
    refine Br.no ?_
    conv => whnf
    refine Br.no ?_
    conv => whnf
    refine Br.no ?_
    conv => whnf
    refine Br.no ?_
    conv => whnf
    refine Br.no ?_
    conv => whnf
    refine Br.no ?_
    conv => whnf
    cases h; exact ⟨rfl, rfl⟩
  rintro (⟨⟩ | ⟨⟩) h
  · try dsimp only at h
    conv => whnf
    cases h; exact (by rfl)
  try dsimp only at h
  conv => whnf
  refine BslQ.o vint (nilL Int) (by exact fun _ => ⟨rfl, rfl⟩) (by rfl) ?_
  conv => whnf
  refine SlcQ.o vint h fun h => ?_
  conv => whnf
  refine AppQ.o (m := 1) vint (by exact fun _ => ⟨rfl, rfl⟩) (nilL Int) (List.take (q5_5.toNat - Int.toNat (0 : Int)) (List.drop (Int.toNat (0 : Int)) l0)) (by rfl) (by rfl) h fun h => ?_
  conv => whnf
  refine BslQ.o vint [n0] (by exact fun _ => ⟨rfl, rfl⟩) (by rfl) ?_
  conv => whnf
  refine NoOwn.o (fun _ => rfl) ?_
  conv => whnf
  refine AppQ.o (m := 1) vint (by exact fun _ => ⟨rfl, rfl⟩) (nilL Int ++ List.take (q5_5.toNat - Int.toNat (0 : Int)) (List.drop (Int.toNat (0 : Int)) l0)) ([n0]) (by rfl) (by rfl) h fun h => ?_
  conv => whnf
  refine Len.map ?_
  conv => whnf
  refine SlcQ.o vint h fun h => ?_
  conv => whnf
  refine AppQ.o (m := 1) vint (by exact fun _ => ⟨rfl, rfl⟩) (nilL Int ++ List.take (q5_5.toNat - Int.toNat (0 : Int)) (List.drop (Int.toNat (0 : Int)) l0) ++ [n0]) (List.take ((↑l0.length : Int).toNat - q5_5.toNat) (List.drop q5_5.toNat l0)) (by rfl) (by rfl) h fun h => ?_
  conv => whnf
  cases h; exact (by first | rfl | simp only [resV, fz_slr, slr] | simp [resV, mulN_one, V.fz, fzL, V.up, upL, fzL_map, fz_slr, fz_at, slr])

noncomputable def F_impl_order_greatest_l1 (o0 : List (List Bool)) (list0 : List Int) (x12 : Int) : (Int × Bool) → Option ((Int × Bool) ⊕ Bool) := fun (x18, x7) =>
 if x18 < (↑list0.length : Int) then
 ask ((0 : Int) ≤ x18 ∧ x18 < (↑list0.length : Int)) <|
 if (x7) = true then
 ask ((0 : Int) ≤ nth list0 x18.toNat ∧ nth list0 x18.toNat < (↑o0.length : Int)) <|
 ask ((0 : Int) ≤ nth list0 x12.toNat ∧ nth list0 x12.toNat < (↑(nth o0 (nth list0 x18.toNat).toNat).length : Int)) <|
 ask (InI (x18 + (1 : Int))) <|
 some (.inl (x18 + (1 : Int), nth (nth o0 (nth list0 x18.toNat).toNat) (nth list0 x12.toNat).toNat))
 else
 ask (InI (x18 + (1 : Int))) <|
 some (.inl (x18 + (1 : Int), false))
 else
 some (.inr x7)
def S_impl_order_greatest_l1 (o0 : List (List Bool)) (list0 : List Int) (x12 : Int) : (Int × Bool) → St := fun s => [(18, A.val (vint s.1)), (17, A.val (vint ((↑list0.length : Int)))), (16, A.val ((slr false 1 vint) (list0))), (7, A.val (V.bool s.2)), (6, A.val (vint (nth list0 x12.toNat))), (12, A.val (vint (x12))), (11, A.val (vint ((↑list0.length : Int)))), (10, A.val ((slr false 1 vint) (list0))), (0, A.val ((slr false 1 (slr false 1 V.bool)) (o0))), (1, A.val ((slr false 1 vint) (list0)))]
def T_impl_order_greatest_l1 (o0 : List (List Bool)) (list0 : List Int) (x12 : Int) : Bool → Tgt
 | s => ((Ex.exit 2), [7, 6, 12, 11, 10, 0, 1], [(7, A.val (V.bool s)), (6, A.val (vint (nth list0 x12.toNat))), (12, A.val (vint (x12))), (11, A.val (vint ((↑list0.length : Int)))), (10, A.val ((slr false 1 vint) (list0))), (0, A.val ((slr false 1 (slr false 1 V.bool)) (o0))), (1, A.val ((slr false 1 vint) (list0)))])
theorem b_impl_order_greatest_l1 {o0 : List (List Bool)} {list0 : List Int} {x12 : Int} (s : (Int × Bool)) (o : (Int × Bool) ⊕ Bool) (h : F_impl_order_greatest_l1 o0 list0 x12 s = some o) : vc Try.prog c_impl_order_greatest_l1 (outQ [18, 17, 16, 7, 6, 12, 11, 10, 0, 1] (S_impl_order_greatest_l1 o0 list0 x12) (T_impl_order_greatest_l1 o0 list0 x12) o) (S_impl_order_greatest_l1 o0 list0 x12 s) := by
  obtain ⟨x18, x7⟩ := s
  unfold F_impl_order_greatest_l1 at h
  try dsimp only at h
  refine Br.od h (fun p3 h => ?_) (fun p3 h => ?_)
  · refine Len.map ?_
    refine Ask.o h fun p4 h => ?_
    refine Elem.o (by first | omega | (simp [mulN] at *; omega)) ?_
    refine Br.ob h (fun p5 h => ?_) (fun p5 h => ?_)
    · refine Br.yes ?_
      refine Br.yes ?_
      refine Len.map ?_
      refine Ask.o h fun p6 h => ?_
      refine Elem.o (by first | omega | (simp [mulN] at *; omega)) ?_
      refine Br.yes ?_
      refine Br.yes ?_
      refine Br.yes ?_
      refine Len.map ?_
      refine Ask.o h fun p7 h => ?_
      refine Elem.o (by first | omega | (simp [mulN] at *; omega)) ?_
      refine Br.yes ?_
      refine Br.yes ?_
      refine Ask.o h fun p8 h => ?_
      cases h; exact ⟨rfl, rfl⟩
    refine Br.no ?_
    refine Br.no ?_
    refine Br.no ?_
    refine Br.no ?_
    refine Br.no ?_
    refine Br.no ?_
    refine Br.no ?_
    refine Ask.o h fun p9 h => ?_
    cases h; exact ⟨rfl, rfl⟩
  cases h; exact ⟨rfl, rfl⟩

noncomputable def F_impl_order_greatest_l2 (o0 : List (List Bool)) (list0 : List Int) : Int → Option (Int ⊕ (Int ⊕ Unit)) := fun x12 =>
 if x12 < (↑list0.length : Int) then
 ask ((0 : Int) ≤ x12 ∧ x12 < (↑list0.length : Int)) <|
 (loopO (F_impl_order_greatest_l1 o0 list0 x12) ((0 : Int), true)).bind fun q10_7 =>
 if (q10_7) = true then
 some (.inr (.inl (nth list0 x12.toNat)))
 else
 ask (InI (x12 + (1 : Int))) <|
 some (.inl (x12 + (1 : Int)))
 else
 some (.inr (.inr ()))
def S_impl_order_greatest_l2 (o0 : List (List Bool)) (list0 : List Int) : Int → St := fun s => [(12, A.val (vint s)), (11, A.val (vint ((↑list0.length : Int)))), (10, A.val ((slr false 1 vint) (list0))), (0, A.val ((slr false 1 (slr false 1 V.bool)) (o0))), (1, A.val ((slr false 1 vint) (list0)))]
def T_impl_order_greatest_l2 (_o0 : List (List Bool)) (_list0 : List Int) : (Int ⊕ Unit) → Tgt
 | (.inl s) => (Ex.ret, [4], [(4, A.val (vint s))])
 | (.inr _s) => ((Ex.exit 0), [], [])
theorem b_impl_order_greatest_l2 {o0 : List (List Bool)} {list0 : List Int} (x12 : Int) (o : Int ⊕ (Int ⊕ Unit)) (h : F_impl_order_greatest_l2 o0 list0 x12 = some o) : vc Try.prog c_impl_order_greatest_l2 (outQ [12, 11, 10, 0, 1] (S_impl_order_greatest_l2 o0 list0) (T_impl_order_greatest_l2 o0 list0) o) (S_impl_order_greatest_l2 o0 list0 x12) := by
  unfold F_impl_order_greatest_l2 at h
  try dsimp only at h
  refine Br.od h (fun p1 h => ?_) (fun p1 h => ?_)
  · refine Len.map ?_
    refine Ask.o h fun p2 h => ?_
    refine Elem.o (by first | omega | (simp [mulN] at *; omega)) ?_
    refine Len.map ?_
    refine LoopQ.o [18, 17, 16, 7, 6, 12, 11, 10, 0, 1] (S_impl_order_greatest_l1 o0 list0 x12) (T_impl_order_greatest_l1 o0 list0 x12) h (fun s o h => b_impl_order_greatest_l1 s o h) (by first | rfl | simp [restrict, look, mulN_one, V.fz, fzL, V.up, upL, fzL_map, fz_slr, fz_at, slr]) (fun _ => rfl) ?_
    rintro q10_7 h
    try dsimp only at h
    refine Br.ob h (fun p11 h => ?_) (fun p11 h => ?_)
    · cases h; exact ⟨rfl, rfl⟩
    refine Ask.o h fun p12 h => ?_
    cases h; exact ⟨rfl, rfl⟩
  cases h; exact ⟨rfl, rfl⟩

noncomputable def F_impl_order_greatest (o0 : (List (List Bool))) (list0 : (List Int)) : Option Int :=
 (loopO (F_impl_order_greatest_l2 o0 list0) (0 : Int)).bind fun t => match t with
 | (.inl q13_4) => (some q13_4)
 | (.inr _) => (some (-1 : Int))
theorem t_impl_order_greatest {o0 : (List (List Bool))} {list0 : (List Int)} {v : Int} (h : F_impl_order_greatest o0 list0 = some v) : Ret Try.prog f_impl_order_greatest [(slr false 1 (slr false 1 V.bool)) o0, (slr false 1 vint) list0] (vint v) := by
  refine ret_vc k_impl_order_greatest (Nat.le_of_ble_eq_true rfl) ?_
  unfold F_impl_order_greatest at h
  refine Len.map ?_
  refine LoopQ.o [12, 11, 10, 0, 1] (S_impl_order_greatest_l2 o0 list0) (T_impl_order_greatest_l2 o0 list0) h (fun s o h => b_impl_order_greatest_l2 s o h) (by first | rfl | simp [restrict, look, mulN_one, V.fz, fzL, V.up, upL, fzL_map, fz_slr, fz_at, slr]) (by rintro (_ | _) <;> rfl) ?_
  rintro (q13_4 | ⟨⟩) h
  · try dsimp only at h
    cases h; exact (by rfl)
  try dsimp only at h
  cases h; exact (by rfl)

noncomputable def F_impl_order_meetTable_1 (z0 : Int) (a1 : (List (List Bool))) (a2 : Int) (a3 : Int) : Option Bool :=
 ask ((0 : Int) ≤ z0 ∧ z0 < (↑a1.length : Int)) <|
 ask ((0 : Int) ≤ a2 ∧ a2 < (↑(nth a1 z0.toNat).length : Int)) <|
 if (nth (nth a1 z0.toNat) a2.toNat) = true then
 ask ((0 : Int) ≤ z0 ∧ z0 < (↑a1.length : Int)) <|
 ask ((0 : Int) ≤ a3 ∧ a3 < (↑(nth a1 z0.toNat).length : Int)) <|
 some (nth (nth a1 z0.toNat) a3.toNat)
 else
 some false
theorem t_impl_order_meetTable_1 {z0 : Int} {a1 : (List (List Bool))} {a2 : Int} {a3 : Int} {v : Bool} (h : F_impl_order_meetTable_1 z0 a1 a2 a3 = some v) : Ret Try.prog f_impl_order_meetTable_1 [vint z0, (rP false (slr false 1 (slr false 1 V.bool))) a1, (rP false vint) a2, (rP false vint) a3] (V.bool v) := by
  refine ret_vc k_impl_order_meetTable_1 (Nat.le_of_ble_eq_true rfl) ?_
  unfold F_impl_order_meetTable_1 at h
  refine Len.map ?_
  refine Ask.o h fun p1 h => ?_
  refine Elem.o (by first | omega | (simp [mulN] at *; omega)) ?_
  refine Len.map ?_
  refine Ask.o h fun p2 h => ?_
  refine Elem.o (by first | omega | (simp [mulN] at *; omega)) ?_
  refine Br.ob h (fun p3 h => ?_) (fun p3 h => ?_)
  · refine Br.yes ?_
    refine Br.yes ?_
    refine Len.map ?_
    refine Ask.o h fun p4 h => ?_
    refine Elem.o (by first | omega | (simp [mulN] at *; omega)) ?_
    refine Br.yes ?_
    refine Br.yes ?_
    refine Br.yes ?_
    refine Len.map ?_
    refine Ask.o h fun p5 h => ?_
    refine Elem.o (by first | omega | (simp [mulN] at *; omega)) ?_
    refine Br.yes ?_
    refine Br.yes ?_
    cases h; exact (by rfl)
  refine Br.no ?_
  refine Br.no ?_
  refine Br.no ?_
  refine Br.no ?_
  refine Br.no ?_
  refine Br.no ?_
  refine Br.no ?_
  cases h; exact (by rfl)

noncomputable def F_impl_order_less (o0 : (List (List Bool))) (x0 : Int) (y0 : Int) : Option Bool :=
 if x0 ≠ y0 then
 ask ((0 : Int) ≤ x0 ∧ x0 < (↑o0.length : Int)) <|
 ask ((0 : Int) ≤ y0 ∧ y0 < (↑(nth o0 x0.toNat).length : Int)) <|
 some (nth (nth o0 x0.toNat) y0.toNat)
 else
 some false
theorem t_impl_order_less {o0 : (List (List Bool))} {x0 : Int} {y0 : Int} {v : Bool} (h : F_impl_order_less o0 x0 y0 = some v) : Ret Try.prog f_impl_order_less [(slr false 1 (slr false 1 V.bool)) o0, vint x0, vint y0] (V.bool v) := by
  refine ret_vc k_impl_order_less (Nat.le_of_ble_eq_true rfl) ?_
  unfold F_impl_order_less at h
  refine Br.on h (fun p1 h => ?_) (fun p1 h => ?_)
  · refine Br.yes ?_
    refine Br.yes ?_
    refine Len.map ?_
    refine Ask.o h fun p2 h => ?_
    refine Elem.o (by first | omega | (simp [mulN] at *; omega)) ?_
    refine Br.yes ?_
    refine Br.yes ?_
    refine Br.yes ?_
    refine Len.map ?_
    refine Ask.o h fun p3 h => ?_
    refine Elem.o (by first | omega | (simp [mulN] at *; omega)) ?_
    refine Br.yes ?_
    refine Br.yes ?_
    cases h; exact (by rfl)
  refine Br.no ?_
  refine Br.no ?_
  refine Br.no ?_
  refine Br.no ?_
  refine Br.no ?_
  refine Br.no ?_
  refine Br.no ?_
  cases h; exact (by rfl)

end Go.Proofs.Ytoikbcagaanhgaa.Ax
