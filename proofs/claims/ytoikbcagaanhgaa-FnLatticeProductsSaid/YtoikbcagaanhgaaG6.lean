/-
  What the functions compute, as functions on plain data, and that the program does compute it; written by program.
-/
import Derived.Test.YtoikbcagaanhgaaCode
import Derived.Test.YtoikbcagaanhgaaG1
import Derived.Test.YtoikbcagaanhgaaG2
import Derived.Test.YtoikbcagaanhgaaG3
import Derived.Test.YtoikbcagaanhgaaG5
namespace Go.Proofs.Ytoikbcagaanhgaa.Ax
open Go
set_option maxRecDepth 100000
set_option maxHeartbeats 4000000

noncomputable def F_spec_l2Perm_l1 (l0 : List Int) (n0 : Int) : (Int × (List Bool)) → Option ((Int × (List Bool)) ⊕ (Unit ⊕ Unit)) := fun (x6, x5) =>
 if x6 < n0 then
 ask ((0 : Int) ≤ x6 ∧ x6 < (↑l0.length : Int)) <|
 ask ((0 : Int) ≤ nth l0 x6.toNat ∧ nth l0 x6.toNat < (↑x5.length : Int)) <|
 if (nth x5 (nth l0 x6.toNat).toNat) = true then
 some (.inr (.inl ()))
 else
 ask ((0 : Int) ≤ x6 ∧ x6 < (↑l0.length : Int)) <|
 ask ((0 : Int) ≤ nth l0 x6.toNat ∧ nth l0 x6.toNat < (↑x5.length : Int)) <|
 ask (InI (x6 + (1 : Int))) <|
 some (.inl (x6 + (1 : Int), x5.set (nth l0 x6.toNat).toNat true))
 else
 some (.inr (.inr ()))
def S_spec_l2Perm_l1 (l0 : List Int) (n0 : Int) : (Int × (List Bool)) → St := fun s => [(6, A.val (vint s.1)), (5, A.val ((slr true 1 V.bool) s.2)), (0, A.val ((slr false 1 vint) (l0))), (1, A.val (vint (n0)))]
def T_spec_l2Perm_l1 (_l0 : List Int) (_n0 : Int) : (Unit ⊕ Unit) → Tgt
 | (.inl _s) => (Ex.ret, [4], [(4, A.val (V.bool (false)))])
 | (.inr _s) => ((Ex.exit 0), [], [])
theorem b_spec_l2Perm_l1 {l0 : List Int} {n0 : Int} (s : (Int × (List Bool))) (o : (Int × (List Bool)) ⊕ (Unit ⊕ Unit)) (h : F_spec_l2Perm_l1 l0 n0 s = some o) : vc Try.prog c_spec_l2Perm_l1 (outQ [6, 5, 0, 1] (S_spec_l2Perm_l1 l0 n0) (T_spec_l2Perm_l1 l0 n0) o) (S_spec_l2Perm_l1 l0 n0 s) := by
  obtain ⟨x6, x5⟩ := s
  unfold F_spec_l2Perm_l1 at h
  try dsimp only at h
  conv => whnf
  refine Br.od h (fun p6 h => ?_) (fun p6 h => ?_)
  · conv => whnf
    refine Len.map ?_
    conv => whnf
    refine Ask.o h fun p7 h => ?_
    conv => whnf
    refine Elem.o (by first | omega | (simp [mulN] at *; omega)) ?_
    conv => whnf
    refine Len.map ?_
    conv => whnf
    refine Ask.o h fun p8 h => ?_
    conv => whnf
    refine Cells.one (fun _ => ⟨rfl, rfl⟩) (by first | omega | (simp [mulN] at *; omega)) ?_
    conv => whnf
    refine Br.ob h (fun p9 h => ?_) (fun p9 h => ?_)
    · conv => whnf
      cases h; exact ⟨rfl, rfl⟩
    conv => whnf
    refine Len.map ?_
    conv => whnf
    refine Ask.o h fun p10 h => ?_
    conv => whnf
    refine Elem.o (by first | omega | (simp [mulN] at *; omega)) ?_
    conv => whnf
    refine Len.map ?_
    conv => whnf
    refine Ask.o h fun p11 h => ?_
    conv => whnf
    refine SetKids.one (fun _ => ⟨rfl, rfl⟩) (true) (by rfl) (by first | omega | (simp [mulN] at *; omega)) ?_
    conv => whnf
    refine Ask.o h fun p12 h => ?_
    conv => whnf
    cases h; exact ⟨rfl, rfl⟩
  conv => whnf
  cases h; exact ⟨rfl, rfl⟩

noncomputable def F_spec_l2Perm (l0 : (List Int)) (n0 : Int) : Option Bool :=
 ((if (↑l0.length : Int) ≠ n0 then
 some (.inl ())
 else
 (F_spec_l2Elements (n0) (l0)).bind fun r2 =>
 if (r2) = true then
 some (.inr ())
 else
 some (.inl ()) : Option (Unit ⊕ Unit))).bind fun t => match t with
 | (.inl _) => (some false)
 | (.inr _) => (ask ((0 : Int) ≤ n0 ∧ n0 ≤ (↑LIM : Int)) <|
 (loopO (F_spec_l2Perm_l1 l0 n0) ((0 : Int), List.replicate n0.toNat false)).bind fun t => match t with
 | (.inl _) => (some false)
 | (.inr _) => (some true))
theorem t_spec_l2Perm {l0 : (List Int)} {n0 : Int} {v : Bool} (h : F_spec_l2Perm l0 n0 = some v) : Ret Try.prog f_spec_l2Perm [(slr false 1 vint) l0, vint n0] (V.bool v) := by
  refine ret_vc k_spec_l2Perm (Nat.le_of_ble_eq_true rfl) ?_
  unfold F_spec_l2Perm at h
  conv => whnf
  refine CutQ.o (fun t : (Unit ⊕ Unit) => match t with | (.inl s) => (Ex.ret, [4], [(4, A.val (V.bool (false)))]) | (.inr s) => (Ex.normal, [0, 1], [(0, A.val ((slr false 1 vint) (l0))), (1, A.val (vint (n0)))])) h ?_ ?_
  · intro t h
    conv => whnf
    refine Len.map ?_
    conv => whnf
    refine Br.on h (fun p1 h => ?_) (fun p1 h => ?_)
    · conv => whnf
      refine Br.yes ?_
      conv => whnf
      refine Br.yes ?_
      conv => whnf
      refine Br.yes ?_
      conv => whnf
      refine Br.yes ?_
      conv => whnf
      refine Br.yes ?_
      conv => whnf
      cases h; exact ⟨rfl, rfl⟩
    conv => whnf
    refine Br.no ?_
    conv => whnf
    refine Br.no ?_
    conv => whnf
    refine CallQ.o V.bool (by rfl) h (fun r h => t_spec_l2Elements h) (fun r2 h => ?_)
    conv => whnf
    refine Br.no ?_
    conv => whnf
    refine Br.no ?_
    conv => whnf
    refine Br.flip ?_
    conv => whnf
    refine Br.ob h (fun p3 h => ?_) (fun p3 h => ?_)
    · conv => whnf
      cases h; exact ⟨rfl, rfl⟩
    conv => whnf
    cases h; exact ⟨rfl, rfl⟩
  rintro (⟨⟩ | ⟨⟩) h
  · try dsimp only at h
    conv => whnf
    cases h; exact (by rfl)
  try dsimp only at h
  conv => whnf
  refine Ask.o h fun p5 h => ?_
  conv => whnf
  refine MkQ.o V.bool (false) rfl ?_
  conv => whnf
  refine LoopQ.o [6, 5, 0, 1] (S_spec_l2Perm_l1 l0 n0) (T_spec_l2Perm_l1 l0 n0) h (fun s o h => b_spec_l2Perm_l1 s o h) (by first | rfl | simp [restrict, look, mulN_one, V.fz, fzL, V.up, upL, fzL_map, fz_slr, fz_at, slr]) (by rintro (_ | _) <;> rfl) ?_
  rintro (⟨⟩ | ⟨⟩) h
  · try dsimp only at h
    conv => whnf
    cases h; exact (by rfl)
  try dsimp only at h
  conv => whnf
  cases h; exact (by rfl)

noncomputable def F_spec_l23Good_l1 (p0 : SPoset) : Int → Option (Int ⊕ (Unit ⊕ Unit)) := fun x4 =>
 if x4 < (↑p0.Below.length : Int) then
 ask ((0 : Int) ≤ x4 ∧ x4 < (↑p0.Below.length : Int)) <|
 ask (InI ((↑p0.Below.length : Int) - (1 : Int))) <|
 (F_spec_l1Rising (nth p0.Below x4.toNat) ((0 : Int)) ((↑p0.Below.length : Int) - (1 : Int))).bind fun r5 =>
 if (r5) = true then
 ask ((0 : Int) ≤ x4 ∧ x4 < (↑p0.Below.length : Int)) <|
 (F_spec_l1Has (nth p0.Below x4.toNat) (x4)).bind fun r8 =>
 if (r8) = true then
 ask (InI (x4 + (1 : Int))) <|
 some (.inl (x4 + (1 : Int)))
 else
 some (.inr (.inl ()))
 else
 some (.inr (.inl ()))
 else
 some (.inr (.inr ()))
def S_spec_l23Good_l1 (p0 : SPoset) : Int → St := fun s => [(4, A.val (vint s)), (3, A.val (vint ((↑p0.Below.length : Int)))), (1, A.val ((rP true (rS_Poset false)) (p0)))]
def T_spec_l23Good_l1 (p0 : SPoset) : (Unit ⊕ Unit) → Tgt
 | (.inl _s) => (Ex.ret, [2], [(2, A.val (V.bool (false)))])
 | (.inr _s) => ((Ex.exit 0), [3, 1], [(3, A.val (vint ((↑p0.Below.length : Int)))), (1, A.val ((rP true (rS_Poset false)) (p0)))])
theorem b_spec_l23Good_l1 {p0 : SPoset} (x4 : Int) (o : Int ⊕ (Unit ⊕ Unit)) (h : F_spec_l23Good_l1 p0 x4 = some o) : vc Try.prog c_spec_l23Good_l1 (outQ [4, 3, 1] (S_spec_l23Good_l1 p0) (T_spec_l23Good_l1 p0) o) (S_spec_l23Good_l1 p0 x4) := by
  unfold F_spec_l23Good_l1 at h
  try dsimp only at h
  conv => whnf
  refine Br.od h (fun p2 h => ?_) (fun p2 h => ?_)
  · conv => whnf
    refine Cells.lit rfl rfl ?_
    conv => whnf
    refine Len.map ?_
    conv => whnf
    refine Ask.o h fun p3 h => ?_
    conv => whnf
    refine Elem.o (by first | omega | (simp [mulN] at *; omega)) ?_
    conv => whnf
    refine Ask.o h fun p4 h => ?_
    conv => whnf
    refine CallQ.o V.bool (by rfl) h (fun r h => t_spec_l1Rising h) (fun r5 h => ?_)
    conv => whnf
    refine Br.flip ?_
    conv => whnf
    refine Br.ob h (fun p6 h => ?_) (fun p6 h => ?_)
    · conv => whnf
      refine Br.no ?_
      conv => whnf
      refine Cells.lit rfl rfl ?_
      conv => whnf
      refine Br.no ?_
      conv => whnf
      refine Br.no ?_
      conv => whnf
      refine Len.map ?_
      conv => whnf
      refine Ask.o h fun p7 h => ?_
      conv => whnf
      refine Elem.o (by first | omega | (simp [mulN] at *; omega)) ?_
      conv => whnf
      refine Br.no ?_
      conv => whnf
      refine Br.no ?_
      conv => whnf
      refine Br.no ?_
      conv => whnf
      refine CallQ.o V.bool (by rfl) h (fun r h => t_spec_l1Has h) (fun r8 h => ?_)
      conv => whnf
      refine Br.no ?_
      conv => whnf
      refine Br.no ?_
      conv => whnf
      refine Br.flip ?_
      conv => whnf
      refine Br.ob h (fun p9 h => ?_) (fun p9 h => ?_)
      · conv => whnf
        refine Ask.o h fun p10 h => ?_
        conv => whnf
        cases h; exact ⟨rfl, rfl⟩
      conv => whnf
      cases h; exact ⟨rfl, rfl⟩
    conv => whnf
    refine Br.yes ?_
    conv => whnf
    refine Br.yes ?_
    conv => whnf
    refine Br.yes ?_
    conv => whnf
    refine Br.yes ?_
    conv => whnf
    refine Br.yes ?_
    conv => whnf
    refine Br.yes ?_
    conv => whnf
    refine Br.yes ?_
    conv => whnf
    refine Br.yes ?_
    conv => whnf
    refine Br.yes ?_
    conv => whnf
    cases h; exact ⟨rfl, rfl⟩
  conv => whnf
  cases h; exact ⟨rfl, rfl⟩

noncomputable def F_spec_l23Good_l2 (p0 : SPoset) (x5 : Int) : Int → Option (Int ⊕ (Unit ⊕ Unit)) := fun x6 =>
 ask ((0 : Int) ≤ x5 ∧ x5 < (↑p0.Below.length : Int)) <|
 if x6 < (↑(nth p0.Below x5.toNat).length : Int) then
 ask ((0 : Int) ≤ x5 ∧ x5 < (↑p0.Below.length : Int)) <|
 ask ((0 : Int) ≤ x6 ∧ x6 < (↑(nth p0.Below x5.toNat).length : Int)) <|
 if nth (nth p0.Below x5.toNat) x6.toNat ≠ x5 then
 ask ((0 : Int) ≤ nth (nth p0.Below x5.toNat) x6.toNat ∧ nth (nth p0.Below x5.toNat) x6.toNat < (↑p0.Below.length : Int)) <|
 (F_spec_l1Has (nth p0.Below (nth (nth p0.Below x5.toNat) x6.toNat).toNat) (x5)).bind fun r19 =>
 if (r19) = true then
 some (.inr (.inl ()))
 else
 ask ((0 : Int) ≤ nth (nth p0.Below x5.toNat) x6.toNat ∧ nth (nth p0.Below x5.toNat) x6.toNat < (↑p0.Below.length : Int)) <|
 ask ((0 : Int) ≤ x5 ∧ x5 < (↑p0.Below.length : Int)) <|
 (F_spec_l5Within (nth p0.Below (nth (nth p0.Below x5.toNat) x6.toNat).toNat) (nth p0.Below x5.toNat)).bind fun r23 =>
 if (r23) = true then
 ask (InI (x6 + (1 : Int))) <|
 some (.inl (x6 + (1 : Int)))
 else
 some (.inr (.inl ()))
 else
 ask ((0 : Int) ≤ nth (nth p0.Below x5.toNat) x6.toNat ∧ nth (nth p0.Below x5.toNat) x6.toNat < (↑p0.Below.length : Int)) <|
 ask ((0 : Int) ≤ x5 ∧ x5 < (↑p0.Below.length : Int)) <|
 (F_spec_l5Within (nth p0.Below (nth (nth p0.Below x5.toNat) x6.toNat).toNat) (nth p0.Below x5.toNat)).bind fun r28 =>
 if (r28) = true then
 ask (InI (x6 + (1 : Int))) <|
 some (.inl (x6 + (1 : Int)))
 else
 some (.inr (.inl ()))
 else
 some (.inr (.inr ()))
def S_spec_l23Good_l2 (p0 : SPoset) (x5 : Int) : Int → St := fun s => [(6, A.val (vint s)), (5, A.val (vint (x5))), (3, A.val (vint ((↑p0.Below.length : Int)))), (1, A.val ((rP true (rS_Poset false)) (p0)))]
def T_spec_l23Good_l2 (p0 : SPoset) (x5 : Int) : (Unit ⊕ Unit) → Tgt
 | (.inl _s) => (Ex.ret, [2], [(2, A.val (V.bool (false)))])
 | (.inr _s) => ((Ex.exit 4), [5, 3, 1], [(5, A.val (vint (x5))), (3, A.val (vint ((↑p0.Below.length : Int)))), (1, A.val ((rP true (rS_Poset false)) (p0)))])
theorem b_spec_l23Good_l2 {p0 : SPoset} {x5 : Int} (x6 : Int) (o : Int ⊕ (Unit ⊕ Unit)) (h : F_spec_l23Good_l2 p0 x5 x6 = some o) : vc Try.prog c_spec_l23Good_l2 (outQ [6, 5, 3, 1] (S_spec_l23Good_l2 p0 x5) (T_spec_l23Good_l2 p0 x5) o) (S_spec_l23Good_l2 p0 x5 x6) := by
  unfold F_spec_l23Good_l2 at h
  try dsimp only at h
  conv => whnf
  refine Cells.lit rfl rfl ?_
  conv => whnf
  refine Len.map ?_
  conv => whnf
  refine Ask.o h fun p13 h => ?_
  conv => whnf
  refine Elem.o (by first | omega | (simp [mulN] at *; omega)) ?_
  conv => whnf
  refine Len.map ?_
  conv => whnf
  refine Br.od h (fun p14 h => ?_) (fun p14 h => ?_)
  · conv => whnf
    refine Cells.lit rfl rfl ?_
    conv => whnf
    refine Len.map ?_
    conv => whnf
    refine Ask.o h fun p15 h => ?_
    conv => whnf
    refine Elem.o (by first | omega | (simp [mulN] at *; omega)) ?_
    conv => whnf
    refine Len.map ?_
    conv => whnf
    refine Ask.o h fun p16 h => ?_
    conv => whnf
    refine Elem.o (by first | omega | (simp [mulN] at *; omega)) ?_
    conv => whnf
    refine Br.on h (fun p17 h => ?_) (fun p17 h => ?_)
    · conv => whnf
      refine Br.yes ?_
      conv => whnf
      refine Cells.lit rfl rfl ?_
      conv => whnf
      refine Br.yes ?_
      conv => whnf
      refine Br.yes ?_
      conv => whnf
      refine Len.map ?_
      conv => whnf
      refine Ask.o h fun p18 h => ?_
      conv => whnf
      refine Elem.o (by first | omega | (simp [mulN] at *; omega)) ?_
      conv => whnf
      refine Br.yes ?_
      conv => whnf
      refine Br.yes ?_
      conv => whnf
      refine Br.yes ?_
      conv => whnf
      refine CallP.o V.bool (by rfl) h (fun r h => t_spec_l1Has h) (fun r19 h => ?_)
      conv => whnf
      refine Br.yes ?_
      conv => whnf
      refine Br.ob h (fun p20 h => ?_) (fun p20 h => ?_)
      · conv => whnf
        refine Br.yes ?_
        conv => whnf
        refine Br.yes ?_
        conv => whnf
        refine Br.yes ?_
        conv => whnf
        refine Br.yes ?_
        conv => whnf
        refine Br.yes ?_
        conv => whnf
        refine Br.yes ?_
        conv => whnf
        refine Br.yes ?_
        conv => whnf
        refine Br.yes ?_
        conv => whnf
        refine Br.yes ?_
        conv => whnf
        refine Br.yes ?_
        conv => whnf
        refine Br.yes ?_
        conv => whnf
        refine Br.yes ?_
        conv => whnf
        refine Br.yes ?_
        conv => whnf
        cases h; exact ⟨rfl, rfl⟩
      conv => whnf
      refine Br.no ?_
      conv => whnf
      refine Cells.lit rfl rfl ?_
      conv => whnf
      refine Br.no ?_
      conv => whnf
      refine Br.no ?_
      conv => whnf
      refine Len.map ?_
      conv => whnf
      refine Ask.o h fun p21 h => ?_
      conv => whnf
      refine Elem.o (by first | omega | (simp [mulN] at *; omega)) ?_
      conv => whnf
      refine Br.no ?_
      conv => whnf
      refine Br.no ?_
      conv => whnf
      refine Br.no ?_
      conv => whnf
      refine Cells.lit rfl rfl ?_
      conv => whnf
      refine Br.no ?_
      conv => whnf
      refine Br.no ?_
      conv => whnf
      refine Len.map ?_
      conv => whnf
      refine Ask.o h fun p22 h => ?_
      conv => whnf
      refine Elem.o (by first | omega | (simp [mulN] at *; omega)) ?_
      conv => whnf
      refine Br.no ?_
      conv => whnf
      refine Br.no ?_
      conv => whnf
      refine CallQ.o V.bool (by rfl) h (fun r h => t_spec_l5Within h) (fun r23 h => ?_)
      conv => whnf
      refine Br.no ?_
      conv => whnf
      refine Br.no ?_
      conv => whnf
      refine Br.flip ?_
      conv => whnf
      refine Br.ob h (fun p24 h => ?_) (fun p24 h => ?_)
      · conv => whnf
        refine Ask.o h fun p25 h => ?_
        conv => whnf
        cases h; exact ⟨rfl, rfl⟩
      conv => whnf
      cases h; exact ⟨rfl, rfl⟩
    conv => whnf
    refine Br.no ?_
    conv => whnf
    refine Br.no ?_
    conv => whnf
    refine Br.no ?_
    conv => whnf
    refine Br.no ?_
    conv => whnf
    refine Br.no ?_
    conv => whnf
    refine Br.no ?_
    conv => whnf
    refine Br.no ?_
    conv => whnf
    refine Br.no ?_
    conv => whnf
    refine Br.no ?_
    conv => whnf
    refine Cells.lit rfl rfl ?_
    conv => whnf
    refine Br.no ?_
    conv => whnf
    refine Br.no ?_
    conv => whnf
    refine Len.map ?_
    conv => whnf
    refine Ask.o h fun p26 h => ?_
    conv => whnf
    refine Elem.o (by first | omega | (simp [mulN] at *; omega)) ?_
    conv => whnf
    refine Br.no ?_
    conv => whnf
    refine Br.no ?_
    conv => whnf
    refine Br.no ?_
    conv => whnf
    refine Cells.lit rfl rfl ?_
    conv => whnf
    refine Br.no ?_
    conv => whnf
    refine Br.no ?_
    conv => whnf
    refine Len.map ?_
    conv => whnf
    refine Ask.o h fun p27 h => ?_
    conv => whnf
    refine Elem.o (by first | omega | (simp [mulN] at *; omega)) ?_
    conv => whnf
    refine Br.no ?_
    conv => whnf
    refine Br.no ?_
    conv => whnf
    refine CallQ.o V.bool (by rfl) h (fun r h => t_spec_l5Within h) (fun r28 h => ?_)
    conv => whnf
    refine Br.no ?_
    conv => whnf
    refine Br.no ?_
    conv => whnf
    refine Br.flip ?_
    conv => whnf
    refine Br.ob h (fun p29 h => ?_) (fun p29 h => ?_)
    · conv => whnf
      refine Ask.o h fun p30 h => ?_
      conv => whnf
      cases h; exact ⟨rfl, rfl⟩
    conv => whnf
    cases h; exact ⟨rfl, rfl⟩
  conv => whnf
  cases h; exact ⟨rfl, rfl⟩

noncomputable def F_spec_l23Good_l3 (p0 : SPoset) : Int → Option (Int ⊕ (Unit ⊕ Unit)) := fun x5 =>
 if x5 < (↑p0.Below.length : Int) then
 (loopO (F_spec_l23Good_l2 p0 x5) (0 : Int)).bind fun t => match t with
 | (.inl _) => (some (.inr (.inl ())))
 | (.inr _) => (ask (InI (x5 + (1 : Int))) <|
 some (.inl (x5 + (1 : Int))))
 else
 some (.inr (.inr ()))
def S_spec_l23Good_l3 (p0 : SPoset) : Int → St := fun s => [(5, A.val (vint s)), (3, A.val (vint ((↑p0.Below.length : Int)))), (1, A.val ((rP true (rS_Poset false)) (p0)))]
def T_spec_l23Good_l3 (_p0 : SPoset) : (Unit ⊕ Unit) → Tgt
 | (.inl _s) => (Ex.ret, [2], [(2, A.val (V.bool (false)))])
 | (.inr _s) => ((Ex.exit 2), [], [])
theorem b_spec_l23Good_l3 {p0 : SPoset} (x5 : Int) (o : Int ⊕ (Unit ⊕ Unit)) (h : F_spec_l23Good_l3 p0 x5 = some o) : vc Try.prog c_spec_l23Good_l3 (outQ [5, 3, 1] (S_spec_l23Good_l3 p0) (T_spec_l23Good_l3 p0) o) (S_spec_l23Good_l3 p0 x5) := by
  unfold F_spec_l23Good_l3 at h
  try dsimp only at h
  conv => whnf
  refine Br.od h (fun p12 h => ?_) (fun p12 h => ?_)
  · conv => whnf
    refine LoopQ.o [6, 5, 3, 1] (S_spec_l23Good_l2 p0 x5) (T_spec_l23Good_l2 p0 x5) h (fun s o h => b_spec_l23Good_l2 s o h) (by first | rfl | simp [restrict, look, mulN_one, V.fz, fzL, V.up, upL, fzL_map, fz_slr, fz_at, slr]) (by rintro (_ | _) <;> rfl) ?_
    rintro (⟨⟩ | ⟨⟩) h
    · try dsimp only at h
      conv => whnf
      cases h; exact ⟨rfl, rfl⟩
    try dsimp only at h
    conv => whnf
    refine Ask.o h fun p32 h => ?_
    conv => whnf
    cases h; exact ⟨rfl, rfl⟩
  conv => whnf
  cases h; exact ⟨rfl, rfl⟩

noncomputable def F_spec_l23Good (p0 : SPoset) : Option Bool :=
 if (↑p0.Below.length : Int) > (10 : Int) then
 some false
 else
 (loopO (F_spec_l23Good_l1 p0) (0 : Int)).bind fun t => match t with
 | (.inl _) => (some false)
 | (.inr _) => ((loopO (F_spec_l23Good_l3 p0) (0 : Int)).bind fun t => match t with
 | (.inl _) => (some false)
 | (.inr _) => (some true))
theorem t_spec_l23Good {p0 : SPoset} {v : Bool} (h : F_spec_l23Good p0 = some v) : Ret Try.prog f_spec_l23Good [(rS_Poset false) p0] (V.bool v) := by
  refine ret_vc k_spec_l23Good (Nat.le_of_ble_eq_true rfl) ?_
  unfold F_spec_l23Good at h
  conv => whnf
  refine Cells.lit rfl rfl ?_
  conv => whnf
  refine Len.map ?_
  conv => whnf
  refine Br.od h (fun p1 h => ?_) (fun p1 h => ?_)
  · conv => whnf
    cases h; exact (by rfl)
  conv => whnf
  refine LoopQ.o [4, 3, 1] (S_spec_l23Good_l1 p0) (T_spec_l23Good_l1 p0) h (fun s o h => b_spec_l23Good_l1 s o h) (by first | rfl | simp [restrict, look, mulN_one, V.fz, fzL, V.up, upL, fzL_map, fz_slr, fz_at, slr]) (by rintro (_ | _) <;> rfl) ?_
  rintro (⟨⟩ | ⟨⟩) h
  · try dsimp only at h
    conv => whnf
    cases h; exact (by rfl)
  try dsimp only at h
  conv => whnf
  refine LoopQ.o [5, 3, 1] (S_spec_l23Good_l3 p0) (T_spec_l23Good_l3 p0) h (fun s o h => b_spec_l23Good_l3 s o h) (by first | rfl | simp [restrict, look, mulN_one, V.fz, fzL, V.up, upL, fzL_map, fz_slr, fz_at, slr]) (by rintro (_ | _) <;> rfl) ?_
  rintro (⟨⟩ | ⟨⟩) h
  · try dsimp only at h
    conv => whnf
    cases h; exact (by rfl)
  try dsimp only at h
  conv => whnf
  cases h; exact (by rfl)

noncomputable def F_spec_l24Bound_l1 (p0 : SPoset) (some0 : List Int) (x6 : Int) (_x5 : List Int) : (Int × Bool) → Option ((Int × Bool) ⊕ Bool) := fun (x8, x7) =>
 if x8 < (↑some0.length : Int) then
 if (x7) = true then
 ask ((0 : Int) ≤ x8 ∧ x8 < (↑some0.length : Int)) <|
 (F_spec_l23Leq (p0) (x6) (nth some0 x8.toNat)).bind fun r5 =>
 ask (InI (x8 + (1 : Int))) <|
 some (.inl (x8 + (1 : Int), r5))
 else
 ask (InI (x8 + (1 : Int))) <|
 some (.inl (x8 + (1 : Int), false))
 else
 some (.inr x7)
def S_spec_l24Bound_l1 (p0 : SPoset) (some0 : List Int) (x6 : Int) (x5 : List Int) : (Int × Bool) → St := fun s => [(8, A.val (vint s.1)), (7, A.val (V.bool s.2)), (6, A.val (vint (x6))), (5, A.val ((slr true 1 vint) (x5))), (2, A.val ((rP true (rS_Poset false)) (p0))), (1, A.val ((slr false 1 vint) (some0)))]
def T_spec_l24Bound_l1 (p0 : SPoset) (some0 : List Int) (x6 : Int) (x5 : List Int) : Bool → Tgt
 | s => ((Ex.exit 2), [7, 6, 5, 2, 1], [(7, A.val (V.bool s)), (6, A.val (vint (x6))), (5, A.val ((slr true 1 vint) (x5))), (2, A.val ((rP true (rS_Poset false)) (p0))), (1, A.val ((slr false 1 vint) (some0)))])
theorem b_spec_l24Bound_l1 {p0 : SPoset} {some0 : List Int} {x6 : Int} {x5 : List Int} (s : (Int × Bool)) (o : (Int × Bool) ⊕ Bool) (h : F_spec_l24Bound_l1 p0 some0 x6 x5 s = some o) : vc Try.prog c_spec_l24Bound_l1 (outQ [8, 7, 6, 5, 2, 1] (S_spec_l24Bound_l1 p0 some0 x6 x5) (T_spec_l24Bound_l1 p0 some0 x6 x5) o) (S_spec_l24Bound_l1 p0 some0 x6 x5 s) := by
  obtain ⟨x8, x7⟩ := s
  unfold F_spec_l24Bound_l1 at h
  try dsimp only at h
  conv => whnf
  refine Len.map ?_
  conv => whnf
  refine Br.od h (fun p2 h => ?_) (fun p2 h => ?_)
  · conv => whnf
    refine Br.ob h (fun p3 h => ?_) (fun p3 h => ?_)
    · conv => whnf
      refine Cells.lit rfl rfl ?_
      conv => whnf
      refine Br.yes ?_
      conv => whnf
      refine Br.yes ?_
      conv => whnf
      refine Br.yes ?_
      conv => whnf
      refine Br.yes ?_
      conv => whnf
      refine Len.map ?_
      conv => whnf
      refine Ask.o h fun p4 h => ?_
      conv => whnf
      refine Elem.o (by first | omega | (simp [mulN] at *; omega)) ?_
      conv => whnf
      refine Br.yes ?_
      conv => whnf
      refine Br.yes ?_
      conv => whnf
      refine CallQ.o V.bool (by rfl) h (fun r h => t_spec_l23Leq h) (fun r5 h => ?_)
      conv => whnf
      refine Br.yes ?_
      conv => whnf
      refine Ask.o h fun p6 h => ?_
      conv => whnf
      cases h; exact ⟨rfl, rfl⟩
    conv => whnf
    refine Br.no ?_
    conv => whnf
    refine Br.no ?_
    conv => whnf
    refine Br.no ?_
    conv => whnf
    refine Br.no ?_
    conv => whnf
    refine Br.no ?_
    conv => whnf
    refine Br.no ?_
    conv => whnf
    refine Br.no ?_
    conv => whnf
    refine Ask.o h fun p7 h => ?_
    conv => whnf
    cases h; exact ⟨rfl, rfl⟩
  conv => whnf
  cases h; exact ⟨rfl, rfl⟩

noncomputable def F_spec_l24Bound_l2 (p0 : SPoset) (some0 : List Int) : (Int × (List Int)) → Option ((Int × (List Int)) ⊕ (List Int)) := fun (x6, x5) =>
 if x6 < (↑p0.Below.length : Int) then
 (loopO (F_spec_l24Bound_l1 p0 some0 x6 x5) ((0 : Int), true)).bind fun q8_7 =>
 if (q8_7) = true then
 ask ((x5).length + ([x6]).length ≤ LIM) <|
 ask (InI (x6 + (1 : Int))) <|
 some (.inl (x6 + (1 : Int), x5 ++ [x6]))
 else
 ask (InI (x6 + (1 : Int))) <|
 some (.inl (x6 + (1 : Int), x5))
 else
 some (.inr x5)
def S_spec_l24Bound_l2 (p0 : SPoset) (some0 : List Int) : (Int × (List Int)) → St := fun s => [(6, A.val (vint s.1)), (5, A.val ((slr true 1 vint) s.2)), (2, A.val ((rP true (rS_Poset false)) (p0))), (1, A.val ((slr false 1 vint) (some0)))]
def T_spec_l24Bound_l2 (p0 : SPoset) (_some0 : List Int) : (List Int) → Tgt
 | s => ((Ex.exit 0), [5, 2], [(5, A.val ((slr true 1 vint) s)), (2, A.val ((rP true (rS_Poset false)) (p0)))])
theorem b_spec_l24Bound_l2 {p0 : SPoset} {some0 : List Int} (s : (Int × (List Int))) (o : (Int × (List Int)) ⊕ (List Int)) (h : F_spec_l24Bound_l2 p0 some0 s = some o) : vc Try.prog c_spec_l24Bound_l2 (outQ [6, 5, 2, 1] (S_spec_l24Bound_l2 p0 some0) (T_spec_l24Bound_l2 p0 some0) o) (S_spec_l24Bound_l2 p0 some0 s) := by
  obtain ⟨x6, x5⟩ := s
  unfold F_spec_l24Bound_l2 at h
  try dsimp only at h
  conv => whnf
  refine Cells.lit rfl rfl ?_
  conv => whnf
  refine Len.map ?_
  conv => whnf
  refine Br.od h (fun p1 h => ?_) (fun p1 h => ?_)
  · conv => whnf
    refine LoopQ.o [8, 7, 6, 5, 2, 1] (S_spec_l24Bound_l1 p0 some0 x6 x5) (T_spec_l24Bound_l1 p0 some0 x6 x5) h (fun s o h => b_spec_l24Bound_l1 s o h) (by first | rfl | simp [restrict, look, mulN_one, V.fz, fzL, V.up, upL, fzL_map, fz_slr, fz_at, slr]) (fun _ => rfl) ?_
    rintro q8_7 h
    try dsimp only at h
    conv => whnf
    refine Br.ob h (fun p9 h => ?_) (fun p9 h => ?_)
    · conv => whnf
      refine BslQ.o vint [x6] (by exact fun _ => ⟨rfl, rfl⟩) (by rfl) ?_
      conv => whnf
      refine NoOwn.o (fun _ => rfl) ?_
      conv => whnf
      refine AppQ.o (m := 1) vint (by exact fun _ => ⟨rfl, rfl⟩) (x5) ([x6]) (by rfl) (by rfl) h fun h => ?_
      conv => whnf
      refine Ask.o h fun p10 h => ?_
      conv => whnf
      cases h; exact ⟨rfl, rfl⟩
    conv => whnf
    refine Ask.o h fun p11 h => ?_
    conv => whnf
    cases h; exact ⟨rfl, rfl⟩
  conv => whnf
  cases h; exact ⟨rfl, rfl⟩

noncomputable def F_spec_l24Bound_l3 (p0 : SPoset) (q12_5 : List Int) : Int → Option (Int ⊕ (Int ⊕ Unit)) := fun x9 =>
 if x9 < (↑q12_5.length : Int) then
 ask ((0 : Int) ≤ x9 ∧ x9 < (↑q12_5.length : Int)) <|
 ask ((0 : Int) ≤ nth q12_5 x9.toNat ∧ nth q12_5 x9.toNat < (↑p0.Below.length : Int)) <|
 (F_spec_l5Within (q12_5) (nth p0.Below (nth q12_5 x9.toNat).toNat)).bind fun r16 =>
 if (r16) = true then
 ask ((0 : Int) ≤ x9 ∧ x9 < (↑q12_5.length : Int)) <|
 some (.inr (.inl (nth q12_5 x9.toNat)))
 else
 ask (InI (x9 + (1 : Int))) <|
 some (.inl (x9 + (1 : Int)))
 else
 some (.inr (.inr ()))
def S_spec_l24Bound_l3 (p0 : SPoset) (q12_5 : List Int) : Int → St := fun s => [(9, A.val (vint s)), (5, A.val ((slr true 1 vint) (q12_5))), (2, A.val ((rP true (rS_Poset false)) (p0)))]
def T_spec_l24Bound_l3 (_p0 : SPoset) (_q12_5 : List Int) : (Int ⊕ Unit) → Tgt
 | (.inl s) => (Ex.ret, [4], [(4, A.val (vint s))])
 | (.inr _s) => ((Ex.exit 4), [], [])
theorem b_spec_l24Bound_l3 {p0 : SPoset} {q12_5 : List Int} (x9 : Int) (o : Int ⊕ (Int ⊕ Unit)) (h : F_spec_l24Bound_l3 p0 q12_5 x9 = some o) : vc Try.prog c_spec_l24Bound_l3 (outQ [9, 5, 2] (S_spec_l24Bound_l3 p0 q12_5) (T_spec_l24Bound_l3 p0 q12_5) o) (S_spec_l24Bound_l3 p0 q12_5 x9) := by
  unfold F_spec_l24Bound_l3 at h
  try dsimp only at h
  conv => whnf
  refine Len.map ?_
  conv => whnf
  refine Br.od h (fun p13 h => ?_) (fun p13 h => ?_)
  · conv => whnf
    refine Cells.lit rfl rfl ?_
    conv => whnf
    refine Len.map ?_
    conv => whnf
    refine Ask.o h fun p14 h => ?_
    conv => whnf
    refine Cells.one (fun _ => ⟨rfl, rfl⟩) (by first | omega | (simp [mulN] at *; omega)) ?_
    conv => whnf
    refine Len.map ?_
    conv => whnf
    refine Ask.o h fun p15 h => ?_
    conv => whnf
    refine Elem.o (by first | omega | (simp [mulN] at *; omega)) ?_
    conv => whnf
    refine CallQ.rd V.bool (by first | rfl | simp only [mulN_one, V.fz, fzL_map, slr] | simp [mulN_one, V.fz, fzL, V.up, upL, fzL_map, fz_slr, fz_at, slr]) (fun _ => rfl) h (fun r h => t_spec_l5Within h) (fun r16 h => ?_)
    conv => whnf
    refine Br.ob h (fun p17 h => ?_) (fun p17 h => ?_)
    · conv => whnf
      refine Len.map ?_
      conv => whnf
      refine Ask.o h fun p18 h => ?_
      conv => whnf
      refine Cells.one (fun _ => ⟨rfl, rfl⟩) (by first | omega | (simp [mulN] at *; omega)) ?_
      conv => whnf
      cases h; exact ⟨rfl, rfl⟩
    conv => whnf
    refine Ask.o h fun p19 h => ?_
    conv => whnf
    cases h; exact ⟨rfl, rfl⟩
  conv => whnf
  cases h; exact ⟨rfl, rfl⟩

noncomputable def F_spec_l24Bound (p0 : SPoset) (some0 : (List Int)) : Option Int :=
 (loopO (F_spec_l24Bound_l2 p0 some0) ((0 : Int), nilL Int)).bind fun q12_5 =>
 (loopO (F_spec_l24Bound_l3 p0 q12_5) (0 : Int)).bind fun t => match t with
 | (.inl q20_4) => (some q20_4)
 | (.inr _) => (some (-1 : Int))
theorem t_spec_l24Bound {p0 : SPoset} {some0 : (List Int)} {v : Int} (h : F_spec_l24Bound p0 some0 = some v) : Ret Try.prog f_spec_l24Bound [(rS_Poset false) p0, (slr false 1 vint) some0] (vint v) := by
  refine ret_vc k_spec_l24Bound (Nat.le_of_ble_eq_true rfl) ?_
  unfold F_spec_l24Bound at h
  conv => whnf
  refine BslQ.o vint (nilL Int) (by exact fun _ => ⟨rfl, rfl⟩) (by rfl) ?_
  conv => whnf
  refine LoopQ.o [6, 5, 2, 1] (S_spec_l24Bound_l2 p0 some0) (T_spec_l24Bound_l2 p0 some0) h (fun s o h => b_spec_l24Bound_l2 s o h) (by first | rfl | simp [restrict, look, mulN_one, V.fz, fzL, V.up, upL, fzL_map, fz_slr, fz_at, slr]) (fun _ => rfl) ?_
  rintro q12_5 h
  try dsimp only at h
  conv => whnf
  refine LoopQ.o [9, 5, 2] (S_spec_l24Bound_l3 p0 q12_5) (T_spec_l24Bound_l3 p0 q12_5) h (fun s o h => b_spec_l24Bound_l3 s o h) (by first | rfl | simp [restrict, look, mulN_one, V.fz, fzL, V.up, upL, fzL_map, fz_slr, fz_at, slr]) (by rintro (_ | _) <;> rfl) ?_
  rintro (q20_4 | ⟨⟩) h
  · try dsimp only at h
    conv => whnf
    cases h; exact (by rfl)
  try dsimp only at h
  conv => whnf
  cases h; exact (by rfl)

noncomputable def F_impl_order_upperCovers_1 (y0 : Int) (a1 : (List (List Bool))) (a2 : Int) : Option Bool :=
 (F_impl_order_covers (a1) (a2) (y0)).bind fun r1 =>
 some r1
theorem t_impl_order_upperCovers_1 {y0 : Int} {a1 : (List (List Bool))} {a2 : Int} {v : Bool} (h : F_impl_order_upperCovers_1 y0 a1 a2 = some v) : Ret Try.prog f_impl_order_upperCovers_1 [vint y0, (rP false (slr false 1 (slr false 1 V.bool))) a1, (rP false vint) a2] (V.bool v) := by
  refine ret_vc k_impl_order_upperCovers_1 (Nat.le_of_ble_eq_true rfl) ?_
  unfold F_impl_order_upperCovers_1 at h
  conv => whnf
  refine CallQ.o V.bool (by rfl) h (fun r h => t_impl_order_covers h) (fun r1 h => ?_)
  conv => whnf
  cases h; exact (by rfl)

noncomputable def F_spec_l23Less (p0 : SPoset) (x0 : Int) (y0 : Int) : Option Bool :=
 if x0 ≠ y0 then
 (F_spec_l23Leq (p0) (x0) (y0)).bind fun r2 =>
 some r2
 else
 some false
theorem t_spec_l23Less {p0 : SPoset} {x0 : Int} {y0 : Int} {v : Bool} (h : F_spec_l23Less p0 x0 y0 = some v) : Ret Try.prog f_spec_l23Less [(rS_Poset false) p0, vint x0, vint y0] (V.bool v) := by
  refine ret_vc k_spec_l23Less (Nat.le_of_ble_eq_true rfl) ?_
  unfold F_spec_l23Less at h
  conv => whnf
  refine Br.on h (fun p1 h => ?_) (fun p1 h => ?_)
  · conv => whnf
    refine Cells.lit rfl rfl ?_
    conv => whnf
    refine Br.yes ?_
    conv => whnf
    refine Br.yes ?_
    conv => whnf
    refine Br.yes ?_
    conv => whnf
    refine CallQ.o V.bool (by rfl) h (fun r h => t_spec_l23Leq h) (fun r2 h => ?_)
    conv => whnf
    refine Br.yes ?_
    conv => whnf
    cases h; exact (by rfl)
  conv => whnf
  refine Br.no ?_
  conv => whnf
  refine Br.no ?_
  conv => whnf
  refine Br.no ?_
  conv => whnf
  refine Br.no ?_
  conv => whnf
  cases h; exact (by rfl)

noncomputable def F_impl_order_lowerCovers_1 (y0 : Int) (a1 : (List (List Bool))) (a2 : Int) : Option Bool :=
 (F_impl_order_covers (a1) (y0) (a2)).bind fun r1 =>
 some r1
theorem t_impl_order_lowerCovers_1 {y0 : Int} {a1 : (List (List Bool))} {a2 : Int} {v : Bool} (h : F_impl_order_lowerCovers_1 y0 a1 a2 = some v) : Ret Try.prog f_impl_order_lowerCovers_1 [vint y0, (rP false (slr false 1 (slr false 1 V.bool))) a1, (rP false vint) a2] (V.bool v) := by
  refine ret_vc k_impl_order_lowerCovers_1 (Nat.le_of_ble_eq_true rfl) ?_
  unfold F_impl_order_lowerCovers_1 at h
  conv => whnf
  refine CallQ.o V.bool (by rfl) h (fun r h => t_impl_order_covers h) (fun r1 h => ?_)
  conv => whnf
  cases h; exact (by rfl)

noncomputable def F_impl_IsLattice (p0 : SPoset) : Option Bool :=
 (F_impl_latticeOf (p0)).bind fun t => match t with
 | (none, r1_2) => (some r1_2)
 | ((some _r1_1), r1_2) => (some r1_2)
theorem t_impl_IsLattice {p0 : SPoset} {v : Bool} (h : F_impl_IsLattice p0 = some v) : Ret Try.prog f_impl_IsLattice [(rS_Poset false) p0] (V.bool v) := by
  refine ret_vc k_impl_IsLattice (Nat.le_of_ble_eq_true rfl) ?_
  unfold F_impl_IsLattice at h
  conv => whnf
  refine Cells.lit rfl rfl ?_
  conv => whnf
  refine CallQ.o (fun r => V.tup [(rO true (rS_lattice true)) r.1, V.bool r.2]) (by rfl) h (fun r h => t_impl_latticeOf h) (fun r1 h => ?_)
  rcases r1 with ⟨(_ | r1_1), r1_2⟩
  · try dsimp only at h
    conv => whnf
    cases h; exact (by rfl)
  try dsimp only at h
  conv => whnf
  cases h; exact (by rfl)

noncomputable def F_impl_EndsOf (p0 : SPoset) : Option (Int × Int × Bool) :=
 (F_impl_latticeOf (p0)).bind fun t => match t with
 | (none, r1_2) => (if (r1_2) = true then
 none
 else
 some ((0 : Int), (0 : Int), false))
 | ((some r1_1), r1_2) => (if (r1_2) = true then
 (F_impl_lattice_bottom (r1_1)).bind fun r4 =>
 (F_impl_lattice_top (r1_1)).bind fun r5 =>
 some (r4, r5, true)
 else
 some ((0 : Int), (0 : Int), false))
theorem t_impl_EndsOf {p0 : SPoset} {v : (Int × Int × Bool)} (h : F_impl_EndsOf p0 = some v) : Ret Try.prog f_impl_EndsOf [(rS_Poset false) p0] ((fun r => V.tup [vint r.1, vint r.2.1, V.bool r.2.2]) v) := by
  refine ret_vc k_impl_EndsOf (Nat.le_of_ble_eq_true rfl) ?_
  unfold F_impl_EndsOf at h
  conv => whnf
  refine Cells.lit rfl rfl ?_
  conv => whnf
  refine CallQ.o (fun r => V.tup [(rO true (rS_lattice true)) r.1, V.bool r.2]) (by rfl) h (fun r h => t_impl_latticeOf h) (fun r1 h => ?_)
  rcases r1 with ⟨(_ | r1_1), r1_2⟩
  · try dsimp only at h
    conv => whnf
    refine Br.flip ?_
    conv => whnf
    refine Br.ob h (fun p2 h => ?_) (fun p2 h => ?_)
    · conv => whnf
      cases h
    conv => whnf
    cases h; exact (by rfl)
  try dsimp only at h
  conv => whnf
  refine Br.flip ?_
  conv => whnf
  refine Br.ob h (fun p3 h => ?_) (fun p3 h => ?_)
  · conv => whnf
    refine CallQ.rd vint (by first | rfl | simp only [V.fz, fzL, fzL_map] | simp [mulN_one, V.fz, fzL, V.up, upL, fzL_map, fz_slr, fz_at, slr]) (fun _ => rfl) h (fun r h => t_impl_lattice_bottom h) (fun r4 h => ?_)
    conv => whnf
    refine CallQ.rd vint (by first | rfl | simp only [V.fz, fzL, fzL_map] | simp [mulN_one, V.fz, fzL, V.up, upL, fzL_map, fz_slr, fz_at, slr]) (fun _ => rfl) h (fun r h => t_impl_lattice_top h) (fun r5 h => ?_)
    conv => whnf
    cases h; exact (by rfl)
  conv => whnf
  cases h; exact (by rfl)

end Go.Proofs.Ytoikbcagaanhgaa.Ax
