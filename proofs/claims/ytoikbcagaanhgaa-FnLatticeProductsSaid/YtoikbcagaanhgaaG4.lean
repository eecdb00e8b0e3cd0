/-
  What the functions compute, as functions on plain data, and that the program does compute it; written by program.
-/
import Derived.Test.YtoikbcagaanhgaaCode
import Derived.Test.YtoikbcagaanhgaaG1
import Derived.Test.YtoikbcagaanhgaaG2
import Derived.Test.YtoikbcagaanhgaaG3
namespace Go.Proofs.Ytoikbcagaanhgaa.Ax
open Go
set_option maxRecDepth 100000
set_option maxHeartbeats 4000000

noncomputable def F_laws_rTable_l1 (a0 : List (List Int)) (b0 : List (List Int)) : Int → Option (Int ⊕ (Unit ⊕ Unit)) := fun x5 =>
 if x5 < (↑a0.length : Int) then
 ask ((0 : Int) ≤ x5 ∧ x5 < (↑a0.length : Int)) <|
 ask ((0 : Int) ≤ x5 ∧ x5 < (↑b0.length : Int)) <|
 (F_laws_rInts (nth a0 x5.toNat) (nth b0 x5.toNat)).bind fun r5 =>
 if (r5) = true then
 ask (InI (x5 + (1 : Int))) <|
 some (.inl (x5 + (1 : Int)))
 else
 some (.inr (.inl ()))
 else
 some (.inr (.inr ()))
def S_laws_rTable_l1 (a0 : List (List Int)) (b0 : List (List Int)) : Int → St := fun s => [(5, A.val (vint s)), (0, A.val ((slr false 1 (slr false 1 vint)) (a0))), (1, A.val ((slr false 1 (slr false 1 vint)) (b0)))]
def T_laws_rTable_l1 (_a0 : List (List Int)) (_b0 : List (List Int)) : (Unit ⊕ Unit) → Tgt
 | (.inl _s) => (Ex.ret, [4], [(4, A.val (V.bool (false)))])
 | (.inr _s) => ((Ex.exit 0), [], [])
theorem b_laws_rTable_l1 {a0 : List (List Int)} {b0 : List (List Int)} (x5 : Int) (o : Int ⊕ (Unit ⊕ Unit)) (h : F_laws_rTable_l1 a0 b0 x5 = some o) : vc Try.prog c_laws_rTable_l1 (outQ [5, 0, 1] (S_laws_rTable_l1 a0 b0) (T_laws_rTable_l1 a0 b0) o) (S_laws_rTable_l1 a0 b0 x5) := by
  unfold F_laws_rTable_l1 at h
  try dsimp only at h
  conv => whnf
  refine Len.map ?_
  conv => whnf
  refine Br.od h (fun p2 h => ?_) (fun p2 h => ?_)
  · conv => whnf
    refine Len.map ?_
    conv => whnf
    refine Ask.o h fun p3 h => ?_
    conv => whnf
    refine Elem.o (by first | omega | (simp [mulN] at *; omega)) ?_
    conv => whnf
    refine Len.map ?_
    conv => whnf
    refine Ask.o h fun p4 h => ?_
    conv => whnf
    refine Elem.o (by first | omega | (simp [mulN] at *; omega)) ?_
    conv => whnf
    refine CallQ.o V.bool (by rfl) h (fun r h => t_laws_rInts h) (fun r5 h => ?_)
    conv => whnf
    refine Br.flip ?_
    conv => whnf
    refine Br.ob h (fun p6 h => ?_) (fun p6 h => ?_)
    · conv => whnf
      refine Ask.o h fun p7 h => ?_
      conv => whnf
      cases h; exact ⟨rfl, rfl⟩
    conv => whnf
    cases h; exact ⟨rfl, rfl⟩
  conv => whnf
  cases h; exact ⟨rfl, rfl⟩

noncomputable def F_laws_rTable (a0 : (List (List Int))) (b0 : (List (List Int))) : Option Bool :=
 if (↑a0.length : Int) ≠ (↑b0.length : Int) then
 some false
 else
 (loopO (F_laws_rTable_l1 a0 b0) (0 : Int)).bind fun t => match t with
 | (.inl _) => (some false)
 | (.inr _) => (some true)
theorem t_laws_rTable {a0 : (List (List Int))} {b0 : (List (List Int))} {v : Bool} (h : F_laws_rTable a0 b0 = some v) : Ret Try.prog f_laws_rTable [(slr false 1 (slr false 1 vint)) a0, (slr false 1 (slr false 1 vint)) b0] (V.bool v) := by
  refine ret_vc k_laws_rTable (Nat.le_of_ble_eq_true rfl) ?_
  unfold F_laws_rTable at h
  conv => whnf
  refine Len.map ?_
  conv => whnf
  refine Len.map ?_
  conv => whnf
  refine Br.on h (fun p1 h => ?_) (fun p1 h => ?_)
  · conv => whnf
    cases h; exact (by rfl)
  conv => whnf
  refine LoopQ.o [5, 0, 1] (S_laws_rTable_l1 a0 b0) (T_laws_rTable_l1 a0 b0) h (fun s o h => b_laws_rTable_l1 s o h) (by first | rfl | simp [restrict, look, mulN_one, V.fz, fzL, V.up, upL, fzL_map, fz_slr, fz_at, slr]) (by rintro (_ | _) <;> rfl) ?_
  rintro (⟨⟩ | ⟨⟩) h
  · try dsimp only at h
    conv => whnf
    cases h; exact (by rfl)
  try dsimp only at h
  conv => whnf
  cases h; exact (by rfl)

noncomputable def F_spec_l1Cur_pick (c0 : Sl1Cur) (n0 : Int) : Option (Int × Sl1Cur) :=
 if n0 ≤ (1 : Int) then
 some ((0 : Int), c0)
 else
 (F_spec_l1Cur_next (c0)).bind fun (r2, u3) =>
 if n0 > (200 : Int) then
 ask (InI (r2 * (256 : Int))) <|
 (F_spec_l1Cur_next (u3)).bind fun (r6, u7) =>
 ask (InI (r2 * (256 : Int) + r6)) <|
 ask (n0 ≠ (0 : Int)) <|
 some ((r2 * (256 : Int) + r6).tmod n0, u7)
 else
 ask (n0 ≠ (0 : Int)) <|
 some (r2.tmod n0, u3)
theorem t_spec_l1Cur_pick {c0 : Sl1Cur} {n0 : Int} {v : (Int × Sl1Cur)} (h : F_spec_l1Cur_pick c0 n0 = some v) : RetO Try.prog f_spec_l1Cur_pick [(rP true (rS_l1Cur false)) c0, vint n0] (vint v.1) 0 ((rP true (rS_l1Cur false)) v.2) := by
  refine reto_vc k_spec_l1Cur_pick (Nat.le_of_ble_eq_true rfl) ?_
  unfold F_spec_l1Cur_pick at h
  conv => whnf
  refine Br.od h (fun p1 h => ?_) (fun p1 h => ?_)
  · conv => whnf
    cases h; exact ⟨(by rfl), (by rfl)⟩
  conv => whnf
  refine CallQ.io vint (rP true (rS_l1Cur false)) (by rfl) rfl (fun _ => rfl) (fun _ => ⟨rfl, rfl⟩) rfl h (fun r h => t_spec_l1Cur_next h) (fun r2 u3 h => ?_)
  conv => whnf
  refine Br.od h (fun p4 h => ?_) (fun p4 h => ?_)
  · conv => whnf
    refine Ask.o h fun p5 h => ?_
    conv => whnf
    refine CallQ.io vint (rP true (rS_l1Cur false)) (by rfl) rfl (fun _ => rfl) (fun _ => ⟨rfl, rfl⟩) rfl h (fun r h => t_spec_l1Cur_next h) (fun r6 u7 h => ?_)
    conv => whnf
    refine Ask.o h fun p8 h => ?_
    conv => whnf
    refine Ask.o h fun p9 h => ?_
    conv => whnf
    cases h; exact ⟨(by rfl), (by rfl)⟩
  conv => whnf
  refine Ask.o h fun p10 h => ?_
  conv => whnf
  cases h; exact ⟨(by rfl), (by rfl)⟩

noncomputable def F_spec_l24Known (k0 : Int) : Option SPoset :=
 if k0 = (0 : Int) then
 (F_spec_l23From ((1 : Int)) (nilL (Int × Int))).bind fun r2 =>
 some r2
 else
 if k0 = (1 : Int) then
 (F_spec_l23From ((2 : Int)) ([((0 : Int), (1 : Int))])).bind fun r4 =>
 some r4
 else
 if k0 = (2 : Int) then
 (F_spec_l23From ((4 : Int)) ([((0 : Int), (1 : Int)), ((1 : Int), (2 : Int)), ((2 : Int), (3 : Int))])).bind fun r6 =>
 some r6
 else
 if k0 = (3 : Int) then
 (F_spec_l23From ((4 : Int)) ([((0 : Int), (1 : Int)), ((0 : Int), (2 : Int)), ((1 : Int), (3 : Int)), ((2 : Int), (3 : Int))])).bind fun r8 =>
 some r8
 else
 if k0 = (4 : Int) then
 (F_spec_l23From ((5 : Int)) ([((0 : Int), (1 : Int)), ((0 : Int), (2 : Int)), ((0 : Int), (3 : Int)), ((1 : Int), (4 : Int)), ((2 : Int), (4 : Int)), ((3 : Int), (4 : Int))])).bind fun r10 =>
 some r10
 else
 if k0 = (5 : Int) then
 (F_spec_l23From ((5 : Int)) ([((0 : Int), (1 : Int)), ((1 : Int), (2 : Int)), ((0 : Int), (3 : Int)), ((2 : Int), (4 : Int)), ((3 : Int), (4 : Int))])).bind fun r12 =>
 some r12
 else
 if k0 = (6 : Int) then
 (F_spec_l23From ((8 : Int)) ([((0 : Int), (1 : Int)), ((0 : Int), (2 : Int)), ((0 : Int), (3 : Int)), ((1 : Int), (4 : Int)), ((1 : Int), (5 : Int)), ((2 : Int), (4 : Int)), ((2 : Int), (6 : Int)), ((3 : Int), (5 : Int)), ((3 : Int), (6 : Int)), ((4 : Int), (7 : Int)), ((5 : Int), (7 : Int)), ((6 : Int), (7 : Int))])).bind fun r14 =>
 some r14
 else
 if k0 = (7 : Int) then
 (F_spec_l23From ((6 : Int)) ([((0 : Int), (1 : Int)), ((0 : Int), (2 : Int)), ((1 : Int), (3 : Int)), ((2 : Int), (3 : Int)), ((2 : Int), (4 : Int)), ((3 : Int), (5 : Int)), ((4 : Int), (5 : Int))])).bind fun r16 =>
 some r16
 else
 if k0 = (8 : Int) then
 (F_spec_l23From ((6 : Int)) ([((0 : Int), (1 : Int)), ((0 : Int), (2 : Int)), ((1 : Int), (3 : Int)), ((2 : Int), (4 : Int)), ((3 : Int), (5 : Int)), ((4 : Int), (5 : Int))])).bind fun r18 =>
 some r18
 else
 if k0 = (9 : Int) then
 (F_spec_l23From ((7 : Int)) ([((0 : Int), (1 : Int)), ((0 : Int), (2 : Int)), ((0 : Int), (3 : Int)), ((1 : Int), (4 : Int)), ((2 : Int), (4 : Int)), ((3 : Int), (5 : Int)), ((2 : Int), (5 : Int)), ((4 : Int), (6 : Int)), ((5 : Int), (6 : Int))])).bind fun r20 =>
 some r20
 else
 if k0 = (10 : Int) then
 (F_spec_l23From ((3 : Int)) ([((0 : Int), (1 : Int)), ((1 : Int), (2 : Int))])).bind fun r22 =>
 (F_spec_l23From ((3 : Int)) ([((0 : Int), (1 : Int)), ((1 : Int), (2 : Int))])).bind fun r23 =>
 (F_spec_l24Product (r22) (r23)).bind fun r24 =>
 some r24
 else
 (F_spec_l23From ((3 : Int)) ([((0 : Int), (1 : Int)), ((1 : Int), (2 : Int))])).bind fun r25 =>
 some r25
theorem t_spec_l24Known {k0 : Int} {v : SPoset} (h : F_spec_l24Known k0 = some v) : Ret Try.prog f_spec_l24Known [vint k0] ((rS_Poset true) v) := by
  refine ret_vc k_spec_l24Known (Nat.le_of_ble_eq_true rfl) ?_
  unfold F_spec_l24Known at h
  conv => whnf
  refine Br.oe h (fun p1 h => ?_) (fun p1 h => ?_)
  · conv => whnf
    refine BslQ.o (rA2 vint) (nilL (Int × Int)) (by exact fun _ => ⟨rfl, rfl⟩) (by rfl) ?_
    conv => whnf
    refine CallQ.rd (rS_Poset true) (by rfl) (fun _ => by simp [V.noFz, noFzL, noFzL_map]) h (fun r h => t_spec_l23From h) (fun r2 h => ?_)
    conv => whnf
    refine SetKids.lit rfl ?_
    conv => whnf
    cases h; exact (by rfl)
  conv => whnf
  refine Br.oe h (fun p3 h => ?_) (fun p3 h => ?_)
  · conv => whnf
    refine BslQ.o (rA2 vint) ([((0 : Int), (1 : Int))]) (by exact fun _ => ⟨rfl, rfl⟩) (by rfl) ?_
    conv => whnf
    refine CallQ.rd (rS_Poset true) (by rfl) (fun _ => by simp [V.noFz, noFzL, noFzL_map]) h (fun r h => t_spec_l23From h) (fun r4 h => ?_)
    conv => whnf
    refine SetKids.lit rfl ?_
    conv => whnf
    cases h; exact (by rfl)
  conv => whnf
  refine Br.oe h (fun p5 h => ?_) (fun p5 h => ?_)
  · conv => whnf
    refine BslQ.o (rA2 vint) ([((0 : Int), (1 : Int)), ((1 : Int), (2 : Int)), ((2 : Int), (3 : Int))]) (by exact fun _ => ⟨rfl, rfl⟩) (by rfl) ?_
    conv => whnf
    refine CallQ.rd (rS_Poset true) (by rfl) (fun _ => by simp [V.noFz, noFzL, noFzL_map]) h (fun r h => t_spec_l23From h) (fun r6 h => ?_)
    conv => whnf
    refine SetKids.lit rfl ?_
    conv => whnf
    cases h; exact (by rfl)
  conv => whnf
  refine Br.oe h (fun p7 h => ?_) (fun p7 h => ?_)
  · conv => whnf
    refine BslQ.o (rA2 vint) ([((0 : Int), (1 : Int)), ((0 : Int), (2 : Int)), ((1 : Int), (3 : Int)), ((2 : Int), (3 : Int))]) (by exact fun _ => ⟨rfl, rfl⟩) (by rfl) ?_
    conv => whnf
    refine CallQ.rd (rS_Poset true) (by rfl) (fun _ => by simp [V.noFz, noFzL, noFzL_map]) h (fun r h => t_spec_l23From h) (fun r8 h => ?_)
    conv => whnf
    refine SetKids.lit rfl ?_
    conv => whnf
    cases h; exact (by rfl)
  conv => whnf
  refine Br.oe h (fun p9 h => ?_) (fun p9 h => ?_)
  · conv => whnf
    refine BslQ.o (rA2 vint) ([((0 : Int), (1 : Int)), ((0 : Int), (2 : Int)), ((0 : Int), (3 : Int)), ((1 : Int), (4 : Int)), ((2 : Int), (4 : Int)), ((3 : Int), (4 : Int))]) (by exact fun _ => ⟨rfl, rfl⟩) (by rfl) ?_
    conv => whnf
    refine CallQ.rd (rS_Poset true) (by rfl) (fun _ => by simp [V.noFz, noFzL, noFzL_map]) h (fun r h => t_spec_l23From h) (fun r10 h => ?_)
    conv => whnf
    refine SetKids.lit rfl ?_
    conv => whnf
    cases h; exact (by rfl)
  conv => whnf
  refine Br.oe h (fun p11 h => ?_) (fun p11 h => ?_)
  · conv => whnf
    refine BslQ.o (rA2 vint) ([((0 : Int), (1 : Int)), ((1 : Int), (2 : Int)), ((0 : Int), (3 : Int)), ((2 : Int), (4 : Int)), ((3 : Int), (4 : Int))]) (by exact fun _ => ⟨rfl, rfl⟩) (by rfl) ?_
    conv => whnf
    refine CallQ.rd (rS_Poset true) (by rfl) (fun _ => by simp [V.noFz, noFzL, noFzL_map]) h (fun r h => t_spec_l23From h) (fun r12 h => ?_)
    conv => whnf
    refine SetKids.lit rfl ?_
    conv => whnf
    cases h; exact (by rfl)
  conv => whnf
  refine Br.oe h (fun p13 h => ?_) (fun p13 h => ?_)
  · conv => whnf
    refine BslQ.o (rA2 vint) ([((0 : Int), (1 : Int)), ((0 : Int), (2 : Int)), ((0 : Int), (3 : Int)), ((1 : Int), (4 : Int)), ((1 : Int), (5 : Int)), ((2 : Int), (4 : Int)), ((2 : Int), (6 : Int)), ((3 : Int), (5 : Int)), ((3 : Int), (6 : Int)), ((4 : Int), (7 : Int)), ((5 : Int), (7 : Int)), ((6 : Int), (7 : Int))]) (by exact fun _ => ⟨rfl, rfl⟩) (by rfl) ?_
    conv => whnf
    refine CallQ.rd (rS_Poset true) (by rfl) (fun _ => by simp [V.noFz, noFzL, noFzL_map]) h (fun r h => t_spec_l23From h) (fun r14 h => ?_)
    conv => whnf
    refine SetKids.lit rfl ?_
    conv => whnf
    cases h; exact (by rfl)
  conv => whnf
  refine Br.oe h (fun p15 h => ?_) (fun p15 h => ?_)
  · conv => whnf
    refine BslQ.o (rA2 vint) ([((0 : Int), (1 : Int)), ((0 : Int), (2 : Int)), ((1 : Int), (3 : Int)), ((2 : Int), (3 : Int)), ((2 : Int), (4 : Int)), ((3 : Int), (5 : Int)), ((4 : Int), (5 : Int))]) (by exact fun _ => ⟨rfl, rfl⟩) (by rfl) ?_
    conv => whnf
    refine CallQ.rd (rS_Poset true) (by rfl) (fun _ => by simp [V.noFz, noFzL, noFzL_map]) h (fun r h => t_spec_l23From h) (fun r16 h => ?_)
    conv => whnf
    refine SetKids.lit rfl ?_
    conv => whnf
    cases h; exact (by rfl)
  conv => whnf
  refine Br.oe h (fun p17 h => ?_) (fun p17 h => ?_)
  · conv => whnf
    refine BslQ.o (rA2 vint) ([((0 : Int), (1 : Int)), ((0 : Int), (2 : Int)), ((1 : Int), (3 : Int)), ((2 : Int), (4 : Int)), ((3 : Int), (5 : Int)), ((4 : Int), (5 : Int))]) (by exact fun _ => ⟨rfl, rfl⟩) (by rfl) ?_
    conv => whnf
    refine CallQ.rd (rS_Poset true) (by rfl) (fun _ => by simp [V.noFz, noFzL, noFzL_map]) h (fun r h => t_spec_l23From h) (fun r18 h => ?_)
    conv => whnf
    refine SetKids.lit rfl ?_
    conv => whnf
    cases h; exact (by rfl)
  conv => whnf
  refine Br.oe h (fun p19 h => ?_) (fun p19 h => ?_)
  · conv => whnf
    refine BslQ.o (rA2 vint) ([((0 : Int), (1 : Int)), ((0 : Int), (2 : Int)), ((0 : Int), (3 : Int)), ((1 : Int), (4 : Int)), ((2 : Int), (4 : Int)), ((3 : Int), (5 : Int)), ((2 : Int), (5 : Int)), ((4 : Int), (6 : Int)), ((5 : Int), (6 : Int))]) (by exact fun _ => ⟨rfl, rfl⟩) (by rfl) ?_
    conv => whnf
    refine CallQ.rd (rS_Poset true) (by rfl) (fun _ => by simp [V.noFz, noFzL, noFzL_map]) h (fun r h => t_spec_l23From h) (fun r20 h => ?_)
    conv => whnf
    refine SetKids.lit rfl ?_
    conv => whnf
    cases h; exact (by rfl)
  conv => whnf
  refine Br.oe h (fun p21 h => ?_) (fun p21 h => ?_)
  · conv => whnf
    refine BslQ.o (rA2 vint) ([((0 : Int), (1 : Int)), ((1 : Int), (2 : Int))]) (by exact fun _ => ⟨rfl, rfl⟩) (by rfl) ?_
    conv => whnf
    refine CallQ.rd (rS_Poset true) (by rfl) (fun _ => by simp [V.noFz, noFzL, noFzL_map]) h (fun r h => t_spec_l23From h) (fun r22 h => ?_)
    conv => whnf
    refine BslQ.o (rA2 vint) ([((0 : Int), (1 : Int)), ((1 : Int), (2 : Int))]) (by exact fun _ => ⟨rfl, rfl⟩) (by rfl) ?_
    conv => whnf
    refine CallQ.rd (rS_Poset true) (by rfl) (fun _ => by simp [V.noFz, noFzL, noFzL_map]) h (fun r h => t_spec_l23From h) (fun r23 h => ?_)
    conv => whnf
    refine CallQ.rd (rS_Poset true) (by first | rfl | simp only [V.fz, fzL, fzL_map] | simp [mulN_one, V.fz, fzL, V.up, upL, fzL_map, fz_slr, fz_at, slr]) (fun _ => by simp [V.noFz, noFzL, noFzL_map]) h (fun r h => t_spec_l24Product h) (fun r24 h => ?_)
    conv => whnf
    refine SetKids.lit rfl ?_
    conv => whnf
    cases h; exact (by rfl)
  conv => whnf
  refine BslQ.o (rA2 vint) ([((0 : Int), (1 : Int)), ((1 : Int), (2 : Int))]) (by exact fun _ => ⟨rfl, rfl⟩) (by rfl) ?_
  conv => whnf
  refine CallQ.rd (rS_Poset true) (by rfl) (fun _ => by simp [V.noFz, noFzL, noFzL_map]) h (fun r h => t_spec_l23From h) (fun r25 h => ?_)
  conv => whnf
  refine SetKids.lit rfl ?_
  conv => whnf
  cases h; exact (by rfl)

noncomputable def F_impl_orderOf_l1 (p0 : SPoset) (x20 : Int) : (Int × (List (List Bool))) → Option ((Int × (List (List Bool))) ⊕ (List (List Bool))) := fun (x36, x5') =>
 if x36 < (↑(nth p0.Below x20.toNat).length : Int) then
 ask ((0 : Int) ≤ x36 ∧ x36 < (↑(nth p0.Below x20.toNat).length : Int)) <|
 ask ((0 : Int) ≤ nth (nth p0.Below x20.toNat) x36.toNat ∧ nth (nth p0.Below x20.toNat) x36.toNat < (↑x5'.length : Int)) <|
 ask ((0 : Int) ≤ x20 ∧ x20 < (↑(nth x5' (nth (nth p0.Below x20.toNat) x36.toNat).toNat).length : Int)) <|
 ask (InI (x36 + (1 : Int))) <|
 some (.inl (x36 + (1 : Int), x5'.set (nth (nth p0.Below x20.toNat) x36.toNat).toNat ((nth x5' (nth (nth p0.Below x20.toNat) x36.toNat).toNat).set x20.toNat true)))
 else
 some (.inr x5')
def S_impl_orderOf_l1 (p0 : SPoset) (x20 : Int) : (Int × (List (List Bool))) → St := fun s => [(36, A.val (vint s.1)), (35, A.val (vint ((↑(nth p0.Below x20.toNat).length : Int)))), (34, A.val ((slr false 1 vint) (nth p0.Below x20.toNat))), (6, A.val (vint (x20))), (20, A.val (vint (x20))), (19, A.val (vint ((↑p0.Below.length : Int)))), (18, A.val ((slr false 1 (slr false 1 vint)) (p0.Below))), (5, A.val ((slr true 1 (slr true 1 V.bool)) s.2)), (4, A.val (vint ((↑p0.Below.length : Int))))]
def T_impl_orderOf_l1 (p0 : SPoset) (x20 : Int) : (List (List Bool)) → Tgt
 | s => ((Ex.exit 2), [20, 19, 18, 5, 4], [(20, A.val (vint (x20))), (19, A.val (vint ((↑p0.Below.length : Int)))), (18, A.val ((slr false 1 (slr false 1 vint)) (p0.Below))), (5, A.val ((slr true 1 (slr true 1 V.bool)) s)), (4, A.val (vint ((↑p0.Below.length : Int))))])
theorem b_impl_orderOf_l1 {p0 : SPoset} {x20 : Int} (s : (Int × (List (List Bool)))) (o : (Int × (List (List Bool))) ⊕ (List (List Bool))) (h : F_impl_orderOf_l1 p0 x20 s = some o) : vc Try.prog c_impl_orderOf_l1 (outQ [36, 35, 34, 6, 20, 19, 18, 5, 4] (S_impl_orderOf_l1 p0 x20) (T_impl_orderOf_l1 p0 x20) o) (S_impl_orderOf_l1 p0 x20 s) := by
  obtain ⟨x36, x5'⟩ := s
  unfold F_impl_orderOf_l1 at h
  try dsimp only at h
  conv => whnf
  refine Br.od h (fun p10 h => ?_) (fun p10 h => ?_)
  · conv => whnf
    refine Len.map ?_
    conv => whnf
    refine Ask.o h fun p11 h => ?_
    conv => whnf
    refine Elem.o (by first | omega | (simp [mulN] at *; omega)) ?_
    conv => whnf
    refine Len.map ?_
    conv => whnf
    refine Ask.o h fun p12 h => ?_
    conv => whnf
    refine Cells.one (fun _ => ⟨rfl, rfl⟩) (by first | omega | (simp [mulN] at *; omega)) ?_
    conv => whnf
    refine Kid.one (fun _ => ⟨rfl, rfl⟩) (by first | omega | (simp [mulN] at *; omega)) ?_
    conv => whnf
    refine Len.map ?_
    conv => whnf
    refine Ask.o h fun p13 h => ?_
    conv => whnf
    refine Kid.one (fun _ => ⟨rfl, rfl⟩) (by first | omega | (simp [mulN] at *; omega)) ?_
    conv => whnf
    refine SetKids.one (fun _ => ⟨rfl, rfl⟩) (true) (by rfl) (by first | omega | (simp [mulN] at *; omega)) ?_
    conv => whnf
    refine Kid.one (fun _ => ⟨rfl, rfl⟩) (by first | omega | (simp [mulN] at *; omega)) ?_
    conv => whnf
    refine SetKids.one (fun _ => ⟨rfl, rfl⟩) ((nth x5' (nth (nth p0.Below x20.toNat) x36.toNat).toNat).set x20.toNat true) (by rfl) (by first | omega | (simp [mulN] at *; omega)) ?_
    conv => whnf
    refine Ask.o h fun p14 h => ?_
    conv => whnf
    cases h; exact ⟨rfl, rfl⟩
  conv => whnf
  cases h; exact ⟨rfl, rfl⟩

noncomputable def F_impl_orderOf_l2 (p0 : SPoset) : (Int × (List (List Bool))) → Option ((Int × (List (List Bool))) ⊕ (Unit ⊕ (List (List Bool)))) := fun (x20, x5) =>
 if x20 < (↑p0.Below.length : Int) then
 ask ((0 : Int) ≤ x20 ∧ x20 < (↑p0.Below.length : Int)) <|
 (((F_impl_rises (nth p0.Below x20.toNat)).bind fun r5 =>
 if (r5) = true then
 (F_impl_inSize (nth p0.Below x20.toNat) ((↑p0.Below.length : Int))).bind fun r7 =>
 if (r7) = true then
 some (.inl ())
 else
 some (.inr ())
 else
 some (.inr ()) : Option (Unit ⊕ Unit))).bind fun t => match t with
 | (.inl _) => ((loopO (F_impl_orderOf_l1 p0 x20) ((0 : Int), x5)).bind fun q15_5 =>
 ask (InI (x20 + (1 : Int))) <|
 some (.inl (x20 + (1 : Int), q15_5)))
 | (.inr _) => (some (.inr (.inl ())))
 else
 some (.inr (.inr x5))
def S_impl_orderOf_l2 (p0 : SPoset) : (Int × (List (List Bool))) → St := fun s => [(20, A.val (vint s.1)), (19, A.val (vint ((↑p0.Below.length : Int)))), (18, A.val ((slr false 1 (slr false 1 vint)) (p0.Below))), (5, A.val ((slr true 1 (slr true 1 V.bool)) s.2)), (4, A.val (vint ((↑p0.Below.length : Int))))]
def T_impl_orderOf_l2 (_p0 : SPoset) : (Unit ⊕ (List (List Bool))) → Tgt
 | (.inl _s) => (Ex.ret, [3, 2], [(3, A.val (V.bool (false))), (2, A.val ((slr true 1 (slr true 1 V.bool)) (nilL (List Bool))))])
 | (.inr s) => ((Ex.exit 0), [5], [(5, A.val ((slr true 1 (slr true 1 V.bool)) s))])
theorem b_impl_orderOf_l2 {p0 : SPoset} (s : (Int × (List (List Bool)))) (o : (Int × (List (List Bool))) ⊕ (Unit ⊕ (List (List Bool)))) (h : F_impl_orderOf_l2 p0 s = some o) : vc Try.prog c_impl_orderOf_l2 (outQ [20, 19, 18, 5, 4] (S_impl_orderOf_l2 p0) (T_impl_orderOf_l2 p0) o) (S_impl_orderOf_l2 p0 s) := by
  obtain ⟨x20, x5⟩ := s
  unfold F_impl_orderOf_l2 at h
  try dsimp only at h
  conv => whnf
  refine Br.od h (fun p3 h => ?_) (fun p3 h => ?_)
  · conv => whnf
    refine Len.map ?_
    conv => whnf
    refine Ask.o h fun p4 h => ?_
    conv => whnf
    refine Elem.o (by first | omega | (simp [mulN] at *; omega)) ?_
    conv => whnf
    refine CutQ.o (fun t : (Unit ⊕ Unit) => match t with | (.inl s) => (Ex.normal, [7, 6, 20, 19, 18, 5, 4], [(7, A.val ((slr false 1 vint) (nth p0.Below x20.toNat))), (6, A.val (vint (x20))), (20, A.val (vint (x20))), (19, A.val (vint ((↑p0.Below.length : Int)))), (18, A.val ((slr false 1 (slr false 1 vint)) (p0.Below))), (5, A.val ((slr true 1 (slr true 1 V.bool)) (x5))), (4, A.val (vint ((↑p0.Below.length : Int))))]) | (.inr s) => (Ex.ret, [3, 2], [(3, A.val (V.bool (false))), (2, A.val ((slr true 1 (slr true 1 V.bool)) (nilL (List Bool))))])) h ?_ ?_
    · intro t h
      conv => whnf
      refine CallQ.o V.bool (by rfl) h (fun r h => t_impl_rises h) (fun r5 h => ?_)
      conv => whnf
      refine Br.flip ?_
      conv => whnf
      refine Br.ob h (fun p6 h => ?_) (fun p6 h => ?_)
      · conv => whnf
        refine Br.no ?_
        conv => whnf
        refine Br.no ?_
        conv => whnf
        refine CallQ.o V.bool (by rfl) h (fun r h => t_impl_inSize h) (fun r7 h => ?_)
        conv => whnf
        refine Br.no ?_
        conv => whnf
        refine Br.no ?_
        conv => whnf
        refine Br.flip ?_
        conv => whnf
        refine Br.ob h (fun p8 h => ?_) (fun p8 h => ?_)
        · conv => whnf
          cases h; exact ⟨rfl, rfl⟩
        conv => whnf
        cases h; exact ⟨rfl, rfl⟩
      conv => whnf
      refine Br.yes ?_
      conv => whnf
      refine Br.yes ?_
      conv => whnf
      refine Br.yes ?_
      conv => whnf
      refine Br.yes ?_
      conv => whnf
      refine Br.yes ?_
      conv => whnf
      cases h; exact ⟨rfl, rfl⟩
    rintro (⟨⟩ | ⟨⟩) h
    · try dsimp only at h
      conv => whnf
      refine Len.map ?_
      conv => whnf
      refine LoopQ.o [36, 35, 34, 6, 20, 19, 18, 5, 4] (S_impl_orderOf_l1 p0 x20) (T_impl_orderOf_l1 p0 x20) h (fun s o h => b_impl_orderOf_l1 s o h) (by first | rfl | simp [restrict, look, mulN_one, V.fz, fzL, V.up, upL, fzL_map, fz_slr, fz_at, slr]) (fun _ => rfl) ?_
      rintro q15_5 h
      try dsimp only at h
      conv => whnf
      refine Ask.o h fun p16 h => ?_
      conv => whnf
      cases h; exact ⟨rfl, rfl⟩
    try dsimp only at h
    conv => whnf
    cases h; exact ⟨rfl, rfl⟩
  conv => whnf
  cases h; exact ⟨rfl, rfl⟩

noncomputable def F_impl_orderOf (p0 : SPoset) : Option ((List (List Bool)) × Bool) :=
 if (↑p0.Below.length : Int) > (10 : Int) then
 some (nilL (List Bool), false)
 else
 (F_impl_newOrder ((↑p0.Below.length : Int))).bind fun r2 =>
 (loopO (F_impl_orderOf_l2 p0) ((0 : Int), r2)).bind fun t => match t with
 | (.inl _) => (some (nilL (List Bool), false))
 | (.inr q17_5) => ((F_impl_order_isOrder (q17_5)).bind fun r18 =>
 some (q17_5, r18))
theorem t_impl_orderOf {p0 : SPoset} {v : ((List (List Bool)) × Bool)} (h : F_impl_orderOf p0 = some v) : Ret Try.prog f_impl_orderOf [(rS_Poset false) p0] ((fun r => V.tup [(slr true 1 (slr true 1 V.bool)) r.1, V.bool r.2]) v) := by
  refine ret_vc k_impl_orderOf (Nat.le_of_ble_eq_true rfl) ?_
  unfold F_impl_orderOf at h
  conv => whnf
  refine Cells.lit rfl rfl ?_
  conv => whnf
  refine Len.map ?_
  conv => whnf
  refine Br.od h (fun p1 h => ?_) (fun p1 h => ?_)
  · conv => whnf
    cases h; exact (by rfl)
  conv => whnf
  refine CallQ.o (slr true 1 (slr true 1 V.bool)) (by rfl) h (fun r h => t_impl_newOrder h) (fun r2 h => ?_)
  conv => whnf
  refine Cells.lit rfl rfl ?_
  conv => whnf
  refine Len.map ?_
  conv => whnf
  refine LoopQ.o [20, 19, 18, 5, 4] (S_impl_orderOf_l2 p0) (T_impl_orderOf_l2 p0) h (fun s o h => b_impl_orderOf_l2 s o h) (by first | rfl | simp [restrict, look, mulN_one, V.fz, fzL, V.up, upL, fzL_map, fz_slr, fz_at, slr]) (by rintro (_ | _) <;> rfl) ?_
  rintro (⟨⟩ | q17_5) h
  · try dsimp only at h
    conv => whnf
    cases h; exact (by rfl)
  try dsimp only at h
  conv => whnf
  refine CallQ.rd V.bool (by first | rfl | simp only [V.fz, fzL_map, slr] | simp [mulN_one, V.fz, fzL, V.up, upL, fzL_map, fz_slr, fz_at, slr]) (fun _ => rfl) h (fun r h => t_impl_order_isOrder h) (fun r18 h => ?_)
  conv => whnf
  cases h; exact (by rfl)

noncomputable def F_impl_order_dual_l1 (o0 : List (List Bool)) (x11 : Int) : (Int × (List (List Bool))) → Option ((Int × (List (List Bool))) ⊕ (List (List Bool))) := fun (x16, x3') =>
 if x16 < (↑o0.length : Int) then
 ask ((0 : Int) ≤ x11 ∧ x11 < (↑x3'.length : Int)) <|
 ask ((0 : Int) ≤ x16 ∧ x16 < (↑o0.length : Int)) <|
 ask ((0 : Int) ≤ x11 ∧ x11 < (↑(nth o0 x16.toNat).length : Int)) <|
 ask ((0 : Int) ≤ x16 ∧ x16 < (↑(nth x3' x11.toNat).length : Int)) <|
 ask (InI (x16 + (1 : Int))) <|
 some (.inl (x16 + (1 : Int), x3'.set x11.toNat ((nth x3' x11.toNat).set x16.toNat (nth (nth o0 x16.toNat) x11.toNat))))
 else
 some (.inr x3')
def S_impl_order_dual_l1 (o0 : List (List Bool)) (x11 : Int) : (Int × (List (List Bool))) → St := fun s => [(16, A.val (vint s.1)), (15, A.val (vint ((↑o0.length : Int)))), (4, A.val (vint (x11))), (11, A.val (vint (x11))), (10, A.val (vint ((↑o0.length : Int)))), (3, A.val ((slr true 1 (slr true 1 V.bool)) s.2)), (0, A.val ((slr false 1 (slr false 1 V.bool)) (o0)))]
def T_impl_order_dual_l1 (o0 : List (List Bool)) (x11 : Int) : (List (List Bool)) → Tgt
 | s => ((Ex.exit 2), [11, 10, 3, 0], [(11, A.val (vint (x11))), (10, A.val (vint ((↑o0.length : Int)))), (3, A.val ((slr true 1 (slr true 1 V.bool)) s)), (0, A.val ((slr false 1 (slr false 1 V.bool)) (o0)))])
theorem b_impl_order_dual_l1 {o0 : List (List Bool)} {x11 : Int} (s : (Int × (List (List Bool)))) (o : (Int × (List (List Bool))) ⊕ (List (List Bool))) (h : F_impl_order_dual_l1 o0 x11 s = some o) : vc Try.prog c_impl_order_dual_l1 (outQ [16, 15, 4, 11, 10, 3, 0] (S_impl_order_dual_l1 o0 x11) (T_impl_order_dual_l1 o0 x11) o) (S_impl_order_dual_l1 o0 x11 s) := by
  obtain ⟨x16, x3'⟩ := s
  unfold F_impl_order_dual_l1 at h
  try dsimp only at h
  conv => whnf
  refine Br.od h (fun p3 h => ?_) (fun p3 h => ?_)
  · conv => whnf
    refine Len.map ?_
    conv => whnf
    refine Ask.o h fun p4 h => ?_
    conv => whnf
    refine Cells.one (fun _ => ⟨rfl, rfl⟩) (by first | omega | (simp [mulN] at *; omega)) ?_
    conv => whnf
    refine Len.map ?_
    conv => whnf
    refine Ask.o h fun p5 h => ?_
    conv => whnf
    refine Elem.o (by first | omega | (simp [mulN] at *; omega)) ?_
    conv => whnf
    refine Len.map ?_
    conv => whnf
    refine Ask.o h fun p6 h => ?_
    conv => whnf
    refine Elem.o (by first | omega | (simp [mulN] at *; omega)) ?_
    conv => whnf
    refine Kid.one (fun _ => ⟨rfl, rfl⟩) (by first | omega | (simp [mulN] at *; omega)) ?_
    conv => whnf
    refine Len.map ?_
    conv => whnf
    refine Ask.o h fun p7 h => ?_
    conv => whnf
    refine Kid.one (fun _ => ⟨rfl, rfl⟩) (by first | omega | (simp [mulN] at *; omega)) ?_
    conv => whnf
    refine SetKids.one (fun _ => ⟨rfl, rfl⟩) (nth (nth o0 x16.toNat) x11.toNat) (by rfl) (by first | omega | (simp [mulN] at *; omega)) ?_
    conv => whnf
    refine Kid.one (fun _ => ⟨rfl, rfl⟩) (by first | omega | (simp [mulN] at *; omega)) ?_
    conv => whnf
    refine SetKids.one (fun _ => ⟨rfl, rfl⟩) ((nth x3' x11.toNat).set x16.toNat (nth (nth o0 x16.toNat) x11.toNat)) (by rfl) (by first | omega | (simp [mulN] at *; omega)) ?_
    conv => whnf
    refine Ask.o h fun p8 h => ?_
    conv => whnf
    cases h; exact ⟨rfl, rfl⟩
  conv => whnf
  cases h; exact ⟨rfl, rfl⟩

noncomputable def F_impl_order_dual_l2 (o0 : List (List Bool)) : (Int × (List (List Bool))) → Option ((Int × (List (List Bool))) ⊕ (List (List Bool))) := fun (x11, x3) =>
 if x11 < (↑o0.length : Int) then
 (loopO (F_impl_order_dual_l1 o0 x11) ((0 : Int), x3)).bind fun q9_3 =>
 ask (InI (x11 + (1 : Int))) <|
 some (.inl (x11 + (1 : Int), q9_3))
 else
 some (.inr x3)
def S_impl_order_dual_l2 (o0 : List (List Bool)) : (Int × (List (List Bool))) → St := fun s => [(11, A.val (vint s.1)), (10, A.val (vint ((↑o0.length : Int)))), (3, A.val ((slr true 1 (slr true 1 V.bool)) s.2)), (0, A.val ((slr false 1 (slr false 1 V.bool)) (o0)))]
def T_impl_order_dual_l2 (_o0 : List (List Bool)) : (List (List Bool)) → Tgt
 | s => ((Ex.exit 0), [3], [(3, A.val ((slr true 1 (slr true 1 V.bool)) s))])
theorem b_impl_order_dual_l2 {o0 : List (List Bool)} (s : (Int × (List (List Bool)))) (o : (Int × (List (List Bool))) ⊕ (List (List Bool))) (h : F_impl_order_dual_l2 o0 s = some o) : vc Try.prog c_impl_order_dual_l2 (outQ [11, 10, 3, 0] (S_impl_order_dual_l2 o0) (T_impl_order_dual_l2 o0) o) (S_impl_order_dual_l2 o0 s) := by
  obtain ⟨x11, x3⟩ := s
  unfold F_impl_order_dual_l2 at h
  try dsimp only at h
  conv => whnf
  refine Br.od h (fun p2 h => ?_) (fun p2 h => ?_)
  · conv => whnf
    refine Len.map ?_
    conv => whnf
    refine LoopQ.o [16, 15, 4, 11, 10, 3, 0] (S_impl_order_dual_l1 o0 x11) (T_impl_order_dual_l1 o0 x11) h (fun s o h => b_impl_order_dual_l1 s o h) (by first | rfl | simp [restrict, look, mulN_one, V.fz, fzL, V.up, upL, fzL_map, fz_slr, fz_at, slr]) (fun _ => rfl) ?_
    rintro q9_3 h
    try dsimp only at h
    conv => whnf
    refine Ask.o h fun p10 h => ?_
    conv => whnf
    cases h; exact ⟨rfl, rfl⟩
  conv => whnf
  cases h; exact ⟨rfl, rfl⟩

noncomputable def F_impl_order_dual (o0 : (List (List Bool))) : Option (List (List Bool)) :=
 (F_impl_newOrder ((↑o0.length : Int))).bind fun r1 =>
 (loopO (F_impl_order_dual_l2 o0) ((0 : Int), r1)).bind fun q11_3 =>
 some q11_3
theorem t_impl_order_dual {o0 : (List (List Bool))} {v : (List (List Bool))} (h : F_impl_order_dual o0 = some v) : Ret Try.prog f_impl_order_dual [(slr false 1 (slr false 1 V.bool)) o0] ((slr true 1 (slr true 1 V.bool)) v) := by
  refine ret_vc k_impl_order_dual (Nat.le_of_ble_eq_true rfl) ?_
  unfold F_impl_order_dual at h
  conv => whnf
  refine Len.map ?_
  conv => whnf
  refine CallQ.o (slr true 1 (slr true 1 V.bool)) (by rfl) h (fun r h => t_impl_newOrder h) (fun r1 h => ?_)
  conv => whnf
  refine Len.map ?_
  conv => whnf
  refine LoopQ.o [11, 10, 3, 0] (S_impl_order_dual_l2 o0) (T_impl_order_dual_l2 o0) h (fun s o h => b_impl_order_dual_l2 s o h) (by first | rfl | simp [restrict, look, mulN_one, V.fz, fzL, V.up, upL, fzL_map, fz_slr, fz_at, slr]) (fun _ => rfl) ?_
  rintro q11_3 h
  try dsimp only at h
  conv => whnf
  cases h; exact (by rfl)

end Go.Proofs.Ytoikbcagaanhgaa.Ax
