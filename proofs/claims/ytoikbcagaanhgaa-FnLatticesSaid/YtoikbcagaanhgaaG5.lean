/-
  What the functions compute, as functions on plain data, and that the program does compute it; written by program.
-/
import Derived.Test.YtoikbcagaanhgaaCode
import Derived.Test.YtoikbcagaanhgaaG1
import Derived.Test.YtoikbcagaanhgaaG2
import Derived.Test.YtoikbcagaanhgaaG3
namespace Go.Proofs.Ytoikbcagaanhgaa.Ax
open Go
set_option maxRecDepth 100000
set_option maxHeartbeats 4000000

noncomputable def F_laws_rTable_l1 (a0 : List (List Int)) (b0 : List (List Int)) : Int → Option (Int ⊕ (Unit ⊕ Unit)) := fun x5 =>
 if x5 < (↑a0.length : Int) then
 ask ((0 : Int) ≤ x5 ∧ x5 < (↑a0.length : Int)) <|
 ask ((0 : Int) ≤ x5 ∧ x5 < (↑b0.length : Int)) <|
 (F_laws_rInts (nth a0 x5.toNat) (nth b0 x5.toNat)).bind fun r5 =>
 if (r5) = true then
 ask (InI (x5 + (1 : Int))) <|
 some (.inl (x5 + (1 : Int)))
 else
 some (.inr (.inl ()))
 else
 some (.inr (.inr ()))
def S_laws_rTable_l1 (a0 : List (List Int)) (b0 : List (List Int)) : Int → St := fun s => [(5, A.val (vint s)), (0, A.val ((slr false 1 (slr false 1 vint)) (a0))), (1, A.val ((slr false 1 (slr false 1 vint)) (b0)))]
def T_laws_rTable_l1 (_a0 : List (List Int)) (_b0 : List (List Int)) : (Unit ⊕ Unit) → Tgt
 | (.inl _s) => (Ex.ret, [4], [(4, A.val (V.bool (false)))])
 | (.inr _s) => ((Ex.exit 0), [], [])
theorem b_laws_rTable_l1 {a0 : List (List Int)} {b0 : List (List Int)} (x5 : Int) (o : Int ⊕ (Unit ⊕ Unit)) (h : F_laws_rTable_l1 a0 b0 x5 = some o) : vc Try.prog c_laws_rTable_l1 (outQ [5, 0, 1] (S_laws_rTable_l1 a0 b0) (T_laws_rTable_l1 a0 b0) o) (S_laws_rTable_l1 a0 b0 x5) := by
  unfold F_laws_rTable_l1 at h
  try dsimp only at h
  refine Len.map ?_
  refine Br.od h (fun p2 h => ?_) (fun p2 h => ?_)
  · refine Len.map ?_
    refine Ask.o h fun p3 h => ?_
    refine Elem.o (by first | omega | (simp [mulN] at *; omega)) ?_
    refine Len.map ?_
    refine Ask.o h fun p4 h => ?_
    refine Elem.o (by first | omega | (simp [mulN] at *; omega)) ?_
    refine CallQ.o V.bool (by rfl) h (fun r h => t_laws_rInts h) (fun r5 h => ?_)
    refine Br.flip ?_
    refine Br.ob h (fun p6 h => ?_) (fun p6 h => ?_)
    · refine Ask.o h fun p7 h => ?_
      cases h; exact ⟨rfl, rfl⟩
    cases h; exact ⟨rfl, rfl⟩
  cases h; exact ⟨rfl, rfl⟩

noncomputable def F_laws_rTable (a0 : (List (List Int))) (b0 : (List (List Int))) : Option Bool :=
 if (↑a0.length : Int) ≠ (↑b0.length : Int) then
 some false
 else
 (loopO (F_laws_rTable_l1 a0 b0) (0 : Int)).bind fun t => match t with
 | (.inl _) => (some false)
 | (.inr _) => (some true)
theorem t_laws_rTable {a0 : (List (List Int))} {b0 : (List (List Int))} {v : Bool} (h : F_laws_rTable a0 b0 = some v) : Ret Try.prog f_laws_rTable [(slr false 1 (slr false 1 vint)) a0, (slr false 1 (slr false 1 vint)) b0] (V.bool v) := by
  refine ret_vc k_laws_rTable (Nat.le_of_ble_eq_true rfl) ?_
  unfold F_laws_rTable at h
  refine Len.map ?_
  refine Len.map ?_
  refine Br.on h (fun p1 h => ?_) (fun p1 h => ?_)
  · cases h; exact (by rfl)
  refine LoopQ.o [5, 0, 1] (S_laws_rTable_l1 a0 b0) (T_laws_rTable_l1 a0 b0) h (fun s o h => b_laws_rTable_l1 s o h) (by first | rfl | simp [restrict, look, mulN_one, V.fz, fzL, V.up, upL, fzL_map, fz_slr, fz_at, slr]) (by rintro (_ | _) <;> rfl) ?_
  rintro (⟨⟩ | ⟨⟩) h
  · try dsimp only at h
    cases h; exact (by rfl)
  try dsimp only at h
  cases h; exact (by rfl)

noncomputable def F_spec_l1Cur_pick (c0 : Sl1Cur) (n0 : Int) : Option (Int × Sl1Cur) :=
 if n0 ≤ (1 : Int) then
 some ((0 : Int), c0)
 else
 (F_spec_l1Cur_next (c0)).bind fun (r2, u3) =>
 if n0 > (200 : Int) then
 ask (InI (r2 * (256 : Int))) <|
 (F_spec_l1Cur_next (u3)).bind fun (r6, u7) =>
 ask (InI (r2 * (256 : Int) + r6)) <|
 ask (n0 ≠ (0 : Int)) <|
 some ((r2 * (256 : Int) + r6).tmod n0, u7)
 else
 ask (n0 ≠ (0 : Int)) <|
 some (r2.tmod n0, u3)
theorem t_spec_l1Cur_pick {c0 : Sl1Cur} {n0 : Int} {v : (Int × Sl1Cur)} (h : F_spec_l1Cur_pick c0 n0 = some v) : RetO Try.prog f_spec_l1Cur_pick [(rP true (rS_l1Cur false)) c0, vint n0] (vint v.1) 0 ((rP true (rS_l1Cur false)) v.2) := by
  refine reto_vc k_spec_l1Cur_pick (Nat.le_of_ble_eq_true rfl) ?_
  unfold F_spec_l1Cur_pick at h
  refine Br.od h (fun p1 h => ?_) (fun p1 h => ?_)
  · cases h; exact ⟨(by rfl), (by rfl)⟩
  refine CallQ.io vint (rP true (rS_l1Cur false)) (by rfl) rfl (fun _ => rfl) (fun _ => ⟨rfl, rfl⟩) rfl h (fun r h => t_spec_l1Cur_next h) (fun r2 u3 h => ?_)
  refine Br.od h (fun p4 h => ?_) (fun p4 h => ?_)
  · refine Ask.o h fun p5 h => ?_
    refine CallQ.io vint (rP true (rS_l1Cur false)) (by rfl) rfl (fun _ => rfl) (fun _ => ⟨rfl, rfl⟩) rfl h (fun r h => t_spec_l1Cur_next h) (fun r6 u7 h => ?_)
    refine Ask.o h fun p8 h => ?_
    refine Ask.o h fun p9 h => ?_
    cases h; exact ⟨(by rfl), (by rfl)⟩
  refine Ask.o h fun p10 h => ?_
  cases h; exact ⟨(by rfl), (by rfl)⟩

noncomputable def F_impl_isOp (f0 : SOp) (n0 : Int) : Option Bool :=
 if f0.Arity ≥ (0 : Int) then
 if f0.Arity ≤ (3 : Int) then
 (F_impl_power (n0) (f0.Arity)).bind fun r3 =>
 if (↑f0.Table.length : Int) = r3 then
 (F_impl_inSize (f0.Table) (n0)).bind fun r5 =>
 some r5
 else
 some false
 else
 some false
 else
 some false
theorem t_impl_isOp {f0 : SOp} {n0 : Int} {v : Bool} (h : F_impl_isOp f0 n0 = some v) : Ret Try.prog f_impl_isOp [(rS_Op false) f0, vint n0] (V.bool v) := by
  refine ret_vc k_impl_isOp (Nat.le_of_ble_eq_true rfl) ?_
  unfold F_impl_isOp at h
  refine Cells.lit rfl rfl ?_
  refine Br.od h (fun p1 h => ?_) (fun p1 h => ?_)
  · refine Br.yes ?_
    refine Cells.lit rfl rfl ?_
    refine Br.yes ?_
    refine Br.yes ?_
    refine Br.od h (fun p2 h => ?_) (fun p2 h => ?_)
    · refine Br.yes ?_
      refine Cells.lit rfl rfl ?_
      refine Br.yes ?_
      refine Len.map ?_
      refine Br.yes ?_
      refine Br.yes ?_
      refine Br.yes ?_
      refine Cells.lit rfl rfl ?_
      refine Br.yes ?_
      refine CallP.o vint (by rfl) h (fun r h => t_impl_power h) (fun r3 h => ?_)
      refine Br.yes ?_
      refine Br.yes ?_
      refine Br.oe h (fun p4 h => ?_) (fun p4 h => ?_)
      · refine Br.yes ?_
        refine Cells.lit rfl rfl ?_
        refine Br.yes ?_
        refine Br.yes ?_
        refine CallQ.o V.bool (by rfl) h (fun r h => t_impl_inSize h) (fun r5 h => ?_)
        refine Br.yes ?_
        cases h; exact (by rfl)
      refine Br.no ?_
      refine Br.no ?_
      refine Br.no ?_
      refine Br.no ?_
      cases h; exact (by rfl)
    refine Br.no ?_
    refine Br.no ?_
    refine Br.no ?_
    refine Br.no ?_
    refine Br.no ?_
    refine Br.no ?_
    refine Br.no ?_
    refine Br.no ?_
    refine Br.no ?_
    refine Br.no ?_
    refine Br.no ?_
    refine Br.no ?_
    refine Br.no ?_
    cases h; exact (by rfl)
  refine Br.no ?_
  refine Br.no ?_
  refine Br.no ?_
  refine Br.no ?_
  refine Br.no ?_
  refine Br.no ?_
  refine Br.no ?_
  refine Br.no ?_
  refine Br.no ?_
  refine Br.no ?_
  refine Br.no ?_
  refine Br.no ?_
  refine Br.no ?_
  refine Br.no ?_
  refine Br.no ?_
  refine Br.no ?_
  refine Br.no ?_
  cases h; exact (by rfl)

noncomputable def F_spec_l24Known (k0 : Int) : Option SPoset :=
 if k0 = (0 : Int) then
 (F_spec_l23From ((1 : Int)) (nilL (Int × Int))).bind fun r2 =>
 some r2
 else
 if k0 = (1 : Int) then
 (F_spec_l23From ((2 : Int)) ([((0 : Int), (1 : Int))])).bind fun r4 =>
 some r4
 else
 if k0 = (2 : Int) then
 (F_spec_l23From ((4 : Int)) ([((0 : Int), (1 : Int)), ((1 : Int), (2 : Int)), ((2 : Int), (3 : Int))])).bind fun r6 =>
 some r6
 else
 if k0 = (3 : Int) then
 (F_spec_l23From ((4 : Int)) ([((0 : Int), (1 : Int)), ((0 : Int), (2 : Int)), ((1 : Int), (3 : Int)), ((2 : Int), (3 : Int))])).bind fun r8 =>
 some r8
 else
 if k0 = (4 : Int) then
 (F_spec_l23From ((5 : Int)) ([((0 : Int), (1 : Int)), ((0 : Int), (2 : Int)), ((0 : Int), (3 : Int)), ((1 : Int), (4 : Int)), ((2 : Int), (4 : Int)), ((3 : Int), (4 : Int))])).bind fun r10 =>
 some r10
 else
 if k0 = (5 : Int) then
 (F_spec_l23From ((5 : Int)) ([((0 : Int), (1 : Int)), ((1 : Int), (2 : Int)), ((0 : Int), (3 : Int)), ((2 : Int), (4 : Int)), ((3 : Int), (4 : Int))])).bind fun r12 =>
 some r12
 else
 if k0 = (6 : Int) then
 (F_spec_l23From ((8 : Int)) ([((0 : Int), (1 : Int)), ((0 : Int), (2 : Int)), ((0 : Int), (3 : Int)), ((1 : Int), (4 : Int)), ((1 : Int), (5 : Int)), ((2 : Int), (4 : Int)), ((2 : Int), (6 : Int)), ((3 : Int), (5 : Int)), ((3 : Int), (6 : Int)), ((4 : Int), (7 : Int)), ((5 : Int), (7 : Int)), ((6 : Int), (7 : Int))])).bind fun r14 =>
 some r14
 else
 if k0 = (7 : Int) then
 (F_spec_l23From ((6 : Int)) ([((0 : Int), (1 : Int)), ((0 : Int), (2 : Int)), ((1 : Int), (3 : Int)), ((2 : Int), (3 : Int)), ((2 : Int), (4 : Int)), ((3 : Int), (5 : Int)), ((4 : Int), (5 : Int))])).bind fun r16 =>
 some r16
 else
 if k0 = (8 : Int) then
 (F_spec_l23From ((6 : Int)) ([((0 : Int), (1 : Int)), ((0 : Int), (2 : Int)), ((1 : Int), (3 : Int)), ((2 : Int), (4 : Int)), ((3 : Int), (5 : Int)), ((4 : Int), (5 : Int))])).bind fun r18 =>
 some r18
 else
 if k0 = (9 : Int) then
 (F_spec_l23From ((7 : Int)) ([((0 : Int), (1 : Int)), ((0 : Int), (2 : Int)), ((0 : Int), (3 : Int)), ((1 : Int), (4 : Int)), ((2 : Int), (4 : Int)), ((3 : Int), (5 : Int)), ((2 : Int), (5 : Int)), ((4 : Int), (6 : Int)), ((5 : Int), (6 : Int))])).bind fun r20 =>
 some r20
 else
 if k0 = (10 : Int) then
 (F_spec_l23From ((3 : Int)) ([((0 : Int), (1 : Int)), ((1 : Int), (2 : Int))])).bind fun r22 =>
 (F_spec_l23From ((3 : Int)) ([((0 : Int), (1 : Int)), ((1 : Int), (2 : Int))])).bind fun r23 =>
 (F_spec_l24Product (r22) (r23)).bind fun r24 =>
 some r24
 else
 (F_spec_l23From ((3 : Int)) ([((0 : Int), (1 : Int)), ((1 : Int), (2 : Int))])).bind fun r25 =>
 some r25
theorem t_spec_l24Known {k0 : Int} {v : SPoset} (h : F_spec_l24Known k0 = some v) : Ret Try.prog f_spec_l24Known [vint k0] ((rS_Poset true) v) := by
  refine ret_vc k_spec_l24Known (Nat.le_of_ble_eq_true rfl) ?_
  unfold F_spec_l24Known at h
  refine Br.oe h (fun p1 h => ?_) (fun p1 h => ?_)
  · refine BslQ.o (rA2 vint) (nilL (Int × Int)) (by exact fun _ => ⟨rfl, rfl⟩) (by rfl) ?_
    refine CallQ.rd (rS_Poset true) (by rfl) (fun _ => by simp [V.noFz, noFzL, noFzL_map]) h (fun r h => t_spec_l23From h) (fun r2 h => ?_)
    refine SetKids.lit rfl ?_
    cases h; exact (by rfl)
  refine Br.oe h (fun p3 h => ?_) (fun p3 h => ?_)
  · refine BslQ.o (rA2 vint) ([((0 : Int), (1 : Int))]) (by exact fun _ => ⟨rfl, rfl⟩) (by rfl) ?_
    refine CallQ.rd (rS_Poset true) (by rfl) (fun _ => by simp [V.noFz, noFzL, noFzL_map]) h (fun r h => t_spec_l23From h) (fun r4 h => ?_)
    refine SetKids.lit rfl ?_
    cases h; exact (by rfl)
  refine Br.oe h (fun p5 h => ?_) (fun p5 h => ?_)
  · refine BslQ.o (rA2 vint) ([((0 : Int), (1 : Int)), ((1 : Int), (2 : Int)), ((2 : Int), (3 : Int))]) (by exact fun _ => ⟨rfl, rfl⟩) (by rfl) ?_
    refine CallQ.rd (rS_Poset true) (by rfl) (fun _ => by simp [V.noFz, noFzL, noFzL_map]) h (fun r h => t_spec_l23From h) (fun r6 h => ?_)
    refine SetKids.lit rfl ?_
    cases h; exact (by rfl)
  refine Br.oe h (fun p7 h => ?_) (fun p7 h => ?_)
  · refine BslQ.o (rA2 vint) ([((0 : Int), (1 : Int)), ((0 : Int), (2 : Int)), ((1 : Int), (3 : Int)), ((2 : Int), (3 : Int))]) (by exact fun _ => ⟨rfl, rfl⟩) (by rfl) ?_
    refine CallQ.rd (rS_Poset true) (by rfl) (fun _ => by simp [V.noFz, noFzL, noFzL_map]) h (fun r h => t_spec_l23From h) (fun r8 h => ?_)
    refine SetKids.lit rfl ?_
    cases h; exact (by rfl)
  refine Br.oe h (fun p9 h => ?_) (fun p9 h => ?_)
  · refine BslQ.o (rA2 vint) ([((0 : Int), (1 : Int)), ((0 : Int), (2 : Int)), ((0 : Int), (3 : Int)), ((1 : Int), (4 : Int)), ((2 : Int), (4 : Int)), ((3 : Int), (4 : Int))]) (by exact fun _ => ⟨rfl, rfl⟩) (by rfl) ?_
    refine CallQ.rd (rS_Poset true) (by rfl) (fun _ => by simp [V.noFz, noFzL, noFzL_map]) h (fun r h => t_spec_l23From h) (fun r10 h => ?_)
    refine SetKids.lit rfl ?_
    cases h; exact (by rfl)
  refine Br.oe h (fun p11 h => ?_) (fun p11 h => ?_)
  · refine BslQ.o (rA2 vint) ([((0 : Int), (1 : Int)), ((1 : Int), (2 : Int)), ((0 : Int), (3 : Int)), ((2 : Int), (4 : Int)), ((3 : Int), (4 : Int))]) (by exact fun _ => ⟨rfl, rfl⟩) (by rfl) ?_
    refine CallQ.rd (rS_Poset true) (by rfl) (fun _ => by simp [V.noFz, noFzL, noFzL_map]) h (fun r h => t_spec_l23From h) (fun r12 h => ?_)
    refine SetKids.lit rfl ?_
    cases h; exact (by rfl)
  refine Br.oe h (fun p13 h => ?_) (fun p13 h => ?_)
  · refine BslQ.o (rA2 vint) ([((0 : Int), (1 : Int)), ((0 : Int), (2 : Int)), ((0 : Int), (3 : Int)), ((1 : Int), (4 : Int)), ((1 : Int), (5 : Int)), ((2 : Int), (4 : Int)), ((2 : Int), (6 : Int)), ((3 : Int), (5 : Int)), ((3 : Int), (6 : Int)), ((4 : Int), (7 : Int)), ((5 : Int), (7 : Int)), ((6 : Int), (7 : Int))]) (by exact fun _ => ⟨rfl, rfl⟩) (by rfl) ?_
    refine CallQ.rd (rS_Poset true) (by rfl) (fun _ => by simp [V.noFz, noFzL, noFzL_map]) h (fun r h => t_spec_l23From h) (fun r14 h => ?_)
    refine SetKids.lit rfl ?_
    cases h; exact (by rfl)
  refine Br.oe h (fun p15 h => ?_) (fun p15 h => ?_)
  · refine BslQ.o (rA2 vint) ([((0 : Int), (1 : Int)), ((0 : Int), (2 : Int)), ((1 : Int), (3 : Int)), ((2 : Int), (3 : Int)), ((2 : Int), (4 : Int)), ((3 : Int), (5 : Int)), ((4 : Int), (5 : Int))]) (by exact fun _ => ⟨rfl, rfl⟩) (by rfl) ?_
    refine CallQ.rd (rS_Poset true) (by rfl) (fun _ => by simp [V.noFz, noFzL, noFzL_map]) h (fun r h => t_spec_l23From h) (fun r16 h => ?_)
    refine SetKids.lit rfl ?_
    cases h; exact (by rfl)
  refine Br.oe h (fun p17 h => ?_) (fun p17 h => ?_)
  · refine BslQ.o (rA2 vint) ([((0 : Int), (1 : Int)), ((0 : Int), (2 : Int)), ((1 : Int), (3 : Int)), ((2 : Int), (4 : Int)), ((3 : Int), (5 : Int)), ((4 : Int), (5 : Int))]) (by exact fun _ => ⟨rfl, rfl⟩) (by rfl) ?_
    refine CallQ.rd (rS_Poset true) (by rfl) (fun _ => by simp [V.noFz, noFzL, noFzL_map]) h (fun r h => t_spec_l23From h) (fun r18 h => ?_)
    refine SetKids.lit rfl ?_
    cases h; exact (by rfl)
  refine Br.oe h (fun p19 h => ?_) (fun p19 h => ?_)
  · refine BslQ.o (rA2 vint) ([((0 : Int), (1 : Int)), ((0 : Int), (2 : Int)), ((0 : Int), (3 : Int)), ((1 : Int), (4 : Int)), ((2 : Int), (4 : Int)), ((3 : Int), (5 : Int)), ((2 : Int), (5 : Int)), ((4 : Int), (6 : Int)), ((5 : Int), (6 : Int))]) (by exact fun _ => ⟨rfl, rfl⟩) (by rfl) ?_
    refine CallQ.rd (rS_Poset true) (by rfl) (fun _ => by simp [V.noFz, noFzL, noFzL_map]) h (fun r h => t_spec_l23From h) (fun r20 h => ?_)
    refine SetKids.lit rfl ?_
    cases h; exact (by rfl)
  refine Br.oe h (fun p21 h => ?_) (fun p21 h => ?_)
  · refine BslQ.o (rA2 vint) ([((0 : Int), (1 : Int)), ((1 : Int), (2 : Int))]) (by exact fun _ => ⟨rfl, rfl⟩) (by rfl) ?_
    refine CallQ.rd (rS_Poset true) (by rfl) (fun _ => by simp [V.noFz, noFzL, noFzL_map]) h (fun r h => t_spec_l23From h) (fun r22 h => ?_)
    refine BslQ.o (rA2 vint) ([((0 : Int), (1 : Int)), ((1 : Int), (2 : Int))]) (by exact fun _ => ⟨rfl, rfl⟩) (by rfl) ?_
    refine CallQ.rd (rS_Poset true) (by rfl) (fun _ => by simp [V.noFz, noFzL, noFzL_map]) h (fun r h => t_spec_l23From h) (fun r23 h => ?_)
    refine CallQ.rd (rS_Poset true) (by first | rfl | simp only [V.fz, fzL, fzL_map] | simp [mulN_one, V.fz, fzL, V.up, upL, fzL_map, fz_slr, fz_at, slr]) (fun _ => by simp [V.noFz, noFzL, noFzL_map]) h (fun r h => t_spec_l24Product h) (fun r24 h => ?_)
    refine SetKids.lit rfl ?_
    cases h; exact (by rfl)
  refine BslQ.o (rA2 vint) ([((0 : Int), (1 : Int)), ((1 : Int), (2 : Int))]) (by exact fun _ => ⟨rfl, rfl⟩) (by rfl) ?_
  refine CallQ.rd (rS_Poset true) (by rfl) (fun _ => by simp [V.noFz, noFzL, noFzL_map]) h (fun r h => t_spec_l23From h) (fun r25 h => ?_)
  refine SetKids.lit rfl ?_
  cases h; exact (by rfl)

noncomputable def F_impl_lattice_algebra (l0 : Slattice) : Option SAlgebra :=
 (F_impl_flatOp (l0.meets)).bind fun r1 =>
 (F_impl_flatOp (l0.joins)).bind fun r2 =>
 some ({ Size := (↑l0.order.length : Int), Ops := [r1, r2] })
theorem t_impl_lattice_algebra {l0 : Slattice} {v : SAlgebra} (h : F_impl_lattice_algebra l0 = some v) : Ret Try.prog f_impl_lattice_algebra [(rP false (rS_lattice false)) l0] ((rS_Algebra true) v) := by
  refine ret_vc k_impl_lattice_algebra (Nat.le_of_ble_eq_true rfl) ?_
  unfold F_impl_lattice_algebra at h
  refine Len.map ?_
  refine CallP.o (rS_Op true) (by rfl) h (fun r h => t_impl_flatOp h) (fun r1 h => ?_)
  refine CallP.o (rS_Op true) (by rfl) h (fun r h => t_impl_flatOp h) (fun r2 h => ?_)
  refine BslQ.o (rS_Op true) ([r1, r2]) (by exact fun _ => ⟨rfl, rfl⟩) (by rfl) ?_
  refine SetKids.lit rfl ?_
  cases h; exact (by rfl)

noncomputable def F_impl_orderOfMeet_l1 (n0 : Int) (table0 : List Int) (_r1 : List (List Bool)) (x12 : Int) (x5 : List (List Bool)) : (Int × (List (List Bool))) → Option ((Int × (List (List Bool))) ⊕ (List (List Bool))) := fun (x17, x5') =>
 if x17 < (↑x5.length : Int) then
 ask ((0 : Int) ≤ x12 ∧ x12 < (↑x5'.length : Int)) <|
 ask (InI (x12 * n0)) <|
 ask (InI (x12 * n0 + x17)) <|
 ask ((0 : Int) ≤ x12 * n0 + x17 ∧ x12 * n0 + x17 < (↑table0.length : Int)) <|
 ask ((0 : Int) ≤ x17 ∧ x17 < (↑(nth x5' x12.toNat).length : Int)) <|
 ask (InI (x17 + (1 : Int))) <|
 some (.inl (x17 + (1 : Int), x5'.set x12.toNat ((nth x5' x12.toNat).set x17.toNat (nth table0 (x12 * n0 + x17).toNat == x12))))
 else
 some (.inr x5')
def S_impl_orderOfMeet_l1 (n0 : Int) (table0 : List Int) (r1 : List (List Bool)) (x12 : Int) (x5 : List (List Bool)) : (Int × (List (List Bool))) → St := fun s => [(17, A.val (vint s.1)), (16, A.val (vint ((↑x5.length : Int)))), (6, A.val (vint (x12))), (12, A.val (vint (x12))), (11, A.val (vint ((↑r1.length : Int)))), (5, A.val ((slr true 1 (slr true 1 V.bool)) s.2)), (0, A.val (vint (n0))), (1, A.val ((slr false 1 vint) (table0)))]
def T_impl_orderOfMeet_l1 (n0 : Int) (table0 : List Int) (r1 : List (List Bool)) (x12 : Int) (_x5 : List (List Bool)) : (List (List Bool)) → Tgt
 | s => ((Ex.exit 2), [12, 11, 5, 0, 1], [(12, A.val (vint (x12))), (11, A.val (vint ((↑r1.length : Int)))), (5, A.val ((slr true 1 (slr true 1 V.bool)) s)), (0, A.val (vint (n0))), (1, A.val ((slr false 1 vint) (table0)))])
theorem b_impl_orderOfMeet_l1 {n0 : Int} {table0 : List Int} {r1 : List (List Bool)} {x12 : Int} {x5 : List (List Bool)} (s : (Int × (List (List Bool)))) (o : (Int × (List (List Bool))) ⊕ (List (List Bool))) (h : F_impl_orderOfMeet_l1 n0 table0 r1 x12 x5 s = some o) : vc Try.prog c_impl_orderOfMeet_l1 (outQ [17, 16, 6, 12, 11, 5, 0, 1] (S_impl_orderOfMeet_l1 n0 table0 r1 x12 x5) (T_impl_orderOfMeet_l1 n0 table0 r1 x12 x5) o) (S_impl_orderOfMeet_l1 n0 table0 r1 x12 x5 s) := by
  obtain ⟨x17, x5'⟩ := s
  unfold F_impl_orderOfMeet_l1 at h
  try dsimp only at h
  refine Br.od h (fun p3 h => ?_) (fun p3 h => ?_)
  · refine Len.map ?_
    refine Ask.o h fun p4 h => ?_
    refine Cells.one (fun _ => ⟨rfl, rfl⟩) (by first | omega | (simp [mulN] at *; omega)) ?_
    refine Ask.o h fun p5 h => ?_
    refine Ask.o h fun p6 h => ?_
    refine Len.map ?_
    refine Ask.o h fun p7 h => ?_
    refine Elem.o (by first | omega | (simp [mulN] at *; omega)) ?_
    refine Kid.one (fun _ => ⟨rfl, rfl⟩) (by first | omega | (simp [mulN] at *; omega)) ?_
    refine Len.map ?_
    refine Ask.o h fun p8 h => ?_
    refine Kid.one (fun _ => ⟨rfl, rfl⟩) (by first | omega | (simp [mulN] at *; omega)) ?_
    refine SetKids.one (fun _ => ⟨rfl, rfl⟩) (nth table0 (x12 * n0 + x17).toNat == x12) (by rfl) (by first | omega | (simp [mulN] at *; omega)) ?_
    refine Kid.one (fun _ => ⟨rfl, rfl⟩) (by first | omega | (simp [mulN] at *; omega)) ?_
    refine SetKids.one (fun _ => ⟨rfl, rfl⟩) ((nth x5' x12.toNat).set x17.toNat (nth table0 (x12 * n0 + x17).toNat == x12)) (by rfl) (by first | omega | (simp [mulN] at *; omega)) ?_
    refine Ask.o h fun p9 h => ?_
    cases h; exact ⟨rfl, rfl⟩
  cases h; exact ⟨rfl, rfl⟩

noncomputable def F_impl_orderOfMeet_l2 (n0 : Int) (table0 : List Int) (r1 : List (List Bool)) : (Int × (List (List Bool))) → Option ((Int × (List (List Bool))) ⊕ (List (List Bool))) := fun (x12, x5) =>
 if x12 < (↑r1.length : Int) then
 (loopO (F_impl_orderOfMeet_l1 n0 table0 r1 x12 x5) ((0 : Int), x5)).bind fun q10_5 =>
 ask (InI (x12 + (1 : Int))) <|
 some (.inl (x12 + (1 : Int), q10_5))
 else
 some (.inr x5)
def S_impl_orderOfMeet_l2 (n0 : Int) (table0 : List Int) (r1 : List (List Bool)) : (Int × (List (List Bool))) → St := fun s => [(12, A.val (vint s.1)), (11, A.val (vint ((↑r1.length : Int)))), (5, A.val ((slr true 1 (slr true 1 V.bool)) s.2)), (0, A.val (vint (n0))), (1, A.val ((slr false 1 vint) (table0)))]
def T_impl_orderOfMeet_l2 (_n0 : Int) (_table0 : List Int) (_r1 : List (List Bool)) : (List (List Bool)) → Tgt
 | s => ((Ex.exit 0), [5], [(5, A.val ((slr true 1 (slr true 1 V.bool)) s))])
theorem b_impl_orderOfMeet_l2 {n0 : Int} {table0 : List Int} {r1 : List (List Bool)} (s : (Int × (List (List Bool)))) (o : (Int × (List (List Bool))) ⊕ (List (List Bool))) (h : F_impl_orderOfMeet_l2 n0 table0 r1 s = some o) : vc Try.prog c_impl_orderOfMeet_l2 (outQ [12, 11, 5, 0, 1] (S_impl_orderOfMeet_l2 n0 table0 r1) (T_impl_orderOfMeet_l2 n0 table0 r1) o) (S_impl_orderOfMeet_l2 n0 table0 r1 s) := by
  obtain ⟨x12, x5⟩ := s
  unfold F_impl_orderOfMeet_l2 at h
  try dsimp only at h
  refine Br.od h (fun p2 h => ?_) (fun p2 h => ?_)
  · refine Len.map ?_
    refine LoopQ.o [17, 16, 6, 12, 11, 5, 0, 1] (S_impl_orderOfMeet_l1 n0 table0 r1 x12 x5) (T_impl_orderOfMeet_l1 n0 table0 r1 x12 x5) h (fun s o h => b_impl_orderOfMeet_l1 s o h) (by first | rfl | simp [restrict, look, mulN_one, V.fz, fzL, V.up, upL, fzL_map, fz_slr, fz_at, slr]) (fun _ => rfl) ?_
    rintro q10_5 h
    try dsimp only at h
    refine Ask.o h fun p11 h => ?_
    cases h; exact ⟨rfl, rfl⟩
  cases h; exact ⟨rfl, rfl⟩

noncomputable def F_impl_orderOfMeet (n0 : Int) (table0 : (List Int)) : Option (List (List Bool)) :=
 (F_impl_newOrder (n0)).bind fun r1 =>
 (loopO (F_impl_orderOfMeet_l2 n0 table0 r1) ((0 : Int), r1)).bind fun q12_5 =>
 some q12_5
theorem t_impl_orderOfMeet {n0 : Int} {table0 : (List Int)} {v : (List (List Bool))} (h : F_impl_orderOfMeet n0 table0 = some v) : Ret Try.prog f_impl_orderOfMeet [vint n0, (slr false 1 vint) table0] ((slr true 1 (slr true 1 V.bool)) v) := by
  refine ret_vc k_impl_orderOfMeet (Nat.le_of_ble_eq_true rfl) ?_
  unfold F_impl_orderOfMeet at h
  refine CallQ.o (slr true 1 (slr true 1 V.bool)) (by rfl) h (fun r h => t_impl_newOrder h) (fun r1 h => ?_)
  refine Len.map ?_
  refine LoopQ.o [12, 11, 5, 0, 1] (S_impl_orderOfMeet_l2 n0 table0 r1) (T_impl_orderOfMeet_l2 n0 table0 r1) h (fun s o h => b_impl_orderOfMeet_l2 s o h) (by first | rfl | simp [restrict, look, mulN_one, V.fz, fzL, V.up, upL, fzL_map, fz_slr, fz_at, slr]) (fun _ => rfl) ?_
  rintro q12_5 h
  try dsimp only at h
  cases h; exact (by rfl)

end Go.Proofs.Ytoikbcagaanhgaa.Ax
