/-
 What the functions compute, as functions on plain data, and that the program does compute it; written by program.
-/
import Derived.Test.YtoikbcagaanhgaaCode
import Derived.Test.YtoikbcagaanhgaaG1
import Derived.Test.YtoikbcagaanhgaaG2
import Derived.Test.YtoikbcagaanhgaaG3
namespace Go.Proofs.Ytoikbcagaanhgaa.Ax
open Go
set_option maxRecDepth 100000
set_option maxHeartbeats 4000000
noncomputable def G4 (n0 : Int) (op0 : SOp) : Int → Option (Int ⊕ (Unit ⊕ Unit)) := fun x5 =>
 if x5 < (↑op0.Table.length : Int) then
 ask ((0 : Int) ≤ x5 ∧ x5 < (↑op0.Table.length : Int)) <|
 ask (InI (n0 - (1 : Int))) <|
 (H2 (nth op0.Table x5.toNat) ((0 : Int)) (n0 - (1 : Int))).bind fun r9 =>
 if (r9) = true then
 ask (InI (x5 + (1 : Int))) <|
 some (.inl (x5 + (1 : Int)))
 else
 some (.inr (.inl ()))
 else
 some (.inr (.inr ()))
def Ty (n0 : Int) (op0 : SOp) : Int → St := fun s => [(5, A.val (Ab s)), (3, A.val ((rP true (Dh false)) (op0))), (0, A.val (Ab (n0)))]
def Adw (_n0 : Int) (_op0 : SOp) : (Unit ⊕ Unit) → Tgt
 | (.inl _s) => (Ex.ret, [4], [(4, A.val (V.bool (false)))])
 | (.inr _s) => ((Ex.exit 0), [], [])
theorem Ang {n0 : Int} {op0 : SOp} (x5 : Int) (o : Int ⊕ (Unit ⊕ Unit)) (h : G4 n0 op0 x5 = some o) : vc Try.prog Acu (Bp [5, 3, 0] (Ty n0 op0) (Adw n0 op0) o) (Ty n0 op0 x5) := by
 unfold G4 at h
 try dsimp only at h
 refine Cells.lit rfl rfl ?_
 refine Len.map ?_
 refine Br.od h (fun p6 h => ?_) (fun p6 h => ?_)
 ·refine Cells.lit rfl rfl ?_
  refine Len.map ?_
  refine Ask.o h fun p7 h => ?_
  refine Elem.o (by first | omega | (simp [Am] at *; omega)) ?_
  refine Ask.o h fun p8 h => ?_
  refine CallQ.o V.bool (by rfl) h (fun r h => Rn h) (fun r9 h => ?_)
  refine Br.flip ?_
  refine Br.ob h (fun p10 h => ?_) (fun p10 h => ?_)
  ·refine Ask.o h fun p11 h => ?_
   cases h; exact ⟨rfl, rfl⟩
  cases h; exact ⟨rfl, rfl⟩
 cases h; exact ⟨rfl, rfl⟩
noncomputable def Qy (n0 : Int) (op0 : SOp) : Option Bool :=
 (((H2 (op0.Arity) ((0 : Int)) ((3 : Int))).bind fun r1 =>
 if (r1) = true then
 (Lf (n0) (op0.Arity)).bind fun r3 =>
 if (↑op0.Table.length : Int) ≠ r3 then
 some (.inl ())
 else
 some (.inr ())
 else
 some (.inl ()) : Option (Unit ⊕ Unit))).bind fun t => match t with
 | (.inl _) => (some false)
 | (.inr _) => ((Ai (G4 n0 op0) (0 : Int)).bind fun t => match t with
 | (.inl _) => (some false)
 | (.inr _) => (some true))
theorem Av4 {n0 : Int} {op0 : SOp} {v : Bool} (h : Qy n0 op0 = some v) : Ret Try.prog Acw [Ab n0, (Dh false) op0] (V.bool v) := by
 refine Av Aw3 (Nat.le_of_ble_eq_true rfl) ?_
 unfold Qy at h
 refine CutQ.o (fun t : (Unit ⊕ Unit) => match t with | (.inl s) => (Ex.ret, [4], [(4, A.val (V.bool (false)))]) | (.inr s) => (Ex.normal, [3, 0], [(3, A.val ((rP true (Dh false)) (op0))), (0, A.val (Ab (n0)))])) h ?_ ?_
 ·intro t h
  refine Cells.lit rfl rfl ?_
  refine CallP.o V.bool (by rfl) h (fun r h => Rn h) (fun r1 h => ?_)
  refine Br.flip ?_
  refine Br.ob h (fun p2 h => ?_) (fun p2 h => ?_)
  ·refine Br.no ?_
   refine Cells.lit rfl rfl ?_
   refine Br.no ?_
   refine Len.map ?_
   iterate 3 refine Br.no ?_
   refine Cells.lit rfl rfl ?_
   refine Br.no ?_
   refine CallP.o Ab (by rfl) h (fun r h => Auq h) (fun r3 h => ?_)
   iterate 2 refine Br.no ?_
   refine Br.on h (fun p4 h => ?_) (fun p4 h => ?_)
   ·cases h; exact ⟨rfl, rfl⟩
   cases h; exact ⟨rfl, rfl⟩
  iterate 9 refine Br.yes ?_
  cases h; exact ⟨rfl, rfl⟩
 rintro (⟨⟩ | ⟨⟩) h
 ·try dsimp only at h
  cases h; exact (by rfl)
 try dsimp only at h
 refine LoopQ.o [5, 3, 0] (Ty n0 op0) (Adw n0 op0) h (fun s o h => Ang s o h) (by first | rfl | simp [restrict, look, Ad, V.fz, fzL, V.up, upL, Ae, Af, Ah, slr]) (by rintro (_ | _) <;> rfl) ?_
 rintro (⟨⟩ | ⟨⟩) h
 ·try dsimp only at h
  cases h; exact (by rfl)
 try dsimp only at h
 cases h; exact (by rfl)
noncomputable def Jh (k0 : Int) : Option SPoset :=
 if k0 = (0 : Int) then
 (A3 ((1 : Int)) (Ao (Int × Int))).bind fun r2 =>
 some r2
 else
 if k0 = (1 : Int) then
 (A3 ((2 : Int)) ([((0 : Int), (1 : Int))])).bind fun r4 =>
 some r4
 else
 if k0 = (2 : Int) then
 (A3 ((4 : Int)) ([((0 : Int), (1 : Int)), ((1 : Int), (2 : Int)), ((2 : Int), (3 : Int))])).bind fun r6 =>
 some r6
 else
 if k0 = (3 : Int) then
 (A3 ((4 : Int)) ([((0 : Int), (1 : Int)), ((0 : Int), (2 : Int)), ((1 : Int), (3 : Int)), ((2 : Int), (3 : Int))])).bind fun r8 =>
 some r8
 else
 if k0 = (4 : Int) then
 (A3 ((5 : Int)) ([((0 : Int), (1 : Int)), ((0 : Int), (2 : Int)), ((0 : Int), (3 : Int)), ((1 : Int), (4 : Int)), ((2 : Int), (4 : Int)), ((3 : Int), (4 : Int))])).bind fun r10 =>
 some r10
 else
 if k0 = (5 : Int) then
 (A3 ((5 : Int)) ([((0 : Int), (1 : Int)), ((1 : Int), (2 : Int)), ((0 : Int), (3 : Int)), ((2 : Int), (4 : Int)), ((3 : Int), (4 : Int))])).bind fun r12 =>
 some r12
 else
 if k0 = (6 : Int) then
 (A3 ((8 : Int)) ([((0 : Int), (1 : Int)), ((0 : Int), (2 : Int)), ((0 : Int), (3 : Int)), ((1 : Int), (4 : Int)), ((1 : Int), (5 : Int)), ((2 : Int), (4 : Int)), ((2 : Int), (6 : Int)), ((3 : Int), (5 : Int)), ((3 : Int), (6 : Int)), ((4 : Int), (7 : Int)), ((5 : Int), (7 : Int)), ((6 : Int), (7 : Int))])).bind fun r14 =>
 some r14
 else
 if k0 = (7 : Int) then
 (A3 ((6 : Int)) ([((0 : Int), (1 : Int)), ((0 : Int), (2 : Int)), ((1 : Int), (3 : Int)), ((2 : Int), (3 : Int)), ((2 : Int), (4 : Int)), ((3 : Int), (5 : Int)), ((4 : Int), (5 : Int))])).bind fun r16 =>
 some r16
 else
 if k0 = (8 : Int) then
 (A3 ((6 : Int)) ([((0 : Int), (1 : Int)), ((0 : Int), (2 : Int)), ((1 : Int), (3 : Int)), ((2 : Int), (4 : Int)), ((3 : Int), (5 : Int)), ((4 : Int), (5 : Int))])).bind fun r18 =>
 some r18
 else
 if k0 = (9 : Int) then
 (A3 ((7 : Int)) ([((0 : Int), (1 : Int)), ((0 : Int), (2 : Int)), ((0 : Int), (3 : Int)), ((1 : Int), (4 : Int)), ((2 : Int), (4 : Int)), ((3 : Int), (5 : Int)), ((2 : Int), (5 : Int)), ((4 : Int), (6 : Int)), ((5 : Int), (6 : Int))])).bind fun r20 =>
 some r20
 else
 if k0 = (10 : Int) then
 (A3 ((3 : Int)) ([((0 : Int), (1 : Int)), ((1 : Int), (2 : Int))])).bind fun r22 =>
 (A3 ((3 : Int)) ([((0 : Int), (1 : Int)), ((1 : Int), (2 : Int))])).bind fun r23 =>
 (H3 (r22) (r23)).bind fun r24 =>
 some r24
 else
 (A3 ((3 : Int)) ([((0 : Int), (1 : Int)), ((1 : Int), (2 : Int))])).bind fun r25 =>
 some r25
theorem Amc {k0 : Int} {v : SPoset} (h : Jh k0 = some v) : Ret Try.prog R6 [Ab k0] ((Ac true) v) := by
 refine Av Ams (Nat.le_of_ble_eq_true rfl) ?_
 unfold Jh at h
 refine Br.oe h (fun p1 h => ?_) (fun p1 h => ?_)
 ·refine BslQ.o (rA2 Ab) (Ao (Int × Int)) (by exact fun _ => ⟨rfl, rfl⟩) (by rfl) ?_
  refine CallQ.rd (Ac true) (by rfl) (fun _ => by simp [V.noFz, Ba, Aq]) h (fun r h => Bq h) (fun r2 h => ?_)
  refine SetKids.lit rfl ?_
  cases h; exact (by rfl)
 refine Br.oe h (fun p3 h => ?_) (fun p3 h => ?_)
 ·refine BslQ.o (rA2 Ab) ([((0 : Int), (1 : Int))]) (by exact fun _ => ⟨rfl, rfl⟩) (by rfl) ?_
  refine CallQ.rd (Ac true) (by rfl) (fun _ => by simp [V.noFz, Ba, Aq]) h (fun r h => Bq h) (fun r4 h => ?_)
  refine SetKids.lit rfl ?_
  cases h; exact (by rfl)
 refine Br.oe h (fun p5 h => ?_) (fun p5 h => ?_)
 ·refine BslQ.o (rA2 Ab) ([((0 : Int), (1 : Int)), ((1 : Int), (2 : Int)), ((2 : Int), (3 : Int))]) (by exact fun _ => ⟨rfl, rfl⟩) (by rfl) ?_
  refine CallQ.rd (Ac true) (by rfl) (fun _ => by simp [V.noFz, Ba, Aq]) h (fun r h => Bq h) (fun r6 h => ?_)
  refine SetKids.lit rfl ?_
  cases h; exact (by rfl)
 refine Br.oe h (fun p7 h => ?_) (fun p7 h => ?_)
 ·refine BslQ.o (rA2 Ab) ([((0 : Int), (1 : Int)), ((0 : Int), (2 : Int)), ((1 : Int), (3 : Int)), ((2 : Int), (3 : Int))]) (by exact fun _ => ⟨rfl, rfl⟩) (by rfl) ?_
  refine CallQ.rd (Ac true) (by rfl) (fun _ => by simp [V.noFz, Ba, Aq]) h (fun r h => Bq h) (fun r8 h => ?_)
  refine SetKids.lit rfl ?_
  cases h; exact (by rfl)
 refine Br.oe h (fun p9 h => ?_) (fun p9 h => ?_)
 ·refine BslQ.o (rA2 Ab) ([((0 : Int), (1 : Int)), ((0 : Int), (2 : Int)), ((0 : Int), (3 : Int)), ((1 : Int), (4 : Int)), ((2 : Int), (4 : Int)), ((3 : Int), (4 : Int))]) (by exact fun _ => ⟨rfl, rfl⟩) (by rfl) ?_
  refine CallQ.rd (Ac true) (by rfl) (fun _ => by simp [V.noFz, Ba, Aq]) h (fun r h => Bq h) (fun r10 h => ?_)
  refine SetKids.lit rfl ?_
  cases h; exact (by rfl)
 refine Br.oe h (fun p11 h => ?_) (fun p11 h => ?_)
 ·refine BslQ.o (rA2 Ab) ([((0 : Int), (1 : Int)), ((1 : Int), (2 : Int)), ((0 : Int), (3 : Int)), ((2 : Int), (4 : Int)), ((3 : Int), (4 : Int))]) (by exact fun _ => ⟨rfl, rfl⟩) (by rfl) ?_
  refine CallQ.rd (Ac true) (by rfl) (fun _ => by simp [V.noFz, Ba, Aq]) h (fun r h => Bq h) (fun r12 h => ?_)
  refine SetKids.lit rfl ?_
  cases h; exact (by rfl)
 refine Br.oe h (fun p13 h => ?_) (fun p13 h => ?_)
 ·refine BslQ.o (rA2 Ab) ([((0 : Int), (1 : Int)), ((0 : Int), (2 : Int)), ((0 : Int), (3 : Int)), ((1 : Int), (4 : Int)), ((1 : Int), (5 : Int)), ((2 : Int), (4 : Int)), ((2 : Int), (6 : Int)), ((3 : Int), (5 : Int)), ((3 : Int), (6 : Int)), ((4 : Int), (7 : Int)), ((5 : Int), (7 : Int)), ((6 : Int), (7 : Int))]) (by exact fun _ => ⟨rfl, rfl⟩) (by rfl) ?_
  refine CallQ.rd (Ac true) (by rfl) (fun _ => by simp [V.noFz, Ba, Aq]) h (fun r h => Bq h) (fun r14 h => ?_)
  refine SetKids.lit rfl ?_
  cases h; exact (by rfl)
 refine Br.oe h (fun p15 h => ?_) (fun p15 h => ?_)
 ·refine BslQ.o (rA2 Ab) ([((0 : Int), (1 : Int)), ((0 : Int), (2 : Int)), ((1 : Int), (3 : Int)), ((2 : Int), (3 : Int)), ((2 : Int), (4 : Int)), ((3 : Int), (5 : Int)), ((4 : Int), (5 : Int))]) (by exact fun _ => ⟨rfl, rfl⟩) (by rfl) ?_
  refine CallQ.rd (Ac true) (by rfl) (fun _ => by simp [V.noFz, Ba, Aq]) h (fun r h => Bq h) (fun r16 h => ?_)
  refine SetKids.lit rfl ?_
  cases h; exact (by rfl)
 refine Br.oe h (fun p17 h => ?_) (fun p17 h => ?_)
 ·refine BslQ.o (rA2 Ab) ([((0 : Int), (1 : Int)), ((0 : Int), (2 : Int)), ((1 : Int), (3 : Int)), ((2 : Int), (4 : Int)), ((3 : Int), (5 : Int)), ((4 : Int), (5 : Int))]) (by exact fun _ => ⟨rfl, rfl⟩) (by rfl) ?_
  refine CallQ.rd (Ac true) (by rfl) (fun _ => by simp [V.noFz, Ba, Aq]) h (fun r h => Bq h) (fun r18 h => ?_)
  refine SetKids.lit rfl ?_
  cases h; exact (by rfl)
 refine Br.oe h (fun p19 h => ?_) (fun p19 h => ?_)
 ·refine BslQ.o (rA2 Ab) ([((0 : Int), (1 : Int)), ((0 : Int), (2 : Int)), ((0 : Int), (3 : Int)), ((1 : Int), (4 : Int)), ((2 : Int), (4 : Int)), ((3 : Int), (5 : Int)), ((2 : Int), (5 : Int)), ((4 : Int), (6 : Int)), ((5 : Int), (6 : Int))]) (by exact fun _ => ⟨rfl, rfl⟩) (by rfl) ?_
  refine CallQ.rd (Ac true) (by rfl) (fun _ => by simp [V.noFz, Ba, Aq]) h (fun r h => Bq h) (fun r20 h => ?_)
  refine SetKids.lit rfl ?_
  cases h; exact (by rfl)
 refine Br.oe h (fun p21 h => ?_) (fun p21 h => ?_)
 ·refine BslQ.o (rA2 Ab) ([((0 : Int), (1 : Int)), ((1 : Int), (2 : Int))]) (by exact fun _ => ⟨rfl, rfl⟩) (by rfl) ?_
  refine CallQ.rd (Ac true) (by rfl) (fun _ => by simp [V.noFz, Ba, Aq]) h (fun r h => Bq h) (fun r22 h => ?_)
  refine BslQ.o (rA2 Ab) ([((0 : Int), (1 : Int)), ((1 : Int), (2 : Int))]) (by exact fun _ => ⟨rfl, rfl⟩) (by rfl) ?_
  refine CallQ.rd (Ac true) (by rfl) (fun _ => by simp [V.noFz, Ba, Aq]) h (fun r h => Bq h) (fun r23 h => ?_)
  refine CallQ.rd (Ac true) (by first | rfl | simp only [V.fz, fzL, Ae] | simp [Ad, V.fz, fzL, V.up, upL, Ae, Af, Ah, slr]) (fun _ => by simp [V.noFz, Ba, Aq]) h (fun r h => Aiw h) (fun r24 h => ?_)
  refine SetKids.lit rfl ?_
  cases h; exact (by rfl)
 refine BslQ.o (rA2 Ab) ([((0 : Int), (1 : Int)), ((1 : Int), (2 : Int))]) (by exact fun _ => ⟨rfl, rfl⟩) (by rfl) ?_
 refine CallQ.rd (Ac true) (by rfl) (fun _ => by simp [V.noFz, Ba, Aq]) h (fun r h => Bq h) (fun r25 h => ?_)
 refine SetKids.lit rfl ?_
 cases h; exact (by rfl)
noncomputable def D6 (l0 : Slattice) : Option SAlgebra :=
 (Jl (l0.meets)).bind fun r1 =>
 (Jl (l0.joins)).bind fun r2 =>
 some ({ Size := (↑l0.order.length : Int), Ops := [r1, r2] })
theorem Aae {l0 : Slattice} {v : SAlgebra} (h : D6 l0 = some v) : Ret Try.prog I6 [(rP false (Bb false)) l0] ((Ap true) v) := by
 refine Av Zp (Nat.le_of_ble_eq_true rfl) ?_
 unfold D6 at h
 refine Len.map ?_
 refine CallP.o (Dh true) (by rfl) h (fun r h => Aey h) (fun r1 h => ?_)
 refine CallP.o (Dh true) (by rfl) h (fun r h => Aey h) (fun r2 h => ?_)
 refine BslQ.o (Dh true) ([r1, r2]) (by exact fun _ => ⟨rfl, rfl⟩) (by rfl) ?_
 refine SetKids.lit rfl ?_
 cases h; exact (by rfl)
noncomputable def D9 (p0 : SPoset) (x20 : Int) : (Int × (List (List Bool))) → Option ((Int × (List (List Bool))) ⊕ (List (List Bool))) := fun (x36, x5') =>
 if x36 < (↑(nth p0.Below x20.toNat).length : Int) then
 ask ((0 : Int) ≤ x36 ∧ x36 < (↑(nth p0.Below x20.toNat).length : Int)) <|
 ask ((0 : Int) ≤ nth (nth p0.Below x20.toNat) x36.toNat ∧ nth (nth p0.Below x20.toNat) x36.toNat < (↑x5'.length : Int)) <|
 ask ((0 : Int) ≤ x20 ∧ x20 < (↑(nth x5' (nth (nth p0.Below x20.toNat) x36.toNat).toNat).length : Int)) <|
 ask (InI (x36 + (1 : Int))) <|
 some (.inl (x36 + (1 : Int), x5'.set (nth (nth p0.Below x20.toNat) x36.toNat).toNat ((nth x5' (nth (nth p0.Below x20.toNat) x36.toNat).toNat).set x20.toNat true)))
 else
 some (.inr x5')
def Oh (p0 : SPoset) (x20 : Int) : (Int × (List (List Bool))) → St := fun s => [(36, A.val (Ab s.1)), (35, A.val (Ab ((↑(nth p0.Below x20.toNat).length : Int)))), (34, A.val ((slr false 1 Ab) (nth p0.Below x20.toNat))), (6, A.val (Ab (x20))), (20, A.val (Ab (x20))), (19, A.val (Ab ((↑p0.Below.length : Int)))), (18, A.val ((slr false 1 (slr false 1 Ab)) (p0.Below))), (5, A.val ((slr true 1 (slr true 1 V.bool)) s.2)), (4, A.val (Ab ((↑p0.Below.length : Int))))]
def Wb (p0 : SPoset) (x20 : Int) : (List (List Bool)) → Tgt
 | s => ((Ex.exit 2), [20, 19, 18, 5, 4], [(20, A.val (Ab (x20))), (19, A.val (Ab ((↑p0.Below.length : Int)))), (18, A.val ((slr false 1 (slr false 1 Ab)) (p0.Below))), (5, A.val ((slr true 1 (slr true 1 V.bool)) s)), (4, A.val (Ab ((↑p0.Below.length : Int))))])
theorem Ag7 {p0 : SPoset} {x20 : Int} (s : (Int × (List (List Bool)))) (o : (Int × (List (List Bool))) ⊕ (List (List Bool))) (h : D9 p0 x20 s = some o) : vc Try.prog Ve (Bp [36, 35, 34, 6, 20, 19, 18, 5, 4] (Oh p0 x20) (Wb p0 x20) o) (Oh p0 x20 s) := by
 obtain ⟨x36, x5'⟩ := s
 unfold D9 at h
 try dsimp only at h
 refine Br.od h (fun p10 h => ?_) (fun p10 h => ?_)
 ·refine Len.map ?_
  refine Ask.o h fun p11 h => ?_
  refine Elem.o (by first | omega | (simp [Am] at *; omega)) ?_
  refine Len.map ?_
  refine Ask.o h fun p12 h => ?_
  refine Cells.one (fun _ => ⟨rfl, rfl⟩) (by first | omega | (simp [Am] at *; omega)) ?_
  refine Kid.one (fun _ => ⟨rfl, rfl⟩) (by first | omega | (simp [Am] at *; omega)) ?_
  refine Len.map ?_
  refine Ask.o h fun p13 h => ?_
  refine Kid.one (fun _ => ⟨rfl, rfl⟩) (by first | omega | (simp [Am] at *; omega)) ?_
  refine SetKids.one (fun _ => ⟨rfl, rfl⟩) (true) (by rfl) (by first | omega | (simp [Am] at *; omega)) ?_
  refine Kid.one (fun _ => ⟨rfl, rfl⟩) (by first | omega | (simp [Am] at *; omega)) ?_
  refine SetKids.one (fun _ => ⟨rfl, rfl⟩) ((nth x5' (nth (nth p0.Below x20.toNat) x36.toNat).toNat).set x20.toNat true) (by rfl) (by first | omega | (simp [Am] at *; omega)) ?_
  refine Ask.o h fun p14 h => ?_
  cases h; exact ⟨rfl, rfl⟩
 cases h; exact ⟨rfl, rfl⟩
noncomputable def Ec (p0 : SPoset) : (Int × (List (List Bool))) → Option ((Int × (List (List Bool))) ⊕ (Unit ⊕ (List (List Bool)))) := fun (x20, x5) =>
 if x20 < (↑p0.Below.length : Int) then
 ask ((0 : Int) ≤ x20 ∧ x20 < (↑p0.Below.length : Int)) <|
 (((I5 (nth p0.Below x20.toNat)).bind fun r5 =>
 if (r5) = true then
 (Gg (nth p0.Below x20.toNat) ((↑p0.Below.length : Int))).bind fun r7 =>
 if (r7) = true then
 some (.inl ())
 else
 some (.inr ())
 else
 some (.inr ()) : Option (Unit ⊕ Unit))).bind fun t => match t with
 | (.inl _) => ((Ai (D9 p0 x20) ((0 : Int), x5)).bind fun q15_5 =>
 ask (InI (x20 + (1 : Int))) <|
 some (.inl (x20 + (1 : Int), q15_5)))
 | (.inr _) => (some (.inr (.inl ())))
 else
 some (.inr (.inr x5))
def Oj (p0 : SPoset) : (Int × (List (List Bool))) → St := fun s => [(20, A.val (Ab s.1)), (19, A.val (Ab ((↑p0.Below.length : Int)))), (18, A.val ((slr false 1 (slr false 1 Ab)) (p0.Below))), (5, A.val ((slr true 1 (slr true 1 V.bool)) s.2)), (4, A.val (Ab ((↑p0.Below.length : Int))))]
def Wr (_p0 : SPoset) : (Unit ⊕ (List (List Bool))) → Tgt
 | (.inl _s) => (Ex.ret, [3, 2], [(3, A.val (V.bool (false))), (2, A.val ((slr true 1 (slr true 1 V.bool)) (Ao (List Bool))))])
 | (.inr s) => ((Ex.exit 0), [5], [(5, A.val ((slr true 1 (slr true 1 V.bool)) s))])
theorem Ahs {p0 : SPoset} (s : (Int × (List (List Bool)))) (o : (Int × (List (List Bool))) ⊕ (Unit ⊕ (List (List Bool)))) (h : Ec p0 s = some o) : vc Try.prog U8 (Bp [20, 19, 18, 5, 4] (Oj p0) (Wr p0) o) (Oj p0 s) := by
 obtain ⟨x20, x5⟩ := s
 unfold Ec at h
 try dsimp only at h
 refine Br.od h (fun p3 h => ?_) (fun p3 h => ?_)
 ·refine Len.map ?_
  refine Ask.o h fun p4 h => ?_
  refine Elem.o (by first | omega | (simp [Am] at *; omega)) ?_
  refine CutQ.o (fun t : (Unit ⊕ Unit) => match t with | (.inl s) => (Ex.normal, [7, 6, 20, 19, 18, 5, 4], [(7, A.val ((slr false 1 Ab) (nth p0.Below x20.toNat))), (6, A.val (Ab (x20))), (20, A.val (Ab (x20))), (19, A.val (Ab ((↑p0.Below.length : Int)))), (18, A.val ((slr false 1 (slr false 1 Ab)) (p0.Below))), (5, A.val ((slr true 1 (slr true 1 V.bool)) (x5))), (4, A.val (Ab ((↑p0.Below.length : Int))))]) | (.inr s) => (Ex.ret, [3, 2], [(3, A.val (V.bool (false))), (2, A.val ((slr true 1 (slr true 1 V.bool)) (Ao (List Bool))))])) h ?_ ?_
  ·intro t h
   refine CallQ.o V.bool (by rfl) h (fun r h => Zs h) (fun r5 h => ?_)
   refine Br.flip ?_
   refine Br.ob h (fun p6 h => ?_) (fun p6 h => ?_)
   ·refine Br.no ?_
    refine Br.no ?_
    refine CallQ.o V.bool (by rfl) h (fun r h => Qq h) (fun r7 h => ?_)
    iterate 2 refine Br.no ?_
    refine Br.flip ?_
    refine Br.ob h (fun p8 h => ?_) (fun p8 h => ?_)
    ·cases h; exact ⟨rfl, rfl⟩
    cases h; exact ⟨rfl, rfl⟩
   iterate 5 refine Br.yes ?_
   cases h; exact ⟨rfl, rfl⟩
  rintro (⟨⟩ | ⟨⟩) h
  ·try dsimp only at h
   refine Len.map ?_
   refine LoopQ.o [36, 35, 34, 6, 20, 19, 18, 5, 4] (Oh p0 x20) (Wb p0 x20) h (fun s o h => Ag7 s o h) (by first | rfl | simp [restrict, look, Ad, V.fz, fzL, V.up, upL, Ae, Af, Ah, slr]) (fun _ => rfl) ?_
   rintro q15_5 h
   try dsimp only at h
   refine Ask.o h fun p16 h => ?_
   cases h; exact ⟨rfl, rfl⟩
  try dsimp only at h
  cases h; exact ⟨rfl, rfl⟩
 cases h; exact ⟨rfl, rfl⟩
noncomputable def Gs (p0 : SPoset) : Option ((List (List Bool)) × Bool) :=
 if (↑p0.Below.length : Int) > (10 : Int) then
 some (Ao (List Bool), false)
 else
 (F0 ((↑p0.Below.length : Int))).bind fun r2 =>
 (Ai (Ec p0) ((0 : Int), r2)).bind fun t => match t with
 | (.inl _) => (some (Ao (List Bool), false))
 | (.inr q17_5) => ((Fi (q17_5)).bind fun r18 =>
 some (q17_5, r18))
theorem Ao3 {p0 : SPoset} {v : ((List (List Bool)) × Bool)} (h : Gs p0 = some v) : Ret Try.prog Ug [(Ac false) p0] ((fun r => V.tup [(slr true 1 (slr true 1 V.bool)) r.1, V.bool r.2]) v) := by
 refine Av Aoy (Nat.le_of_ble_eq_true rfl) ?_
 unfold Gs at h
 refine Cells.lit rfl rfl ?_
 refine Len.map ?_
 refine Br.od h (fun p1 h => ?_) (fun p1 h => ?_)
 ·cases h; exact (by rfl)
 refine CallQ.o (slr true 1 (slr true 1 V.bool)) (by rfl) h (fun r h => Sf h) (fun r2 h => ?_)
 refine Cells.lit rfl rfl ?_
 refine Len.map ?_
 refine LoopQ.o [20, 19, 18, 5, 4] (Oj p0) (Wr p0) h (fun s o h => Ahs s o h) (by first | rfl | simp [restrict, look, Ad, V.fz, fzL, V.up, upL, Ae, Af, Ah, slr]) (by rintro (_ | _) <;> rfl) ?_
 rintro (⟨⟩ | q17_5) h
 ·try dsimp only at h
  cases h; exact (by rfl)
 try dsimp only at h
 refine CallQ.rd V.bool (by first | rfl | simp only [V.fz, Ae, slr] | simp [Ad, V.fz, fzL, V.up, upL, Ae, Af, Ah, slr]) (fun _ => rfl) h (fun r h => Abz h) (fun r18 h => ?_)
 cases h; exact (by rfl)
noncomputable def Cs (o0 : List (List Bool)) (x11 : Int) : (Int × (List (List Bool))) → Option ((Int × (List (List Bool))) ⊕ (List (List Bool))) := fun (x16, x3') =>
 if x16 < (↑o0.length : Int) then
 ask ((0 : Int) ≤ x11 ∧ x11 < (↑x3'.length : Int)) <|
 ask ((0 : Int) ≤ x16 ∧ x16 < (↑o0.length : Int)) <|
 ask ((0 : Int) ≤ x11 ∧ x11 < (↑(nth o0 x16.toNat).length : Int)) <|
 ask ((0 : Int) ≤ x16 ∧ x16 < (↑(nth x3' x11.toNat).length : Int)) <|
 ask (InI (x16 + (1 : Int))) <|
 some (.inl (x16 + (1 : Int), x3'.set x11.toNat ((nth x3' x11.toNat).set x16.toNat (nth (nth o0 x16.toNat) x11.toNat))))
 else
 some (.inr x3')
def K5 (o0 : List (List Bool)) (x11 : Int) : (Int × (List (List Bool))) → St := fun s => [(16, A.val (Ab s.1)), (15, A.val (Ab ((↑o0.length : Int)))), (4, A.val (Ab (x11))), (11, A.val (Ab (x11))), (10, A.val (Ab ((↑o0.length : Int)))), (3, A.val ((slr true 1 (slr true 1 V.bool)) s.2)), (0, A.val ((slr false 1 (slr false 1 V.bool)) (o0)))]
def Qv (o0 : List (List Bool)) (x11 : Int) : (List (List Bool)) → Tgt
 | s => ((Ex.exit 2), [11, 10, 3, 0], [(11, A.val (Ab (x11))), (10, A.val (Ab ((↑o0.length : Int)))), (3, A.val ((slr true 1 (slr true 1 V.bool)) s)), (0, A.val ((slr false 1 (slr false 1 V.bool)) (o0)))])
theorem Acc {o0 : List (List Bool)} {x11 : Int} (s : (Int × (List (List Bool)))) (o : (Int × (List (List Bool))) ⊕ (List (List Bool))) (h : Cs o0 x11 s = some o) : vc Try.prog Q0 (Bp [16, 15, 4, 11, 10, 3, 0] (K5 o0 x11) (Qv o0 x11) o) (K5 o0 x11 s) := by
 obtain ⟨x16, x3'⟩ := s
 unfold Cs at h
 try dsimp only at h
 refine Br.od h (fun p3 h => ?_) (fun p3 h => ?_)
 ·refine Len.map ?_
  refine Ask.o h fun p4 h => ?_
  refine Cells.one (fun _ => ⟨rfl, rfl⟩) (by first | omega | (simp [Am] at *; omega)) ?_
  refine Len.map ?_
  refine Ask.o h fun p5 h => ?_
  refine Elem.o (by first | omega | (simp [Am] at *; omega)) ?_
  refine Len.map ?_
  refine Ask.o h fun p6 h => ?_
  refine Elem.o (by first | omega | (simp [Am] at *; omega)) ?_
  refine Kid.one (fun _ => ⟨rfl, rfl⟩) (by first | omega | (simp [Am] at *; omega)) ?_
  refine Len.map ?_
  refine Ask.o h fun p7 h => ?_
  refine Kid.one (fun _ => ⟨rfl, rfl⟩) (by first | omega | (simp [Am] at *; omega)) ?_
  refine SetKids.one (fun _ => ⟨rfl, rfl⟩) (nth (nth o0 x16.toNat) x11.toNat) (by rfl) (by first | omega | (simp [Am] at *; omega)) ?_
  refine Kid.one (fun _ => ⟨rfl, rfl⟩) (by first | omega | (simp [Am] at *; omega)) ?_
  refine SetKids.one (fun _ => ⟨rfl, rfl⟩) ((nth x3' x11.toNat).set x16.toNat (nth (nth o0 x16.toNat) x11.toNat)) (by rfl) (by first | omega | (simp [Am] at *; omega)) ?_
  refine Ask.o h fun p8 h => ?_
  cases h; exact ⟨rfl, rfl⟩
 cases h; exact ⟨rfl, rfl⟩
noncomputable def Cu (o0 : List (List Bool)) : (Int × (List (List Bool))) → Option ((Int × (List (List Bool))) ⊕ (List (List Bool))) := fun (x11, x3) =>
 if x11 < (↑o0.length : Int) then
 (Ai (Cs o0 x11) ((0 : Int), x3)).bind fun q9_3 =>
 ask (InI (x11 + (1 : Int))) <|
 some (.inl (x11 + (1 : Int), q9_3))
 else
 some (.inr x3)
def Km (o0 : List (List Bool)) : (Int × (List (List Bool))) → St := fun s => [(11, A.val (Ab s.1)), (10, A.val (Ab ((↑o0.length : Int)))), (3, A.val ((slr true 1 (slr true 1 V.bool)) s.2)), (0, A.val ((slr false 1 (slr false 1 V.bool)) (o0)))]
def Rp (_o0 : List (List Bool)) : (List (List Bool)) → Tgt
 | s => ((Ex.exit 0), [3], [(3, A.val ((slr true 1 (slr true 1 V.bool)) s))])
theorem Ack {o0 : List (List Bool)} (s : (Int × (List (List Bool)))) (o : (Int × (List (List Bool))) ⊕ (List (List Bool))) (h : Cu o0 s = some o) : vc Try.prog Qx (Bp [11, 10, 3, 0] (Km o0) (Rp o0) o) (Km o0 s) := by
 obtain ⟨x11, x3⟩ := s
 unfold Cu at h
 try dsimp only at h
 refine Br.od h (fun p2 h => ?_) (fun p2 h => ?_)
 ·refine Len.map ?_
  refine LoopQ.o [16, 15, 4, 11, 10, 3, 0] (K5 o0 x11) (Qv o0 x11) h (fun s o h => Acc s o h) (by first | rfl | simp [restrict, look, Ad, V.fz, fzL, V.up, upL, Ae, Af, Ah, slr]) (fun _ => rfl) ?_
  rintro q9_3 h
  try dsimp only at h
  refine Ask.o h fun p10 h => ?_
  cases h; exact ⟨rfl, rfl⟩
 cases h; exact ⟨rfl, rfl⟩
noncomputable def Hr (o0 : (List (List Bool))) : Option (List (List Bool)) :=
 (F0 ((↑o0.length : Int))).bind fun r1 =>
 (Ai (Cu o0) ((0 : Int), r1)).bind fun q11_3 =>
 some q11_3
theorem Aie {o0 : (List (List Bool))} {v : (List (List Bool))} (h : Hr o0 = some v) : Ret Try.prog Oq [(slr false 1 (slr false 1 V.bool)) o0] ((slr true 1 (slr true 1 V.bool)) v) := by
 refine Av Ai5 (Nat.le_of_ble_eq_true rfl) ?_
 unfold Hr at h
 refine Len.map ?_
 refine CallQ.o (slr true 1 (slr true 1 V.bool)) (by rfl) h (fun r h => Sf h) (fun r1 h => ?_)
 refine Len.map ?_
 refine LoopQ.o [11, 10, 3, 0] (Km o0) (Rp o0) h (fun s o h => Ack s o h) (by first | rfl | simp [restrict, look, Ad, V.fz, fzL, V.up, upL, Ae, Af, Ah, slr]) (fun _ => rfl) ?_
 rintro q11_3 h
 try dsimp only at h
 cases h; exact (by rfl)
end Go.Proofs.Ytoikbcagaanhgaa.Ax
