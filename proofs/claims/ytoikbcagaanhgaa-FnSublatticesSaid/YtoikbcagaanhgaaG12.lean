/-
 What the functions compute, as functions on plain data, and that the program does compute it; written by program.
-/
import Derived.Test.YtoikbcagaanhgaaCode
import Derived.Test.YtoikbcagaanhgaaG3
import Derived.Test.YtoikbcagaanhgaaG4
import Derived.Test.YtoikbcagaanhgaaG6
import Derived.Test.YtoikbcagaanhgaaG7
import Derived.Test.YtoikbcagaanhgaaG8
import Derived.Test.YtoikbcagaanhgaaG9
import Derived.Test.YtoikbcagaanhgaaG10
import Derived.Test.YtoikbcagaanhgaaG11
namespace Go.Proofs.Ytoikbcagaanhgaa.Ax
open Go
set_option maxRecDepth 100000
set_option maxHeartbeats 4000000
noncomputable def C5 (p0 : SPoset) (x0 : Int) (y0 : Int) : Int → Option (Int ⊕ (Unit ⊕ Unit)) := fun x7 =>
 if x7 < (↑p0.Below.length : Int) then
 (G3 (p0) (x0) (x7)).bind fun r4 =>
 if (r4) = true then
 (G3 (p0) (x7) (y0)).bind fun r6 =>
 if (r6) = true then
 some (.inr (.inl ()))
 else
 ask (InI (x7 + (1 : Int))) <|
 some (.inl (x7 + (1 : Int)))
 else
 ask (InI (x7 + (1 : Int))) <|
 some (.inl (x7 + (1 : Int)))
 else
 some (.inr (.inr ()))
def Lv (p0 : SPoset) (x0 : Int) (y0 : Int) : Int → St := fun s => [(7, A.val (Ab s)), (3, A.val ((rP true (Ac false)) (p0))), (1, A.val (Ab (x0))), (2, A.val (Ab (y0)))]
def Sp (_p0 : SPoset) (_x0 : Int) (_y0 : Int) : (Unit ⊕ Unit) → Tgt
 | (.inl _s) => (Ex.ret, [6], [(6, A.val (V.bool (false)))])
 | (.inr _s) => ((Ex.exit 0), [], [])
theorem Ael {p0 : SPoset} {x0 : Int} {y0 : Int} (x7 : Int) (o : Int ⊕ (Unit ⊕ Unit)) (h : C5 p0 x0 y0 x7 = some o) : vc Try.prog Sm (Bp [7, 3, 1, 2] (Lv p0 x0 y0) (Sp p0 x0 y0) o) (Lv p0 x0 y0 x7) := by
 unfold C5 at h
 try dsimp only at h
 refine Cells.lit rfl rfl ?_
 refine Len.map ?_
 refine Br.od h (fun p3 h => ?_) (fun p3 h => ?_)
 ·refine Cells.lit rfl rfl ?_
  refine CallQ.o V.bool (by rfl) h (fun r h => T9 h) (fun r4 h => ?_)
  refine Br.ob h (fun p5 h => ?_) (fun p5 h => ?_)
  ·refine Cells.lit rfl rfl ?_
   iterate 3 refine Br.yes ?_
   refine CallQ.o V.bool (by rfl) h (fun r h => T9 h) (fun r6 h => ?_)
   refine Br.yes ?_
   refine Br.ob h (fun p7 h => ?_) (fun p7 h => ?_)
   ·cases h; exact ⟨rfl, rfl⟩
   refine Ask.o h fun p8 h => ?_
   cases h; exact ⟨rfl, rfl⟩
  iterate 5 refine Br.no ?_
  refine Ask.o h fun p9 h => ?_
  cases h; exact ⟨rfl, rfl⟩
 cases h; exact ⟨rfl, rfl⟩
noncomputable def In (p0 : SPoset) (x0 : Int) (y0 : Int) : Option Bool :=
 (G3 (p0) (x0) (y0)).bind fun r1 =>
 if (r1) = true then
 (Ai (C5 p0 x0 y0) (0 : Int)).bind fun t => match t with
 | (.inl _) => (some false)
 | (.inr _) => (some true)
 else
 some false
theorem Aj6 {p0 : SPoset} {x0 : Int} {y0 : Int} {v : Bool} (h : In p0 x0 y0 = some v) : Ret Try.prog Pw [(Ac false) p0, Ab x0, Ab y0] (V.bool v) := by
 refine Av Ajj (Nat.le_of_ble_eq_true rfl) ?_
 unfold In at h
 refine Cells.lit rfl rfl ?_
 refine CallQ.o V.bool (by rfl) h (fun r h => T9 h) (fun r1 h => ?_)
 refine Br.flip ?_
 refine Br.ob h (fun p2 h => ?_) (fun p2 h => ?_)
 ·refine LoopQ.o [7, 3, 1, 2] (Lv p0 x0 y0) (Sp p0 x0 y0) h (fun s o h => Ael s o h) (by first | rfl | simp [restrict, look, Ad, V.fz, fzL, V.up, upL, Ae, Af, Ah, slr]) (by rintro (_ | _) <;> rfl) ?_
  rintro (⟨⟩ | ⟨⟩) h
  ·try dsimp only at h
   cases h; exact (by rfl)
  try dsimp only at h
  cases h; exact (by rfl)
 cases h; exact (by rfl)
noncomputable def Fj (c0 : Sl1Cur) (p0 : SPoset) : Option (Int × Sl1Cur) :=
 if (↑p0.Below.length : Int) = (0 : Int) then
 (Cc (c0) ([(-1 : Int), (↑p0.Below.length : Int)])).bind fun (r2, u3) =>
 some (r2, u3)
 else
 (Bn (c0) ((24 : Int))).bind fun (r4, u5) =>
 if (r4) = true then
 (Cc (u5) ([(-1 : Int), (↑p0.Below.length : Int)])).bind fun (r7, u8) =>
 some (r7, u8)
 else
 (A5 (u5) ((↑p0.Below.length : Int))).bind fun (r9, u10) =>
 some (r9, u10)
theorem Ac5 {c0 : Sl1Cur} {p0 : SPoset} {v : (Int × Sl1Cur)} (h : Fj c0 p0 = some v) : Abw Try.prog Ky [(rP true (Ak false)) c0, (Ac false) p0] (Ab v.1) 0 ((rP true (Ak false)) v.2) := by
 refine Vm Acq (Nat.le_of_ble_eq_true rfl) ?_
 unfold Fj at h
 refine Cells.lit rfl rfl ?_
 refine Len.map ?_
 refine Br.oe h (fun p1 h => ?_) (fun p1 h => ?_)
 ·refine Br.yes ?_
  iterate 2 refine Br.yes ?_
  refine Cells.lit rfl rfl ?_
  refine Len.map ?_
  refine BslQ.o Ab ([(-1 : Int), (↑p0.Below.length : Int)]) (by exact fun _ => ⟨rfl, rfl⟩) (by rfl) ?_
  refine CallQ.io Ab (rP true (Ak false)) (by rfl) rfl (fun _ => rfl) (fun _ => ⟨rfl, rfl⟩) rfl h (fun r h => Gr h) (fun r2 u3 h => ?_)
  cases h; exact ⟨(by rfl), (by rfl)⟩
 refine Br.no ?_
 refine CallQ.io V.bool (rP true (Ak false)) (by rfl) rfl (fun _ => rfl) (fun _ => ⟨rfl, rfl⟩) rfl h (fun r h => Fe h) (fun r4 u5 h => ?_)
 refine Br.no ?_
 refine Br.ob h (fun p6 h => ?_) (fun p6 h => ?_)
 ·refine Cells.lit rfl rfl ?_
  refine Len.map ?_
  refine BslQ.o Ab ([(-1 : Int), (↑p0.Below.length : Int)]) (by exact fun _ => ⟨rfl, rfl⟩) (by rfl) ?_
  refine CallQ.io Ab (rP true (Ak false)) (by rfl) rfl (fun _ => rfl) (fun _ => ⟨rfl, rfl⟩) rfl h (fun r h => Gr h) (fun r7 u8 h => ?_)
  cases h; exact ⟨(by rfl), (by rfl)⟩
 refine Cells.lit rfl rfl ?_
 refine Len.map ?_
 refine CallQ.io Ab (rP true (Ak false)) (by rfl) rfl (fun _ => rfl) (fun _ => ⟨rfl, rfl⟩) rfl h (fun r h => Bo h) (fun r9 u10 h => ?_)
 cases h; exact ⟨(by rfl), (by rfl)⟩
noncomputable def C9 (p0 : SPoset) : Option (SAlgebra × Bool) :=
 (Fh (p0)).bind fun r1 =>
 if (r1) = true then
 if (↑p0.Below.length : Int) > (8 : Int) then
 some ({ Size := (0 : Int), Ops := Ao SOp }, false)
 else
 (Hs (p0)).bind fun r4 =>
 some (r4, true)
 else
 some ({ Size := (0 : Int), Ops := Ao SOp }, false)
theorem Abk {p0 : SPoset} {v : (SAlgebra × Bool)} (h : C9 p0 = some v) : Ret Try.prog Ju [(Ac false) p0] ((fun r => V.tup [(Ap true) r.1, V.bool r.2]) v) := by
 refine Av Abr (Nat.le_of_ble_eq_true rfl) ?_
 unfold C9 at h
 refine Cells.lit rfl rfl ?_
 refine CallQ.o V.bool (by rfl) h (fun r h => Of h) (fun r1 h => ?_)
 refine Br.flip ?_
 refine Br.ob h (fun p2 h => ?_) (fun p2 h => ?_)
 ·refine Br.no ?_
  refine Cells.lit rfl rfl ?_
  refine Br.no ?_
  refine Len.map ?_
  iterate 2 refine Br.no ?_
  refine Br.od h (fun p3 h => ?_) (fun p3 h => ?_)
  ·refine SetKids.lit rfl ?_
   cases h; exact (by rfl)
  refine Cells.lit rfl rfl ?_
  refine CallQ.o (Ap true) (by rfl) h (fun r h => Ai7 h) (fun r4 h => ?_)
  refine SetKids.lit rfl ?_
  cases h; exact (by rfl)
 iterate 5 refine Br.yes ?_
 refine SetKids.lit rfl ?_
 cases h; exact (by rfl)
noncomputable def Dw (a0 : SAlgebra) (sub0 : (List Int)) : Option (Bool × Bool) :=
 (Ik (a0)).bind fun r1 =>
 if (r1) = true then
 (N1 (a0) (sub0)).bind fun r3 =>
 some (r3, true)
 else
 some (false, false)
theorem Aby {a0 : SAlgebra} {sub0 : (List Int)} {v : (Bool × Bool)} (h : Dw a0 sub0 = some v) : Ret Try.prog K7 [(Ap false) a0, (slr false 1 Ab) sub0] ((fun r => V.tup [V.bool r.1, V.bool r.2]) v) := by
 refine Av Acp (Nat.le_of_ble_eq_true rfl) ?_
 unfold Dw at h
 refine Cells.lit rfl rfl ?_
 refine CallQ.o V.bool (by rfl) h (fun r h => Akb h) (fun r1 h => ?_)
 refine Br.flip ?_
 refine Br.ob h (fun p2 h => ?_) (fun p2 h => ?_)
 ·refine Cells.lit rfl rfl ?_
  refine CallQ.o V.bool (by rfl) h (fun r h => Au8 h) (fun r3 h => ?_)
  cases h; exact (by rfl)
 cases h; exact (by rfl)
noncomputable def Dy (a0 : SAlgebra) (sub0 : (List Int)) : Option (Bool × Bool) :=
 (L0 (a0)).bind fun r1 =>
 if (r1) = true then
 (Rl (a0) (sub0)).bind fun r3 =>
 some (r3, true)
 else
 some (false, false)
theorem Adh {a0 : SAlgebra} {sub0 : (List Int)} {v : (Bool × Bool)} (h : Dy a0 sub0 = some v) : Ret Try.prog Ke [(Ap false) a0, (slr false 1 Ab) sub0] ((fun r => V.tup [V.bool r.1, V.bool r.2]) v) := by
 refine Av Aca (Nat.le_of_ble_eq_true rfl) ?_
 unfold Dy at h
 refine Cells.lit rfl rfl ?_
 refine CallQ.o V.bool (by rfl) h (fun r h => Ark h) (fun r1 h => ?_)
 refine Br.flip ?_
 refine Br.ob h (fun p2 h => ?_) (fun p2 h => ?_)
 ·refine Cells.lit rfl rfl ?_
  refine CallQ.o V.bool (by rfl) h (fun r h => Avp h) (fun r3 h => ?_)
  cases h; exact (by rfl)
 cases h; exact (by rfl)
noncomputable def Jm (p0 : SPoset) (some0 : (List Int)) : Option Bool :=
 if (↑some0.length : Int) > (0 : Int) then
 ask (InI ((↑p0.Below.length : Int) - (1 : Int))) <|
 (Fx (some0) ((0 : Int)) ((↑p0.Below.length : Int) - (1 : Int))).bind fun r3 =>
 if (r3) = true then
 (Fw (p0) (some0)).bind fun r5 =>
 (Ji (r5) (some0)).bind fun r6 =>
 some r6
 else
 some false
 else
 some false
theorem Aev {p0 : SPoset} {some0 : (List Int)} {v : Bool} (h : Jm p0 some0 = some v) : Ret Try.prog Qp [(Ac false) p0, (slr false 1 Ab) some0] (V.bool v) := by
 refine Av Aqz (Nat.le_of_ble_eq_true rfl) ?_
 unfold Jm at h
 refine Len.map ?_
 refine Br.od h (fun p1 h => ?_) (fun p1 h => ?_)
 ·refine Br.yes ?_
  refine Br.yes ?_
  refine Cells.lit rfl rfl ?_
  refine Br.yes ?_
  refine Len.map ?_
  refine Br.yes ?_
  refine Ask.o h fun p2 h => ?_
  refine Br.yes ?_
  refine CallQ.o V.bool (by rfl) h (fun r h => Sl h) (fun r3 h => ?_)
  refine Br.yes ?_
  refine Br.ob h (fun p4 h => ?_) (fun p4 h => ?_)
  ·refine Cells.lit rfl rfl ?_
   iterate 2 refine Br.yes ?_
   refine CallQ.o (slr false 1 Ab) (by rfl) h (fun r h => R9 h) (fun r5 h => ?_)
   iterate 2 refine Br.yes ?_
   refine CallQ.o V.bool (by rfl) h (fun r h => Ae5 h) (fun r6 h => ?_)
   refine Br.yes ?_
   cases h; exact (by rfl)
  iterate 5 refine Br.no ?_
  cases h; exact (by rfl)
 iterate 12 refine Br.no ?_
 cases h; exact (by rfl)
noncomputable def Iw (p0 : SPoset) (some0 : (List Int)) : Option Bool :=
 (Fh (p0)).bind fun r1 =>
 if (r1) = true then
 if (↑some0.length : Int) ≤ (20 : Int) then
 (Fs ((↑p0.Below.length : Int)) (some0)).bind fun r4 =>
 some r4
 else
 some false
 else
 some false
theorem Adq {p0 : SPoset} {some0 : (List Int)} {v : Bool} (h : Iw p0 some0 = some v) : Ret Try.prog Nx [(Ac false) p0, (slr false 1 Ab) some0] (V.bool v) := by
 refine Av Aop (Nat.le_of_ble_eq_true rfl) ?_
 unfold Iw at h
 refine Cells.lit rfl rfl ?_
 refine CallQ.o V.bool (by rfl) h (fun r h => Of h) (fun r1 h => ?_)
 refine Br.ob h (fun p2 h => ?_) (fun p2 h => ?_)
 ·refine Br.yes ?_
  refine Len.map ?_
  iterate 2 refine Br.yes ?_
  refine Br.od h (fun p3 h => ?_) (fun p3 h => ?_)
  ·refine Br.yes ?_
   refine Cells.lit rfl rfl ?_
   refine Br.yes ?_
   refine Len.map ?_
   iterate 2 refine Br.yes ?_
   refine CallQ.o V.bool (by rfl) h (fun r h => We h) (fun r4 h => ?_)
   refine Br.yes ?_
   cases h; exact (by rfl)
  iterate 5 refine Br.no ?_
  cases h; exact (by rfl)
 iterate 9 refine Br.no ?_
 cases h; exact (by rfl)
end Go.Proofs.Ytoikbcagaanhgaa.Ax
