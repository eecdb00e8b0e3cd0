/-
 What the functions compute, as functions on plain data, and that the program does compute it; written by program.
-/
import Derived.Test.YtoikbcagaanhgaaCode
import Derived.Test.YtoikbcagaanhgaaG1
import Derived.Test.YtoikbcagaanhgaaG6
import Derived.Test.YtoikbcagaanhgaaG7
import Derived.Test.YtoikbcagaanhgaaG8
import Derived.Test.YtoikbcagaanhgaaG9
namespace Go.Proofs.Ytoikbcagaanhgaa.Ax
open Go
set_option maxRecDepth 100000
set_option maxHeartbeats 4000000
noncomputable def Jj (p0 : SPoset) (x0 : Int) (y0 : Int) : Option (Int × Bool) :=
 (B1 (p0)).bind fun t => match t with
 | (none, r1_2) => (((if (r1_2) = true then
 none
 else
 some () : Option Unit)).bind fun _ =>
 some ((0 : Int), false))
 | ((some r1_1), r1_2) => (((if (r1_2) = true then
 (Dt (r1_1.order) ([x0, y0])).bind fun r5 =>
 if (r5) = true then
 some (.inl ())
 else
 some (.inr ())
 else
 some (.inr ()) : Option (Unit ⊕ Unit))).bind fun t => match t with
 | (.inl _) => (ask ((0 : Int) ≤ x0 ∧ x0 < (↑r1_1.meets.length : Int)) <|
 ask ((0 : Int) ≤ y0 ∧ y0 < (↑(nth r1_1.meets x0.toNat).length : Int)) <|
 some (nth (nth r1_1.meets x0.toNat) y0.toNat, true))
 | (.inr _) => (some ((0 : Int), false)))
theorem Ae9 {p0 : SPoset} {x0 : Int} {y0 : Int} {v : (Int × Bool)} (h : Jj p0 x0 y0 = some v) : Ret Try.prog Qr [(Ac false) p0, Ab x0, Ab y0] ((fun r => V.tup [Ab r.1, V.bool r.2]) v) := by
 refine Av Aqk (Nat.le_of_ble_eq_true rfl) ?_
 unfold Jj at h
 refine Cells.lit rfl rfl ?_
 refine CallQ.o (fun r => V.tup [(rO true (Bb true)) r.1, V.bool r.2]) (by rfl) h (fun r h => Gn h) (fun r1 h => ?_)
 rcases r1 with ⟨(_ | r1_1), r1_2⟩
 ·try dsimp only at h
  refine CutQ.o (fun t : Unit => match t with | s => (Ex.ret, [7, 6], [(7, A.val (V.bool (false))), (6, A.val (Ab ((0 : Int))))])) h ?_ ?_
  ·intro t h
   refine Br.flip ?_
   refine Br.ob h (fun p2 h => ?_) (fun p2 h => ?_)
   ·refine Br.no ?_
    cases h
   iterate 10 refine Br.yes ?_
   cases h; exact ⟨rfl, rfl⟩
  rintro ⟨⟩ h
  try dsimp only at h
  cases h; exact (by rfl)
 try dsimp only at h
 refine CutQ.o (fun t : (Unit ⊕ Unit) => match t with | (.inl s) => (Ex.normal, [8, 1, 2], [(8, A.val ((rP true (Bb true)) (r1_1))), (1, A.val (Ab (x0))), (2, A.val (Ab (y0)))]) | (.inr s) => (Ex.ret, [7, 6], [(7, A.val (V.bool (false))), (6, A.val (Ab ((0 : Int))))])) h ?_ ?_
 ·intro t h
  refine Br.flip ?_
  refine Br.ob h (fun p4 h => ?_) (fun p4 h => ?_)
  ·refine Br.no ?_
   iterate 2 refine Br.no ?_
   refine Cells.lit rfl rfl ?_
   iterate 3 refine Br.no ?_
   refine BslQ.o Ab ([x0, y0]) (by exact fun _ => ⟨rfl, rfl⟩) (by rfl) ?_
   refine Br.no ?_
   refine Kid.lit rfl rfl ?_
   refine CallQ.rd V.bool (by first | rfl | simp only [V.fz, Ae, slr] | simp [Ad, V.fz, fzL, V.up, upL, Ae, Af, Ah, slr]) (fun _ => rfl) h (fun r h => P1 h) (fun r5 h => ?_)
   iterate 2 refine Br.no ?_
   refine Br.flip ?_
   refine Br.ob h (fun p6 h => ?_) (fun p6 h => ?_)
   ·cases h; exact ⟨rfl, rfl⟩
   cases h; exact ⟨rfl, rfl⟩
  iterate 10 refine Br.yes ?_
  cases h; exact ⟨rfl, rfl⟩
 rintro (⟨⟩ | ⟨⟩) h
 ·try dsimp only at h
  refine Cells.lit rfl rfl ?_
  refine Kid.lit rfl rfl ?_
  refine Len.map ?_
  refine Ask.o h fun p8 h => ?_
  refine Kid.lit rfl rfl ?_
  refine Cells.one (fun _ => ⟨rfl, rfl⟩) (by first | omega | (simp [Am] at *; omega)) ?_
  refine Kid.lit rfl rfl ?_
  refine Kid.one (fun _ => ⟨rfl, rfl⟩) (by first | omega | (simp [Am] at *; omega)) ?_
  refine Len.map ?_
  refine Ask.o h fun p9 h => ?_
  refine Kid.lit rfl rfl ?_
  refine Kid.one (fun _ => ⟨rfl, rfl⟩) (by first | omega | (simp [Am] at *; omega)) ?_
  refine Cells.one (fun _ => ⟨rfl, rfl⟩) (by first | omega | (simp [Am] at *; omega)) ?_
  cases h; exact (by rfl)
 try dsimp only at h
 cases h; exact (by rfl)
noncomputable def C4 (p0 : SPoset) (some0 : (List Int)) : Option (Bool × Bool) :=
 (B1 (p0)).bind fun t => match t with
 | (none, r1_2) => (if (r1_2) = true then
 none
 else
 some (false, false))
 | ((some r1_1), r1_2) => (if (r1_2) = true then
 (B4 (r1_1) (some0)).bind fun r4 =>
 some (r4, true)
 else
 some (false, false))
theorem Sr {p0 : SPoset} {some0 : (List Int)} {v : (Bool × Bool)} (h : C4 p0 some0 = some v) : Ret Try.prog Ig [(Ac false) p0, (slr false 1 Ab) some0] ((fun r => V.tup [V.bool r.1, V.bool r.2]) v) := by
 refine Av Aeq (Nat.le_of_ble_eq_true rfl) ?_
 unfold C4 at h
 refine Cells.lit rfl rfl ?_
 refine CallQ.o (fun r => V.tup [(rO true (Bb true)) r.1, V.bool r.2]) (by rfl) h (fun r h => Gn h) (fun r1 h => ?_)
 rcases r1 with ⟨(_ | r1_1), r1_2⟩
 ·try dsimp only at h
  refine Br.flip ?_
  refine Br.ob h (fun p2 h => ?_) (fun p2 h => ?_)
  ·cases h
  cases h; exact (by rfl)
 try dsimp only at h
 refine Br.flip ?_
 refine Br.ob h (fun p3 h => ?_) (fun p3 h => ?_)
 ·refine CallQ.rd V.bool (by first | rfl | simp only [V.fz, fzL, V.up, Ae, slr] | simp [Ad, V.fz, fzL, V.up, upL, Ae, Af, Ah, slr]) (fun _ => rfl) h (fun r h => J6 h) (fun r4 h => ?_)
  cases h; exact (by rfl)
 cases h; exact (by rfl)
noncomputable def Eb (p0 : SPoset) (sub0 : (List Int)) : Option (SPoset × Bool) :=
 (B1 (p0)).bind fun t => match t with
 | (none, r1_2) => (((if (r1_2) = true then
 none
 else
 some () : Option Unit)).bind fun _ =>
 some ({ Below := Ao (List Int) }, false))
 | ((some r1_1), r1_2) => (((if (r1_2) = true then
 (B4 (r1_1) (sub0)).bind fun r5 =>
 if (r5) = true then
 some (.inl ())
 else
 some (.inr ())
 else
 some (.inr ()) : Option (Unit ⊕ Unit))).bind fun t => match t with
 | (.inl _) => ((E1 (r1_1.order) (sub0)).bind fun r8 =>
 (G0 (r8)).bind fun r9 =>
 some (r9, true))
 | (.inr _) => (some ({ Below := Ao (List Int) }, false)))
theorem Za {p0 : SPoset} {sub0 : (List Int)} {v : (SPoset × Bool)} (h : Eb p0 sub0 = some v) : Ret Try.prog I4 [(Ac false) p0, (slr false 1 Ab) sub0] ((fun r => V.tup [(Ac true) r.1, V.bool r.2]) v) := by
 refine Av Z4 (Nat.le_of_ble_eq_true rfl) ?_
 unfold Eb at h
 refine Cells.lit rfl rfl ?_
 refine CallQ.o (fun r => V.tup [(rO true (Bb true)) r.1, V.bool r.2]) (by rfl) h (fun r h => Gn h) (fun r1 h => ?_)
 rcases r1 with ⟨(_ | r1_1), r1_2⟩
 ·try dsimp only at h
  refine CutQ.o (fun t : Unit => match t with | s => (Ex.ret, [5, 4], [(5, A.val (V.bool (false))), (4, A.val ((rP true (Ac true)) ({ Below := Ao (List Int) })))])) h ?_ ?_
  ·intro t h
   refine Br.flip ?_
   refine Br.ob h (fun p2 h => ?_) (fun p2 h => ?_)
   ·refine Br.no ?_
    refine Br.no ?_
    cases h
   iterate 5 refine Br.yes ?_
   refine SetKids.lit rfl ?_
   cases h; exact ⟨rfl, rfl⟩
  rintro ⟨⟩ h
  try dsimp only at h
  cases h; exact (by rfl)
 try dsimp only at h
 refine CutQ.o (fun t : (Unit ⊕ Unit) => match t with | (.inl s) => (Ex.normal, [6, 4, 1], [(6, A.val ((rP true (Bb true)) (r1_1))), (4, A.val ((rP true (Ac true)) ({ Below := Ao (List Int) }))), (1, A.val ((slr false 1 Ab) (sub0)))]) | (.inr s) => (Ex.ret, [5, 4], [(5, A.val (V.bool (false))), (4, A.val ((rP true (Ac true)) ({ Below := Ao (List Int) })))])) h ?_ ?_
 ·intro t h
  refine Br.flip ?_
  refine Br.ob h (fun p4 h => ?_) (fun p4 h => ?_)
  ·refine Br.no ?_
   refine Br.no ?_
   refine CallQ.rd V.bool (by first | rfl | simp only [V.fz, fzL, V.up, Ae, slr] | simp [Ad, V.fz, fzL, V.up, upL, Ae, Af, Ah, slr]) (fun _ => rfl) h (fun r h => J6 h) (fun r5 h => ?_)
   iterate 2 refine Br.no ?_
   refine Br.flip ?_
   refine Br.ob h (fun p6 h => ?_) (fun p6 h => ?_)
   ·cases h; exact ⟨rfl, rfl⟩
   refine SetKids.lit rfl ?_
   cases h; exact ⟨rfl, rfl⟩
  iterate 5 refine Br.yes ?_
  refine SetKids.lit rfl ?_
  cases h; exact ⟨rfl, rfl⟩
 rintro (⟨⟩ | ⟨⟩) h
 ·try dsimp only at h
  refine Cells.lit rfl rfl ?_
  refine Kid.lit rfl rfl ?_
  refine CallQ.rd (slr true 1 (slr true 1 V.bool)) (by first | rfl | simp only [V.fz, V.up, Ae, slr] | simp [Ad, V.fz, fzL, V.up, upL, Ae, Af, Ah, slr]) (fun _ => by simp [V.noFz, Aq]) h (fun r h => Aa2 h) (fun r8 h => ?_)
  refine CallQ.rd (Ac true) (by first | rfl | simp only [V.fz, Ae, slr] | simp [Ad, V.fz, fzL, V.up, upL, Ae, Af, Ah, slr]) (fun _ => by simp [V.noFz, Ba, Aq]) h (fun r h => Afm h) (fun r9 h => ?_)
  refine SetKids.lit rfl ?_
  cases h; exact (by rfl)
 try dsimp only at h
 cases h; exact (by rfl)
noncomputable def Cb (p0 : SPoset) (some0 : (List Int)) : Option ((List Int) × Bool) :=
 (B1 (p0)).bind fun t => match t with
 | (none, r1_2) => (if (r1_2) = true then
 if (↑some0.length : Int) = (0 : Int) then
 some (Ao Int, false)
 else
 if (↑some0.length : Int) > (20 : Int) then
 some (Ao Int, false)
 else
 none
 else
 some (Ao Int, false))
 | ((some r1_1), r1_2) => (if (r1_2) = true then
 if (↑some0.length : Int) = (0 : Int) then
 some (Ao Int, false)
 else
 if (↑some0.length : Int) > (20 : Int) then
 some (Ao Int, false)
 else
 (Dt (r1_1.order) (some0)).bind fun r8 =>
 if (r8) = true then
 (Cg (r1_1) (some0)).bind fun r10 =>
 some (r10, true)
 else
 some (Ao Int, false)
 else
 some (Ao Int, false))
theorem Ut {p0 : SPoset} {some0 : (List Int)} {v : ((List Int) × Bool)} (h : Cb p0 some0 = some v) : Ret Try.prog Hf [(Ac false) p0, (slr false 1 Ab) some0] ((fun r => V.tup [(slr true 1 Ab) r.1, V.bool r.2]) v) := by
 refine Av Uu (Nat.le_of_ble_eq_true rfl) ?_
 unfold Cb at h
 refine Cells.lit rfl rfl ?_
 refine CallQ.o (fun r => V.tup [(rO true (Bb true)) r.1, V.bool r.2]) (by rfl) h (fun r h => Gn h) (fun r1 h => ?_)
 rcases r1 with ⟨(_ | r1_1), r1_2⟩
 ·try dsimp only at h
  refine Br.flip ?_
  refine Br.ob h (fun p2 h => ?_) (fun p2 h => ?_)
  ·refine Br.no ?_
   refine Len.map ?_
   iterate 2 refine Br.no ?_
   refine Br.oe h (fun p3 h => ?_) (fun p3 h => ?_)
   ·refine Br.yes ?_
    iterate 11 refine Br.yes ?_
    refine BslQ.o Ab (Ao Int) (by exact fun _ => ⟨rfl, rfl⟩) (by rfl) ?_
    cases h; exact (by rfl)
   refine Br.no ?_
   refine Len.map ?_
   iterate 2 refine Br.no ?_
   refine Br.od h (fun p4 h => ?_) (fun p4 h => ?_)
   ·refine Br.yes ?_
    iterate 7 refine Br.yes ?_
    refine BslQ.o Ab (Ao Int) (by exact fun _ => ⟨rfl, rfl⟩) (by rfl) ?_
    cases h; exact (by rfl)
   refine Br.no ?_
   cases h
  iterate 16 refine Br.yes ?_
  refine BslQ.o Ab (Ao Int) (by exact fun _ => ⟨rfl, rfl⟩) (by rfl) ?_
  cases h; exact (by rfl)
 try dsimp only at h
 refine Br.flip ?_
 refine Br.ob h (fun p5 h => ?_) (fun p5 h => ?_)
 ·refine Br.no ?_
  refine Len.map ?_
  iterate 2 refine Br.no ?_
  refine Br.oe h (fun p6 h => ?_) (fun p6 h => ?_)
  ·refine Br.yes ?_
   iterate 11 refine Br.yes ?_
   refine BslQ.o Ab (Ao Int) (by exact fun _ => ⟨rfl, rfl⟩) (by rfl) ?_
   cases h; exact (by rfl)
  refine Br.no ?_
  refine Len.map ?_
  iterate 2 refine Br.no ?_
  refine Br.od h (fun p7 h => ?_) (fun p7 h => ?_)
  ·refine Br.yes ?_
   iterate 7 refine Br.yes ?_
   refine BslQ.o Ab (Ao Int) (by exact fun _ => ⟨rfl, rfl⟩) (by rfl) ?_
   cases h; exact (by rfl)
  iterate 3 refine Br.no ?_
  refine Cells.lit rfl rfl ?_
  iterate 2 refine Br.no ?_
  refine Kid.lit rfl rfl ?_
  refine CallQ.rd V.bool (by first | rfl | simp only [V.fz, V.up, Ae, slr] | simp [Ad, V.fz, fzL, V.up, upL, Ae, Af, Ah, slr]) (fun _ => rfl) h (fun r h => P1 h) (fun r8 h => ?_)
  iterate 2 refine Br.no ?_
  refine Br.flip ?_
  refine Br.ob h (fun p9 h => ?_) (fun p9 h => ?_)
  ·refine CallQ.rd (slr true 1 Ab) (by first | rfl | simp only [V.fz, fzL, V.up, Ae, slr] | simp [Ad, V.fz, fzL, V.up, upL, Ae, Af, Ah, slr]) (fun _ => by simp [V.noFz, Aq]) h (fun r h => L4 h) (fun r10 h => ?_)
   cases h; exact (by rfl)
  refine BslQ.o Ab (Ao Int) (by exact fun _ => ⟨rfl, rfl⟩) (by rfl) ?_
  cases h; exact (by rfl)
 iterate 16 refine Br.yes ?_
 refine BslQ.o Ab (Ao Int) (by exact fun _ => ⟨rfl, rfl⟩) (by rfl) ?_
 cases h; exact (by rfl)
noncomputable def Cm (p0 : SPoset) (r5 : SPoset) (x4 : Int) : Int → Option (Int ⊕ (Unit ⊕ Unit)) := fun x5 =>
 if x5 < x4 then
 (B0 (p0) ([x4, x5])).bind fun r8 =>
 if r8 < (0 : Int) then
 some (.inr (.inl ()))
 else
 (B0 (r5) ([x4, x5])).bind fun r10 =>
 if r10 < (0 : Int) then
 some (.inr (.inl ()))
 else
 ask (InI (x5 + (1 : Int))) <|
 some (.inl (x5 + (1 : Int)))
 else
 some (.inr (.inr ()))
def Ol (p0 : SPoset) (r5 : SPoset) (x4 : Int) : Int → St := fun s => [(5, A.val (Ab s)), (4, A.val (Ab (x4))), (3, A.val ((rP true (Ac true)) (r5))), (1, A.val ((rP true (Ac false)) (p0)))]
def V5 (p0 : SPoset) (r5 : SPoset) (x4 : Int) : (Unit ⊕ Unit) → Tgt
 | (.inl _s) => (Ex.ret, [2], [(2, A.val (V.bool (false)))])
 | (.inr _s) => ((Ex.exit 2), [4, 3, 1], [(4, A.val (Ab (x4))), (3, A.val ((rP true (Ac true)) (r5))), (1, A.val ((rP true (Ac false)) (p0)))])
theorem Aih {p0 : SPoset} {r5 : SPoset} {x4 : Int} (x5 : Int) (o : Int ⊕ (Unit ⊕ Unit)) (h : Cm p0 r5 x4 x5 = some o) : vc Try.prog U9 (Bp [5, 4, 3, 1] (Ol p0 r5 x4) (V5 p0 r5 x4) o) (Ol p0 r5 x4 x5) := by
 unfold Cm at h
 try dsimp only at h
 refine Br.od h (fun p7 h => ?_) (fun p7 h => ?_)
 ·refine Cells.lit rfl rfl ?_
  refine BslQ.o Ab ([x4, x5]) (by exact fun _ => ⟨rfl, rfl⟩) (by rfl) ?_
  refine CallQ.rd Ab (by rfl) (fun _ => rfl) h (fun r h => Hn h) (fun r8 h => ?_)
  refine Br.od h (fun p9 h => ?_) (fun p9 h => ?_)
  ·refine Br.yes ?_
   iterate 6 refine Br.yes ?_
   cases h; exact ⟨rfl, rfl⟩
  refine Cells.lit rfl rfl ?_
  iterate 3 refine Br.no ?_
  refine BslQ.o Ab ([x4, x5]) (by exact fun _ => ⟨rfl, rfl⟩) (by rfl) ?_
  refine Br.no ?_
  refine CallQ.rd Ab (by first | rfl | simp only [V.fz, Ae, slr] | simp [Ad, V.fz, fzL, V.up, upL, Ae, Af, Ah, slr]) (fun _ => rfl) h (fun r h => Hn h) (fun r10 h => ?_)
  iterate 2 refine Br.no ?_
  refine Br.od h (fun p11 h => ?_) (fun p11 h => ?_)
  ·cases h; exact ⟨rfl, rfl⟩
  refine Ask.o h fun p12 h => ?_
  cases h; exact ⟨rfl, rfl⟩
 cases h; exact ⟨rfl, rfl⟩
noncomputable def D8 (p0 : SPoset) (r5 : SPoset) : Int → Option (Int ⊕ (Unit ⊕ Unit)) := fun x4 =>
 if x4 < (↑p0.Below.length : Int) then
 (Ai (Cm p0 r5 x4) (0 : Int)).bind fun t => match t with
 | (.inl _) => (some (.inr (.inl ())))
 | (.inr _) => (ask (InI (x4 + (1 : Int))) <|
 some (.inl (x4 + (1 : Int))))
 else
 some (.inr (.inr ()))
def N9 (p0 : SPoset) (r5 : SPoset) : Int → St := fun s => [(4, A.val (Ab s)), (3, A.val ((rP true (Ac true)) (r5))), (1, A.val ((rP true (Ac false)) (p0)))]
def V7 (_p0 : SPoset) (_r5 : SPoset) : (Unit ⊕ Unit) → Tgt
 | (.inl _s) => (Ex.ret, [2], [(2, A.val (V.bool (false)))])
 | (.inr _s) => ((Ex.exit 0), [], [])
theorem Ahl {p0 : SPoset} {r5 : SPoset} (x4 : Int) (o : Int ⊕ (Unit ⊕ Unit)) (h : D8 p0 r5 x4 = some o) : vc Try.prog Vd (Bp [4, 3, 1] (N9 p0 r5) (V7 p0 r5) o) (N9 p0 r5 x4) := by
 unfold D8 at h
 try dsimp only at h
 refine Cells.lit rfl rfl ?_
 refine Len.map ?_
 refine Br.od h (fun p6 h => ?_) (fun p6 h => ?_)
 ·refine LoopQ.o [5, 4, 3, 1] (Ol p0 r5 x4) (V5 p0 r5 x4) h (fun s o h => Aih s o h) (by first | rfl | simp [restrict, look, Ad, V.fz, fzL, V.up, upL, Ae, Af, Ah, slr]) (by rintro (_ | _) <;> rfl) ?_
  rintro (⟨⟩ | ⟨⟩) h
  ·try dsimp only at h
   cases h; exact ⟨rfl, rfl⟩
  try dsimp only at h
  refine Ask.o h fun p14 h => ?_
  cases h; exact ⟨rfl, rfl⟩
 cases h; exact ⟨rfl, rfl⟩
noncomputable def Fh (p0 : SPoset) : Option Bool :=
 (((Kg (p0)).bind fun r1 =>
 if (r1) = true then
 if (↑p0.Below.length : Int) = (0 : Int) then
 some (.inl ())
 else
 some (.inr ())
 else
 some (.inl ()) : Option (Unit ⊕ Unit))).bind fun t => match t with
 | (.inl _) => (some false)
 | (.inr _) => ((Gq (p0)).bind fun r5 =>
 (Ai (D8 p0 r5) (0 : Int)).bind fun t => match t with
 | (.inl _) => (some false)
 | (.inr _) => (some true))
theorem Of {p0 : SPoset} {v : Bool} (h : Fh p0 = some v) : Ret Try.prog Ix [(Ac false) p0] (V.bool v) := by
 refine Av Anj (Nat.le_of_ble_eq_true rfl) ?_
 unfold Fh at h
 refine CutQ.o (fun t : (Unit ⊕ Unit) => match t with | (.inl s) => (Ex.ret, [2], [(2, A.val (V.bool (false)))]) | (.inr s) => (Ex.normal, [1], [(1, A.val ((rP true (Ac false)) (p0)))])) h ?_ ?_
 ·intro t h
  refine Cells.lit rfl rfl ?_
  refine CallQ.o V.bool (by rfl) h (fun r h => Aoh h) (fun r1 h => ?_)
  refine Br.flip ?_
  refine Br.ob h (fun p2 h => ?_) (fun p2 h => ?_)
  ·refine Br.no ?_
   refine Cells.lit rfl rfl ?_
   refine Br.no ?_
   refine Len.map ?_
   iterate 2 refine Br.no ?_
   refine Br.oe h (fun p3 h => ?_) (fun p3 h => ?_)
   ·cases h; exact ⟨rfl, rfl⟩
   cases h; exact ⟨rfl, rfl⟩
  iterate 5 refine Br.yes ?_
  cases h; exact ⟨rfl, rfl⟩
 rintro (⟨⟩ | ⟨⟩) h
 ·try dsimp only at h
  cases h; exact (by rfl)
 try dsimp only at h
 refine Cells.lit rfl rfl ?_
 refine CallQ.o (Ac true) (by rfl) h (fun r h => Uq h) (fun r5 h => ?_)
 refine SetKids.lit rfl ?_
 refine LoopQ.o [4, 3, 1] (N9 p0 r5) (V7 p0 r5) h (fun s o h => Ahl s o h) (by first | rfl | simp [restrict, look, Ad, V.fz, fzL, V.up, upL, Ae, Af, Ah, slr]) (by rintro (_ | _) <;> rfl) ?_
 rintro (⟨⟩ | ⟨⟩) h
 ·try dsimp only at h
  cases h; exact (by rfl)
 try dsimp only at h
 cases h; exact (by rfl)
end Go.Proofs.Ytoikbcagaanhgaa.Ax
