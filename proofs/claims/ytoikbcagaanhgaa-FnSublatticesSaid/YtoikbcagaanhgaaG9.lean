/-
 What the functions compute, as functions on plain data, and that the program does compute it; written by program.
-/
import Derived.Test.YtoikbcagaanhgaaCode
import Derived.Test.YtoikbcagaanhgaaG3
import Derived.Test.YtoikbcagaanhgaaG4
import Derived.Test.YtoikbcagaanhgaaG5
import Derived.Test.YtoikbcagaanhgaaG6
import Derived.Test.YtoikbcagaanhgaaG7
import Derived.Test.YtoikbcagaanhgaaG8
namespace Go.Proofs.Ytoikbcagaanhgaa.Ax
open Go
set_option maxRecDepth 100000
set_option maxHeartbeats 4000000
noncomputable def Eh (p0 : SPoset) : Int → Option (Int ⊕ (Unit ⊕ Unit)) := fun x4 =>
 if x4 < (↑p0.Below.length : Int) then
 ask ((0 : Int) ≤ x4 ∧ x4 < (↑p0.Below.length : Int)) <|
 ask (InI ((↑p0.Below.length : Int) - (1 : Int))) <|
 (Fx (nth p0.Below x4.toNat) ((0 : Int)) ((↑p0.Below.length : Int) - (1 : Int))).bind fun r5 =>
 if (r5) = true then
 ask ((0 : Int) ≤ x4 ∧ x4 < (↑p0.Below.length : Int)) <|
 (Hp (nth p0.Below x4.toNat) (x4)).bind fun r8 =>
 if (r8) = true then
 ask (InI (x4 + (1 : Int))) <|
 some (.inl (x4 + (1 : Int)))
 else
 some (.inr (.inl ()))
 else
 some (.inr (.inl ()))
 else
 some (.inr (.inr ()))
def Nz (p0 : SPoset) : Int → St := fun s => [(4, A.val (Ab s)), (3, A.val (Ab ((↑p0.Below.length : Int)))), (1, A.val ((rP true (Ac false)) (p0)))]
def Vo (p0 : SPoset) : (Unit ⊕ Unit) → Tgt
 | (.inl _s) => (Ex.ret, [2], [(2, A.val (V.bool (false)))])
 | (.inr _s) => ((Ex.exit 0), [3, 1], [(3, A.val (Ab ((↑p0.Below.length : Int)))), (1, A.val ((rP true (Ac false)) (p0)))])
theorem Aha {p0 : SPoset} (x4 : Int) (o : Int ⊕ (Unit ⊕ Unit)) (h : Eh p0 x4 = some o) : vc Try.prog V6 (Bp [4, 3, 1] (Nz p0) (Vo p0) o) (Nz p0 x4) := by
 unfold Eh at h
 try dsimp only at h
 refine Br.od h (fun p2 h => ?_) (fun p2 h => ?_)
 ·refine Cells.lit rfl rfl ?_
  refine Len.map ?_
  refine Ask.o h fun p3 h => ?_
  refine Elem.o (by first | omega | (simp [Am] at *; omega)) ?_
  refine Ask.o h fun p4 h => ?_
  refine CallQ.o V.bool (by rfl) h (fun r h => Sl h) (fun r5 h => ?_)
  refine Br.flip ?_
  refine Br.ob h (fun p6 h => ?_) (fun p6 h => ?_)
  ·refine Br.no ?_
   refine Cells.lit rfl rfl ?_
   iterate 2 refine Br.no ?_
   refine Len.map ?_
   refine Ask.o h fun p7 h => ?_
   refine Elem.o (by first | omega | (simp [Am] at *; omega)) ?_
   iterate 3 refine Br.no ?_
   refine CallQ.o V.bool (by rfl) h (fun r h => S0 h) (fun r8 h => ?_)
   iterate 2 refine Br.no ?_
   refine Br.flip ?_
   refine Br.ob h (fun p9 h => ?_) (fun p9 h => ?_)
   ·refine Ask.o h fun p10 h => ?_
    cases h; exact ⟨rfl, rfl⟩
   cases h; exact ⟨rfl, rfl⟩
  iterate 9 refine Br.yes ?_
  cases h; exact ⟨rfl, rfl⟩
 cases h; exact ⟨rfl, rfl⟩
noncomputable def C7 (p0 : SPoset) (x5 : Int) : Int → Option (Int ⊕ (Unit ⊕ Unit)) := fun x6 =>
 ask ((0 : Int) ≤ x5 ∧ x5 < (↑p0.Below.length : Int)) <|
 if x6 < (↑(nth p0.Below x5.toNat).length : Int) then
 ask ((0 : Int) ≤ x5 ∧ x5 < (↑p0.Below.length : Int)) <|
 ask ((0 : Int) ≤ x6 ∧ x6 < (↑(nth p0.Below x5.toNat).length : Int)) <|
 if nth (nth p0.Below x5.toNat) x6.toNat ≠ x5 then
 ask ((0 : Int) ≤ nth (nth p0.Below x5.toNat) x6.toNat ∧ nth (nth p0.Below x5.toNat) x6.toNat < (↑p0.Below.length : Int)) <|
 (Hp (nth p0.Below (nth (nth p0.Below x5.toNat) x6.toNat).toNat) (x5)).bind fun r19 =>
 if (r19) = true then
 some (.inr (.inl ()))
 else
 ask ((0 : Int) ≤ nth (nth p0.Below x5.toNat) x6.toNat ∧ nth (nth p0.Below x5.toNat) x6.toNat < (↑p0.Below.length : Int)) <|
 ask ((0 : Int) ≤ x5 ∧ x5 < (↑p0.Below.length : Int)) <|
 (F2 (nth p0.Below (nth (nth p0.Below x5.toNat) x6.toNat).toNat) (nth p0.Below x5.toNat)).bind fun r23 =>
 if (r23) = true then
 ask (InI (x6 + (1 : Int))) <|
 some (.inl (x6 + (1 : Int)))
 else
 some (.inr (.inl ()))
 else
 ask ((0 : Int) ≤ nth (nth p0.Below x5.toNat) x6.toNat ∧ nth (nth p0.Below x5.toNat) x6.toNat < (↑p0.Below.length : Int)) <|
 ask ((0 : Int) ≤ x5 ∧ x5 < (↑p0.Below.length : Int)) <|
 (F2 (nth p0.Below (nth (nth p0.Below x5.toNat) x6.toNat).toNat) (nth p0.Below x5.toNat)).bind fun r28 =>
 if (r28) = true then
 ask (InI (x6 + (1 : Int))) <|
 some (.inl (x6 + (1 : Int)))
 else
 some (.inr (.inl ()))
 else
 some (.inr (.inr ()))
def Ot (p0 : SPoset) (x5 : Int) : Int → St := fun s => [(6, A.val (Ab s)), (5, A.val (Ab (x5))), (3, A.val (Ab ((↑p0.Below.length : Int)))), (1, A.val ((rP true (Ac false)) (p0)))]
def Vy (p0 : SPoset) (x5 : Int) : (Unit ⊕ Unit) → Tgt
 | (.inl _s) => (Ex.ret, [2], [(2, A.val (V.bool (false)))])
 | (.inr _s) => ((Ex.exit 4), [5, 3, 1], [(5, A.val (Ab (x5))), (3, A.val (Ab ((↑p0.Below.length : Int)))), (1, A.val ((rP true (Ac false)) (p0)))])
theorem Ail {p0 : SPoset} {x5 : Int} (x6 : Int) (o : Int ⊕ (Unit ⊕ Unit)) (h : C7 p0 x5 x6 = some o) : vc Try.prog Vq (Bp [6, 5, 3, 1] (Ot p0 x5) (Vy p0 x5) o) (Ot p0 x5 x6) := by
 unfold C7 at h
 try dsimp only at h
 refine Cells.lit rfl rfl ?_
 refine Len.map ?_
 refine Ask.o h fun p13 h => ?_
 refine Elem.o (by first | omega | (simp [Am] at *; omega)) ?_
 refine Len.map ?_
 refine Br.od h (fun p14 h => ?_) (fun p14 h => ?_)
 ·refine Cells.lit rfl rfl ?_
  refine Len.map ?_
  refine Ask.o h fun p15 h => ?_
  refine Elem.o (by first | omega | (simp [Am] at *; omega)) ?_
  refine Len.map ?_
  refine Ask.o h fun p16 h => ?_
  refine Elem.o (by first | omega | (simp [Am] at *; omega)) ?_
  refine Br.on h (fun p17 h => ?_) (fun p17 h => ?_)
  ·refine Br.yes ?_
   refine Cells.lit rfl rfl ?_
   iterate 2 refine Br.yes ?_
   refine Len.map ?_
   refine Ask.o h fun p18 h => ?_
   refine Elem.o (by first | omega | (simp [Am] at *; omega)) ?_
   iterate 3 refine Br.yes ?_
   refine CallP.o V.bool (by rfl) h (fun r h => S0 h) (fun r19 h => ?_)
   refine Br.yes ?_
   refine Br.ob h (fun p20 h => ?_) (fun p20 h => ?_)
   ·refine Br.yes ?_
    iterate 12 refine Br.yes ?_
    cases h; exact ⟨rfl, rfl⟩
   refine Br.no ?_
   refine Cells.lit rfl rfl ?_
   iterate 2 refine Br.no ?_
   refine Len.map ?_
   refine Ask.o h fun p21 h => ?_
   refine Elem.o (by first | omega | (simp [Am] at *; omega)) ?_
   iterate 3 refine Br.no ?_
   refine Cells.lit rfl rfl ?_
   iterate 2 refine Br.no ?_
   refine Len.map ?_
   refine Ask.o h fun p22 h => ?_
   refine Elem.o (by first | omega | (simp [Am] at *; omega)) ?_
   iterate 2 refine Br.no ?_
   refine CallQ.o V.bool (by rfl) h (fun r h => R7 h) (fun r23 h => ?_)
   iterate 2 refine Br.no ?_
   refine Br.flip ?_
   refine Br.ob h (fun p24 h => ?_) (fun p24 h => ?_)
   ·refine Ask.o h fun p25 h => ?_
    cases h; exact ⟨rfl, rfl⟩
   cases h; exact ⟨rfl, rfl⟩
  iterate 9 refine Br.no ?_
  refine Cells.lit rfl rfl ?_
  iterate 2 refine Br.no ?_
  refine Len.map ?_
  refine Ask.o h fun p26 h => ?_
  refine Elem.o (by first | omega | (simp [Am] at *; omega)) ?_
  iterate 3 refine Br.no ?_
  refine Cells.lit rfl rfl ?_
  iterate 2 refine Br.no ?_
  refine Len.map ?_
  refine Ask.o h fun p27 h => ?_
  refine Elem.o (by first | omega | (simp [Am] at *; omega)) ?_
  iterate 2 refine Br.no ?_
  refine CallQ.o V.bool (by rfl) h (fun r h => R7 h) (fun r28 h => ?_)
  iterate 2 refine Br.no ?_
  refine Br.flip ?_
  refine Br.ob h (fun p29 h => ?_) (fun p29 h => ?_)
  ·refine Ask.o h fun p30 h => ?_
   cases h; exact ⟨rfl, rfl⟩
  cases h; exact ⟨rfl, rfl⟩
 cases h; exact ⟨rfl, rfl⟩
noncomputable def Ee (p0 : SPoset) : Int → Option (Int ⊕ (Unit ⊕ Unit)) := fun x5 =>
 if x5 < (↑p0.Below.length : Int) then
 (Ai (C7 p0 x5) (0 : Int)).bind fun t => match t with
 | (.inl _) => (some (.inr (.inl ())))
 | (.inr _) => (ask (InI (x5 + (1 : Int))) <|
 some (.inl (x5 + (1 : Int))))
 else
 some (.inr (.inr ()))
def Nt (p0 : SPoset) : Int → St := fun s => [(5, A.val (Ab s)), (3, A.val (Ab ((↑p0.Below.length : Int)))), (1, A.val ((rP true (Ac false)) (p0)))]
def Vg (_p0 : SPoset) : (Unit ⊕ Unit) → Tgt
 | (.inl _s) => (Ex.ret, [2], [(2, A.val (V.bool (false)))])
 | (.inr _s) => ((Ex.exit 2), [], [])
theorem Aib {p0 : SPoset} (x5 : Int) (o : Int ⊕ (Unit ⊕ Unit)) (h : Ee p0 x5 = some o) : vc Try.prog Wf (Bp [5, 3, 1] (Nt p0) (Vg p0) o) (Nt p0 x5) := by
 unfold Ee at h
 try dsimp only at h
 refine Br.od h (fun p12 h => ?_) (fun p12 h => ?_)
 ·refine LoopQ.o [6, 5, 3, 1] (Ot p0 x5) (Vy p0 x5) h (fun s o h => Ail s o h) (by first | rfl | simp [restrict, look, Ad, V.fz, fzL, V.up, upL, Ae, Af, Ah, slr]) (by rintro (_ | _) <;> rfl) ?_
  rintro (⟨⟩ | ⟨⟩) h
  ·try dsimp only at h
   cases h; exact ⟨rfl, rfl⟩
  try dsimp only at h
  refine Ask.o h fun p32 h => ?_
  cases h; exact ⟨rfl, rfl⟩
 cases h; exact ⟨rfl, rfl⟩
noncomputable def Kg (p0 : SPoset) : Option Bool :=
 if (↑p0.Below.length : Int) > (10 : Int) then
 some false
 else
 (Ai (Eh p0) (0 : Int)).bind fun t => match t with
 | (.inl _) => (some false)
 | (.inr _) => ((Ai (Ee p0) (0 : Int)).bind fun t => match t with
 | (.inl _) => (some false)
 | (.inr _) => (some true))
theorem Aoh {p0 : SPoset} {v : Bool} (h : Kg p0 = some v) : Ret Try.prog T7 [(Ac false) p0] (V.bool v) := by
 refine Av An2 (Nat.le_of_ble_eq_true rfl) ?_
 unfold Kg at h
 refine Cells.lit rfl rfl ?_
 refine Len.map ?_
 refine Br.od h (fun p1 h => ?_) (fun p1 h => ?_)
 ·cases h; exact (by rfl)
 refine LoopQ.o [4, 3, 1] (Nz p0) (Vo p0) h (fun s o h => Aha s o h) (by first | rfl | simp [restrict, look, Ad, V.fz, fzL, V.up, upL, Ae, Af, Ah, slr]) (by rintro (_ | _) <;> rfl) ?_
 rintro (⟨⟩ | ⟨⟩) h
 ·try dsimp only at h
  cases h; exact (by rfl)
 try dsimp only at h
 refine LoopQ.o [5, 3, 1] (Nt p0) (Vg p0) h (fun s o h => Aib s o h) (by first | rfl | simp [restrict, look, Ad, V.fz, fzL, V.up, upL, Ae, Af, Ah, slr]) (by rintro (_ | _) <;> rfl) ?_
 rintro (⟨⟩ | ⟨⟩) h
 ·try dsimp only at h
  cases h; exact (by rfl)
 try dsimp only at h
 cases h; exact (by rfl)
noncomputable def Cx (p0 : SPoset) (some0 : List Int) (x6 : Int) (_x5 : List Int) : (Int × Bool) → Option ((Int × Bool) ⊕ Bool) := fun (x8, x7) =>
 if x8 < (↑some0.length : Int) then
 if (x7) = true then
 ask ((0 : Int) ≤ x8 ∧ x8 < (↑some0.length : Int)) <|
 (Gk (p0) (x6) (nth some0 x8.toNat)).bind fun r5 =>
 ask (InI (x8 + (1 : Int))) <|
 some (.inl (x8 + (1 : Int), r5))
 else
 ask (InI (x8 + (1 : Int))) <|
 some (.inl (x8 + (1 : Int), false))
 else
 some (.inr x7)
def Mp (p0 : SPoset) (some0 : List Int) (x6 : Int) (x5 : List Int) : (Int × Bool) → St := fun s => [(8, A.val (Ab s.1)), (7, A.val (V.bool s.2)), (6, A.val (Ab (x6))), (5, A.val ((slr true 1 Ab) (x5))), (2, A.val ((rP true (Ac false)) (p0))), (1, A.val ((slr false 1 Ab) (some0)))]
def Uf (p0 : SPoset) (some0 : List Int) (x6 : Int) (x5 : List Int) : Bool → Tgt
 | s => ((Ex.exit 2), [7, 6, 5, 2, 1], [(7, A.val (V.bool s)), (6, A.val (Ab (x6))), (5, A.val ((slr true 1 Ab) (x5))), (2, A.val ((rP true (Ac false)) (p0))), (1, A.val ((slr false 1 Ab) (some0)))])
theorem Agr {p0 : SPoset} {some0 : List Int} {x6 : Int} {x5 : List Int} (s : (Int × Bool)) (o : (Int × Bool) ⊕ Bool) (h : Cx p0 some0 x6 x5 s = some o) : vc Try.prog Uo (Bp [8, 7, 6, 5, 2, 1] (Mp p0 some0 x6 x5) (Uf p0 some0 x6 x5) o) (Mp p0 some0 x6 x5 s) := by
 obtain ⟨x8, x7⟩ := s
 unfold Cx at h
 try dsimp only at h
 refine Len.map ?_
 refine Br.od h (fun p2 h => ?_) (fun p2 h => ?_)
 ·refine Br.ob h (fun p3 h => ?_) (fun p3 h => ?_)
  ·refine Cells.lit rfl rfl ?_
   iterate 4 refine Br.yes ?_
   refine Len.map ?_
   refine Ask.o h fun p4 h => ?_
   refine Elem.o (by first | omega | (simp [Am] at *; omega)) ?_
   iterate 2 refine Br.yes ?_
   refine CallQ.o V.bool (by rfl) h (fun r h => Qo h) (fun r5 h => ?_)
   refine Br.yes ?_
   refine Ask.o h fun p6 h => ?_
   cases h; exact ⟨rfl, rfl⟩
  iterate 7 refine Br.no ?_
  refine Ask.o h fun p7 h => ?_
  cases h; exact ⟨rfl, rfl⟩
 cases h; exact ⟨rfl, rfl⟩
noncomputable def Fa (p0 : SPoset) (some0 : List Int) : (Int × (List Int)) → Option ((Int × (List Int)) ⊕ (List Int)) := fun (x6, x5) =>
 if x6 < (↑p0.Below.length : Int) then
 (Ai (Cx p0 some0 x6 x5) ((0 : Int), true)).bind fun q8_7 =>
 if (q8_7) = true then
 ask ((x5).length + ([x6]).length ≤ LIM) <|
 ask (InI (x6 + (1 : Int))) <|
 some (.inl (x6 + (1 : Int), x5 ++ [x6]))
 else
 ask (InI (x6 + (1 : Int))) <|
 some (.inl (x6 + (1 : Int), x5))
 else
 some (.inr x5)
def Mq (p0 : SPoset) (some0 : List Int) : (Int × (List Int)) → St := fun s => [(6, A.val (Ab s.1)), (5, A.val ((slr true 1 Ab) s.2)), (2, A.val ((rP true (Ac false)) (p0))), (1, A.val ((slr false 1 Ab) (some0)))]
def Uk (p0 : SPoset) (_some0 : List Int) : (List Int) → Tgt
 | s => ((Ex.exit 0), [5, 2], [(5, A.val ((slr true 1 Ab) s)), (2, A.val ((rP true (Ac false)) (p0)))])
theorem Afn {p0 : SPoset} {some0 : List Int} (s : (Int × (List Int))) (o : (Int × (List Int)) ⊕ (List Int)) (h : Fa p0 some0 s = some o) : vc Try.prog Tj (Bp [6, 5, 2, 1] (Mq p0 some0) (Uk p0 some0) o) (Mq p0 some0 s) := by
 obtain ⟨x6, x5⟩ := s
 unfold Fa at h
 try dsimp only at h
 refine Cells.lit rfl rfl ?_
 refine Len.map ?_
 refine Br.od h (fun p1 h => ?_) (fun p1 h => ?_)
 ·refine LoopQ.o [8, 7, 6, 5, 2, 1] (Mp p0 some0 x6 x5) (Uf p0 some0 x6 x5) h (fun s o h => Agr s o h) (by first | rfl | simp [restrict, look, Ad, V.fz, fzL, V.up, upL, Ae, Af, Ah, slr]) (fun _ => rfl) ?_
  rintro q8_7 h
  try dsimp only at h
  refine Br.ob h (fun p9 h => ?_) (fun p9 h => ?_)
  ·refine BslQ.o Ab [x6] (by exact fun _ => ⟨rfl, rfl⟩) (by rfl) ?_
   refine NoOwn.o (fun _ => rfl) ?_
   refine AppQ.o (m := 1) Ab (by exact fun _ => ⟨rfl, rfl⟩) (x5) ([x6]) (by rfl) (by rfl) h fun h => ?_
   refine Ask.o h fun p10 h => ?_
   cases h; exact ⟨rfl, rfl⟩
  refine Ask.o h fun p11 h => ?_
  cases h; exact ⟨rfl, rfl⟩
 cases h; exact ⟨rfl, rfl⟩
noncomputable def Dp (p0 : SPoset) (q12_5 : List Int) : Int → Option (Int ⊕ (Int ⊕ Unit)) := fun x9 =>
 if x9 < (↑q12_5.length : Int) then
 ask ((0 : Int) ≤ x9 ∧ x9 < (↑q12_5.length : Int)) <|
 ask ((0 : Int) ≤ nth q12_5 x9.toNat ∧ nth q12_5 x9.toNat < (↑p0.Below.length : Int)) <|
 (F2 (q12_5) (nth p0.Below (nth q12_5 x9.toNat).toNat)).bind fun r16 =>
 if (r16) = true then
 ask ((0 : Int) ≤ x9 ∧ x9 < (↑q12_5.length : Int)) <|
 some (.inr (.inl (nth q12_5 x9.toNat)))
 else
 ask (InI (x9 + (1 : Int))) <|
 some (.inl (x9 + (1 : Int)))
 else
 some (.inr (.inr ()))
def Mz (p0 : SPoset) (q12_5 : List Int) : Int → St := fun s => [(9, A.val (Ab s)), (5, A.val ((slr true 1 Ab) (q12_5))), (2, A.val ((rP true (Ac false)) (p0)))]
def Up (_p0 : SPoset) (_q12_5 : List Int) : (Int ⊕ Unit) → Tgt
 | (.inl s) => (Ex.ret, [4], [(4, A.val (Ab s))])
 | (.inr _s) => ((Ex.exit 4), [], [])
theorem Afk {p0 : SPoset} {q12_5 : List Int} (x9 : Int) (o : Int ⊕ (Int ⊕ Unit)) (h : Dp p0 q12_5 x9 = some o) : vc Try.prog Th (Bp [9, 5, 2] (Mz p0 q12_5) (Up p0 q12_5) o) (Mz p0 q12_5 x9) := by
 unfold Dp at h
 try dsimp only at h
 refine Len.map ?_
 refine Br.od h (fun p13 h => ?_) (fun p13 h => ?_)
 ·refine Cells.lit rfl rfl ?_
  refine Len.map ?_
  refine Ask.o h fun p14 h => ?_
  refine Cells.one (fun _ => ⟨rfl, rfl⟩) (by first | omega | (simp [Am] at *; omega)) ?_
  refine Len.map ?_
  refine Ask.o h fun p15 h => ?_
  refine Elem.o (by first | omega | (simp [Am] at *; omega)) ?_
  refine CallQ.rd V.bool (by first | rfl | simp only [Ad, V.fz, Ae, slr] | simp [Ad, V.fz, fzL, V.up, upL, Ae, Af, Ah, slr]) (fun _ => rfl) h (fun r h => R7 h) (fun r16 h => ?_)
  refine Br.ob h (fun p17 h => ?_) (fun p17 h => ?_)
  ·refine Len.map ?_
   refine Ask.o h fun p18 h => ?_
   refine Cells.one (fun _ => ⟨rfl, rfl⟩) (by first | omega | (simp [Am] at *; omega)) ?_
   cases h; exact ⟨rfl, rfl⟩
  refine Ask.o h fun p19 h => ?_
  cases h; exact ⟨rfl, rfl⟩
 cases h; exact ⟨rfl, rfl⟩
noncomputable def B0 (p0 : SPoset) (some0 : (List Int)) : Option Int :=
 (Ai (Fa p0 some0) ((0 : Int), Ao Int)).bind fun q12_5 =>
 (Ai (Dp p0 q12_5) (0 : Int)).bind fun t => match t with
 | (.inl q20_4) => (some q20_4)
 | (.inr _) => (some (-1 : Int))
theorem Hn {p0 : SPoset} {some0 : (List Int)} {v : Int} (h : B0 p0 some0 = some v) : Ret Try.prog En [(Ac false) p0, (slr false 1 Ab) some0] (Ab v) := by
 refine Av Amn (Nat.le_of_ble_eq_true rfl) ?_
 unfold B0 at h
 refine BslQ.o Ab (Ao Int) (by exact fun _ => ⟨rfl, rfl⟩) (by rfl) ?_
 refine LoopQ.o [6, 5, 2, 1] (Mq p0 some0) (Uk p0 some0) h (fun s o h => Afn s o h) (by first | rfl | simp [restrict, look, Ad, V.fz, fzL, V.up, upL, Ae, Af, Ah, slr]) (fun _ => rfl) ?_
 rintro q12_5 h
 try dsimp only at h
 refine LoopQ.o [9, 5, 2] (Mz p0 q12_5) (Up p0 q12_5) h (fun s o h => Afk s o h) (by first | rfl | simp [restrict, look, Ad, V.fz, fzL, V.up, upL, Ae, Af, Ah, slr]) (by rintro (_ | _) <;> rfl) ?_
 rintro (q20_4 | ⟨⟩) h
 ·try dsimp only at h
  cases h; exact (by rfl)
 try dsimp only at h
 cases h; exact (by rfl)
noncomputable def Ja (a0 : SAlgebra) (some0 : (List Int)) : Option (List Int) :=
 (I1 (some0) (a0.Size)).bind fun r1 =>
 (Hu (a0) (r1)).bind fun r2 =>
 (Gm (r2)).bind fun r3 =>
 some r3
theorem Amx {a0 : SAlgebra} {some0 : (List Int)} {v : (List Int)} (h : Ja a0 some0 = some v) : Ret Try.prog Sa [(Ap false) a0, (slr false 1 Ab) some0] ((slr true 1 Ab) v) := by
 refine Av Al4 (Nat.le_of_ble_eq_true rfl) ?_
 unfold Ja at h
 iterate 2 refine Cells.lit rfl rfl ?_
 refine CallP.o (slr true 1 V.bool) (by rfl) h (fun r h => Ahw h) (fun r1 h => ?_)
 refine CallQ.give (slr true 1 V.bool) (by rfl) rfl (fun _ => rfl) rfl h (fun r h => Aiy h) (fun r2 h => ?_)
 refine CallQ.rd (slr true 1 Ab) (by first | rfl | simp only [V.fz, Ae, slr] | simp [Ad, V.fz, fzL, V.up, upL, Ae, Af, Ah, slr]) (fun _ => by simp [V.noFz, Aq]) h (fun r h => Xb h) (fun r3 h => ?_)
 cases h; exact (by rfl)
noncomputable def Hv (a0 : SAlgebra) : (Int × (List Bool)) → Option ((Int × (List Bool)) ⊕ (List Bool)) := fun (x6, x5) =>
 if x6 ≤ a0.Size then
 (L6 (a0) (x5)).bind fun r3 =>
 ask (InI (x6 + (1 : Int))) <|
 some (.inl (x6 + (1 : Int), r3))
 else
 some (.inr x5)
def Og (a0 : SAlgebra) : (Int × (List Bool)) → St := fun s => [(6, A.val (Ab s.1)), (5, A.val ((slr true 1 V.bool) s.2)), (2, A.val ((rP true (Ap false)) (a0)))]
def V8 (_a0 : SAlgebra) : (List Bool) → Tgt
 | s => ((Ex.exit 0), [5], [(5, A.val ((slr true 1 V.bool) s))])
theorem Ah6 {a0 : SAlgebra} (s : (Int × (List Bool))) (o : (Int × (List Bool)) ⊕ (List Bool)) (h : Hv a0 s = some o) : vc Try.prog Vz (Bp [6, 5, 2] (Og a0) (V8 a0) o) (Og a0 s) := by
 obtain ⟨x6, x5⟩ := s
 unfold Hv at h
 try dsimp only at h
 refine Cells.lit rfl rfl ?_
 refine Br.od h (fun p2 h => ?_) (fun p2 h => ?_)
 ·refine Cells.lit rfl rfl ?_
  refine CallQ.rd (slr true 1 V.bool) (by first | rfl | simp only [V.fz, fzL, Ae, slr] | simp [Ad, V.fz, fzL, V.up, upL, Ae, Af, Ah, slr]) (fun _ => by simp [V.noFz, Aq]) h (fun r h => Aqr h) (fun r3 h => ?_)
  refine Ask.o h fun p4 h => ?_
  cases h; exact ⟨rfl, rfl⟩
 cases h; exact ⟨rfl, rfl⟩
noncomputable def Kp (a0 : SAlgebra) (some0 : (List Int)) : Option (List Int) :=
 (Rr (a0.Size) (some0)).bind fun r1 =>
 (Ai (Hv a0) ((0 : Int), r1)).bind fun q5_5 =>
 (Mi (q5_5)).bind fun r6 =>
 some r6
theorem Ap7 {a0 : SAlgebra} {some0 : (List Int)} {v : (List Int)} (h : Kp a0 some0 = some v) : Ret Try.prog Ud [(Ap false) a0, (slr false 1 Ab) some0] ((slr true 1 Ab) v) := by
 refine Av Ann (Nat.le_of_ble_eq_true rfl) ?_
 unfold Kp at h
 refine Cells.lit rfl rfl ?_
 refine CallQ.o (slr true 1 V.bool) (by rfl) h (fun r h => Av3 h) (fun r1 h => ?_)
 refine LoopQ.o [6, 5, 2] (Og a0) (V8 a0) h (fun s o h => Ah6 s o h) (by first | rfl | simp [restrict, look, Ad, V.fz, fzL, V.up, upL, Ae, Af, Ah, slr]) (fun _ => rfl) ?_
 rintro q5_5 h
 try dsimp only at h
 refine CallQ.rd (slr true 1 Ab) (by first | rfl | simp only [V.fz, Ae, slr] | simp [Ad, V.fz, fzL, V.up, upL, Ae, Af, Ah, slr]) (fun _ => by simp [V.noFz, Aq]) h (fun r h => Aqe h) (fun r6 h => ?_)
 cases h; exact (by rfl)
noncomputable def G3 (p0 : SPoset) (x0 : Int) (y0 : Int) : Option Bool :=
 if x0 ≠ y0 then
 (Gk (p0) (x0) (y0)).bind fun r2 =>
 some r2
 else
 some false
theorem T9 {p0 : SPoset} {x0 : Int} {y0 : Int} {v : Bool} (h : G3 p0 x0 y0 = some v) : Ret Try.prog Kx [(Ac false) p0, Ab x0, Ab y0] (V.bool v) := by
 refine Av Anp (Nat.le_of_ble_eq_true rfl) ?_
 unfold G3 at h
 refine Br.on h (fun p1 h => ?_) (fun p1 h => ?_)
 ·refine Cells.lit rfl rfl ?_
  iterate 3 refine Br.yes ?_
  refine CallQ.o V.bool (by rfl) h (fun r h => Qo h) (fun r2 h => ?_)
  refine Br.yes ?_
  cases h; exact (by rfl)
 iterate 4 refine Br.no ?_
 cases h; exact (by rfl)
noncomputable def Iv (p0 : SPoset) : Option Bool :=
 (B1 (p0)).bind fun t => match t with
 | (none, r1_2) => (some r1_2)
 | ((some _r1_1), r1_2) => (some r1_2)
theorem Aj7 {p0 : SPoset} {v : Bool} (h : Iv p0 = some v) : Ret Try.prog Pr [(Ac false) p0] (V.bool v) := by
 refine Av Akk (Nat.le_of_ble_eq_true rfl) ?_
 unfold Iv at h
 refine Cells.lit rfl rfl ?_
 refine CallQ.o (fun r => V.tup [(rO true (Bb true)) r.1, V.bool r.2]) (by rfl) h (fun r h => Gn h) (fun r1 h => ?_)
 rcases r1 with ⟨(_ | r1_1), r1_2⟩
 ·try dsimp only at h
  cases h; exact (by rfl)
 try dsimp only at h
 cases h; exact (by rfl)
noncomputable def C8 (p0 : SPoset) : Option (SAlgebra × Bool) :=
 (B1 (p0)).bind fun t => match t with
 | (none, r1_2) => (if (r1_2) = true then
 none
 else
 some ({ Size := (0 : Int), Ops := Ao SOp }, false))
 | ((some r1_1), r1_2) => (if (r1_2) = true then
 if (↑r1_1.order.length : Int) > (8 : Int) then
 some ({ Size := (0 : Int), Ops := Ao SOp }, false)
 else
 (D6 (r1_1)).bind fun r5 =>
 some (r5, true)
 else
 some ({ Size := (0 : Int), Ops := Ao SOp }, false))
theorem Abh {p0 : SPoset} {v : (SAlgebra × Bool)} (h : C8 p0 = some v) : Ret Try.prog Jz [(Ac false) p0] ((fun r => V.tup [(Ap true) r.1, V.bool r.2]) v) := by
 refine Av Abf (Nat.le_of_ble_eq_true rfl) ?_
 unfold C8 at h
 refine Cells.lit rfl rfl ?_
 refine CallQ.o (fun r => V.tup [(rO true (Bb true)) r.1, V.bool r.2]) (by rfl) h (fun r h => Gn h) (fun r1 h => ?_)
 rcases r1 with ⟨(_ | r1_1), r1_2⟩
 ·try dsimp only at h
  refine Br.flip ?_
  refine Br.ob h (fun p2 h => ?_) (fun p2 h => ?_)
  ·refine Br.no ?_
   cases h
  iterate 7 refine Br.yes ?_
  refine SetKids.lit rfl ?_
  cases h; exact (by rfl)
 try dsimp only at h
 refine Br.flip ?_
 refine Br.ob h (fun p3 h => ?_) (fun p3 h => ?_)
 ·refine Br.no ?_
  iterate 2 refine Br.no ?_
  refine Cells.lit rfl rfl ?_
  refine Br.no ?_
  refine Kid.lit rfl rfl ?_
  refine Len.map ?_
  iterate 2 refine Br.no ?_
  refine Br.od h (fun p4 h => ?_) (fun p4 h => ?_)
  ·refine SetKids.lit rfl ?_
   cases h; exact (by rfl)
  refine CallQ.rd (Ap true) (by first | rfl | simp only [V.fz, fzL, Ae] | simp [Ad, V.fz, fzL, V.up, upL, Ae, Af, Ah, slr]) (fun _ => by simp [V.noFz, Ba, Aq]) h (fun r h => Aae h) (fun r5 h => ?_)
  refine SetKids.lit rfl ?_
  cases h; exact (by rfl)
 iterate 7 refine Br.yes ?_
 refine SetKids.lit rfl ?_
 cases h; exact (by rfl)
noncomputable def Hi (a0 : SAlgebra) (b0 : SAlgebra) : Option Bool :=
 if a0.Size = b0.Size then
 (Rt (a0.Ops) (b0.Ops)).bind fun r2 =>
 some r2
 else
 some false
theorem Amq {a0 : SAlgebra} {b0 : SAlgebra} {v : Bool} (h : Hi a0 b0 = some v) : Ret Try.prog R5 [(Ap false) a0, (Ap false) b0] (V.bool v) := by
 refine Av Al5 (Nat.le_of_ble_eq_true rfl) ?_
 unfold Hi at h
 iterate 2 refine Cells.lit rfl rfl ?_
 refine Br.oe h (fun p1 h => ?_) (fun p1 h => ?_)
 ·refine Br.yes ?_
  refine Cells.lit rfl rfl ?_
  iterate 2 refine Br.yes ?_
  refine Cells.lit rfl rfl ?_
  refine Br.yes ?_
  refine CallQ.o V.bool (by rfl) h (fun r h => Aw0 h) (fun r2 h => ?_)
  refine Br.yes ?_
  cases h; exact (by rfl)
 iterate 5 refine Br.no ?_
 cases h; exact (by rfl)
end Go.Proofs.Ytoikbcagaanhgaa.Ax
