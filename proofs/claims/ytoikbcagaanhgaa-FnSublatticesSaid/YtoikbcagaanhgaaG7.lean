/-
 What the functions compute, as functions on plain data, and that the program does compute it; written by program.
-/
import Derived.Test.YtoikbcagaanhgaaCode
import Derived.Test.YtoikbcagaanhgaaG1
import Derived.Test.YtoikbcagaanhgaaG3
import Derived.Test.YtoikbcagaanhgaaG4
import Derived.Test.YtoikbcagaanhgaaG5
import Derived.Test.YtoikbcagaanhgaaG6
namespace Go.Proofs.Ytoikbcagaanhgaa.Ax
open Go
set_option maxRecDepth 100000
set_option maxHeartbeats 4000000
noncomputable def Dl (l0 : List Int) (lo0 : Int) (hi0 : Int) : Int → Option (Int ⊕ (Unit ⊕ Unit)) := fun x7 =>
 if x7 < (↑l0.length : Int) then
 ask ((0 : Int) ≤ x7 ∧ x7 < (↑l0.length : Int)) <|
 (H2 (nth l0 x7.toNat) (lo0) (hi0)).bind fun r3 =>
 if (r3) = true then
 if x7 > (0 : Int) then
 ask (InI (x7 - (1 : Int))) <|
 ask ((0 : Int) ≤ x7 - (1 : Int) ∧ x7 - (1 : Int) < (↑l0.length : Int)) <|
 ask ((0 : Int) ≤ x7 ∧ x7 < (↑l0.length : Int)) <|
 if nth l0 (x7 - (1 : Int)).toNat ≥ nth l0 x7.toNat then
 some (.inr (.inl ()))
 else
 ask (InI (x7 + (1 : Int))) <|
 some (.inl (x7 + (1 : Int)))
 else
 ask (InI (x7 + (1 : Int))) <|
 some (.inl (x7 + (1 : Int)))
 else
 some (.inr (.inl ()))
 else
 some (.inr (.inr ()))
def Ms (l0 : List Int) (lo0 : Int) (hi0 : Int) : Int → St := fun s => [(7, A.val (Ab s)), (0, A.val ((slr false 1 Ab) (l0))), (1, A.val (Ab (lo0))), (2, A.val (Ab (hi0)))]
def Ul (_l0 : List Int) (_lo0 : Int) (_hi0 : Int) : (Unit ⊕ Unit) → Tgt
 | (.inl _s) => (Ex.ret, [6], [(6, A.val (V.bool (false)))])
 | (.inr _s) => ((Ex.exit 0), [], [])
theorem Afh {l0 : List Int} {lo0 : Int} {hi0 : Int} (x7 : Int) (o : Int ⊕ (Unit ⊕ Unit)) (h : Dl l0 lo0 hi0 x7 = some o) : vc Try.prog Uj (Bp [7, 0, 1, 2] (Ms l0 lo0 hi0) (Ul l0 lo0 hi0) o) (Ms l0 lo0 hi0 x7) := by
 unfold Dl at h
 try dsimp only at h
 refine Len.map ?_
 refine Br.od h (fun p1 h => ?_) (fun p1 h => ?_)
 ·refine Len.map ?_
  refine Ask.o h fun p2 h => ?_
  refine Elem.o (by first | omega | (simp [Am] at *; omega)) ?_
  refine CallP.o V.bool (by rfl) h (fun r h => Rn h) (fun r3 h => ?_)
  refine Br.flip ?_
  refine Br.ob h (fun p4 h => ?_) (fun p4 h => ?_)
  ·refine Br.no ?_
   refine Br.no ?_
   refine Br.od h (fun p5 h => ?_) (fun p5 h => ?_)
   ·refine Br.yes ?_
    refine Br.yes ?_
    refine Ask.o h fun p6 h => ?_
    refine Br.yes ?_
    refine Len.map ?_
    refine Ask.o h fun p7 h => ?_
    refine Elem.o (by first | omega | (simp [Am] at *; omega)) ?_
    iterate 4 refine Br.yes ?_
    refine Len.map ?_
    refine Ask.o h fun p8 h => ?_
    refine Elem.o (by first | omega | (simp [Am] at *; omega)) ?_
    iterate 2 refine Br.yes ?_
    refine Br.no ?_
    refine Br.yes ?_
    refine Br.no ?_
    refine Br.od h (fun p9 h => ?_) (fun p9 h => ?_)
    ·cases h; exact ⟨rfl, rfl⟩
    refine Ask.o h fun p10 h => ?_
    cases h; exact ⟨rfl, rfl⟩
   iterate 13 refine Br.no ?_
   refine Ask.o h fun p11 h => ?_
   cases h; exact ⟨rfl, rfl⟩
  iterate 5 refine Br.yes ?_
  cases h; exact ⟨rfl, rfl⟩
 cases h; exact ⟨rfl, rfl⟩
noncomputable def Fx (l0 : (List Int)) (lo0 : Int) (hi0 : Int) : Option Bool :=
 (Ai (Dl l0 lo0 hi0) (0 : Int)).bind fun t => match t with
 | (.inl _) => (some false)
 | (.inr _) => (some true)
theorem Sl {l0 : (List Int)} {lo0 : Int} {hi0 : Int} {v : Bool} (h : Fx l0 lo0 hi0 = some v) : Ret Try.prog Jf [(slr false 1 Ab) l0, Ab lo0, Ab hi0] (V.bool v) := by
 refine Av Ami (Nat.le_of_ble_eq_true rfl) ?_
 unfold Fx at h
 refine LoopQ.o [7, 0, 1, 2] (Ms l0 lo0 hi0) (Ul l0 lo0 hi0) h (fun s o h => Afh s o h) (by first | rfl | simp [restrict, look, Ad, V.fz, fzL, V.up, upL, Ae, Af, Ah, slr]) (by rintro (_ | _) <;> rfl) ?_
 rintro (⟨⟩ | ⟨⟩) h
 ·try dsimp only at h
  cases h; exact (by rfl)
 try dsimp only at h
 cases h; exact (by rfl)
noncomputable def Dj (x0 : List Int) (y0 : List Int) : Int → Option (Int ⊕ (Unit ⊕ Unit)) := fun x5 =>
 if x5 < (↑x0.length : Int) then
 ask ((0 : Int) ≤ x5 ∧ x5 < (↑x0.length : Int)) <|
 (Hp (y0) (nth x0 x5.toNat)).bind fun r3 =>
 if (r3) = true then
 ask (InI (x5 + (1 : Int))) <|
 some (.inl (x5 + (1 : Int)))
 else
 some (.inr (.inl ()))
 else
 some (.inr (.inr ()))
def Mo (x0 : List Int) (y0 : List Int) : Int → St := fun s => [(5, A.val (Ab s)), (0, A.val ((slr false 1 Ab) (x0))), (1, A.val ((slr false 1 Ab) (y0)))]
def T4 (_x0 : List Int) (_y0 : List Int) : (Unit ⊕ Unit) → Tgt
 | (.inl _s) => (Ex.ret, [4], [(4, A.val (V.bool (false)))])
 | (.inr _s) => ((Ex.exit 0), [], [])
theorem Af3 {x0 : List Int} {y0 : List Int} (x5 : Int) (o : Int ⊕ (Unit ⊕ Unit)) (h : Dj x0 y0 x5 = some o) : vc Try.prog Tu (Bp [5, 0, 1] (Mo x0 y0) (T4 x0 y0) o) (Mo x0 y0 x5) := by
 unfold Dj at h
 try dsimp only at h
 refine Len.map ?_
 refine Br.od h (fun p1 h => ?_) (fun p1 h => ?_)
 ·refine Len.map ?_
  refine Ask.o h fun p2 h => ?_
  refine Elem.o (by first | omega | (simp [Am] at *; omega)) ?_
  refine CallQ.o V.bool (by rfl) h (fun r h => S0 h) (fun r3 h => ?_)
  refine Br.flip ?_
  refine Br.ob h (fun p4 h => ?_) (fun p4 h => ?_)
  ·refine Ask.o h fun p5 h => ?_
   cases h; exact ⟨rfl, rfl⟩
  cases h; exact ⟨rfl, rfl⟩
 cases h; exact ⟨rfl, rfl⟩
noncomputable def F2 (x0 : (List Int)) (y0 : (List Int)) : Option Bool :=
 (Ai (Dj x0 y0) (0 : Int)).bind fun t => match t with
 | (.inl _) => (some false)
 | (.inr _) => (some true)
theorem R7 {x0 : (List Int)} {y0 : (List Int)} {v : Bool} (h : F2 x0 y0 = some v) : Ret Try.prog Mm [(slr false 1 Ab) x0, (slr false 1 Ab) y0] (V.bool v) := by
 refine Av Amj (Nat.le_of_ble_eq_true rfl) ?_
 unfold F2 at h
 refine LoopQ.o [5, 0, 1] (Mo x0 y0) (T4 x0 y0) h (fun s o h => Af3 s o h) (by first | rfl | simp [restrict, look, Ad, V.fz, fzL, V.up, upL, Ae, Af, Ah, slr]) (by rintro (_ | _) <;> rfl) ?_
 rintro (⟨⟩ | ⟨⟩) h
 ·try dsimp only at h
  cases h; exact (by rfl)
 try dsimp only at h
 cases h; exact (by rfl)
noncomputable def Ds (a0 : SAlgebra) (x14 : Int) : (Int × Bool × (List Bool)) → Option ((Int × Bool × (List Bool)) ⊕ (Bool × (List Bool))) := fun (x21, x5'', x47'') =>
 if x21 < (↑(nth a0.Ops x14.toNat).Table.length : Int) then
 ask ((0 : Int) ≤ x21 ∧ x21 < (↑(nth a0.Ops x14.toNat).Table.length : Int)) <|
 ask ((0 : Int) ≤ nth (nth a0.Ops x14.toNat).Table x21.toNat ∧ nth (nth a0.Ops x14.toNat).Table x21.toNat < (↑x47''.length : Int)) <|
 if (nth x47'' (nth (nth a0.Ops x14.toNat).Table x21.toNat).toNat) = true then
 ask (InI (x21 + (1 : Int))) <|
 some (.inl (x21 + (1 : Int), x5'', x47''))
 else
 (Ob (x21) ((nth a0.Ops x14.toNat).Arity) (a0.Size) (x47'')).bind fun r9 =>
 if (r9) = true then
 ask ((0 : Int) ≤ nth (nth a0.Ops x14.toNat).Table x21.toNat ∧ nth (nth a0.Ops x14.toNat).Table x21.toNat < (↑x47''.length : Int)) <|
 ask (InI (x21 + (1 : Int))) <|
 some (.inl (x21 + (1 : Int), true, x47''.set (nth (nth a0.Ops x14.toNat).Table x21.toNat).toNat true))
 else
 ask (InI (x21 + (1 : Int))) <|
 some (.inl (x21 + (1 : Int), x5'', x47''))
 else
 some (.inr (x5'', x47''))
def Ku (a0 : SAlgebra) (x14 : Int) : (Int × Bool × (List Bool)) → St := fun s => [(21, A.val (Ab s.1)), (20, A.val (Ab ((↑(nth a0.Ops x14.toNat).Table.length : Int)))), (19, A.val ((slr false 1 Ab) ((nth a0.Ops x14.toNat).Table))), (7, A.val ((rP true (Dh false)) (nth a0.Ops x14.toNat))), (14, A.val (Ab (x14))), (13, A.val (Ab ((↑a0.Ops.length : Int)))), (12, A.val ((slr false 2 (Dh false)) (a0.Ops))), (5, A.val (V.bool s.2.1)), (2, A.val ((rP true (Ap false)) (a0))), (1, A.ref 47 []), (47, A.val ((slr true 1 V.bool) s.2.2))]
def Ro (a0 : SAlgebra) (x14 : Int) : (Bool × (List Bool)) → Tgt
 | s => ((Ex.exit 4), [14, 13, 12, 5, 2, 1, 47], [(14, A.val (Ab (x14))), (13, A.val (Ab ((↑a0.Ops.length : Int)))), (12, A.val ((slr false 2 (Dh false)) (a0.Ops))), (5, A.val (V.bool s.1)), (2, A.val ((rP true (Ap false)) (a0))), (1, A.ref 47 []), (47, A.val ((slr true 1 V.bool) s.2))])
theorem Ads {a0 : SAlgebra} {x14 : Int} (s : (Int × Bool × (List Bool))) (o : (Int × Bool × (List Bool)) ⊕ (Bool × (List Bool))) (h : Ds a0 x14 s = some o) : vc Try.prog Rc (Bp [21, 20, 19, 7, 14, 13, 12, 5, 2, 1, 47] (Ku a0 x14) (Ro a0 x14) o) (Ku a0 x14 s) := by
 obtain ⟨x21, x5'', x47''⟩ := s
 unfold Ds at h
 try dsimp only at h
 refine Br.od h (fun p4 h => ?_) (fun p4 h => ?_)
 ·refine Len.map ?_
  refine Ask.o h fun p5 h => ?_
  refine Elem.o (by first | omega | (simp [Am] at *; omega)) ?_
  refine Len.map ?_
  refine Ask.o h fun p6 h => ?_
  refine Cells.one (fun _ => ⟨rfl, rfl⟩) (by first | omega | (simp [Am] at *; omega)) ?_
  refine Br.flip ?_
  refine Br.ob h (fun p7 h => ?_) (fun p7 h => ?_)
  ·refine Br.no ?_
   iterate 7 refine Br.no ?_
   refine Ask.o h fun p8 h => ?_
   cases h; exact ⟨rfl, rfl⟩
  iterate 2 refine Br.yes ?_
  refine Cells.lit rfl rfl ?_
  iterate 2 refine Br.yes ?_
  refine Cells.lit rfl rfl ?_
  iterate 2 refine Br.yes ?_
  refine CallQ.rd V.bool (by first | rfl | simp only [V.fz, V.up, Ae, Ah, slr] | simp [Ad, V.fz, fzL, V.up, upL, Ae, Af, Ah, slr]) (fun _ => rfl) h (fun r h => As7 h) (fun r9 h => ?_)
  refine Br.yes ?_
  refine Br.ob h (fun p10 h => ?_) (fun p10 h => ?_)
  ·refine Len.map ?_
   refine Ask.o h fun p11 h => ?_
   refine SetKids.one (fun _ => ⟨rfl, rfl⟩) (true) (by rfl) (by first | omega | (simp [Am] at *; omega)) ?_
   refine Ask.o h fun p12 h => ?_
   cases h; exact ⟨rfl, rfl⟩
  refine Ask.o h fun p13 h => ?_
  cases h; exact ⟨rfl, rfl⟩
 cases h; exact ⟨rfl, rfl⟩
noncomputable def D0 (a0 : SAlgebra) : (Int × Bool × (List Bool)) → Option ((Int × Bool × (List Bool)) ⊕ (Bool × (List Bool))) := fun (x14, x5', x47') =>
 if x14 < (↑a0.Ops.length : Int) then
 ask ((0 : Int) ≤ x14 ∧ x14 < (↑a0.Ops.length : Int)) <|
 (Ai (Ds a0 x14) ((0 : Int), x5', x47')).bind fun (q14_5, q14_47) =>
 ask (InI (x14 + (1 : Int))) <|
 some (.inl (x14 + (1 : Int), q14_5, q14_47))
 else
 some (.inr (x5', x47'))
def Kf (a0 : SAlgebra) : (Int × Bool × (List Bool)) → St := fun s => [(14, A.val (Ab s.1)), (13, A.val (Ab ((↑a0.Ops.length : Int)))), (12, A.val ((slr false 2 (Dh false)) (a0.Ops))), (5, A.val (V.bool s.2.1)), (2, A.val ((rP true (Ap false)) (a0))), (1, A.ref 47 []), (47, A.val ((slr true 1 V.bool) s.2.2))]
def Rf (a0 : SAlgebra) : (Bool × (List Bool)) → Tgt
 | s => ((Ex.exit 2), [5, 2, 1, 47], [(5, A.val (V.bool s.1)), (2, A.val ((rP true (Ap false)) (a0))), (1, A.ref 47 []), (47, A.val ((slr true 1 V.bool) s.2))])
theorem Ac7 {a0 : SAlgebra} (s : (Int × Bool × (List Bool))) (o : (Int × Bool × (List Bool)) ⊕ (Bool × (List Bool))) (h : D0 a0 s = some o) : vc Try.prog Rj (Bp [14, 13, 12, 5, 2, 1, 47] (Kf a0) (Rf a0) o) (Kf a0 s) := by
 obtain ⟨x14, x5', x47'⟩ := s
 unfold D0 at h
 try dsimp only at h
 refine Br.od h (fun p2 h => ?_) (fun p2 h => ?_)
 ·refine Len.map ?_
  refine Ask.o h fun p3 h => ?_
  refine Elem.o (by first | omega | (simp [Am] at *; omega)) ?_
  refine SetKids.lit rfl ?_
  refine Cells.lit rfl rfl ?_
  refine Len.map ?_
  refine LoopQ.o [21, 20, 19, 7, 14, 13, 12, 5, 2, 1, 47] (Ku a0 x14) (Ro a0 x14) h (fun s o h => Ads s o h) (by first | rfl | simp [restrict, look, Ad, V.fz, fzL, V.up, upL, Ae, Af, Ah, slr]) (fun _ => rfl) ?_
  rintro ⟨q14_5, q14_47⟩ h
  try dsimp only at h
  refine Ask.o h fun p15 h => ?_
  cases h; exact ⟨rfl, rfl⟩
 cases h; exact ⟨rfl, rfl⟩
noncomputable def Fn (a0 : SAlgebra) : (Bool × (List Bool)) → Option ((Bool × (List Bool)) ⊕ (List Bool)) := fun (x5, x47) =>
 if (x5) = true then
 (Ai (D0 a0) ((0 : Int), false, x47)).bind fun (q16_5, q16_47) =>
 some (.inl (q16_5, q16_47))
 else
 some (.inr x47)
def Ki (a0 : SAlgebra) : (Bool × (List Bool)) → St := fun s => [(5, A.val (V.bool s.1)), (2, A.val ((rP true (Ap false)) (a0))), (1, A.ref 47 []), (47, A.val ((slr true 1 V.bool) s.2))]
def Q3 (_a0 : SAlgebra) : (List Bool) → Tgt
 | s => ((Ex.exit 0), [1, 47], [(1, A.ref 47 []), (47, A.val ((slr true 1 V.bool) s))])
theorem Adj {a0 : SAlgebra} (s : (Bool × (List Bool))) (o : (Bool × (List Bool)) ⊕ (List Bool)) (h : Fn a0 s = some o) : vc Try.prog Ra (Bp [5, 2, 1, 47] (Ki a0) (Q3 a0) o) (Ki a0 s) := by
 obtain ⟨x5, x47⟩ := s
 unfold Fn at h
 try dsimp only at h
 refine Br.ob h (fun p1 h => ?_) (fun p1 h => ?_)
 ·refine Cells.lit rfl rfl ?_
  refine Len.map ?_
  refine LoopQ.o [14, 13, 12, 5, 2, 1, 47] (Kf a0) (Rf a0) h (fun s o h => Ac7 s o h) (by first | rfl | simp [restrict, look, Ad, V.fz, fzL, V.up, upL, Ae, Af, Ah, slr]) (fun _ => rfl) ?_
  rintro ⟨q16_5, q16_47⟩ h
  try dsimp only at h
  cases h; exact ⟨rfl, rfl⟩
 cases h; exact ⟨rfl, rfl⟩
noncomputable def Hu (a0 : SAlgebra) (have0 : (List Bool)) : Option (List Bool) :=
 (Ai (Fn a0) (true, have0)).bind fun q17_47 =>
 some q17_47
theorem Aiy {a0 : SAlgebra} {have0 : (List Bool)} {v : (List Bool)} (h : Hu a0 have0 = some v) : Abw Try.prog Od [(Ap false) a0, (slr true 1 V.bool) have0] ((slr true 1 V.bool) v) 1 V.dead := by
 refine Vm Ag4 (Nat.le_of_ble_eq_true rfl) ?_
 unfold Hu at h
 refine LoopQ.o [5, 2, 1, 47] (Ki a0) (Q3 a0) h (fun s o h => Adj s o h) (by first | rfl | simp [restrict, look, Ad, V.fz, fzL, V.up, upL, Ae, Af, Ah, slr]) (fun _ => rfl) ?_
 rintro q17_47 h
 try dsimp only at h
 cases h; exact ⟨(by rfl), (by rfl)⟩
noncomputable def E3 (_a0 : SAlgebra) (in0 : List Bool) (_x6 : Int) (_x7 : Int) (_x5' : List Bool) (r5 : List Int) : (Int × Bool) → Option ((Int × Bool) ⊕ Bool) := fun (x10, x9) =>
 if x10 < (↑r5.length : Int) then
 if (x9) = true then
 ask ((0 : Int) ≤ x10 ∧ x10 < (↑r5.length : Int)) <|
 ask ((0 : Int) ≤ nth r5 x10.toNat ∧ nth r5 x10.toNat < (↑in0.length : Int)) <|
 ask (InI (x10 + (1 : Int))) <|
 some (.inl (x10 + (1 : Int), nth in0 (nth r5 x10.toNat).toNat))
 else
 ask (InI (x10 + (1 : Int))) <|
 some (.inl (x10 + (1 : Int), false))
 else
 some (.inr x9)
def Pv (a0 : SAlgebra) (in0 : List Bool) (x6 : Int) (x7 : Int) (x5' : List Bool) (r5 : List Int) : (Int × Bool) → St := fun s => [(10, A.val (Ab s.1)), (9, A.val (V.bool s.2)), (8, A.val ((slr true 1 Ab) (r5))), (7, A.val (Ab (x7))), (6, A.val (Ab (x6))), (5, A.val ((slr true 1 V.bool) (x5'))), (2, A.val ((rP true (Ap false)) (a0))), (1, A.val ((slr false 1 V.bool) (in0)))]
def Yu (a0 : SAlgebra) (in0 : List Bool) (x6 : Int) (x7 : Int) (x5' : List Bool) (_r5 : List Int) : Bool → Tgt
 | s => ((Ex.exit 4), [9, 7, 6, 5, 2, 1], [(9, A.val (V.bool s)), (7, A.val (Ab (x7))), (6, A.val (Ab (x6))), (5, A.val ((slr true 1 V.bool) (x5'))), (2, A.val ((rP true (Ap false)) (a0))), (1, A.val ((slr false 1 V.bool) (in0)))])
theorem Ajy {a0 : SAlgebra} {in0 : List Bool} {x6 : Int} {x7 : Int} {x5' : List Bool} {r5 : List Int} (s : (Int × Bool)) (o : (Int × Bool) ⊕ Bool) (h : E3 a0 in0 x6 x7 x5' r5 s = some o) : vc Try.prog Xz (Bp [10, 9, 8, 7, 6, 5, 2, 1] (Pv a0 in0 x6 x7 x5' r5) (Yu a0 in0 x6 x7 x5' r5) o) (Pv a0 in0 x6 x7 x5' r5 s) := by
 obtain ⟨x10, x9⟩ := s
 unfold E3 at h
 try dsimp only at h
 refine Len.map ?_
 refine Br.od h (fun p6 h => ?_) (fun p6 h => ?_)
 ·refine Br.ob h (fun p7 h => ?_) (fun p7 h => ?_)
  ·refine Br.yes ?_
   iterate 2 refine Br.yes ?_
   refine Len.map ?_
   refine Ask.o h fun p8 h => ?_
   refine Br.yes ?_
   refine Cells.one (fun _ => ⟨rfl, rfl⟩) (by first | omega | (simp [Am] at *; omega)) ?_
   refine Br.yes ?_
   refine Len.map ?_
   refine Ask.o h fun p9 h => ?_
   refine Elem.o (by first | omega | (simp [Am] at *; omega)) ?_
   iterate 2 refine Br.yes ?_
   refine Ask.o h fun p10 h => ?_
   cases h; exact ⟨rfl, rfl⟩
  iterate 7 refine Br.no ?_
  refine Ask.o h fun p11 h => ?_
  cases h; exact ⟨rfl, rfl⟩
 cases h; exact ⟨rfl, rfl⟩
noncomputable def Gp (a0 : SAlgebra) (in0 : List Bool) (x6 : Int) : (Int × (List Bool)) → Option ((Int × (List Bool)) ⊕ (List Bool)) := fun (x7, x5') =>
 ask ((0 : Int) ≤ x6 ∧ x6 < (↑a0.Ops.length : Int)) <|
 if x7 < (↑(nth a0.Ops x6.toNat).Table.length : Int) then
 ask ((0 : Int) ≤ x6 ∧ x6 < (↑a0.Ops.length : Int)) <|
 (L9 (a0.Size) ((nth a0.Ops x6.toNat).Arity) (x7)).bind fun r5 =>
 (Ai (E3 a0 in0 x6 x7 x5' r5) ((0 : Int), true)).bind fun q12_9 =>
 if (q12_9) = true then
 ask ((0 : Int) ≤ x6 ∧ x6 < (↑a0.Ops.length : Int)) <|
 ask ((0 : Int) ≤ x7 ∧ x7 < (↑(nth a0.Ops x6.toNat).Table.length : Int)) <|
 ask ((0 : Int) ≤ nth (nth a0.Ops x6.toNat).Table x7.toNat ∧ nth (nth a0.Ops x6.toNat).Table x7.toNat < (↑x5'.length : Int)) <|
 ask (InI (x7 + (1 : Int))) <|
 some (.inl (x7 + (1 : Int), x5'.set (nth (nth a0.Ops x6.toNat).Table x7.toNat).toNat true))
 else
 ask (InI (x7 + (1 : Int))) <|
 some (.inl (x7 + (1 : Int), x5'))
 else
 some (.inr x5')
def Qd (a0 : SAlgebra) (in0 : List Bool) (x6 : Int) : (Int × (List Bool)) → St := fun s => [(7, A.val (Ab s.1)), (6, A.val (Ab (x6))), (5, A.val ((slr true 1 V.bool) s.2)), (2, A.val ((rP true (Ap false)) (a0))), (1, A.val ((slr false 1 V.bool) (in0)))]
def Xt (a0 : SAlgebra) (in0 : List Bool) (x6 : Int) : (List Bool) → Tgt
 | s => ((Ex.exit 2), [6, 5, 2, 1], [(6, A.val (Ab (x6))), (5, A.val ((slr true 1 V.bool) s)), (2, A.val ((rP true (Ap false)) (a0))), (1, A.val ((slr false 1 V.bool) (in0)))])
theorem Ako {a0 : SAlgebra} {in0 : List Bool} {x6 : Int} (s : (Int × (List Bool))) (o : (Int × (List Bool)) ⊕ (List Bool)) (h : Gp a0 in0 x6 s = some o) : vc Try.prog Xw (Bp [7, 6, 5, 2, 1] (Qd a0 in0 x6) (Xt a0 in0 x6) o) (Qd a0 in0 x6 s) := by
 obtain ⟨x7, x5'⟩ := s
 unfold Gp at h
 try dsimp only at h
 refine Cells.lit rfl rfl ?_
 refine Len.map ?_
 refine Ask.o h fun p2 h => ?_
 refine Elem.o (by first | omega | (simp [Am] at *; omega)) ?_
 refine Len.map ?_
 refine Br.od h (fun p3 h => ?_) (fun p3 h => ?_)
 ·refine Cells.lit rfl rfl ?_
  refine Cells.lit rfl rfl ?_
  refine Len.map ?_
  refine Ask.o h fun p4 h => ?_
  refine Elem.o (by first | omega | (simp [Am] at *; omega)) ?_
  refine CallQ.o (slr true 1 Ab) (by rfl) h (fun r h => Arf h) (fun r5 h => ?_)
  refine LoopQ.o [10, 9, 8, 7, 6, 5, 2, 1] (Pv a0 in0 x6 x7 x5' r5) (Yu a0 in0 x6 x7 x5' r5) h (fun s o h => Ajy s o h) (by first | rfl | simp [restrict, look, Ad, V.fz, fzL, V.up, upL, Ae, Af, Ah, slr]) (fun _ => rfl) ?_
  rintro q12_9 h
  try dsimp only at h
  refine Br.ob h (fun p13 h => ?_) (fun p13 h => ?_)
  ·refine Cells.lit rfl rfl ?_
   refine Len.map ?_
   refine Ask.o h fun p14 h => ?_
   refine Elem.o (by first | omega | (simp [Am] at *; omega)) ?_
   refine Len.map ?_
   refine Ask.o h fun p15 h => ?_
   refine Elem.o (by first | omega | (simp [Am] at *; omega)) ?_
   refine Len.map ?_
   refine Ask.o h fun p16 h => ?_
   refine SetKids.one (fun _ => ⟨rfl, rfl⟩) (true) (by rfl) (by first | omega | (simp [Am] at *; omega)) ?_
   refine Ask.o h fun p17 h => ?_
   cases h; exact ⟨rfl, rfl⟩
  refine Ask.o h fun p18 h => ?_
  cases h; exact ⟨rfl, rfl⟩
 cases h; exact ⟨rfl, rfl⟩
noncomputable def Iz (a0 : SAlgebra) (in0 : List Bool) : (Int × (List Bool)) → Option ((Int × (List Bool)) ⊕ (List Bool)) := fun (x6, x5) =>
 if x6 < (↑a0.Ops.length : Int) then
 (Ai (Gp a0 in0 x6) ((0 : Int), x5)).bind fun q19_5 =>
 ask (InI (x6 + (1 : Int))) <|
 some (.inl (x6 + (1 : Int), q19_5))
 else
 some (.inr x5)
def Qg (a0 : SAlgebra) (in0 : List Bool) : (Int × (List Bool)) → St := fun s => [(6, A.val (Ab s.1)), (5, A.val ((slr true 1 V.bool) s.2)), (2, A.val ((rP true (Ap false)) (a0))), (1, A.val ((slr false 1 V.bool) (in0)))]
def Yc (_a0 : SAlgebra) (_in0 : List Bool) : (List Bool) → Tgt
 | s => ((Ex.exit 0), [5], [(5, A.val ((slr true 1 V.bool) s))])
theorem Akh {a0 : SAlgebra} {in0 : List Bool} (s : (Int × (List Bool))) (o : (Int × (List Bool)) ⊕ (List Bool)) (h : Iz a0 in0 s = some o) : vc Try.prog Yl (Bp [6, 5, 2, 1] (Qg a0 in0) (Yc a0 in0) o) (Qg a0 in0 s) := by
 obtain ⟨x6, x5⟩ := s
 unfold Iz at h
 try dsimp only at h
 refine Cells.lit rfl rfl ?_
 refine Len.map ?_
 refine Br.od h (fun p1 h => ?_) (fun p1 h => ?_)
 ·refine LoopQ.o [7, 6, 5, 2, 1] (Qd a0 in0 x6) (Xt a0 in0 x6) h (fun s o h => Ako s o h) (by first | rfl | simp [restrict, look, Ad, V.fz, fzL, V.up, upL, Ae, Af, Ah, slr]) (fun _ => rfl) ?_
  rintro q19_5 h
  try dsimp only at h
  refine Ask.o h fun p20 h => ?_
  cases h; exact ⟨rfl, rfl⟩
 cases h; exact ⟨rfl, rfl⟩
noncomputable def L6 (a0 : SAlgebra) (in0 : (List Bool)) : Option (List Bool) :=
 ask ((Ao Bool).length + (in0).length ≤ LIM) <|
 (Ai (Iz a0 in0) ((0 : Int), Ao Bool ++ in0)).bind fun q21_5 =>
 some q21_5
theorem Aqr {a0 : SAlgebra} {in0 : (List Bool)} {v : (List Bool)} (h : L6 a0 in0 = some v) : Ret Try.prog W5 [(Ap false) a0, (slr false 1 V.bool) in0] ((slr true 1 V.bool) v) := by
 refine Av Arg (Nat.le_of_ble_eq_true rfl) ?_
 unfold L6 at h
 refine BslQ.o V.bool (Ao Bool) (by exact fun _ => ⟨rfl, rfl⟩) (by rfl) ?_
 refine AppQ.o (m := 1) V.bool (by exact fun _ => ⟨rfl, rfl⟩) (Ao Bool) (in0) (by rfl) (by rfl) h fun h => ?_
 refine LoopQ.o [6, 5, 2, 1] (Qg a0 in0) (Yc a0 in0) h (fun s o h => Akh s o h) (by first | rfl | simp [restrict, look, Ad, V.fz, fzL, V.up, upL, Ae, Af, Ah, slr]) (fun _ => rfl) ?_
 rintro q21_5 h
 try dsimp only at h
 cases h; exact (by rfl)
noncomputable def Bn (c0 : Sl1Cur) (n0 : Int) : Option (Bool × Sl1Cur) :=
 (A5 (c0) (n0)).bind fun (r1, u2) =>
 some (r1 == (0 : Int), u2)
theorem Fe {c0 : Sl1Cur} {n0 : Int} {v : (Bool × Sl1Cur)} (h : Bn c0 n0 = some v) : Abw Try.prog Cz [(rP true (Ak false)) c0, Ab n0] (V.bool v.1) 0 ((rP true (Ak false)) v.2) := by
 refine Vm Ajn (Nat.le_of_ble_eq_true rfl) ?_
 unfold Bn at h
 refine CallQ.io Ab (rP true (Ak false)) (by rfl) rfl (fun _ => rfl) (fun _ => ⟨rfl, rfl⟩) rfl h (fun r h => Bo h) (fun r1 u2 h => ?_)
 cases h; exact ⟨(by rfl), (by rfl)⟩
noncomputable def Cc (c0 : Sl1Cur) (list0 : (List Int)) : Option (Int × Sl1Cur) :=
 (A5 (c0) ((↑list0.length : Int))).bind fun (r1, u2) =>
 ask ((0 : Int) ≤ r1 ∧ r1 < (↑list0.length : Int)) <|
 some (nth list0 r1.toNat, u2)
theorem Gr {c0 : Sl1Cur} {list0 : (List Int)} {v : (Int × Sl1Cur)} (h : Cc c0 list0 = some v) : Abw Try.prog E9 [(rP true (Ak false)) c0, (slr false 1 Ab) list0] (Ab v.1) 0 ((rP true (Ak false)) v.2) := by
 refine Vm Aff (Nat.le_of_ble_eq_true rfl) ?_
 unfold Cc at h
 refine Len.map ?_
 refine CallQ.io Ab (rP true (Ak false)) (by rfl) rfl (fun _ => rfl) (fun _ => ⟨rfl, rfl⟩) rfl h (fun r h => Bo h) (fun r1 u2 h => ?_)
 refine Len.map ?_
 refine Ask.o h fun p3 h => ?_
 refine Elem.o (by first | omega | (simp [Am] at *; omega)) ?_
 cases h; exact ⟨(by rfl), (by rfl)⟩
noncomputable def E7 (a0 : SAlgebra) : Int → Option (Int ⊕ (Unit ⊕ Unit)) := fun x3 =>
 if x3 < (↑a0.Ops.length : Int) then
 ask ((0 : Int) ≤ x3 ∧ x3 < (↑a0.Ops.length : Int)) <|
 (Qy (a0.Size) (nth a0.Ops x3.toNat)).bind fun r7 =>
 if (r7) = true then
 ask (InI (x3 + (1 : Int))) <|
 some (.inl (x3 + (1 : Int)))
 else
 some (.inr (.inl ()))
 else
 some (.inr (.inr ()))
def Qe (a0 : SAlgebra) : Int → St := fun s => [(3, A.val (Ab s)), (1, A.val ((rP true (Ap false)) (a0)))]
def Y3 (_a0 : SAlgebra) : (Unit ⊕ Unit) → Tgt
 | (.inl _s) => (Ex.ret, [2], [(2, A.val (V.bool (false)))])
 | (.inr _s) => ((Ex.exit 0), [], [])
theorem Aj1 {a0 : SAlgebra} (x3 : Int) (o : Int ⊕ (Unit ⊕ Unit)) (h : E7 a0 x3 = some o) : vc Try.prog X2 (Bp [3, 1] (Qe a0) (Y3 a0) o) (Qe a0 x3) := by
 unfold E7 at h
 try dsimp only at h
 refine Cells.lit rfl rfl ?_
 refine Len.map ?_
 refine Br.od h (fun p5 h => ?_) (fun p5 h => ?_)
 ·refine Cells.lit rfl rfl ?_
  refine Cells.lit rfl rfl ?_
  refine Len.map ?_
  refine Ask.o h fun p6 h => ?_
  refine Elem.o (by first | omega | (simp [Am] at *; omega)) ?_
  refine CallQ.o V.bool (by rfl) h (fun r h => Av4 h) (fun r7 h => ?_)
  refine Br.flip ?_
  refine Br.ob h (fun p8 h => ?_) (fun p8 h => ?_)
  ·refine Ask.o h fun p9 h => ?_
   cases h; exact ⟨rfl, rfl⟩
  cases h; exact ⟨rfl, rfl⟩
 cases h; exact ⟨rfl, rfl⟩
noncomputable def L0 (a0 : SAlgebra) : Option Bool :=
 (((H2 (a0.Size) ((1 : Int)) ((8 : Int))).bind fun r1 =>
 if (r1) = true then
 if (↑a0.Ops.length : Int) > (4 : Int) then
 some (.inl ())
 else
 some (.inr ())
 else
 some (.inl ()) : Option (Unit ⊕ Unit))).bind fun t => match t with
 | (.inl _) => (some false)
 | (.inr _) => ((Ai (E7 a0) (0 : Int)).bind fun t => match t with
 | (.inl _) => (some false)
 | (.inr _) => (some true))
theorem Ark {a0 : SAlgebra} {v : Bool} (h : L0 a0 = some v) : Ret Try.prog Wu [(Ap false) a0] (V.bool v) := by
 refine Av Ap9 (Nat.le_of_ble_eq_true rfl) ?_
 unfold L0 at h
 refine CutQ.o (fun t : (Unit ⊕ Unit) => match t with | (.inl s) => (Ex.ret, [2], [(2, A.val (V.bool (false)))]) | (.inr s) => (Ex.normal, [1], [(1, A.val ((rP true (Ap false)) (a0)))])) h ?_ ?_
 ·intro t h
  refine Cells.lit rfl rfl ?_
  refine CallQ.o V.bool (by rfl) h (fun r h => Rn h) (fun r1 h => ?_)
  refine Br.flip ?_
  refine Br.ob h (fun p2 h => ?_) (fun p2 h => ?_)
  ·refine Br.no ?_
   refine Cells.lit rfl rfl ?_
   refine Br.no ?_
   refine Len.map ?_
   iterate 2 refine Br.no ?_
   refine Br.od h (fun p3 h => ?_) (fun p3 h => ?_)
   ·cases h; exact ⟨rfl, rfl⟩
   cases h; exact ⟨rfl, rfl⟩
  iterate 5 refine Br.yes ?_
  cases h; exact ⟨rfl, rfl⟩
 rintro (⟨⟩ | ⟨⟩) h
 ·try dsimp only at h
  cases h; exact (by rfl)
 try dsimp only at h
 refine LoopQ.o [3, 1] (Qe a0) (Y3 a0) h (fun s o h => Aj1 s o h) (by first | rfl | simp [restrict, look, Ad, V.fz, fzL, V.up, upL, Ae, Af, Ah, slr]) (by rintro (_ | _) <;> rfl) ?_
 rintro (⟨⟩ | ⟨⟩) h
 ·try dsimp only at h
  cases h; exact (by rfl)
 try dsimp only at h
 cases h; exact (by rfl)
noncomputable def B1 (p0 : SPoset) : Option ((Option Slattice) × Bool) :=
 (Gs (p0)).bind fun r1 =>
 ((if (r1.snd) = true then
 if (↑r1.fst.length : Int) = (0 : Int) then
 some (.inl ())
 else
 some (.inr ())
 else
 some (.inl ()) : Option (Unit ⊕ Unit))).bind fun t => match t with
 | (.inl _) => (some (none, false))
 | (.inr _) => ((C0 (r1.fst)).bind fun r5 =>
 (Hr (r1.fst)).bind fun r6 =>
 (C0 (r6)).bind fun r7 =>
 if (r5.snd) = true then
 some (some { order := r1.fst, meets := r5.fst, joins := r7.fst }, r7.snd)
 else
 some (some { order := r1.fst, meets := r5.fst, joins := r7.fst }, false))
theorem Gn {p0 : SPoset} {v : ((Option Slattice) × Bool)} (h : B1 p0 = some v) : Ret Try.prog Dv [(Ac false) p0] ((fun r => V.tup [(rO true (Bb true)) r.1, V.bool r.2]) v) := by
 refine Av Aki (Nat.le_of_ble_eq_true rfl) ?_
 unfold B1 at h
 refine Cells.lit rfl rfl ?_
 refine CallQ.o (fun r => V.tup [(slr true 1 (slr true 1 V.bool)) r.1, V.bool r.2]) (by rfl) h (fun r h => Ao3 h) (fun r1 h => ?_)
 refine CutQ.o (fun t : (Unit ⊕ Unit) => match t with | (.inl s) => (Ex.ret, [3, 2], [(3, A.val (V.bool (false))), (2, A.val V.nilp.up)]) | (.inr s) => (Ex.normal, [4], [(4, A.val ((slr true 1 (slr true 1 V.bool)) (r1.fst)))])) h ?_ ?_
 ·intro t h
  refine Br.flip ?_
  refine Br.ob h (fun p2 h => ?_) (fun p2 h => ?_)
  ·refine Br.no ?_
   refine Len.map ?_
   iterate 2 refine Br.no ?_
   refine Br.oe h (fun p3 h => ?_) (fun p3 h => ?_)
   ·cases h; exact ⟨rfl, rfl⟩
   cases h; exact ⟨rfl, rfl⟩
  iterate 4 refine Br.yes ?_
  cases h; exact ⟨rfl, rfl⟩
 rintro (⟨⟩ | ⟨⟩) h
 ·try dsimp only at h
  cases h; exact (by rfl)
 try dsimp only at h
 refine CallQ.rd (fun r => V.tup [(slr true 1 (slr true 1 Ab)) r.1, V.bool r.2]) (by first | rfl | simp only [V.fz, Ae, slr] | simp [Ad, V.fz, fzL, V.up, upL, Ae, Af, Ah, slr]) (fun _ => by simp [V.noFz, Ba, Aq]) h (fun r h => O3 h) (fun r5 h => ?_)
 refine CallQ.rd (slr true 1 (slr true 1 V.bool)) (by first | rfl | simp only [V.fz, Ae, slr] | simp [Ad, V.fz, fzL, V.up, upL, Ae, Af, Ah, slr]) (fun _ => by simp [V.noFz, Aq]) h (fun r h => Aie h) (fun r6 h => ?_)
 refine CallQ.rd (fun r => V.tup [(slr true 1 (slr true 1 Ab)) r.1, V.bool r.2]) (by first | rfl | simp only [V.fz, Ae, slr] | simp [Ad, V.fz, fzL, V.up, upL, Ae, Af, Ah, slr]) (fun _ => by simp [V.noFz, Ba, Aq]) h (fun r h => O3 h) (fun r7 h => ?_)
 refine Br.ob h (fun p8 h => ?_) (fun p8 h => ?_)
 ·refine Br.yes ?_
  cases h; exact (by rfl)
 refine Br.no ?_
 cases h; exact (by rfl)
end Go.Proofs.Ytoikbcagaanhgaa.Ax
