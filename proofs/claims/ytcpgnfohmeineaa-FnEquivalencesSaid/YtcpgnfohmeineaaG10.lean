/-
 What the functions compute, as functions on plain data, and that the program does compute it; written by program.
-/
import Derived.Test.YtcpgnfohmeineaaCode
import Derived.Test.YtcpgnfohmeineaaG1
import Derived.Test.YtcpgnfohmeineaaG2
import Derived.Test.YtcpgnfohmeineaaG3
import Derived.Test.YtcpgnfohmeineaaG5
import Derived.Test.YtcpgnfohmeineaaG6
import Derived.Test.YtcpgnfohmeineaaG7
import Derived.Test.YtcpgnfohmeineaaG9
namespace Go.Proofs.Ytcpgnfohmeineaa.Ax
open Go
set_option maxRecDepth 100000
set_option maxHeartbeats 4000000
noncomputable def Ce (n0 : Int) (r0 : SRelation) : Int → Option (Int ⊕ (Unit ⊕ Unit)) := fun x5 =>
 if x5 < n0 then
 (Dw (r0) ([x5, x5])).bind fun r2 =>
 if (r2) = true then
 ask (InI (x5 + (1 : Int))) <|
 some (.inl (x5 + (1 : Int)))
 else
 some (.inr (.inl ()))
 else
 some (.inr (.inr ()))
def G2 (n0 : Int) (r0 : SRelation) : Int → St := fun s => [(5, A.val (Af s)), (3, A.val ((rP true (Ai false)) (r0))), (0, A.val (Af (n0)))]
def Kx (n0 : Int) (r0 : SRelation) : (Unit ⊕ Unit) → Tgt
 | (.inl _s) => (Ex.ret, [4], [(4, A.val (V.bool (false)))])
 | (.inr _s) => ((Ex.exit 0), [3, 0], [(3, A.val ((rP true (Ai false)) (r0))), (0, A.val (Af (n0)))])
theorem Tz {n0 : Int} {r0 : SRelation} (x5 : Int) (o : Int ⊕ (Unit ⊕ Unit)) (h : Ce n0 r0 x5 = some o) : vc Try.prog Kn (Cu [5, 3, 0] (G2 n0 r0) (Kx n0 r0) o) (G2 n0 r0 x5) := by
 unfold Ce at h
 try dsimp only at h
 conv => whnf
 refine Br.od h (fun p1 h => ?_) (fun p1 h => ?_)
 ·conv => whnf
  refine Cells.lit rfl rfl ?_
  conv => whnf
  refine BslQ.o Af ([x5, x5]) (by exact fun _ => ⟨rfl, rfl⟩) (by rfl) ?_
  conv => whnf
  refine CallQ.rd V.bool (by rfl) (fun _ => rfl) h (fun r h => Kq h) (fun r2 h => ?_)
  conv => whnf
  refine Br.flip ?_
  conv => whnf
  refine Br.ob h (fun p3 h => ?_) (fun p3 h => ?_)
  ·conv => whnf
   refine Ask.o h fun p4 h => ?_
   conv => whnf
   cases h; exact ⟨rfl, rfl⟩
  conv => whnf
  cases h; exact ⟨rfl, rfl⟩
 conv => whnf
 cases h; exact ⟨rfl, rfl⟩
noncomputable def Ch (n0 : Int) (r0 : SRelation) (x6 : Int) : Int → Option (Int ⊕ (Unit ⊕ Unit)) := fun x9 =>
 if x9 < n0 then
 (Dw (r0) ([nth (nth r0.Tuples x6.toNat) (Int.toNat (1 : Int)), x9])).bind fun r14 =>
 if (r14) = true then
 (Dw (r0) ([nth (nth r0.Tuples x6.toNat) (Int.toNat (0 : Int)), x9])).bind fun r16 =>
 if (r16) = true then
 ask (InI (x9 + (1 : Int))) <|
 some (.inl (x9 + (1 : Int)))
 else
 some (.inr (.inl ()))
 else
 ask (InI (x9 + (1 : Int))) <|
 some (.inl (x9 + (1 : Int)))
 else
 some (.inr (.inr ()))
def G3 (n0 : Int) (r0 : SRelation) (x6 : Int) : Int → St := fun s => [(9, A.val (Af s)), (8, A.val (Af (nth (nth r0.Tuples x6.toNat) (Int.toNat (1 : Int))))), (7, A.val (Af (nth (nth r0.Tuples x6.toNat) (Int.toNat (0 : Int))))), (6, A.val (Af (x6))), (3, A.val ((rP true (Ai false)) (r0))), (0, A.val (Af (n0)))]
def K4 (n0 : Int) (r0 : SRelation) (x6 : Int) : (Unit ⊕ Unit) → Tgt
 | (.inl _s) => (Ex.ret, [4], [(4, A.val (V.bool (false)))])
 | (.inr _s) => ((Ex.exit 4), [6, 3, 0], [(6, A.val (Af (x6))), (3, A.val ((rP true (Ai false)) (r0))), (0, A.val (Af (n0)))])
theorem Te {n0 : Int} {r0 : SRelation} {x6 : Int} (x9 : Int) (o : Int ⊕ (Unit ⊕ Unit)) (h : Ch n0 r0 x6 x9 = some o) : vc Try.prog Ku (Cu [9, 8, 7, 6, 3, 0] (G3 n0 r0 x6) (K4 n0 r0 x6) o) (G3 n0 r0 x6 x9) := by
 unfold Ch at h
 try dsimp only at h
 conv => whnf
 refine Br.od h (fun p13 h => ?_) (fun p13 h => ?_)
 ·conv => whnf
  refine Cells.lit rfl rfl ?_
  conv => whnf
  refine BslQ.o Af ([nth (nth r0.Tuples x6.toNat) (Int.toNat (1 : Int)), x9]) (by exact fun _ => ⟨rfl, rfl⟩) (by rfl) ?_
  conv => whnf
  refine CallQ.rd V.bool (by rfl) (fun _ => rfl) h (fun r h => Kq h) (fun r14 h => ?_)
  conv => whnf
  refine Br.ob h (fun p15 h => ?_) (fun p15 h => ?_)
  ·conv => whnf
   refine Cells.lit rfl rfl ?_
   conv => whnf
   refine Br.yes ?_
   conv => whnf
   refine Br.yes ?_
   conv => whnf
   refine Br.yes ?_
   conv => whnf
   refine BslQ.o Af ([nth (nth r0.Tuples x6.toNat) (Int.toNat (0 : Int)), x9]) (by exact fun _ => ⟨rfl, rfl⟩) (by rfl) ?_
   conv => whnf
   refine Br.yes ?_
   conv => whnf
   refine CallQ.rd V.bool (by rfl) (fun _ => rfl) h (fun r h => Kq h) (fun r16 h => ?_)
   conv => whnf
   refine Br.yes ?_
   conv => whnf
   refine Br.yes ?_
   conv => whnf
   refine Br.flip ?_
   conv => whnf
   refine Br.ob h (fun p17 h => ?_) (fun p17 h => ?_)
   ·conv => whnf
    refine Ask.o h fun p18 h => ?_
    conv => whnf
    cases h; exact ⟨rfl, rfl⟩
   conv => whnf
   cases h; exact ⟨rfl, rfl⟩
  conv => whnf
  refine Br.no ?_
  conv => whnf
  refine Br.no ?_
  conv => whnf
  refine Br.no ?_
  conv => whnf
  refine Br.no ?_
  conv => whnf
  refine Br.no ?_
  conv => whnf
  refine Br.no ?_
  conv => whnf
  refine Br.no ?_
  conv => whnf
  refine Ask.o h fun p19 h => ?_
  conv => whnf
  cases h; exact ⟨rfl, rfl⟩
 conv => whnf
 cases h; exact ⟨rfl, rfl⟩
noncomputable def Cf (n0 : Int) (r0 : SRelation) : Int → Option (Int ⊕ (Unit ⊕ Unit)) := fun x6 =>
 if x6 < (↑r0.Tuples.length : Int) then
 ask ((0 : Int) ≤ x6 ∧ x6 < (↑r0.Tuples.length : Int)) <|
 ask ((0 : Int) ≤ (0 : Int) ∧ (0 : Int) < (↑(nth r0.Tuples x6.toNat).length : Int)) <|
 ask ((0 : Int) ≤ x6 ∧ x6 < (↑r0.Tuples.length : Int)) <|
 ask ((0 : Int) ≤ (1 : Int) ∧ (1 : Int) < (↑(nth r0.Tuples x6.toNat).length : Int)) <|
 (Dw (r0) ([nth (nth r0.Tuples x6.toNat) (Int.toNat (1 : Int)), nth (nth r0.Tuples x6.toNat) (Int.toNat (0 : Int))])).bind fun r11 =>
 if (r11) = true then
 (Al (Ch n0 r0 x6) (0 : Int)).bind fun t => match t with
 | (.inl _) => (some (.inr (.inl ())))
 | (.inr _) => (ask (InI (x6 + (1 : Int))) <|
 some (.inl (x6 + (1 : Int))))
 else
 some (.inr (.inl ()))
 else
 some (.inr (.inr ()))
def G0 (n0 : Int) (r0 : SRelation) : Int → St := fun s => [(6, A.val (Af s)), (3, A.val ((rP true (Ai false)) (r0))), (0, A.val (Af (n0)))]
def K0 (_n0 : Int) (_r0 : SRelation) : (Unit ⊕ Unit) → Tgt
 | (.inl _s) => (Ex.ret, [4], [(4, A.val (V.bool (false)))])
 | (.inr _s) => ((Ex.exit 2), [], [])
theorem Ta {n0 : Int} {r0 : SRelation} (x6 : Int) (o : Int ⊕ (Unit ⊕ Unit)) (h : Cf n0 r0 x6 = some o) : vc Try.prog Ky (Cu [6, 3, 0] (G0 n0 r0) (K0 n0 r0) o) (G0 n0 r0 x6) := by
 unfold Cf at h
 try dsimp only at h
 conv => whnf
 refine Cells.lit rfl rfl ?_
 conv => whnf
 refine Len.map ?_
 conv => whnf
 refine Br.od h (fun p6 h => ?_) (fun p6 h => ?_)
 ·conv => whnf
  refine Cells.lit rfl rfl ?_
  conv => whnf
  refine Len.map ?_
  conv => whnf
  refine Ask.o h fun p7 h => ?_
  conv => whnf
  refine Elem.o (by first | omega | (simp [Ap] at *; omega)) ?_
  conv => whnf
  refine Len.map ?_
  conv => whnf
  refine Ask.o h fun p8 h => ?_
  conv => whnf
  refine Elem.o (by first | omega | (simp [Ap] at *; omega)) ?_
  conv => whnf
  refine Cells.lit rfl rfl ?_
  conv => whnf
  refine Len.map ?_
  conv => whnf
  refine Ask.o h fun p9 h => ?_
  conv => whnf
  refine Elem.o (by first | omega | (simp [Ap] at *; omega)) ?_
  conv => whnf
  refine Len.map ?_
  conv => whnf
  refine Ask.o h fun p10 h => ?_
  conv => whnf
  refine Elem.o (by first | omega | (simp [Ap] at *; omega)) ?_
  conv => whnf
  refine Cells.lit rfl rfl ?_
  conv => whnf
  refine BslQ.o Af ([nth (nth r0.Tuples x6.toNat) (Int.toNat (1 : Int)), nth (nth r0.Tuples x6.toNat) (Int.toNat (0 : Int))]) (by exact fun _ => ⟨rfl, rfl⟩) (by rfl) ?_
  conv => whnf
  refine CallQ.rd V.bool (by rfl) (fun _ => rfl) h (fun r h => Kq h) (fun r11 h => ?_)
  conv => whnf
  refine Br.flip ?_
  conv => whnf
  refine Br.ob h (fun p12 h => ?_) (fun p12 h => ?_)
  ·conv => whnf
   refine LoopQ.o [9, 8, 7, 6, 3, 0] (G3 n0 r0 x6) (K4 n0 r0 x6) h (fun s o h => Te s o h) (by rfl) (by rintro (_ | _) <;> rfl) ?_
   rintro (⟨⟩ | ⟨⟩) h
   ·try dsimp only at h
    conv => whnf
    cases h; exact ⟨rfl, rfl⟩
   try dsimp only at h
   conv => whnf
   refine Ask.o h fun p21 h => ?_
   conv => whnf
   cases h; exact ⟨rfl, rfl⟩
  conv => whnf
  cases h; exact ⟨rfl, rfl⟩
 conv => whnf
 cases h; exact ⟨rfl, rfl⟩
noncomputable def Dd (n0 : Int) (r0 : SRelation) : Option Bool :=
 (Al (Ce n0 r0) (0 : Int)).bind fun t => match t with
 | (.inl _) => (some false)
 | (.inr _) => ((Al (Cf n0 r0) (0 : Int)).bind fun t => match t with
 | (.inl _) => (some false)
 | (.inr _) => (some true))
theorem M8 {n0 : Int} {r0 : SRelation} {v : Bool} (h : Dd n0 r0 = some v) : Ret Try.prog Gj [Af n0, (Ai false) r0] (V.bool v) := by
 refine A8 Xm (Nat.le_of_ble_eq_true rfl) ?_
 unfold Dd at h
 conv => whnf
 refine LoopQ.o [5, 3, 0] (G2 n0 r0) (Kx n0 r0) h (fun s o h => Tz s o h) (by rfl) (by rintro (_ | _) <;> rfl) ?_
 rintro (⟨⟩ | ⟨⟩) h
 ·try dsimp only at h
  conv => whnf
  cases h; exact (by rfl)
 try dsimp only at h
 conv => whnf
 refine LoopQ.o [6, 3, 0] (G0 n0 r0) (K0 n0 r0) h (fun s o h => Ta s o h) (by rfl) (by rintro (_ | _) <;> rfl) ?_
 rintro (⟨⟩ | ⟨⟩) h
 ·try dsimp only at h
  conv => whnf
  cases h; exact (by rfl)
 try dsimp only at h
 conv => whnf
 cases h; exact (by rfl)
noncomputable def Gr (n0 : Int) (r0 : SRelation) : Int → Option (Int ⊕ (Unit ⊕ Unit)) := fun x5 =>
 if x5 < (↑r0.Tuples.length : Int) then
 ask ((0 : Int) ≤ x5 ∧ x5 < (↑r0.Tuples.length : Int)) <|
 (Mj (n0) (r0.Arity) (nth r0.Tuples x5.toNat)).bind fun r8 =>
 if (r8) = true then
 if x5 > (0 : Int) then
 ask (InI (x5 - (1 : Int))) <|
 ask ((0 : Int) ≤ x5 - (1 : Int) ∧ x5 - (1 : Int) < (↑r0.Tuples.length : Int)) <|
 ask ((0 : Int) ≤ x5 ∧ x5 < (↑r0.Tuples.length : Int)) <|
 (Hg (nth r0.Tuples (x5 - (1 : Int)).toNat) (nth r0.Tuples x5.toNat)).bind fun r14 =>
 if (r14) = true then
 ask (InI (x5 + (1 : Int))) <|
 some (.inl (x5 + (1 : Int)))
 else
 some (.inr (.inl ()))
 else
 ask (InI (x5 + (1 : Int))) <|
 some (.inl (x5 + (1 : Int)))
 else
 some (.inr (.inl ()))
 else
 some (.inr (.inr ()))
def Mo (n0 : Int) (r0 : SRelation) : Int → St := fun s => [(5, A.val (Af s)), (3, A.val ((rP true (Ai false)) (r0))), (0, A.val (Af (n0)))]
def Sl (_n0 : Int) (_r0 : SRelation) : (Unit ⊕ Unit) → Tgt
 | (.inl _s) => (Ex.ret, [4], [(4, A.val (V.bool (false)))])
 | (.inr _s) => ((Ex.exit 0), [], [])
theorem Acm {n0 : Int} {r0 : SRelation} (x5 : Int) (o : Int ⊕ (Unit ⊕ Unit)) (h : Gr n0 r0 x5 = some o) : vc Try.prog S3 (Cu [5, 3, 0] (Mo n0 r0) (Sl n0 r0) o) (Mo n0 r0 x5) := by
 unfold Gr at h
 try dsimp only at h
 conv => whnf
 refine Cells.lit rfl rfl ?_
 conv => whnf
 refine Len.map ?_
 conv => whnf
 refine Br.od h (fun p6 h => ?_) (fun p6 h => ?_)
 ·conv => whnf
  refine Cells.lit rfl rfl ?_
  conv => whnf
  refine Cells.lit rfl rfl ?_
  conv => whnf
  refine Len.map ?_
  conv => whnf
  refine Ask.o h fun p7 h => ?_
  conv => whnf
  refine Elem.o (by first | omega | (simp [Ap] at *; omega)) ?_
  conv => whnf
  refine CallP.o V.bool (by rfl) h (fun r h => Ai5 h) (fun r8 h => ?_)
  conv => whnf
  refine Br.flip ?_
  conv => whnf
  refine Br.ob h (fun p9 h => ?_) (fun p9 h => ?_)
  ·conv => whnf
   refine Br.no ?_
   conv => whnf
   refine Br.no ?_
   conv => whnf
   refine Br.od h (fun p10 h => ?_) (fun p10 h => ?_)
   ·conv => whnf
    refine Br.yes ?_
    conv => whnf
    refine Cells.lit rfl rfl ?_
    conv => whnf
    refine Br.yes ?_
    conv => whnf
    refine Br.yes ?_
    conv => whnf
    refine Ask.o h fun p11 h => ?_
    conv => whnf
    refine Br.yes ?_
    conv => whnf
    refine Len.map ?_
    conv => whnf
    refine Ask.o h fun p12 h => ?_
    conv => whnf
    refine Elem.o (by first | omega | (simp [Ap] at *; omega)) ?_
    conv => whnf
    refine Br.yes ?_
    conv => whnf
    refine Br.yes ?_
    conv => whnf
    refine Br.yes ?_
    conv => whnf
    refine Cells.lit rfl rfl ?_
    conv => whnf
    refine Br.yes ?_
    conv => whnf
    refine Br.yes ?_
    conv => whnf
    refine Len.map ?_
    conv => whnf
    refine Ask.o h fun p13 h => ?_
    conv => whnf
    refine Elem.o (by first | omega | (simp [Ap] at *; omega)) ?_
    conv => whnf
    refine Br.yes ?_
    conv => whnf
    refine Br.yes ?_
    conv => whnf
    refine CallQ.o V.bool (by rfl) h (fun r h => Z8 h) (fun r14 h => ?_)
    conv => whnf
    refine Br.yes ?_
    conv => whnf
    refine Br.no ?_
    conv => whnf
    refine Br.yes ?_
    conv => whnf
    refine Br.no ?_
    conv => whnf
    refine Br.flip ?_
    conv => whnf
    refine Br.ob h (fun p15 h => ?_) (fun p15 h => ?_)
    ·conv => whnf
     refine Ask.o h fun p16 h => ?_
     conv => whnf
     cases h; exact ⟨rfl, rfl⟩
    conv => whnf
    cases h; exact ⟨rfl, rfl⟩
   conv => whnf
   refine Br.no ?_
   conv => whnf
   refine Br.no ?_
   conv => whnf
   refine Br.no ?_
   conv => whnf
   refine Br.no ?_
   conv => whnf
   refine Br.no ?_
   conv => whnf
   refine Br.no ?_
   conv => whnf
   refine Br.no ?_
   conv => whnf
   refine Br.no ?_
   conv => whnf
   refine Br.no ?_
   conv => whnf
   refine Br.no ?_
   conv => whnf
   refine Br.no ?_
   conv => whnf
   refine Br.no ?_
   conv => whnf
   refine Br.no ?_
   conv => whnf
   refine Br.no ?_
   conv => whnf
   refine Br.no ?_
   conv => whnf
   refine Br.no ?_
   conv => whnf
   refine Ask.o h fun p17 h => ?_
   conv => whnf
   cases h; exact ⟨rfl, rfl⟩
  conv => whnf
  refine Br.yes ?_
  conv => whnf
  refine Br.yes ?_
  conv => whnf
  refine Br.yes ?_
  conv => whnf
  refine Br.yes ?_
  conv => whnf
  refine Br.yes ?_
  conv => whnf
  cases h; exact ⟨rfl, rfl⟩
 conv => whnf
 cases h; exact ⟨rfl, rfl⟩
noncomputable def Js (n0 : Int) (r0 : SRelation) : Option Bool :=
 (((D8 (r0.Arity) ((1 : Int)) ((3 : Int))).bind fun r1 =>
 if (r1) = true then
 (Dz (n0) (r0.Arity)).bind fun r3 =>
 if (↑r0.Tuples.length : Int) > r3 then
 some (.inl ())
 else
 some (.inr ())
 else
 some (.inl ()) : Option (Unit ⊕ Unit))).bind fun t => match t with
 | (.inl _) => (some false)
 | (.inr _) => ((Al (Gr n0 r0) (0 : Int)).bind fun t => match t with
 | (.inl _) => (some false)
 | (.inr _) => (some true))
theorem Ahu {n0 : Int} {r0 : SRelation} {v : Bool} (h : Js n0 r0 = some v) : Ret Try.prog Ro [Af n0, (Ai false) r0] (V.bool v) := by
 refine A8 Ag5 (Nat.le_of_ble_eq_true rfl) ?_
 unfold Js at h
 conv => whnf
 refine CutQ.o (fun t : (Unit ⊕ Unit) => match t with | (.inl s) => (Ex.ret, [4], [(4, A.val (V.bool (false)))]) | (.inr s) => (Ex.normal, [3, 0], [(3, A.val ((rP true (Ai false)) (r0))), (0, A.val (Af (n0)))])) h ?_ ?_
 ·intro t h
  conv => whnf
  refine Cells.lit rfl rfl ?_
  conv => whnf
  refine CallP.o V.bool (by rfl) h (fun r h => Ic h) (fun r1 h => ?_)
  conv => whnf
  refine Br.flip ?_
  conv => whnf
  refine Br.ob h (fun p2 h => ?_) (fun p2 h => ?_)
  ·conv => whnf
   refine Br.no ?_
   conv => whnf
   refine Cells.lit rfl rfl ?_
   conv => whnf
   refine Br.no ?_
   conv => whnf
   refine Len.map ?_
   conv => whnf
   refine Br.no ?_
   conv => whnf
   refine Br.no ?_
   conv => whnf
   refine Br.no ?_
   conv => whnf
   refine Cells.lit rfl rfl ?_
   conv => whnf
   refine Br.no ?_
   conv => whnf
   refine CallP.o Af (by rfl) h (fun r h => Qo h) (fun r3 h => ?_)
   conv => whnf
   refine Br.no ?_
   conv => whnf
   refine Br.no ?_
   conv => whnf
   refine Br.od h (fun p4 h => ?_) (fun p4 h => ?_)
   ·conv => whnf
    cases h; exact ⟨rfl, rfl⟩
   conv => whnf
   cases h; exact ⟨rfl, rfl⟩
  conv => whnf
  refine Br.yes ?_
  conv => whnf
  refine Br.yes ?_
  conv => whnf
  refine Br.yes ?_
  conv => whnf
  refine Br.yes ?_
  conv => whnf
  refine Br.yes ?_
  conv => whnf
  refine Br.yes ?_
  conv => whnf
  refine Br.yes ?_
  conv => whnf
  refine Br.yes ?_
  conv => whnf
  refine Br.yes ?_
  conv => whnf
  cases h; exact ⟨rfl, rfl⟩
 rintro (⟨⟩ | ⟨⟩) h
 ·try dsimp only at h
  conv => whnf
  cases h; exact (by rfl)
 try dsimp only at h
 conv => whnf
 refine LoopQ.o [5, 3, 0] (Mo n0 r0) (Sl n0 r0) h (fun s o h => Acm s o h) (by rfl) (by rintro (_ | _) <;> rfl) ?_
 rintro (⟨⟩ | ⟨⟩) h
 ·try dsimp only at h
  conv => whnf
  cases h; exact (by rfl)
 try dsimp only at h
 conv => whnf
 cases h; exact (by rfl)
noncomputable def C0 : (Int × (List Int) × Sl1Cur) → Option ((Int × (List Int) × Sl1Cur) ⊕ ((List Int) × Sl1Cur)) := fun (x6, x5, x59) =>
 ((if x6 > (0 : Int) then
 if (↑x5.length : Int) > (1 : Int) then
 some (.inl ())
 else
 some (.inr ())
 else
 some (.inr ()) : Option (Unit ⊕ Unit))).bind fun t => match t with
 | (.inl _) => ((Ar (x59) ((↑x5.length : Int))).bind fun (r9, u10) =>
 (Ar (u10) ((↑x5.length : Int))).bind fun (r11, u12) =>
 (E3 (x5) (r9) (r11)).bind fun r13 =>
 ask (InI (x6 - (1 : Int))) <|
 some (.inl (x6 - (1 : Int), r13, u12)))
 | (.inr _) => (some (.inr (x5, x59)))
def F7 : (Int × (List Int) × Sl1Cur) → St := fun s => [(6, A.val (Af s.1)), (5, A.val ((slr true 1 Af) s.2.1)), (0, A.ref 59 []), (59, A.val ((rP true (Aj false)) s.2.2))]
def Ji : ((List Int) × Sl1Cur) → Tgt
 | s => ((Ex.exit 0), [5, 0, 59], [(5, A.val ((slr true 1 Af) s.1)), (0, A.ref 59 []), (59, A.val ((rP true (Aj false)) s.2))])
theorem Q7 (s : (Int × (List Int) × Sl1Cur)) (o : (Int × (List Int) × Sl1Cur) ⊕ ((List Int) × Sl1Cur)) (h : C0 s = some o) : vc Try.prog Jx (Cu [6, 5, 0, 59] (F7) (Ji) o) (F7 s) := by
 obtain ⟨x6, x5, x59⟩ := s
 unfold C0 at h
 try dsimp only at h
 conv => whnf
 refine CutQ.o (fun t : (Unit ⊕ Unit) => match t with | (.inl s) => (Ex.normal, [6, 5, 0, 59], [(6, A.val (Af (x6))), (5, A.val ((slr true 1 Af) (x5))), (0, A.ref 59 []), (59, A.val ((rP true (Aj false)) (x59)))]) | (.inr s) => ((Ex.exit 0), [5, 0, 59], [(5, A.val ((slr true 1 Af) (x5))), (0, A.ref 59 []), (59, A.val ((rP true (Aj false)) (x59)))])) h ?_ ?_
 ·intro t h
  conv => whnf
  refine Br.od h (fun p6 h => ?_) (fun p6 h => ?_)
  ·conv => whnf
   refine Br.yes ?_
   conv => whnf
   refine Len.map ?_
   conv => whnf
   refine Br.yes ?_
   conv => whnf
   refine Br.yes ?_
   conv => whnf
   refine Br.od h (fun p7 h => ?_) (fun p7 h => ?_)
   ·conv => whnf
    cases h; exact ⟨rfl, rfl⟩
   conv => whnf
   cases h; exact ⟨rfl, rfl⟩
  conv => whnf
  refine Br.no ?_
  conv => whnf
  refine Br.no ?_
  conv => whnf
  refine Br.no ?_
  conv => whnf
  refine Br.no ?_
  conv => whnf
  cases h; exact ⟨rfl, rfl⟩
 rintro (⟨⟩ | ⟨⟩) h
 ·try dsimp only at h
  conv => whnf
  refine Len.map ?_
  conv => whnf
  refine CallQ.io Af (rP true (Aj false)) (by rfl) rfl (fun _ => rfl) (fun _ => ⟨rfl, rfl⟩) rfl h (fun r h => Aw h) (fun r9 u10 h => ?_)
  conv => whnf
  refine Len.map ?_
  conv => whnf
  refine CallQ.io Af (rP true (Aj false)) (by rfl) rfl (fun _ => rfl) (fun _ => ⟨rfl, rfl⟩) rfl h (fun r h => Aw h) (fun r11 u12 h => ?_)
  conv => whnf
  refine CallQ.rd (slr true 1 Af) (by first | rfl | simp only [V.fz, Ab, slr] | simp [Aa, V.fz, fzL, V.up, upL, Ab, Ac, Ad, slr]) (fun _ => by simp [V.noFz, Bs]) h (fun r h => M2 h) (fun r13 h => ?_)
  conv => whnf
  refine Ask.o h fun p14 h => ?_
  conv => whnf
  cases h; exact ⟨rfl, rfl⟩
 try dsimp only at h
 conv => whnf
 cases h; exact ⟨rfl, rfl⟩
noncomputable def Cr (c0 : Sl1Cur) (n0 : Int) : Option ((List Int) × Sl1Cur) :=
 (Iq (n0) ((0 : Int))).bind fun r1 =>
 (Dy (r1) ((9 : Int))).bind fun r2 =>
 (Da (r2)).bind fun r3 =>
 (Ar (c0) ((4 : Int))).bind fun (r4, u5) =>
 (Al (C0) (r4, r3, u5)).bind fun (q15_5, q15_59) =>
 (Ar (q15_59) ((24 : Int))).bind fun (r16, u17) =>
 if r16 = (0 : Int) then
 ask ((q15_5).length + ([(0 : Int)]).length ≤ LIM) <|
 some (q15_5 ++ [(0 : Int)], u17)
 else
 if r16 = (1 : Int) then
 if (↑q15_5.length : Int) > (0 : Int) then
 (Ar (u17) ((↑q15_5.length : Int))).bind fun (r21, u22) =>
 ask (InI ((↑q15_5.length : Int) - (1 : Int))) <|
 (A1 (u22) ([(-1 : Int), (↑q15_5.length : Int), (↑q15_5.length : Int) - (1 : Int), (0 : Int)])).bind fun (r24, u25) =>
 ask ((0 : Int) ≤ r21 ∧ r21 < (↑q15_5.length : Int)) <|
 some (q15_5.set r21.toNat r24, u25)
 else
 some (q15_5, u17)
 else
 some (q15_5, u17)
theorem Lr {c0 : Sl1Cur} {n0 : Int} {v : ((List Int) × Sl1Cur)} (h : Cr c0 n0 = some v) : Qs Try.prog Hq [(rP true (Aj false)) c0, Af n0] ((slr true 1 Af) v.1) 0 ((rP true (Aj false)) v.2) := by
 refine Lh Vl (Nat.le_of_ble_eq_true rfl) ?_
 unfold Cr at h
 conv => whnf
 refine CallQ.o Af (by rfl) h (fun r h => Z7 h) (fun r1 h => ?_)
 conv => whnf
 refine CallQ.o Af (by rfl) h (fun r h => Q9 h) (fun r2 h => ?_)
 conv => whnf
 refine CallQ.o (slr true 1 Af) (by rfl) h (fun r h => I8 h) (fun r3 h => ?_)
 conv => whnf
 refine CallQ.io Af (rP true (Aj false)) (by rfl) rfl (fun _ => rfl) (fun _ => ⟨rfl, rfl⟩) rfl h (fun r h => Aw h) (fun r4 u5 h => ?_)
 conv => whnf
 refine LoopQ.o [6, 5, 0, 59] (F7) (Ji) h (fun s o h => Q7 s o h) (by rfl) (fun _ => rfl) ?_
 rintro ⟨q15_5, q15_59⟩ h
 try dsimp only at h
 conv => whnf
 refine CallQ.io Af (rP true (Aj false)) (by rfl) rfl (fun _ => rfl) (fun _ => ⟨rfl, rfl⟩) rfl h (fun r h => Aw h) (fun r16 u17 h => ?_)
 conv => whnf
 refine Br.oe h (fun p18 h => ?_) (fun p18 h => ?_)
 ·conv => whnf
  refine BslQ.o Af ([(0 : Int)]) (by exact fun _ => ⟨rfl, rfl⟩) (by rfl) ?_
  conv => whnf
  refine NoOwn.o (fun _ => rfl) ?_
  conv => whnf
  refine AppQ.o (m := 1) Af (by exact fun _ => ⟨rfl, rfl⟩) (q15_5) ([(0 : Int)]) (by rfl) (by rfl) h fun h => ?_
  conv => whnf
  cases h; exact ⟨(by rfl), (by rfl)⟩
 conv => whnf
 refine Br.oe h (fun p19 h => ?_) (fun p19 h => ?_)
 ·conv => whnf
  refine Len.map ?_
  conv => whnf
  refine Br.od h (fun p20 h => ?_) (fun p20 h => ?_)
  ·conv => whnf
   refine Len.map ?_
   conv => whnf
   refine CallQ.io Af (rP true (Aj false)) (by rfl) rfl (fun _ => rfl) (fun _ => ⟨rfl, rfl⟩) rfl h (fun r h => Aw h) (fun r21 u22 h => ?_)
   conv => whnf
   refine Len.map ?_
   conv => whnf
   refine Len.map ?_
   conv => whnf
   refine Ask.o h fun p23 h => ?_
   conv => whnf
   refine BslQ.o Af ([(-1 : Int), (↑q15_5.length : Int), (↑q15_5.length : Int) - (1 : Int), (0 : Int)]) (by exact fun _ => ⟨rfl, rfl⟩) (by rfl) ?_
   conv => whnf
   refine CallQ.io Af (rP true (Aj false)) (by rfl) rfl (fun _ => rfl) (fun _ => ⟨rfl, rfl⟩) rfl h (fun r h => Ba h) (fun r24 u25 h => ?_)
   conv => whnf
   refine Len.map ?_
   conv => whnf
   refine Ask.o h fun p26 h => ?_
   conv => whnf
   refine SetKids.one (fun _ => ⟨rfl, rfl⟩) (r24) (by rfl) (by first | omega | (simp [Ap] at *; omega)) ?_
   conv => whnf
   cases h; exact ⟨(by rfl), (by rfl)⟩
  conv => whnf
  cases h; exact ⟨(by rfl), (by rfl)⟩
 conv => whnf
 cases h; exact ⟨(by rfl), (by rfl)⟩
noncomputable def Fa (a0 : SAlgebra) : (Int × (List Int)) → Option ((Int × (List Int)) ⊕ (List Int)) := fun (x5, x1) =>
 if x5 < a0.Size then
 (Fu (a0) (x1)).bind fun r2 =>
 ask (InI (x5 + (1 : Int))) <|
 some (.inl (x5 + (1 : Int), r2))
 else
 some (.inr x1)
def Mu (a0 : SAlgebra) : (Int × (List Int)) → St := fun s => [(5, A.val (Af s.1)), (2, A.val ((rP true (Ak false)) (a0))), (1, A.val ((slr false 1 Af) s.2))]
def S4 (_a0 : SAlgebra) : (List Int) → Tgt
 | s => ((Ex.exit 0), [1], [(1, A.val ((slr false 1 Af) s))])
theorem Ac3 {a0 : SAlgebra} (s : (Int × (List Int))) (o : (Int × (List Int)) ⊕ (List Int)) (h : Fa a0 s = some o) : vc Try.prog S5 (Cu [5, 2, 1] (Mu a0) (S4 a0) o) (Mu a0 s) := by
 obtain ⟨x5, x1⟩ := s
 unfold Fa at h
 try dsimp only at h
 conv => whnf
 refine Cells.lit rfl rfl ?_
 conv => whnf
 refine Br.od h (fun p1 h => ?_) (fun p1 h => ?_)
 ·conv => whnf
  refine Cells.lit rfl rfl ?_
  conv => whnf
  refine CallQ.o (slr true 1 Af) (by rfl) h (fun r h => Akh h) (fun r2 h => ?_)
  conv => whnf
  refine FrzQ.d (V.sl false (1 : Nat) (List.map Af r2)) (by first | (simp only [slr]; done) | (simp [A6, V.fz, Ab, slr]; done) | (simp [A6, V.fz, fzL, Ab, slr]; done)) ?_
  conv => whnf
  refine Ask.o h fun p3 h => ?_
  conv => whnf
  cases h; exact ⟨rfl, rfl⟩
 conv => whnf
 cases h; exact ⟨rfl, rfl⟩
noncomputable def Jg (a0 : SAlgebra) (p0 : (List Int)) : Option (List Int) :=
 (Al (Fa a0) ((0 : Int), p0)).bind fun q4_1 =>
 some q4_1
theorem Aiy {a0 : SAlgebra} {p0 : (List Int)} {v : (List Int)} (h : Jg a0 p0 = some v) : Ret Try.prog Rh [(Ak false) a0, (slr false 1 Af) p0] ((slr false 1 Af) v) := by
 refine A8 Ah2 (Nat.le_of_ble_eq_true rfl) ?_
 unfold Jg at h
 conv => whnf
 refine LoopQ.o [5, 2, 1] (Mu a0) (S4 a0) h (fun s o h => Ac3 s o h) (by rfl) (fun _ => rfl) ?_
 rintro q4_1 h
 try dsimp only at h
 conv => whnf
 cases h; exact (by rfl)
noncomputable def Il (n0 : Int) (op0 : SOp) (r0 : SRelation) : Option (Bool × Bool) :=
 (Mw (n0) (op0) (r0)).bind fun r1 =>
 if (r1) = true then
 (Gs (n0) (op0) (r0)).bind fun r3 =>
 some (!r3.snd.snd, true)
 else
 some (false, false)
theorem Af9 {n0 : Int} {op0 : SOp} {r0 : SRelation} {v : (Bool × Bool)} (h : Il n0 op0 r0 = some v) : Ret Try.prog Pz [Af n0, (A7 false) op0, (Ai false) r0] ((fun r => V.tup [V.bool r.1, V.bool r.2]) v) := by
 refine A8 Afw (Nat.le_of_ble_eq_true rfl) ?_
 unfold Il at h
 conv => whnf
 refine Cells.lit rfl rfl ?_
 conv => whnf
 refine Cells.lit rfl rfl ?_
 conv => whnf
 refine CallQ.o V.bool (by rfl) h (fun r h => Ag2 h) (fun r1 h => ?_)
 conv => whnf
 refine Br.flip ?_
 conv => whnf
 refine Br.ob h (fun p2 h => ?_) (fun p2 h => ?_)
 ·conv => whnf
  refine Cells.lit rfl rfl ?_
  conv => whnf
  refine Cells.lit rfl rfl ?_
  conv => whnf
  refine CallQ.o (fun r => V.tup [(slr true 1 Af) r.1, (slr true 1 Af) r.2.1, V.bool r.2.2]) (by rfl) h (fun r h => Adc h) (fun r3 h => ?_)
  conv => whnf
  cases h; exact (by rfl)
 conv => whnf
 cases h; exact (by rfl)
noncomputable def B3 (code0 : (List Int)) : Option (Int × (List Int)) :=
 (D5 ({ code := code0, at_ := (0 : Int), seed := (0 : Int) })).bind fun (r1, u2) =>
 (Dy (r1) ((9 : Int))).bind fun r3 =>
 (Bl (u2) (r3)).bind fun (r4, u5) =>
 ((if (↑r4.length : Int) > (0 : Int) then
 (Bm (u5) ((8 : Int))).bind fun (r7, u8) =>
 some (r7, u8)
 else
 some (false, u5) : Option (Bool × Sl1Cur))).bind fun (q9_22, q9_4) =>
 if (q9_22) = true then
 (Ar (q9_4) ((↑r4.length : Int))).bind fun (r11, u12) =>
 (A1 (u12) ([(-1 : Int), r1, (0 : Int), (1 : Int)])).bind fun (r13, _u14) =>
 ask ((0 : Int) ≤ r11 ∧ r11 < (↑r4.length : Int)) <|
 some (r1, r4.set r11.toNat r13)
 else
 some (r1, r4)
theorem Nx {code0 : (List Int)} {v : (Int × (List Int))} (h : B3 code0 = some v) : Ret Try.prog Ek [(slr false 1 (V.int IntKind.u8)) code0] ((fun r => V.tup [Af r.1, (slr false 1 Af) r.2]) v) := by
 refine Acc Oj (Nat.le_of_ble_eq_true rfl) ?_
 unfold B3 at h
 conv => whnf
 refine CallQ.io Af (rP true (Aj false)) (by rfl) rfl (fun _ => rfl) (fun _ => ⟨rfl, rfl⟩) rfl h (fun r h => Qd h) (fun r1 u2 h => ?_)
 conv => whnf
 refine CallQ.o Af (by rfl) h (fun r h => Q9 h) (fun r3 h => ?_)
 conv => whnf
 refine CallQ.io (slr true 1 Af) (rP true (Aj false)) (by rfl) rfl (fun _ => rfl) (fun _ => ⟨rfl, rfl⟩) rfl h (fun r h => Ha h) (fun r4 u5 h => ?_)
 conv => whnf
 refine CutQ.o (fun t : (Bool × Sl1Cur) => match t with | s => (Ex.normal, [22, 6, 5, 4], [(22, A.val (V.bool s.1)), (6, A.val ((slr true 1 Af) (r4))), (5, A.val (Af (r1))), (4, A.val ((rP true (Aj false)) s.2))])) h ?_ ?_
 ·intro t h
  conv => whnf
  refine Len.map ?_
  conv => whnf
  refine Br.od h (fun p6 h => ?_) (fun p6 h => ?_)
  ·conv => whnf
   refine Br.yes ?_
   conv => whnf
   refine CallQ.io V.bool (rP true (Aj false)) (by rfl) rfl (fun _ => rfl) (fun _ => ⟨rfl, rfl⟩) rfl h (fun r h => Eo h) (fun r7 u8 h => ?_)
   conv => whnf
   refine Br.yes ?_
   conv => whnf
   cases h; exact ⟨rfl, rfl⟩
  conv => whnf
  refine Br.no ?_
  conv => whnf
  refine Br.no ?_
  conv => whnf
  cases h; exact ⟨rfl, rfl⟩
 rintro ⟨q9_22, q9_4⟩ h
 try dsimp only at h
 conv => whnf
 refine Br.ob h (fun p10 h => ?_) (fun p10 h => ?_)
 ·conv => whnf
  refine Len.map ?_
  conv => whnf
  refine CallQ.io Af (rP true (Aj false)) (by rfl) rfl (fun _ => rfl) (fun _ => ⟨rfl, rfl⟩) rfl h (fun r h => Aw h) (fun r11 u12 h => ?_)
  conv => whnf
  refine BslQ.o Af ([(-1 : Int), r1, (0 : Int), (1 : Int)]) (by exact fun _ => ⟨rfl, rfl⟩) (by rfl) ?_
  conv => whnf
  refine CallQ.io Af (rP true (Aj false)) (by rfl) rfl (fun _ => rfl) (fun _ => ⟨rfl, rfl⟩) rfl h (fun r h => Ba h) (fun r13 u14 h => ?_)
  conv => whnf
  refine Len.map ?_
  conv => whnf
  refine Ask.o h fun p15 h => ?_
  conv => whnf
  refine SetKids.one (fun _ => ⟨rfl, rfl⟩) (r13) (by rfl) (by first | omega | (simp [Ap] at *; omega)) ?_
  conv => whnf
  cases h; exact (by first | rfl | simp only [Ag, Aa, V.fz, fzL, V.up, Ab, slr] | simp [Ag, Aa, V.fz, fzL, V.up, upL, Ab, Ac, Ad, slr])
 conv => whnf
 cases h; exact (by first | rfl | simp only [Ag, V.fz, fzL, V.up, Ab, slr] | simp [Ag, Aa, V.fz, fzL, V.up, upL, Ab, Ac, Ad, slr])
end Go.Proofs.Ytcpgnfohmeineaa.Ax
