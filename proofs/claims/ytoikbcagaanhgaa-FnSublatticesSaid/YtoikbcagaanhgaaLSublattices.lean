/-
 What the functions compute, as functions on plain data, and that the program does compute it; written by program.
-/
import Derived.Test.YtoikbcagaanhgaaCode
import Derived.Test.YtoikbcagaanhgaaG1
import Derived.Test.YtoikbcagaanhgaaG4
import Derived.Test.YtoikbcagaanhgaaG9
import Derived.Test.YtoikbcagaanhgaaG10
import Derived.Test.YtoikbcagaanhgaaG12
import Derived.Test.YtoikbcagaanhgaaG14
namespace Go.Proofs.Ytoikbcagaanhgaa.Ax
open Go
set_option maxRecDepth 100000
set_option maxHeartbeats 4000000
noncomputable def B9 (_code0 : List Int) (r3 : SPoset × List Int) (_r4 : Bool × Bool) (r9 : SPoset × Bool) (x13 : Int) : Int → Option (Int ⊕ (Unit ⊕ Unit)) := fun x14 =>
 if x14 < (↑r3.snd.length : Int) then
 (Jj (r9.fst) (x13) (x14)).bind fun r25 =>
 ask ((0 : Int) ≤ x13 ∧ x13 < (↑r3.snd.length : Int)) <|
 ask ((0 : Int) ≤ x14 ∧ x14 < (↑r3.snd.length : Int)) <|
 (Jj (r3.fst) (nth r3.snd x13.toNat) (nth r3.snd x14.toNat)).bind fun r28 =>
 if (r25.snd) = true then
 if (r28.snd) = true then
 if r25.fst < (0 : Int) then
 some (.inr (.inl ()))
 else
 if r25.fst ≥ (↑r3.snd.length : Int) then
 some (.inr (.inl ()))
 else
 ask ((0 : Int) ≤ r25.fst ∧ r25.fst < (↑r3.snd.length : Int)) <|
 if nth r3.snd r25.fst.toNat ≠ r28.fst then
 some (.inr (.inl ()))
 else
 ask (InI (x14 + (1 : Int))) <|
 some (.inl (x14 + (1 : Int)))
 else
 some (.inr (.inl ()))
 else
 some (.inr (.inl ()))
 else
 some (.inr (.inr ()))
def Iu (code0 : List Int) (r3 : SPoset × List Int) (r4 : Bool × Bool) (r9 : SPoset × Bool) (x13 : Int) : Int → St := fun s => [(14, A.val (Ab s)), (13, A.val (Ab (x13))), (9, A.val ((rP true (Ac true)) (r9.fst))), (6, A.val (V.bool (r4.snd))), (5, A.val (V.bool (r4.fst))), (4, A.val ((slr false 1 Ab) (r3.snd))), (3, A.val ((rP true (Ac false)) (r3.fst))), (0, A.val ((slr false 1 (V.int IntKind.u8)) (code0)))]
def Ng (code0 : List Int) (r3 : SPoset × List Int) (r4 : Bool × Bool) (r9 : SPoset × Bool) (x13 : Int) : (Unit ⊕ Unit) → Tgt
 | (.inl _s) => (Ex.ret, [2], [(2, A.val (V.bool (false)))])
 | (.inr _s) => ((Ex.exit 2), [13, 9, 6, 5, 4, 3, 0], [(13, A.val (Ab (x13))), (9, A.val ((rP true (Ac true)) (r9.fst))), (6, A.val (V.bool (r4.snd))), (5, A.val (V.bool (r4.fst))), (4, A.val ((slr false 1 Ab) (r3.snd))), (3, A.val ((rP true (Ac false)) (r3.fst))), (0, A.val ((slr false 1 (V.int IntKind.u8)) (code0)))])
theorem Xv {code0 : List Int} {r3 : SPoset × List Int} {r4 : Bool × Bool} {r9 : SPoset × Bool} {x13 : Int} (x14 : Int) (o : Int ⊕ (Unit ⊕ Unit)) (h : B9 code0 r3 r4 r9 x13 x14 = some o) : vc Try.prog Np (Bp [14, 13, 9, 6, 5, 4, 3, 0] (Iu code0 r3 r4 r9 x13) (Ng code0 r3 r4 r9 x13) o) (Iu code0 r3 r4 r9 x13 x14) := by
 unfold B9 at h
 try dsimp only at h
 refine Len.map ?_
 refine Br.od h (fun p24 h => ?_) (fun p24 h => ?_)
 ·refine Cells.lit rfl rfl ?_
  refine CallQ.rd (fun r => V.tup [Ab r.1, V.bool r.2]) (by first | rfl | simp only [V.fz, V.up, Ae, Ah] | simp [Ad, V.fz, fzL, V.up, upL, Ae, Af, Ah, slr]) (fun _ => by simp [V.noFz, Ba]) h (fun r h => Ae9 h) (fun r25 h => ?_)
  refine Cells.lit rfl rfl ?_
  refine Len.map ?_
  refine Ask.o h fun p26 h => ?_
  refine Elem.o (by first | omega | (simp [Am] at *; omega)) ?_
  refine Len.map ?_
  refine Ask.o h fun p27 h => ?_
  refine Elem.o (by first | omega | (simp [Am] at *; omega)) ?_
  refine CallP.o (fun r => V.tup [Ab r.1, V.bool r.2]) (by rfl) h (fun r h => Ae9 h) (fun r28 h => ?_)
  refine Br.flip ?_
  refine Br.ob h (fun p29 h => ?_) (fun p29 h => ?_)
  ·refine Br.no ?_
   refine Br.no ?_
   refine Br.flip ?_
   refine Br.ob h (fun p30 h => ?_) (fun p30 h => ?_)
   ·refine Br.no ?_
    refine Br.no ?_
    refine Br.od h (fun p31 h => ?_) (fun p31 h => ?_)
    ·refine Br.yes ?_
     iterate 11 refine Br.yes ?_
     cases h; exact ⟨rfl, rfl⟩
    iterate 2 refine Br.no ?_
    refine Len.map ?_
    iterate 2 refine Br.no ?_
    refine Br.od h (fun p32 h => ?_) (fun p32 h => ?_)
    ·refine Br.yes ?_
     iterate 6 refine Br.yes ?_
     cases h; exact ⟨rfl, rfl⟩
    iterate 2 refine Br.no ?_
    refine Len.map ?_
    refine Ask.o h fun p33 h => ?_
    refine Elem.o (by first | omega | (simp [Am] at *; omega)) ?_
    iterate 4 refine Br.no ?_
    refine Br.on h (fun p34 h => ?_) (fun p34 h => ?_)
    ·cases h; exact ⟨rfl, rfl⟩
    refine Ask.o h fun p35 h => ?_
    cases h; exact ⟨rfl, rfl⟩
   iterate 15 refine Br.yes ?_
   cases h; exact ⟨rfl, rfl⟩
  iterate 18 refine Br.yes ?_
  cases h; exact ⟨rfl, rfl⟩
 cases h; exact ⟨rfl, rfl⟩
noncomputable def B7 (code0 : List Int) (r3 : SPoset × List Int) (r4 : Bool × Bool) (r9 : SPoset × Bool) : Int → Option (Int ⊕ (Unit ⊕ Unit)) := fun x13 =>
 if x13 < (↑r3.snd.length : Int) then
 (Ai (B9 code0 r3 r4 r9 x13) (0 : Int)).bind fun t => match t with
 | (.inl _) => (some (.inr (.inl ())))
 | (.inr _) => (ask (InI (x13 + (1 : Int))) <|
 some (.inl (x13 + (1 : Int))))
 else
 some (.inr (.inr ()))
def Ih (code0 : List Int) (r3 : SPoset × List Int) (r4 : Bool × Bool) (r9 : SPoset × Bool) : Int → St := fun s => [(13, A.val (Ab s)), (9, A.val ((rP true (Ac true)) (r9.fst))), (6, A.val (V.bool (r4.snd))), (5, A.val (V.bool (r4.fst))), (4, A.val ((slr false 1 Ab) (r3.snd))), (3, A.val ((rP true (Ac false)) (r3.fst))), (0, A.val ((slr false 1 (V.int IntKind.u8)) (code0)))]
def Nn (code0 : List Int) (r3 : SPoset × List Int) (r4 : Bool × Bool) (_r9 : SPoset × Bool) : (Unit ⊕ Unit) → Tgt
 | (.inl _s) => (Ex.ret, [2], [(2, A.val (V.bool (false)))])
 | (.inr _s) => ((Ex.exit 0), [6, 5, 4, 3, 0], [(6, A.val (V.bool (r4.snd))), (5, A.val (V.bool (r4.fst))), (4, A.val ((slr false 1 Ab) (r3.snd))), (3, A.val ((rP true (Ac false)) (r3.fst))), (0, A.val ((slr false 1 (V.int IntKind.u8)) (code0)))])
theorem Yt {code0 : List Int} {r3 : SPoset × List Int} {r4 : Bool × Bool} {r9 : SPoset × Bool} (x13 : Int) (o : Int ⊕ (Unit ⊕ Unit)) (h : B7 code0 r3 r4 r9 x13 = some o) : vc Try.prog Nh (Bp [13, 9, 6, 5, 4, 3, 0] (Ih code0 r3 r4 r9) (Nn code0 r3 r4 r9) o) (Ih code0 r3 r4 r9 x13) := by
 unfold B7 at h
 try dsimp only at h
 refine Len.map ?_
 refine Br.od h (fun p23 h => ?_) (fun p23 h => ?_)
 ·refine LoopQ.o [14, 13, 9, 6, 5, 4, 3, 0] (Iu code0 r3 r4 r9 x13) (Ng code0 r3 r4 r9 x13) h (fun s o h => Xv s o h) (by first | rfl | simp [restrict, look, Ad, V.fz, fzL, V.up, upL, Ae, Af, Ah, slr]) (by rintro (_ | _) <;> rfl) ?_
  rintro (⟨⟩ | ⟨⟩) h
  ·try dsimp only at h
   cases h; exact ⟨rfl, rfl⟩
  try dsimp only at h
  refine Ask.o h fun p37 h => ?_
  cases h; exact ⟨rfl, rfl⟩
 cases h; exact ⟨rfl, rfl⟩
noncomputable def Hx (code0 : (List Int)) : Option Bool :=
 (Wa (code0)).bind fun r1 =>
 if (r1) = true then
 some true
 else
 (Dx (code0)).bind fun r3 =>
 (C4 (r3.fst) (r3.snd)).bind fun r4 =>
 (((F7 (r3.fst) (r3.snd)).bind fun r5 =>
 if (r4.fst == r5.fst) = true then
 if (r4.snd == r5.snd) = true then
 some (.inl ())
 else
 some (.inr ())
 else
 some (.inr ()) : Option (Unit ⊕ Unit))).bind fun t => match t with
 | (.inl _) => ((Eb (r3.fst) (r3.snd)).bind fun r9 =>
 (((El (r3.fst) (r3.snd)).bind fun r10 =>
 if (r9.snd == r10.snd) = true then
 if (r4.snd) = true then
 if (r9.snd == r4.fst) = true then
 (H5 (r9.fst.Below) (r10.fst.Below)).bind fun r14 =>
 if (r14) = true then
 some (.inl ())
 else
 some (.inr ())
 else
 some (.inr ())
 else
 if (r9.snd == false) = true then
 (H5 (r9.fst.Below) (r10.fst.Below)).bind fun r17 =>
 if (r17) = true then
 some (.inl ())
 else
 some (.inr ())
 else
 some (.inr ())
 else
 some (.inr ()) : Option (Unit ⊕ Unit))).bind fun t => match t with
 | (.inl _) => (((if (r9.snd) = true then
 (Iv (r9.fst)).bind fun r21 =>
 if (r21) = true then
 (Ai (B7 code0 r3 r4 r9) (0 : Int)).bind fun t => match t with
 | (.inl _) => (some (.inl ()))
 | (.inr _) => (some (.inr ()))
 else
 some (.inl ())
 else
 some (.inr ()) : Option (Unit ⊕ Unit))).bind fun t => match t with
 | (.inl _) => (some false)
 | (.inr _) => ((((C8 (r3.fst)).bind fun r40 =>
 ((if (r4.snd) = true then
 some r40.snd
 else
 some false : Option Bool)).bind fun q42_161 =>
 if (q42_161) = true then
 (((C9 (r3.fst)).bind fun r44 =>
 if (r40.snd == r44.snd) = true then
 (Hi (r40.fst) (r44.fst)).bind fun r46 =>
 if (r46) = true then
 some (.inl ())
 else
 some (.inr ())
 else
 some (.inr ()) : Option (Unit ⊕ Unit))).bind fun t => match t with
 | (.inl _) => ((Dw (r40.fst) (r3.snd)).bind fun r49 =>
 (Dy (r40.fst) (r3.snd)).bind fun r50 =>
 if (r49.fst == r50.fst) = true then
 if (r49.snd == r50.snd) = true then
 if (r49.snd) = true then
 if (r49.fst) = true then
 if (r4.fst == decide ((↑r3.snd.length : Int) > (0 : Int))) = true then
 some (.inl ())
 else
 some (.inr ())
 else
 if (r4.fst == false) = true then
 some (.inl ())
 else
 some (.inr ())
 else
 some (.inr ())
 else
 some (.inr ())
 else
 some (.inr ()))
 | (.inr _) => (some (.inr ()))
 else
 some (.inl ()) : Option (Unit ⊕ Unit))).bind fun t => match t with
 | (.inl _) => ((Bs (code0)).bind fun r58 =>
 (Cb (r58.fst) (r58.snd)).bind fun r59 =>
 (((Ca (r58.fst) (r58.snd)).bind fun r60 =>
 if (r59.snd == r60.snd) = true then
 (Ht (r59.fst) (r60.fst)).bind fun r62 =>
 if (r62) = true then
 some (.inl ())
 else
 some (.inr ())
 else
 some (.inr ()) : Option (Unit ⊕ Unit))).bind fun t => match t with
 | (.inl _) => (if (r59.snd) = true then
 (C4 (r58.fst) (r59.fst)).bind fun r66 =>
 if (r66.snd) = true then
 if (r66.fst) = true then
 (Iq (r58.snd) (r59.fst)).bind fun r69 =>
 if (r69) = true then
 some true
 else
 some false
 else
 some false
 else
 some false
 else
 some true)
 | (.inr _) => (some false))
 | (.inr _) => (some false)))
 | (.inr _) => (some false))
 | (.inr _) => (some false)
theorem Aci {code0 : (List Int)} {v : Bool} (h : Hx code0 = some v) : Ret Try.prog Q8 [(slr false 1 (V.int IntKind.u8)) code0] (V.bool v) := by
 refine Av Abx (Nat.le_of_ble_eq_true rfl) ?_
 unfold Hx at h
 refine CallQ.o V.bool (by rfl) h (fun r h => Aw9 h) (fun r1 h => ?_)
 refine Br.ob h (fun p2 h => ?_) (fun p2 h => ?_)
 ·cases h; exact (by rfl)
 refine CallQ.o (fun r => V.tup [(Ac false) r.1, (slr false 1 Ab) r.2]) (by rfl) h (fun r h => Xy h) (fun r3 h => ?_)
 refine SetKids.lit rfl ?_
 refine Cells.lit rfl rfl ?_
 refine CallQ.o (fun r => V.tup [V.bool r.1, V.bool r.2]) (by rfl) h (fun r h => Sr h) (fun r4 h => ?_)
 refine CutQ.o (fun t : (Unit ⊕ Unit) => match t with | (.inl s) => (Ex.normal, [6, 5, 4, 3, 0], [(6, A.val (V.bool (r4.snd))), (5, A.val (V.bool (r4.fst))), (4, A.val ((slr false 1 Ab) (r3.snd))), (3, A.val ((rP true (Ac false)) (r3.fst))), (0, A.val ((slr false 1 (V.int IntKind.u8)) (code0)))]) | (.inr s) => (Ex.ret, [2], [(2, A.val (V.bool (false)))])) h ?_ ?_
 ·intro t h
  refine Cells.lit rfl rfl ?_
  refine CallQ.o (fun r => V.tup [V.bool r.1, V.bool r.2]) (by rfl) h (fun r h => Aei h) (fun r5 h => ?_)
  refine Br.flip ?_
  refine Br.ob h (fun p6 h => ?_) (fun p6 h => ?_)
  ·refine Br.no ?_
   iterate 2 refine Br.no ?_
   refine Br.flip ?_
   refine Br.ob h (fun p7 h => ?_) (fun p7 h => ?_)
   ·cases h; exact ⟨rfl, rfl⟩
   cases h; exact ⟨rfl, rfl⟩
  iterate 4 refine Br.yes ?_
  cases h; exact ⟨rfl, rfl⟩
 rintro (⟨⟩ | ⟨⟩) h
 ·try dsimp only at h
  refine Cells.lit rfl rfl ?_
  refine CallQ.o (fun r => V.tup [(Ac true) r.1, V.bool r.2]) (by rfl) h (fun r h => Za h) (fun r9 h => ?_)
  refine SetKids.lit rfl ?_
  refine CutQ.o (fun t : (Unit ⊕ Unit) => match t with | (.inl s) => (Ex.normal, [10, 9, 6, 5, 4, 3, 0], [(10, A.val (V.bool (r9.snd))), (9, A.val ((rP true (Ac true)) (r9.fst))), (6, A.val (V.bool (r4.snd))), (5, A.val (V.bool (r4.fst))), (4, A.val ((slr false 1 Ab) (r3.snd))), (3, A.val ((rP true (Ac false)) (r3.fst))), (0, A.val ((slr false 1 (V.int IntKind.u8)) (code0)))]) | (.inr s) => (Ex.ret, [2], [(2, A.val (V.bool (false)))])) h ?_ ?_
  ·intro t h
   refine Cells.lit rfl rfl ?_
   refine CallQ.o (fun r => V.tup [(Ac true) r.1, V.bool r.2]) (by rfl) h (fun r h => Zg h) (fun r10 h => ?_)
   refine SetKids.lit rfl ?_
   refine Br.flip ?_
   refine Br.ob h (fun p11 h => ?_) (fun p11 h => ?_)
   ·refine Br.no ?_
    refine Br.no ?_
    refine Br.ob h (fun p12 h => ?_) (fun p12 h => ?_)
    ·refine Br.no ?_
     refine Br.yes ?_
     iterate 2 refine Br.no ?_
     refine Br.flip ?_
     refine Br.ob h (fun p13 h => ?_) (fun p13 h => ?_)
     ·refine Br.no ?_
      refine Cells.lit rfl rfl ?_
      iterate 2 refine Br.no ?_
      refine Cells.lit rfl rfl ?_
      refine Br.no ?_
      iterate 2 refine Kid.lit rfl rfl ?_
      refine CallQ.rd V.bool (by first | rfl | simp only [V.fz, Ae, slr] | simp [Ad, V.fz, fzL, V.up, upL, Ae, Af, Ah, slr]) (fun _ => rfl) h (fun r h => Ae0 h) (fun r14 h => ?_)
      iterate 2 refine Br.no ?_
      refine Br.flip ?_
      refine Br.ob h (fun p15 h => ?_) (fun p15 h => ?_)
      ·cases h; exact ⟨rfl, rfl⟩
      cases h; exact ⟨rfl, rfl⟩
     iterate 7 refine Br.yes ?_
     cases h; exact ⟨rfl, rfl⟩
    iterate 4 refine Br.no ?_
    refine Br.flip ?_
    refine Br.ob h (fun p16 h => ?_) (fun p16 h => ?_)
    ·refine Br.no ?_
     refine Cells.lit rfl rfl ?_
     iterate 2 refine Br.no ?_
     refine Cells.lit rfl rfl ?_
     refine Br.no ?_
     iterate 2 refine Kid.lit rfl rfl ?_
     refine CallQ.rd V.bool (by first | rfl | simp only [V.fz, Ae, slr] | simp [Ad, V.fz, fzL, V.up, upL, Ae, Af, Ah, slr]) (fun _ => rfl) h (fun r h => Ae0 h) (fun r17 h => ?_)
     iterate 2 refine Br.no ?_
     refine Br.flip ?_
     refine Br.ob h (fun p18 h => ?_) (fun p18 h => ?_)
     ·cases h; exact ⟨rfl, rfl⟩
     cases h; exact ⟨rfl, rfl⟩
    iterate 7 refine Br.yes ?_
    cases h; exact ⟨rfl, rfl⟩
   iterate 13 refine Br.yes ?_
   cases h; exact ⟨rfl, rfl⟩
  rintro (⟨⟩ | ⟨⟩) h
  ·try dsimp only at h
   refine CutQ.o (fun t : (Unit ⊕ Unit) => match t with | (.inl s) => (Ex.ret, [2], [(2, A.val (V.bool (false)))]) | (.inr s) => (Ex.normal, [6, 5, 4, 3, 0], [(6, A.val (V.bool (r4.snd))), (5, A.val (V.bool (r4.fst))), (4, A.val ((slr false 1 Ab) (r3.snd))), (3, A.val ((rP true (Ac false)) (r3.fst))), (0, A.val ((slr false 1 (V.int IntKind.u8)) (code0)))])) h ?_ ?_
   ·intro t h
    refine Br.ob h (fun p20 h => ?_) (fun p20 h => ?_)
    ·refine Cells.lit rfl rfl ?_
     refine CallQ.rd V.bool (by first | rfl | simp only [V.fz, Ae] | simp [Ad, V.fz, fzL, V.up, upL, Ae, Af, Ah, slr]) (fun _ => rfl) h (fun r h => Aj7 h) (fun r21 h => ?_)
     refine Br.flip ?_
     refine Br.ob h (fun p22 h => ?_) (fun p22 h => ?_)
     ·refine LoopQ.o [13, 9, 6, 5, 4, 3, 0] (Ih code0 r3 r4 r9) (Nn code0 r3 r4 r9) h (fun s o h => Yt s o h) (by first | rfl | simp [restrict, look, Ad, V.fz, fzL, V.up, upL, Ae, Af, Ah, slr]) (by rintro (_ | _) <;> rfl) ?_
      rintro (⟨⟩ | ⟨⟩) h
      ·try dsimp only at h
       cases h; exact ⟨rfl, rfl⟩
      try dsimp only at h
      cases h; exact ⟨rfl, rfl⟩
     cases h; exact ⟨rfl, rfl⟩
    cases h; exact ⟨rfl, rfl⟩
   rintro (⟨⟩ | ⟨⟩) h
   ·try dsimp only at h
    cases h; exact (by rfl)
   try dsimp only at h
   refine CutQ.o (fun t : (Unit ⊕ Unit) => match t with | (.inl s) => (Ex.normal, [0], [(0, A.val ((slr false 1 (V.int IntKind.u8)) (code0)))]) | (.inr s) => (Ex.ret, [2], [(2, A.val (V.bool (false)))])) h ?_ ?_
   ·intro t h
    refine Cells.lit rfl rfl ?_
    refine CallQ.o (fun r => V.tup [(Ap true) r.1, V.bool r.2]) (by rfl) h (fun r h => Abh h) (fun r40 h => ?_)
    refine SetKids.lit rfl ?_
    refine CutQ.o (fun t : Bool => match t with | s => (Ex.normal, [161, 20, 19, 5, 4, 3, 0], [(161, A.val (V.bool s)), (20, A.val (V.bool (r40.snd))), (19, A.val ((rP true (Ap true)) (r40.fst))), (5, A.val (V.bool (r4.fst))), (4, A.val ((slr false 1 Ab) (r3.snd))), (3, A.val ((rP true (Ac false)) (r3.fst))), (0, A.val ((slr false 1 (V.int IntKind.u8)) (code0)))])) h ?_ ?_
    ·intro t h
     refine Br.ob h (fun p41 h => ?_) (fun p41 h => ?_)
     ·refine Br.yes ?_
      cases h; exact ⟨rfl, rfl⟩
     refine Br.no ?_
     cases h; exact ⟨rfl, rfl⟩
    rintro q42_161 h
    try dsimp only at h
    refine Br.ob h (fun p43 h => ?_) (fun p43 h => ?_)
    ·refine CutQ.o (fun t : (Unit ⊕ Unit) => match t with | (.inl s) => (Ex.normal, [19, 5, 4, 0], [(19, A.val ((rP true (Ap true)) (r40.fst))), (5, A.val (V.bool (r4.fst))), (4, A.val ((slr false 1 Ab) (r3.snd))), (0, A.val ((slr false 1 (V.int IntKind.u8)) (code0)))]) | (.inr s) => (Ex.ret, [2], [(2, A.val (V.bool (false)))])) h ?_ ?_
     ·intro t h
      refine Cells.lit rfl rfl ?_
      refine CallQ.o (fun r => V.tup [(Ap true) r.1, V.bool r.2]) (by rfl) h (fun r h => Abk h) (fun r44 h => ?_)
      refine SetKids.lit rfl ?_
      refine Br.flip ?_
      refine Br.ob h (fun p45 h => ?_) (fun p45 h => ?_)
      ·refine Cells.lit rfl rfl ?_
       refine Br.no ?_
       refine Cells.lit rfl rfl ?_
       refine Br.no ?_
       refine CallQ.rd V.bool (by first | rfl | simp only [V.fz, Ae] | simp [Ad, V.fz, fzL, V.up, upL, Ae, Af, Ah, slr]) (fun _ => rfl) h (fun r h => Amq h) (fun r46 h => ?_)
       iterate 2 refine Br.no ?_
       refine Br.flip ?_
       refine Br.ob h (fun p47 h => ?_) (fun p47 h => ?_)
       ·cases h; exact ⟨rfl, rfl⟩
       cases h; exact ⟨rfl, rfl⟩
      iterate 5 refine Br.yes ?_
      cases h; exact ⟨rfl, rfl⟩
     rintro (⟨⟩ | ⟨⟩) h
     ·try dsimp only at h
      refine Cells.lit rfl rfl ?_
      refine CallQ.rd (fun r => V.tup [V.bool r.1, V.bool r.2]) (by first | rfl | simp only [V.fz, V.up, Ae, slr] | simp [Ad, V.fz, fzL, V.up, upL, Ae, Af, Ah, slr]) (fun _ => by simp [V.noFz, Ba]) h (fun r h => Aby h) (fun r49 h => ?_)
      refine Cells.lit rfl rfl ?_
      refine CallQ.rd (fun r => V.tup [V.bool r.1, V.bool r.2]) (by first | rfl | simp only [V.fz, V.up, Ae, slr] | simp [Ad, V.fz, fzL, V.up, upL, Ae, Af, Ah, slr]) (fun _ => by simp [V.noFz, Ba]) h (fun r h => Adh h) (fun r50 h => ?_)
      refine Br.flip ?_
      refine Br.ob h (fun p51 h => ?_) (fun p51 h => ?_)
      ·refine Br.no ?_
       iterate 2 refine Br.no ?_
       refine Br.flip ?_
       refine Br.ob h (fun p52 h => ?_) (fun p52 h => ?_)
       ·refine Br.no ?_
        refine Br.no ?_
        refine Br.flip ?_
        refine Br.ob h (fun p53 h => ?_) (fun p53 h => ?_)
        ·refine Br.no ?_
         refine Br.no ?_
         refine Br.ob h (fun p54 h => ?_) (fun p54 h => ?_)
         ·refine Br.yes ?_
          refine Len.map ?_
          refine Br.yes ?_
          refine Br.no ?_
          refine Br.yes ?_
          iterate 2 refine Br.no ?_
          refine Br.flip ?_
          refine Br.ob h (fun p55 h => ?_) (fun p55 h => ?_)
          ·cases h; exact ⟨rfl, rfl⟩
          cases h; exact ⟨rfl, rfl⟩
         iterate 6 refine Br.no ?_
         refine Br.flip ?_
         refine Br.ob h (fun p56 h => ?_) (fun p56 h => ?_)
         ·cases h; exact ⟨rfl, rfl⟩
         cases h; exact ⟨rfl, rfl⟩
        iterate 6 refine Br.yes ?_
        cases h; exact ⟨rfl, rfl⟩
       iterate 9 refine Br.yes ?_
       cases h; exact ⟨rfl, rfl⟩
      iterate 13 refine Br.yes ?_
      cases h; exact ⟨rfl, rfl⟩
     try dsimp only at h
     cases h; exact ⟨rfl, rfl⟩
    cases h; exact ⟨rfl, rfl⟩
   rintro (⟨⟩ | ⟨⟩) h
   ·try dsimp only at h
    refine CallQ.o (fun r => V.tup [(Ac false) r.1, (slr false 1 Ab) r.2]) (by rfl) h (fun r h => Q4 h) (fun r58 h => ?_)
    refine SetKids.lit rfl ?_
    refine Cells.lit rfl rfl ?_
    refine CallQ.o (fun r => V.tup [(slr true 1 Ab) r.1, V.bool r.2]) (by rfl) h (fun r h => Ut h) (fun r59 h => ?_)
    refine CutQ.o (fun t : (Unit ⊕ Unit) => match t with | (.inl s) => (Ex.normal, [30, 29, 28, 27], [(30, A.val (V.bool (r59.snd))), (29, A.val ((slr true 1 Ab) (r59.fst))), (28, A.val ((slr false 1 Ab) (r58.snd))), (27, A.val ((rP true (Ac false)) (r58.fst)))]) | (.inr s) => (Ex.ret, [2], [(2, A.val (V.bool (false)))])) h ?_ ?_
    ·intro t h
     refine Cells.lit rfl rfl ?_
     refine CallQ.o (fun r => V.tup [(slr false 1 Ab) r.1, V.bool r.2]) (by rfl) h (fun r h => U5 h) (fun r60 h => ?_)
     refine Br.flip ?_
     refine Br.ob h (fun p61 h => ?_) (fun p61 h => ?_)
     ·refine Br.no ?_
      refine Br.no ?_
      refine CallQ.rd V.bool (by first | rfl | simp only [V.fz, V.up, Ae, slr] | simp [Ad, V.fz, fzL, V.up, upL, Ae, Af, Ah, slr]) (fun _ => rfl) h (fun r h => Zl h) (fun r62 h => ?_)
      iterate 2 refine Br.no ?_
      refine Br.flip ?_
      refine Br.ob h (fun p63 h => ?_) (fun p63 h => ?_)
      ·cases h; exact ⟨rfl, rfl⟩
      cases h; exact ⟨rfl, rfl⟩
     iterate 5 refine Br.yes ?_
     cases h; exact ⟨rfl, rfl⟩
    rintro (⟨⟩ | ⟨⟩) h
    ·try dsimp only at h
     refine Br.ob h (fun p65 h => ?_) (fun p65 h => ?_)
     ·refine Cells.lit rfl rfl ?_
      refine CallQ.rd (fun r => V.tup [V.bool r.1, V.bool r.2]) (by first | rfl | simp only [V.fz, fzL, Ae, slr] | simp [Ad, V.fz, fzL, V.up, upL, Ae, Af, Ah, slr]) (fun _ => by simp [V.noFz, Ba]) h (fun r h => Sr h) (fun r66 h => ?_)
      refine Br.flip ?_
      refine Br.ob h (fun p67 h => ?_) (fun p67 h => ?_)
      ·refine Br.no ?_
       refine Br.no ?_
       refine Br.flip ?_
       refine Br.ob h (fun p68 h => ?_) (fun p68 h => ?_)
       ·refine Br.no ?_
        refine Br.no ?_
        refine CallQ.rd V.bool (by first | rfl | simp only [V.fz, V.up, Ae, slr] | simp [Ad, V.fz, fzL, V.up, upL, Ae, Af, Ah, slr]) (fun _ => rfl) h (fun r h => Aoc h) (fun r69 h => ?_)
        iterate 2 refine Br.no ?_
        refine Br.flip ?_
        refine Br.ob h (fun p70 h => ?_) (fun p70 h => ?_)
        ·cases h; exact (by rfl)
        cases h; exact (by rfl)
       iterate 5 refine Br.yes ?_
       cases h; exact (by rfl)
      iterate 8 refine Br.yes ?_
      cases h; exact (by rfl)
     cases h; exact (by rfl)
    try dsimp only at h
    cases h; exact (by rfl)
   try dsimp only at h
   cases h; exact (by rfl)
  try dsimp only at h
  cases h; exact (by rfl)
 try dsimp only at h
 cases h; exact (by rfl)
end Go.Proofs.Ytoikbcagaanhgaa.Ax
