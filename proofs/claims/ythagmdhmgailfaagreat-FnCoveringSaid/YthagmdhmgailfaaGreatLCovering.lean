/-
 What the functions compute, as functions on plain data, and that the program does compute it; written by program.
-/
import Derived.Test.YthagmdhmgailfaaGreatCode
import Derived.Test.YthagmdhmgailfaaGreatG1
import Derived.Test.YthagmdhmgailfaaGreatG3
import Derived.Test.YthagmdhmgailfaaGreatG6
import Derived.Test.YthagmdhmgailfaaGreatG7
import Derived.Test.YthagmdhmgailfaaGreatG10
import Derived.Test.YthagmdhmgailfaaGreatG11
import Derived.Test.YthagmdhmgailfaaGreatG12
namespace Go.Proofs.YthagmdhmgailfaaGreat.Ax
open Go
set_option maxRecDepth 100000
set_option maxHeartbeats 4000000
noncomputable def Dy (_code0 : List Int) (r3 : SAlgebra × List Int) (_r4 : List (List Int) × Bool) : (Int × Bool) → Option ((Int × Bool) ⊕ Bool) := fun (x10, x9) =>
 if x10 < (↑r3.snd.length : Int) then
 if (x9) = true then
 ask ((0 : Int) ≤ x10 ∧ x10 < (↑r3.snd.length : Int)) <|
 ask (InI (x10 + (1 : Int))) <|
 some (.inl (x10 + (1 : Int), nth r3.snd x10.toNat == (0 : Int)))
 else
 ask (InI (x10 + (1 : Int))) <|
 some (.inl (x10 + (1 : Int), false))
 else
 some (.inr x9)
def Jm (code0 : List Int) (r3 : SAlgebra × List Int) (r4 : List (List Int) × Bool) : (Int × Bool) → St := fun s => [(10, A.val (Af s.1)), (9, A.val (V.bool s.2)), (5, A.val ((slr true 1 (slr true 1 Af)) (r4.fst))), (4, A.val ((slr false 1 Af) (r3.snd))), (3, A.val ((rP true (Ag false)) (r3.fst))), (0, A.val ((slr false 1 (V.int IntKind.u8)) (code0)))]
def Oz (code0 : List Int) (r3 : SAlgebra × List Int) (r4 : List (List Int) × Bool) : Bool → Tgt
 | s => ((Ex.exit 0), [9, 5, 4, 3, 0], [(9, A.val (V.bool s)), (5, A.val ((slr true 1 (slr true 1 Af)) (r4.fst))), (4, A.val ((slr false 1 Af) (r3.snd))), (3, A.val ((rP true (Ag false)) (r3.fst))), (0, A.val ((slr false 1 (V.int IntKind.u8)) (code0)))])
theorem Yu {code0 : List Int} {r3 : SAlgebra × List Int} {r4 : List (List Int) × Bool} (s : (Int × Bool)) (o : (Int × Bool) ⊕ Bool) (h : Dy code0 r3 r4 s = some o) : vc Tryz.prog O6 (Da [10, 9, 5, 4, 3, 0] (Jm code0 r3 r4) (Oz code0 r3 r4) o) (Jm code0 r3 r4 s) := by
 obtain ⟨x10, x9⟩ := s
 unfold Dy at h
 try dsimp only at h
 refine Len.map <| Br.od h (fun p11 h => ?_) (fun p11 h => ?_)
 ·refine Br.ob h (fun p12 h => ?_) (fun p12 h => ?_)
  ·refine Br.yes <| Br.yes <| Len.map <| Ask.o h fun p13 h => Elem.o (by first | omega | (simp [Ar] at * <;> omega)) <| Br.yes <| Br.yes <| Br.yes <| Ask.o h fun p14 h => ?_
   cases h; exact ⟨rfl, rfl⟩
  refine Br.no <| Br.no <| Br.no <| Br.no <| Br.no <| Ask.o h fun p15 h => ?_
  cases h; exact ⟨rfl, rfl⟩
 cases h; exact ⟨rfl, rfl⟩
noncomputable def Ct (_code0 : List Int) (r3 : SAlgebra × List Int) (_r4 : List (List Int) × Bool) (_r18 : List (List Int) × Bool) : (Int × (List Int)) → Option ((Int × (List Int)) ⊕ (List Int)) := fun (x16, x15) =>
 if x16 < r3.fst.Size then
 ask ((0 : Int) ≤ x16 ∧ x16 < (↑x15.length : Int)) <|
 ask (InI (x16 + (1 : Int))) <|
 some (.inl (x16 + (1 : Int), x15.set x16.toNat x16))
 else
 some (.inr x15)
def Ja (code0 : List Int) (r3 : SAlgebra × List Int) (r4 : List (List Int) × Bool) (r18 : List (List Int) × Bool) : (Int × (List Int)) → St := fun s => [(16, A.val (Af s.1)), (15, A.val ((slr true 1 Af) s.2)), (11, A.val ((slr true 1 (slr true 1 Af)) (r18.fst))), (5, A.val ((slr true 1 (slr true 1 Af)) (r4.fst))), (4, A.val ((slr false 1 Af) (r3.snd))), (3, A.val ((rP true (Ag false)) (r3.fst))), (0, A.val ((slr false 1 (V.int IntKind.u8)) (code0)))]
def Ol (code0 : List Int) (r3 : SAlgebra × List Int) (r4 : List (List Int) × Bool) (r18 : List (List Int) × Bool) : (List Int) → Tgt
 | s => ((Ex.exit 2), [15, 11, 5, 4, 3, 0], [(15, A.val ((slr true 1 Af) s)), (11, A.val ((slr true 1 (slr true 1 Af)) (r18.fst))), (5, A.val ((slr true 1 (slr true 1 Af)) (r4.fst))), (4, A.val ((slr false 1 Af) (r3.snd))), (3, A.val ((rP true (Ag false)) (r3.fst))), (0, A.val ((slr false 1 (V.int IntKind.u8)) (code0)))])
theorem X8 {code0 : List Int} {r3 : SAlgebra × List Int} {r4 : List (List Int) × Bool} {r18 : List (List Int) × Bool} (s : (Int × (List Int))) (o : (Int × (List Int)) ⊕ (List Int)) (h : Ct code0 r3 r4 r18 s = some o) : vc Tryz.prog On (Da [16, 15, 11, 5, 4, 3, 0] (Ja code0 r3 r4 r18) (Ol code0 r3 r4 r18) o) (Ja code0 r3 r4 r18 s) := by
 obtain ⟨x16, x15⟩ := s
 unfold Ct at h
 try dsimp only at h
 refine Cells.lit rfl rfl <| Br.od h (fun p26 h => ?_) (fun p26 h => ?_)
 ·refine Len.map <| Ask.o h fun p27 h => SetKids.one (fun _ => ⟨rfl, rfl⟩) (x16) (by rfl) (by first | omega | (simp [Ar] at * <;> omega)) <| Ask.o h fun p28 h => ?_
  cases h; exact ⟨rfl, rfl⟩
 cases h; exact ⟨rfl, rfl⟩
noncomputable def Cq (r50 : SAlgebra × List (Int × Int)) (_r51 : List Int × Bool) : (Int × (List Int)) → Option ((Int × (List Int)) ⊕ (List Int)) := fun (x30, x29) =>
 if x30 < r50.fst.Size then
 ask ((0 : Int) ≤ x30 ∧ x30 < (↑x29.length : Int)) <|
 ask (InI (x30 + (1 : Int))) <|
 some (.inl (x30 + (1 : Int), x29.set x30.toNat x30))
 else
 some (.inr x29)
def Js (r50 : SAlgebra × List (Int × Int)) (r51 : List Int × Bool) : (Int × (List Int)) → St := fun s => [(30, A.val (Af s.1)), (29, A.val ((slr true 1 Af) s.2)), (25, A.val ((slr true 1 Af) (r51.fst))), (24, A.val ((slr false 2 (rA2 Af)) (r50.snd))), (23, A.val ((rP true (Ag false)) (r50.fst)))]
def Om (r50 : SAlgebra × List (Int × Int)) (r51 : List Int × Bool) : (List Int) → Tgt
 | s => ((Ex.exit 4), [29, 25, 24, 23], [(29, A.val ((slr true 1 Af) s)), (25, A.val ((slr true 1 Af) (r51.fst))), (24, A.val ((slr false 2 (rA2 Af)) (r50.snd))), (23, A.val ((rP true (Ag false)) (r50.fst)))])
theorem Zl {r50 : SAlgebra × List (Int × Int)} {r51 : List Int × Bool} (s : (Int × (List Int))) (o : (Int × (List Int)) ⊕ (List Int)) (h : Cq r50 r51 s = some o) : vc Tryz.prog Og (Da [30, 29, 25, 24, 23] (Js r50 r51) (Om r50 r51) o) (Js r50 r51 s) := by
 obtain ⟨x30, x29⟩ := s
 unfold Cq at h
 try dsimp only at h
 refine Cells.lit rfl rfl <| Br.od h (fun p59 h => ?_) (fun p59 h => ?_)
 ·refine Len.map <| Ask.o h fun p60 h => SetKids.one (fun _ => ⟨rfl, rfl⟩) (x30) (by rfl) (by first | omega | (simp [Ar] at * <;> omega)) <| Ask.o h fun p61 h => ?_
  cases h; exact ⟨rfl, rfl⟩
 cases h; exact ⟨rfl, rfl⟩
noncomputable def E8 (r50 : SAlgebra × List (Int × Int)) (_r51 : List Int × Bool) : (Int × (List Int)) → Option ((Int × (List Int)) ⊕ (Unit ⊕ (List Int))) := fun (x31, x29) =>
 if x31 < (↑r50.snd.length : Int) then
 ask ((0 : Int) ≤ x31 ∧ x31 < (↑r50.snd.length : Int)) <|
 ask ((0 : Int) ≤ x31 ∧ x31 < (↑r50.snd.length : Int)) <|
 (Dv (r50.fst) ((nth r50.snd x31.toNat).fst) ((nth r50.snd x31.toNat).snd)).bind fun r66 =>
 (Ej (r50.fst.Size) (x29) (r66.fst)).bind fun r67 =>
 if (r66.snd) = true then
 if (r67.snd) = true then
 ask (InI (x31 + (1 : Int))) <|
 some (.inl (x31 + (1 : Int), r67.fst))
 else
 some (.inr (.inl ()))
 else
 some (.inr (.inl ()))
 else
 some (.inr (.inr x29))
def I9 (r50 : SAlgebra × List (Int × Int)) (r51 : List Int × Bool) : (Int × (List Int)) → St := fun s => [(31, A.val (Af s.1)), (29, A.val ((slr true 1 Af) s.2)), (25, A.val ((slr true 1 Af) (r51.fst))), (24, A.val ((slr false 2 (rA2 Af)) (r50.snd))), (23, A.val ((rP true (Ag false)) (r50.fst)))]
def O7 (_r50 : SAlgebra × List (Int × Int)) (r51 : List Int × Bool) : (Unit ⊕ (List Int)) → Tgt
 | (.inl _s) => (Ex.ret, [2], [(2, A.val (V.bool (false)))])
 | (.inr s) => ((Ex.exit 6), [29, 25], [(29, A.val ((slr true 1 Af) s)), (25, A.val ((slr true 1 Af) (r51.fst)))])
theorem Y3 {r50 : SAlgebra × List (Int × Int)} {r51 : List Int × Bool} (s : (Int × (List Int))) (o : (Int × (List Int)) ⊕ (Unit ⊕ (List Int))) (h : E8 r50 r51 s = some o) : vc Tryz.prog N9 (Da [31, 29, 25, 24, 23] (I9 r50 r51) (O7 r50 r51) o) (I9 r50 r51 s) := by
 obtain ⟨x31, x29⟩ := s
 unfold E8 at h
 try dsimp only at h
 refine Len.map <| Br.od h (fun p63 h => ?_) (fun p63 h => ?_)
 ·refine Cells.lit rfl rfl <| Len.map <| Ask.o h fun p64 h => Elem.o (by first | omega | (simp [Ar] at * <;> omega)) <| Ask.mk (by decide) <| Idx.lit <| Len.map <| Ask.o h fun p65 h => Elem.o (by first | omega | (simp [Ar] at * <;> omega)) <| Ask.mk (by decide) <| Idx.lit <| CallP.o (fun r => V.tup [(slr true 1 Af) r.1, V.bool r.2]) (by rfl) h (fun r h => Uz h) (fun r66 h => ?_)
  refine Cells.lit rfl rfl <| CallQ.rd (fun r => V.tup [(slr true 1 Af) r.1, V.bool r.2]) (by first | rfl | simp only [V.fz, Ab, slr] | simp [Aa, V.fz, fzL, V.up, upL, Ab, Ac, Ad, slr]) (fun _ => by simp [V.noFz, Ca, B6]) h (fun r h => X0 h) (fun r67 h => ?_)
  refine Br.flip <| Br.ob h (fun p68 h => ?_) (fun p68 h => ?_)
  ·refine Br.no <| Br.no <| Br.flip <| Br.ob h (fun p69 h => ?_) (fun p69 h => ?_)
   ·refine Ask.o h fun p70 h => ?_
    cases h; exact ⟨rfl, rfl⟩
   cases h; exact ⟨rfl, rfl⟩
  refine Br.yes <| Br.yes <| Br.yes ?_
  cases h; exact ⟨rfl, rfl⟩
 cases h; exact ⟨rfl, rfl⟩
noncomputable def I2 (code0 : (List Int)) : Option Bool :=
 (Sq (code0)).bind fun r1 =>
 if (r1) = true then
 some true
 else
 (B5 (code0)).bind fun r3 =>
 (A4 (r3.fst) (r3.snd)).bind fun r4 =>
 (((Bi (r3.fst) (r3.snd)).bind fun r5 =>
 if (r4.snd == r5.snd) = true then
 (Fy (r4.fst) (r5.fst)).bind fun r7 =>
 if (r7) = true then
 some (.inl ())
 else
 some (.inr ())
 else
 some (.inr ()) : Option (Unit ⊕ Unit))).bind fun t => match t with
 | (.inl _) => (((if (r4.snd) = true then
 (Al (Dy code0 r3 r4) ((0 : Int), true)).bind fun q16_9 =>
 if (q16_9 == ((↑r4.fst.length : Int) == (0 : Int))) = true then
 (C5 (r3.fst)).bind fun r18 =>
 (((C2 (r3.fst)).bind fun r19 =>
 if (r18.snd == r19.snd) = true then
 if (r18.snd) = true then
 (Fy (r18.fst) (r19.fst)).bind fun r22 =>
 if (r22) = true then
 some (.inl ())
 else
 some (.inr ())
 else
 some (.inr ())
 else
 some (.inr ()) : Option (Unit ⊕ Unit))).bind fun t => match t with
 | (.inl _) => (ask ((0 : Int) ≤ r3.fst.Size ∧ r3.fst.Size ≤ (↑LIM : Int)) <|
 (Al (Ct code0 r3 r4 r18) ((0 : Int), List.replicate r3.fst.Size.toNat (0 : Int))).bind fun q29_15 =>
 (A4 (r3.fst) (q29_15)).bind fun r30 =>
 ((if (r30.snd) = true then
 (Fy (r30.fst) (r18.fst)).bind fun r32 =>
 if (r32) = true then
 some (.inl ())
 else
 some (.inr ())
 else
 some (.inr ()) : Option (Unit ⊕ Unit))).bind fun t => match t with
 | (.inl _) => ((C4 (r3.fst)).bind fun r35 =>
 (((C3 (r3.fst)).bind fun r36 =>
 if (r35.snd == r36.snd) = true then
 if (r35.snd) = true then
 (Fy (r35.fst) (r36.fst)).bind fun r39 =>
 if (r39) = true then
 some (.inl ())
 else
 some (.inr ())
 else
 some (.inr ())
 else
 some (.inr ()) : Option (Unit ⊕ Unit))).bind fun t => match t with
 | (.inl _) => ((Kx (r35.fst) (r3.snd)).bind fun r42 =>
 if (↑r4.fst.length : Int) = (1 : Int) then
 ask ((0 : Int) ≤ (0 : Int) ∧ (0 : Int) < (↑r4.fst.length : Int)) <|
 ask ((0 : Int) ≤ r3.fst.Size ∧ r3.fst.Size ≤ (↑LIM : Int)) <|
 (Dj (nth r4.fst (Int.toNat (0 : Int))) (List.replicate r3.fst.Size.toNat (0 : Int))).bind fun r46 =>
 if (decide (r42 ≥ (0 : Int)) == r46) = true then
 some (.inl ())
 else
 some (.inr ())
 else
 if (decide (r42 ≥ (0 : Int)) == false) = true then
 some (.inl ())
 else
 some (.inr ()))
 | (.inr _) => (some (.inr ())))
 | (.inr _) => (some (.inr ())))
 | (.inr _) => (some (.inr ()))
 else
 some (.inr ())
 else
 some (.inl ()) : Option (Unit ⊕ Unit))).bind fun t => match t with
 | (.inl _) => ((Cb (code0)).bind fun r50 =>
 (Dg (r50.fst) (r50.snd)).bind fun r51 =>
 (((Dd (r50.fst) (r50.snd)).bind fun r52 =>
 if (r51.snd == r52.snd) = true then
 (Dj (r51.fst) (r52.fst)).bind fun r54 =>
 if (r54) = true then
 some (.inl ())
 else
 some (.inr ())
 else
 some (.inr ()) : Option (Unit ⊕ Unit))).bind fun t => match t with
 | (.inl _) => (if (r51.snd) = true then
 ask ((0 : Int) ≤ r50.fst.Size ∧ r50.fst.Size ≤ (↑LIM : Int)) <|
 (Al (Cq r50 r51) ((0 : Int), List.replicate r50.fst.Size.toNat (0 : Int))).bind fun q62_29 =>
 (Al (E8 r50 r51) ((0 : Int), q62_29)).bind fun t => match t with
 | (.inl _) => (some false)
 | (.inr q71_29) => ((Dj (q71_29) (r51.fst)).bind fun r72 =>
 if (r72) = true then
 some true
 else
 some false)
 else
 some true)
 | (.inr _) => (some false))
 | (.inr _) => (some false))
 | (.inr _) => (some false)
theorem Acw {code0 : (List Int)} {v : Bool} (h : I2 code0 = some v) : Ret Tryz.prog Tg [(slr false 1 (V.int IntKind.u8)) code0] (V.bool v) := by
 refine Ay Ac1 (Nat.le_of_ble_eq_true rfl) ?_
 unfold I2 at h
 refine CallQ.o V.bool (by rfl) h (fun r h => Are h) (fun r1 h => ?_)
 refine Br.ob h (fun p2 h => ?_) (fun p2 h => ?_)
 ·cases h; exact (by rfl)
 refine CallQ.o (fun r => V.tup [(Ag false) r.1, (slr false 1 Af) r.2]) (by rfl) h (fun r h => Ns h) (fun r3 h => ?_)
 refine SetKids.lit rfl <| Cells.lit rfl rfl <| CallQ.o (fun r => V.tup [(slr true 1 (slr true 1 Af)) r.1, V.bool r.2]) (by rfl) h (fun r h => Je h) (fun r4 h => ?_)
 refine CutQ.o (fun t : (Unit ⊕ Unit) => match t with | (.inl s) => (Ex.normal, [6, 5, 4, 3, 0], [(6, A.val (V.bool (r4.snd))), (5, A.val ((slr true 1 (slr true 1 Af)) (r4.fst))), (4, A.val ((slr false 1 Af) (r3.snd))), (3, A.val ((rP true (Ag false)) (r3.fst))), (0, A.val ((slr false 1 (V.int IntKind.u8)) (code0)))]) | (.inr s) => (Ex.ret, [2], [(2, A.val (V.bool (false)))])) h ?_ ?_
 ·intro t h
  refine Cells.lit rfl rfl <| CallQ.o (fun r => V.tup [(slr false 1 (slr false 1 Af)) r.1, V.bool r.2]) (by rfl) h (fun r h => Rb h) (fun r5 h => ?_)
  refine Br.flip <| Br.ob h (fun p6 h => ?_) (fun p6 h => ?_)
  ·refine Br.no <| Br.no <| CallQ.rd V.bool (by first | rfl | simp only [V.fz, V.up, Ab, slr] | simp [Aa, V.fz, fzL, V.up, upL, Ab, Ac, Ad, slr]) (fun _ => rfl) h (fun r h => N7 h) (fun r7 h => ?_)
   refine Br.no <| Br.no <| Br.flip <| Br.ob h (fun p8 h => ?_) (fun p8 h => ?_)
   ·cases h; exact ⟨rfl, rfl⟩
   cases h; exact ⟨rfl, rfl⟩
  refine Br.yes <| Br.yes <| Br.yes <| Br.yes <| Br.yes ?_
  cases h; exact ⟨rfl, rfl⟩
 rintro (⟨⟩ | ⟨⟩) h
 ·try dsimp only at h
  refine CutQ.o (fun t : (Unit ⊕ Unit) => match t with | (.inl s) => (Ex.normal, [0], [(0, A.val ((slr false 1 (V.int IntKind.u8)) (code0)))]) | (.inr s) => (Ex.ret, [2], [(2, A.val (V.bool (false)))])) h ?_ ?_
  ·intro t h
   refine Br.ob h (fun p10 h => ?_) (fun p10 h => ?_)
   ·refine LoopQ.o [10, 9, 5, 4, 3, 0] (Jm code0 r3 r4) (Oz code0 r3 r4) h (fun s o h => Yu s o h) (by rfl) (fun _ => rfl) ?_
    rintro q16_9 h
    try dsimp only at h
    refine Len.map <| Br.flip <| Br.ob h (fun p17 h => ?_) (fun p17 h => ?_)
    ·refine Cells.lit rfl rfl <| CallQ.o (fun r => V.tup [(slr true 1 (slr true 1 Af)) r.1, V.bool r.2]) (by rfl) h (fun r h => Rx h) (fun r18 h => ?_)
     refine CutQ.o (fun t : (Unit ⊕ Unit) => match t with | (.inl s) => (Ex.normal, [11, 5, 4, 3, 0], [(11, A.val ((slr true 1 (slr true 1 Af)) (r18.fst))), (5, A.val ((slr true 1 (slr true 1 Af)) (r4.fst))), (4, A.val ((slr false 1 Af) (r3.snd))), (3, A.val ((rP true (Ag false)) (r3.fst))), (0, A.val ((slr false 1 (V.int IntKind.u8)) (code0)))]) | (.inr s) => (Ex.ret, [2], [(2, A.val (V.bool (false)))])) h ?_ ?_
     ·intro t h
      refine Cells.lit rfl rfl <| CallQ.o (fun r => V.tup [(slr false 1 (slr false 1 Af)) r.1, V.bool r.2]) (by rfl) h (fun r h => Ry h) (fun r19 h => ?_)
      refine Br.flip <| Br.ob h (fun p20 h => ?_) (fun p20 h => ?_)
      ·refine Br.no <| Br.no <| Br.flip <| Br.ob h (fun p21 h => ?_) (fun p21 h => ?_)
       ·refine Br.no <| Br.no <| CallQ.rd V.bool (by first | rfl | simp only [V.fz, V.up, Ab, slr] | simp [Aa, V.fz, fzL, V.up, upL, Ab, Ac, Ad, slr]) (fun _ => rfl) h (fun r h => N7 h) (fun r22 h => ?_)
        refine Br.no <| Br.no <| Br.flip <| Br.ob h (fun p23 h => ?_) (fun p23 h => ?_)
        ·cases h; exact ⟨rfl, rfl⟩
        cases h; exact ⟨rfl, rfl⟩
       refine Br.yes <| Br.yes <| Br.yes <| Br.yes <| Br.yes ?_
       cases h; exact ⟨rfl, rfl⟩
      refine Br.yes <| Br.yes <| Br.yes <| Br.yes <| Br.yes <| Br.yes <| Br.yes <| Br.yes ?_
      cases h; exact ⟨rfl, rfl⟩
     rintro (⟨⟩ | ⟨⟩) h
     ·try dsimp only at h
      refine Cells.lit rfl rfl <| Ask.o h fun p25 h => MkQ.o Af ((0 : Int)) rfl <| LoopQ.o [16, 15, 11, 5, 4, 3, 0] (Ja code0 r3 r4 r18) (Ol code0 r3 r4 r18) h (fun s o h => X8 s o h) (by rfl) (fun _ => rfl) ?_
      rintro q29_15 h
      try dsimp only at h
      refine Cells.lit rfl rfl <| CallQ.rd (fun r => V.tup [(slr true 1 (slr true 1 Af)) r.1, V.bool r.2]) (by first | rfl | simp only [V.fz, fzL, Ab, slr] | simp [Aa, V.fz, fzL, V.up, upL, Ab, Ac, Ad, slr]) (fun _ => by simp [V.noFz, Ca, B6]) h (fun r h => Je h) (fun r30 h => ?_)
      refine CutQ.o (fun t : (Unit ⊕ Unit) => match t with | (.inl s) => (Ex.normal, [5, 4, 3, 0], [(5, A.val ((slr true 1 (slr true 1 Af)) (r4.fst))), (4, A.val ((slr false 1 Af) (r3.snd))), (3, A.val ((rP true (Ag false)) (r3.fst))), (0, A.val ((slr false 1 (V.int IntKind.u8)) (code0)))]) | (.inr s) => (Ex.ret, [2], [(2, A.val (V.bool (false)))])) h ?_ ?_
      ·intro t h
       refine Br.flip <| Br.ob h (fun p31 h => ?_) (fun p31 h => ?_)
       ·refine Br.no <| Br.no <| CallQ.rd V.bool (by first | rfl | simp only [V.fz, Ab, slr] | simp [Aa, V.fz, fzL, V.up, upL, Ab, Ac, Ad, slr]) (fun _ => rfl) h (fun r h => N7 h) (fun r32 h => ?_)
        refine Br.no <| Br.no <| Br.flip <| Br.ob h (fun p33 h => ?_) (fun p33 h => ?_)
        ·cases h; exact ⟨rfl, rfl⟩
        cases h; exact ⟨rfl, rfl⟩
       refine Br.yes <| Br.yes <| Br.yes <| Br.yes <| Br.yes ?_
       cases h; exact ⟨rfl, rfl⟩
      rintro (⟨⟩ | ⟨⟩) h
      ·try dsimp only at h
       refine Cells.lit rfl rfl <| CallQ.o (fun r => V.tup [(slr true 1 (slr true 1 Af)) r.1, V.bool r.2]) (by rfl) h (fun r h => Se h) (fun r35 h => ?_)
       refine CutQ.o (fun t : (Unit ⊕ Unit) => match t with | (.inl s) => (Ex.normal, [19, 5, 4, 3, 0], [(19, A.val ((slr true 1 (slr true 1 Af)) (r35.fst))), (5, A.val ((slr true 1 (slr true 1 Af)) (r4.fst))), (4, A.val ((slr false 1 Af) (r3.snd))), (3, A.val ((rP true (Ag false)) (r3.fst))), (0, A.val ((slr false 1 (V.int IntKind.u8)) (code0)))]) | (.inr s) => (Ex.ret, [2], [(2, A.val (V.bool (false)))])) h ?_ ?_
       ·intro t h
        refine Cells.lit rfl rfl <| CallQ.o (fun r => V.tup [(slr false 1 (slr false 1 Af)) r.1, V.bool r.2]) (by rfl) h (fun r h => Sc h) (fun r36 h => ?_)
        refine Br.flip <| Br.ob h (fun p37 h => ?_) (fun p37 h => ?_)
        ·refine Br.no <| Br.no <| Br.flip <| Br.ob h (fun p38 h => ?_) (fun p38 h => ?_)
         ·refine Br.no <| Br.no <| CallQ.rd V.bool (by first | rfl | simp only [V.fz, V.up, Ab, slr] | simp [Aa, V.fz, fzL, V.up, upL, Ab, Ac, Ad, slr]) (fun _ => rfl) h (fun r h => N7 h) (fun r39 h => ?_)
          refine Br.no <| Br.no <| Br.flip <| Br.ob h (fun p40 h => ?_) (fun p40 h => ?_)
          ·cases h; exact ⟨rfl, rfl⟩
          cases h; exact ⟨rfl, rfl⟩
         refine Br.yes <| Br.yes <| Br.yes <| Br.yes <| Br.yes ?_
         cases h; exact ⟨rfl, rfl⟩
        refine Br.yes <| Br.yes <| Br.yes <| Br.yes <| Br.yes <| Br.yes <| Br.yes <| Br.yes ?_
        cases h; exact ⟨rfl, rfl⟩
       rintro (⟨⟩ | ⟨⟩) h
       ·try dsimp only at h
        refine CallP.rd Af (by first | rfl | simp only [V.fz, V.up, Ab, slr] | simp [Aa, V.fz, fzL, V.up, upL, Ab, Ac, Ad, slr]) (fun _ => rfl) h (fun r h => Al9 h) (fun r42 h => ?_)
        refine Len.map <| Br.oe h (fun p43 h => ?_) (fun p43 h => ?_)
        ·refine Br.yes <| Len.map <| Ask.o h fun p44 h => Br.yes <| Cells.one (fun _ => ⟨rfl, rfl⟩) (by first | omega | (simp [Ar] at * <;> omega)) <| Br.yes <| Br.yes <| Cells.lit rfl rfl <| Br.yes <| Ask.o h fun p45 h => MkQ.o Af ((0 : Int)) rfl <| Br.yes <| Kid.one (fun _ => ⟨rfl, rfl⟩) (by first | omega | (simp [Ar] at * <;> omega)) <| CallP.rd V.bool (by first | rfl | simp only [Aa, V.fz, Ab, slr] | simp [Aa, V.fz, fzL, V.up, upL, Ab, Ac, Ad, slr]) (fun _ => rfl) h (fun r h => L6 h) (fun r46 h => ?_)
         refine Br.yes <| Br.flip <| Br.ob h (fun p47 h => ?_) (fun p47 h => ?_)
         ·cases h; exact ⟨rfl, rfl⟩
         cases h; exact ⟨rfl, rfl⟩
        refine Br.no <| Br.no <| Br.no <| Br.no <| Br.no <| Br.no <| Br.no <| Br.flip <| Br.ob h (fun p48 h => ?_) (fun p48 h => ?_)
        ·cases h; exact ⟨rfl, rfl⟩
        cases h; exact ⟨rfl, rfl⟩
       try dsimp only at h
       cases h; exact ⟨rfl, rfl⟩
      try dsimp only at h
      cases h; exact ⟨rfl, rfl⟩
     try dsimp only at h
     cases h; exact ⟨rfl, rfl⟩
    cases h; exact ⟨rfl, rfl⟩
   cases h; exact ⟨rfl, rfl⟩
  rintro (⟨⟩ | ⟨⟩) h
  ·try dsimp only at h
   refine CallQ.o (fun r => V.tup [(Ag false) r.1, (slr false 2 (rA2 Af)) r.2]) (by rfl) h (fun r h => Pg h) (fun r50 h => ?_)
   refine SetKids.lit rfl <| Cells.lit rfl rfl <| CallQ.o (fun r => V.tup [(slr true 1 Af) r.1, V.bool r.2]) (by rfl) h (fun r h => Um h) (fun r51 h => ?_)
   refine CutQ.o (fun t : (Unit ⊕ Unit) => match t with | (.inl s) => (Ex.normal, [26, 25, 24, 23], [(26, A.val (V.bool (r51.snd))), (25, A.val ((slr true 1 Af) (r51.fst))), (24, A.val ((slr false 2 (rA2 Af)) (r50.snd))), (23, A.val ((rP true (Ag false)) (r50.fst)))]) | (.inr s) => (Ex.ret, [2], [(2, A.val (V.bool (false)))])) h ?_ ?_
   ·intro t h
    refine Cells.lit rfl rfl <| CallQ.o (fun r => V.tup [(slr false 1 Af) r.1, V.bool r.2]) (by rfl) h (fun r h => Tu h) (fun r52 h => ?_)
    refine Br.flip <| Br.ob h (fun p53 h => ?_) (fun p53 h => ?_)
    ·refine Br.no <| Br.no <| CallQ.rd V.bool (by first | rfl | simp only [V.fz, V.up, Ab, slr] | simp [Aa, V.fz, fzL, V.up, upL, Ab, Ac, Ad, slr]) (fun _ => rfl) h (fun r h => L6 h) (fun r54 h => ?_)
     refine Br.no <| Br.no <| Br.flip <| Br.ob h (fun p55 h => ?_) (fun p55 h => ?_)
     ·cases h; exact ⟨rfl, rfl⟩
     cases h; exact ⟨rfl, rfl⟩
    refine Br.yes <| Br.yes <| Br.yes <| Br.yes <| Br.yes ?_
    cases h; exact ⟨rfl, rfl⟩
   rintro (⟨⟩ | ⟨⟩) h
   ·try dsimp only at h
    refine Br.ob h (fun p57 h => ?_) (fun p57 h => ?_)
    ·refine Cells.lit rfl rfl <| Ask.o h fun p58 h => MkQ.o Af ((0 : Int)) rfl <| LoopQ.o [30, 29, 25, 24, 23] (Js r50 r51) (Om r50 r51) h (fun s o h => Zl s o h) (by rfl) (fun _ => rfl) ?_
     rintro q62_29 h
     try dsimp only at h
     refine LoopQ.o [31, 29, 25, 24, 23] (I9 r50 r51) (O7 r50 r51) h (fun s o h => Y3 s o h) (by rfl) (by rintro (_ | _) <;> rfl) ?_
     rintro (⟨⟩ | q71_29) h
     ·try dsimp only at h
      cases h; exact (by rfl)
     try dsimp only at h
     refine CallQ.rd V.bool (by first | rfl | simp only [V.fz, Ab, slr] | simp [Aa, V.fz, fzL, V.up, upL, Ab, Ac, Ad, slr]) (fun _ => rfl) h (fun r h => L6 h) (fun r72 h => ?_)
     refine Br.flip <| Br.ob h (fun p73 h => ?_) (fun p73 h => ?_)
     ·cases h; exact (by rfl)
     cases h; exact (by rfl)
    cases h; exact (by rfl)
   try dsimp only at h
   cases h; exact (by rfl)
  try dsimp only at h
  cases h; exact (by rfl)
 try dsimp only at h
 cases h; exact (by rfl)
end Go.Proofs.YthagmdhmgailfaaGreat.Ax
