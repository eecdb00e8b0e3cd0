/-
 What the functions compute, as functions on plain data, and that the program does compute it; written by program.
-/
import Derived.Test.YtoaojijoefljaaaCode
import Derived.Test.YtoaojijoefljaaaG1
import Derived.Test.YtoaojijoefljaaaG2
import Derived.Test.YtoaojijoefljaaaG6
import Derived.Test.YtoaojijoefljaaaG7
import Derived.Test.YtoaojijoefljaaaG8
import Derived.Test.YtoaojijoefljaaaG11
import Derived.Test.YtoaojijoefljaaaG12
import Derived.Test.YtoaojijoefljaaaG13
namespace Go.Proofs.Ytoaojijoefljaaa.Ax
open Go
set_option maxRecDepth 100000
set_option maxHeartbeats 4000000
noncomputable def Cb (_code0 : List Int) (r3 : SAlgebra × SOp) (r12 : List SOp × Bool) : (Int × (List SOp)) → Option ((Int × (List SOp)) ⊕ (List SOp)) := fun (x14, x13) =>
 if x14 < r3.snd.Arity then
 ask (InI (x14 * (7 : Int))) <|
 ask (InI (x14 * (7 : Int) + (↑r3.snd.Table.length : Int))) <|
 ask ((↑r12.fst.length : Int) ≠ (0 : Int)) <|
 ask ((0 : Int) ≤ (x14 * (7 : Int) + (↑r3.snd.Table.length : Int)).tmod (↑r12.fst.length : Int) ∧ (x14 * (7 : Int) + (↑r3.snd.Table.length : Int)).tmod (↑r12.fst.length : Int) < (↑r12.fst.length : Int)) <|
 ask ((x13).length + ([nth r12.fst ((x14 * (7 : Int) + (↑r3.snd.Table.length : Int)).tmod (↑r12.fst.length : Int)).toNat]).length ≤ LIM) <|
 ask (InI (x14 + (1 : Int))) <|
 some (.inl (x14 + (1 : Int), x13 ++ [nth r12.fst ((x14 * (7 : Int) + (↑r3.snd.Table.length : Int)).tmod (↑r12.fst.length : Int)).toNat]))
 else
 some (.inr x13)
def Gz (code0 : List Int) (r3 : SAlgebra × SOp) (r12 : List SOp × Bool) : (Int × (List SOp)) → St := fun s => [(14, A.val (Ae s.1)), (13, A.val ((slr true 2 (Ai false)) s.2)), (9, A.val ((slr false 2 (Ai false)) (r12.fst))), (4, A.val ((rP true (Ai false)) (r3.snd))), (3, A.val ((rP true (Al false)) (r3.fst))), (0, A.val ((slr false 1 (V.int IntKind.u8)) (code0)))]
def Kh (code0 : List Int) (r3 : SAlgebra × SOp) (_r12 : List SOp × Bool) : (List SOp) → Tgt
 | s => ((Ex.exit 0), [13, 4, 3, 0], [(13, A.val ((slr true 2 (Ai false)) s)), (4, A.val ((rP true (Ai false)) (r3.snd))), (3, A.val ((rP true (Al false)) (r3.fst))), (0, A.val ((slr false 1 (V.int IntKind.u8)) (code0)))])
theorem Sq {code0 : List Int} {r3 : SAlgebra × SOp} {r12 : List SOp × Bool} (s : (Int × (List SOp))) (o : (Int × (List SOp)) ⊕ (List SOp)) (h : Cb code0 r3 r12 s = some o) : vc Try.prog Kb (Dy [14, 13, 9, 4, 3, 0] (Gz code0 r3 r12) (Kh code0 r3 r12) o) (Gz code0 r3 r12 s) := by
 obtain ⟨x14, x13⟩ := s
 unfold Cb at h
 try dsimp only at h
 conv => whnf
 refine Cells.lit rfl rfl ?_
 conv => whnf
 refine Br.od h (fun p20 h => ?_) (fun p20 h => ?_)
 ·conv => whnf
  refine Ask.o h fun p21 h => ?_
  conv => whnf
  refine Cells.lit rfl rfl ?_
  conv => whnf
  refine Len.map ?_
  conv => whnf
  refine Ask.o h fun p22 h => ?_
  conv => whnf
  refine Len.map ?_
  conv => whnf
  refine Ask.o h fun p23 h => ?_
  conv => whnf
  refine Len.map ?_
  conv => whnf
  refine Ask.o h fun p24 h => ?_
  conv => whnf
  refine Elem.o (by first | omega | (simp [Bh] at * <;> omega)) ?_
  conv => whnf
  refine BslQ.o (Ai false) ([nth r12.fst ((x14 * (7 : Int) + (↑r3.snd.Table.length : Int)).tmod (↑r12.fst.length : Int)).toNat]) (by exact fun _ => ⟨rfl, rfl⟩) (by first | rfl | simp only [Aa, V.fz, fzL, V.up, upL, Ab, Ac, Ad, slr, List.cons_append, List.nil_append] | simp [Aa, V.fz, fzL, V.up, upL, Ab, Ac, Ad, slr]) ?_
  conv => whnf
  refine NoOwn.o (fun _ => rfl) ?_
  conv => whnf
  refine AppQ.o (m := 2) (Ai false) (by exact fun _ => ⟨rfl, rfl⟩) (x13) ([nth r12.fst ((x14 * (7 : Int) + (↑r3.snd.Table.length : Int)).tmod (↑r12.fst.length : Int)).toNat]) (by first | rfl | simp only [Aa, V.fz, fzL, V.up, upL, Ab, Ac, Ad, slr, List.cons_append, List.nil_append] | simp [Aa, V.fz, fzL, V.up, upL, Ab, Ac, Ad, slr]) (by first | rfl | simp only [Aa, V.fz, fzL, V.up, upL, Ab, Ac, Ad, slr, List.cons_append, List.nil_append] | simp [Aa, V.fz, fzL, V.up, upL, Ab, Ac, Ad, slr]) h fun h => ?_
  conv => whnf
  refine Ask.o h fun p25 h => ?_
  conv => whnf
  cases h; exact ⟨rfl, rfl⟩
 conv => whnf
 cases h; exact ⟨rfl, rfl⟩
noncomputable def B9 (_code0 : List Int) (r38 : Int × SOp × List Int × Int) (r46 : List Int × Bool) : Int → Option (Int ⊕ (Unit ⊕ Unit)) := fun x33 =>
 if x33 < (↑r46.fst.length : Int) then
 ask ((0 : Int) ≤ x33 ∧ x33 < (↑r46.fst.length : Int)) <|
 (N0 (r38.snd.snd.fst) (nth r46.fst x33.toNat)).bind fun r55 =>
 if (r55) = true then
 ask (InI (x33 + (1 : Int))) <|
 some (.inl (x33 + (1 : Int)))
 else
 some (.inr (.inl ()))
 else
 some (.inr (.inr ()))
def G1 (code0 : List Int) (r38 : Int × SOp × List Int × Int) (r46 : List Int × Bool) : Int → St := fun s => [(33, A.val (Ae s)), (29, A.val ((slr true 1 Ae) (r46.fst))), (23, A.val ((slr false 1 Ae) (r38.snd.snd.fst))), (0, A.val ((slr false 1 (V.int IntKind.u8)) (code0)))]
def Ki (code0 : List Int) (_r38 : Int × SOp × List Int × Int) (_r46 : List Int × Bool) : (Unit ⊕ Unit) → Tgt
 | (.inl _s) => (Ex.ret, [2], [(2, A.val (V.bool (false)))])
 | (.inr _s) => ((Ex.exit 2), [0], [(0, A.val ((slr false 1 (V.int IntKind.u8)) (code0)))])
theorem Se {code0 : List Int} {r38 : Int × SOp × List Int × Int} {r46 : List Int × Bool} (x33 : Int) (o : Int ⊕ (Unit ⊕ Unit)) (h : B9 code0 r38 r46 x33 = some o) : vc Try.prog Kg (Dy [33, 29, 23, 0] (G1 code0 r38 r46) (Ki code0 r38 r46) o) (G1 code0 r38 r46 x33) := by
 unfold B9 at h
 try dsimp only at h
 conv => whnf
 refine Len.map ?_
 conv => whnf
 refine Br.od h (fun p53 h => ?_) (fun p53 h => ?_)
 ·conv => whnf
  refine Len.map ?_
  conv => whnf
  refine Ask.o h fun p54 h => ?_
  conv => whnf
  refine Cells.one (fun _ => ⟨rfl, rfl⟩) (by first | omega | (simp [Bh] at * <;> omega)) ?_
  conv => whnf
  refine CallQ.o V.bool (by first | rfl | simp only [Aa, V.fz, fzL, V.up, upL, Ab, Ac, Ad, slr, List.cons_append, List.nil_append] | simp [Aa, V.fz, fzL, V.up, upL, Ab, Ac, Ad, slr]) h (fun r h => Ans h) (fun r55 h => ?_)
  conv => whnf
  refine Br.flip ?_
  conv => whnf
  refine Br.ob h (fun p56 h => ?_) (fun p56 h => ?_)
  ·conv => whnf
   refine Ask.o h fun p57 h => ?_
   conv => whnf
   cases h; exact ⟨rfl, rfl⟩
  conv => whnf
  cases h; exact ⟨rfl, rfl⟩
 conv => whnf
 cases h; exact ⟨rfl, rfl⟩
noncomputable def F7 (code0 : (List Int)) : Option Bool :=
 (Ry (code0)).bind fun r1 =>
 if (r1) = true then
 some true
 else
 (C2 (code0)).bind fun r3 =>
 (C7 (r3.fst) (r3.snd)).bind fun r4 =>
 (((Ed (r3.fst) (r3.snd)).bind fun r5 =>
 if (r4.fst == r5.fst) = true then
 if (r4.snd == r5.snd) = true then
 some (.inl ())
 else
 some (.inr ())
 else
 some (.inr ()) : Option (Unit ⊕ Unit))).bind fun t => match t with
 | (.inl _) => (((((if (r4.snd) = true then
 some r4.fst
 else
 some false : Option Bool)).bind fun q10_72 =>
 if (q10_72) = true then
 (Eu (r3.fst) (r3.snd.Arity)).bind fun r12 =>
 (((Er (r3.fst) (r3.snd.Arity)).bind fun r13 =>
 if (r12.snd == r13.snd) = true then
 if (r12.snd) = true then
 (Nr (r12.fst) (r13.fst)).bind fun r16 =>
 if (r16) = true then
 if (↑r12.fst.length : Int) = (0 : Int) then
 some (.inl ())
 else
 some (.inr ())
 else
 some (.inl ())
 else
 some (.inl ())
 else
 some (.inl ()) : Option (Unit ⊕ Unit))).bind fun t => match t with
 | (.inl _) => (some (.inl ()))
 | (.inr _) => ((Ar (Cb code0 r3 r12) ((0 : Int), Ao SOp)).bind fun q26_13 =>
 (Df (r3.fst.Size) (r3.snd) (q26_13)).bind fun r27 =>
 (((Ds (r3.fst.Size) (r3.snd) (q26_13)).bind fun r28 =>
 if (r27.snd == r28.snd) = true then
 if (r27.snd) = true then
 (H4 (r27.fst) (r28.fst)).bind fun r31 =>
 if (r31) = true then
 some (.inl ())
 else
 some (.inr ())
 else
 some (.inr ())
 else
 some (.inr ()) : Option (Unit ⊕ Unit))).bind fun t => match t with
 | (.inl _) => ((C7 (r3.fst) (r27.fst)).bind fun r34 =>
 if (r34.snd) = true then
 if (r34.fst) = true then
 some (.inr ())
 else
 some (.inl ())
 else
 some (.inl ()))
 | (.inr _) => (some (.inl ())))
 else
 some (.inr ()) : Option (Unit ⊕ Unit))).bind fun t => match t with
 | (.inl _) => (some false)
 | (.inr _) => ((F2 (code0)).bind fun r38 =>
 (Ir (r38.fst) (r38.snd.fst) (r38.snd.snd.fst) (r38.snd.snd.snd)).bind fun r39 =>
 (((Je (r38.fst) (r38.snd.fst) (r38.snd.snd.fst) (r38.snd.snd.snd)).bind fun r40 =>
 if (r39.snd == r40.snd) = true then
 (H4 (r39.fst) (r40.fst)).bind fun r42 =>
 if (r42) = true then
 some (.inl ())
 else
 some (.inr ())
 else
 some (.inr ()) : Option (Unit ⊕ Unit))).bind fun t => match t with
 | (.inl _) => (((if (r39.snd) = true then
 (C0 (r38.fst) (r39.fst)).bind fun r46 =>
 (((D3 (r38.fst) (r39.fst)).bind fun r47 =>
 if (r46.snd == r47.snd) = true then
 if (r46.snd) = true then
 (Gn (r46.fst) (r47.fst)).bind fun r50 =>
 if (r50) = true then
 some (.inl ())
 else
 some (.inr ())
 else
 some (.inr ())
 else
 some (.inr ()) : Option (Unit ⊕ Unit))).bind fun t => match t with
 | (.inl _) => ((Ar (B9 code0 r38 r46) (0 : Int)).bind fun t => match t with
 | (.inl _) => (some (.inl ()))
 | (.inr _) => (some (.inr ())))
 | (.inr _) => (some (.inl ()))
 else
 some (.inr ()) : Option (Unit ⊕ Unit))).bind fun t => match t with
 | (.inl _) => (some false)
 | (.inr _) => ((Dp (code0)).bind fun r60 =>
 (Fb (r60.fst) (r60.snd)).bind fun r61 =>
 (((Fe (r60.fst) (r60.snd)).bind fun r62 =>
 if (r61.fst == r62.fst) = true then
 if (r61.snd == r62.snd) = true then
 some (.inl ())
 else
 some (.inr ())
 else
 some (.inr ()) : Option (Unit ⊕ Unit))).bind fun t => match t with
 | (.inl _) => (((if (r61.snd) = true then
 some r61.fst
 else
 some false : Option Bool)).bind fun q67_267 =>
 if (q67_267) = true then
 (C0 (r60.fst) (r60.snd)).bind fun r69 =>
 if (r69.snd) = true then
 if (↑r69.fst.length : Int) > (1 : Int) then
 some false
 else
 if r60.fst > (1 : Int) then
 if (↑r69.fst.length : Int) = (0 : Int) then
 some false
 else
 some true
 else
 some true
 else
 some false
 else
 some true)
 | (.inr _) => (some false)))
 | (.inr _) => (some false)))
 | (.inr _) => (some false)
theorem Vx {code0 : (List Int)} {v : Bool} (h : F7 code0 = some v) : Ret Try.prog Ma [(slr false 1 (V.int IntKind.u8)) code0] (V.bool v) := by
 refine Bg Wf (Nat.le_of_ble_eq_true rfl) ?_
 unfold F7 at h
 conv => whnf
 refine CallQ.o V.bool (by first | rfl | simp only [Aa, V.fz, fzL, V.up, upL, Ab, Ac, Ad, slr, List.cons_append, List.nil_append] | simp [Aa, V.fz, fzL, V.up, upL, Ab, Ac, Ad, slr]) h (fun r h => Anr h) (fun r1 h => ?_)
 conv => whnf
 refine Br.ob h (fun p2 h => ?_) (fun p2 h => ?_)
 ·conv => whnf
  cases h; exact (by first | rfl | simp only [Ag, Aa, V.fz, fzL, V.up, upL, Ab, Ac, Ad, slr] | simp [Ag, Aa, V.fz, fzL, V.up, upL, Ab, Ac, Ad, slr])
 conv => whnf
 refine CallQ.o (fun r => V.tup [(Al false) r.1, (Ai false) r.2]) (by first | rfl | simp only [Aa, V.fz, fzL, V.up, upL, Ab, Ac, Ad, slr, List.cons_append, List.nil_append] | simp [Aa, V.fz, fzL, V.up, upL, Ab, Ac, Ad, slr]) h (fun r h => Q4 h) (fun r3 h => ?_)
 conv => whnf
 refine SetKids.lit rfl ?_
 conv => whnf
 refine SetKids.lit rfl ?_
 conv => whnf
 refine Cells.lit rfl rfl ?_
 conv => whnf
 refine Cells.lit rfl rfl ?_
 conv => whnf
 refine CallQ.o (fun r => V.tup [V.bool r.1, V.bool r.2]) (by first | rfl | simp only [Aa, V.fz, fzL, V.up, upL, Ab, Ac, Ad, slr, List.cons_append, List.nil_append] | simp [Aa, V.fz, fzL, V.up, upL, Ab, Ac, Ad, slr]) h (fun r h => Mh h) (fun r4 h => ?_)
 conv => whnf
 refine CutQ.o (fun t : (Unit ⊕ Unit) => match t with | (.inl s) => (Ex.normal, [6, 5, 4, 3, 0], [(6, A.val (V.bool (r4.snd))), (5, A.val (V.bool (r4.fst))), (4, A.val ((rP true (Ai false)) (r3.snd))), (3, A.val ((rP true (Al false)) (r3.fst))), (0, A.val ((slr false 1 (V.int IntKind.u8)) (code0)))]) | (.inr s) => (Ex.ret, [2], [(2, A.val (V.bool (false)))])) h ?_ ?_
 ·intro t h
  conv => whnf
  refine Cells.lit rfl rfl ?_
  conv => whnf
  refine Cells.lit rfl rfl ?_
  conv => whnf
  refine CallQ.o (fun r => V.tup [V.bool r.1, V.bool r.2]) (by first | rfl | simp only [Aa, V.fz, fzL, V.up, upL, Ab, Ac, Ad, slr, List.cons_append, List.nil_append] | simp [Aa, V.fz, fzL, V.up, upL, Ab, Ac, Ad, slr]) h (fun r h => Wd h) (fun r5 h => ?_)
  conv => whnf
  refine Br.flip ?_
  conv => whnf
  refine Br.ob h (fun p6 h => ?_) (fun p6 h => ?_)
  ·conv => whnf
   refine Br.no ?_
   conv => whnf
   refine Br.no ?_
   conv => whnf
   refine Br.no ?_
   conv => whnf
   refine Br.flip ?_
   conv => whnf
   refine Br.ob h (fun p7 h => ?_) (fun p7 h => ?_)
   ·conv => whnf
    cases h; exact ⟨rfl, rfl⟩
   conv => whnf
   cases h; exact ⟨rfl, rfl⟩
  conv => whnf
  refine Br.yes ?_
  conv => whnf
  refine Br.yes ?_
  conv => whnf
  refine Br.yes ?_
  conv => whnf
  refine Br.yes ?_
  conv => whnf
  cases h; exact ⟨rfl, rfl⟩
 rintro (⟨⟩ | ⟨⟩) h
 ·try dsimp only at h
  conv => whnf
  refine CutQ.o (fun t : (Unit ⊕ Unit) => match t with | (.inl s) => (Ex.ret, [2], [(2, A.val (V.bool (false)))]) | (.inr s) => (Ex.normal, [0], [(0, A.val ((slr false 1 (V.int IntKind.u8)) (code0)))])) h ?_ ?_
  ·intro t h
   conv => whnf
   refine CutQ.o (fun t : Bool => match t with | s => (Ex.normal, [72, 4, 3, 0], [(72, A.val (V.bool s)), (4, A.val ((rP true (Ai false)) (r3.snd))), (3, A.val ((rP true (Al false)) (r3.fst))), (0, A.val ((slr false 1 (V.int IntKind.u8)) (code0)))])) h ?_ ?_
   ·intro t h
    conv => whnf
    refine Br.ob h (fun p9 h => ?_) (fun p9 h => ?_)
    ·conv => whnf
     refine Br.yes ?_
     conv => whnf
     cases h; exact ⟨rfl, rfl⟩
    conv => whnf
    refine Br.no ?_
    conv => whnf
    cases h; exact ⟨rfl, rfl⟩
   rintro q10_72 h
   try dsimp only at h
   conv => whnf
   refine Br.ob h (fun p11 h => ?_) (fun p11 h => ?_)
   ·conv => whnf
    refine Cells.lit rfl rfl ?_
    conv => whnf
    refine Cells.lit rfl rfl ?_
    conv => whnf
    refine CallQ.o (fun r => V.tup [(slr false 2 (Ai false)) r.1, V.bool r.2]) (by first | rfl | simp only [Aa, V.fz, fzL, V.up, upL, Ab, Ac, Ad, slr, List.cons_append, List.nil_append] | simp [Aa, V.fz, fzL, V.up, upL, Ab, Ac, Ad, slr]) h (fun r h => Ret.frz (Wx h) (by first | rfl | simp only [V.fz, fzL, Ab, slr] | simp [Aa, V.fz, fzL, V.up, upL, Ab, Ac, Ad, slr])) (fun r12 h => ?_)
    conv => whnf
    refine CutQ.o (fun t : (Unit ⊕ Unit) => match t with | (.inl s) => (Ex.ret, [2], [(2, A.val (V.bool (false)))]) | (.inr s) => (Ex.normal, [9, 4, 3, 0], [(9, A.val ((slr false 2 (Ai false)) (r12.fst))), (4, A.val ((rP true (Ai false)) (r3.snd))), (3, A.val ((rP true (Al false)) (r3.fst))), (0, A.val ((slr false 1 (V.int IntKind.u8)) (code0)))])) h ?_ ?_
    ·intro t h
     conv => whnf
     refine Cells.lit rfl rfl ?_
     conv => whnf
     refine Cells.lit rfl rfl ?_
     conv => whnf
     refine CallQ.o (fun r => V.tup [(slr true 2 (Ai true)) r.1, V.bool r.2]) (by first | rfl | simp only [Aa, V.fz, fzL, V.up, upL, Ab, Ac, Ad, slr, List.cons_append, List.nil_append] | simp [Aa, V.fz, fzL, V.up, upL, Ab, Ac, Ad, slr]) h (fun r h => W9 h) (fun r13 h => ?_)
     conv => whnf
     refine Br.flip ?_
     conv => whnf
     refine Br.ob h (fun p14 h => ?_) (fun p14 h => ?_)
     ·conv => whnf
      refine Br.no ?_
      conv => whnf
      refine Br.no ?_
      conv => whnf
      refine Br.flip ?_
      conv => whnf
      refine Br.ob h (fun p15 h => ?_) (fun p15 h => ?_)
      ·conv => whnf
       refine Br.no ?_
       conv => whnf
       refine Br.no ?_
       conv => whnf
       refine CallQ.rd V.bool (by first | rfl | simp only [V.fz, V.up, Ab, slr] | simp [Aa, V.fz, fzL, V.up, upL, Ab, Ac, Ad, slr]) (fun _ => rfl) h (fun r h => Aoz h) (fun r16 h => ?_)
       conv => whnf
       refine Br.no ?_
       conv => whnf
       refine Br.no ?_
       conv => whnf
       refine Br.flip ?_
       conv => whnf
       refine Br.ob h (fun p17 h => ?_) (fun p17 h => ?_)
       ·conv => whnf
        refine Br.no ?_
        conv => whnf
        refine Len.map ?_
        conv => whnf
        refine Br.no ?_
        conv => whnf
        refine Br.no ?_
        conv => whnf
        refine Br.oe h (fun p18 h => ?_) (fun p18 h => ?_)
        ·conv => whnf
         cases h; exact ⟨rfl, rfl⟩
        conv => whnf
        cases h; exact ⟨rfl, rfl⟩
       conv => whnf
       refine Br.yes ?_
       conv => whnf
       refine Br.yes ?_
       conv => whnf
       refine Br.yes ?_
       conv => whnf
       refine Br.yes ?_
       conv => whnf
       cases h; exact ⟨rfl, rfl⟩
      conv => whnf
      refine Br.yes ?_
      conv => whnf
      refine Br.yes ?_
      conv => whnf
      refine Br.yes ?_
      conv => whnf
      refine Br.yes ?_
      conv => whnf
      refine Br.yes ?_
      conv => whnf
      refine Br.yes ?_
      conv => whnf
      refine Br.yes ?_
      conv => whnf
      refine Br.yes ?_
      conv => whnf
      refine Br.yes ?_
      conv => whnf
      cases h; exact ⟨rfl, rfl⟩
     conv => whnf
     refine Br.yes ?_
     conv => whnf
     refine Br.yes ?_
     conv => whnf
     refine Br.yes ?_
     conv => whnf
     refine Br.yes ?_
     conv => whnf
     refine Br.yes ?_
     conv => whnf
     refine Br.yes ?_
     conv => whnf
     refine Br.yes ?_
     conv => whnf
     refine Br.yes ?_
     conv => whnf
     refine Br.yes ?_
     conv => whnf
     refine Br.yes ?_
     conv => whnf
     refine Br.yes ?_
     conv => whnf
     refine Br.yes ?_
     conv => whnf
     cases h; exact ⟨rfl, rfl⟩
    rintro (⟨⟩ | ⟨⟩) h
    ·try dsimp only at h
     conv => whnf
     cases h; exact ⟨rfl, rfl⟩
    try dsimp only at h
    conv => whnf
    refine BslQ.o (Ai true) (Ao SOp) (by exact fun _ => ⟨rfl, rfl⟩) (by first | rfl | simp only [Aa, V.fz, fzL, V.up, upL, Ab, Ac, Ad, slr, List.cons_append, List.nil_append] | simp [Aa, V.fz, fzL, V.up, upL, Ab, Ac, Ad, slr]) ?_
    conv => whnf
    refine LoopQ.o [14, 13, 9, 4, 3, 0] (Gz code0 r3 r12) (Kh code0 r3 r12) h (fun s o h => Sq s o h) (by first | rfl | simp [restrict, look, Aa, V.fz, fzL, V.up, upL, Ab, Ac, Ad, slr]) (fun _ => rfl) ?_
    rintro q26_13 h
    try dsimp only at h
    conv => whnf
    refine Cells.lit rfl rfl ?_
    conv => whnf
    refine Cells.lit rfl rfl ?_
    conv => whnf
    refine CallQ.rd (fun r => V.tup [(Ai true) r.1, V.bool r.2]) (by first | rfl | simp only [V.fz, fzL, Ab, slr] | simp [Aa, V.fz, fzL, V.up, upL, Ab, Ac, Ad, slr]) (fun _ => by simp [V.noFz, Bq, Be]) h (fun r h => S9 h) (fun r27 h => ?_)
    conv => whnf
    refine SetKids.lit rfl ?_
    conv => whnf
    refine CutQ.o (fun t : (Unit ⊕ Unit) => match t with | (.inl s) => (Ex.normal, [15, 3, 0], [(15, A.val ((rP true (Ai true)) (r27.fst))), (3, A.val ((rP true (Al false)) (r3.fst))), (0, A.val ((slr false 1 (V.int IntKind.u8)) (code0)))]) | (.inr s) => (Ex.ret, [2], [(2, A.val (V.bool (false)))])) h ?_ ?_
    ·intro t h
     conv => whnf
     refine Cells.lit rfl rfl ?_
     conv => whnf
     refine Cells.lit rfl rfl ?_
     conv => whnf
     refine CallQ.rd (fun r => V.tup [(Ai true) r.1, V.bool r.2]) (by first | rfl | simp only [V.fz, fzL, Ab, slr] | simp [Aa, V.fz, fzL, V.up, upL, Ab, Ac, Ad, slr]) (fun _ => by simp [V.noFz, Bq, Be]) h (fun r h => S3 h) (fun r28 h => ?_)
     conv => whnf
     refine SetKids.lit rfl ?_
     conv => whnf
     refine Br.flip ?_
     conv => whnf
     refine Br.ob h (fun p29 h => ?_) (fun p29 h => ?_)
     ·conv => whnf
      refine Br.no ?_
      conv => whnf
      refine Br.no ?_
      conv => whnf
      refine Br.flip ?_
      conv => whnf
      refine Br.ob h (fun p30 h => ?_) (fun p30 h => ?_)
      ·conv => whnf
       refine Cells.lit rfl rfl ?_
       conv => whnf
       refine Br.no ?_
       conv => whnf
       refine Cells.lit rfl rfl ?_
       conv => whnf
       refine Br.no ?_
       conv => whnf
       refine CallQ.rd V.bool (by first | rfl | simp only [V.fz, Ab] | simp [Aa, V.fz, fzL, V.up, upL, Ab, Ac, Ad, slr]) (fun _ => rfl) h (fun r h => Z8 h) (fun r31 h => ?_)
       conv => whnf
       refine Br.no ?_
       conv => whnf
       refine Br.no ?_
       conv => whnf
       refine Br.flip ?_
       conv => whnf
       refine Br.ob h (fun p32 h => ?_) (fun p32 h => ?_)
       ·conv => whnf
        cases h; exact ⟨rfl, rfl⟩
       conv => whnf
       cases h; exact ⟨rfl, rfl⟩
      conv => whnf
      refine Br.yes ?_
      conv => whnf
      refine Br.yes ?_
      conv => whnf
      refine Br.yes ?_
      conv => whnf
      refine Br.yes ?_
      conv => whnf
      refine Br.yes ?_
      conv => whnf
      cases h; exact ⟨rfl, rfl⟩
     conv => whnf
     refine Br.yes ?_
     conv => whnf
     refine Br.yes ?_
     conv => whnf
     refine Br.yes ?_
     conv => whnf
     refine Br.yes ?_
     conv => whnf
     refine Br.yes ?_
     conv => whnf
     refine Br.yes ?_
     conv => whnf
     refine Br.yes ?_
     conv => whnf
     refine Br.yes ?_
     conv => whnf
     cases h; exact ⟨rfl, rfl⟩
    rintro (⟨⟩ | ⟨⟩) h
    ·try dsimp only at h
     conv => whnf
     refine Cells.lit rfl rfl ?_
     conv => whnf
     refine Cells.lit rfl rfl ?_
     conv => whnf
     refine CallQ.rd (fun r => V.tup [V.bool r.1, V.bool r.2]) (by first | rfl | simp only [V.fz, fzL, Ab] | simp [Aa, V.fz, fzL, V.up, upL, Ab, Ac, Ad, slr]) (fun _ => by simp [V.noFz, Bq]) h (fun r h => Mh h) (fun r34 h => ?_)
     conv => whnf
     refine Br.flip ?_
     conv => whnf
     refine Br.ob h (fun p35 h => ?_) (fun p35 h => ?_)
     ·conv => whnf
      refine Br.no ?_
      conv => whnf
      refine Br.no ?_
      conv => whnf
      refine Br.flip ?_
      conv => whnf
      refine Br.ob h (fun p36 h => ?_) (fun p36 h => ?_)
      ·conv => whnf
       cases h; exact ⟨rfl, rfl⟩
      conv => whnf
      cases h; exact ⟨rfl, rfl⟩
     conv => whnf
     refine Br.yes ?_
     conv => whnf
     refine Br.yes ?_
     conv => whnf
     refine Br.yes ?_
     conv => whnf
     cases h; exact ⟨rfl, rfl⟩
    try dsimp only at h
    conv => whnf
    cases h; exact ⟨rfl, rfl⟩
   conv => whnf
   cases h; exact ⟨rfl, rfl⟩
  rintro (⟨⟩ | ⟨⟩) h
  ·try dsimp only at h
   conv => whnf
   cases h; exact (by first | rfl | simp only [Ag, Aa, V.fz, fzL, V.up, upL, Ab, Ac, Ad, slr] | simp [Ag, Aa, V.fz, fzL, V.up, upL, Ab, Ac, Ad, slr])
  try dsimp only at h
  conv => whnf
  refine CallQ.o (fun r => V.tup [Ae r.1, (Ai false) r.2.1, (slr false 1 Ae) r.2.2.1, Ae r.2.2.2]) (by first | rfl | simp only [Aa, V.fz, fzL, V.up, upL, Ab, Ac, Ad, slr, List.cons_append, List.nil_append] | simp [Aa, V.fz, fzL, V.up, upL, Ab, Ac, Ad, slr]) h (fun r h => Zm h) (fun r38 h => ?_)
  conv => whnf
  refine SetKids.lit rfl ?_
  conv => whnf
  refine Cells.lit rfl rfl ?_
  conv => whnf
  refine CallQ.o (fun r => V.tup [(Ai true) r.1, V.bool r.2]) (by first | rfl | simp only [Aa, V.fz, fzL, V.up, upL, Ab, Ac, Ad, slr, List.cons_append, List.nil_append] | simp [Aa, V.fz, fzL, V.up, upL, Ab, Ac, Ad, slr]) h (fun r h => Ah7 h) (fun r39 h => ?_)
  conv => whnf
  refine SetKids.lit rfl ?_
  conv => whnf
  refine CutQ.o (fun t : (Unit ⊕ Unit) => match t with | (.inl s) => (Ex.normal, [26, 25, 23, 21, 0], [(26, A.val (V.bool (r39.snd))), (25, A.val ((rP true (Ai true)) (r39.fst))), (23, A.val ((slr false 1 Ae) (r38.snd.snd.fst))), (21, A.val (Ae (r38.fst))), (0, A.val ((slr false 1 (V.int IntKind.u8)) (code0)))]) | (.inr s) => (Ex.ret, [2], [(2, A.val (V.bool (false)))])) h ?_ ?_
  ·intro t h
   conv => whnf
   refine Cells.lit rfl rfl ?_
   conv => whnf
   refine CallQ.o (fun r => V.tup [(Ai true) r.1, V.bool r.2]) (by first | rfl | simp only [Aa, V.fz, fzL, V.up, upL, Ab, Ac, Ad, slr, List.cons_append, List.nil_append] | simp [Aa, V.fz, fzL, V.up, upL, Ab, Ac, Ad, slr]) h (fun r h => Ag6 h) (fun r40 h => ?_)
   conv => whnf
   refine SetKids.lit rfl ?_
   conv => whnf
   refine Br.flip ?_
   conv => whnf
   refine Br.ob h (fun p41 h => ?_) (fun p41 h => ?_)
   ·conv => whnf
    refine Cells.lit rfl rfl ?_
    conv => whnf
    refine Br.no ?_
    conv => whnf
    refine Cells.lit rfl rfl ?_
    conv => whnf
    refine Br.no ?_
    conv => whnf
    refine CallQ.rd V.bool (by first | rfl | simp only [V.fz, Ab] | simp [Aa, V.fz, fzL, V.up, upL, Ab, Ac, Ad, slr]) (fun _ => rfl) h (fun r h => Z8 h) (fun r42 h => ?_)
    conv => whnf
    refine Br.no ?_
    conv => whnf
    refine Br.no ?_
    conv => whnf
    refine Br.flip ?_
    conv => whnf
    refine Br.ob h (fun p43 h => ?_) (fun p43 h => ?_)
    ·conv => whnf
     cases h; exact ⟨rfl, rfl⟩
    conv => whnf
    cases h; exact ⟨rfl, rfl⟩
   conv => whnf
   refine Br.yes ?_
   conv => whnf
   refine Br.yes ?_
   conv => whnf
   refine Br.yes ?_
   conv => whnf
   refine Br.yes ?_
   conv => whnf
   refine Br.yes ?_
   conv => whnf
   cases h; exact ⟨rfl, rfl⟩
  rintro (⟨⟩ | ⟨⟩) h
  ·try dsimp only at h
   conv => whnf
   refine CutQ.o (fun t : (Unit ⊕ Unit) => match t with | (.inl s) => (Ex.ret, [2], [(2, A.val (V.bool (false)))]) | (.inr s) => (Ex.normal, [0], [(0, A.val ((slr false 1 (V.int IntKind.u8)) (code0)))])) h ?_ ?_
   ·intro t h
    conv => whnf
    refine Br.ob h (fun p45 h => ?_) (fun p45 h => ?_)
    ·conv => whnf
     refine Cells.lit rfl rfl ?_
     conv => whnf
     refine CallQ.rd (fun r => V.tup [(slr true 1 Ae) r.1, V.bool r.2]) (by first | rfl | simp only [V.fz, V.up, Ab, Ad] | simp [Aa, V.fz, fzL, V.up, upL, Ab, Ac, Ad, slr]) (fun _ => by simp [V.noFz, Bq, Be]) h (fun r h => Lx h) (fun r46 h => ?_)
     conv => whnf
     refine CutQ.o (fun t : (Unit ⊕ Unit) => match t with | (.inl s) => (Ex.normal, [29, 23, 0], [(29, A.val ((slr true 1 Ae) (r46.fst))), (23, A.val ((slr false 1 Ae) (r38.snd.snd.fst))), (0, A.val ((slr false 1 (V.int IntKind.u8)) (code0)))]) | (.inr s) => (Ex.ret, [2], [(2, A.val (V.bool (false)))])) h ?_ ?_
     ·intro t h
      conv => whnf
      refine Cells.lit rfl rfl ?_
      conv => whnf
      refine CallQ.rd (fun r => V.tup [(slr true 1 Ae) r.1, V.bool r.2]) (by first | rfl | simp only [V.fz, V.up, Ab, Ad] | simp [Aa, V.fz, fzL, V.up, upL, Ab, Ac, Ad, slr]) (fun _ => by simp [V.noFz, Bq, Be]) h (fun r h => Va h) (fun r47 h => ?_)
      conv => whnf
      refine Br.flip ?_
      conv => whnf
      refine Br.ob h (fun p48 h => ?_) (fun p48 h => ?_)
      ·conv => whnf
       refine Br.no ?_
       conv => whnf
       refine Br.no ?_
       conv => whnf
       refine Br.flip ?_
       conv => whnf
       refine Br.ob h (fun p49 h => ?_) (fun p49 h => ?_)
       ·conv => whnf
        refine Br.no ?_
        conv => whnf
        refine Br.no ?_
        conv => whnf
        refine CallQ.rd V.bool (by first | rfl | simp only [V.fz, Ab, slr] | simp [Aa, V.fz, fzL, V.up, upL, Ab, Ac, Ad, slr]) (fun _ => rfl) h (fun r h => Abi h) (fun r50 h => ?_)
        conv => whnf
        refine Br.no ?_
        conv => whnf
        refine Br.no ?_
        conv => whnf
        refine Br.flip ?_
        conv => whnf
        refine Br.ob h (fun p51 h => ?_) (fun p51 h => ?_)
        ·conv => whnf
         cases h; exact ⟨rfl, rfl⟩
        conv => whnf
        cases h; exact ⟨rfl, rfl⟩
       conv => whnf
       refine Br.yes ?_
       conv => whnf
       refine Br.yes ?_
       conv => whnf
       refine Br.yes ?_
       conv => whnf
       refine Br.yes ?_
       conv => whnf
       refine Br.yes ?_
       conv => whnf
       cases h; exact ⟨rfl, rfl⟩
      conv => whnf
      refine Br.yes ?_
      conv => whnf
      refine Br.yes ?_
      conv => whnf
      refine Br.yes ?_
      conv => whnf
      refine Br.yes ?_
      conv => whnf
      refine Br.yes ?_
      conv => whnf
      refine Br.yes ?_
      conv => whnf
      refine Br.yes ?_
      conv => whnf
      refine Br.yes ?_
      conv => whnf
      cases h; exact ⟨rfl, rfl⟩
     rintro (⟨⟩ | ⟨⟩) h
     ·try dsimp only at h
      conv => whnf
      refine LoopQ.o [33, 29, 23, 0] (G1 code0 r38 r46) (Ki code0 r38 r46) h (fun s o h => Se s o h) (by first | rfl | simp [restrict, look, Aa, V.fz, fzL, V.up, upL, Ab, Ac, Ad, slr]) (by rintro (_ | _) <;> rfl) ?_
      rintro (⟨⟩ | ⟨⟩) h
      ·try dsimp only at h
       conv => whnf
       cases h; exact ⟨rfl, rfl⟩
      try dsimp only at h
      conv => whnf
      cases h; exact ⟨rfl, rfl⟩
     try dsimp only at h
     conv => whnf
     cases h; exact ⟨rfl, rfl⟩
    conv => whnf
    cases h; exact ⟨rfl, rfl⟩
   rintro (⟨⟩ | ⟨⟩) h
   ·try dsimp only at h
    conv => whnf
    cases h; exact (by first | rfl | simp only [Ag, Aa, V.fz, fzL, V.up, upL, Ab, Ac, Ad, slr] | simp [Ag, Aa, V.fz, fzL, V.up, upL, Ab, Ac, Ad, slr])
   try dsimp only at h
   conv => whnf
   refine CallQ.o (fun r => V.tup [Ae r.1, (Ai true) r.2]) (by first | rfl | simp only [Aa, V.fz, fzL, V.up, upL, Ab, Ac, Ad, slr, List.cons_append, List.nil_append] | simp [Aa, V.fz, fzL, V.up, upL, Ab, Ac, Ad, slr]) h (fun r h => Tm h) (fun r60 h => ?_)
   conv => whnf
   refine SetKids.lit rfl ?_
   conv => whnf
   refine Cells.lit rfl rfl ?_
   conv => whnf
   refine CallQ.rd (fun r => V.tup [V.bool r.1, V.bool r.2]) (by first | rfl | simp only [V.fz, V.up, Ab, Ad] | simp [Aa, V.fz, fzL, V.up, upL, Ab, Ac, Ad, slr]) (fun _ => by simp [V.noFz, Bq]) h (fun r h => Yu h) (fun r61 h => ?_)
   conv => whnf
   refine CutQ.o (fun t : (Unit ⊕ Unit) => match t with | (.inl s) => (Ex.normal, [37, 36, 34, 35], [(37, A.val (V.bool (r61.snd))), (36, A.val (V.bool (r61.fst))), (34, A.val (Ae (r60.fst))), (35, A.val ((rP true (Ai true)) (r60.snd)))]) | (.inr s) => (Ex.ret, [2], [(2, A.val (V.bool (false)))])) h ?_ ?_
   ·intro t h
    conv => whnf
    refine Cells.lit rfl rfl ?_
    conv => whnf
    refine CallQ.rd (fun r => V.tup [V.bool r.1, V.bool r.2]) (by first | rfl | simp only [V.fz, V.up, Ab, Ad] | simp [Aa, V.fz, fzL, V.up, upL, Ab, Ac, Ad, slr]) (fun _ => by simp [V.noFz, Bq]) h (fun r h => Y0 h) (fun r62 h => ?_)
    conv => whnf
    refine Br.flip ?_
    conv => whnf
    refine Br.ob h (fun p63 h => ?_) (fun p63 h => ?_)
    ·conv => whnf
     refine Br.no ?_
     conv => whnf
     refine Br.no ?_
     conv => whnf
     refine Br.no ?_
     conv => whnf
     refine Br.flip ?_
     conv => whnf
     refine Br.ob h (fun p64 h => ?_) (fun p64 h => ?_)
     ·conv => whnf
      cases h; exact ⟨rfl, rfl⟩
     conv => whnf
     cases h; exact ⟨rfl, rfl⟩
    conv => whnf
    refine Br.yes ?_
    conv => whnf
    refine Br.yes ?_
    conv => whnf
    refine Br.yes ?_
    conv => whnf
    refine Br.yes ?_
    conv => whnf
    cases h; exact ⟨rfl, rfl⟩
   rintro (⟨⟩ | ⟨⟩) h
   ·try dsimp only at h
    conv => whnf
    refine CutQ.o (fun t : Bool => match t with | s => (Ex.normal, [267, 34, 35], [(267, A.val (V.bool s)), (34, A.val (Ae (r60.fst))), (35, A.val ((rP true (Ai true)) (r60.snd)))])) h ?_ ?_
    ·intro t h
     conv => whnf
     refine Br.ob h (fun p66 h => ?_) (fun p66 h => ?_)
     ·conv => whnf
      refine Br.yes ?_
      conv => whnf
      cases h; exact ⟨rfl, rfl⟩
     conv => whnf
     refine Br.no ?_
     conv => whnf
     cases h; exact ⟨rfl, rfl⟩
    rintro q67_267 h
    try dsimp only at h
    conv => whnf
    refine Br.ob h (fun p68 h => ?_) (fun p68 h => ?_)
    ·conv => whnf
     refine Cells.lit rfl rfl ?_
     conv => whnf
     refine CallQ.rd (fun r => V.tup [(slr true 1 Ae) r.1, V.bool r.2]) (by first | rfl | simp only [V.fz, V.up, Ab, Ad] | simp [Aa, V.fz, fzL, V.up, upL, Ab, Ac, Ad, slr]) (fun _ => by simp [V.noFz, Bq, Be]) h (fun r h => Lx h) (fun r69 h => ?_)
     conv => whnf
     refine Br.flip ?_
     conv => whnf
     refine Br.ob h (fun p70 h => ?_) (fun p70 h => ?_)
     ·conv => whnf
      refine Br.no ?_
      conv => whnf
      refine Len.map ?_
      conv => whnf
      refine Br.no ?_
      conv => whnf
      refine Br.no ?_
      conv => whnf
      refine Br.od h (fun p71 h => ?_) (fun p71 h => ?_)
      ·conv => whnf
       refine Br.yes ?_
       conv => whnf
       refine Br.yes ?_
       conv => whnf
       refine Br.yes ?_
       conv => whnf
       refine Br.yes ?_
       conv => whnf
       refine Br.yes ?_
       conv => whnf
       cases h; exact (by first | rfl | simp only [Ag, Aa, V.fz, fzL, V.up, upL, Ab, Ac, Ad, slr] | simp [Ag, Aa, V.fz, fzL, V.up, upL, Ab, Ac, Ad, slr])
      conv => whnf
      refine Br.no ?_
      conv => whnf
      refine Br.no ?_
      conv => whnf
      refine Br.od h (fun p72 h => ?_) (fun p72 h => ?_)
      ·conv => whnf
       refine Br.yes ?_
       conv => whnf
       refine Len.map ?_
       conv => whnf
       refine Br.yes ?_
       conv => whnf
       refine Br.no ?_
       conv => whnf
       refine Br.yes ?_
       conv => whnf
       refine Br.no ?_
       conv => whnf
       refine Br.oe h (fun p73 h => ?_) (fun p73 h => ?_)
       ·conv => whnf
        cases h; exact (by first | rfl | simp only [Ag, Aa, V.fz, fzL, V.up, upL, Ab, Ac, Ad, slr] | simp [Ag, Aa, V.fz, fzL, V.up, upL, Ab, Ac, Ad, slr])
       conv => whnf
       cases h; exact (by first | rfl | simp only [Ag, Aa, V.fz, fzL, V.up, upL, Ab, Ac, Ad, slr] | simp [Ag, Aa, V.fz, fzL, V.up, upL, Ab, Ac, Ad, slr])
      conv => whnf
      refine Br.no ?_
      conv => whnf
      refine Br.no ?_
      conv => whnf
      refine Br.no ?_
      conv => whnf
      refine Br.no ?_
      conv => whnf
      refine Br.no ?_
      conv => whnf
      refine Br.no ?_
      conv => whnf
      cases h; exact (by first | rfl | simp only [Ag, Aa, V.fz, fzL, V.up, upL, Ab, Ac, Ad, slr] | simp [Ag, Aa, V.fz, fzL, V.up, upL, Ab, Ac, Ad, slr])
     conv => whnf
     refine Br.yes ?_
     conv => whnf
     refine Br.yes ?_
     conv => whnf
     refine Br.yes ?_
     conv => whnf
     refine Br.yes ?_
     conv => whnf
     refine Br.yes ?_
     conv => whnf
     refine Br.yes ?_
     conv => whnf
     refine Br.yes ?_
     conv => whnf
     refine Br.yes ?_
     conv => whnf
     refine Br.yes ?_
     conv => whnf
     cases h; exact (by first | rfl | simp only [Ag, Aa, V.fz, fzL, V.up, upL, Ab, Ac, Ad, slr] | simp [Ag, Aa, V.fz, fzL, V.up, upL, Ab, Ac, Ad, slr])
    conv => whnf
    cases h; exact (by first | rfl | simp only [Ag, Aa, V.fz, fzL, V.up, upL, Ab, Ac, Ad, slr] | simp [Ag, Aa, V.fz, fzL, V.up, upL, Ab, Ac, Ad, slr])
   try dsimp only at h
   conv => whnf
   cases h; exact (by first | rfl | simp only [Ag, Aa, V.fz, fzL, V.up, upL, Ab, Ac, Ad, slr] | simp [Ag, Aa, V.fz, fzL, V.up, upL, Ab, Ac, Ad, slr])
  try dsimp only at h
  conv => whnf
  cases h; exact (by first | rfl | simp only [Ag, Aa, V.fz, fzL, V.up, upL, Ab, Ac, Ad, slr] | simp [Ag, Aa, V.fz, fzL, V.up, upL, Ab, Ac, Ad, slr])
 try dsimp only at h
 conv => whnf
 cases h; exact (by first | rfl | simp only [Ag, Aa, V.fz, fzL, V.up, upL, Ab, Ac, Ad, slr] | simp [Ag, Aa, V.fz, fzL, V.up, upL, Ab, Ac, Ad, slr])
end Go.Proofs.Ytoaojijoefljaaa.Ax
