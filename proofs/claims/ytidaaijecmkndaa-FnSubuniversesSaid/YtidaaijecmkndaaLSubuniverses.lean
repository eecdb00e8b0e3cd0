/-
 What the functions compute, as functions on plain data, and that the program does compute it; written by program.
-/
import Derived.Test.YtidaaijecmkndaaCode
import Derived.Test.YtidaaijecmkndaaG1
import Derived.Test.YtidaaijecmkndaaG2
import Derived.Test.YtidaaijecmkndaaG3
import Derived.Test.YtidaaijecmkndaaG8
import Derived.Test.YtidaaijecmkndaaG9
import Derived.Test.YtidaaijecmkndaaG10
import Derived.Test.YtidaaijecmkndaaG11
namespace Go.Proofs.Ytidaaijecmkndaa.Ax
open Go
set_option maxRecDepth 100000
set_option maxHeartbeats 4000000
noncomputable def Bg (_code0 : List Int) (r4 : List Int × Bool) (r10 : List (List Int) × Bool) : (Int × Int) → Option ((Int × Int) ⊕ (Unit ⊕ Int)) := fun (x18, x17) =>
 if x18 < (↑r10.fst.length : Int) then
 ask ((0 : Int) ≤ x18 ∧ x18 < (↑r10.fst.length : Int)) <|
 ask (InI (x17 + (↑(nth r10.fst x18.toNat).length : Int))) <|
 ask ((0 : Int) ≤ x18 ∧ x18 < (↑r10.fst.length : Int)) <|
 (Bm (nth r10.fst x18.toNat) (r4.fst)).bind fun r32 =>
 if (r32) = true then
 ask (InI (x18 + (1 : Int))) <|
 some (.inl (x18 + (1 : Int), x17 + (↑(nth r10.fst x18.toNat).length : Int)))
 else
 some (.inr (.inl ()))
 else
 some (.inr (.inr x17))
def Fi (code0 : List Int) (r4 : List Int × Bool) (r10 : List (List Int) × Bool) : (Int × Int) → St := fun s => [(18, A.val (Af s.1)), (17, A.val (Af s.2)), (9, A.val ((slr false 1 (slr false 1 Af)) (r10.fst))), (5, A.val ((slr true 1 Af) (r4.fst))), (0, A.val ((slr false 1 (V.int IntKind.u8)) (code0)))]
def It (code0 : List Int) (r4 : List Int × Bool) (_r10 : List (List Int) × Bool) : (Unit ⊕ Int) → Tgt
 | (.inl _s) => (Ex.ret, [2], [(2, A.val (V.bool (false)))])
 | (.inr s) => ((Ex.exit 0), [17, 5, 0], [(17, A.val (Af s)), (5, A.val ((slr true 1 Af) (r4.fst))), (0, A.val ((slr false 1 (V.int IntKind.u8)) (code0)))])
theorem Pf {code0 : List Int} {r4 : List Int × Bool} {r10 : List (List Int) × Bool} (s : (Int × Int)) (o : (Int × Int) ⊕ (Unit ⊕ Int)) (h : Bg code0 r4 r10 s = some o) : vc Try.prog Ir (Dl [18, 17, 9, 5, 0] (Fi code0 r4 r10) (It code0 r4 r10) o) (Fi code0 r4 r10 s) := by
 obtain ⟨x18, x17⟩ := s
 unfold Bg at h
 try dsimp only at h
 conv => whnf
 refine Len.map ?_
 conv => whnf
 refine Br.od h (fun p28 h => ?_) (fun p28 h => ?_)
 ·conv => whnf
  refine Len.map ?_
  conv => whnf
  refine Ask.o h fun p29 h => ?_
  conv => whnf
  refine Elem.o (by first | omega | (simp [Au] at *; omega)) ?_
  conv => whnf
  refine Len.map ?_
  conv => whnf
  refine Ask.o h fun p30 h => ?_
  conv => whnf
  refine Len.map ?_
  conv => whnf
  refine Ask.o h fun p31 h => ?_
  conv => whnf
  refine Elem.o (by first | omega | (simp [Au] at *; omega)) ?_
  conv => whnf
  refine CallQ.rd V.bool (by first | rfl | simp only [V.fz, Ab, slr] | simp [Aa, V.fz, fzL, V.up, upL, Ab, Ac, Ad, slr]) (fun _ => rfl) h (fun r h => Do h) (fun r32 h => ?_)
  conv => whnf
  refine Br.flip ?_
  conv => whnf
  refine Br.ob h (fun p33 h => ?_) (fun p33 h => ?_)
  ·conv => whnf
   refine Ask.o h fun p34 h => ?_
   conv => whnf
   cases h; exact ⟨rfl, rfl⟩
  conv => whnf
  cases h; exact ⟨rfl, rfl⟩
 conv => whnf
 cases h; exact ⟨rfl, rfl⟩
noncomputable def Bs (r38 : SAlgebra × List Int × List Int) (r39 : List Int × Bool) (r45 : List Int × Bool) (r53 : List (List Int) × Bool) : Int → Option (Int ⊕ (Unit ⊕ Unit)) := fun x34 =>
 if x34 < (↑r53.fst.length : Int) then
 ((ask ((0 : Int) ≤ x34 ∧ x34 < (↑r53.fst.length : Int)) <|
 (Bm (nth r53.fst x34.toNat) (r38.snd.fst)).bind fun r67 =>
 if (r67) = true then
 ask ((0 : Int) ≤ x34 ∧ x34 < (↑r53.fst.length : Int)) <|
 (Bm (nth r53.fst x34.toNat) (r38.snd.snd)).bind fun r70 =>
 ask ((0 : Int) ≤ x34 ∧ x34 < (↑r53.fst.length : Int)) <|
 (Bm (nth r53.fst x34.toNat) (r39.fst)).bind fun r72 =>
 if (r70 == r72) = true then
 some (.inl ())
 else
 some (.inr ())
 else
 some (.inl ()) : Option (Unit ⊕ Unit))).bind fun t => match t with
 | (.inl _) => (ask ((0 : Int) ≤ x34 ∧ x34 < (↑r53.fst.length : Int)) <|
 (Bm (r38.snd.fst) (nth r53.fst x34.toNat)).bind fun r76 =>
 if (r76) = true then
 ask ((0 : Int) ≤ x34 ∧ x34 < (↑r53.fst.length : Int)) <|
 (Bm (r38.snd.snd) (nth r53.fst x34.toNat)).bind fun r79 =>
 ask ((0 : Int) ≤ x34 ∧ x34 < (↑r53.fst.length : Int)) <|
 (Bm (r45.fst) (nth r53.fst x34.toNat)).bind fun r81 =>
 if (r79 == r81) = true then
 ask (InI (x34 + (1 : Int))) <|
 some (.inl (x34 + (1 : Int)))
 else
 some (.inr (.inl ()))
 else
 ask (InI (x34 + (1 : Int))) <|
 some (.inl (x34 + (1 : Int))))
 | (.inr _) => (some (.inr (.inl ())))
 else
 some (.inr (.inr ()))
def Fq (r38 : SAlgebra × List Int × List Int) (r39 : List Int × Bool) (r45 : List Int × Bool) (r53 : List (List Int) × Bool) : Int → St := fun s => [(34, A.val (Af s)), (30, A.val ((slr true 1 (slr true 1 Af)) (r53.fst))), (26, A.val ((slr true 1 Af) (r45.fst))), (22, A.val ((slr true 1 Af) (r39.fst))), (21, A.val ((slr false 1 Af) (r38.snd.snd))), (20, A.val ((slr false 1 Af) (r38.snd.fst)))]
def Il (_r38 : SAlgebra × List Int × List Int) (_r39 : List Int × Bool) (_r45 : List Int × Bool) (_r53 : List (List Int) × Bool) : (Unit ⊕ Unit) → Tgt
 | (.inl _s) => (Ex.ret, [2], [(2, A.val (V.bool (false)))])
 | (.inr _s) => ((Ex.exit 2), [], [])
theorem Ps {r38 : SAlgebra × List Int × List Int} {r39 : List Int × Bool} {r45 : List Int × Bool} {r53 : List (List Int) × Bool} (x34 : Int) (o : Int ⊕ (Unit ⊕ Unit)) (h : Bs r38 r39 r45 r53 x34 = some o) : vc Try.prog Iu (Dl [34, 30, 26, 22, 21, 20] (Fq r38 r39 r45 r53) (Il r38 r39 r45 r53) o) (Fq r38 r39 r45 r53 x34) := by
 unfold Bs at h
 try dsimp only at h
 conv => whnf
 refine Len.map ?_
 conv => whnf
 refine Br.od h (fun p65 h => ?_) (fun p65 h => ?_)
 ·conv => whnf
  refine CutQ.o (fun t : (Unit ⊕ Unit) => match t with | (.inl s) => (Ex.normal, [34, 30, 26, 22, 21, 20], [(34, A.val (Af (x34))), (30, A.val ((slr true 1 (slr true 1 Af)) (r53.fst))), (26, A.val ((slr true 1 Af) (r45.fst))), (22, A.val ((slr true 1 Af) (r39.fst))), (21, A.val ((slr false 1 Af) (r38.snd.snd))), (20, A.val ((slr false 1 Af) (r38.snd.fst)))]) | (.inr s) => (Ex.ret, [2], [(2, A.val (V.bool (false)))])) h ?_ ?_
  ·intro t h
   conv => whnf
   refine Len.map ?_
   conv => whnf
   refine Ask.o h fun p66 h => ?_
   conv => whnf
   refine Cells.one (fun _ => ⟨rfl, rfl⟩) (by first | omega | (simp [Au] at *; omega)) ?_
   conv => whnf
   refine Kid.one (fun _ => ⟨rfl, rfl⟩) (by first | omega | (simp [Au] at *; omega)) ?_
   conv => whnf
   refine CallP.rd V.bool (by first | rfl | simp only [Aa, V.fz, V.up, Ab, slr] | simp [Aa, V.fz, fzL, V.up, upL, Ab, Ac, Ad, slr]) (fun _ => rfl) h (fun r h => Do h) (fun r67 h => ?_)
   conv => whnf
   refine Br.ob h (fun p68 h => ?_) (fun p68 h => ?_)
   ·conv => whnf
    refine Br.yes ?_
    conv => whnf
    refine Br.yes ?_
    conv => whnf
    refine Len.map ?_
    conv => whnf
    refine Ask.o h fun p69 h => ?_
    conv => whnf
    refine Br.yes ?_
    conv => whnf
    refine Cells.one (fun _ => ⟨rfl, rfl⟩) (by first | omega | (simp [Au] at *; omega)) ?_
    conv => whnf
    refine Br.yes ?_
    conv => whnf
    refine Br.yes ?_
    conv => whnf
    refine Kid.one (fun _ => ⟨rfl, rfl⟩) (by first | omega | (simp [Au] at *; omega)) ?_
    conv => whnf
    refine CallP.rd V.bool (by first | rfl | simp only [Aa, V.fz, V.up, Ab, slr] | simp [Aa, V.fz, fzL, V.up, upL, Ab, Ac, Ad, slr]) (fun _ => rfl) h (fun r h => Do h) (fun r70 h => ?_)
    conv => whnf
    refine Br.yes ?_
    conv => whnf
    refine Br.yes ?_
    conv => whnf
    refine Br.yes ?_
    conv => whnf
    refine Len.map ?_
    conv => whnf
    refine Ask.o h fun p71 h => ?_
    conv => whnf
    refine Br.yes ?_
    conv => whnf
    refine Cells.one (fun _ => ⟨rfl, rfl⟩) (by first | omega | (simp [Au] at *; omega)) ?_
    conv => whnf
    refine Br.yes ?_
    conv => whnf
    refine Br.yes ?_
    conv => whnf
    refine Kid.one (fun _ => ⟨rfl, rfl⟩) (by first | omega | (simp [Au] at *; omega)) ?_
    conv => whnf
    refine CallQ.rd V.bool (by first | rfl | simp only [Aa, V.fz, Ab, slr] | simp [Aa, V.fz, fzL, V.up, upL, Ab, Ac, Ad, slr]) (fun _ => rfl) h (fun r h => Do h) (fun r72 h => ?_)
    conv => whnf
    refine Br.yes ?_
    conv => whnf
    refine Br.yes ?_
    conv => whnf
    refine Br.flip ?_
    conv => whnf
    refine Br.ob h (fun p73 h => ?_) (fun p73 h => ?_)
    ·conv => whnf
     cases h; exact ⟨rfl, rfl⟩
    conv => whnf
    cases h; exact ⟨rfl, rfl⟩
   conv => whnf
   refine Br.no ?_
   conv => whnf
   refine Br.no ?_
   conv => whnf
   refine Br.no ?_
   conv => whnf
   refine Br.no ?_
   conv => whnf
   refine Br.no ?_
   conv => whnf
   refine Br.no ?_
   conv => whnf
   refine Br.no ?_
   conv => whnf
   refine Br.no ?_
   conv => whnf
   refine Br.no ?_
   conv => whnf
   refine Br.no ?_
   conv => whnf
   refine Br.no ?_
   conv => whnf
   refine Br.no ?_
   conv => whnf
   refine Br.no ?_
   conv => whnf
   refine Br.no ?_
   conv => whnf
   cases h; exact ⟨rfl, rfl⟩
  rintro (⟨⟩ | ⟨⟩) h
  ·try dsimp only at h
   conv => whnf
   refine Len.map ?_
   conv => whnf
   refine Ask.o h fun p75 h => ?_
   conv => whnf
   refine Cells.one (fun _ => ⟨rfl, rfl⟩) (by first | omega | (simp [Au] at *; omega)) ?_
   conv => whnf
   refine Kid.one (fun _ => ⟨rfl, rfl⟩) (by first | omega | (simp [Au] at *; omega)) ?_
   conv => whnf
   refine CallP.rd V.bool (by first | rfl | simp only [Aa, V.fz, V.up, Ab, slr] | simp [Aa, V.fz, fzL, V.up, upL, Ab, Ac, Ad, slr]) (fun _ => rfl) h (fun r h => Do h) (fun r76 h => ?_)
   conv => whnf
   refine Br.ob h (fun p77 h => ?_) (fun p77 h => ?_)
   ·conv => whnf
    refine Br.yes ?_
    conv => whnf
    refine Br.yes ?_
    conv => whnf
    refine Br.yes ?_
    conv => whnf
    refine Len.map ?_
    conv => whnf
    refine Ask.o h fun p78 h => ?_
    conv => whnf
    refine Br.yes ?_
    conv => whnf
    refine Cells.one (fun _ => ⟨rfl, rfl⟩) (by first | omega | (simp [Au] at *; omega)) ?_
    conv => whnf
    refine Br.yes ?_
    conv => whnf
    refine Kid.one (fun _ => ⟨rfl, rfl⟩) (by first | omega | (simp [Au] at *; omega)) ?_
    conv => whnf
    refine CallP.rd V.bool (by first | rfl | simp only [Aa, V.fz, V.up, Ab, slr] | simp [Aa, V.fz, fzL, V.up, upL, Ab, Ac, Ad, slr]) (fun _ => rfl) h (fun r h => Do h) (fun r79 h => ?_)
    conv => whnf
    refine Br.yes ?_
    conv => whnf
    refine Br.yes ?_
    conv => whnf
    refine Br.yes ?_
    conv => whnf
    refine Br.yes ?_
    conv => whnf
    refine Len.map ?_
    conv => whnf
    refine Ask.o h fun p80 h => ?_
    conv => whnf
    refine Br.yes ?_
    conv => whnf
    refine Cells.one (fun _ => ⟨rfl, rfl⟩) (by first | omega | (simp [Au] at *; omega)) ?_
    conv => whnf
    refine Br.yes ?_
    conv => whnf
    refine Kid.one (fun _ => ⟨rfl, rfl⟩) (by first | omega | (simp [Au] at *; omega)) ?_
    conv => whnf
    refine CallQ.rd V.bool (by first | rfl | simp only [Aa, V.fz, Ab, slr] | simp [Aa, V.fz, fzL, V.up, upL, Ab, Ac, Ad, slr]) (fun _ => rfl) h (fun r h => Do h) (fun r81 h => ?_)
    conv => whnf
    refine Br.yes ?_
    conv => whnf
    refine Br.yes ?_
    conv => whnf
    refine Br.flip ?_
    conv => whnf
    refine Br.ob h (fun p82 h => ?_) (fun p82 h => ?_)
    ·conv => whnf
     refine Ask.o h fun p83 h => ?_
     conv => whnf
     cases h; exact ⟨rfl, rfl⟩
    conv => whnf
    cases h; exact ⟨rfl, rfl⟩
   conv => whnf
   refine Br.no ?_
   conv => whnf
   refine Br.no ?_
   conv => whnf
   refine Br.no ?_
   conv => whnf
   refine Br.no ?_
   conv => whnf
   refine Br.no ?_
   conv => whnf
   refine Br.no ?_
   conv => whnf
   refine Br.no ?_
   conv => whnf
   refine Br.no ?_
   conv => whnf
   refine Br.no ?_
   conv => whnf
   refine Br.no ?_
   conv => whnf
   refine Br.no ?_
   conv => whnf
   refine Br.no ?_
   conv => whnf
   refine Br.no ?_
   conv => whnf
   refine Br.no ?_
   conv => whnf
   refine Ask.o h fun p84 h => ?_
   conv => whnf
   cases h; exact ⟨rfl, rfl⟩
  try dsimp only at h
  conv => whnf
  cases h; exact ⟨rfl, rfl⟩
 conv => whnf
 cases h; exact ⟨rfl, rfl⟩
noncomputable def Ey (code0 : (List Int)) : Option Bool :=
 (Om (code0)).bind fun r1 =>
 if (r1) = true then
 some true
 else
 (Cz (code0)).bind fun r3 =>
 (Bt (r3.fst) (r3.snd)).bind fun r4 =>
 (((Cc (r3.fst) (r3.snd)).bind fun r5 =>
 if (r4.snd == r5.snd) = true then
 (Bw (r4.fst) (r5.fst)).bind fun r7 =>
 if (r7) = true then
 some (.inl ())
 else
 some (.inr ())
 else
 some (.inr ()) : Option (Unit ⊕ Unit))).bind fun t => match t with
 | (.inl _) => ((Bn (r3.fst) (r3.snd)).bind fun r10 =>
 (((Bp (r3.fst) (r3.snd)).bind fun r11 =>
 if (r10.snd == r11.snd) = true then
 if (r10.snd == r4.snd) = true then
 (Dn (r10.fst) (r11.fst)).bind fun r14 =>
 if (r14) = true then
 some (.inl ())
 else
 some (.inr ())
 else
 some (.inr ())
 else
 some (.inr ()) : Option (Unit ⊕ Unit))).bind fun t => match t with
 | (.inl _) => (((if (r4.snd) = true then
 (Bt (r3.fst) (r4.fst)).bind fun r18 =>
 (Co (r3.fst) (r4.fst)).bind fun r19 =>
 ((if (r18.snd) = true then
 if (r19.snd) = true then
 if (r19.fst) = true then
 (Bw (r18.fst) (r4.fst)).bind fun r23 =>
 if (r23) = true then
 (Bm (r3.snd) (r4.fst)).bind fun r25 =>
 if (r25) = true then
 some (.inl ())
 else
 some (.inr ())
 else
 some (.inr ())
 else
 some (.inr ())
 else
 some (.inr ())
 else
 some (.inr ()) : Option (Unit ⊕ Unit))).bind fun t => match t with
 | (.inl _) => ((Ap (Bg code0 r4 r10) ((0 : Int), (0 : Int))).bind fun t => match t with
 | (.inl _) => (some (.inl ()))
 | (.inr q35_17) => (if q35_17 ≠ (↑r4.fst.length : Int) then
 some (.inl ())
 else
 some (.inr ())))
 | (.inr _) => (some (.inl ()))
 else
 some (.inr ()) : Option (Unit ⊕ Unit))).bind fun t => match t with
 | (.inl _) => (some false)
 | (.inr _) => ((D8 (code0)).bind fun r38 =>
 (Gs (r38.fst) (r38.snd.fst) (r38.snd.snd)).bind fun r39 =>
 (((Gj (r38.fst) (r38.snd.fst) (r38.snd.snd)).bind fun r40 =>
 if (r39.snd == r40.snd) = true then
 (Bw (r39.fst) (r40.fst)).bind fun r42 =>
 if (r42) = true then
 some (.inl ())
 else
 some (.inr ())
 else
 some (.inr ()) : Option (Unit ⊕ Unit))).bind fun t => match t with
 | (.inl _) => ((Gk (r38.fst) (r38.snd.fst) (r38.snd.snd)).bind fun r45 =>
 (((Gl (r38.fst) (r38.snd.fst) (r38.snd.snd)).bind fun r46 =>
 if (r45.snd == r46.snd) = true then
 if (r45.snd == r39.snd) = true then
 (Bw (r45.fst) (r46.fst)).bind fun r49 =>
 if (r49) = true then
 some (.inl ())
 else
 some (.inr ())
 else
 some (.inr ())
 else
 some (.inr ()) : Option (Unit ⊕ Unit))).bind fun t => match t with
 | (.inl _) => (if (r39.snd) = true then
 (C0 (r38.fst)).bind fun r53 =>
 (((Cy (r38.fst)).bind fun r54 =>
 if (r53.snd == r54.snd) = true then
 if (r53.snd) = true then
 (Dn (r53.fst) (r54.fst)).bind fun r57 =>
 if (r57) = true then
 some (.inl ())
 else
 some (.inr ())
 else
 some (.inr ())
 else
 some (.inr ()) : Option (Unit ⊕ Unit))).bind fun t => match t with
 | (.inl _) => ((((Gv (r53.fst) (r39.fst)).bind fun r60 =>
 if r60 < (0 : Int) then
 some (.inl ())
 else
 (Gv (r53.fst) (r45.fst)).bind fun r62 =>
 if r62 < (0 : Int) then
 some (.inl ())
 else
 some (.inr ()) : Option (Unit ⊕ Unit))).bind fun t => match t with
 | (.inl _) => (some false)
 | (.inr _) => ((Ap (Bs r38 r39 r45 r53) (0 : Int)).bind fun t => match t with
 | (.inl _) => (some false)
 | (.inr _) => (some true)))
 | (.inr _) => (some false)
 else
 some true)
 | (.inr _) => (some false))
 | (.inr _) => (some false)))
 | (.inr _) => (some false))
 | (.inr _) => (some false)
theorem S8 {code0 : (List Int)} {v : Bool} (h : Ey code0 = some v) : Ret Try.prog J6 [(slr false 1 (V.int IntKind.u8)) code0] (V.bool v) := by
 refine A7 Tb (Nat.le_of_ble_eq_true rfl) ?_
 unfold Ey at h
 conv => whnf
 refine CallQ.o V.bool (by first | rfl | simp only [Aa, V.fz, fzL, V.up, upL, Ab, Ac, Ad, slr, List.cons_append, List.nil_append] | simp [Aa, V.fz, fzL, V.up, upL, Ab, Ac, Ad, slr]) h (fun r h => Al4 h) (fun r1 h => ?_)
 conv => whnf
 refine Br.ob h (fun p2 h => ?_) (fun p2 h => ?_)
 ·conv => whnf
  cases h; exact (by first | rfl | simp only [Ag, Aa, V.fz, fzL, V.up, upL, Ab, Ac, Ad, slr] | simp [Ag, Aa, V.fz, fzL, V.up, upL, Ab, Ac, Ad, slr])
 conv => whnf
 refine CallQ.o (fun r => V.tup [(Ah false) r.1, (slr false 1 Af) r.2]) (by first | rfl | simp only [Aa, V.fz, fzL, V.up, upL, Ab, Ac, Ad, slr, List.cons_append, List.nil_append] | simp [Aa, V.fz, fzL, V.up, upL, Ab, Ac, Ad, slr]) h (fun r h => R4 h) (fun r3 h => ?_)
 conv => whnf
 refine SetKids.lit rfl ?_
 conv => whnf
 refine Cells.lit rfl rfl ?_
 conv => whnf
 refine CallQ.o (fun r => V.tup [(slr true 1 Af) r.1, V.bool r.2]) (by first | rfl | simp only [Aa, V.fz, fzL, V.up, upL, Ab, Ac, Ad, slr, List.cons_append, List.nil_append] | simp [Aa, V.fz, fzL, V.up, upL, Ab, Ac, Ad, slr]) h (fun r h => N4 h) (fun r4 h => ?_)
 conv => whnf
 refine CutQ.o (fun t : (Unit ⊕ Unit) => match t with | (.inl s) => (Ex.normal, [6, 5, 4, 3, 0], [(6, A.val (V.bool (r4.snd))), (5, A.val ((slr true 1 Af) (r4.fst))), (4, A.val ((slr false 1 Af) (r3.snd))), (3, A.val ((rP true (Ah false)) (r3.fst))), (0, A.val ((slr false 1 (V.int IntKind.u8)) (code0)))]) | (.inr s) => (Ex.ret, [2], [(2, A.val (V.bool (false)))])) h ?_ ?_
 ·intro t h
  conv => whnf
  refine Cells.lit rfl rfl ?_
  conv => whnf
  refine CallQ.o (fun r => V.tup [(slr true 1 Af) r.1, V.bool r.2]) (by first | rfl | simp only [Aa, V.fz, fzL, V.up, upL, Ab, Ac, Ad, slr, List.cons_append, List.nil_append] | simp [Aa, V.fz, fzL, V.up, upL, Ab, Ac, Ad, slr]) h (fun r h => W8 h) (fun r5 h => ?_)
  conv => whnf
  refine Br.flip ?_
  conv => whnf
  refine Br.ob h (fun p6 h => ?_) (fun p6 h => ?_)
  ·conv => whnf
   refine Br.no ?_
   conv => whnf
   refine Br.no ?_
   conv => whnf
   refine CallQ.rd V.bool (by first | rfl | simp only [V.fz, Ab, slr] | simp [Aa, V.fz, fzL, V.up, upL, Ab, Ac, Ad, slr]) (fun _ => rfl) h (fun r h => Hz h) (fun r7 h => ?_)
   conv => whnf
   refine Br.no ?_
   conv => whnf
   refine Br.no ?_
   conv => whnf
   refine Br.flip ?_
   conv => whnf
   refine Br.ob h (fun p8 h => ?_) (fun p8 h => ?_)
   ·conv => whnf
    cases h; exact ⟨rfl, rfl⟩
   conv => whnf
   cases h; exact ⟨rfl, rfl⟩
  conv => whnf
  refine Br.yes ?_
  conv => whnf
  refine Br.yes ?_
  conv => whnf
  refine Br.yes ?_
  conv => whnf
  refine Br.yes ?_
  conv => whnf
  refine Br.yes ?_
  conv => whnf
  cases h; exact ⟨rfl, rfl⟩
 rintro (⟨⟩ | ⟨⟩) h
 ·try dsimp only at h
  conv => whnf
  refine Cells.lit rfl rfl ?_
  conv => whnf
  refine CallQ.o (fun r => V.tup [(slr false 1 (slr false 1 Af)) r.1, V.bool r.2]) (by first | rfl | simp only [Aa, V.fz, fzL, V.up, upL, Ab, Ac, Ad, slr, List.cons_append, List.nil_append] | simp [Aa, V.fz, fzL, V.up, upL, Ab, Ac, Ad, slr]) h (fun r h => Qm h) (fun r10 h => ?_)
  conv => whnf
  refine CutQ.o (fun t : (Unit ⊕ Unit) => match t with | (.inl s) => (Ex.normal, [9, 6, 5, 4, 3, 0], [(9, A.val ((slr false 1 (slr false 1 Af)) (r10.fst))), (6, A.val (V.bool (r4.snd))), (5, A.val ((slr true 1 Af) (r4.fst))), (4, A.val ((slr false 1 Af) (r3.snd))), (3, A.val ((rP true (Ah false)) (r3.fst))), (0, A.val ((slr false 1 (V.int IntKind.u8)) (code0)))]) | (.inr s) => (Ex.ret, [2], [(2, A.val (V.bool (false)))])) h ?_ ?_
  ·intro t h
   conv => whnf
   refine Cells.lit rfl rfl ?_
   conv => whnf
   refine CallQ.o (fun r => V.tup [(slr true 1 (slr true 1 Af)) r.1, V.bool r.2]) (by first | rfl | simp only [Aa, V.fz, fzL, V.up, upL, Ab, Ac, Ad, slr, List.cons_append, List.nil_append] | simp [Aa, V.fz, fzL, V.up, upL, Ab, Ac, Ad, slr]) h (fun r h => P7 h) (fun r11 h => ?_)
   conv => whnf
   refine Br.flip ?_
   conv => whnf
   refine Br.ob h (fun p12 h => ?_) (fun p12 h => ?_)
   ·conv => whnf
    refine Br.no ?_
    conv => whnf
    refine Br.no ?_
    conv => whnf
    refine Br.no ?_
    conv => whnf
    refine Br.flip ?_
    conv => whnf
    refine Br.ob h (fun p13 h => ?_) (fun p13 h => ?_)
    ·conv => whnf
     refine Br.no ?_
     conv => whnf
     refine Br.no ?_
     conv => whnf
     refine CallQ.rd V.bool (by first | rfl | simp only [V.fz, V.up, Ab, slr] | simp [Aa, V.fz, fzL, V.up, upL, Ab, Ac, Ad, slr]) (fun _ => rfl) h (fun r h => V5 h) (fun r14 h => ?_)
     conv => whnf
     refine Br.no ?_
     conv => whnf
     refine Br.no ?_
     conv => whnf
     refine Br.flip ?_
     conv => whnf
     refine Br.ob h (fun p15 h => ?_) (fun p15 h => ?_)
     ·conv => whnf
      cases h; exact ⟨rfl, rfl⟩
     conv => whnf
     cases h; exact ⟨rfl, rfl⟩
    conv => whnf
    refine Br.yes ?_
    conv => whnf
    refine Br.yes ?_
    conv => whnf
    refine Br.yes ?_
    conv => whnf
    refine Br.yes ?_
    conv => whnf
    refine Br.yes ?_
    conv => whnf
    cases h; exact ⟨rfl, rfl⟩
   conv => whnf
   refine Br.yes ?_
   conv => whnf
   refine Br.yes ?_
   conv => whnf
   refine Br.yes ?_
   conv => whnf
   refine Br.yes ?_
   conv => whnf
   refine Br.yes ?_
   conv => whnf
   refine Br.yes ?_
   conv => whnf
   refine Br.yes ?_
   conv => whnf
   refine Br.yes ?_
   conv => whnf
   refine Br.yes ?_
   conv => whnf
   cases h; exact ⟨rfl, rfl⟩
  rintro (⟨⟩ | ⟨⟩) h
  ·try dsimp only at h
   conv => whnf
   refine CutQ.o (fun t : (Unit ⊕ Unit) => match t with | (.inl s) => (Ex.ret, [2], [(2, A.val (V.bool (false)))]) | (.inr s) => (Ex.normal, [0], [(0, A.val ((slr false 1 (V.int IntKind.u8)) (code0)))])) h ?_ ?_
   ·intro t h
    conv => whnf
    refine Br.ob h (fun p17 h => ?_) (fun p17 h => ?_)
    ·conv => whnf
     refine Cells.lit rfl rfl ?_
     conv => whnf
     refine CallQ.rd (fun r => V.tup [(slr true 1 Af) r.1, V.bool r.2]) (by first | rfl | simp only [V.fz, fzL, Ab, slr] | simp [Aa, V.fz, fzL, V.up, upL, Ab, Ac, Ad, slr]) (fun _ => by simp [V.noFz, B7, Bo]) h (fun r h => N4 h) (fun r18 h => ?_)
     conv => whnf
     refine Cells.lit rfl rfl ?_
     conv => whnf
     refine CallQ.rd (fun r => V.tup [V.bool r.1, V.bool r.2]) (by first | rfl | simp only [V.fz, fzL, Ab, slr] | simp [Aa, V.fz, fzL, V.up, upL, Ab, Ac, Ad, slr]) (fun _ => by simp [V.noFz, B7]) h (fun r h => Ue h) (fun r19 h => ?_)
     conv => whnf
     refine CutQ.o (fun t : (Unit ⊕ Unit) => match t with | (.inl s) => (Ex.normal, [9, 5, 0], [(9, A.val ((slr false 1 (slr false 1 Af)) (r10.fst))), (5, A.val ((slr true 1 Af) (r4.fst))), (0, A.val ((slr false 1 (V.int IntKind.u8)) (code0)))]) | (.inr s) => (Ex.ret, [2], [(2, A.val (V.bool (false)))])) h ?_ ?_
     ·intro t h
      conv => whnf
      refine Br.flip ?_
      conv => whnf
      refine Br.ob h (fun p20 h => ?_) (fun p20 h => ?_)
      ·conv => whnf
       refine Br.no ?_
       conv => whnf
       refine Br.no ?_
       conv => whnf
       refine Br.flip ?_
       conv => whnf
       refine Br.ob h (fun p21 h => ?_) (fun p21 h => ?_)
       ·conv => whnf
        refine Br.no ?_
        conv => whnf
        refine Br.no ?_
        conv => whnf
        refine Br.flip ?_
        conv => whnf
        refine Br.ob h (fun p22 h => ?_) (fun p22 h => ?_)
        ·conv => whnf
         refine Br.no ?_
         conv => whnf
         refine Br.no ?_
         conv => whnf
         refine CallQ.rd V.bool (by first | rfl | simp only [V.fz, Ab, slr] | simp [Aa, V.fz, fzL, V.up, upL, Ab, Ac, Ad, slr]) (fun _ => rfl) h (fun r h => Hz h) (fun r23 h => ?_)
         conv => whnf
         refine Br.no ?_
         conv => whnf
         refine Br.no ?_
         conv => whnf
         refine Br.flip ?_
         conv => whnf
         refine Br.ob h (fun p24 h => ?_) (fun p24 h => ?_)
         ·conv => whnf
          refine Br.no ?_
          conv => whnf
          refine Br.no ?_
          conv => whnf
          refine CallQ.rd V.bool (by first | rfl | simp only [V.fz, V.up, Ab, slr] | simp [Aa, V.fz, fzL, V.up, upL, Ab, Ac, Ad, slr]) (fun _ => rfl) h (fun r h => Do h) (fun r25 h => ?_)
          conv => whnf
          refine Br.no ?_
          conv => whnf
          refine Br.no ?_
          conv => whnf
          refine Br.flip ?_
          conv => whnf
          refine Br.ob h (fun p26 h => ?_) (fun p26 h => ?_)
          ·conv => whnf
           cases h; exact ⟨rfl, rfl⟩
          conv => whnf
          cases h; exact ⟨rfl, rfl⟩
         conv => whnf
         refine Br.yes ?_
         conv => whnf
         refine Br.yes ?_
         conv => whnf
         refine Br.yes ?_
         conv => whnf
         refine Br.yes ?_
         conv => whnf
         refine Br.yes ?_
         conv => whnf
         cases h; exact ⟨rfl, rfl⟩
        conv => whnf
        refine Br.yes ?_
        conv => whnf
        refine Br.yes ?_
        conv => whnf
        refine Br.yes ?_
        conv => whnf
        refine Br.yes ?_
        conv => whnf
        refine Br.yes ?_
        conv => whnf
        refine Br.yes ?_
        conv => whnf
        refine Br.yes ?_
        conv => whnf
        refine Br.yes ?_
        conv => whnf
        refine Br.yes ?_
        conv => whnf
        refine Br.yes ?_
        conv => whnf
        cases h; exact ⟨rfl, rfl⟩
       conv => whnf
       refine Br.yes ?_
       conv => whnf
       refine Br.yes ?_
       conv => whnf
       refine Br.yes ?_
       conv => whnf
       refine Br.yes ?_
       conv => whnf
       refine Br.yes ?_
       conv => whnf
       refine Br.yes ?_
       conv => whnf
       refine Br.yes ?_
       conv => whnf
       refine Br.yes ?_
       conv => whnf
       refine Br.yes ?_
       conv => whnf
       refine Br.yes ?_
       conv => whnf
       refine Br.yes ?_
       conv => whnf
       refine Br.yes ?_
       conv => whnf
       refine Br.yes ?_
       conv => whnf
       cases h; exact ⟨rfl, rfl⟩
      conv => whnf
      refine Br.yes ?_
      conv => whnf
      refine Br.yes ?_
      conv => whnf
      refine Br.yes ?_
      conv => whnf
      refine Br.yes ?_
      conv => whnf
      refine Br.yes ?_
      conv => whnf
      refine Br.yes ?_
      conv => whnf
      refine Br.yes ?_
      conv => whnf
      refine Br.yes ?_
      conv => whnf
      refine Br.yes ?_
      conv => whnf
      refine Br.yes ?_
      conv => whnf
      refine Br.yes ?_
      conv => whnf
      refine Br.yes ?_
      conv => whnf
      refine Br.yes ?_
      conv => whnf
      refine Br.yes ?_
      conv => whnf
      refine Br.yes ?_
      conv => whnf
      refine Br.yes ?_
      conv => whnf
      cases h; exact ⟨rfl, rfl⟩
     rintro (⟨⟩ | ⟨⟩) h
     ·try dsimp only at h
      conv => whnf
      refine LoopQ.o [18, 17, 9, 5, 0] (Fi code0 r4 r10) (It code0 r4 r10) h (fun s o h => Pf s o h) (by first | rfl | simp [restrict, look, Aa, V.fz, fzL, V.up, upL, Ab, Ac, Ad, slr]) (by rintro (_ | _) <;> rfl) ?_
      rintro (⟨⟩ | q35_17) h
      ·try dsimp only at h
       conv => whnf
       cases h; exact ⟨rfl, rfl⟩
      try dsimp only at h
      conv => whnf
      refine Len.map ?_
      conv => whnf
      refine Br.on h (fun p36 h => ?_) (fun p36 h => ?_)
      ·conv => whnf
       cases h; exact ⟨rfl, rfl⟩
      conv => whnf
      cases h; exact ⟨rfl, rfl⟩
     try dsimp only at h
     conv => whnf
     cases h; exact ⟨rfl, rfl⟩
    conv => whnf
    cases h; exact ⟨rfl, rfl⟩
   rintro (⟨⟩ | ⟨⟩) h
   ·try dsimp only at h
    conv => whnf
    cases h; exact (by first | rfl | simp only [Ag, Aa, V.fz, fzL, V.up, upL, Ab, Ac, Ad, slr] | simp [Ag, Aa, V.fz, fzL, V.up, upL, Ab, Ac, Ad, slr])
   try dsimp only at h
   conv => whnf
   refine CallQ.o (fun r => V.tup [(Ah false) r.1, (slr false 1 Af) r.2.1, (slr false 1 Af) r.2.2]) (by first | rfl | simp only [Aa, V.fz, fzL, V.up, upL, Ab, Ac, Ad, slr, List.cons_append, List.nil_append] | simp [Aa, V.fz, fzL, V.up, upL, Ab, Ac, Ad, slr]) h (fun r h => Vj h) (fun r38 h => ?_)
   conv => whnf
   refine SetKids.lit rfl ?_
   conv => whnf
   refine Cells.lit rfl rfl ?_
   conv => whnf
   refine CallQ.o (fun r => V.tup [(slr true 1 Af) r.1, V.bool r.2]) (by first | rfl | simp only [Aa, V.fz, fzL, V.up, upL, Ab, Ac, Ad, slr, List.cons_append, List.nil_append] | simp [Aa, V.fz, fzL, V.up, upL, Ab, Ac, Ad, slr]) h (fun r h => Abi h) (fun r39 h => ?_)
   conv => whnf
   refine CutQ.o (fun t : (Unit ⊕ Unit) => match t with | (.inl s) => (Ex.normal, [23, 22, 21, 20, 19], [(23, A.val (V.bool (r39.snd))), (22, A.val ((slr true 1 Af) (r39.fst))), (21, A.val ((slr false 1 Af) (r38.snd.snd))), (20, A.val ((slr false 1 Af) (r38.snd.fst))), (19, A.val ((rP true (Ah false)) (r38.fst)))]) | (.inr s) => (Ex.ret, [2], [(2, A.val (V.bool (false)))])) h ?_ ?_
   ·intro t h
    conv => whnf
    refine Cells.lit rfl rfl ?_
    conv => whnf
    refine CallQ.o (fun r => V.tup [(slr true 1 Af) r.1, V.bool r.2]) (by first | rfl | simp only [Aa, V.fz, fzL, V.up, upL, Ab, Ac, Ad, slr, List.cons_append, List.nil_append] | simp [Aa, V.fz, fzL, V.up, upL, Ab, Ac, Ad, slr]) h (fun r h => Ab7 h) (fun r40 h => ?_)
    conv => whnf
    refine Br.flip ?_
    conv => whnf
    refine Br.ob h (fun p41 h => ?_) (fun p41 h => ?_)
    ·conv => whnf
     refine Br.no ?_
     conv => whnf
     refine Br.no ?_
     conv => whnf
     refine CallQ.rd V.bool (by first | rfl | simp only [V.fz, Ab, slr] | simp [Aa, V.fz, fzL, V.up, upL, Ab, Ac, Ad, slr]) (fun _ => rfl) h (fun r h => Hz h) (fun r42 h => ?_)
     conv => whnf
     refine Br.no ?_
     conv => whnf
     refine Br.no ?_
     conv => whnf
     refine Br.flip ?_
     conv => whnf
     refine Br.ob h (fun p43 h => ?_) (fun p43 h => ?_)
     ·conv => whnf
      cases h; exact ⟨rfl, rfl⟩
     conv => whnf
     cases h; exact ⟨rfl, rfl⟩
    conv => whnf
    refine Br.yes ?_
    conv => whnf
    refine Br.yes ?_
    conv => whnf
    refine Br.yes ?_
    conv => whnf
    refine Br.yes ?_
    conv => whnf
    refine Br.yes ?_
    conv => whnf
    cases h; exact ⟨rfl, rfl⟩
   rintro (⟨⟩ | ⟨⟩) h
   ·try dsimp only at h
    conv => whnf
    refine Cells.lit rfl rfl ?_
    conv => whnf
    refine CallQ.o (fun r => V.tup [(slr true 1 Af) r.1, V.bool r.2]) (by first | rfl | simp only [Aa, V.fz, fzL, V.up, upL, Ab, Ac, Ad, slr, List.cons_append, List.nil_append] | simp [Aa, V.fz, fzL, V.up, upL, Ab, Ac, Ad, slr]) h (fun r h => Aby h) (fun r45 h => ?_)
    conv => whnf
    refine CutQ.o (fun t : (Unit ⊕ Unit) => match t with | (.inl s) => (Ex.normal, [26, 23, 22, 21, 20, 19], [(26, A.val ((slr true 1 Af) (r45.fst))), (23, A.val (V.bool (r39.snd))), (22, A.val ((slr true 1 Af) (r39.fst))), (21, A.val ((slr false 1 Af) (r38.snd.snd))), (20, A.val ((slr false 1 Af) (r38.snd.fst))), (19, A.val ((rP true (Ah false)) (r38.fst)))]) | (.inr s) => (Ex.ret, [2], [(2, A.val (V.bool (false)))])) h ?_ ?_
    ·intro t h
     conv => whnf
     refine Cells.lit rfl rfl ?_
     conv => whnf
     refine CallQ.o (fun r => V.tup [(slr true 1 Af) r.1, V.bool r.2]) (by first | rfl | simp only [Aa, V.fz, fzL, V.up, upL, Ab, Ac, Ad, slr, List.cons_append, List.nil_append] | simp [Aa, V.fz, fzL, V.up, upL, Ab, Ac, Ad, slr]) h (fun r h => Ab5 h) (fun r46 h => ?_)
     conv => whnf
     refine Br.flip ?_
     conv => whnf
     refine Br.ob h (fun p47 h => ?_) (fun p47 h => ?_)
     ·conv => whnf
      refine Br.no ?_
      conv => whnf
      refine Br.no ?_
      conv => whnf
      refine Br.no ?_
      conv => whnf
      refine Br.flip ?_
      conv => whnf
      refine Br.ob h (fun p48 h => ?_) (fun p48 h => ?_)
      ·conv => whnf
       refine Br.no ?_
       conv => whnf
       refine Br.no ?_
       conv => whnf
       refine CallQ.rd V.bool (by first | rfl | simp only [V.fz, Ab, slr] | simp [Aa, V.fz, fzL, V.up, upL, Ab, Ac, Ad, slr]) (fun _ => rfl) h (fun r h => Hz h) (fun r49 h => ?_)
       conv => whnf
       refine Br.no ?_
       conv => whnf
       refine Br.no ?_
       conv => whnf
       refine Br.flip ?_
       conv => whnf
       refine Br.ob h (fun p50 h => ?_) (fun p50 h => ?_)
       ·conv => whnf
        cases h; exact ⟨rfl, rfl⟩
       conv => whnf
       cases h; exact ⟨rfl, rfl⟩
      conv => whnf
      refine Br.yes ?_
      conv => whnf
      refine Br.yes ?_
      conv => whnf
      refine Br.yes ?_
      conv => whnf
      refine Br.yes ?_
      conv => whnf
      refine Br.yes ?_
      conv => whnf
      cases h; exact ⟨rfl, rfl⟩
     conv => whnf
     refine Br.yes ?_
     conv => whnf
     refine Br.yes ?_
     conv => whnf
     refine Br.yes ?_
     conv => whnf
     refine Br.yes ?_
     conv => whnf
     refine Br.yes ?_
     conv => whnf
     refine Br.yes ?_
     conv => whnf
     refine Br.yes ?_
     conv => whnf
     refine Br.yes ?_
     conv => whnf
     refine Br.yes ?_
     conv => whnf
     cases h; exact ⟨rfl, rfl⟩
    rintro (⟨⟩ | ⟨⟩) h
    ·try dsimp only at h
     conv => whnf
     refine Br.ob h (fun p52 h => ?_) (fun p52 h => ?_)
     ·conv => whnf
      refine Cells.lit rfl rfl ?_
      conv => whnf
      refine CallQ.o (fun r => V.tup [(slr true 1 (slr true 1 Af)) r.1, V.bool r.2]) (by first | rfl | simp only [Aa, V.fz, fzL, V.up, upL, Ab, Ac, Ad, slr, List.cons_append, List.nil_append] | simp [Aa, V.fz, fzL, V.up, upL, Ab, Ac, Ad, slr]) h (fun r h => R6 h) (fun r53 h => ?_)
      conv => whnf
      refine CutQ.o (fun t : (Unit ⊕ Unit) => match t with | (.inl s) => (Ex.normal, [30, 26, 22, 21, 20], [(30, A.val ((slr true 1 (slr true 1 Af)) (r53.fst))), (26, A.val ((slr true 1 Af) (r45.fst))), (22, A.val ((slr true 1 Af) (r39.fst))), (21, A.val ((slr false 1 Af) (r38.snd.snd))), (20, A.val ((slr false 1 Af) (r38.snd.fst)))]) | (.inr s) => (Ex.ret, [2], [(2, A.val (V.bool (false)))])) h ?_ ?_
      ·intro t h
       conv => whnf
       refine Cells.lit rfl rfl ?_
       conv => whnf
       refine CallQ.o (fun r => V.tup [(slr false 1 (slr false 1 Af)) r.1, V.bool r.2]) (by first | rfl | simp only [Aa, V.fz, fzL, V.up, upL, Ab, Ac, Ad, slr, List.cons_append, List.nil_append] | simp [Aa, V.fz, fzL, V.up, upL, Ab, Ac, Ad, slr]) h (fun r h => Sj h) (fun r54 h => ?_)
       conv => whnf
       refine Br.flip ?_
       conv => whnf
       refine Br.ob h (fun p55 h => ?_) (fun p55 h => ?_)
       ·conv => whnf
        refine Br.no ?_
        conv => whnf
        refine Br.no ?_
        conv => whnf
        refine Br.flip ?_
        conv => whnf
        refine Br.ob h (fun p56 h => ?_) (fun p56 h => ?_)
        ·conv => whnf
         refine Br.no ?_
         conv => whnf
         refine Br.no ?_
         conv => whnf
         refine CallQ.rd V.bool (by first | rfl | simp only [V.fz, V.up, Ab, slr] | simp [Aa, V.fz, fzL, V.up, upL, Ab, Ac, Ad, slr]) (fun _ => rfl) h (fun r h => V5 h) (fun r57 h => ?_)
         conv => whnf
         refine Br.no ?_
         conv => whnf
         refine Br.no ?_
         conv => whnf
         refine Br.flip ?_
         conv => whnf
         refine Br.ob h (fun p58 h => ?_) (fun p58 h => ?_)
         ·conv => whnf
          cases h; exact ⟨rfl, rfl⟩
         conv => whnf
         cases h; exact ⟨rfl, rfl⟩
        conv => whnf
        refine Br.yes ?_
        conv => whnf
        refine Br.yes ?_
        conv => whnf
        refine Br.yes ?_
        conv => whnf
        refine Br.yes ?_
        conv => whnf
        refine Br.yes ?_
        conv => whnf
        cases h; exact ⟨rfl, rfl⟩
       conv => whnf
       refine Br.yes ?_
       conv => whnf
       refine Br.yes ?_
       conv => whnf
       refine Br.yes ?_
       conv => whnf
       refine Br.yes ?_
       conv => whnf
       refine Br.yes ?_
       conv => whnf
       refine Br.yes ?_
       conv => whnf
       refine Br.yes ?_
       conv => whnf
       refine Br.yes ?_
       conv => whnf
       cases h; exact ⟨rfl, rfl⟩
      rintro (⟨⟩ | ⟨⟩) h
      ·try dsimp only at h
       conv => whnf
       refine CutQ.o (fun t : (Unit ⊕ Unit) => match t with | (.inl s) => (Ex.ret, [2], [(2, A.val (V.bool (false)))]) | (.inr s) => (Ex.normal, [30, 26, 22, 21, 20], [(30, A.val ((slr true 1 (slr true 1 Af)) (r53.fst))), (26, A.val ((slr true 1 Af) (r45.fst))), (22, A.val ((slr true 1 Af) (r39.fst))), (21, A.val ((slr false 1 Af) (r38.snd.snd))), (20, A.val ((slr false 1 Af) (r38.snd.fst)))])) h ?_ ?_
       ·intro t h
        conv => whnf
        refine CallQ.rd Af (by first | rfl | simp only [V.fz, Ab, slr] | simp [Aa, V.fz, fzL, V.up, upL, Ab, Ac, Ad, slr]) (fun _ => rfl) h (fun r h => Vy h) (fun r60 h => ?_)
        conv => whnf
        refine Br.od h (fun p61 h => ?_) (fun p61 h => ?_)
        ·conv => whnf
         refine Br.yes ?_
         conv => whnf
         refine Br.yes ?_
         conv => whnf
         refine Br.yes ?_
         conv => whnf
         refine Br.yes ?_
         conv => whnf
         refine Br.yes ?_
         conv => whnf
         cases h; exact ⟨rfl, rfl⟩
        conv => whnf
        refine Br.no ?_
        conv => whnf
        refine Br.no ?_
        conv => whnf
        refine CallQ.rd Af (by first | rfl | simp only [V.fz, Ab, slr] | simp [Aa, V.fz, fzL, V.up, upL, Ab, Ac, Ad, slr]) (fun _ => rfl) h (fun r h => Vy h) (fun r62 h => ?_)
        conv => whnf
        refine Br.no ?_
        conv => whnf
        refine Br.no ?_
        conv => whnf
        refine Br.od h (fun p63 h => ?_) (fun p63 h => ?_)
        ·conv => whnf
         cases h; exact ⟨rfl, rfl⟩
        conv => whnf
        cases h; exact ⟨rfl, rfl⟩
       rintro (⟨⟩ | ⟨⟩) h
       ·try dsimp only at h
        conv => whnf
        cases h; exact (by first | rfl | simp only [Ag, Aa, V.fz, fzL, V.up, upL, Ab, Ac, Ad, slr] | simp [Ag, Aa, V.fz, fzL, V.up, upL, Ab, Ac, Ad, slr])
       try dsimp only at h
       conv => whnf
       refine LoopQ.o [34, 30, 26, 22, 21, 20] (Fq r38 r39 r45 r53) (Il r38 r39 r45 r53) h (fun s o h => Ps s o h) (by first | rfl | simp [restrict, look, Aa, V.fz, fzL, V.up, upL, Ab, Ac, Ad, slr]) (by rintro (_ | _) <;> rfl) ?_
       rintro (⟨⟩ | ⟨⟩) h
       ·try dsimp only at h
        conv => whnf
        cases h; exact (by first | rfl | simp only [Ag, Aa, V.fz, fzL, V.up, upL, Ab, Ac, Ad, slr] | simp [Ag, Aa, V.fz, fzL, V.up, upL, Ab, Ac, Ad, slr])
       try dsimp only at h
       conv => whnf
       cases h; exact (by first | rfl | simp only [Ag, Aa, V.fz, fzL, V.up, upL, Ab, Ac, Ad, slr] | simp [Ag, Aa, V.fz, fzL, V.up, upL, Ab, Ac, Ad, slr])
      try dsimp only at h
      conv => whnf
      cases h; exact (by first | rfl | simp only [Ag, Aa, V.fz, fzL, V.up, upL, Ab, Ac, Ad, slr] | simp [Ag, Aa, V.fz, fzL, V.up, upL, Ab, Ac, Ad, slr])
     conv => whnf
     cases h; exact (by first | rfl | simp only [Ag, Aa, V.fz, fzL, V.up, upL, Ab, Ac, Ad, slr] | simp [Ag, Aa, V.fz, fzL, V.up, upL, Ab, Ac, Ad, slr])
    try dsimp only at h
    conv => whnf
    cases h; exact (by first | rfl | simp only [Ag, Aa, V.fz, fzL, V.up, upL, Ab, Ac, Ad, slr] | simp [Ag, Aa, V.fz, fzL, V.up, upL, Ab, Ac, Ad, slr])
   try dsimp only at h
   conv => whnf
   cases h; exact (by first | rfl | simp only [Ag, Aa, V.fz, fzL, V.up, upL, Ab, Ac, Ad, slr] | simp [Ag, Aa, V.fz, fzL, V.up, upL, Ab, Ac, Ad, slr])
  try dsimp only at h
  conv => whnf
  cases h; exact (by first | rfl | simp only [Ag, Aa, V.fz, fzL, V.up, upL, Ab, Ac, Ad, slr] | simp [Ag, Aa, V.fz, fzL, V.up, upL, Ab, Ac, Ad, slr])
 try dsimp only at h
 conv => whnf
 cases h; exact (by first | rfl | simp only [Ag, Aa, V.fz, fzL, V.up, upL, Ab, Ac, Ad, slr] | simp [Ag, Aa, V.fz, fzL, V.up, upL, Ab, Ac, Ad, slr])
end Go.Proofs.Ytidaaijecmkndaa.Ax
