/-
 What the functions compute, as functions on plain data, and that the program does compute it; written by program.
-/
import Derived.Test.YtiakjbigaaanhaaCode
import Derived.Test.YtiakjbigaaanhaaG1
import Derived.Test.YtiakjbigaaanhaaG9
import Derived.Test.YtiakjbigaaanhaaG10
import Derived.Test.YtiakjbigaaanhaaG12
import Derived.Test.YtiakjbigaaanhaaG13
namespace Go.Proofs.Ytiakjbigaaanhaa.Ax
open Go
set_option maxRecDepth 100000
set_option maxHeartbeats 4000000
noncomputable def Dj (_code0 : List Int) (r3 : SAlgebra × SAlgebra × List Int) (r4 : Int × List Int × Bool) (_r19 : Int × Bool) : (Int × (List Int)) → Option ((Int × (List Int)) ⊕ (Unit ⊕ (List Int))) := fun (x19, x18) =>
 if x19 < (↑r4.snd.fst.length : Int) then
 ask ((0 : Int) ≤ x19 ∧ x19 < (↑r4.snd.fst.length : Int)) <|
 if nth r4.snd.fst x19.toNat ≥ (↑r3.snd.snd.length : Int) then
 some (.inr (.inl ()))
 else
 ask ((0 : Int) ≤ x19 ∧ x19 < (↑r4.snd.fst.length : Int)) <|
 ask ((0 : Int) ≤ nth r4.snd.fst x19.toNat ∧ nth r4.snd.fst x19.toNat < (↑r3.snd.snd.length : Int)) <|
 ask ((x18).length + ([nth r3.snd.snd (nth r4.snd.fst x19.toNat).toNat]).length ≤ LIM) <|
 ask (InI (x19 + (1 : Int))) <|
 some (.inl (x19 + (1 : Int), x18 ++ [nth r3.snd.snd (nth r4.snd.fst x19.toNat).toNat]))
 else
 some (.inr (.inr x18))
def Ll (code0 : List Int) (r3 : SAlgebra × SAlgebra × List Int) (r4 : Int × List Int × Bool) (r19 : Int × Bool) : (Int × (List Int)) → St := fun s => [(19, A.val (Ag s.1)), (18, A.val ((slr true 1 Ag) s.2)), (17, A.val (V.bool (r19.snd))), (16, A.val (Ag (r19.fst))), (7, A.val ((slr true 1 Ag) (r4.snd.fst))), (6, A.val (Ag (r4.fst))), (5, A.val ((slr false 1 Ag) (r3.snd.snd))), (4, A.val ((rP true (Ae false)) (r3.snd.fst))), (0, A.val ((slr false 1 (V.int IntKind.u8)) (code0)))]
def R0 (code0 : List Int) (r3 : SAlgebra × SAlgebra × List Int) (r4 : Int × List Int × Bool) (r19 : Int × Bool) : (Unit ⊕ (List Int)) → Tgt
 | (.inl _s) => (Ex.ret, [2], [(2, A.val (V.bool (false)))])
 | (.inr s) => ((Ex.exit 0), [18, 17, 16, 6, 5, 4, 0], [(18, A.val ((slr true 1 Ag) s)), (17, A.val (V.bool (r19.snd))), (16, A.val (Ag (r19.fst))), (6, A.val (Ag (r4.fst))), (5, A.val ((slr false 1 Ag) (r3.snd.snd))), (4, A.val ((rP true (Ae false)) (r3.snd.fst))), (0, A.val ((slr false 1 (V.int IntKind.u8)) (code0)))])
theorem Ab8 {code0 : List Int} {r3 : SAlgebra × SAlgebra × List Int} {r4 : Int × List Int × Bool} {r19 : Int × Bool} (s : (Int × (List Int))) (o : (Int × (List Int)) ⊕ (Unit ⊕ (List Int))) (h : Dj code0 r3 r4 r19 s = some o) : vc Try.prog Sm (Cc [19, 18, 17, 16, 7, 6, 5, 4, 0] (Ll code0 r3 r4 r19) (R0 code0 r3 r4 r19) o) (Ll code0 r3 r4 r19 s) := by
 obtain ⟨x19, x18⟩ := s
 unfold Dj at h
 try dsimp only at h
 conv => whnf
 refine Len.map ?_
 conv => whnf
 refine Br.od h (fun p20 h => ?_) (fun p20 h => ?_)
 ·conv => whnf
  refine Len.map ?_
  conv => whnf
  refine Ask.o h fun p21 h => ?_
  conv => whnf
  refine Cells.one (fun _ => ⟨rfl, rfl⟩) (by first | omega | (simp [Ap] at *; omega)) ?_
  conv => whnf
  refine Len.map ?_
  conv => whnf
  refine Br.od h (fun p22 h => ?_) (fun p22 h => ?_)
  ·conv => whnf
   cases h; exact ⟨rfl, rfl⟩
  conv => whnf
  refine Len.map ?_
  conv => whnf
  refine Ask.o h fun p23 h => ?_
  conv => whnf
  refine Cells.one (fun _ => ⟨rfl, rfl⟩) (by first | omega | (simp [Ap] at *; omega)) ?_
  conv => whnf
  refine Len.map ?_
  conv => whnf
  refine Ask.o h fun p24 h => ?_
  conv => whnf
  refine Elem.o (by first | omega | (simp [Ap] at *; omega)) ?_
  conv => whnf
  refine BslQ.o Ag ([nth r3.snd.snd (nth r4.snd.fst x19.toNat).toNat]) (by exact fun _ => ⟨rfl, rfl⟩) (by first | rfl | simp only [Aa, V.fz, fzL, V.up, upL, Ab, Ac, Ad, slr, List.cons_append, List.nil_append] | simp [Aa, V.fz, fzL, V.up, upL, Ab, Ac, Ad, slr]) ?_
  conv => whnf
  refine NoOwn.o (fun _ => rfl) ?_
  conv => whnf
  refine AppQ.o (m := 1) Ag (by exact fun _ => ⟨rfl, rfl⟩) (x18) ([nth r3.snd.snd (nth r4.snd.fst x19.toNat).toNat]) (by first | rfl | simp only [Aa, V.fz, fzL, V.up, upL, Ab, Ac, Ad, slr, List.cons_append, List.nil_append] | simp [Aa, V.fz, fzL, V.up, upL, Ab, Ac, Ad, slr]) (by first | rfl | simp only [Aa, V.fz, fzL, V.up, upL, Ab, Ac, Ad, slr, List.cons_append, List.nil_append] | simp [Aa, V.fz, fzL, V.up, upL, Ab, Ac, Ad, slr]) h fun h => ?_
  conv => whnf
  refine Ask.o h fun p25 h => ?_
  conv => whnf
  cases h; exact ⟨rfl, rfl⟩
 conv => whnf
 cases h; exact ⟨rfl, rfl⟩
noncomputable def Di (r54 : List Int × Bool) : Int → Option (Int ⊕ (Unit ⊕ Unit)) := fun x42 =>
 if x42 < (↑r54.fst.length : Int) then
 ask ((0 : Int) ≤ x42 ∧ x42 < (↑r54.fst.length : Int)) <|
 if nth r54.fst x42.toNat ≠ x42 then
 some (.inr (.inl ()))
 else
 ask (InI (x42 + (1 : Int))) <|
 some (.inl (x42 + (1 : Int)))
 else
 some (.inr (.inr ()))
def Lu (r54 : List Int × Bool) : Int → St := fun s => [(42, A.val (Ag s)), (40, A.val ((slr true 1 Ag) (r54.fst)))]
def Rq (_r54 : List Int × Bool) : (Unit ⊕ Unit) → Tgt
 | (.inl _s) => (Ex.ret, [2], [(2, A.val (V.bool (false)))])
 | (.inr _s) => ((Ex.exit 2), [], [])
theorem Aaz {r54 : List Int × Bool} (x42 : Int) (o : Int ⊕ (Unit ⊕ Unit)) (h : Di r54 x42 = some o) : vc Try.prog Sf (Cc [42, 40] (Lu r54) (Rq r54) o) (Lu r54 x42) := by
 unfold Di at h
 try dsimp only at h
 conv => whnf
 refine Len.map ?_
 conv => whnf
 refine Br.od h (fun p58 h => ?_) (fun p58 h => ?_)
 ·conv => whnf
  refine Len.map ?_
  conv => whnf
  refine Ask.o h fun p59 h => ?_
  conv => whnf
  refine Cells.one (fun _ => ⟨rfl, rfl⟩) (by first | omega | (simp [Ap] at *; omega)) ?_
  conv => whnf
  refine Br.on h (fun p60 h => ?_) (fun p60 h => ?_)
  ·conv => whnf
   cases h; exact ⟨rfl, rfl⟩
  conv => whnf
  refine Ask.o h fun p61 h => ?_
  conv => whnf
  cases h; exact ⟨rfl, rfl⟩
 conv => whnf
 cases h; exact ⟨rfl, rfl⟩
noncomputable def L5 (code0 : (List Int)) : Option Bool :=
 (P6 (code0)).bind fun r1 =>
 if (r1) = true then
 some true
 else
 (Ef (code0)).bind fun r3 =>
 (Gs (r3.fst) (r3.snd.fst) (r3.snd.snd)).bind fun r4 =>
 (((Gx (r3.fst) (r3.snd.fst) (r3.snd.snd)).bind fun r5 =>
 if r4.fst ≠ r5.fst then
 some (.inl ())
 else
 if (r4.snd.snd == r5.snd.snd) = true then
 (Gm (r4.snd.fst) (r5.snd.fst)).bind fun r8 =>
 if (r8) = true then
 some (.inr ())
 else
 some (.inl ())
 else
 some (.inl ()) : Option (Unit ⊕ Unit))).bind fun t => match t with
 | (.inl _) => (some false)
 | (.inr _) => ((H8 (r3.fst) (r3.snd.fst) (r3.snd.snd)).bind fun r11 =>
 (((Ju (r3.fst) (r3.snd.fst) (r3.snd.snd)).bind fun r12 =>
 if (r11.fst == r12.fst) = true then
 if (r11.snd == r12.snd) = true then
 if (r4.snd.snd) = true then
 if (r11.fst) = true then
 some (.inl ())
 else
 some (.inr ())
 else
 some (.inr ())
 else
 some (.inl ())
 else
 some (.inl ()) : Option (Unit ⊕ Unit))).bind fun t => match t with
 | (.inl _) => (some false)
 | (.inr _) => (((if (r4.snd.snd) = true then
 (F7 (r3.fst) (r4.fst) (r4.snd.fst)).bind fun r19 =>
 (Am (Dj code0 r3 r4 r19) ((0 : Int), Al Int)).bind fun t => match t with
 | (.inl _) => (some (.inl ()))
 | (.inr q26_18) => ((F7 (r3.snd.fst) (r4.fst) (q26_18)).bind fun r27 =>
 if (r19.snd) = true then
 if (r27.snd) = true then
 if r19.fst ≥ (↑r3.snd.snd.length : Int) then
 some (.inl ())
 else
 ask ((0 : Int) ≤ r19.fst ∧ r19.fst < (↑r3.snd.snd.length : Int)) <|
 if nth r3.snd.snd r19.fst.toNat = r27.fst then
 some (.inl ())
 else
 some (.inr ())
 else
 some (.inl ())
 else
 some (.inl ()))
 else
 some (.inr ()) : Option (Unit ⊕ Unit))).bind fun t => match t with
 | (.inl _) => (some false)
 | (.inr _) => ((C1 (code0)).bind fun r34 =>
 (Dh (r34.fst) (r34.snd.fst) (r34.snd.snd.fst) (r34.snd.snd.snd.fst) (r34.snd.snd.snd.snd)).bind fun r35 =>
 (((E1 (r34.fst) (r34.snd.fst) (r34.snd.snd.fst) (r34.snd.snd.snd.fst) (r34.snd.snd.snd.snd)).bind fun r36 =>
 if (r35.snd == r36.snd) = true then
 (Gm (r35.fst) (r36.fst)).bind fun r38 =>
 if (r38) = true then
 some (.inl ())
 else
 some (.inr ())
 else
 some (.inr ()) : Option (Unit ⊕ Unit))).bind fun t => match t with
 | (.inl _) => (((if (r35.snd) = true then
 (H8 (r34.fst) (r34.snd.snd.fst) (r35.fst)).bind fun r42 =>
 if (r42.snd) = true then
 if (r42.fst) = true then
 some (.inl ())
 else
 some (.inr ())
 else
 some (.inr ())
 else
 some (.inl ()) : Option (Unit ⊕ Unit))).bind fun t => match t with
 | (.inl _) => ((C9 (code0)).bind fun r46 =>
 (Fe (r46.fst) (r46.snd.fst) (r46.snd.snd)).bind fun r47 =>
 (((Fg (r46.fst) (r46.snd.fst) (r46.snd.snd)).bind fun r48 =>
 if (r47.snd == r48.snd) = true then
 (Gm (r47.fst) (r48.fst)).bind fun r50 =>
 if (r50) = true then
 some (.inl ())
 else
 some (.inr ())
 else
 some (.inr ()) : Option (Unit ⊕ Unit))).bind fun t => match t with
 | (.inl _) => (if (r47.snd) = true then
 (Dh (r46.fst) (r46.snd.fst) (r46.fst) (r46.snd.snd) (r47.fst)).bind fun r54 =>
 ((if (r54.snd) = true then
 if (↑r54.fst.length : Int) ≠ r46.fst.Size then
 some (.inl ())
 else
 some (.inr ())
 else
 some (.inl ()) : Option (Unit ⊕ Unit))).bind fun t => match t with
 | (.inl _) => (some false)
 | (.inr _) => ((Am (Di r54) (0 : Int)).bind fun t => match t with
 | (.inl _) => (some false)
 | (.inr _) => (some true))
 else
 some true)
 | (.inr _) => (some false))
 | (.inr _) => (some false))
 | (.inr _) => (some false))))
theorem Ain {code0 : (List Int)} {v : Bool} (h : L5 code0 = some v) : Ret Try.prog W4 [(slr false 1 (V.int IntKind.u8)) code0] (V.bool v) := by
 refine Av Ai3 (Nat.le_of_ble_eq_true rfl) ?_
 unfold L5 at h
 conv => whnf
 refine CallQ.o V.bool (by first | rfl | simp only [Aa, V.fz, fzL, V.up, upL, Ab, Ac, Ad, slr, List.cons_append, List.nil_append] | simp [Aa, V.fz, fzL, V.up, upL, Ab, Ac, Ad, slr]) h (fun r h => An9 h) (fun r1 h => ?_)
 conv => whnf
 refine Br.ob h (fun p2 h => ?_) (fun p2 h => ?_)
 ·conv => whnf
  cases h; exact (by first | rfl | simp only [Ah, Aa, V.fz, fzL, V.up, upL, Ab, Ac, Ad, slr] | simp [Ah, Aa, V.fz, fzL, V.up, upL, Ab, Ac, Ad, slr])
 conv => whnf
 refine CallQ.o (fun r => V.tup [(Ae false) r.1, (Ae false) r.2.1, (slr false 1 Ag) r.2.2]) (by first | rfl | simp only [Aa, V.fz, fzL, V.up, upL, Ab, Ac, Ad, slr, List.cons_append, List.nil_append] | simp [Aa, V.fz, fzL, V.up, upL, Ab, Ac, Ad, slr]) h (fun r h => Wx h) (fun r3 h => ?_)
 conv => whnf
 refine SetKids.lit rfl ?_
 conv => whnf
 refine SetKids.lit rfl ?_
 conv => whnf
 refine Cells.lit rfl rfl ?_
 conv => whnf
 refine Cells.lit rfl rfl ?_
 conv => whnf
 refine CallQ.o (fun r => V.tup [Ag r.1, (slr true 1 Ag) r.2.1, V.bool r.2.2]) (by first | rfl | simp only [Aa, V.fz, fzL, V.up, upL, Ab, Ac, Ad, slr, List.cons_append, List.nil_append] | simp [Aa, V.fz, fzL, V.up, upL, Ab, Ac, Ad, slr]) h (fun r h => Adz h) (fun r4 h => ?_)
 conv => whnf
 refine CutQ.o (fun t : (Unit ⊕ Unit) => match t with | (.inl s) => (Ex.ret, [2], [(2, A.val (V.bool (false)))]) | (.inr s) => (Ex.normal, [8, 7, 6, 5, 4, 3, 0], [(8, A.val (V.bool (r4.snd.snd))), (7, A.val ((slr true 1 Ag) (r4.snd.fst))), (6, A.val (Ag (r4.fst))), (5, A.val ((slr false 1 Ag) (r3.snd.snd))), (4, A.val ((rP true (Ae false)) (r3.snd.fst))), (3, A.val ((rP true (Ae false)) (r3.fst))), (0, A.val ((slr false 1 (V.int IntKind.u8)) (code0)))])) h ?_ ?_
 ·intro t h
  conv => whnf
  refine Cells.lit rfl rfl ?_
  conv => whnf
  refine Cells.lit rfl rfl ?_
  conv => whnf
  refine CallQ.o (fun r => V.tup [Ag r.1, (slr true 1 Ag) r.2.1, V.bool r.2.2]) (by first | rfl | simp only [Aa, V.fz, fzL, V.up, upL, Ab, Ac, Ad, slr, List.cons_append, List.nil_append] | simp [Aa, V.fz, fzL, V.up, upL, Ab, Ac, Ad, slr]) h (fun r h => Ad3 h) (fun r5 h => ?_)
  conv => whnf
  refine Br.on h (fun p6 h => ?_) (fun p6 h => ?_)
  ·conv => whnf
   refine Br.yes ?_
   conv => whnf
   refine Br.yes ?_
   conv => whnf
   refine Br.yes ?_
   conv => whnf
   refine Br.yes ?_
   conv => whnf
   refine Br.yes ?_
   conv => whnf
   refine Br.yes ?_
   conv => whnf
   refine Br.yes ?_
   conv => whnf
   refine Br.yes ?_
   conv => whnf
   refine Br.yes ?_
   conv => whnf
   cases h; exact ⟨rfl, rfl⟩
  conv => whnf
  refine Br.no ?_
  conv => whnf
  refine Br.no ?_
  conv => whnf
  refine Br.no ?_
  conv => whnf
  refine Br.flip ?_
  conv => whnf
  refine Br.ob h (fun p7 h => ?_) (fun p7 h => ?_)
  ·conv => whnf
   refine Br.no ?_
   conv => whnf
   refine Br.no ?_
   conv => whnf
   refine CallQ.rd V.bool (by first | rfl | simp only [V.fz, Ab, slr] | simp [Aa, V.fz, fzL, V.up, upL, Ab, Ac, Ad, slr]) (fun _ => rfl) h (fun r h => S7 h) (fun r8 h => ?_)
   conv => whnf
   refine Br.no ?_
   conv => whnf
   refine Br.no ?_
   conv => whnf
   refine Br.flip ?_
   conv => whnf
   refine Br.ob h (fun p9 h => ?_) (fun p9 h => ?_)
   ·conv => whnf
    cases h; exact ⟨rfl, rfl⟩
   conv => whnf
   cases h; exact ⟨rfl, rfl⟩
  conv => whnf
  refine Br.yes ?_
  conv => whnf
  refine Br.yes ?_
  conv => whnf
  refine Br.yes ?_
  conv => whnf
  refine Br.yes ?_
  conv => whnf
  refine Br.yes ?_
  conv => whnf
  cases h; exact ⟨rfl, rfl⟩
 rintro (⟨⟩ | ⟨⟩) h
 ·try dsimp only at h
  conv => whnf
  cases h; exact (by first | rfl | simp only [Ah, Aa, V.fz, fzL, V.up, upL, Ab, Ac, Ad, slr] | simp [Ah, Aa, V.fz, fzL, V.up, upL, Ab, Ac, Ad, slr])
 try dsimp only at h
 conv => whnf
 refine Cells.lit rfl rfl ?_
 conv => whnf
 refine Cells.lit rfl rfl ?_
 conv => whnf
 refine CallQ.o (fun r => V.tup [V.bool r.1, V.bool r.2]) (by first | rfl | simp only [Aa, V.fz, fzL, V.up, upL, Ab, Ac, Ad, slr, List.cons_append, List.nil_append] | simp [Aa, V.fz, fzL, V.up, upL, Ab, Ac, Ad, slr]) h (fun r h => Yx h) (fun r11 h => ?_)
 conv => whnf
 refine CutQ.o (fun t : (Unit ⊕ Unit) => match t with | (.inl s) => (Ex.ret, [2], [(2, A.val (V.bool (false)))]) | (.inr s) => (Ex.normal, [8, 7, 6, 5, 4, 3, 0], [(8, A.val (V.bool (r4.snd.snd))), (7, A.val ((slr true 1 Ag) (r4.snd.fst))), (6, A.val (Ag (r4.fst))), (5, A.val ((slr false 1 Ag) (r3.snd.snd))), (4, A.val ((rP true (Ae false)) (r3.snd.fst))), (3, A.val ((rP true (Ae false)) (r3.fst))), (0, A.val ((slr false 1 (V.int IntKind.u8)) (code0)))])) h ?_ ?_
 ·intro t h
  conv => whnf
  refine Cells.lit rfl rfl ?_
  conv => whnf
  refine Cells.lit rfl rfl ?_
  conv => whnf
  refine CallQ.o (fun r => V.tup [V.bool r.1, V.bool r.2]) (by first | rfl | simp only [Aa, V.fz, fzL, V.up, upL, Ab, Ac, Ad, slr, List.cons_append, List.nil_append] | simp [Aa, V.fz, fzL, V.up, upL, Ab, Ac, Ad, slr]) h (fun r h => Ams h) (fun r12 h => ?_)
  conv => whnf
  refine Br.flip ?_
  conv => whnf
  refine Br.ob h (fun p13 h => ?_) (fun p13 h => ?_)
  ·conv => whnf
   refine Br.no ?_
   conv => whnf
   refine Br.no ?_
   conv => whnf
   refine Br.no ?_
   conv => whnf
   refine Br.flip ?_
   conv => whnf
   refine Br.ob h (fun p14 h => ?_) (fun p14 h => ?_)
   ·conv => whnf
    refine Br.no ?_
    conv => whnf
    refine Br.ob h (fun p15 h => ?_) (fun p15 h => ?_)
    ·conv => whnf
     refine Br.no ?_
     conv => whnf
     refine Br.yes ?_
     conv => whnf
     refine Br.no ?_
     conv => whnf
     refine Br.ob h (fun p16 h => ?_) (fun p16 h => ?_)
     ·conv => whnf
      cases h; exact ⟨rfl, rfl⟩
     conv => whnf
     cases h; exact ⟨rfl, rfl⟩
    conv => whnf
    refine Br.no ?_
    conv => whnf
    refine Br.no ?_
    conv => whnf
    refine Br.no ?_
    conv => whnf
    refine Br.no ?_
    conv => whnf
    cases h; exact ⟨rfl, rfl⟩
   conv => whnf
   refine Br.yes ?_
   conv => whnf
   refine Br.yes ?_
   conv => whnf
   refine Br.yes ?_
   conv => whnf
   refine Br.yes ?_
   conv => whnf
   cases h; exact ⟨rfl, rfl⟩
  conv => whnf
  refine Br.yes ?_
  conv => whnf
  refine Br.yes ?_
  conv => whnf
  refine Br.yes ?_
  conv => whnf
  refine Br.yes ?_
  conv => whnf
  refine Br.yes ?_
  conv => whnf
  refine Br.yes ?_
  conv => whnf
  refine Br.yes ?_
  conv => whnf
  refine Br.yes ?_
  conv => whnf
  cases h; exact ⟨rfl, rfl⟩
 rintro (⟨⟩ | ⟨⟩) h
 ·try dsimp only at h
  conv => whnf
  cases h; exact (by first | rfl | simp only [Ah, Aa, V.fz, fzL, V.up, upL, Ab, Ac, Ad, slr] | simp [Ah, Aa, V.fz, fzL, V.up, upL, Ab, Ac, Ad, slr])
 try dsimp only at h
 conv => whnf
 refine CutQ.o (fun t : (Unit ⊕ Unit) => match t with | (.inl s) => (Ex.ret, [2], [(2, A.val (V.bool (false)))]) | (.inr s) => (Ex.normal, [0], [(0, A.val ((slr false 1 (V.int IntKind.u8)) (code0)))])) h ?_ ?_
 ·intro t h
  conv => whnf
  refine Br.ob h (fun p18 h => ?_) (fun p18 h => ?_)
  ·conv => whnf
   refine Cells.lit rfl rfl ?_
   conv => whnf
   refine CallQ.rd (fun r => V.tup [Ag r.1, V.bool r.2]) (by first | rfl | simp only [V.fz, fzL, V.up, Ab, Ad, slr] | simp [Aa, V.fz, fzL, V.up, upL, Ab, Ac, Ad, slr]) (fun _ => by simp [V.noFz, B2]) h (fun r h => Vc h) (fun r19 h => ?_)
   conv => whnf
   refine BslQ.o Ag (Al Int) (by exact fun _ => ⟨rfl, rfl⟩) (by first | rfl | simp only [Aa, V.fz, fzL, V.up, upL, Ab, Ac, Ad, slr, List.cons_append, List.nil_append] | simp [Aa, V.fz, fzL, V.up, upL, Ab, Ac, Ad, slr]) ?_
   conv => whnf
   refine LoopQ.o [19, 18, 17, 16, 7, 6, 5, 4, 0] (Ll code0 r3 r4 r19) (R0 code0 r3 r4 r19) h (fun s o h => Ab8 s o h) (by first | rfl | simp [restrict, look, Aa, V.fz, fzL, V.up, upL, Ab, Ac, Ad, slr]) (by rintro (_ | _) <;> rfl) ?_
   rintro (⟨⟩ | q26_18) h
   ·try dsimp only at h
    conv => whnf
    cases h; exact ⟨rfl, rfl⟩
   try dsimp only at h
   conv => whnf
   refine Cells.lit rfl rfl ?_
   conv => whnf
   refine CallQ.rd (fun r => V.tup [Ag r.1, V.bool r.2]) (by first | rfl | simp only [V.fz, fzL, V.up, Ab, Ad, slr] | simp [Aa, V.fz, fzL, V.up, upL, Ab, Ac, Ad, slr]) (fun _ => by simp [V.noFz, B2]) h (fun r h => Vc h) (fun r27 h => ?_)
   conv => whnf
   refine Br.flip ?_
   conv => whnf
   refine Br.ob h (fun p28 h => ?_) (fun p28 h => ?_)
   ·conv => whnf
    refine Br.no ?_
    conv => whnf
    refine Br.no ?_
    conv => whnf
    refine Br.flip ?_
    conv => whnf
    refine Br.ob h (fun p29 h => ?_) (fun p29 h => ?_)
    ·conv => whnf
     refine Br.no ?_
     conv => whnf
     refine Br.no ?_
     conv => whnf
     refine Len.map ?_
     conv => whnf
     refine Br.no ?_
     conv => whnf
     refine Br.no ?_
     conv => whnf
     refine Br.od h (fun p30 h => ?_) (fun p30 h => ?_)
     ·conv => whnf
      refine Br.yes ?_
      conv => whnf
      refine Br.yes ?_
      conv => whnf
      refine Br.yes ?_
      conv => whnf
      refine Br.yes ?_
      conv => whnf
      refine Br.yes ?_
      conv => whnf
      refine Br.yes ?_
      conv => whnf
      refine Br.yes ?_
      conv => whnf
      cases h; exact ⟨rfl, rfl⟩
     conv => whnf
     refine Br.no ?_
     conv => whnf
     refine Br.no ?_
     conv => whnf
     refine Len.map ?_
     conv => whnf
     refine Ask.o h fun p31 h => ?_
     conv => whnf
     refine Elem.o (by first | omega | (simp [Ap] at *; omega)) ?_
     conv => whnf
     refine Br.no ?_
     conv => whnf
     refine Br.no ?_
     conv => whnf
     refine Br.no ?_
     conv => whnf
     refine Br.no ?_
     conv => whnf
     refine Br.oe h (fun p32 h => ?_) (fun p32 h => ?_)
     ·conv => whnf
      cases h; exact ⟨rfl, rfl⟩
     conv => whnf
     cases h; exact ⟨rfl, rfl⟩
    conv => whnf
    refine Br.yes ?_
    conv => whnf
    refine Br.yes ?_
    conv => whnf
    refine Br.yes ?_
    conv => whnf
    refine Br.yes ?_
    conv => whnf
    refine Br.yes ?_
    conv => whnf
    refine Br.yes ?_
    conv => whnf
    refine Br.yes ?_
    conv => whnf
    refine Br.yes ?_
    conv => whnf
    refine Br.yes ?_
    conv => whnf
    refine Br.yes ?_
    conv => whnf
    refine Br.yes ?_
    conv => whnf
    refine Br.yes ?_
    conv => whnf
    cases h; exact ⟨rfl, rfl⟩
   conv => whnf
   refine Br.yes ?_
   conv => whnf
   refine Br.yes ?_
   conv => whnf
   refine Br.yes ?_
   conv => whnf
   refine Br.yes ?_
   conv => whnf
   refine Br.yes ?_
   conv => whnf
   refine Br.yes ?_
   conv => whnf
   refine Br.yes ?_
   conv => whnf
   refine Br.yes ?_
   conv => whnf
   refine Br.yes ?_
   conv => whnf
   refine Br.yes ?_
   conv => whnf
   refine Br.yes ?_
   conv => whnf
   refine Br.yes ?_
   conv => whnf
   refine Br.yes ?_
   conv => whnf
   refine Br.yes ?_
   conv => whnf
   refine Br.yes ?_
   conv => whnf
   cases h; exact ⟨rfl, rfl⟩
  conv => whnf
  cases h; exact ⟨rfl, rfl⟩
 rintro (⟨⟩ | ⟨⟩) h
 ·try dsimp only at h
  conv => whnf
  cases h; exact (by first | rfl | simp only [Ah, Aa, V.fz, fzL, V.up, upL, Ab, Ac, Ad, slr] | simp [Ah, Aa, V.fz, fzL, V.up, upL, Ab, Ac, Ad, slr])
 try dsimp only at h
 conv => whnf
 refine CallQ.o (fun r => V.tup [(Ae false) r.1, (Ae false) r.2.1, (Ae false) r.2.2.1, (slr false 1 Ag) r.2.2.2.1, (slr false 1 Ag) r.2.2.2.2]) (by first | rfl | simp only [Aa, V.fz, fzL, V.up, upL, Ab, Ac, Ad, slr, List.cons_append, List.nil_append] | simp [Aa, V.fz, fzL, V.up, upL, Ab, Ac, Ad, slr]) h (fun r h => Tl h) (fun r34 h => ?_)
 conv => whnf
 refine SetKids.lit rfl ?_
 conv => whnf
 refine SetKids.lit rfl ?_
 conv => whnf
 refine SetKids.lit rfl ?_
 conv => whnf
 refine Cells.lit rfl rfl ?_
 conv => whnf
 refine Cells.lit rfl rfl ?_
 conv => whnf
 refine Cells.lit rfl rfl ?_
 conv => whnf
 refine CallQ.o (fun r => V.tup [(slr true 1 Ag) r.1, V.bool r.2]) (by first | rfl | simp only [Aa, V.fz, fzL, V.up, upL, Ab, Ac, Ad, slr, List.cons_append, List.nil_append] | simp [Aa, V.fz, fzL, V.up, upL, Ab, Ac, Ad, slr]) h (fun r h => Oe h) (fun r35 h => ?_)
 conv => whnf
 refine CutQ.o (fun t : (Unit ⊕ Unit) => match t with | (.inl s) => (Ex.normal, [28, 27, 24, 22, 0], [(28, A.val (V.bool (r35.snd))), (27, A.val ((slr true 1 Ag) (r35.fst))), (24, A.val ((rP true (Ae false)) (r34.snd.snd.fst))), (22, A.val ((rP true (Ae false)) (r34.fst))), (0, A.val ((slr false 1 (V.int IntKind.u8)) (code0)))]) | (.inr s) => (Ex.ret, [2], [(2, A.val (V.bool (false)))])) h ?_ ?_
 ·intro t h
  conv => whnf
  refine Cells.lit rfl rfl ?_
  conv => whnf
  refine Cells.lit rfl rfl ?_
  conv => whnf
  refine Cells.lit rfl rfl ?_
  conv => whnf
  refine CallQ.o (fun r => V.tup [(slr true 1 Ag) r.1, V.bool r.2]) (by first | rfl | simp only [Aa, V.fz, fzL, V.up, upL, Ab, Ac, Ad, slr, List.cons_append, List.nil_append] | simp [Aa, V.fz, fzL, V.up, upL, Ab, Ac, Ad, slr]) h (fun r h => X2 h) (fun r36 h => ?_)
  conv => whnf
  refine Br.flip ?_
  conv => whnf
  refine Br.ob h (fun p37 h => ?_) (fun p37 h => ?_)
  ·conv => whnf
   refine Br.no ?_
   conv => whnf
   refine Br.no ?_
   conv => whnf
   refine CallQ.rd V.bool (by first | rfl | simp only [V.fz, Ab, slr] | simp [Aa, V.fz, fzL, V.up, upL, Ab, Ac, Ad, slr]) (fun _ => rfl) h (fun r h => S7 h) (fun r38 h => ?_)
   conv => whnf
   refine Br.no ?_
   conv => whnf
   refine Br.no ?_
   conv => whnf
   refine Br.flip ?_
   conv => whnf
   refine Br.ob h (fun p39 h => ?_) (fun p39 h => ?_)
   ·conv => whnf
    cases h; exact ⟨rfl, rfl⟩
   conv => whnf
   cases h; exact ⟨rfl, rfl⟩
  conv => whnf
  refine Br.yes ?_
  conv => whnf
  refine Br.yes ?_
  conv => whnf
  refine Br.yes ?_
  conv => whnf
  refine Br.yes ?_
  conv => whnf
  refine Br.yes ?_
  conv => whnf
  cases h; exact ⟨rfl, rfl⟩
 rintro (⟨⟩ | ⟨⟩) h
 ·try dsimp only at h
  conv => whnf
  refine CutQ.o (fun t : (Unit ⊕ Unit) => match t with | (.inl s) => (Ex.normal, [0], [(0, A.val ((slr false 1 (V.int IntKind.u8)) (code0)))]) | (.inr s) => (Ex.ret, [2], [(2, A.val (V.bool (false)))])) h ?_ ?_
  ·intro t h
   conv => whnf
   refine Br.ob h (fun p41 h => ?_) (fun p41 h => ?_)
   ·conv => whnf
    refine Cells.lit rfl rfl ?_
    conv => whnf
    refine Cells.lit rfl rfl ?_
    conv => whnf
    refine CallQ.rd (fun r => V.tup [V.bool r.1, V.bool r.2]) (by first | rfl | simp only [V.fz, fzL, Ab, slr] | simp [Aa, V.fz, fzL, V.up, upL, Ab, Ac, Ad, slr]) (fun _ => by simp [V.noFz, B2]) h (fun r h => Yx h) (fun r42 h => ?_)
    conv => whnf
    refine Br.flip ?_
    conv => whnf
    refine Br.ob h (fun p43 h => ?_) (fun p43 h => ?_)
    ·conv => whnf
     refine Br.no ?_
     conv => whnf
     refine Br.no ?_
     conv => whnf
     refine Br.flip ?_
     conv => whnf
     refine Br.ob h (fun p44 h => ?_) (fun p44 h => ?_)
     ·conv => whnf
      cases h; exact ⟨rfl, rfl⟩
     conv => whnf
     cases h; exact ⟨rfl, rfl⟩
    conv => whnf
    refine Br.yes ?_
    conv => whnf
    refine Br.yes ?_
    conv => whnf
    refine Br.yes ?_
    conv => whnf
    cases h; exact ⟨rfl, rfl⟩
   conv => whnf
   cases h; exact ⟨rfl, rfl⟩
  rintro (⟨⟩ | ⟨⟩) h
  ·try dsimp only at h
   conv => whnf
   refine CallQ.o (fun r => V.tup [(Ae false) r.1, (Ae false) r.2.1, (slr false 1 Ag) r.2.2]) (by first | rfl | simp only [Aa, V.fz, fzL, V.up, upL, Ab, Ac, Ad, slr, List.cons_append, List.nil_append] | simp [Aa, V.fz, fzL, V.up, upL, Ab, Ac, Ad, slr]) h (fun r h => Un h) (fun r46 h => ?_)
   conv => whnf
   refine SetKids.lit rfl ?_
   conv => whnf
   refine SetKids.lit rfl ?_
   conv => whnf
   refine Cells.lit rfl rfl ?_
   conv => whnf
   refine Cells.lit rfl rfl ?_
   conv => whnf
   refine CallQ.o (fun r => V.tup [(slr true 1 Ag) r.1, V.bool r.2]) (by first | rfl | simp only [Aa, V.fz, fzL, V.up, upL, Ab, Ac, Ad, slr, List.cons_append, List.nil_append] | simp [Aa, V.fz, fzL, V.up, upL, Ab, Ac, Ad, slr]) h (fun r h => Y7 h) (fun r47 h => ?_)
   conv => whnf
   refine CutQ.o (fun t : (Unit ⊕ Unit) => match t with | (.inl s) => (Ex.normal, [37, 36, 35, 34, 33], [(37, A.val (V.bool (r47.snd))), (36, A.val ((slr true 1 Ag) (r47.fst))), (35, A.val ((slr false 1 Ag) (r46.snd.snd))), (34, A.val ((rP true (Ae false)) (r46.snd.fst))), (33, A.val ((rP true (Ae false)) (r46.fst)))]) | (.inr s) => (Ex.ret, [2], [(2, A.val (V.bool (false)))])) h ?_ ?_
   ·intro t h
    conv => whnf
    refine Cells.lit rfl rfl ?_
    conv => whnf
    refine Cells.lit rfl rfl ?_
    conv => whnf
    refine CallQ.o (fun r => V.tup [(slr true 1 Ag) r.1, V.bool r.2]) (by first | rfl | simp only [Aa, V.fz, fzL, V.up, upL, Ab, Ac, Ad, slr, List.cons_append, List.nil_append] | simp [Aa, V.fz, fzL, V.up, upL, Ab, Ac, Ad, slr]) h (fun r h => Zb h) (fun r48 h => ?_)
    conv => whnf
    refine Br.flip ?_
    conv => whnf
    refine Br.ob h (fun p49 h => ?_) (fun p49 h => ?_)
    ·conv => whnf
     refine Br.no ?_
     conv => whnf
     refine Br.no ?_
     conv => whnf
     refine CallQ.rd V.bool (by first | rfl | simp only [V.fz, Ab, slr] | simp [Aa, V.fz, fzL, V.up, upL, Ab, Ac, Ad, slr]) (fun _ => rfl) h (fun r h => S7 h) (fun r50 h => ?_)
     conv => whnf
     refine Br.no ?_
     conv => whnf
     refine Br.no ?_
     conv => whnf
     refine Br.flip ?_
     conv => whnf
     refine Br.ob h (fun p51 h => ?_) (fun p51 h => ?_)
     ·conv => whnf
      cases h; exact ⟨rfl, rfl⟩
     conv => whnf
     cases h; exact ⟨rfl, rfl⟩
    conv => whnf
    refine Br.yes ?_
    conv => whnf
    refine Br.yes ?_
    conv => whnf
    refine Br.yes ?_
    conv => whnf
    refine Br.yes ?_
    conv => whnf
    refine Br.yes ?_
    conv => whnf
    cases h; exact ⟨rfl, rfl⟩
   rintro (⟨⟩ | ⟨⟩) h
   ·try dsimp only at h
    conv => whnf
    refine Br.ob h (fun p53 h => ?_) (fun p53 h => ?_)
    ·conv => whnf
     refine Cells.lit rfl rfl ?_
     conv => whnf
     refine Cells.lit rfl rfl ?_
     conv => whnf
     refine Cells.lit rfl rfl ?_
     conv => whnf
     refine CallQ.rd (fun r => V.tup [(slr true 1 Ag) r.1, V.bool r.2]) (by first | rfl | simp only [V.fz, fzL, V.up, Ab, slr] | simp [Aa, V.fz, fzL, V.up, upL, Ab, Ac, Ad, slr]) (fun _ => by simp [V.noFz, B2, Bp]) h (fun r h => Oe h) (fun r54 h => ?_)
     conv => whnf
     refine CutQ.o (fun t : (Unit ⊕ Unit) => match t with | (.inl s) => (Ex.ret, [2], [(2, A.val (V.bool (false)))]) | (.inr s) => (Ex.normal, [40], [(40, A.val ((slr true 1 Ag) (r54.fst)))])) h ?_ ?_
     ·intro t h
      conv => whnf
      refine Br.flip ?_
      conv => whnf
      refine Br.ob h (fun p55 h => ?_) (fun p55 h => ?_)
      ·conv => whnf
       refine Br.no ?_
       conv => whnf
       refine Len.map ?_
       conv => whnf
       refine Br.no ?_
       conv => whnf
       refine Br.no ?_
       conv => whnf
       refine Cells.lit rfl rfl ?_
       conv => whnf
       refine Br.no ?_
       conv => whnf
       refine Br.no ?_
       conv => whnf
       refine Br.on h (fun p56 h => ?_) (fun p56 h => ?_)
       ·conv => whnf
        cases h; exact ⟨rfl, rfl⟩
       conv => whnf
       cases h; exact ⟨rfl, rfl⟩
      conv => whnf
      refine Br.yes ?_
      conv => whnf
      refine Br.yes ?_
      conv => whnf
      refine Br.yes ?_
      conv => whnf
      refine Br.yes ?_
      conv => whnf
      refine Br.yes ?_
      conv => whnf
      refine Br.yes ?_
      conv => whnf
      cases h; exact ⟨rfl, rfl⟩
     rintro (⟨⟩ | ⟨⟩) h
     ·try dsimp only at h
      conv => whnf
      cases h; exact (by first | rfl | simp only [Ah, Aa, V.fz, fzL, V.up, upL, Ab, Ac, Ad, slr] | simp [Ah, Aa, V.fz, fzL, V.up, upL, Ab, Ac, Ad, slr])
     try dsimp only at h
     conv => whnf
     refine LoopQ.o [42, 40] (Lu r54) (Rq r54) h (fun s o h => Aaz s o h) (by first | rfl | simp [restrict, look, Aa, V.fz, fzL, V.up, upL, Ab, Ac, Ad, slr]) (by rintro (_ | _) <;> rfl) ?_
     rintro (⟨⟩ | ⟨⟩) h
     ·try dsimp only at h
      conv => whnf
      cases h; exact (by first | rfl | simp only [Ah, Aa, V.fz, fzL, V.up, upL, Ab, Ac, Ad, slr] | simp [Ah, Aa, V.fz, fzL, V.up, upL, Ab, Ac, Ad, slr])
     try dsimp only at h
     conv => whnf
     cases h; exact (by first | rfl | simp only [Ah, Aa, V.fz, fzL, V.up, upL, Ab, Ac, Ad, slr] | simp [Ah, Aa, V.fz, fzL, V.up, upL, Ab, Ac, Ad, slr])
    conv => whnf
    cases h; exact (by first | rfl | simp only [Ah, Aa, V.fz, fzL, V.up, upL, Ab, Ac, Ad, slr] | simp [Ah, Aa, V.fz, fzL, V.up, upL, Ab, Ac, Ad, slr])
   try dsimp only at h
   conv => whnf
   cases h; exact (by first | rfl | simp only [Ah, Aa, V.fz, fzL, V.up, upL, Ab, Ac, Ad, slr] | simp [Ah, Aa, V.fz, fzL, V.up, upL, Ab, Ac, Ad, slr])
  try dsimp only at h
  conv => whnf
  cases h; exact (by first | rfl | simp only [Ah, Aa, V.fz, fzL, V.up, upL, Ab, Ac, Ad, slr] | simp [Ah, Aa, V.fz, fzL, V.up, upL, Ab, Ac, Ad, slr])
 try dsimp only at h
 conv => whnf
 cases h; exact (by first | rfl | simp only [Ah, Aa, V.fz, fzL, V.up, upL, Ab, Ac, Ad, slr] | simp [Ah, Aa, V.fz, fzL, V.up, upL, Ab, Ac, Ad, slr])
end Go.Proofs.Ytiakjbigaaanhaa.Ax
