/-
 What the functions compute, as functions on plain data, and that the program does compute it; written by program.
-/
import Derived.Test.YtidaaijecmkndaaCode
import Derived.Test.YtidaaijecmkndaaG1
import Derived.Test.YtidaaijecmkndaaG2
import Derived.Test.YtidaaijecmkndaaG6
import Derived.Test.YtidaaijecmkndaaG7
import Derived.Test.YtidaaijecmkndaaG9
import Derived.Test.YtidaaijecmkndaaG10
namespace Go.Proofs.Ytidaaijecmkndaa.Ax
open Go
set_option maxRecDepth 100000
set_option maxHeartbeats 4000000
noncomputable def Bs (_r3 : SAlgebra) (_r4 : List Int × Bool) (r10 : List (List Int) × Bool) (_r17 : List Int × Bool) (x16 : Int) : (Int × Bool) → Option ((Int × Bool) ⊕ Bool) := fun (x18, x17) =>
 if x18 < (↑r10.fst.length : Int) then
 if (x17) = true then
 ask ((0 : Int) ≤ x18 ∧ x18 < (↑r10.fst.length : Int)) <|
 (Ju (nth r10.fst x18.toNat) (x16)).bind fun r29 =>
 ask (InI (x18 + (1 : Int))) <|
 some (.inl (x18 + (1 : Int), r29))
 else
 ask (InI (x18 + (1 : Int))) <|
 some (.inl (x18 + (1 : Int), false))
 else
 some (.inr x17)
def G0 (r3 : SAlgebra) (r4 : List Int × Bool) (r10 : List (List Int) × Bool) (r17 : List Int × Bool) (x16 : Int) : (Int × Bool) → St := fun s => [(18, A.val (Af s.1)), (17, A.val (V.bool s.2)), (16, A.val (Af (x16))), (12, A.val ((slr false 1 Af) (r17.fst))), (8, A.val ((slr true 1 (slr true 1 Af)) (r10.fst))), (4, A.val ((slr true 1 Af) (r4.fst))), (3, A.val ((rP true (Ag false)) (r3)))]
def Ko (r3 : SAlgebra) (r4 : List Int × Bool) (r10 : List (List Int) × Bool) (r17 : List Int × Bool) (x16 : Int) : Bool → Tgt
 | s => ((Ex.exit 2), [17, 16, 12, 8, 4, 3], [(17, A.val (V.bool s)), (16, A.val (Af (x16))), (12, A.val ((slr false 1 Af) (r17.fst))), (8, A.val ((slr true 1 (slr true 1 Af)) (r10.fst))), (4, A.val ((slr true 1 Af) (r4.fst))), (3, A.val ((rP true (Ag false)) (r3)))])
theorem Ta {r3 : SAlgebra} {r4 : List Int × Bool} {r10 : List (List Int) × Bool} {r17 : List Int × Bool} {x16 : Int} (s : (Int × Bool)) (o : (Int × Bool) ⊕ Bool) (h : Bs r3 r4 r10 r17 x16 s = some o) : vc Try.prog Kj (C0 [18, 17, 16, 12, 8, 4, 3] (G0 r3 r4 r10 r17 x16) (Ko r3 r4 r10 r17 x16) o) (G0 r3 r4 r10 r17 x16 s) := by
 obtain ⟨x18, x17⟩ := s
 unfold Bs at h
 try dsimp only at h
 conv => whnf
 refine Len.map ?_
 conv => whnf
 refine Br.od h (fun p26 h => ?_) (fun p26 h => ?_)
 ·conv => whnf
  refine Br.ob h (fun p27 h => ?_) (fun p27 h => ?_)
  ·conv => whnf
   refine Br.yes ?_
   conv => whnf
   refine Br.yes ?_
   conv => whnf
   refine Len.map ?_
   conv => whnf
   refine Ask.o h fun p28 h => ?_
   conv => whnf
   refine Br.yes ?_
   conv => whnf
   refine Cells.one (fun _ => ⟨rfl, rfl⟩) (by first | omega | (simp [As] at *; omega)) ?_
   conv => whnf
   refine Br.yes ?_
   conv => whnf
   refine Br.yes ?_
   conv => whnf
   refine Kid.one (fun _ => ⟨rfl, rfl⟩) (by first | omega | (simp [As] at *; omega)) ?_
   conv => whnf
   refine CallQ.rd V.bool (by first | rfl | simp only [Aa, V.fz, V.up, Ab, Ad, slr] | simp [Aa, V.fz, fzL, V.up, upL, Ab, Ac, Ad, slr]) (fun _ => rfl) h (fun r h => Ab9 h) (fun r29 h => ?_)
   conv => whnf
   refine Br.yes ?_
   conv => whnf
   refine Ask.o h fun p30 h => ?_
   conv => whnf
   cases h; exact ⟨rfl, rfl⟩
  conv => whnf
  refine Br.no ?_
  conv => whnf
  refine Br.no ?_
  conv => whnf
  refine Br.no ?_
  conv => whnf
  refine Br.no ?_
  conv => whnf
  refine Br.no ?_
  conv => whnf
  refine Br.no ?_
  conv => whnf
  refine Ask.o h fun p31 h => ?_
  conv => whnf
  cases h; exact ⟨rfl, rfl⟩
 conv => whnf
 cases h; exact ⟨rfl, rfl⟩
noncomputable def Bt (r3 : SAlgebra) (r4 : List Int × Bool) (r10 : List (List Int) × Bool) (r17 : List Int × Bool) : Int → Option (Int ⊕ (Unit ⊕ Unit)) := fun x16 =>
 if x16 < r3.Size then
 (Am (Bs r3 r4 r10 r17 x16) ((0 : Int), true)).bind fun q32_17 =>
 (Ju (r4.fst) (x16)).bind fun r33 =>
 if (q32_17 == r33) = true then
 ask (InI (x16 + (1 : Int))) <|
 some (.inl (x16 + (1 : Int)))
 else
 some (.inr (.inl ()))
 else
 some (.inr (.inr ()))
def Gw (r3 : SAlgebra) (r4 : List Int × Bool) (r10 : List (List Int) × Bool) (r17 : List Int × Bool) : Int → St := fun s => [(16, A.val (Af s)), (12, A.val ((slr false 1 Af) (r17.fst))), (8, A.val ((slr true 1 (slr true 1 Af)) (r10.fst))), (4, A.val ((slr true 1 Af) (r4.fst))), (3, A.val ((rP true (Ag false)) (r3)))]
def Kf (r3 : SAlgebra) (_r4 : List Int × Bool) (_r10 : List (List Int) × Bool) (r17 : List Int × Bool) : (Unit ⊕ Unit) → Tgt
 | (.inl _s) => (Ex.ret, [2], [(2, A.val (V.bool (false)))])
 | (.inr _s) => ((Ex.exit 0), [12, 3], [(12, A.val ((slr false 1 Af) (r17.fst))), (3, A.val ((rP true (Ag false)) (r3)))])
theorem Tf {r3 : SAlgebra} {r4 : List Int × Bool} {r10 : List (List Int) × Bool} {r17 : List Int × Bool} (x16 : Int) (o : Int ⊕ (Unit ⊕ Unit)) (h : Bt r3 r4 r10 r17 x16 = some o) : vc Try.prog Ki (C0 [16, 12, 8, 4, 3] (Gw r3 r4 r10 r17) (Kf r3 r4 r10 r17) o) (Gw r3 r4 r10 r17 x16) := by
 unfold Bt at h
 try dsimp only at h
 conv => whnf
 refine Cells.lit rfl rfl ?_
 conv => whnf
 refine Br.od h (fun p25 h => ?_) (fun p25 h => ?_)
 ·conv => whnf
  refine LoopQ.o [18, 17, 16, 12, 8, 4, 3] (G0 r3 r4 r10 r17 x16) (Ko r3 r4 r10 r17 x16) h (fun s o h => Ta s o h) (by first | rfl | simp [restrict, look, Aa, V.fz, fzL, V.up, upL, Ab, Ac, Ad, slr]) (fun _ => rfl) ?_
  rintro q32_17 h
  try dsimp only at h
  conv => whnf
  refine CallQ.rd V.bool (by first | rfl | simp only [V.fz, V.up, Ab, Ad, slr] | simp [Aa, V.fz, fzL, V.up, upL, Ab, Ac, Ad, slr]) (fun _ => rfl) h (fun r h => Ab9 h) (fun r33 h => ?_)
  conv => whnf
  refine Br.flip ?_
  conv => whnf
  refine Br.ob h (fun p34 h => ?_) (fun p34 h => ?_)
  ·conv => whnf
   refine Ask.o h fun p35 h => ?_
   conv => whnf
   cases h; exact ⟨rfl, rfl⟩
  conv => whnf
  cases h; exact ⟨rfl, rfl⟩
 conv => whnf
 cases h; exact ⟨rfl, rfl⟩
noncomputable def Bv (r3 : SAlgebra) (r44 : List (List Int) × Bool) (x27 : Int) : Int → Option (Int ⊕ (Unit ⊕ Unit)) := fun x28 =>
 ask ((0 : Int) ≤ x27 ∧ x27 < (↑r44.fst.length : Int)) <|
 if x28 < (↑(nth r44.fst x27.toNat).length : Int) then
 ask ((0 : Int) ≤ x27 ∧ x27 < (↑r44.fst.length : Int)) <|
 ask (InI (x28 + (1 : Int))) <|
 ask (0 ≤ x28 ∧ x28 ≤ x28 + (1 : Int) ∧ x28 + (1 : Int) ≤ (((nth r44.fst x27.toNat).length : Nat) : Int)) <|
 (Es (r3) (List.take ((x28 + (1 : Int)).toNat - x28.toNat) (List.drop x28.toNat (nth r44.fst x27.toNat)))).bind fun r56 =>
 if (r56.snd) = true then
 ask ((0 : Int) ≤ x27 ∧ x27 < (↑r44.fst.length : Int)) <|
 (Eb (r56.fst) (nth r44.fst x27.toNat)).bind fun r59 =>
 if (r59) = true then
 ask (InI (x28 + (1 : Int))) <|
 some (.inl (x28 + (1 : Int)))
 else
 some (.inr (.inl ()))
 else
 some (.inr (.inl ()))
 else
 some (.inr (.inr ()))
def Gy (r3 : SAlgebra) (r44 : List (List Int) × Bool) (x27 : Int) : Int → St := fun s => [(28, A.val (Af s)), (27, A.val (Af (x27))), (23, A.val ((slr false 1 (slr false 1 Af)) (r44.fst))), (3, A.val ((rP true (Ag false)) (r3)))]
def Kn (r3 : SAlgebra) (r44 : List (List Int) × Bool) (x27 : Int) : (Unit ⊕ Unit) → Tgt
 | (.inl _s) => (Ex.ret, [2], [(2, A.val (V.bool (false)))])
 | (.inr _s) => ((Ex.exit 6), [27, 23, 3], [(27, A.val (Af (x27))), (23, A.val ((slr false 1 (slr false 1 Af)) (r44.fst))), (3, A.val ((rP true (Ag false)) (r3)))])
theorem Ss {r3 : SAlgebra} {r44 : List (List Int) × Bool} {x27 : Int} (x28 : Int) (o : Int ⊕ (Unit ⊕ Unit)) (h : Bv r3 r44 x27 x28 = some o) : vc Try.prog J7 (C0 [28, 27, 23, 3] (Gy r3 r44 x27) (Kn r3 r44 x27) o) (Gy r3 r44 x27 x28) := by
 unfold Bv at h
 try dsimp only at h
 conv => whnf
 refine Len.map ?_
 conv => whnf
 refine Ask.o h fun p52 h => ?_
 conv => whnf
 refine Elem.o (by first | omega | (simp [As] at *; omega)) ?_
 conv => whnf
 refine Len.map ?_
 conv => whnf
 refine Br.od h (fun p53 h => ?_) (fun p53 h => ?_)
 ·conv => whnf
  refine Cells.lit rfl rfl ?_
  conv => whnf
  refine Len.map ?_
  conv => whnf
  refine Ask.o h fun p54 h => ?_
  conv => whnf
  refine Elem.o (by first | omega | (simp [As] at *; omega)) ?_
  conv => whnf
  refine Ask.o h fun p55 h => ?_
  conv => whnf
  refine SlcQ.o Af h fun h => ?_
  conv => whnf
  refine CallP.o (fun r => V.tup [(slr true 1 Af) r.1, V.bool r.2]) (by first | rfl | simp only [Aa, V.fz, fzL, V.up, upL, Ab, Ac, Ad, slr, List.cons_append, List.nil_append] | simp [Aa, V.fz, fzL, V.up, upL, Ab, Ac, Ad, slr]) h (fun r h => X1 h) (fun r56 h => ?_)
  conv => whnf
  refine Br.flip ?_
  conv => whnf
  refine Br.ob h (fun p57 h => ?_) (fun p57 h => ?_)
  ·conv => whnf
   refine Br.no ?_
   conv => whnf
   refine Br.no ?_
   conv => whnf
   refine Br.no ?_
   conv => whnf
   refine Len.map ?_
   conv => whnf
   refine Ask.o h fun p58 h => ?_
   conv => whnf
   refine Elem.o (by first | omega | (simp [As] at *; omega)) ?_
   conv => whnf
   refine Br.no ?_
   conv => whnf
   refine Br.no ?_
   conv => whnf
   refine CallQ.rd V.bool (by first | rfl | simp only [V.fz, Ab, slr] | simp [Aa, V.fz, fzL, V.up, upL, Ab, Ac, Ad, slr]) (fun _ => rfl) h (fun r h => Nl h) (fun r59 h => ?_)
   conv => whnf
   refine Br.no ?_
   conv => whnf
   refine Br.no ?_
   conv => whnf
   refine Br.flip ?_
   conv => whnf
   refine Br.ob h (fun p60 h => ?_) (fun p60 h => ?_)
   ·conv => whnf
    refine Ask.o h fun p61 h => ?_
    conv => whnf
    cases h; exact ⟨rfl, rfl⟩
   conv => whnf
   cases h; exact ⟨rfl, rfl⟩
  conv => whnf
  refine Br.yes ?_
  conv => whnf
  refine Br.yes ?_
  conv => whnf
  refine Br.yes ?_
  conv => whnf
  refine Br.yes ?_
  conv => whnf
  refine Br.yes ?_
  conv => whnf
  refine Br.yes ?_
  conv => whnf
  refine Br.yes ?_
  conv => whnf
  refine Br.yes ?_
  conv => whnf
  cases h; exact ⟨rfl, rfl⟩
 conv => whnf
 cases h; exact ⟨rfl, rfl⟩
noncomputable def Bq (r3 : SAlgebra) (r44 : List (List Int) × Bool) : Int → Option (Int ⊕ (Unit ⊕ Unit)) := fun x27 =>
 if x27 < (↑r44.fst.length : Int) then
 (Am (Bv r3 r44 x27) (0 : Int)).bind fun t => match t with
 | (.inl _) => (some (.inr (.inl ())))
 | (.inr _) => (ask (InI (x27 + (1 : Int))) <|
 some (.inl (x27 + (1 : Int))))
 else
 some (.inr (.inr ()))
def Gz (r3 : SAlgebra) (r44 : List (List Int) × Bool) : Int → St := fun s => [(27, A.val (Af s)), (23, A.val ((slr false 1 (slr false 1 Af)) (r44.fst))), (3, A.val ((rP true (Ag false)) (r3)))]
def Kl (_r3 : SAlgebra) (_r44 : List (List Int) × Bool) : (Unit ⊕ Unit) → Tgt
 | (.inl _s) => (Ex.ret, [2], [(2, A.val (V.bool (false)))])
 | (.inr _s) => ((Ex.exit 4), [], [])
theorem R4 {r3 : SAlgebra} {r44 : List (List Int) × Bool} (x27 : Int) (o : Int ⊕ (Unit ⊕ Unit)) (h : Bq r3 r44 x27 = some o) : vc Try.prog Ks (C0 [27, 23, 3] (Gz r3 r44) (Kl r3 r44) o) (Gz r3 r44 x27) := by
 unfold Bq at h
 try dsimp only at h
 conv => whnf
 refine Len.map ?_
 conv => whnf
 refine Br.od h (fun p51 h => ?_) (fun p51 h => ?_)
 ·conv => whnf
  refine LoopQ.o [28, 27, 23, 3] (Gy r3 r44 x27) (Kn r3 r44 x27) h (fun s o h => Ss s o h) (by first | rfl | simp [restrict, look, Aa, V.fz, fzL, V.up, upL, Ab, Ac, Ad, slr]) (by rintro (_ | _) <;> rfl) ?_
  rintro (⟨⟩ | ⟨⟩) h
  ·try dsimp only at h
   conv => whnf
   cases h; exact ⟨rfl, rfl⟩
  try dsimp only at h
  conv => whnf
  refine Ask.o h fun p63 h => ?_
  conv => whnf
  cases h; exact ⟨rfl, rfl⟩
 conv => whnf
 cases h; exact ⟨rfl, rfl⟩
noncomputable def Fv (code0 : (List Int)) : Option Bool :=
 (Pj (code0)).bind fun r1 =>
 if (r1) = true then
 some true
 else
 (Cj (code0)).bind fun r3 =>
 (Ca (r3)).bind fun r4 =>
 (((B9 (r3)).bind fun r5 =>
 if (r4.snd == r5.snd) = true then
 (Eb (r4.fst) (r5.fst)).bind fun r7 =>
 if (r7) = true then
 some (.inl ())
 else
 some (.inr ())
 else
 some (.inr ()) : Option (Unit ⊕ Unit))).bind fun t => match t with
 | (.inl _) => ((Cp (r3)).bind fun r10 =>
 (((Cq (r3)).bind fun r11 =>
 if (r10.snd == r11.snd) = true then
 if (r10.snd == r4.snd) = true then
 (Fr (r10.fst) (r11.fst)).bind fun r14 =>
 if (r14) = true then
 some (.inl ())
 else
 some (.inr ())
 else
 some (.inr ())
 else
 some (.inr ()) : Option (Unit ⊕ Unit))).bind fun t => match t with
 | (.inl _) => ((Bf (r3)).bind fun r17 =>
 (((Bh (r3)).bind fun r18 =>
 if (r17.snd == r18.snd) = true then
 if (r17.snd == r4.snd) = true then
 (Eb (r17.fst) (r18.fst)).bind fun r21 =>
 if (r21) = true then
 some (.inl ())
 else
 some (.inr ())
 else
 some (.inr ())
 else
 some (.inr ()) : Option (Unit ⊕ Unit))).bind fun t => match t with
 | (.inl _) => (if (r4.snd) = true then
 (Am (Bt r3 r4 r10 r17) (0 : Int)).bind fun t => match t with
 | (.inl _) => (some false)
 | (.inr _) => ((Ea (r3) (r17.fst)).bind fun r37 =>
 (Dw (r3) (r17.fst)).bind fun r38 =>
 ((if (r37.snd) = true then
 if (r38.snd) = true then
 if (r37.fst) = true then
 if (r38.fst) = true then
 some (.inl ())
 else
 some (.inr ())
 else
 some (.inr ())
 else
 some (.inr ())
 else
 some (.inr ()) : Option (Unit ⊕ Unit))).bind fun t => match t with
 | (.inl _) => ((Eu (r3)).bind fun r44 =>
 (((Et (r3)).bind fun r45 =>
 if (r44.snd == r45.snd) = true then
 if (r44.snd) = true then
 (Fr (r44.fst) (r45.fst)).bind fun r48 =>
 if (r48) = true then
 some (.inl ())
 else
 some (.inr ())
 else
 some (.inr ())
 else
 some (.inr ()) : Option (Unit ⊕ Unit))).bind fun t => match t with
 | (.inl _) => ((Am (Bq r3 r44) (0 : Int)).bind fun t => match t with
 | (.inl _) => (some false)
 | (.inr _) => (some true))
 | (.inr _) => (some false))
 | (.inr _) => (some false))
 else
 some true)
 | (.inr _) => (some false))
 | (.inr _) => (some false))
 | (.inr _) => (some false)
theorem Wp {code0 : (List Int)} {v : Bool} (h : Fv code0 = some v) : Ret Try.prog Nh [(slr false 1 (V.int IntKind.u8)) code0] (V.bool v) := by
 refine A1 W3 (Nat.le_of_ble_eq_true rfl) ?_
 unfold Fv at h
 conv => whnf
 refine CallQ.o V.bool (by first | rfl | simp only [Aa, V.fz, fzL, V.up, upL, Ab, Ac, Ad, slr, List.cons_append, List.nil_append] | simp [Aa, V.fz, fzL, V.up, upL, Ab, Ac, Ad, slr]) h (fun r h => Anm h) (fun r1 h => ?_)
 conv => whnf
 refine Br.ob h (fun p2 h => ?_) (fun p2 h => ?_)
 ·conv => whnf
  cases h; exact (by first | rfl | simp only [Ah, Aa, V.fz, fzL, V.up, upL, Ab, Ac, Ad, slr] | simp [Ah, Aa, V.fz, fzL, V.up, upL, Ab, Ac, Ad, slr])
 conv => whnf
 refine CallQ.o (Ag false) (by first | rfl | simp only [Aa, V.fz, fzL, V.up, upL, Ab, Ac, Ad, slr, List.cons_append, List.nil_append] | simp [Aa, V.fz, fzL, V.up, upL, Ab, Ac, Ad, slr]) h (fun r h => Qh h) (fun r3 h => ?_)
 conv => whnf
 refine SetKids.lit rfl ?_
 conv => whnf
 refine Cells.lit rfl rfl ?_
 conv => whnf
 refine CallQ.o (fun r => V.tup [(slr true 1 Af) r.1, V.bool r.2]) (by first | rfl | simp only [Aa, V.fz, fzL, V.up, upL, Ab, Ac, Ad, slr, List.cons_append, List.nil_append] | simp [Aa, V.fz, fzL, V.up, upL, Ab, Ac, Ad, slr]) h (fun r h => V7 h) (fun r4 h => ?_)
 conv => whnf
 refine CutQ.o (fun t : (Unit ⊕ Unit) => match t with | (.inl s) => (Ex.normal, [5, 4, 3], [(5, A.val (V.bool (r4.snd))), (4, A.val ((slr true 1 Af) (r4.fst))), (3, A.val ((rP true (Ag false)) (r3)))]) | (.inr s) => (Ex.ret, [2], [(2, A.val (V.bool (false)))])) h ?_ ?_
 ·intro t h
  conv => whnf
  refine Cells.lit rfl rfl ?_
  conv => whnf
  refine CallQ.o (fun r => V.tup [(slr true 1 Af) r.1, V.bool r.2]) (by first | rfl | simp only [Aa, V.fz, fzL, V.up, upL, Ab, Ac, Ad, slr, List.cons_append, List.nil_append] | simp [Aa, V.fz, fzL, V.up, upL, Ab, Ac, Ad, slr]) h (fun r h => Vu h) (fun r5 h => ?_)
  conv => whnf
  refine Br.flip ?_
  conv => whnf
  refine Br.ob h (fun p6 h => ?_) (fun p6 h => ?_)
  ·conv => whnf
   refine Br.no ?_
   conv => whnf
   refine Br.no ?_
   conv => whnf
   refine CallQ.rd V.bool (by first | rfl | simp only [V.fz, Ab, slr] | simp [Aa, V.fz, fzL, V.up, upL, Ab, Ac, Ad, slr]) (fun _ => rfl) h (fun r h => Nl h) (fun r7 h => ?_)
   conv => whnf
   refine Br.no ?_
   conv => whnf
   refine Br.no ?_
   conv => whnf
   refine Br.flip ?_
   conv => whnf
   refine Br.ob h (fun p8 h => ?_) (fun p8 h => ?_)
   ·conv => whnf
    cases h; exact ⟨rfl, rfl⟩
   conv => whnf
   cases h; exact ⟨rfl, rfl⟩
  conv => whnf
  refine Br.yes ?_
  conv => whnf
  refine Br.yes ?_
  conv => whnf
  refine Br.yes ?_
  conv => whnf
  refine Br.yes ?_
  conv => whnf
  refine Br.yes ?_
  conv => whnf
  cases h; exact ⟨rfl, rfl⟩
 rintro (⟨⟩ | ⟨⟩) h
 ·try dsimp only at h
  conv => whnf
  refine Cells.lit rfl rfl ?_
  conv => whnf
  refine CallQ.o (fun r => V.tup [(slr true 1 (slr true 1 Af)) r.1, V.bool r.2]) (by first | rfl | simp only [Aa, V.fz, fzL, V.up, upL, Ab, Ac, Ad, slr, List.cons_append, List.nil_append] | simp [Aa, V.fz, fzL, V.up, upL, Ab, Ac, Ad, slr]) h (fun r h => Yf h) (fun r10 h => ?_)
  conv => whnf
  refine CutQ.o (fun t : (Unit ⊕ Unit) => match t with | (.inl s) => (Ex.normal, [8, 5, 4, 3], [(8, A.val ((slr true 1 (slr true 1 Af)) (r10.fst))), (5, A.val (V.bool (r4.snd))), (4, A.val ((slr true 1 Af) (r4.fst))), (3, A.val ((rP true (Ag false)) (r3)))]) | (.inr s) => (Ex.ret, [2], [(2, A.val (V.bool (false)))])) h ?_ ?_
  ·intro t h
   conv => whnf
   refine Cells.lit rfl rfl ?_
   conv => whnf
   refine CallQ.o (fun r => V.tup [(slr false 1 (slr false 1 Af)) r.1, V.bool r.2]) (by first | rfl | simp only [Aa, V.fz, fzL, V.up, upL, Ab, Ac, Ad, slr, List.cons_append, List.nil_append] | simp [Aa, V.fz, fzL, V.up, upL, Ab, Ac, Ad, slr]) h (fun r h => Yk h) (fun r11 h => ?_)
   conv => whnf
   refine Br.flip ?_
   conv => whnf
   refine Br.ob h (fun p12 h => ?_) (fun p12 h => ?_)
   ·conv => whnf
    refine Br.no ?_
    conv => whnf
    refine Br.no ?_
    conv => whnf
    refine Br.no ?_
    conv => whnf
    refine Br.flip ?_
    conv => whnf
    refine Br.ob h (fun p13 h => ?_) (fun p13 h => ?_)
    ·conv => whnf
     refine Br.no ?_
     conv => whnf
     refine Br.no ?_
     conv => whnf
     refine CallQ.rd V.bool (by first | rfl | simp only [V.fz, V.up, Ab, slr] | simp [Aa, V.fz, fzL, V.up, upL, Ab, Ac, Ad, slr]) (fun _ => rfl) h (fun r h => Xd h) (fun r14 h => ?_)
     conv => whnf
     refine Br.no ?_
     conv => whnf
     refine Br.no ?_
     conv => whnf
     refine Br.flip ?_
     conv => whnf
     refine Br.ob h (fun p15 h => ?_) (fun p15 h => ?_)
     ·conv => whnf
      cases h; exact ⟨rfl, rfl⟩
     conv => whnf
     cases h; exact ⟨rfl, rfl⟩
    conv => whnf
    refine Br.yes ?_
    conv => whnf
    refine Br.yes ?_
    conv => whnf
    refine Br.yes ?_
    conv => whnf
    refine Br.yes ?_
    conv => whnf
    refine Br.yes ?_
    conv => whnf
    cases h; exact ⟨rfl, rfl⟩
   conv => whnf
   refine Br.yes ?_
   conv => whnf
   refine Br.yes ?_
   conv => whnf
   refine Br.yes ?_
   conv => whnf
   refine Br.yes ?_
   conv => whnf
   refine Br.yes ?_
   conv => whnf
   refine Br.yes ?_
   conv => whnf
   refine Br.yes ?_
   conv => whnf
   refine Br.yes ?_
   conv => whnf
   refine Br.yes ?_
   conv => whnf
   cases h; exact ⟨rfl, rfl⟩
  rintro (⟨⟩ | ⟨⟩) h
  ·try dsimp only at h
   conv => whnf
   refine Cells.lit rfl rfl ?_
   conv => whnf
   refine CallQ.o (fun r => V.tup [(slr false 1 Af) r.1, V.bool r.2]) (by first | rfl | simp only [Aa, V.fz, fzL, V.up, upL, Ab, Ac, Ad, slr, List.cons_append, List.nil_append] | simp [Aa, V.fz, fzL, V.up, upL, Ab, Ac, Ad, slr]) h (fun r h => Tg h) (fun r17 h => ?_)
   conv => whnf
   refine CutQ.o (fun t : (Unit ⊕ Unit) => match t with | (.inl s) => (Ex.normal, [12, 8, 5, 4, 3], [(12, A.val ((slr false 1 Af) (r17.fst))), (8, A.val ((slr true 1 (slr true 1 Af)) (r10.fst))), (5, A.val (V.bool (r4.snd))), (4, A.val ((slr true 1 Af) (r4.fst))), (3, A.val ((rP true (Ag false)) (r3)))]) | (.inr s) => (Ex.ret, [2], [(2, A.val (V.bool (false)))])) h ?_ ?_
   ·intro t h
    conv => whnf
    refine Cells.lit rfl rfl ?_
    conv => whnf
    refine CallQ.o (fun r => V.tup [(slr true 1 Af) r.1, V.bool r.2]) (by first | rfl | simp only [Aa, V.fz, fzL, V.up, upL, Ab, Ac, Ad, slr, List.cons_append, List.nil_append] | simp [Aa, V.fz, fzL, V.up, upL, Ab, Ac, Ad, slr]) h (fun r h => S6 h) (fun r18 h => ?_)
    conv => whnf
    refine Br.flip ?_
    conv => whnf
    refine Br.ob h (fun p19 h => ?_) (fun p19 h => ?_)
    ·conv => whnf
     refine Br.no ?_
     conv => whnf
     refine Br.no ?_
     conv => whnf
     refine Br.no ?_
     conv => whnf
     refine Br.flip ?_
     conv => whnf
     refine Br.ob h (fun p20 h => ?_) (fun p20 h => ?_)
     ·conv => whnf
      refine Br.no ?_
      conv => whnf
      refine Br.no ?_
      conv => whnf
      refine CallQ.rd V.bool (by first | rfl | simp only [V.fz, V.up, Ab, slr] | simp [Aa, V.fz, fzL, V.up, upL, Ab, Ac, Ad, slr]) (fun _ => rfl) h (fun r h => Nl h) (fun r21 h => ?_)
      conv => whnf
      refine Br.no ?_
      conv => whnf
      refine Br.no ?_
      conv => whnf
      refine Br.flip ?_
      conv => whnf
      refine Br.ob h (fun p22 h => ?_) (fun p22 h => ?_)
      ·conv => whnf
       cases h; exact ⟨rfl, rfl⟩
      conv => whnf
      cases h; exact ⟨rfl, rfl⟩
     conv => whnf
     refine Br.yes ?_
     conv => whnf
     refine Br.yes ?_
     conv => whnf
     refine Br.yes ?_
     conv => whnf
     refine Br.yes ?_
     conv => whnf
     refine Br.yes ?_
     conv => whnf
     cases h; exact ⟨rfl, rfl⟩
    conv => whnf
    refine Br.yes ?_
    conv => whnf
    refine Br.yes ?_
    conv => whnf
    refine Br.yes ?_
    conv => whnf
    refine Br.yes ?_
    conv => whnf
    refine Br.yes ?_
    conv => whnf
    refine Br.yes ?_
    conv => whnf
    refine Br.yes ?_
    conv => whnf
    refine Br.yes ?_
    conv => whnf
    refine Br.yes ?_
    conv => whnf
    cases h; exact ⟨rfl, rfl⟩
   rintro (⟨⟩ | ⟨⟩) h
   ·try dsimp only at h
    conv => whnf
    refine Br.flip ?_
    conv => whnf
    refine Br.ob h (fun p24 h => ?_) (fun p24 h => ?_)
    ·conv => whnf
     refine LoopQ.o [16, 12, 8, 4, 3] (Gw r3 r4 r10 r17) (Kf r3 r4 r10 r17) h (fun s o h => Tf s o h) (by first | rfl | simp [restrict, look, Aa, V.fz, fzL, V.up, upL, Ab, Ac, Ad, slr]) (by rintro (_ | _) <;> rfl) ?_
     rintro (⟨⟩ | ⟨⟩) h
     ·try dsimp only at h
      conv => whnf
      cases h; exact (by first | rfl | simp only [Ah, Aa, V.fz, fzL, V.up, upL, Ab, Ac, Ad, slr] | simp [Ah, Aa, V.fz, fzL, V.up, upL, Ab, Ac, Ad, slr])
     try dsimp only at h
     conv => whnf
     refine Cells.lit rfl rfl ?_
     conv => whnf
     refine CallQ.o (fun r => V.tup [V.bool r.1, V.bool r.2]) (by first | rfl | simp only [Aa, V.fz, fzL, V.up, upL, Ab, Ac, Ad, slr, List.cons_append, List.nil_append] | simp [Aa, V.fz, fzL, V.up, upL, Ab, Ac, Ad, slr]) h (fun r h => Wm h) (fun r37 h => ?_)
     conv => whnf
     refine Cells.lit rfl rfl ?_
     conv => whnf
     refine CallQ.o (fun r => V.tup [V.bool r.1, V.bool r.2]) (by first | rfl | simp only [Aa, V.fz, fzL, V.up, upL, Ab, Ac, Ad, slr, List.cons_append, List.nil_append] | simp [Aa, V.fz, fzL, V.up, upL, Ab, Ac, Ad, slr]) h (fun r h => Uv h) (fun r38 h => ?_)
     conv => whnf
     refine CutQ.o (fun t : (Unit ⊕ Unit) => match t with | (.inl s) => (Ex.normal, [3], [(3, A.val ((rP true (Ag false)) (r3)))]) | (.inr s) => (Ex.ret, [2], [(2, A.val (V.bool (false)))])) h ?_ ?_
     ·intro t h
      conv => whnf
      refine Br.flip ?_
      conv => whnf
      refine Br.ob h (fun p39 h => ?_) (fun p39 h => ?_)
      ·conv => whnf
       refine Br.no ?_
       conv => whnf
       refine Br.no ?_
       conv => whnf
       refine Br.flip ?_
       conv => whnf
       refine Br.ob h (fun p40 h => ?_) (fun p40 h => ?_)
       ·conv => whnf
        refine Br.no ?_
        conv => whnf
        refine Br.no ?_
        conv => whnf
        refine Br.flip ?_
        conv => whnf
        refine Br.ob h (fun p41 h => ?_) (fun p41 h => ?_)
        ·conv => whnf
         refine Br.no ?_
         conv => whnf
         refine Br.no ?_
         conv => whnf
         refine Br.flip ?_
         conv => whnf
         refine Br.ob h (fun p42 h => ?_) (fun p42 h => ?_)
         ·conv => whnf
          cases h; exact ⟨rfl, rfl⟩
         conv => whnf
         cases h; exact ⟨rfl, rfl⟩
        conv => whnf
        refine Br.yes ?_
        conv => whnf
        refine Br.yes ?_
        conv => whnf
        refine Br.yes ?_
        conv => whnf
        cases h; exact ⟨rfl, rfl⟩
       conv => whnf
       refine Br.yes ?_
       conv => whnf
       refine Br.yes ?_
       conv => whnf
       refine Br.yes ?_
       conv => whnf
       refine Br.yes ?_
       conv => whnf
       refine Br.yes ?_
       conv => whnf
       refine Br.yes ?_
       conv => whnf
       cases h; exact ⟨rfl, rfl⟩
      conv => whnf
      refine Br.yes ?_
      conv => whnf
      refine Br.yes ?_
      conv => whnf
      refine Br.yes ?_
      conv => whnf
      refine Br.yes ?_
      conv => whnf
      refine Br.yes ?_
      conv => whnf
      refine Br.yes ?_
      conv => whnf
      refine Br.yes ?_
      conv => whnf
      refine Br.yes ?_
      conv => whnf
      refine Br.yes ?_
      conv => whnf
      cases h; exact ⟨rfl, rfl⟩
     rintro (⟨⟩ | ⟨⟩) h
     ·try dsimp only at h
      conv => whnf
      refine Cells.lit rfl rfl ?_
      conv => whnf
      refine CallQ.o (fun r => V.tup [(slr false 1 (slr false 1 Af)) r.1, V.bool r.2]) (by first | rfl | simp only [Aa, V.fz, fzL, V.up, upL, Ab, Ac, Ad, slr, List.cons_append, List.nil_append] | simp [Aa, V.fz, fzL, V.up, upL, Ab, Ac, Ad, slr]) h (fun r h => Ret.frz (Yi h) (by first | rfl | simp only [V.fz, fzL, Ab, slr] | simp [Aa, V.fz, fzL, V.up, upL, Ab, Ac, Ad, slr])) (fun r44 h => ?_)
      conv => whnf
      refine CutQ.o (fun t : (Unit ⊕ Unit) => match t with | (.inl s) => (Ex.normal, [23, 3], [(23, A.val ((slr false 1 (slr false 1 Af)) (r44.fst))), (3, A.val ((rP true (Ag false)) (r3)))]) | (.inr s) => (Ex.ret, [2], [(2, A.val (V.bool (false)))])) h ?_ ?_
      ·intro t h
       conv => whnf
       refine Cells.lit rfl rfl ?_
       conv => whnf
       refine CallQ.o (fun r => V.tup [(slr false 1 (slr false 1 Af)) r.1, V.bool r.2]) (by first | rfl | simp only [Aa, V.fz, fzL, V.up, upL, Ab, Ac, Ad, slr, List.cons_append, List.nil_append] | simp [Aa, V.fz, fzL, V.up, upL, Ab, Ac, Ad, slr]) h (fun r h => Xl h) (fun r45 h => ?_)
       conv => whnf
       refine Br.flip ?_
       conv => whnf
       refine Br.ob h (fun p46 h => ?_) (fun p46 h => ?_)
       ·conv => whnf
        refine Br.no ?_
        conv => whnf
        refine Br.no ?_
        conv => whnf
        refine Br.flip ?_
        conv => whnf
        refine Br.ob h (fun p47 h => ?_) (fun p47 h => ?_)
        ·conv => whnf
         refine Br.no ?_
         conv => whnf
         refine Br.no ?_
         conv => whnf
         refine CallQ.o V.bool (by first | rfl | simp only [Aa, V.fz, fzL, V.up, upL, Ab, Ac, Ad, slr, List.cons_append, List.nil_append] | simp [Aa, V.fz, fzL, V.up, upL, Ab, Ac, Ad, slr]) h (fun r h => Xd h) (fun r48 h => ?_)
         conv => whnf
         refine Br.no ?_
         conv => whnf
         refine Br.no ?_
         conv => whnf
         refine Br.flip ?_
         conv => whnf
         refine Br.ob h (fun p49 h => ?_) (fun p49 h => ?_)
         ·conv => whnf
          cases h; exact ⟨rfl, rfl⟩
         conv => whnf
         cases h; exact ⟨rfl, rfl⟩
        conv => whnf
        refine Br.yes ?_
        conv => whnf
        refine Br.yes ?_
        conv => whnf
        refine Br.yes ?_
        conv => whnf
        refine Br.yes ?_
        conv => whnf
        refine Br.yes ?_
        conv => whnf
        cases h; exact ⟨rfl, rfl⟩
       conv => whnf
       refine Br.yes ?_
       conv => whnf
       refine Br.yes ?_
       conv => whnf
       refine Br.yes ?_
       conv => whnf
       refine Br.yes ?_
       conv => whnf
       refine Br.yes ?_
       conv => whnf
       refine Br.yes ?_
       conv => whnf
       refine Br.yes ?_
       conv => whnf
       refine Br.yes ?_
       conv => whnf
       cases h; exact ⟨rfl, rfl⟩
      rintro (⟨⟩ | ⟨⟩) h
      ·try dsimp only at h
       conv => whnf
       refine LoopQ.o [27, 23, 3] (Gz r3 r44) (Kl r3 r44) h (fun s o h => R4 s o h) (by first | rfl | simp [restrict, look, Aa, V.fz, fzL, V.up, upL, Ab, Ac, Ad, slr]) (by rintro (_ | _) <;> rfl) ?_
       rintro (⟨⟩ | ⟨⟩) h
       ·try dsimp only at h
        conv => whnf
        cases h; exact (by first | rfl | simp only [Ah, Aa, V.fz, fzL, V.up, upL, Ab, Ac, Ad, slr] | simp [Ah, Aa, V.fz, fzL, V.up, upL, Ab, Ac, Ad, slr])
       try dsimp only at h
       conv => whnf
       cases h; exact (by first | rfl | simp only [Ah, Aa, V.fz, fzL, V.up, upL, Ab, Ac, Ad, slr] | simp [Ah, Aa, V.fz, fzL, V.up, upL, Ab, Ac, Ad, slr])
      try dsimp only at h
      conv => whnf
      cases h; exact (by first | rfl | simp only [Ah, Aa, V.fz, fzL, V.up, upL, Ab, Ac, Ad, slr] | simp [Ah, Aa, V.fz, fzL, V.up, upL, Ab, Ac, Ad, slr])
     try dsimp only at h
     conv => whnf
     cases h; exact (by first | rfl | simp only [Ah, Aa, V.fz, fzL, V.up, upL, Ab, Ac, Ad, slr] | simp [Ah, Aa, V.fz, fzL, V.up, upL, Ab, Ac, Ad, slr])
    conv => whnf
    cases h; exact (by first | rfl | simp only [Ah, Aa, V.fz, fzL, V.up, upL, Ab, Ac, Ad, slr] | simp [Ah, Aa, V.fz, fzL, V.up, upL, Ab, Ac, Ad, slr])
   try dsimp only at h
   conv => whnf
   cases h; exact (by first | rfl | simp only [Ah, Aa, V.fz, fzL, V.up, upL, Ab, Ac, Ad, slr] | simp [Ah, Aa, V.fz, fzL, V.up, upL, Ab, Ac, Ad, slr])
  try dsimp only at h
  conv => whnf
  cases h; exact (by first | rfl | simp only [Ah, Aa, V.fz, fzL, V.up, upL, Ab, Ac, Ad, slr] | simp [Ah, Aa, V.fz, fzL, V.up, upL, Ab, Ac, Ad, slr])
 try dsimp only at h
 conv => whnf
 cases h; exact (by first | rfl | simp only [Ah, Aa, V.fz, fzL, V.up, upL, Ab, Ac, Ad, slr] | simp [Ah, Aa, V.fz, fzL, V.up, upL, Ab, Ac, Ad, slr])
end Go.Proofs.Ytidaaijecmkndaa.Ax
