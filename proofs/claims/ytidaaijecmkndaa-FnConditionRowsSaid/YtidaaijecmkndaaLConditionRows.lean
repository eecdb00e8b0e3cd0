/-
 What the functions compute, as functions on plain data, and that the program does compute it; written by program.
-/
import Derived.Test.YtidaaijecmkndaaCode
import Derived.Test.YtidaaijecmkndaaG1
import Derived.Test.YtidaaijecmkndaaG2
import Derived.Test.YtidaaijecmkndaaG9
import Derived.Test.YtidaaijecmkndaaG10
namespace Go.Proofs.Ytidaaijecmkndaa.Ax
open Go
set_option maxRecDepth 100000
set_option maxHeartbeats 4000000
noncomputable def Bp (_code0 : List Int) (r3 : Int × SOp × SCondition) (_r9 : List Int × Bool) (r17 : List (List Int) × Bool) (x20 : Int) (x21 : Int) (x22 : Int) : (Int × Int) → Option ((Int × Int) ⊕ Int) := fun (x24, x23) =>
 ask ((0 : Int) ≤ x20 ∧ x20 < (↑r17.fst.length : Int)) <|
 if x24 < (↑(nth r17.fst x20.toNat).length : Int) then
 ask ((0 : Int) ≤ x20 ∧ x20 < (↑r17.fst.length : Int)) <|
 ask ((0 : Int) ≤ x24 ∧ x24 < (↑(nth r17.fst x20.toNat).length : Int)) <|
 if nth (nth r17.fst x20.toNat) x24.toNat = (1 : Int) then
 ask (InI (x23 * r3.fst)) <|
 ask (InI (x23 * r3.fst + x22)) <|
 ask (InI (x24 + (1 : Int))) <|
 some (.inl (x24 + (1 : Int), x23 * r3.fst + x22))
 else
 ask (InI (x23 * r3.fst)) <|
 ask (InI (x23 * r3.fst + x21)) <|
 ask (InI (x24 + (1 : Int))) <|
 some (.inl (x24 + (1 : Int), x23 * r3.fst + x21))
 else
 some (.inr x23)
def Eo (code0 : List Int) (r3 : Int × SOp × SCondition) (r9 : List Int × Bool) (r17 : List (List Int) × Bool) (x20 : Int) (x21 : Int) (x22 : Int) : (Int × Int) → St := fun s => [(24, A.val (Ae s.1)), (23, A.val (Ae s.2)), (22, A.val (Ae (x22))), (21, A.val (Ae (x21))), (20, A.val (Ae (x20))), (14, A.val ((slr true 1 (slr true 1 Ae)) (r17.fst))), (10, A.val ((slr true 1 Ae) (r9.fst))), (3, A.val (Ae (r3.fst))), (4, A.val ((rP true (Al false)) (r3.snd.fst))), (0, A.val ((slr false 1 (V.int IntKind.u8)) (code0)))]
def G5 (code0 : List Int) (r3 : Int × SOp × SCondition) (r9 : List Int × Bool) (r17 : List (List Int) × Bool) (x20 : Int) (x21 : Int) (x22 : Int) : Int → Tgt
 | s => ((Ex.exit 6), [23, 22, 21, 20, 14, 10, 3, 4, 0], [(23, A.val (Ae s)), (22, A.val (Ae (x22))), (21, A.val (Ae (x21))), (20, A.val (Ae (x20))), (14, A.val ((slr true 1 (slr true 1 Ae)) (r17.fst))), (10, A.val ((slr true 1 Ae) (r9.fst))), (3, A.val (Ae (r3.fst))), (4, A.val ((rP true (Al false)) (r3.snd.fst))), (0, A.val ((slr false 1 (V.int IntKind.u8)) (code0)))])
theorem Mj {code0 : List Int} {r3 : Int × SOp × SCondition} {r9 : List Int × Bool} {r17 : List (List Int) × Bool} {x20 : Int} {x21 : Int} {x22 : Int} (s : (Int × Int)) (o : (Int × Int) ⊕ Int) (h : Bp code0 r3 r9 r17 x20 x21 x22 s = some o) : vc Try.prog Gv (Er [24, 23, 22, 21, 20, 14, 10, 3, 4, 0] (Eo code0 r3 r9 r17 x20 x21 x22) (G5 code0 r3 r9 r17 x20 x21 x22) o) (Eo code0 r3 r9 r17 x20 x21 x22 s) := by
 obtain ⟨x24, x23⟩ := s
 unfold Bp at h
 try dsimp only at h
 conv => whnf
 refine Len.map ?_
 conv => whnf
 refine Ask.o h fun p34 h => ?_
 conv => whnf
 refine Cells.one (fun _ => ⟨rfl, rfl⟩) (by first | omega | (simp [A1] at *; omega)) ?_
 conv => whnf
 refine Kid.one (fun _ => ⟨rfl, rfl⟩) (by first | omega | (simp [A1] at *; omega)) ?_
 conv => whnf
 refine Len.map ?_
 conv => whnf
 refine Br.od h (fun p35 h => ?_) (fun p35 h => ?_)
 ·conv => whnf
  refine Len.map ?_
  conv => whnf
  refine Ask.o h fun p36 h => ?_
  conv => whnf
  refine Cells.one (fun _ => ⟨rfl, rfl⟩) (by first | omega | (simp [A1] at *; omega)) ?_
  conv => whnf
  refine Kid.one (fun _ => ⟨rfl, rfl⟩) (by first | omega | (simp [A1] at *; omega)) ?_
  conv => whnf
  refine Len.map ?_
  conv => whnf
  refine Ask.o h fun p37 h => ?_
  conv => whnf
  refine Kid.one (fun _ => ⟨rfl, rfl⟩) (by first | omega | (simp [A1] at *; omega)) ?_
  conv => whnf
  refine Cells.one (fun _ => ⟨rfl, rfl⟩) (by first | omega | (simp [A1] at *; omega)) ?_
  conv => whnf
  refine Br.oe h (fun p38 h => ?_) (fun p38 h => ?_)
  ·conv => whnf
   refine Ask.o h fun p39 h => ?_
   conv => whnf
   refine Ask.o h fun p40 h => ?_
   conv => whnf
   refine Ask.o h fun p41 h => ?_
   conv => whnf
   cases h; exact ⟨rfl, rfl⟩
  conv => whnf
  refine Ask.o h fun p42 h => ?_
  conv => whnf
  refine Ask.o h fun p43 h => ?_
  conv => whnf
  refine Ask.o h fun p44 h => ?_
  conv => whnf
  cases h; exact ⟨rfl, rfl⟩
 conv => whnf
 cases h; exact ⟨rfl, rfl⟩
noncomputable def Bj (code0 : List Int) (r3 : Int × SOp × SCondition) (r9 : List Int × Bool) (r17 : List (List Int) × Bool) (x20 : Int) (x21 : Int) : Int → Option (Int ⊕ (Unit ⊕ Unit)) := fun x22 =>
 if x22 < r3.fst then
 (Aw (Bp code0 r3 r9 r17 x20 x21 x22) ((0 : Int), (0 : Int))).bind fun q45_23 =>
 ask (InI (x20 * r3.fst)) <|
 ask (InI (x20 * r3.fst * r3.fst)) <|
 ask (InI (x21 * r3.fst)) <|
 ask (InI (x20 * r3.fst * r3.fst + x21 * r3.fst)) <|
 ask (InI (x20 * r3.fst * r3.fst + x21 * r3.fst + x22)) <|
 ask ((0 : Int) ≤ x20 * r3.fst * r3.fst + x21 * r3.fst + x22 ∧ x20 * r3.fst * r3.fst + x21 * r3.fst + x22 < (↑r9.fst.length : Int)) <|
 ask ((0 : Int) ≤ q45_23 ∧ q45_23 < (↑r3.snd.fst.Table.length : Int)) <|
 if nth r9.fst (x20 * r3.fst * r3.fst + x21 * r3.fst + x22).toNat ≠ nth r3.snd.fst.Table q45_23.toNat then
 some (.inr (.inl ()))
 else
 ask (InI (x22 + (1 : Int))) <|
 some (.inl (x22 + (1 : Int)))
 else
 some (.inr (.inr ()))
def Et (code0 : List Int) (r3 : Int × SOp × SCondition) (r9 : List Int × Bool) (r17 : List (List Int) × Bool) (x20 : Int) (x21 : Int) : Int → St := fun s => [(22, A.val (Ae s)), (21, A.val (Ae (x21))), (20, A.val (Ae (x20))), (14, A.val ((slr true 1 (slr true 1 Ae)) (r17.fst))), (10, A.val ((slr true 1 Ae) (r9.fst))), (3, A.val (Ae (r3.fst))), (4, A.val ((rP true (Al false)) (r3.snd.fst))), (0, A.val ((slr false 1 (V.int IntKind.u8)) (code0)))]
def Ha (code0 : List Int) (r3 : Int × SOp × SCondition) (r9 : List Int × Bool) (r17 : List (List Int) × Bool) (x20 : Int) (x21 : Int) : (Unit ⊕ Unit) → Tgt
 | (.inl _s) => (Ex.ret, [2], [(2, A.val (V.bool (false)))])
 | (.inr _s) => ((Ex.exit 4), [21, 20, 14, 10, 3, 4, 0], [(21, A.val (Ae (x21))), (20, A.val (Ae (x20))), (14, A.val ((slr true 1 (slr true 1 Ae)) (r17.fst))), (10, A.val ((slr true 1 Ae) (r9.fst))), (3, A.val (Ae (r3.fst))), (4, A.val ((rP true (Al false)) (r3.snd.fst))), (0, A.val ((slr false 1 (V.int IntKind.u8)) (code0)))])
theorem Mk {code0 : List Int} {r3 : Int × SOp × SCondition} {r9 : List Int × Bool} {r17 : List (List Int) × Bool} {x20 : Int} {x21 : Int} (x22 : Int) (o : Int ⊕ (Unit ⊕ Unit)) (h : Bj code0 r3 r9 r17 x20 x21 x22 = some o) : vc Try.prog G3 (Er [22, 21, 20, 14, 10, 3, 4, 0] (Et code0 r3 r9 r17 x20 x21) (Ha code0 r3 r9 r17 x20 x21) o) (Et code0 r3 r9 r17 x20 x21 x22) := by
 unfold Bj at h
 try dsimp only at h
 conv => whnf
 refine Br.od h (fun p33 h => ?_) (fun p33 h => ?_)
 ·conv => whnf
  refine LoopQ.o [24, 23, 22, 21, 20, 14, 10, 3, 4, 0] (Eo code0 r3 r9 r17 x20 x21 x22) (G5 code0 r3 r9 r17 x20 x21 x22) h (fun s o h => Mj s o h) (by first | rfl | simp [restrict, look, Aa, V.fz, fzL, V.up, upL, Ab, Ac, Ad, slr]) (fun _ => rfl) ?_
  rintro q45_23 h
  try dsimp only at h
  conv => whnf
  refine Ask.o h fun p46 h => ?_
  conv => whnf
  refine Ask.o h fun p47 h => ?_
  conv => whnf
  refine Ask.o h fun p48 h => ?_
  conv => whnf
  refine Ask.o h fun p49 h => ?_
  conv => whnf
  refine Ask.o h fun p50 h => ?_
  conv => whnf
  refine Len.map ?_
  conv => whnf
  refine Ask.o h fun p51 h => ?_
  conv => whnf
  refine Cells.one (fun _ => ⟨rfl, rfl⟩) (by first | omega | (simp [A1] at *; omega)) ?_
  conv => whnf
  refine Cells.lit rfl rfl ?_
  conv => whnf
  refine Len.map ?_
  conv => whnf
  refine Ask.o h fun p52 h => ?_
  conv => whnf
  refine Elem.o (by first | omega | (simp [A1] at *; omega)) ?_
  conv => whnf
  refine Br.on h (fun p53 h => ?_) (fun p53 h => ?_)
  ·conv => whnf
   cases h; exact ⟨rfl, rfl⟩
  conv => whnf
  refine Ask.o h fun p54 h => ?_
  conv => whnf
  cases h; exact ⟨rfl, rfl⟩
 conv => whnf
 cases h; exact ⟨rfl, rfl⟩
noncomputable def Bi (code0 : List Int) (r3 : Int × SOp × SCondition) (r9 : List Int × Bool) (r17 : List (List Int) × Bool) (x20 : Int) : Int → Option (Int ⊕ (Unit ⊕ Unit)) := fun x21 =>
 if x21 < r3.fst then
 (Aw (Bj code0 r3 r9 r17 x20 x21) (0 : Int)).bind fun t => match t with
 | (.inl _) => (some (.inr (.inl ())))
 | (.inr _) => (ask (InI (x21 + (1 : Int))) <|
 some (.inl (x21 + (1 : Int))))
 else
 some (.inr (.inr ()))
def En (code0 : List Int) (r3 : Int × SOp × SCondition) (r9 : List Int × Bool) (r17 : List (List Int) × Bool) (x20 : Int) : Int → St := fun s => [(21, A.val (Ae s)), (20, A.val (Ae (x20))), (14, A.val ((slr true 1 (slr true 1 Ae)) (r17.fst))), (10, A.val ((slr true 1 Ae) (r9.fst))), (3, A.val (Ae (r3.fst))), (4, A.val ((rP true (Al false)) (r3.snd.fst))), (0, A.val ((slr false 1 (V.int IntKind.u8)) (code0)))]
def G9 (code0 : List Int) (r3 : Int × SOp × SCondition) (r9 : List Int × Bool) (r17 : List (List Int) × Bool) (x20 : Int) : (Unit ⊕ Unit) → Tgt
 | (.inl _s) => (Ex.ret, [2], [(2, A.val (V.bool (false)))])
 | (.inr _s) => ((Ex.exit 2), [20, 14, 10, 3, 4, 0], [(20, A.val (Ae (x20))), (14, A.val ((slr true 1 (slr true 1 Ae)) (r17.fst))), (10, A.val ((slr true 1 Ae) (r9.fst))), (3, A.val (Ae (r3.fst))), (4, A.val ((rP true (Al false)) (r3.snd.fst))), (0, A.val ((slr false 1 (V.int IntKind.u8)) (code0)))])
theorem Mm {code0 : List Int} {r3 : Int × SOp × SCondition} {r9 : List Int × Bool} {r17 : List (List Int) × Bool} {x20 : Int} (x21 : Int) (o : Int ⊕ (Unit ⊕ Unit)) (h : Bi code0 r3 r9 r17 x20 x21 = some o) : vc Try.prog Gw (Er [21, 20, 14, 10, 3, 4, 0] (En code0 r3 r9 r17 x20) (G9 code0 r3 r9 r17 x20) o) (En code0 r3 r9 r17 x20 x21) := by
 unfold Bi at h
 try dsimp only at h
 conv => whnf
 refine Br.od h (fun p32 h => ?_) (fun p32 h => ?_)
 ·conv => whnf
  refine LoopQ.o [22, 21, 20, 14, 10, 3, 4, 0] (Et code0 r3 r9 r17 x20 x21) (Ha code0 r3 r9 r17 x20 x21) h (fun s o h => Mk s o h) (by first | rfl | simp [restrict, look, Aa, V.fz, fzL, V.up, upL, Ab, Ac, Ad, slr]) (by rintro (_ | _) <;> rfl) ?_
  rintro (⟨⟩ | ⟨⟩) h
  ·try dsimp only at h
   conv => whnf
   cases h; exact ⟨rfl, rfl⟩
  try dsimp only at h
  conv => whnf
  refine Ask.o h fun p56 h => ?_
  conv => whnf
  cases h; exact ⟨rfl, rfl⟩
 conv => whnf
 cases h; exact ⟨rfl, rfl⟩
noncomputable def Bh (code0 : List Int) (r3 : Int × SOp × SCondition) (r9 : List Int × Bool) (r17 : List (List Int) × Bool) : Int → Option (Int ⊕ (Unit ⊕ Unit)) := fun x20 =>
 if x20 < (↑r17.fst.length : Int) then
 (Aw (Bi code0 r3 r9 r17 x20) (0 : Int)).bind fun t => match t with
 | (.inl _) => (some (.inr (.inl ())))
 | (.inr _) => (ask (InI (x20 + (1 : Int))) <|
 some (.inl (x20 + (1 : Int))))
 else
 some (.inr (.inr ()))
def Em (code0 : List Int) (r3 : Int × SOp × SCondition) (r9 : List Int × Bool) (r17 : List (List Int) × Bool) : Int → St := fun s => [(20, A.val (Ae s)), (14, A.val ((slr true 1 (slr true 1 Ae)) (r17.fst))), (10, A.val ((slr true 1 Ae) (r9.fst))), (3, A.val (Ae (r3.fst))), (4, A.val ((rP true (Al false)) (r3.snd.fst))), (0, A.val ((slr false 1 (V.int IntKind.u8)) (code0)))]
def G1 (code0 : List Int) (_r3 : Int × SOp × SCondition) (_r9 : List Int × Bool) (_r17 : List (List Int) × Bool) : (Unit ⊕ Unit) → Tgt
 | (.inl _s) => (Ex.ret, [2], [(2, A.val (V.bool (false)))])
 | (.inr _s) => ((Ex.exit 0), [0], [(0, A.val ((slr false 1 (V.int IntKind.u8)) (code0)))])
theorem Md {code0 : List Int} {r3 : Int × SOp × SCondition} {r9 : List Int × Bool} {r17 : List (List Int) × Bool} (x20 : Int) (o : Int ⊕ (Unit ⊕ Unit)) (h : Bh code0 r3 r9 r17 x20 = some o) : vc Try.prog Hc (Er [20, 14, 10, 3, 4, 0] (Em code0 r3 r9 r17) (G1 code0 r3 r9 r17) o) (Em code0 r3 r9 r17 x20) := by
 unfold Bh at h
 try dsimp only at h
 conv => whnf
 refine Len.map ?_
 conv => whnf
 refine Br.od h (fun p31 h => ?_) (fun p31 h => ?_)
 ·conv => whnf
  refine LoopQ.o [21, 20, 14, 10, 3, 4, 0] (En code0 r3 r9 r17 x20) (G9 code0 r3 r9 r17 x20) h (fun s o h => Mm s o h) (by first | rfl | simp [restrict, look, Aa, V.fz, fzL, V.up, upL, Ab, Ac, Ad, slr]) (by rintro (_ | _) <;> rfl) ?_
  rintro (⟨⟩ | ⟨⟩) h
  ·try dsimp only at h
   conv => whnf
   cases h; exact ⟨rfl, rfl⟩
  try dsimp only at h
  conv => whnf
  refine Ask.o h fun p58 h => ?_
  conv => whnf
  cases h; exact ⟨rfl, rfl⟩
 conv => whnf
 cases h; exact ⟨rfl, rfl⟩
noncomputable def D1 (code0 : (List Int)) : Option Bool :=
 (Nd (code0)).bind fun r1 =>
 if (r1) = true then
 some true
 else
 (D9 (code0)).bind fun r3 =>
 (Iy (r3.fst) (r3.snd.fst) (r3.snd.snd)).bind fun r4 =>
 (((Il (r3.fst) (r3.snd.fst) (r3.snd.snd)).bind fun r5 =>
 if (r4.fst == r5.fst) = true then
 if (r4.snd == r5.snd) = true then
 some (.inl ())
 else
 some (.inr ())
 else
 some (.inr ()) : Option (Unit ⊕ Unit))).bind fun t => match t with
 | (.inl _) => ((Di (r3.fst) (r3.snd.fst) (r3.snd.snd)).bind fun r9 =>
 (((Dg (r3.fst) (r3.snd.fst) (r3.snd.snd)).bind fun r10 =>
 if (r9.snd == r10.snd) = true then
 if (r9.snd == r4.snd) = true then
 (E9 (r9.fst) (r10.fst)).bind fun r13 =>
 if (r13) = true then
 some (.inl ())
 else
 some (.inr ())
 else
 some (.inr ())
 else
 some (.inr ()) : Option (Unit ⊕ Unit))).bind fun t => match t with
 | (.inl _) => (((if (r4.snd) = true then
 (E6 (r3.snd.snd)).bind fun r17 =>
 (((Fa (r3.snd.snd)).bind fun r18 =>
 if (r17.snd == r18.snd) = true then
 if (r17.snd) = true then
 (F4 (r17.fst) (r18.fst)).bind fun r21 =>
 if (r21) = true then
 ask (InI ((↑r17.fst.length : Int) * r3.fst)) <|
 ask (InI ((↑r17.fst.length : Int) * r3.fst * r3.fst)) <|
 if (↑r9.fst.length : Int) ≠ (↑r17.fst.length : Int) * r3.fst * r3.fst then
 some (.inl ())
 else
 some (.inr ())
 else
 some (.inl ())
 else
 some (.inl ())
 else
 some (.inl ()) : Option (Unit ⊕ Unit))).bind fun t => match t with
 | (.inl _) => (some (.inl ()))
 | (.inr _) => ((((E4 (r3.fst) (r9.fst) (r3.snd.snd)).bind fun r27 =>
 if (r27.snd) = true then
 if (r27.fst == r4.fst) = true then
 some (.inl ())
 else
 some (.inr ())
 else
 some (.inr ()) : Option (Unit ⊕ Unit))).bind fun t => match t with
 | (.inl _) => ((Aw (Bh code0 r3 r9 r17) (0 : Int)).bind fun t => match t with
 | (.inl _) => (some (.inl ()))
 | (.inr _) => (some (.inr ())))
 | (.inr _) => (some (.inl ())))
 else
 some (.inr ()) : Option (Unit ⊕ Unit))).bind fun t => match t with
 | (.inl _) => (some false)
 | (.inr _) => ((Dz (code0)).bind fun r61 =>
 (E4 (r61.fst) (r61.snd.fst) (r61.snd.snd)).bind fun r62 =>
 (F2 (r61.fst) (r61.snd.fst) (r61.snd.snd)).bind fun r63 =>
 if (r62.fst == r63.fst) = true then
 some (r62.snd == r63.snd)
 else
 some false))
 | (.inr _) => (some false))
 | (.inr _) => (some false)
theorem Pg {code0 : (List Int)} {v : Bool} (h : D1 code0 = some v) : Ret Try.prog I7 [(slr false 1 (V.int IntKind.u8)) code0] (V.bool v) := by
 refine Bg Ow (Nat.le_of_ble_eq_true rfl) ?_
 unfold D1 at h
 conv => whnf
 refine CallQ.o V.bool (by first | rfl | simp only [Aa, V.fz, fzL, V.up, upL, Ab, Ac, Ad, slr, List.cons_append, List.nil_append] | simp [Aa, V.fz, fzL, V.up, upL, Ab, Ac, Ad, slr]) h (fun r h => Af5 h) (fun r1 h => ?_)
 conv => whnf
 refine Br.ob h (fun p2 h => ?_) (fun p2 h => ?_)
 ·conv => whnf
  cases h; exact (by first | rfl | simp only [Ah, Aa, V.fz, fzL, V.up, upL, Ab, Ac, Ad, slr] | simp [Ah, Aa, V.fz, fzL, V.up, upL, Ab, Ac, Ad, slr])
 conv => whnf
 refine CallQ.o (fun r => V.tup [Ae r.1, (Al false) r.2.1, (Ag false) r.2.2]) (by first | rfl | simp only [Aa, V.fz, fzL, V.up, upL, Ab, Ac, Ad, slr, List.cons_append, List.nil_append] | simp [Aa, V.fz, fzL, V.up, upL, Ab, Ac, Ad, slr]) h (fun r h => Oa h) (fun r3 h => ?_)
 conv => whnf
 refine SetKids.lit rfl ?_
 conv => whnf
 refine SetKids.lit rfl ?_
 conv => whnf
 refine Cells.lit rfl rfl ?_
 conv => whnf
 refine Cells.lit rfl rfl ?_
 conv => whnf
 refine CallQ.o (fun r => V.tup [V.bool r.1, V.bool r.2]) (by first | rfl | simp only [Aa, V.fz, fzL, V.up, upL, Ab, Ac, Ad, slr, List.cons_append, List.nil_append] | simp [Aa, V.fz, fzL, V.up, upL, Ab, Ac, Ad, slr]) h (fun r h => Adq h) (fun r4 h => ?_)
 conv => whnf
 refine CutQ.o (fun t : (Unit ⊕ Unit) => match t with | (.inl s) => (Ex.normal, [7, 6, 3, 5, 4, 0], [(7, A.val (V.bool (r4.snd))), (6, A.val (V.bool (r4.fst))), (3, A.val (Ae (r3.fst))), (5, A.val ((rP true (Ag false)) (r3.snd.snd))), (4, A.val ((rP true (Al false)) (r3.snd.fst))), (0, A.val ((slr false 1 (V.int IntKind.u8)) (code0)))]) | (.inr s) => (Ex.ret, [2], [(2, A.val (V.bool (false)))])) h ?_ ?_
 ·intro t h
  conv => whnf
  refine Cells.lit rfl rfl ?_
  conv => whnf
  refine Cells.lit rfl rfl ?_
  conv => whnf
  refine CallQ.o (fun r => V.tup [V.bool r.1, V.bool r.2]) (by first | rfl | simp only [Aa, V.fz, fzL, V.up, upL, Ab, Ac, Ad, slr, List.cons_append, List.nil_append] | simp [Aa, V.fz, fzL, V.up, upL, Ab, Ac, Ad, slr]) h (fun r h => Acx h) (fun r5 h => ?_)
  conv => whnf
  refine Br.flip ?_
  conv => whnf
  refine Br.ob h (fun p6 h => ?_) (fun p6 h => ?_)
  ·conv => whnf
   refine Br.no ?_
   conv => whnf
   refine Br.no ?_
   conv => whnf
   refine Br.no ?_
   conv => whnf
   refine Br.flip ?_
   conv => whnf
   refine Br.ob h (fun p7 h => ?_) (fun p7 h => ?_)
   ·conv => whnf
    cases h; exact ⟨rfl, rfl⟩
   conv => whnf
   cases h; exact ⟨rfl, rfl⟩
  conv => whnf
  refine Br.yes ?_
  conv => whnf
  refine Br.yes ?_
  conv => whnf
  refine Br.yes ?_
  conv => whnf
  refine Br.yes ?_
  conv => whnf
  cases h; exact ⟨rfl, rfl⟩
 rintro (⟨⟩ | ⟨⟩) h
 ·try dsimp only at h
  conv => whnf
  refine Cells.lit rfl rfl ?_
  conv => whnf
  refine Cells.lit rfl rfl ?_
  conv => whnf
  refine CallQ.o (fun r => V.tup [(slr true 1 Ae) r.1, V.bool r.2]) (by first | rfl | simp only [Aa, V.fz, fzL, V.up, upL, Ab, Ac, Ad, slr, List.cons_append, List.nil_append] | simp [Aa, V.fz, fzL, V.up, upL, Ab, Ac, Ad, slr]) h (fun r h => Qu h) (fun r9 h => ?_)
  conv => whnf
  refine CutQ.o (fun t : (Unit ⊕ Unit) => match t with | (.inl s) => (Ex.normal, [10, 7, 6, 3, 5, 4, 0], [(10, A.val ((slr true 1 Ae) (r9.fst))), (7, A.val (V.bool (r4.snd))), (6, A.val (V.bool (r4.fst))), (3, A.val (Ae (r3.fst))), (5, A.val ((rP true (Ag false)) (r3.snd.snd))), (4, A.val ((rP true (Al false)) (r3.snd.fst))), (0, A.val ((slr false 1 (V.int IntKind.u8)) (code0)))]) | (.inr s) => (Ex.ret, [2], [(2, A.val (V.bool (false)))])) h ?_ ?_
  ·intro t h
   conv => whnf
   refine Cells.lit rfl rfl ?_
   conv => whnf
   refine Cells.lit rfl rfl ?_
   conv => whnf
   refine CallQ.o (fun r => V.tup [(slr true 1 Ae) r.1, V.bool r.2]) (by first | rfl | simp only [Aa, V.fz, fzL, V.up, upL, Ab, Ac, Ad, slr, List.cons_append, List.nil_append] | simp [Aa, V.fz, fzL, V.up, upL, Ab, Ac, Ad, slr]) h (fun r h => Re h) (fun r10 h => ?_)
   conv => whnf
   refine Br.flip ?_
   conv => whnf
   refine Br.ob h (fun p11 h => ?_) (fun p11 h => ?_)
   ·conv => whnf
    refine Br.no ?_
    conv => whnf
    refine Br.no ?_
    conv => whnf
    refine Br.no ?_
    conv => whnf
    refine Br.flip ?_
    conv => whnf
    refine Br.ob h (fun p12 h => ?_) (fun p12 h => ?_)
    ·conv => whnf
     refine Br.no ?_
     conv => whnf
     refine Br.no ?_
     conv => whnf
     refine CallQ.rd V.bool (by first | rfl | simp only [V.fz, Ab, slr] | simp [Aa, V.fz, fzL, V.up, upL, Ab, Ac, Ad, slr]) (fun _ => rfl) h (fun r h => Vj h) (fun r13 h => ?_)
     conv => whnf
     refine Br.no ?_
     conv => whnf
     refine Br.no ?_
     conv => whnf
     refine Br.flip ?_
     conv => whnf
     refine Br.ob h (fun p14 h => ?_) (fun p14 h => ?_)
     ·conv => whnf
      cases h; exact ⟨rfl, rfl⟩
     conv => whnf
     cases h; exact ⟨rfl, rfl⟩
    conv => whnf
    refine Br.yes ?_
    conv => whnf
    refine Br.yes ?_
    conv => whnf
    refine Br.yes ?_
    conv => whnf
    refine Br.yes ?_
    conv => whnf
    refine Br.yes ?_
    conv => whnf
    cases h; exact ⟨rfl, rfl⟩
   conv => whnf
   refine Br.yes ?_
   conv => whnf
   refine Br.yes ?_
   conv => whnf
   refine Br.yes ?_
   conv => whnf
   refine Br.yes ?_
   conv => whnf
   refine Br.yes ?_
   conv => whnf
   refine Br.yes ?_
   conv => whnf
   refine Br.yes ?_
   conv => whnf
   refine Br.yes ?_
   conv => whnf
   refine Br.yes ?_
   conv => whnf
   cases h; exact ⟨rfl, rfl⟩
  rintro (⟨⟩ | ⟨⟩) h
  ·try dsimp only at h
   conv => whnf
   refine CutQ.o (fun t : (Unit ⊕ Unit) => match t with | (.inl s) => (Ex.ret, [2], [(2, A.val (V.bool (false)))]) | (.inr s) => (Ex.normal, [0], [(0, A.val ((slr false 1 (V.int IntKind.u8)) (code0)))])) h ?_ ?_
   ·intro t h
    conv => whnf
    refine Br.ob h (fun p16 h => ?_) (fun p16 h => ?_)
    ·conv => whnf
     refine Cells.lit rfl rfl ?_
     conv => whnf
     refine CallQ.o (fun r => V.tup [(slr true 1 (slr true 1 Ae)) r.1, V.bool r.2]) (by first | rfl | simp only [Aa, V.fz, fzL, V.up, upL, Ab, Ac, Ad, slr, List.cons_append, List.nil_append] | simp [Aa, V.fz, fzL, V.up, upL, Ab, Ac, Ad, slr]) h (fun r h => U9 h) (fun r17 h => ?_)
     conv => whnf
     refine CutQ.o (fun t : (Unit ⊕ Unit) => match t with | (.inl s) => (Ex.ret, [2], [(2, A.val (V.bool (false)))]) | (.inr s) => (Ex.normal, [14, 10, 6, 3, 5, 4, 0], [(14, A.val ((slr true 1 (slr true 1 Ae)) (r17.fst))), (10, A.val ((slr true 1 Ae) (r9.fst))), (6, A.val (V.bool (r4.fst))), (3, A.val (Ae (r3.fst))), (5, A.val ((rP true (Ag false)) (r3.snd.snd))), (4, A.val ((rP true (Al false)) (r3.snd.fst))), (0, A.val ((slr false 1 (V.int IntKind.u8)) (code0)))])) h ?_ ?_
     ·intro t h
      conv => whnf
      refine Cells.lit rfl rfl ?_
      conv => whnf
      refine CallQ.o (fun r => V.tup [(slr true 1 (slr true 1 Ae)) r.1, V.bool r.2]) (by first | rfl | simp only [Aa, V.fz, fzL, V.up, upL, Ab, Ac, Ad, slr, List.cons_append, List.nil_append] | simp [Aa, V.fz, fzL, V.up, upL, Ab, Ac, Ad, slr]) h (fun r h => Ut h) (fun r18 h => ?_)
      conv => whnf
      refine Br.flip ?_
      conv => whnf
      refine Br.ob h (fun p19 h => ?_) (fun p19 h => ?_)
      ·conv => whnf
       refine Br.no ?_
       conv => whnf
       refine Br.no ?_
       conv => whnf
       refine Br.flip ?_
       conv => whnf
       refine Br.ob h (fun p20 h => ?_) (fun p20 h => ?_)
       ·conv => whnf
        refine Br.no ?_
        conv => whnf
        refine Br.no ?_
        conv => whnf
        refine CallQ.rd V.bool (by first | rfl | simp only [V.fz, Ab, slr] | simp [Aa, V.fz, fzL, V.up, upL, Ab, Ac, Ad, slr]) (fun _ => rfl) h (fun r h => Abs h) (fun r21 h => ?_)
        conv => whnf
        refine Br.no ?_
        conv => whnf
        refine Br.no ?_
        conv => whnf
        refine Br.flip ?_
        conv => whnf
        refine Br.ob h (fun p22 h => ?_) (fun p22 h => ?_)
        ·conv => whnf
         refine Br.no ?_
         conv => whnf
         refine Len.map ?_
         conv => whnf
         refine Br.no ?_
         conv => whnf
         refine Br.no ?_
         conv => whnf
         refine Len.map ?_
         conv => whnf
         refine Br.no ?_
         conv => whnf
         refine Br.no ?_
         conv => whnf
         refine Ask.o h fun p23 h => ?_
         conv => whnf
         refine Br.no ?_
         conv => whnf
         refine Br.no ?_
         conv => whnf
         refine Ask.o h fun p24 h => ?_
         conv => whnf
         refine Br.no ?_
         conv => whnf
         refine Br.no ?_
         conv => whnf
         refine Br.on h (fun p25 h => ?_) (fun p25 h => ?_)
         ·conv => whnf
          cases h; exact ⟨rfl, rfl⟩
         conv => whnf
         cases h; exact ⟨rfl, rfl⟩
        conv => whnf
        refine Br.yes ?_
        conv => whnf
        refine Br.yes ?_
        conv => whnf
        refine Br.yes ?_
        conv => whnf
        refine Br.yes ?_
        conv => whnf
        refine Br.yes ?_
        conv => whnf
        refine Br.yes ?_
        conv => whnf
        refine Br.yes ?_
        conv => whnf
        refine Br.yes ?_
        conv => whnf
        refine Br.yes ?_
        conv => whnf
        refine Br.yes ?_
        conv => whnf
        cases h; exact ⟨rfl, rfl⟩
       conv => whnf
       refine Br.yes ?_
       conv => whnf
       refine Br.yes ?_
       conv => whnf
       refine Br.yes ?_
       conv => whnf
       refine Br.yes ?_
       conv => whnf
       refine Br.yes ?_
       conv => whnf
       refine Br.yes ?_
       conv => whnf
       refine Br.yes ?_
       conv => whnf
       refine Br.yes ?_
       conv => whnf
       refine Br.yes ?_
       conv => whnf
       refine Br.yes ?_
       conv => whnf
       refine Br.yes ?_
       conv => whnf
       refine Br.yes ?_
       conv => whnf
       refine Br.yes ?_
       conv => whnf
       refine Br.yes ?_
       conv => whnf
       refine Br.yes ?_
       conv => whnf
       cases h; exact ⟨rfl, rfl⟩
      conv => whnf
      refine Br.yes ?_
      conv => whnf
      refine Br.yes ?_
      conv => whnf
      refine Br.yes ?_
      conv => whnf
      refine Br.yes ?_
      conv => whnf
      refine Br.yes ?_
      conv => whnf
      refine Br.yes ?_
      conv => whnf
      refine Br.yes ?_
      conv => whnf
      refine Br.yes ?_
      conv => whnf
      refine Br.yes ?_
      conv => whnf
      refine Br.yes ?_
      conv => whnf
      refine Br.yes ?_
      conv => whnf
      refine Br.yes ?_
      conv => whnf
      refine Br.yes ?_
      conv => whnf
      refine Br.yes ?_
      conv => whnf
      refine Br.yes ?_
      conv => whnf
      refine Br.yes ?_
      conv => whnf
      refine Br.yes ?_
      conv => whnf
      refine Br.yes ?_
      conv => whnf
      cases h; exact ⟨rfl, rfl⟩
     rintro (⟨⟩ | ⟨⟩) h
     ·try dsimp only at h
      conv => whnf
      cases h; exact ⟨rfl, rfl⟩
     try dsimp only at h
     conv => whnf
     refine CutQ.o (fun t : (Unit ⊕ Unit) => match t with | (.inl s) => (Ex.normal, [14, 10, 3, 4, 0], [(14, A.val ((slr true 1 (slr true 1 Ae)) (r17.fst))), (10, A.val ((slr true 1 Ae) (r9.fst))), (3, A.val (Ae (r3.fst))), (4, A.val ((rP true (Al false)) (r3.snd.fst))), (0, A.val ((slr false 1 (V.int IntKind.u8)) (code0)))]) | (.inr s) => (Ex.ret, [2], [(2, A.val (V.bool (false)))])) h ?_ ?_
     ·intro t h
      conv => whnf
      refine Cells.lit rfl rfl ?_
      conv => whnf
      refine CallQ.rd (fun r => V.tup [V.bool r.1, V.bool r.2]) (by first | rfl | simp only [V.fz, fzL, V.up, Ab, Ad, slr] | simp [Aa, V.fz, fzL, V.up, upL, Ab, Ac, Ad, slr]) (fun _ => by simp [V.noFz, Bz]) h (fun r h => P6 h) (fun r27 h => ?_)
      conv => whnf
      refine Br.flip ?_
      conv => whnf
      refine Br.ob h (fun p28 h => ?_) (fun p28 h => ?_)
      ·conv => whnf
       refine Br.no ?_
       conv => whnf
       refine Br.no ?_
       conv => whnf
       refine Br.no ?_
       conv => whnf
       refine Br.flip ?_
       conv => whnf
       refine Br.ob h (fun p29 h => ?_) (fun p29 h => ?_)
       ·conv => whnf
        cases h; exact ⟨rfl, rfl⟩
       conv => whnf
       cases h; exact ⟨rfl, rfl⟩
      conv => whnf
      refine Br.yes ?_
      conv => whnf
      refine Br.yes ?_
      conv => whnf
      refine Br.yes ?_
      conv => whnf
      refine Br.yes ?_
      conv => whnf
      cases h; exact ⟨rfl, rfl⟩
     rintro (⟨⟩ | ⟨⟩) h
     ·try dsimp only at h
      conv => whnf
      refine LoopQ.o [20, 14, 10, 3, 4, 0] (Em code0 r3 r9 r17) (G1 code0 r3 r9 r17) h (fun s o h => Md s o h) (by first | rfl | simp [restrict, look, Aa, V.fz, fzL, V.up, upL, Ab, Ac, Ad, slr]) (by rintro (_ | _) <;> rfl) ?_
      rintro (⟨⟩ | ⟨⟩) h
      ·try dsimp only at h
       conv => whnf
       cases h; exact ⟨rfl, rfl⟩
      try dsimp only at h
      conv => whnf
      cases h; exact ⟨rfl, rfl⟩
     try dsimp only at h
     conv => whnf
     cases h; exact ⟨rfl, rfl⟩
    conv => whnf
    cases h; exact ⟨rfl, rfl⟩
   rintro (⟨⟩ | ⟨⟩) h
   ·try dsimp only at h
    conv => whnf
    cases h; exact (by first | rfl | simp only [Ah, Aa, V.fz, fzL, V.up, upL, Ab, Ac, Ad, slr] | simp [Ah, Aa, V.fz, fzL, V.up, upL, Ab, Ac, Ad, slr])
   try dsimp only at h
   conv => whnf
   refine CallQ.o (fun r => V.tup [Ae r.1, (slr false 1 Ae) r.2.1, (Ag false) r.2.2]) (by first | rfl | simp only [Aa, V.fz, fzL, V.up, upL, Ab, Ac, Ad, slr, List.cons_append, List.nil_append] | simp [Aa, V.fz, fzL, V.up, upL, Ab, Ac, Ad, slr]) h (fun r h => R7 h) (fun r61 h => ?_)
   conv => whnf
   refine SetKids.lit rfl ?_
   conv => whnf
   refine Cells.lit rfl rfl ?_
   conv => whnf
   refine CallQ.o (fun r => V.tup [V.bool r.1, V.bool r.2]) (by first | rfl | simp only [Aa, V.fz, fzL, V.up, upL, Ab, Ac, Ad, slr, List.cons_append, List.nil_append] | simp [Aa, V.fz, fzL, V.up, upL, Ab, Ac, Ad, slr]) h (fun r h => P6 h) (fun r62 h => ?_)
   conv => whnf
   refine Cells.lit rfl rfl ?_
   conv => whnf
   refine CallQ.o (fun r => V.tup [V.bool r.1, V.bool r.2]) (by first | rfl | simp only [Aa, V.fz, fzL, V.up, upL, Ab, Ac, Ad, slr, List.cons_append, List.nil_append] | simp [Aa, V.fz, fzL, V.up, upL, Ab, Ac, Ad, slr]) h (fun r h => Yu h) (fun r63 h => ?_)
   conv => whnf
   refine Br.ob h (fun p64 h => ?_) (fun p64 h => ?_)
   ·conv => whnf
    refine Br.yes ?_
    conv => whnf
    refine Br.yes ?_
    conv => whnf
    refine Br.yes ?_
    conv => whnf
    cases h; exact (by first | rfl | simp only [Ah, Aa, V.fz, fzL, V.up, upL, Ab, Ac, Ad, slr] | simp [Ah, Aa, V.fz, fzL, V.up, upL, Ab, Ac, Ad, slr])
   conv => whnf
   refine Br.no ?_
   conv => whnf
   refine Br.no ?_
   conv => whnf
   refine Br.no ?_
   conv => whnf
   cases h; exact (by first | rfl | simp only [Ah, Aa, V.fz, fzL, V.up, upL, Ab, Ac, Ad, slr] | simp [Ah, Aa, V.fz, fzL, V.up, upL, Ab, Ac, Ad, slr])
  try dsimp only at h
  conv => whnf
  cases h; exact (by first | rfl | simp only [Ah, Aa, V.fz, fzL, V.up, upL, Ab, Ac, Ad, slr] | simp [Ah, Aa, V.fz, fzL, V.up, upL, Ab, Ac, Ad, slr])
 try dsimp only at h
 conv => whnf
 cases h; exact (by first | rfl | simp only [Ah, Aa, V.fz, fzL, V.up, upL, Ab, Ac, Ad, slr] | simp [Ah, Aa, V.fz, fzL, V.up, upL, Ab, Ac, Ad, slr])
end Go.Proofs.Ytidaaijecmkndaa.Ax
