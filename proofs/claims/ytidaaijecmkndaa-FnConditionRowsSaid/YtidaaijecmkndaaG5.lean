/-
 What the functions compute, as functions on plain data, and that the program does compute it; written by program.
-/
import Derived.Test.YtidaaijecmkndaaCode
import Derived.Test.YtidaaijecmkndaaG1
import Derived.Test.YtidaaijecmkndaaG3
import Derived.Test.YtidaaijecmkndaaG4
namespace Go.Proofs.Ytidaaijecmkndaa.Ax
open Go
set_option maxRecDepth 100000
set_option maxHeartbeats 4000000
noncomputable def B4 (n0 : Int) (row0 : List Int) (c0 : SCondition) (_patterns0 : List (List Int)) (x9 : Int) (r3 : Int) (r7 : Int) (x12 : Int) : Int → Option (Int ⊕ (Unit ⊕ Unit)) := fun x13 =>
 if x13 < n0 then
 ask ((0 : Int) ≤ x9 ∧ x9 < (↑c0.Rules.length : Int)) <|
 ask ((0 : Int) ≤ (0 : Int) ∧ (0 : Int) < (↑(nth c0.Rules x9.toNat).Right.length : Int)) <|
 ask ((0 : Int) ≤ nth (nth c0.Rules x9.toNat).Right (Int.toNat (0 : Int)) ∧ nth (nth c0.Rules x9.toNat).Right (Int.toNat (0 : Int)) < (↑[x12, x13].length : Int)) <|
 ((ask ((0 : Int) ≤ x9 ∧ x9 < (↑c0.Rules.length : Int)) <|
 if (↑(nth c0.Rules x9.toNat).Right.length : Int) > (1 : Int) then
 ask (InI (x12 * n0)) <|
 ask (InI (r7 * n0 * n0 + x12 * n0)) <|
 ask (InI (r7 * n0 * n0 + x12 * n0 + x13)) <|
 ask ((0 : Int) ≤ r7 * n0 * n0 + x12 * n0 + x13 ∧ r7 * n0 * n0 + x12 * n0 + x13 < (↑row0.length : Int)) <|
 some (nth row0 (r7 * n0 * n0 + x12 * n0 + x13).toNat)
 else
 some (nth [x12, x13] (nth (nth c0.Rules x9.toNat).Right (Int.toNat (0 : Int))).toNat) : Option Int)).bind fun q21_14 =>
 ask (InI (x12 * n0)) <|
 ask (InI (r3 * n0 * n0 + x12 * n0)) <|
 ask (InI (r3 * n0 * n0 + x12 * n0 + x13)) <|
 ask ((0 : Int) ≤ r3 * n0 * n0 + x12 * n0 + x13 ∧ r3 * n0 * n0 + x12 * n0 + x13 < (↑row0.length : Int)) <|
 if nth row0 (r3 * n0 * n0 + x12 * n0 + x13).toNat ≠ q21_14 then
 some (.inr (.inl ()))
 else
 ask (InI (x13 + (1 : Int))) <|
 some (.inl (x13 + (1 : Int)))
 else
 some (.inr (.inr ()))
def H9 (n0 : Int) (row0 : List Int) (c0 : SCondition) (patterns0 : List (List Int)) (x9 : Int) (r3 : Int) (r7 : Int) (x12 : Int) : Int → St := fun s => [(13, A.val (Ae s)), (12, A.val (Ae (x12))), (11, A.val (Ae (r7 * n0 * n0))), (10, A.val (Ae (r3 * n0 * n0))), (9, A.val (Ae (x9))), (6, A.val ((rP true (Ag false)) (c0))), (0, A.val (Ae (n0))), (1, A.val ((slr false 1 Ae) (row0))), (3, A.val ((slr false 1 (slr false 1 Ae)) (patterns0)))]
def Lx (n0 : Int) (row0 : List Int) (c0 : SCondition) (patterns0 : List (List Int)) (x9 : Int) (r3 : Int) (r7 : Int) (x12 : Int) : (Unit ⊕ Unit) → Tgt
 | (.inl _s) => (Ex.ret, [8], [(8, A.val (V.bool (false)))])
 | (.inr _s) => ((Ex.exit 4), [12, 11, 10, 9, 6, 0, 1, 3], [(12, A.val (Ae (x12))), (11, A.val (Ae (r7 * n0 * n0))), (10, A.val (Ae (r3 * n0 * n0))), (9, A.val (Ae (x9))), (6, A.val ((rP true (Ag false)) (c0))), (0, A.val (Ae (n0))), (1, A.val ((slr false 1 Ae) (row0))), (3, A.val ((slr false 1 (slr false 1 Ae)) (patterns0)))])
theorem S8 {n0 : Int} {row0 : List Int} {c0 : SCondition} {patterns0 : List (List Int)} {x9 : Int} {r3 : Int} {r7 : Int} {x12 : Int} (x13 : Int) (o : Int ⊕ (Unit ⊕ Unit)) (h : B4 n0 row0 c0 patterns0 x9 r3 r7 x12 x13 = some o) : vc Try.prog Li (Er [13, 12, 11, 10, 9, 6, 0, 1, 3] (H9 n0 row0 c0 patterns0 x9 r3 r7 x12) (Lx n0 row0 c0 patterns0 x9 r3 r7 x12) o) (H9 n0 row0 c0 patterns0 x9 r3 r7 x12 x13) := by
 unfold B4 at h
 try dsimp only at h
 conv => whnf
 refine Br.od h (fun p11 h => ?_) (fun p11 h => ?_)
 ·conv => whnf
  refine BslQ.o Ae ([x12, x13]) (by exact fun _ => ⟨rfl, rfl⟩) (by first | rfl | simp only [Aa, V.fz, fzL, V.up, upL, Ab, Ac, Ad, slr, List.cons_append, List.nil_append] | simp [Aa, V.fz, fzL, V.up, upL, Ab, Ac, Ad, slr]) ?_
  conv => whnf
  refine Cells.lit rfl rfl ?_
  conv => whnf
  refine Len.map ?_
  conv => whnf
  refine Ask.o h fun p12 h => ?_
  conv => whnf
  refine Elem.o (by first | omega | (simp [A1] at *; omega)) ?_
  conv => whnf
  refine Len.map ?_
  conv => whnf
  refine Ask.o h fun p13 h => ?_
  conv => whnf
  refine Elem.o (by first | omega | (simp [A1] at *; omega)) ?_
  conv => whnf
  refine Len.map ?_
  conv => whnf
  refine Ask.o h fun p14 h => ?_
  conv => whnf
  refine Cells.one (fun _ => ⟨rfl, rfl⟩) (by first | omega | (simp [A1] at *; omega)) ?_
  conv => whnf
  refine CutQ.o (fun t : Int => match t with | s => (Ex.normal, [14, 13, 12, 11, 10, 9, 6, 0, 1, 3], [(14, A.val (Ae s)), (13, A.val (Ae (x13))), (12, A.val (Ae (x12))), (11, A.val (Ae (r7 * n0 * n0))), (10, A.val (Ae (r3 * n0 * n0))), (9, A.val (Ae (x9))), (6, A.val ((rP true (Ag false)) (c0))), (0, A.val (Ae (n0))), (1, A.val ((slr false 1 Ae) (row0))), (3, A.val ((slr false 1 (slr false 1 Ae)) (patterns0)))])) h ?_ ?_
  ·intro t h
   conv => whnf
   refine Cells.lit rfl rfl ?_
   conv => whnf
   refine Len.map ?_
   conv => whnf
   refine Ask.o h fun p15 h => ?_
   conv => whnf
   refine Elem.o (by first | omega | (simp [A1] at *; omega)) ?_
   conv => whnf
   refine Len.map ?_
   conv => whnf
   refine Br.od h (fun p16 h => ?_) (fun p16 h => ?_)
   ·conv => whnf
    refine Ask.o h fun p17 h => ?_
    conv => whnf
    refine Ask.o h fun p18 h => ?_
    conv => whnf
    refine Ask.o h fun p19 h => ?_
    conv => whnf
    refine Len.map ?_
    conv => whnf
    refine Ask.o h fun p20 h => ?_
    conv => whnf
    refine Elem.o (by first | omega | (simp [A1] at *; omega)) ?_
    conv => whnf
    cases h; exact ⟨rfl, rfl⟩
   conv => whnf
   cases h; exact ⟨rfl, rfl⟩
  rintro q21_14 h
  try dsimp only at h
  conv => whnf
  refine Ask.o h fun p22 h => ?_
  conv => whnf
  refine Ask.o h fun p23 h => ?_
  conv => whnf
  refine Ask.o h fun p24 h => ?_
  conv => whnf
  refine Len.map ?_
  conv => whnf
  refine Ask.o h fun p25 h => ?_
  conv => whnf
  refine Elem.o (by first | omega | (simp [A1] at *; omega)) ?_
  conv => whnf
  refine Br.on h (fun p26 h => ?_) (fun p26 h => ?_)
  ·conv => whnf
   cases h; exact ⟨rfl, rfl⟩
  conv => whnf
  refine Ask.o h fun p27 h => ?_
  conv => whnf
  cases h; exact ⟨rfl, rfl⟩
 conv => whnf
 cases h; exact ⟨rfl, rfl⟩
noncomputable def B0 (n0 : Int) (row0 : List Int) (c0 : SCondition) (patterns0 : List (List Int)) (x9 : Int) (r3 : Int) (r7 : Int) : Int → Option (Int ⊕ (Unit ⊕ Unit)) := fun x12 =>
 if x12 < n0 then
 (Aw (B4 n0 row0 c0 patterns0 x9 r3 r7 x12) (0 : Int)).bind fun t => match t with
 | (.inl _) => (some (.inr (.inl ())))
 | (.inr _) => (ask (InI (x12 + (1 : Int))) <|
 some (.inl (x12 + (1 : Int))))
 else
 some (.inr (.inr ()))
def H4 (n0 : Int) (row0 : List Int) (c0 : SCondition) (patterns0 : List (List Int)) (x9 : Int) (r3 : Int) (r7 : Int) : Int → St := fun s => [(12, A.val (Ae s)), (11, A.val (Ae (r7 * n0 * n0))), (10, A.val (Ae (r3 * n0 * n0))), (9, A.val (Ae (x9))), (6, A.val ((rP true (Ag false)) (c0))), (0, A.val (Ae (n0))), (1, A.val ((slr false 1 Ae) (row0))), (3, A.val ((slr false 1 (slr false 1 Ae)) (patterns0)))]
def Lv (n0 : Int) (row0 : List Int) (c0 : SCondition) (patterns0 : List (List Int)) (x9 : Int) (_r3 : Int) (_r7 : Int) : (Unit ⊕ Unit) → Tgt
 | (.inl _s) => (Ex.ret, [8], [(8, A.val (V.bool (false)))])
 | (.inr _s) => ((Ex.exit 2), [9, 6, 0, 1, 3], [(9, A.val (Ae (x9))), (6, A.val ((rP true (Ag false)) (c0))), (0, A.val (Ae (n0))), (1, A.val ((slr false 1 Ae) (row0))), (3, A.val ((slr false 1 (slr false 1 Ae)) (patterns0)))])
theorem Tr {n0 : Int} {row0 : List Int} {c0 : SCondition} {patterns0 : List (List Int)} {x9 : Int} {r3 : Int} {r7 : Int} (x12 : Int) (o : Int ⊕ (Unit ⊕ Unit)) (h : B0 n0 row0 c0 patterns0 x9 r3 r7 x12 = some o) : vc Try.prog L9 (Er [12, 11, 10, 9, 6, 0, 1, 3] (H4 n0 row0 c0 patterns0 x9 r3 r7) (Lv n0 row0 c0 patterns0 x9 r3 r7) o) (H4 n0 row0 c0 patterns0 x9 r3 r7 x12) := by
 unfold B0 at h
 try dsimp only at h
 conv => whnf
 refine Br.od h (fun p10 h => ?_) (fun p10 h => ?_)
 ·conv => whnf
  refine LoopQ.o [13, 12, 11, 10, 9, 6, 0, 1, 3] (H9 n0 row0 c0 patterns0 x9 r3 r7 x12) (Lx n0 row0 c0 patterns0 x9 r3 r7 x12) h (fun s o h => S8 s o h) (by first | rfl | simp [restrict, look, Aa, V.fz, fzL, V.up, upL, Ab, Ac, Ad, slr]) (by rintro (_ | _) <;> rfl) ?_
  rintro (⟨⟩ | ⟨⟩) h
  ·try dsimp only at h
   conv => whnf
   cases h; exact ⟨rfl, rfl⟩
  try dsimp only at h
  conv => whnf
  refine Ask.o h fun p29 h => ?_
  conv => whnf
  cases h; exact ⟨rfl, rfl⟩
 conv => whnf
 cases h; exact ⟨rfl, rfl⟩
noncomputable def Dc (n0 : Int) (row0 : List Int) (c0 : SCondition) (patterns0 : List (List Int)) : Int → Option (Int ⊕ (Unit ⊕ Unit)) := fun x9 =>
 if x9 < (↑c0.Rules.length : Int) then
 ask ((0 : Int) ≤ x9 ∧ x9 < (↑c0.Rules.length : Int)) <|
 (C1 (patterns0) ((nth c0.Rules x9.toNat).Left)).bind fun r3 =>
 ask (InI (r3 * n0)) <|
 ask (InI (r3 * n0 * n0)) <|
 ask ((0 : Int) ≤ x9 ∧ x9 < (↑c0.Rules.length : Int)) <|
 (C1 (patterns0) ((nth c0.Rules x9.toNat).Right)).bind fun r7 =>
 ask (InI (r7 * n0)) <|
 ask (InI (r7 * n0 * n0)) <|
 (Aw (B0 n0 row0 c0 patterns0 x9 r3 r7) (0 : Int)).bind fun t => match t with
 | (.inl _) => (some (.inr (.inl ())))
 | (.inr _) => (ask (InI (x9 + (1 : Int))) <|
 some (.inl (x9 + (1 : Int))))
 else
 some (.inr (.inr ()))
def H5 (n0 : Int) (row0 : List Int) (c0 : SCondition) (patterns0 : List (List Int)) : Int → St := fun s => [(9, A.val (Ae s)), (6, A.val ((rP true (Ag false)) (c0))), (0, A.val (Ae (n0))), (1, A.val ((slr false 1 Ae) (row0))), (3, A.val ((slr false 1 (slr false 1 Ae)) (patterns0)))]
def Lq (_n0 : Int) (_row0 : List Int) (_c0 : SCondition) (_patterns0 : List (List Int)) : (Unit ⊕ Unit) → Tgt
 | (.inl _s) => (Ex.ret, [8], [(8, A.val (V.bool (false)))])
 | (.inr _s) => ((Ex.exit 0), [], [])
theorem Tb {n0 : Int} {row0 : List Int} {c0 : SCondition} {patterns0 : List (List Int)} (x9 : Int) (o : Int ⊕ (Unit ⊕ Unit)) (h : Dc n0 row0 c0 patterns0 x9 = some o) : vc Try.prog Lo (Er [9, 6, 0, 1, 3] (H5 n0 row0 c0 patterns0) (Lq n0 row0 c0 patterns0) o) (H5 n0 row0 c0 patterns0 x9) := by
 unfold Dc at h
 try dsimp only at h
 conv => whnf
 refine Cells.lit rfl rfl ?_
 conv => whnf
 refine Len.map ?_
 conv => whnf
 refine Br.od h (fun p1 h => ?_) (fun p1 h => ?_)
 ·conv => whnf
  refine Cells.lit rfl rfl ?_
  conv => whnf
  refine Len.map ?_
  conv => whnf
  refine Ask.o h fun p2 h => ?_
  conv => whnf
  refine Elem.o (by first | omega | (simp [A1] at *; omega)) ?_
  conv => whnf
  refine CallQ.o Ae (by first | rfl | simp only [Aa, V.fz, fzL, V.up, upL, Ab, Ac, Ad, slr, List.cons_append, List.nil_append] | simp [Aa, V.fz, fzL, V.up, upL, Ab, Ac, Ad, slr]) h (fun r h => Hw h) (fun r3 h => ?_)
  conv => whnf
  refine Ask.o h fun p4 h => ?_
  conv => whnf
  refine Ask.o h fun p5 h => ?_
  conv => whnf
  refine Cells.lit rfl rfl ?_
  conv => whnf
  refine Len.map ?_
  conv => whnf
  refine Ask.o h fun p6 h => ?_
  conv => whnf
  refine Elem.o (by first | omega | (simp [A1] at *; omega)) ?_
  conv => whnf
  refine CallQ.o Ae (by first | rfl | simp only [Aa, V.fz, fzL, V.up, upL, Ab, Ac, Ad, slr, List.cons_append, List.nil_append] | simp [Aa, V.fz, fzL, V.up, upL, Ab, Ac, Ad, slr]) h (fun r h => Hw h) (fun r7 h => ?_)
  conv => whnf
  refine Ask.o h fun p8 h => ?_
  conv => whnf
  refine Ask.o h fun p9 h => ?_
  conv => whnf
  refine LoopQ.o [12, 11, 10, 9, 6, 0, 1, 3] (H4 n0 row0 c0 patterns0 x9 r3 r7) (Lv n0 row0 c0 patterns0 x9 r3 r7) h (fun s o h => Tr s o h) (by first | rfl | simp [restrict, look, Aa, V.fz, fzL, V.up, upL, Ab, Ac, Ad, slr]) (by rintro (_ | _) <;> rfl) ?_
  rintro (⟨⟩ | ⟨⟩) h
  ·try dsimp only at h
   conv => whnf
   cases h; exact ⟨rfl, rfl⟩
  try dsimp only at h
  conv => whnf
  refine Ask.o h fun p31 h => ?_
  conv => whnf
  cases h; exact ⟨rfl, rfl⟩
 conv => whnf
 cases h; exact ⟨rfl, rfl⟩
noncomputable def Ez (n0 : Int) (row0 : (List Int)) (c0 : SCondition) (patterns0 : (List (List Int))) : Option Bool :=
 (Aw (Dc n0 row0 c0 patterns0) (0 : Int)).bind fun t => match t with
 | (.inl _) => (some false)
 | (.inr _) => (some true)
theorem P2 {n0 : Int} {row0 : (List Int)} {c0 : SCondition} {patterns0 : (List (List Int))} {v : Bool} (h : Ez n0 row0 c0 patterns0 = some v) : Ret Try.prog Hy [Ae n0, (slr false 1 Ae) row0, (Ag false) c0, (slr false 1 (slr false 1 Ae)) patterns0] (V.bool v) := by
 refine Bg Yf (Nat.le_of_ble_eq_true rfl) ?_
 unfold Ez at h
 conv => whnf
 refine LoopQ.o [9, 6, 0, 1, 3] (H5 n0 row0 c0 patterns0) (Lq n0 row0 c0 patterns0) h (fun s o h => Tb s o h) (by first | rfl | simp [restrict, look, Aa, V.fz, fzL, V.up, upL, Ab, Ac, Ad, slr]) (by rintro (_ | _) <;> rfl) ?_
 rintro (⟨⟩ | ⟨⟩) h
 ·try dsimp only at h
  conv => whnf
  cases h; exact (by first | rfl | simp only [Ah, Aa, V.fz, fzL, V.up, upL, Ab, Ac, Ad, slr] | simp [Ah, Aa, V.fz, fzL, V.up, upL, Ab, Ac, Ad, slr])
 try dsimp only at h
 conv => whnf
 cases h; exact (by first | rfl | simp only [Ah, Aa, V.fz, fzL, V.up, upL, Ab, Ac, Ad, slr] | simp [Ah, Aa, V.fz, fzL, V.up, upL, Ab, Ac, Ad, slr])
noncomputable def Bw (c0 : SCondition) : Int → Option (Int ⊕ (Unit ⊕ Unit)) := fun x28 =>
 if x28 < (↑c0.Rules.length : Int) then
 ask ((0 : Int) ≤ x28 ∧ x28 < (↑c0.Rules.length : Int)) <|
 if (↑(nth c0.Rules x28.toNat).Left.length : Int) ≠ c0.Arity then
 some (.inr (.inl ()))
 else
 if (↑(nth c0.Rules x28.toNat).Right.length : Int) ≠ c0.Arity then
 if (↑(nth c0.Rules x28.toNat).Right.length : Int) ≠ (1 : Int) then
 some (.inr (.inl ()))
 else
 (Dj ((nth c0.Rules x28.toNat).Left)).bind fun r11 =>
 if (r11) = true then
 (Dj ((nth c0.Rules x28.toNat).Right)).bind fun r13 =>
 if (r13) = true then
 ask (InI (x28 + (1 : Int))) <|
 some (.inl (x28 + (1 : Int)))
 else
 some (.inr (.inl ()))
 else
 some (.inr (.inl ()))
 else
 (Dj ((nth c0.Rules x28.toNat).Left)).bind fun r16 =>
 if (r16) = true then
 (Dj ((nth c0.Rules x28.toNat).Right)).bind fun r18 =>
 if (r18) = true then
 ask (InI (x28 + (1 : Int))) <|
 some (.inl (x28 + (1 : Int)))
 else
 some (.inr (.inl ()))
 else
 some (.inr (.inl ()))
 else
 some (.inr (.inr ()))
def F7 (c0 : SCondition) : Int → St := fun s => [(28, A.val (Ae s)), (27, A.val (Ae ((↑c0.Rules.length : Int)))), (26, A.val ((slr false 2 (Bb false)) (c0.Rules))), (1, A.val ((rP true (Ag false)) (c0)))]
def Jc (_c0 : SCondition) : (Unit ⊕ Unit) → Tgt
 | (.inl _s) => (Ex.ret, [2], [(2, A.val (V.bool (false)))])
 | (.inr _s) => ((Ex.exit 0), [], [])
theorem Qe {c0 : SCondition} (x28 : Int) (o : Int ⊕ (Unit ⊕ Unit)) (h : Bw c0 x28 = some o) : vc Try.prog Ja (Er [28, 27, 26, 1] (F7 c0) (Jc c0) o) (F7 c0 x28) := by
 unfold Bw at h
 try dsimp only at h
 conv => whnf
 refine Br.od h (fun p6 h => ?_) (fun p6 h => ?_)
 ·conv => whnf
  refine Len.map ?_
  conv => whnf
  refine Ask.o h fun p7 h => ?_
  conv => whnf
  refine Elem.o (by first | omega | (simp [A1] at *; omega)) ?_
  conv => whnf
  refine SetKids.lit rfl ?_
  conv => whnf
  refine Cells.lit rfl rfl ?_
  conv => whnf
  refine Len.map ?_
  conv => whnf
  refine Cells.lit rfl rfl ?_
  conv => whnf
  refine Br.on h (fun p8 h => ?_) (fun p8 h => ?_)
  ·conv => whnf
   refine Br.yes ?_
   conv => whnf
   refine Br.yes ?_
   conv => whnf
   refine Br.yes ?_
   conv => whnf
   refine Br.yes ?_
   conv => whnf
   refine Br.yes ?_
   conv => whnf
   refine Br.yes ?_
   conv => whnf
   refine Br.yes ?_
   conv => whnf
   refine Br.yes ?_
   conv => whnf
   refine Br.yes ?_
   conv => whnf
   refine Br.yes ?_
   conv => whnf
   refine Br.yes ?_
   conv => whnf
   refine Br.yes ?_
   conv => whnf
   refine Br.yes ?_
   conv => whnf
   refine Br.yes ?_
   conv => whnf
   refine Br.yes ?_
   conv => whnf
   refine Br.yes ?_
   conv => whnf
   refine Br.yes ?_
   conv => whnf
   refine Br.yes ?_
   conv => whnf
   refine Br.yes ?_
   conv => whnf
   cases h; exact ⟨rfl, rfl⟩
  conv => whnf
  refine Br.no ?_
  conv => whnf
  refine Cells.lit rfl rfl ?_
  conv => whnf
  refine Br.no ?_
  conv => whnf
  refine Len.map ?_
  conv => whnf
  refine Br.no ?_
  conv => whnf
  refine Br.no ?_
  conv => whnf
  refine Cells.lit rfl rfl ?_
  conv => whnf
  refine Br.no ?_
  conv => whnf
  refine Br.no ?_
  conv => whnf
  refine Br.on h (fun p9 h => ?_) (fun p9 h => ?_)
  ·conv => whnf
   refine Br.yes ?_
   conv => whnf
   refine Cells.lit rfl rfl ?_
   conv => whnf
   refine Br.yes ?_
   conv => whnf
   refine Len.map ?_
   conv => whnf
   refine Br.yes ?_
   conv => whnf
   refine Br.no ?_
   conv => whnf
   refine Br.yes ?_
   conv => whnf
   refine Br.no ?_
   conv => whnf
   refine Br.on h (fun p10 h => ?_) (fun p10 h => ?_)
   ·conv => whnf
    refine Br.yes ?_
    conv => whnf
    refine Br.yes ?_
    conv => whnf
    refine Br.yes ?_
    conv => whnf
    refine Br.yes ?_
    conv => whnf
    refine Br.yes ?_
    conv => whnf
    refine Br.yes ?_
    conv => whnf
    refine Br.yes ?_
    conv => whnf
    refine Br.yes ?_
    conv => whnf
    refine Br.yes ?_
    conv => whnf
    refine Br.yes ?_
    conv => whnf
    cases h; exact ⟨rfl, rfl⟩
   conv => whnf
   refine Br.no ?_
   conv => whnf
   refine Cells.lit rfl rfl ?_
   conv => whnf
   refine Br.no ?_
   conv => whnf
   refine CallQ.o V.bool (by first | rfl | simp only [Aa, V.fz, fzL, V.up, upL, Ab, Ac, Ad, slr, List.cons_append, List.nil_append] | simp [Aa, V.fz, fzL, V.up, upL, Ab, Ac, Ad, slr]) h (fun r h => I4 h) (fun r11 h => ?_)
   conv => whnf
   refine Br.no ?_
   conv => whnf
   refine Br.no ?_
   conv => whnf
   refine Br.flip ?_
   conv => whnf
   refine Br.ob h (fun p12 h => ?_) (fun p12 h => ?_)
   ·conv => whnf
    refine Br.no ?_
    conv => whnf
    refine Cells.lit rfl rfl ?_
    conv => whnf
    refine Br.no ?_
    conv => whnf
    refine CallQ.o V.bool (by first | rfl | simp only [Aa, V.fz, fzL, V.up, upL, Ab, Ac, Ad, slr, List.cons_append, List.nil_append] | simp [Aa, V.fz, fzL, V.up, upL, Ab, Ac, Ad, slr]) h (fun r h => I4 h) (fun r13 h => ?_)
    conv => whnf
    refine Br.no ?_
    conv => whnf
    refine Br.no ?_
    conv => whnf
    refine Br.flip ?_
    conv => whnf
    refine Br.ob h (fun p14 h => ?_) (fun p14 h => ?_)
    ·conv => whnf
     refine Ask.o h fun p15 h => ?_
     conv => whnf
     cases h; exact ⟨rfl, rfl⟩
    conv => whnf
    cases h; exact ⟨rfl, rfl⟩
   conv => whnf
   refine Br.yes ?_
   conv => whnf
   refine Br.yes ?_
   conv => whnf
   refine Br.yes ?_
   conv => whnf
   refine Br.yes ?_
   conv => whnf
   refine Br.yes ?_
   conv => whnf
   cases h; exact ⟨rfl, rfl⟩
  conv => whnf
  refine Br.no ?_
  conv => whnf
  refine Br.no ?_
  conv => whnf
  refine Br.no ?_
  conv => whnf
  refine Br.no ?_
  conv => whnf
  refine Br.no ?_
  conv => whnf
  refine Br.no ?_
  conv => whnf
  refine Br.no ?_
  conv => whnf
  refine Br.no ?_
  conv => whnf
  refine Cells.lit rfl rfl ?_
  conv => whnf
  refine Br.no ?_
  conv => whnf
  refine CallQ.o V.bool (by first | rfl | simp only [Aa, V.fz, fzL, V.up, upL, Ab, Ac, Ad, slr, List.cons_append, List.nil_append] | simp [Aa, V.fz, fzL, V.up, upL, Ab, Ac, Ad, slr]) h (fun r h => I4 h) (fun r16 h => ?_)
  conv => whnf
  refine Br.no ?_
  conv => whnf
  refine Br.no ?_
  conv => whnf
  refine Br.flip ?_
  conv => whnf
  refine Br.ob h (fun p17 h => ?_) (fun p17 h => ?_)
  ·conv => whnf
   refine Br.no ?_
   conv => whnf
   refine Cells.lit rfl rfl ?_
   conv => whnf
   refine Br.no ?_
   conv => whnf
   refine CallQ.o V.bool (by first | rfl | simp only [Aa, V.fz, fzL, V.up, upL, Ab, Ac, Ad, slr, List.cons_append, List.nil_append] | simp [Aa, V.fz, fzL, V.up, upL, Ab, Ac, Ad, slr]) h (fun r h => I4 h) (fun r18 h => ?_)
   conv => whnf
   refine Br.no ?_
   conv => whnf
   refine Br.no ?_
   conv => whnf
   refine Br.flip ?_
   conv => whnf
   refine Br.ob h (fun p19 h => ?_) (fun p19 h => ?_)
   ·conv => whnf
    refine Ask.o h fun p20 h => ?_
    conv => whnf
    cases h; exact ⟨rfl, rfl⟩
   conv => whnf
   cases h; exact ⟨rfl, rfl⟩
  conv => whnf
  refine Br.yes ?_
  conv => whnf
  refine Br.yes ?_
  conv => whnf
  refine Br.yes ?_
  conv => whnf
  refine Br.yes ?_
  conv => whnf
  refine Br.yes ?_
  conv => whnf
  cases h; exact ⟨rfl, rfl⟩
 conv => whnf
 cases h; exact ⟨rfl, rfl⟩
noncomputable def Ci (c0 : SCondition) : Option Bool :=
 ((if c0.Arity < (2 : Int) then
 some (.inl ())
 else
 if c0.Arity > (3 : Int) then
 some (.inl ())
 else
 if (↑c0.Rules.length : Int) < (1 : Int) then
 some (.inl ())
 else
 if (↑c0.Rules.length : Int) > (6 : Int) then
 some (.inl ())
 else
 some (.inr ()) : Option (Unit ⊕ Unit))).bind fun t => match t with
 | (.inl _) => (some false)
 | (.inr _) => ((Aw (Bw c0) (0 : Int)).bind fun t => match t with
 | (.inl _) => (some false)
 | (.inr _) => (some true))
theorem H3 {c0 : SCondition} {v : Bool} (h : Ci c0 = some v) : Ret Try.prog Eh [(Ag false) c0] (V.bool v) := by
 refine Bg Sv (Nat.le_of_ble_eq_true rfl) ?_
 unfold Ci at h
 conv => whnf
 refine CutQ.o (fun t : (Unit ⊕ Unit) => match t with | (.inl s) => (Ex.ret, [2], [(2, A.val (V.bool (false)))]) | (.inr s) => (Ex.normal, [1], [(1, A.val ((rP true (Ag false)) (c0)))])) h ?_ ?_
 ·intro t h
  conv => whnf
  refine Cells.lit rfl rfl ?_
  conv => whnf
  refine Br.od h (fun p1 h => ?_) (fun p1 h => ?_)
  ·conv => whnf
   refine Br.yes ?_
   conv => whnf
   refine Br.yes ?_
   conv => whnf
   refine Br.yes ?_
   conv => whnf
   refine Br.yes ?_
   conv => whnf
   refine Br.yes ?_
   conv => whnf
   refine Br.yes ?_
   conv => whnf
   refine Br.yes ?_
   conv => whnf
   refine Br.yes ?_
   conv => whnf
   refine Br.yes ?_
   conv => whnf
   refine Br.yes ?_
   conv => whnf
   refine Br.yes ?_
   conv => whnf
   refine Br.yes ?_
   conv => whnf
   refine Br.yes ?_
   conv => whnf
   refine Br.yes ?_
   conv => whnf
   cases h; exact ⟨rfl, rfl⟩
  conv => whnf
  refine Br.no ?_
  conv => whnf
  refine Cells.lit rfl rfl ?_
  conv => whnf
  refine Br.no ?_
  conv => whnf
  refine Br.no ?_
  conv => whnf
  refine Br.od h (fun p2 h => ?_) (fun p2 h => ?_)
  ·conv => whnf
   refine Br.yes ?_
   conv => whnf
   refine Br.yes ?_
   conv => whnf
   refine Br.yes ?_
   conv => whnf
   refine Br.yes ?_
   conv => whnf
   refine Br.yes ?_
   conv => whnf
   refine Br.yes ?_
   conv => whnf
   refine Br.yes ?_
   conv => whnf
   refine Br.yes ?_
   conv => whnf
   refine Br.yes ?_
   conv => whnf
   refine Br.yes ?_
   conv => whnf
   cases h; exact ⟨rfl, rfl⟩
  conv => whnf
  refine Br.no ?_
  conv => whnf
  refine Cells.lit rfl rfl ?_
  conv => whnf
  refine Br.no ?_
  conv => whnf
  refine Len.map ?_
  conv => whnf
  refine Br.no ?_
  conv => whnf
  refine Br.no ?_
  conv => whnf
  refine Br.od h (fun p3 h => ?_) (fun p3 h => ?_)
  ·conv => whnf
   refine Br.yes ?_
   conv => whnf
   refine Br.yes ?_
   conv => whnf
   refine Br.yes ?_
   conv => whnf
   refine Br.yes ?_
   conv => whnf
   refine Br.yes ?_
   conv => whnf
   cases h; exact ⟨rfl, rfl⟩
  conv => whnf
  refine Br.no ?_
  conv => whnf
  refine Cells.lit rfl rfl ?_
  conv => whnf
  refine Br.no ?_
  conv => whnf
  refine Len.map ?_
  conv => whnf
  refine Br.no ?_
  conv => whnf
  refine Br.no ?_
  conv => whnf
  refine Br.od h (fun p4 h => ?_) (fun p4 h => ?_)
  ·conv => whnf
   cases h; exact ⟨rfl, rfl⟩
  conv => whnf
  cases h; exact ⟨rfl, rfl⟩
 rintro (⟨⟩ | ⟨⟩) h
 ·try dsimp only at h
  conv => whnf
  cases h; exact (by first | rfl | simp only [Ah, Aa, V.fz, fzL, V.up, upL, Ab, Ac, Ad, slr] | simp [Ah, Aa, V.fz, fzL, V.up, upL, Ab, Ac, Ad, slr])
 try dsimp only at h
 conv => whnf
 refine Cells.lit rfl rfl ?_
 conv => whnf
 refine Len.map ?_
 conv => whnf
 refine LoopQ.o [28, 27, 26, 1] (F7 c0) (Jc c0) h (fun s o h => Qe s o h) (by first | rfl | simp [restrict, look, Aa, V.fz, fzL, V.up, upL, Ab, Ac, Ad, slr]) (by rintro (_ | _) <;> rfl) ?_
 rintro (⟨⟩ | ⟨⟩) h
 ·try dsimp only at h
  conv => whnf
  cases h; exact (by first | rfl | simp only [Ah, Aa, V.fz, fzL, V.up, upL, Ab, Ac, Ad, slr] | simp [Ah, Aa, V.fz, fzL, V.up, upL, Ab, Ac, Ad, slr])
 try dsimp only at h
 conv => whnf
 cases h; exact (by first | rfl | simp only [Ah, Aa, V.fz, fzL, V.up, upL, Ab, Ac, Ad, slr] | simp [Ah, Aa, V.fz, fzL, V.up, upL, Ab, Ac, Ad, slr])
noncomputable def Ht (n0 : Int) (row0 : (List Int)) (patterns0 : (List (List Int))) : Option Bool :=
 ask (InI ((↑patterns0.length : Int) * n0)) <|
 ask (InI ((↑patterns0.length : Int) * n0 * n0)) <|
 if (↑row0.length : Int) = (↑patterns0.length : Int) * n0 * n0 then
 (Cv (n0) (row0)).bind fun r4 =>
 some r4
 else
 some false
theorem Yk {n0 : Int} {row0 : (List Int)} {patterns0 : (List (List Int))} {v : Bool} (h : Ht n0 row0 patterns0 = some v) : Ret Try.prog Kg [Ae n0, (slr false 1 Ae) row0, (slr false 1 (slr false 1 Ae)) patterns0] (V.bool v) := by
 refine Bg Ym (Nat.le_of_ble_eq_true rfl) ?_
 unfold Ht at h
 conv => whnf
 refine Len.map ?_
 conv => whnf
 refine Len.map ?_
 conv => whnf
 refine Ask.o h fun p1 h => ?_
 conv => whnf
 refine Ask.o h fun p2 h => ?_
 conv => whnf
 refine Br.oe h (fun p3 h => ?_) (fun p3 h => ?_)
 ·conv => whnf
  refine Br.yes ?_
  conv => whnf
  refine Br.yes ?_
  conv => whnf
  refine CallQ.o V.bool (by first | rfl | simp only [Aa, V.fz, fzL, V.up, upL, Ab, Ac, Ad, slr, List.cons_append, List.nil_append] | simp [Aa, V.fz, fzL, V.up, upL, Ab, Ac, Ad, slr]) h (fun r h => Nc h) (fun r4 h => ?_)
  conv => whnf
  refine Br.yes ?_
  conv => whnf
  cases h; exact (by first | rfl | simp only [Ah, Aa, V.fz, fzL, V.up, upL, Ab, Ac, Ad, slr] | simp [Ah, Aa, V.fz, fzL, V.up, upL, Ab, Ac, Ad, slr])
 conv => whnf
 refine Br.no ?_
 conv => whnf
 refine Br.no ?_
 conv => whnf
 refine Br.no ?_
 conv => whnf
 cases h; exact (by first | rfl | simp only [Ah, Aa, V.fz, fzL, V.up, upL, Ab, Ac, Ad, slr] | simp [Ah, Aa, V.fz, fzL, V.up, upL, Ab, Ac, Ad, slr])
noncomputable def F1 (c0 : Sl1Cur) (list0 : (List ByteArray)) : Option (ByteArray × Sl1Cur) :=
 (Am (c0) ((↑list0.length : Int))).bind fun (r1, u2) =>
 ask ((0 : Int) ≤ r1 ∧ r1 < (↑list0.length : Int)) <|
 some (nth list0 r1.toNat, u2)
theorem X4 {c0 : Sl1Cur} {list0 : (List ByteArray)} {v : (ByteArray × Sl1Cur)} (h : F1 c0 list0 = some v) : Tc Try.prog Ku [(rP true (Aj false)) c0, (slr false 1 V.str) list0] (V.str v.1) 0 ((rP true (Aj false)) v.2) := by
 refine Mz Yh (Nat.le_of_ble_eq_true rfl) ?_
 unfold F1 at h
 conv => whnf
 refine Len.map ?_
 conv => whnf
 refine CallQ.io Ae (rP true (Aj false)) (by first | rfl | simp only [Aa, V.fz, fzL, V.up, upL, Ab, Ac, Ad, slr, List.cons_append, List.nil_append] | simp [Aa, V.fz, fzL, V.up, upL, Ab, Ac, Ad, slr]) rfl (fun _ => rfl) (fun _ => ⟨rfl, rfl⟩) rfl h (fun r h => Aq h) (fun r1 u2 h => ?_)
 conv => whnf
 refine Len.map ?_
 conv => whnf
 refine Ask.o h fun p3 h => ?_
 conv => whnf
 refine Elem.o (by first | omega | (simp [A1] at *; omega)) ?_
 conv => whnf
 cases h; exact ⟨(by first | rfl | simp only [Ah, Aa, V.fz, fzL, V.up, upL, Ab, Ac, Ad, slr] | simp [Ah, Aa, V.fz, fzL, V.up, upL, Ab, Ac, Ad, slr]), (by first | rfl | simp only [Ah, Aa, V.fz, fzL, V.up, upL, Ab, Ac, Ad, slr] | simp [Ah, Aa, V.fz, fzL, V.up, upL, Ab, Ac, Ad, slr])⟩
noncomputable def C0 (p0 : (List Int)) (a1 : SCondition) (a2 : (List (List Int))) : Option (Unit × (List (List Int))) :=
 if (↑p0.length : Int) = a1.Arity then
 (Ck (a2) (p0)).bind fun r2 =>
 if r2 < (0 : Int) then
 (Iv (p0)).bind fun r4 =>
 ask ((a2).length + ([r4]).length ≤ LIM) <|
 some ((), a2 ++ [r4])
 else
 some ((), a2)
 else
 some ((), a2)
theorem K1 {p0 : (List Int)} {a1 : SCondition} {a2 : (List (List Int))} {v : (Unit × (List (List Int)))} (h : C0 p0 a1 a2 = some v) : Tc Try.prog Ff [(slr false 1 Ae) p0, (rP false (Ag false)) a1, (rP true (slr true 1 (slr true 1 Ae))) a2] ((fun _r => V.tup []) v.1) 2 ((rP true (slr true 1 (slr true 1 Ae))) v.2) := by
 refine Mz R4 (Nat.le_of_ble_eq_true rfl) ?_
 unfold C0 at h
 conv => whnf
 refine Len.map ?_
 conv => whnf
 refine Br.oe h (fun p1 h => ?_) (fun p1 h => ?_)
 ·conv => whnf
  refine Cells.lit rfl rfl ?_
  conv => whnf
  refine Br.yes ?_
  conv => whnf
  refine Br.yes ?_
  conv => whnf
  refine Kid.lit rfl rfl ?_
  conv => whnf
  refine CallQ.rd Ae (by first | rfl | simp only [V.fz, V.up, Ab, slr] | simp [Aa, V.fz, fzL, V.up, upL, Ab, Ac, Ad, slr]) (fun _ => rfl) h (fun r h => Jm h) (fun r2 h => ?_)
  conv => whnf
  refine Br.yes ?_
  conv => whnf
  refine Br.yes ?_
  conv => whnf
  refine Br.od h (fun p3 h => ?_) (fun p3 h => ?_)
  ·conv => whnf
   refine Cells.lit rfl rfl ?_
   conv => whnf
   refine CallP.o (slr true 1 Ae) (by first | rfl | simp only [Aa, V.fz, fzL, V.up, upL, Ab, Ac, Ad, slr, List.cons_append, List.nil_append] | simp [Aa, V.fz, fzL, V.up, upL, Ab, Ac, Ad, slr]) h (fun r h => Ac5 h) (fun r4 h => ?_)
   conv => whnf
   refine BslQ.o (slr true 1 Ae) [r4] (by exact fun _ => ⟨rfl, rfl⟩) (by first | rfl | simp only [Aa, V.fz, fzL, V.up, upL, Ab, Ac, Ad, slr, List.cons_append, List.nil_append] | simp [Aa, V.fz, fzL, V.up, upL, Ab, Ac, Ad, slr]) ?_
   conv => whnf
   refine NoOwn.own rfl ?_
   conv => whnf
   refine Kid.lit rfl rfl ?_
   conv => whnf
   refine Kid.lit rfl rfl ?_
   conv => whnf
   refine SetKids.lit rfl ?_
   conv => whnf
   refine AppQ.o (m := 1) (slr true 1 Ae) (by exact fun _ => ⟨rfl, rfl⟩) (a2) ([r4]) (by first | rfl | simp only [Aa, V.fz, fzL, V.up, upL, Ab, Ac, Ad, slr, List.cons_append, List.nil_append] | simp [Aa, V.fz, fzL, V.up, upL, Ab, Ac, Ad, slr]) (by first | rfl | simp only [Aa, V.fz, fzL, V.up, upL, Ab, Ac, Ad, slr, List.cons_append, List.nil_append] | simp [Aa, V.fz, fzL, V.up, upL, Ab, Ac, Ad, slr]) h fun h => ?_
   conv => whnf
   refine SetKids.lit rfl ?_
   conv => whnf
   cases h; exact ⟨(by first | rfl | simp only [Ah, Aa, V.fz, fzL, V.up, upL, Ab, Ac, Ad, slr] | simp [Ah, Aa, V.fz, fzL, V.up, upL, Ab, Ac, Ad, slr]), (by first | rfl | simp only [Ah, Aa, V.fz, fzL, V.up, upL, Ab, Ac, Ad, slr] | simp [Ah, Aa, V.fz, fzL, V.up, upL, Ab, Ac, Ad, slr])⟩
  conv => whnf
  cases h; exact ⟨(by first | rfl | simp only [Ah, Aa, V.fz, fzL, V.up, upL, Ab, Ac, Ad, slr] | simp [Ah, Aa, V.fz, fzL, V.up, upL, Ab, Ac, Ad, slr]), (by first | rfl | simp only [Ah, Aa, V.fz, fzL, V.up, upL, Ab, Ac, Ad, slr] | simp [Ah, Aa, V.fz, fzL, V.up, upL, Ab, Ac, Ad, slr])⟩
 conv => whnf
 refine Br.no ?_
 conv => whnf
 refine Br.no ?_
 conv => whnf
 refine Br.no ?_
 conv => whnf
 refine Br.no ?_
 conv => whnf
 refine Br.no ?_
 conv => whnf
 cases h; exact ⟨(by first | rfl | simp only [Ah, Aa, V.fz, fzL, V.up, upL, Ab, Ac, Ad, slr] | simp [Ah, Aa, V.fz, fzL, V.up, upL, Ab, Ac, Ad, slr]), (by first | rfl | simp only [Ah, Aa, V.fz, fzL, V.up, upL, Ab, Ac, Ad, slr] | simp [Ah, Aa, V.fz, fzL, V.up, upL, Ab, Ac, Ad, slr])⟩
noncomputable def Cb (l0 : (List Int)) (k0 : Int) : Option Bool :=
 if (↑l0.length : Int) = k0 then
 (Cv ((2 : Int)) (l0)).bind fun r2 =>
 some r2
 else
 some false
theorem Hi {l0 : (List Int)} {k0 : Int} {v : Bool} (h : Cb l0 k0 = some v) : Ret Try.prog Dy [(slr false 1 Ae) l0, Ae k0] (V.bool v) := by
 refine Bg R6 (Nat.le_of_ble_eq_true rfl) ?_
 unfold Cb at h
 conv => whnf
 refine Len.map ?_
 conv => whnf
 refine Br.oe h (fun p1 h => ?_) (fun p1 h => ?_)
 ·conv => whnf
  refine Br.yes ?_
  conv => whnf
  refine CallQ.o V.bool (by first | rfl | simp only [Aa, V.fz, fzL, V.up, upL, Ab, Ac, Ad, slr, List.cons_append, List.nil_append] | simp [Aa, V.fz, fzL, V.up, upL, Ab, Ac, Ad, slr]) h (fun r h => Nc h) (fun r2 h => ?_)
  conv => whnf
  refine Br.yes ?_
  conv => whnf
  cases h; exact (by first | rfl | simp only [Ah, Aa, V.fz, fzL, V.up, upL, Ab, Ac, Ad, slr] | simp [Ah, Aa, V.fz, fzL, V.up, upL, Ab, Ac, Ad, slr])
 conv => whnf
 refine Br.no ?_
 conv => whnf
 refine Br.no ?_
 conv => whnf
 cases h; exact (by first | rfl | simp only [Ah, Aa, V.fz, fzL, V.up, upL, Ab, Ac, Ad, slr] | simp [Ah, Aa, V.fz, fzL, V.up, upL, Ab, Ac, Ad, slr])
end Go.Proofs.Ytidaaijecmkndaa.Ax
