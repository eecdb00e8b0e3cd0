/-
 What the functions compute, as functions on plain data, and that the program does compute it; written by program.
-/
import Derived.Test.YtidaaijecmkndaaCode
import Derived.Test.YtidaaijecmkndaaG1
import Derived.Test.YtidaaijecmkndaaG2
import Derived.Test.YtidaaijecmkndaaG3
namespace Go.Proofs.Ytidaaijecmkndaa.Ax
open Go
set_option maxRecDepth 100000
set_option maxHeartbeats 4000000
noncomputable def Bq (tables0 : List (List Int)) (t0 : List Int) : Int → Option (Int ⊕ (Int ⊕ Unit)) := fun x5 =>
 if x5 < (↑tables0.length : Int) then
 ask ((0 : Int) ≤ x5 ∧ x5 < (↑tables0.length : Int)) <|
 (Hk (nth tables0 x5.toNat) (t0)).bind fun r3 =>
 if (r3) = true then
 some (.inr (.inl x5))
 else
 ask (InI (x5 + (1 : Int))) <|
 some (.inl (x5 + (1 : Int)))
 else
 some (.inr (.inr ()))
def H8 (tables0 : List (List Int)) (t0 : List Int) : Int → St := fun s => [(5, A.val (Ae s)), (0, A.val ((slr false 1 (slr false 1 Ae)) (tables0))), (1, A.val ((slr false 1 Ae) (t0)))]
def Ll (_tables0 : List (List Int)) (_t0 : List Int) : (Int ⊕ Unit) → Tgt
 | (.inl s) => (Ex.ret, [4], [(4, A.val (Ae s))])
 | (.inr _s) => ((Ex.exit 0), [], [])
theorem S5 {tables0 : List (List Int)} {t0 : List Int} (x5 : Int) (o : Int ⊕ (Int ⊕ Unit)) (h : Bq tables0 t0 x5 = some o) : vc Try.prog Lm (Er [5, 0, 1] (H8 tables0 t0) (Ll tables0 t0) o) (H8 tables0 t0 x5) := by
 unfold Bq at h
 try dsimp only at h
 conv => whnf
 refine Len.map ?_
 conv => whnf
 refine Br.od h (fun p1 h => ?_) (fun p1 h => ?_)
 ·conv => whnf
  refine Len.map ?_
  conv => whnf
  refine Ask.o h fun p2 h => ?_
  conv => whnf
  refine Elem.o (by first | omega | (simp [A1] at *; omega)) ?_
  conv => whnf
  refine CallQ.o V.bool (by first | rfl | simp only [Aa, V.fz, fzL, V.up, upL, Ab, Ac, Ad, slr, List.cons_append, List.nil_append] | simp [Aa, V.fz, fzL, V.up, upL, Ab, Ac, Ad, slr]) h (fun r h => Abx h) (fun r3 h => ?_)
  conv => whnf
  refine Br.ob h (fun p4 h => ?_) (fun p4 h => ?_)
  ·conv => whnf
   cases h; exact ⟨rfl, rfl⟩
  conv => whnf
  refine Ask.o h fun p5 h => ?_
  conv => whnf
  cases h; exact ⟨rfl, rfl⟩
 conv => whnf
 cases h; exact ⟨rfl, rfl⟩
noncomputable def C1 (tables0 : (List (List Int))) (t0 : (List Int)) : Option Int :=
 (Aw (Bq tables0 t0) (0 : Int)).bind fun t => match t with
 | (.inl q6_4) => (some q6_4)
 | (.inr _) => (some (-1 : Int))
theorem Hw {tables0 : (List (List Int))} {t0 : (List Int)} {v : Int} (h : C1 tables0 t0 = some v) : Ret Try.prog Ew [(slr false 1 (slr false 1 Ae)) tables0, (slr false 1 Ae) t0] (Ae v) := by
 refine Bg X9 (Nat.le_of_ble_eq_true rfl) ?_
 unfold C1 at h
 conv => whnf
 refine LoopQ.o [5, 0, 1] (H8 tables0 t0) (Ll tables0 t0) h (fun s o h => S5 s o h) (by first | rfl | simp [restrict, look, Aa, V.fz, fzL, V.up, upL, Ab, Ac, Ad, slr]) (by rintro (_ | _) <;> rfl) ?_
 rintro (q6_4 | ⟨⟩) h
 ·try dsimp only at h
  conv => whnf
  cases h; exact (by first | rfl | simp only [Ah, Aa, V.fz, fzL, V.up, upL, Ab, Ac, Ad, slr] | simp [Ah, Aa, V.fz, fzL, V.up, upL, Ab, Ac, Ad, slr])
 try dsimp only at h
 conv => whnf
 cases h; exact (by first | rfl | simp only [Ah, Aa, V.fz, fzL, V.up, upL, Ab, Ac, Ad, slr] | simp [Ah, Aa, V.fz, fzL, V.up, upL, Ab, Ac, Ad, slr])
noncomputable def Dj (list0 : (List Int)) : Option Bool :=
 (Fe (list0) ((2 : Int))).bind fun r1 =>
 some r1
theorem I4 {list0 : (List Int)} {v : Bool} (h : Dj list0 = some v) : Ret Try.prog I6 [(slr false 1 Ae) list0] (V.bool v) := by
 refine Bg Z4 (Nat.le_of_ble_eq_true rfl) ?_
 unfold Dj at h
 conv => whnf
 refine CallQ.o V.bool (by first | rfl | simp only [Aa, V.fz, fzL, V.up, upL, Ab, Ac, Ad, slr, List.cons_append, List.nil_append] | simp [Aa, V.fz, fzL, V.up, upL, Ab, Ac, Ad, slr]) h (fun r h => Nm h) (fun r1 h => ?_)
 conv => whnf
 cases h; exact (by first | rfl | simp only [Ah, Aa, V.fz, fzL, V.up, upL, Ab, Ac, Ad, slr] | simp [Ah, Aa, V.fz, fzL, V.up, upL, Ab, Ac, Ad, slr])
noncomputable def B5 (n0 : Int) (list0 : List Int) : Int → Option (Int ⊕ (Unit ⊕ Unit)) := fun x5 =>
 if x5 < (↑list0.length : Int) then
 ask ((0 : Int) ≤ x5 ∧ x5 < (↑list0.length : Int)) <|
 ask (InI (n0 - (1 : Int))) <|
 (Cm (nth list0 x5.toNat) ((0 : Int)) (n0 - (1 : Int))).bind fun r4 =>
 if (r4) = true then
 ask (InI (x5 + (1 : Int))) <|
 some (.inl (x5 + (1 : Int)))
 else
 some (.inr (.inl ()))
 else
 some (.inr (.inr ()))
def Gi (n0 : Int) (list0 : List Int) : Int → St := fun s => [(5, A.val (Ae s)), (0, A.val (Ae (n0))), (1, A.val ((slr false 1 Ae) (list0)))]
def J3 (_n0 : Int) (_list0 : List Int) : (Unit ⊕ Unit) → Tgt
 | (.inl _s) => (Ex.ret, [4], [(4, A.val (V.bool (false)))])
 | (.inr _s) => ((Ex.exit 0), [], [])
theorem Q3 {n0 : Int} {list0 : List Int} (x5 : Int) (o : Int ⊕ (Unit ⊕ Unit)) (h : B5 n0 list0 x5 = some o) : vc Try.prog Ka (Er [5, 0, 1] (Gi n0 list0) (J3 n0 list0) o) (Gi n0 list0 x5) := by
 unfold B5 at h
 try dsimp only at h
 conv => whnf
 refine Len.map ?_
 conv => whnf
 refine Br.od h (fun p1 h => ?_) (fun p1 h => ?_)
 ·conv => whnf
  refine Len.map ?_
  conv => whnf
  refine Ask.o h fun p2 h => ?_
  conv => whnf
  refine Elem.o (by first | omega | (simp [A1] at *; omega)) ?_
  conv => whnf
  refine Ask.o h fun p3 h => ?_
  conv => whnf
  refine CallQ.o V.bool (by first | rfl | simp only [Aa, V.fz, fzL, V.up, upL, Ab, Ac, Ad, slr, List.cons_append, List.nil_append] | simp [Aa, V.fz, fzL, V.up, upL, Ab, Ac, Ad, slr]) h (fun r h => E8 h) (fun r4 h => ?_)
  conv => whnf
  refine Br.flip ?_
  conv => whnf
  refine Br.ob h (fun p5 h => ?_) (fun p5 h => ?_)
  ·conv => whnf
   refine Ask.o h fun p6 h => ?_
   conv => whnf
   cases h; exact ⟨rfl, rfl⟩
  conv => whnf
  cases h; exact ⟨rfl, rfl⟩
 conv => whnf
 cases h; exact ⟨rfl, rfl⟩
noncomputable def Cv (n0 : Int) (list0 : (List Int)) : Option Bool :=
 (Aw (B5 n0 list0) (0 : Int)).bind fun t => match t with
 | (.inl _) => (some false)
 | (.inr _) => (some true)
theorem Nc {n0 : Int} {list0 : (List Int)} {v : Bool} (h : Cv n0 list0 = some v) : Ret Try.prog Gc [Ae n0, (slr false 1 Ae) list0] (V.bool v) := by
 refine Bg U8 (Nat.le_of_ble_eq_true rfl) ?_
 unfold Cv at h
 conv => whnf
 refine LoopQ.o [5, 0, 1] (Gi n0 list0) (J3 n0 list0) h (fun s o h => Q3 s o h) (by first | rfl | simp [restrict, look, Aa, V.fz, fzL, V.up, upL, Ab, Ac, Ad, slr]) (by rintro (_ | _) <;> rfl) ?_
 rintro (⟨⟩ | ⟨⟩) h
 ·try dsimp only at h
  conv => whnf
  cases h; exact (by first | rfl | simp only [Ah, Aa, V.fz, fzL, V.up, upL, Ab, Ac, Ad, slr] | simp [Ah, Aa, V.fz, fzL, V.up, upL, Ab, Ac, Ad, slr])
 try dsimp only at h
 conv => whnf
 cases h; exact (by first | rfl | simp only [Ah, Aa, V.fz, fzL, V.up, upL, Ab, Ac, Ad, slr] | simp [Ah, Aa, V.fz, fzL, V.up, upL, Ab, Ac, Ad, slr])
noncomputable def Bt (c0 : Sl1Cur) (n0 : Int) : Option (Bool × Sl1Cur) :=
 (Am (c0) (n0)).bind fun (r1, u2) =>
 some (r1 == (0 : Int), u2)
theorem Fq {c0 : Sl1Cur} {n0 : Int} {v : (Bool × Sl1Cur)} (h : Bt c0 n0 = some v) : Tc Try.prog De [(rP true (Aj false)) c0, Ae n0] (V.bool v.1) 0 ((rP true (Aj false)) v.2) := by
 refine Mz Vp (Nat.le_of_ble_eq_true rfl) ?_
 unfold Bt at h
 conv => whnf
 refine CallQ.io Ae (rP true (Aj false)) (by first | rfl | simp only [Aa, V.fz, fzL, V.up, upL, Ab, Ac, Ad, slr, List.cons_append, List.nil_append] | simp [Aa, V.fz, fzL, V.up, upL, Ab, Ac, Ad, slr]) rfl (fun _ => rfl) (fun _ => ⟨rfl, rfl⟩) rfl h (fun r h => Aq h) (fun r1 u2 h => ?_)
 conv => whnf
 cases h; exact ⟨(by first | rfl | simp only [Ah, Aa, V.fz, fzL, V.up, upL, Ab, Ac, Ad, slr] | simp [Ah, Aa, V.fz, fzL, V.up, upL, Ab, Ac, Ad, slr]), (by first | rfl | simp only [Ah, Aa, V.fz, fzL, V.up, upL, Ab, Ac, Ad, slr] | simp [Ah, Aa, V.fz, fzL, V.up, upL, Ab, Ac, Ad, slr])⟩
noncomputable def At (c0 : Sl1Cur) (list0 : (List Int)) : Option (Int × Sl1Cur) :=
 (Am (c0) ((↑list0.length : Int))).bind fun (r1, u2) =>
 ask ((0 : Int) ≤ r1 ∧ r1 < (↑list0.length : Int)) <|
 some (nth list0 r1.toNat, u2)
theorem A3 {c0 : Sl1Cur} {list0 : (List Int)} {v : (Int × Sl1Cur)} (h : At c0 list0 = some v) : Tc Try.prog As [(rP true (Aj false)) c0, (slr false 1 Ae) list0] (Ae v.1) 0 ((rP true (Aj false)) v.2) := by
 refine Mz Tu (Nat.le_of_ble_eq_true rfl) ?_
 unfold At at h
 conv => whnf
 refine Len.map ?_
 conv => whnf
 refine CallQ.io Ae (rP true (Aj false)) (by first | rfl | simp only [Aa, V.fz, fzL, V.up, upL, Ab, Ac, Ad, slr, List.cons_append, List.nil_append] | simp [Aa, V.fz, fzL, V.up, upL, Ab, Ac, Ad, slr]) rfl (fun _ => rfl) (fun _ => ⟨rfl, rfl⟩) rfl h (fun r h => Aq h) (fun r1 u2 h => ?_)
 conv => whnf
 refine Len.map ?_
 conv => whnf
 refine Ask.o h fun p3 h => ?_
 conv => whnf
 refine Elem.o (by first | omega | (simp [A1] at *; omega)) ?_
 conv => whnf
 cases h; exact ⟨(by first | rfl | simp only [Ah, Aa, V.fz, fzL, V.up, upL, Ab, Ac, Ad, slr] | simp [Ah, Aa, V.fz, fzL, V.up, upL, Ab, Ac, Ad, slr]), (by first | rfl | simp only [Ah, Aa, V.fz, fzL, V.up, upL, Ab, Ac, Ad, slr] | simp [Ah, Aa, V.fz, fzL, V.up, upL, Ab, Ac, Ad, slr])⟩
noncomputable def B1 (n0 : Int) (row0 : List Int) (c0 : SCondition) (_patterns0 : List (List Int)) (x18 : Int) (r3 : Int) (q6_12 : Int) : Int → Option (Int ⊕ (Unit ⊕ Unit)) := fun x13 =>
 ask (InI (n0 * n0)) <|
 if x13 < n0 * n0 then
 ask (n0 ≠ (0 : Int) ∧ InI (x13.tdiv n0)) <|
 ask (n0 ≠ (0 : Int)) <|
 ask ((0 : Int) ≤ (0 : Int) ∧ (0 : Int) < (↑(nth c0.Rules x18.toNat).Right.length : Int)) <|
 ask ((0 : Int) ≤ nth (nth c0.Rules x18.toNat).Right (Int.toNat (0 : Int)) ∧ nth (nth c0.Rules x18.toNat).Right (Int.toNat (0 : Int)) < (↑[x13.tdiv n0, x13.tmod n0].length : Int)) <|
 ((if q6_12 ≥ (0 : Int) then
 ask (InI (q6_12 * n0)) <|
 ask (InI (q6_12 * n0 * n0)) <|
 ask (InI (q6_12 * n0 * n0 + x13)) <|
 ask ((0 : Int) ≤ q6_12 * n0 * n0 + x13 ∧ q6_12 * n0 * n0 + x13 < (↑row0.length : Int)) <|
 some (nth row0 (q6_12 * n0 * n0 + x13).toNat)
 else
 some (nth [x13.tdiv n0, x13.tmod n0] (nth (nth c0.Rules x18.toNat).Right (Int.toNat (0 : Int))).toNat) : Option Int)).bind fun q18_14 =>
 ask (InI (r3 * n0)) <|
 ask (InI (r3 * n0 * n0)) <|
 ask (InI (r3 * n0 * n0 + x13)) <|
 ask ((0 : Int) ≤ r3 * n0 * n0 + x13 ∧ r3 * n0 * n0 + x13 < (↑row0.length : Int)) <|
 if nth row0 (r3 * n0 * n0 + x13).toNat ≠ q18_14 then
 some (.inr (.inl ()))
 else
 ask (InI (x13 + (1 : Int))) <|
 some (.inl (x13 + (1 : Int)))
 else
 some (.inr (.inr ()))
def H6 (n0 : Int) (row0 : List Int) (c0 : SCondition) (patterns0 : List (List Int)) (x18 : Int) (r3 : Int) (q6_12 : Int) : Int → St := fun s => [(13, A.val (Ae s)), (12, A.val (Ae (q6_12))), (11, A.val (Ae (r3))), (10, A.val ((rP true (Bb false)) (nth c0.Rules x18.toNat))), (18, A.val (Ae (x18))), (17, A.val (Ae ((↑c0.Rules.length : Int)))), (16, A.val ((slr false 2 (Bb false)) (c0.Rules))), (6, A.val ((rP true (Ag false)) (c0))), (0, A.val (Ae (n0))), (1, A.val ((slr false 1 Ae) (row0))), (3, A.val ((slr false 1 (slr false 1 Ae)) (patterns0)))]
def Mb (n0 : Int) (row0 : List Int) (c0 : SCondition) (patterns0 : List (List Int)) (x18 : Int) (_r3 : Int) (_q6_12 : Int) : (Unit ⊕ Unit) → Tgt
 | (.inl _s) => (Ex.ret, [8], [(8, A.val (V.bool (false)))])
 | (.inr _s) => ((Ex.exit 2), [18, 17, 16, 6, 0, 1, 3], [(18, A.val (Ae (x18))), (17, A.val (Ae ((↑c0.Rules.length : Int)))), (16, A.val ((slr false 2 (Bb false)) (c0.Rules))), (6, A.val ((rP true (Ag false)) (c0))), (0, A.val (Ae (n0))), (1, A.val ((slr false 1 Ae) (row0))), (3, A.val ((slr false 1 (slr false 1 Ae)) (patterns0)))])
theorem Su {n0 : Int} {row0 : List Int} {c0 : SCondition} {patterns0 : List (List Int)} {x18 : Int} {r3 : Int} {q6_12 : Int} (x13 : Int) (o : Int ⊕ (Unit ⊕ Unit)) (h : B1 n0 row0 c0 patterns0 x18 r3 q6_12 x13 = some o) : vc Try.prog Lp (Er [13, 12, 11, 10, 18, 17, 16, 6, 0, 1, 3] (H6 n0 row0 c0 patterns0 x18 r3 q6_12) (Mb n0 row0 c0 patterns0 x18 r3 q6_12) o) (H6 n0 row0 c0 patterns0 x18 r3 q6_12 x13) := by
 unfold B1 at h
 try dsimp only at h
 conv => whnf
 refine Ask.o h fun p7 h => ?_
 conv => whnf
 refine Br.od h (fun p8 h => ?_) (fun p8 h => ?_)
 ·conv => whnf
  refine Ask.o h fun p9 h => ?_
  conv => whnf
  refine Ask.o h fun p10 h => ?_
  conv => whnf
  refine BslQ.o Ae ([x13.tdiv n0, x13.tmod n0]) (by exact fun _ => ⟨rfl, rfl⟩) (by first | rfl | simp only [Aa, V.fz, fzL, V.up, upL, Ab, Ac, Ad, slr, List.cons_append, List.nil_append] | simp [Aa, V.fz, fzL, V.up, upL, Ab, Ac, Ad, slr]) ?_
  conv => whnf
  refine Cells.lit rfl rfl ?_
  conv => whnf
  refine Len.map ?_
  conv => whnf
  refine Ask.o h fun p11 h => ?_
  conv => whnf
  refine Elem.o (by first | omega | (simp [A1] at *; omega)) ?_
  conv => whnf
  refine Len.map ?_
  conv => whnf
  refine Ask.o h fun p12 h => ?_
  conv => whnf
  refine Cells.one (fun _ => ⟨rfl, rfl⟩) (by first | omega | (simp [A1] at *; omega)) ?_
  conv => whnf
  refine CutQ.o (fun t : Int => match t with | s => (Ex.normal, [14, 13, 12, 11, 10, 18, 17, 16, 6, 0, 1, 3], [(14, A.val (Ae s)), (13, A.val (Ae (x13))), (12, A.val (Ae (q6_12))), (11, A.val (Ae (r3))), (10, A.val ((rP true (Bb false)) (nth c0.Rules x18.toNat))), (18, A.val (Ae (x18))), (17, A.val (Ae ((↑c0.Rules.length : Int)))), (16, A.val ((slr false 2 (Bb false)) (c0.Rules))), (6, A.val ((rP true (Ag false)) (c0))), (0, A.val (Ae (n0))), (1, A.val ((slr false 1 Ae) (row0))), (3, A.val ((slr false 1 (slr false 1 Ae)) (patterns0)))])) h ?_ ?_
  ·intro t h
   conv => whnf
   refine Br.od h (fun p13 h => ?_) (fun p13 h => ?_)
   ·conv => whnf
    refine Ask.o h fun p14 h => ?_
    conv => whnf
    refine Ask.o h fun p15 h => ?_
    conv => whnf
    refine Ask.o h fun p16 h => ?_
    conv => whnf
    refine Len.map ?_
    conv => whnf
    refine Ask.o h fun p17 h => ?_
    conv => whnf
    refine Elem.o (by first | omega | (simp [A1] at *; omega)) ?_
    conv => whnf
    cases h; exact ⟨rfl, rfl⟩
   conv => whnf
   cases h; exact ⟨rfl, rfl⟩
  rintro q18_14 h
  try dsimp only at h
  conv => whnf
  refine Ask.o h fun p19 h => ?_
  conv => whnf
  refine Ask.o h fun p20 h => ?_
  conv => whnf
  refine Ask.o h fun p21 h => ?_
  conv => whnf
  refine Len.map ?_
  conv => whnf
  refine Ask.o h fun p22 h => ?_
  conv => whnf
  refine Elem.o (by first | omega | (simp [A1] at *; omega)) ?_
  conv => whnf
  refine Br.on h (fun p23 h => ?_) (fun p23 h => ?_)
  ·conv => whnf
   cases h; exact ⟨rfl, rfl⟩
  conv => whnf
  refine Ask.o h fun p24 h => ?_
  conv => whnf
  cases h; exact ⟨rfl, rfl⟩
 conv => whnf
 cases h; exact ⟨rfl, rfl⟩
noncomputable def C5 (n0 : Int) (row0 : List Int) (c0 : SCondition) (patterns0 : List (List Int)) : Int → Option (Int ⊕ (Unit ⊕ Unit)) := fun x18 =>
 if x18 < (↑c0.Rules.length : Int) then
 ask ((0 : Int) ≤ x18 ∧ x18 < (↑c0.Rules.length : Int)) <|
 (Ck (patterns0) ((nth c0.Rules x18.toNat).Left)).bind fun r3 =>
 ((if (↑(nth c0.Rules x18.toNat).Right.length : Int) = c0.Arity then
 (Ck (patterns0) ((nth c0.Rules x18.toNat).Right)).bind fun r5 =>
 some r5
 else
 some (-1 : Int) : Option Int)).bind fun q6_12 =>
 (Aw (B1 n0 row0 c0 patterns0 x18 r3 q6_12) (0 : Int)).bind fun t => match t with
 | (.inl _) => (some (.inr (.inl ())))
 | (.inr _) => (ask (InI (x18 + (1 : Int))) <|
 some (.inl (x18 + (1 : Int))))
 else
 some (.inr (.inr ()))
def Hz (n0 : Int) (row0 : List Int) (c0 : SCondition) (patterns0 : List (List Int)) : Int → St := fun s => [(18, A.val (Ae s)), (17, A.val (Ae ((↑c0.Rules.length : Int)))), (16, A.val ((slr false 2 (Bb false)) (c0.Rules))), (6, A.val ((rP true (Ag false)) (c0))), (0, A.val (Ae (n0))), (1, A.val ((slr false 1 Ae) (row0))), (3, A.val ((slr false 1 (slr false 1 Ae)) (patterns0)))]
def Ls (_n0 : Int) (_row0 : List Int) (_c0 : SCondition) (_patterns0 : List (List Int)) : (Unit ⊕ Unit) → Tgt
 | (.inl _s) => (Ex.ret, [8], [(8, A.val (V.bool (false)))])
 | (.inr _s) => ((Ex.exit 0), [], [])
theorem S4 {n0 : Int} {row0 : List Int} {c0 : SCondition} {patterns0 : List (List Int)} (x18 : Int) (o : Int ⊕ (Unit ⊕ Unit)) (h : C5 n0 row0 c0 patterns0 x18 = some o) : vc Try.prog Lt (Er [18, 17, 16, 6, 0, 1, 3] (Hz n0 row0 c0 patterns0) (Ls n0 row0 c0 patterns0) o) (Hz n0 row0 c0 patterns0 x18) := by
 unfold C5 at h
 try dsimp only at h
 conv => whnf
 refine Br.od h (fun p1 h => ?_) (fun p1 h => ?_)
 ·conv => whnf
  refine Len.map ?_
  conv => whnf
  refine Ask.o h fun p2 h => ?_
  conv => whnf
  refine Elem.o (by first | omega | (simp [A1] at *; omega)) ?_
  conv => whnf
  refine SetKids.lit rfl ?_
  conv => whnf
  refine Cells.lit rfl rfl ?_
  conv => whnf
  refine CallQ.o Ae (by first | rfl | simp only [Aa, V.fz, fzL, V.up, upL, Ab, Ac, Ad, slr, List.cons_append, List.nil_append] | simp [Aa, V.fz, fzL, V.up, upL, Ab, Ac, Ad, slr]) h (fun r h => Jm h) (fun r3 h => ?_)
  conv => whnf
  refine CutQ.o (fun t : Int => match t with | s => (Ex.normal, [12, 11, 10, 18, 17, 16, 6, 0, 1, 3], [(12, A.val (Ae s)), (11, A.val (Ae (r3))), (10, A.val ((rP true (Bb false)) (nth c0.Rules x18.toNat))), (18, A.val (Ae (x18))), (17, A.val (Ae ((↑c0.Rules.length : Int)))), (16, A.val ((slr false 2 (Bb false)) (c0.Rules))), (6, A.val ((rP true (Ag false)) (c0))), (0, A.val (Ae (n0))), (1, A.val ((slr false 1 Ae) (row0))), (3, A.val ((slr false 1 (slr false 1 Ae)) (patterns0)))])) h ?_ ?_
  ·intro t h
   conv => whnf
   refine Cells.lit rfl rfl ?_
   conv => whnf
   refine Len.map ?_
   conv => whnf
   refine Cells.lit rfl rfl ?_
   conv => whnf
   refine Br.oe h (fun p4 h => ?_) (fun p4 h => ?_)
   ·conv => whnf
    refine Cells.lit rfl rfl ?_
    conv => whnf
    refine CallQ.o Ae (by first | rfl | simp only [Aa, V.fz, fzL, V.up, upL, Ab, Ac, Ad, slr, List.cons_append, List.nil_append] | simp [Aa, V.fz, fzL, V.up, upL, Ab, Ac, Ad, slr]) h (fun r h => Jm h) (fun r5 h => ?_)
    conv => whnf
    cases h; exact ⟨rfl, rfl⟩
   conv => whnf
   cases h; exact ⟨rfl, rfl⟩
  rintro q6_12 h
  try dsimp only at h
  conv => whnf
  refine LoopQ.o [13, 12, 11, 10, 18, 17, 16, 6, 0, 1, 3] (H6 n0 row0 c0 patterns0 x18 r3 q6_12) (Mb n0 row0 c0 patterns0 x18 r3 q6_12) h (fun s o h => Su s o h) (by first | rfl | simp [restrict, look, Aa, V.fz, fzL, V.up, upL, Ab, Ac, Ad, slr]) (by rintro (_ | _) <;> rfl) ?_
  rintro (⟨⟩ | ⟨⟩) h
  ·try dsimp only at h
   conv => whnf
   cases h; exact ⟨rfl, rfl⟩
  try dsimp only at h
  conv => whnf
  refine Ask.o h fun p26 h => ?_
  conv => whnf
  cases h; exact ⟨rfl, rfl⟩
 conv => whnf
 cases h; exact ⟨rfl, rfl⟩
noncomputable def E0 (n0 : Int) (row0 : (List Int)) (c0 : SCondition) (patterns0 : (List (List Int))) : Option Bool :=
 (Aw (C5 n0 row0 c0 patterns0) (0 : Int)).bind fun t => match t with
 | (.inl _) => (some false)
 | (.inr _) => (some true)
theorem P0 {n0 : Int} {row0 : (List Int)} {c0 : SCondition} {patterns0 : (List (List Int))} {v : Bool} (h : E0 n0 row0 c0 patterns0 = some v) : Ret Try.prog Hx [Ae n0, (slr false 1 Ae) row0, (Ag false) c0, (slr false 1 (slr false 1 Ae)) patterns0] (V.bool v) := by
 refine Bg Yc (Nat.le_of_ble_eq_true rfl) ?_
 unfold E0 at h
 conv => whnf
 refine Cells.lit rfl rfl ?_
 conv => whnf
 refine Len.map ?_
 conv => whnf
 refine LoopQ.o [18, 17, 16, 6, 0, 1, 3] (Hz n0 row0 c0 patterns0) (Ls n0 row0 c0 patterns0) h (fun s o h => S4 s o h) (by first | rfl | simp [restrict, look, Aa, V.fz, fzL, V.up, upL, Ab, Ac, Ad, slr]) (by rintro (_ | _) <;> rfl) ?_
 rintro (⟨⟩ | ⟨⟩) h
 ·try dsimp only at h
  conv => whnf
  cases h; exact (by first | rfl | simp only [Ah, Aa, V.fz, fzL, V.up, upL, Ab, Ac, Ad, slr] | simp [Ah, Aa, V.fz, fzL, V.up, upL, Ab, Ac, Ad, slr])
 try dsimp only at h
 conv => whnf
 cases h; exact (by first | rfl | simp only [Ah, Aa, V.fz, fzL, V.up, upL, Ab, Ac, Ad, slr] | simp [Ah, Aa, V.fz, fzL, V.up, upL, Ab, Ac, Ad, slr])
noncomputable def Bv (c0 : SCondition) : (Int × (List (List Int))) → Option ((Int × (List (List Int))) ⊕ (List (List Int))) := fun (x4, x3) =>
 if x4 < (↑c0.Rules.length : Int) then
 ((ask ((0 : Int) ≤ x4 ∧ x4 < (↑c0.Rules.length : Int)) <|
 (C1 (x3) ((nth c0.Rules x4.toNat).Left)).bind fun r3 =>
 if r3 < (0 : Int) then
 ask ((0 : Int) ≤ x4 ∧ x4 < (↑c0.Rules.length : Int)) <|
 (Fs ((nth c0.Rules x4.toNat).Left)).bind fun r6 =>
 ask ((x3).length + ([r6]).length ≤ LIM) <|
 some (x3 ++ [r6])
 else
 some x3 : Option (List (List Int)))).bind fun q7_3 =>
 ((ask ((0 : Int) ≤ x4 ∧ x4 < (↑c0.Rules.length : Int)) <|
 if (↑(nth c0.Rules x4.toNat).Right.length : Int) > (1 : Int) then
 ask ((0 : Int) ≤ x4 ∧ x4 < (↑c0.Rules.length : Int)) <|
 (C1 (q7_3) ((nth c0.Rules x4.toNat).Right)).bind fun r11 =>
 some (decide (r11 < (0 : Int)))
 else
 some false : Option Bool)).bind fun q12_50 =>
 if (q12_50) = true then
 ask ((0 : Int) ≤ x4 ∧ x4 < (↑c0.Rules.length : Int)) <|
 (Fs ((nth c0.Rules x4.toNat).Right)).bind fun r15 =>
 ask ((q7_3).length + ([r15]).length ≤ LIM) <|
 ask (InI (x4 + (1 : Int))) <|
 some (.inl (x4 + (1 : Int), q7_3 ++ [r15]))
 else
 ask (InI (x4 + (1 : Int))) <|
 some (.inl (x4 + (1 : Int), q7_3))
 else
 some (.inr x3)
def F5 (c0 : SCondition) : (Int × (List (List Int))) → St := fun s => [(4, A.val (Ae s.1)), (3, A.val ((slr true 1 (slr true 1 Ae)) s.2)), (1, A.val ((rP true (Ag false)) (c0)))]
def Jf (_c0 : SCondition) : (List (List Int)) → Tgt
 | s => ((Ex.exit 0), [3], [(3, A.val ((slr true 1 (slr true 1 Ae)) s))])
theorem Qc {c0 : SCondition} (s : (Int × (List (List Int)))) (o : (Int × (List (List Int))) ⊕ (List (List Int))) (h : Bv c0 s = some o) : vc Try.prog Jb (Er [4, 3, 1] (F5 c0) (Jf c0) o) (F5 c0 s) := by
 obtain ⟨x4, x3⟩ := s
 unfold Bv at h
 try dsimp only at h
 conv => whnf
 refine Cells.lit rfl rfl ?_
 conv => whnf
 refine Len.map ?_
 conv => whnf
 refine Br.od h (fun p1 h => ?_) (fun p1 h => ?_)
 ·conv => whnf
  refine CutQ.o (fun t : (List (List Int)) => match t with | s => (Ex.normal, [3, 4, 1], [(3, A.val ((slr true 1 (slr true 1 Ae)) s)), (4, A.val (Ae (x4))), (1, A.val ((rP true (Ag false)) (c0)))])) h ?_ ?_
  ·intro t h
   conv => whnf
   refine Cells.lit rfl rfl ?_
   conv => whnf
   refine Len.map ?_
   conv => whnf
   refine Ask.o h fun p2 h => ?_
   conv => whnf
   refine Elem.o (by first | omega | (simp [A1] at *; omega)) ?_
   conv => whnf
   refine CallQ.rd Ae (by first | rfl | simp only [V.fz, Ab, slr] | simp [Aa, V.fz, fzL, V.up, upL, Ab, Ac, Ad, slr]) (fun _ => rfl) h (fun r h => Hw h) (fun r3 h => ?_)
   conv => whnf
   refine Br.od h (fun p4 h => ?_) (fun p4 h => ?_)
   ·conv => whnf
    refine Cells.lit rfl rfl ?_
    conv => whnf
    refine Len.map ?_
    conv => whnf
    refine Ask.o h fun p5 h => ?_
    conv => whnf
    refine Elem.o (by first | omega | (simp [A1] at *; omega)) ?_
    conv => whnf
    refine CallQ.o (slr true 1 Ae) (by first | rfl | simp only [Aa, V.fz, fzL, V.up, upL, Ab, Ac, Ad, slr, List.cons_append, List.nil_append] | simp [Aa, V.fz, fzL, V.up, upL, Ab, Ac, Ad, slr]) h (fun r h => On h) (fun r6 h => ?_)
    conv => whnf
    refine BslQ.o (slr true 1 Ae) [r6] (by exact fun _ => ⟨rfl, rfl⟩) (by first | rfl | simp only [Aa, V.fz, fzL, V.up, upL, Ab, Ac, Ad, slr, List.cons_append, List.nil_append] | simp [Aa, V.fz, fzL, V.up, upL, Ab, Ac, Ad, slr]) ?_
    conv => whnf
    refine NoOwn.own rfl ?_
    conv => whnf
    refine AppQ.o (m := 1) (slr true 1 Ae) (by exact fun _ => ⟨rfl, rfl⟩) (x3) ([r6]) (by first | rfl | simp only [Aa, V.fz, fzL, V.up, upL, Ab, Ac, Ad, slr, List.cons_append, List.nil_append] | simp [Aa, V.fz, fzL, V.up, upL, Ab, Ac, Ad, slr]) (by first | rfl | simp only [Aa, V.fz, fzL, V.up, upL, Ab, Ac, Ad, slr, List.cons_append, List.nil_append] | simp [Aa, V.fz, fzL, V.up, upL, Ab, Ac, Ad, slr]) h fun h => ?_
    conv => whnf
    cases h; exact ⟨rfl, rfl⟩
   conv => whnf
   cases h; exact ⟨rfl, rfl⟩
  rintro q7_3 h
  try dsimp only at h
  conv => whnf
  refine CutQ.o (fun t : Bool => match t with | s => (Ex.normal, [50, 3, 4, 1], [(50, A.val (V.bool s)), (3, A.val ((slr true 1 (slr true 1 Ae)) (q7_3))), (4, A.val (Ae (x4))), (1, A.val ((rP true (Ag false)) (c0)))])) h ?_ ?_
  ·intro t h
   conv => whnf
   refine Cells.lit rfl rfl ?_
   conv => whnf
   refine Len.map ?_
   conv => whnf
   refine Ask.o h fun p8 h => ?_
   conv => whnf
   refine Elem.o (by first | omega | (simp [A1] at *; omega)) ?_
   conv => whnf
   refine Len.map ?_
   conv => whnf
   refine Br.od h (fun p9 h => ?_) (fun p9 h => ?_)
   ·conv => whnf
    refine Br.yes ?_
    conv => whnf
    refine Br.yes ?_
    conv => whnf
    refine Cells.lit rfl rfl ?_
    conv => whnf
    refine Br.yes ?_
    conv => whnf
    refine Br.yes ?_
    conv => whnf
    refine Len.map ?_
    conv => whnf
    refine Ask.o h fun p10 h => ?_
    conv => whnf
    refine Elem.o (by first | omega | (simp [A1] at *; omega)) ?_
    conv => whnf
    refine Br.yes ?_
    conv => whnf
    refine Br.yes ?_
    conv => whnf
    refine Br.yes ?_
    conv => whnf
    refine CallQ.rd Ae (by first | rfl | simp only [V.fz, Ab, slr] | simp [Aa, V.fz, fzL, V.up, upL, Ab, Ac, Ad, slr]) (fun _ => rfl) h (fun r h => Hw h) (fun r11 h => ?_)
    conv => whnf
    refine Br.yes ?_
    conv => whnf
    refine Br.yes ?_
    conv => whnf
    cases h; exact ⟨rfl, rfl⟩
   conv => whnf
   refine Br.no ?_
   conv => whnf
   refine Br.no ?_
   conv => whnf
   refine Br.no ?_
   conv => whnf
   refine Br.no ?_
   conv => whnf
   refine Br.no ?_
   conv => whnf
   refine Br.no ?_
   conv => whnf
   refine Br.no ?_
   conv => whnf
   refine Br.no ?_
   conv => whnf
   refine Br.no ?_
   conv => whnf
   cases h; exact ⟨rfl, rfl⟩
  rintro q12_50 h
  try dsimp only at h
  conv => whnf
  refine Br.ob h (fun p13 h => ?_) (fun p13 h => ?_)
  ·conv => whnf
   refine Cells.lit rfl rfl ?_
   conv => whnf
   refine Len.map ?_
   conv => whnf
   refine Ask.o h fun p14 h => ?_
   conv => whnf
   refine Elem.o (by first | omega | (simp [A1] at *; omega)) ?_
   conv => whnf
   refine CallQ.o (slr true 1 Ae) (by first | rfl | simp only [Aa, V.fz, fzL, V.up, upL, Ab, Ac, Ad, slr, List.cons_append, List.nil_append] | simp [Aa, V.fz, fzL, V.up, upL, Ab, Ac, Ad, slr]) h (fun r h => On h) (fun r15 h => ?_)
   conv => whnf
   refine BslQ.o (slr true 1 Ae) [r15] (by exact fun _ => ⟨rfl, rfl⟩) (by first | rfl | simp only [Aa, V.fz, fzL, V.up, upL, Ab, Ac, Ad, slr, List.cons_append, List.nil_append] | simp [Aa, V.fz, fzL, V.up, upL, Ab, Ac, Ad, slr]) ?_
   conv => whnf
   refine NoOwn.own rfl ?_
   conv => whnf
   refine AppQ.o (m := 1) (slr true 1 Ae) (by exact fun _ => ⟨rfl, rfl⟩) (q7_3) ([r15]) (by first | rfl | simp only [Aa, V.fz, fzL, V.up, upL, Ab, Ac, Ad, slr, List.cons_append, List.nil_append] | simp [Aa, V.fz, fzL, V.up, upL, Ab, Ac, Ad, slr]) (by first | rfl | simp only [Aa, V.fz, fzL, V.up, upL, Ab, Ac, Ad, slr, List.cons_append, List.nil_append] | simp [Aa, V.fz, fzL, V.up, upL, Ab, Ac, Ad, slr]) h fun h => ?_
   conv => whnf
   refine Ask.o h fun p16 h => ?_
   conv => whnf
   cases h; exact ⟨rfl, rfl⟩
  conv => whnf
  refine Ask.o h fun p17 h => ?_
  conv => whnf
  cases h; exact ⟨rfl, rfl⟩
 conv => whnf
 cases h; exact ⟨rfl, rfl⟩
noncomputable def Bf (c0 : SCondition) : Option (List (List Int)) :=
 (Aw (Bv c0) ((0 : Int), Ba (List Int))).bind fun q18_3 =>
 some q18_3
theorem Da {c0 : SCondition} {v : (List (List Int))} (h : Bf c0 = some v) : Ret Try.prog B6 [(Ag false) c0] ((slr true 1 (slr true 1 Ae)) v) := by
 refine Bg Tt (Nat.le_of_ble_eq_true rfl) ?_
 unfold Bf at h
 conv => whnf
 refine BslQ.o (slr true 1 Ae) (Ba (List Int)) (by exact fun _ => ⟨rfl, rfl⟩) (by first | rfl | simp only [Aa, V.fz, fzL, V.up, upL, Ab, Ac, Ad, slr, List.cons_append, List.nil_append] | simp [Aa, V.fz, fzL, V.up, upL, Ab, Ac, Ad, slr]) ?_
 conv => whnf
 refine LoopQ.o [4, 3, 1] (F5 c0) (Jf c0) h (fun s o h => Qc s o h) (by first | rfl | simp [restrict, look, Aa, V.fz, fzL, V.up, upL, Ab, Ac, Ad, slr]) (fun _ => rfl) ?_
 rintro q18_3 h
 try dsimp only at h
 conv => whnf
 cases h; exact (by first | rfl | simp only [Ah, Aa, V.fz, fzL, V.up, upL, Ab, Ac, Ad, slr] | simp [Ah, Aa, V.fz, fzL, V.up, upL, Ab, Ac, Ad, slr])
end Go.Proofs.Ytidaaijecmkndaa.Ax
