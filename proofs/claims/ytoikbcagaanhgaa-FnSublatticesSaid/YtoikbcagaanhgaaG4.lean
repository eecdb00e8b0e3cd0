/-
 What the functions compute, as functions on plain data, and that the program does compute it; written by program.
-/
import Derived.Test.YtoikbcagaanhgaaCode
import Derived.Test.YtoikbcagaanhgaaG1
import Derived.Test.YtoikbcagaanhgaaG2
namespace Go.Proofs.Ytoikbcagaanhgaa.Ax
open Go
set_option maxRecDepth 100000
set_option maxHeartbeats 4000000
noncomputable def Eo (l0 : List Int) (n0 : Int) : Int → Option (Int ⊕ Int) := fun x5 =>
 if x5 < (↑l0.length : Int) then
 ask ((0 : Int) ≤ x5 ∧ x5 < (↑l0.length : Int)) <|
 if nth l0 x5.toNat < n0 then
 ask (InI (x5 + (1 : Int))) <|
 some (.inl (x5 + (1 : Int)))
 else
 some (.inr x5)
 else
 some (.inr x5)
def Sg (l0 : List Int) (n0 : Int) : Int → St := fun s => [(5, A.val (Ab s)), (0, A.val ((slr false 1 Ab) (l0))), (1, A.val (Ab (n0)))]
def Aay (l0 : List Int) (n0 : Int) : Int → Tgt
 | s => ((Ex.exit 0), [5, 0, 1], [(5, A.val (Ab s)), (0, A.val ((slr false 1 Ab) (l0))), (1, A.val (Ab (n0)))])
theorem Al9 {l0 : List Int} {n0 : Int} (x5 : Int) (o : Int ⊕ Int) (h : Eo l0 n0 x5 = some o) : vc Try.prog Aat (Bp [5, 0, 1] (Sg l0 n0) (Aay l0 n0) o) (Sg l0 n0 x5) := by
 unfold Eo at h
 try dsimp only at h
 refine Len.map ?_
 refine Br.od h (fun p1 h => ?_) (fun p1 h => ?_)
 ·refine Br.yes ?_
  refine Br.yes ?_
  refine Len.map ?_
  refine Ask.o h fun p2 h => ?_
  refine Elem.o (by first | omega | (simp [Am] at *; omega)) ?_
  iterate 4 refine Br.yes ?_
  refine Br.od h (fun p3 h => ?_) (fun p3 h => ?_)
  ·refine Ask.o h fun p4 h => ?_
   cases h; exact ⟨rfl, rfl⟩
  cases h; exact ⟨rfl, rfl⟩
 iterate 7 refine Br.no ?_
 cases h; exact ⟨rfl, rfl⟩
noncomputable def Hq (l0 : (List Int)) (n0 : Int) : Option (List Int) :=
 (Ai (Eo l0 n0) (0 : Int)).bind fun q5_5 =>
 ((if q5_5 < (↑l0.length : Int) then
 ask ((0 : Int) ≤ q5_5 ∧ q5_5 < (↑l0.length : Int)) <|
 if nth l0 q5_5.toNat = n0 then
 some (.inl ())
 else
 some (.inr ())
 else
 some (.inr ()) : Option (Unit ⊕ Unit))).bind fun t => match t with
 | (.inl _) => (some l0)
 | (.inr _) => (ask (0 ≤ (0 : Int) ∧ (0 : Int) ≤ q5_5 ∧ q5_5 ≤ ((l0.length : Nat) : Int)) <|
 ask ((Ao Int).length + (List.take (q5_5.toNat - Int.toNat (0 : Int)) (List.drop (Int.toNat (0 : Int)) l0)).length ≤ LIM) <|
 ask ((Ao Int ++ List.take (q5_5.toNat - Int.toNat (0 : Int)) (List.drop (Int.toNat (0 : Int)) l0)).length + ([n0]).length ≤ LIM) <|
 ask (0 ≤ q5_5 ∧ q5_5 ≤ (↑l0.length : Int) ∧ (↑l0.length : Int) ≤ ((l0.length : Nat) : Int)) <|
 ask ((Ao Int ++ List.take (q5_5.toNat - Int.toNat (0 : Int)) (List.drop (Int.toNat (0 : Int)) l0) ++ [n0]).length + (List.take ((↑l0.length : Int).toNat - q5_5.toNat) (List.drop q5_5.toNat l0)).length ≤ LIM) <|
 some (Ao Int ++ List.take (q5_5.toNat - Int.toNat (0 : Int)) (List.drop (Int.toNat (0 : Int)) l0) ++ [n0] ++ List.take ((↑l0.length : Int).toNat - q5_5.toNat) (List.drop q5_5.toNat l0)))
theorem S3 {l0 : (List Int)} {n0 : Int} {v : (List Int)} (h : Hq l0 n0 = some v) : Ret Try.prog Lb [(slr false 1 Ab) l0, Ab n0] ((slr false 1 Ab) v) := by
 refine Yn As9 (Nat.le_of_ble_eq_true rfl) ?_
 unfold Hq at h
 conv => whnf
 refine LoopQ.o [5, 0, 1] (Sg l0 n0) (Aay l0 n0) h (fun s o h => Al9 s o h) (by first | rfl | simp [restrict, look, Ad, V.fz, fzL, V.up, upL, Ae, Af, Ah, slr]) (fun _ => rfl) ?_
 rintro q5_5 h
 try dsimp only at h
 conv => whnf
 refine CutQ.o (fun t : (Unit ⊕ Unit) => match t with | (.inl s) => (Ex.ret, [4], [(4, A.val ((slr false 1 Ab) (l0)))]) | (.inr s) => (Ex.normal, [5, 0, 1], [(5, A.val (Ab (q5_5))), (0, A.val ((slr false 1 Ab) (l0))), (1, A.val (Ab (n0)))])) h ?_ ?_
 ·intro t h
  conv => whnf
  refine Len.map ?_
  conv => whnf
  refine Br.od h (fun p6 h => ?_) (fun p6 h => ?_)
  ·conv => whnf
   refine Br.yes ?_
   conv => whnf
   refine Br.yes ?_
   conv => whnf
   refine Len.map ?_
   conv => whnf
   refine Ask.o h fun p7 h => ?_
   conv => whnf
   refine Elem.o (by first | omega | (simp [Am] at *; omega)) ?_
   conv => whnf
   refine Br.yes ?_
   conv => whnf
   refine Br.yes ?_
   conv => whnf
   refine Br.yes ?_
   conv => whnf
   refine Br.yes ?_
   conv => whnf
   refine Br.oe h (fun p8 h => ?_) (fun p8 h => ?_)
   ·conv => whnf
    cases h; exact ⟨rfl, rfl⟩
   conv => whnf
   cases h; exact ⟨rfl, rfl⟩
  conv => whnf
  refine Br.no ?_
  conv => whnf
  refine Br.no ?_
  conv => whnf
  refine Br.no ?_
  conv => whnf
  refine Br.no ?_
  conv => whnf
  refine Br.no ?_
  conv => whnf
  refine Br.no ?_
  conv => whnf
  refine Br.no ?_
  conv => whnf
  cases h; exact ⟨rfl, rfl⟩
 rintro (⟨⟩ | ⟨⟩) h
 ·try dsimp only at h
  conv => whnf
  cases h; exact (by rfl)
 try dsimp only at h
 conv => whnf
 refine BslQ.o Ab (Ao Int) (by exact fun _ => ⟨rfl, rfl⟩) (by rfl) ?_
 conv => whnf
 refine SlcQ.o Ab h fun h => ?_
 conv => whnf
 refine AppQ.o (m := 1) Ab (by exact fun _ => ⟨rfl, rfl⟩) (Ao Int) (List.take (q5_5.toNat - Int.toNat (0 : Int)) (List.drop (Int.toNat (0 : Int)) l0)) (by rfl) (by rfl) h fun h => ?_
 conv => whnf
 refine BslQ.o Ab [n0] (by exact fun _ => ⟨rfl, rfl⟩) (by rfl) ?_
 conv => whnf
 refine NoOwn.o (fun _ => rfl) ?_
 conv => whnf
 refine AppQ.o (m := 1) Ab (by exact fun _ => ⟨rfl, rfl⟩) (Ao Int ++ List.take (q5_5.toNat - Int.toNat (0 : Int)) (List.drop (Int.toNat (0 : Int)) l0)) ([n0]) (by rfl) (by rfl) h fun h => ?_
 conv => whnf
 refine Len.map ?_
 conv => whnf
 refine SlcQ.o Ab h fun h => ?_
 conv => whnf
 refine AppQ.o (m := 1) Ab (by exact fun _ => ⟨rfl, rfl⟩) (Ao Int ++ List.take (q5_5.toNat - Int.toNat (0 : Int)) (List.drop (Int.toNat (0 : Int)) l0) ++ [n0]) (List.take ((↑l0.length : Int).toNat - q5_5.toNat) (List.drop q5_5.toNat l0)) (by rfl) (by rfl) h fun h => ?_
 conv => whnf
 cases h; exact (by first | rfl | simp only [Nr, Af, slr] | simp [Nr, Ad, V.fz, fzL, V.up, upL, Ae, Af, Ah, slr])
noncomputable def Bm (o0 : List (List Bool)) (list0 : List Int) (x12 : Int) : (Int × Bool) → Option ((Int × Bool) ⊕ Bool) := fun (x18, x7) =>
 if x18 < (↑list0.length : Int) then
 ask ((0 : Int) ≤ x18 ∧ x18 < (↑list0.length : Int)) <|
 if (x7) = true then
 ask ((0 : Int) ≤ nth list0 x18.toNat ∧ nth list0 x18.toNat < (↑o0.length : Int)) <|
 ask ((0 : Int) ≤ nth list0 x12.toNat ∧ nth list0 x12.toNat < (↑(nth o0 (nth list0 x18.toNat).toNat).length : Int)) <|
 ask (InI (x18 + (1 : Int))) <|
 some (.inl (x18 + (1 : Int), nth (nth o0 (nth list0 x18.toNat).toNat) (nth list0 x12.toNat).toNat))
 else
 ask (InI (x18 + (1 : Int))) <|
 some (.inl (x18 + (1 : Int), false))
 else
 some (.inr x7)
def H9 (o0 : List (List Bool)) (list0 : List Int) (x12 : Int) : (Int × Bool) → St := fun s => [(18, A.val (Ab s.1)), (17, A.val (Ab ((↑list0.length : Int)))), (16, A.val ((slr false 1 Ab) (list0))), (7, A.val (V.bool s.2)), (6, A.val (Ab (nth list0 x12.toNat))), (12, A.val (Ab (x12))), (11, A.val (Ab ((↑list0.length : Int)))), (10, A.val ((slr false 1 Ab) (list0))), (0, A.val ((slr false 1 (slr false 1 V.bool)) (o0))), (1, A.val ((slr false 1 Ab) (list0)))]
def L5 (o0 : List (List Bool)) (list0 : List Int) (x12 : Int) : Bool → Tgt
 | s => ((Ex.exit 2), [7, 6, 12, 11, 10, 0, 1], [(7, A.val (V.bool s)), (6, A.val (Ab (nth list0 x12.toNat))), (12, A.val (Ab (x12))), (11, A.val (Ab ((↑list0.length : Int)))), (10, A.val ((slr false 1 Ab) (list0))), (0, A.val ((slr false 1 (slr false 1 V.bool)) (o0))), (1, A.val ((slr false 1 Ab) (list0)))])
theorem Ww {o0 : List (List Bool)} {list0 : List Int} {x12 : Int} (s : (Int × Bool)) (o : (Int × Bool) ⊕ Bool) (h : Bm o0 list0 x12 s = some o) : vc Try.prog L7 (Bp [18, 17, 16, 7, 6, 12, 11, 10, 0, 1] (H9 o0 list0 x12) (L5 o0 list0 x12) o) (H9 o0 list0 x12 s) := by
 obtain ⟨x18, x7⟩ := s
 unfold Bm at h
 try dsimp only at h
 refine Br.od h (fun p3 h => ?_) (fun p3 h => ?_)
 ·refine Len.map ?_
  refine Ask.o h fun p4 h => ?_
  refine Elem.o (by first | omega | (simp [Am] at *; omega)) ?_
  refine Br.ob h (fun p5 h => ?_) (fun p5 h => ?_)
  ·refine Br.yes ?_
   refine Br.yes ?_
   refine Len.map ?_
   refine Ask.o h fun p6 h => ?_
   refine Elem.o (by first | omega | (simp [Am] at *; omega)) ?_
   iterate 3 refine Br.yes ?_
   refine Len.map ?_
   refine Ask.o h fun p7 h => ?_
   refine Elem.o (by first | omega | (simp [Am] at *; omega)) ?_
   iterate 2 refine Br.yes ?_
   refine Ask.o h fun p8 h => ?_
   cases h; exact ⟨rfl, rfl⟩
  iterate 7 refine Br.no ?_
  refine Ask.o h fun p9 h => ?_
  cases h; exact ⟨rfl, rfl⟩
 cases h; exact ⟨rfl, rfl⟩
noncomputable def B2 (o0 : List (List Bool)) (list0 : List Int) : Int → Option (Int ⊕ (Int ⊕ Unit)) := fun x12 =>
 if x12 < (↑list0.length : Int) then
 ask ((0 : Int) ≤ x12 ∧ x12 < (↑list0.length : Int)) <|
 (Ai (Bm o0 list0 x12) ((0 : Int), true)).bind fun q10_7 =>
 if (q10_7) = true then
 some (.inr (.inl (nth list0 x12.toNat)))
 else
 ask (InI (x12 + (1 : Int))) <|
 some (.inl (x12 + (1 : Int)))
 else
 some (.inr (.inr ()))
def Ia (o0 : List (List Bool)) (list0 : List Int) : Int → St := fun s => [(12, A.val (Ab s)), (11, A.val (Ab ((↑list0.length : Int)))), (10, A.val ((slr false 1 Ab) (list0))), (0, A.val ((slr false 1 (slr false 1 V.bool)) (o0))), (1, A.val ((slr false 1 Ab) (list0)))]
def Mf (_o0 : List (List Bool)) (_list0 : List Int) : (Int ⊕ Unit) → Tgt
 | (.inl s) => (Ex.ret, [4], [(4, A.val (Ab s))])
 | (.inr _s) => ((Ex.exit 0), [], [])
theorem W8 {o0 : List (List Bool)} {list0 : List Int} (x12 : Int) (o : Int ⊕ (Int ⊕ Unit)) (h : B2 o0 list0 x12 = some o) : vc Try.prog Md (Bp [12, 11, 10, 0, 1] (Ia o0 list0) (Mf o0 list0) o) (Ia o0 list0 x12) := by
 unfold B2 at h
 try dsimp only at h
 refine Br.od h (fun p1 h => ?_) (fun p1 h => ?_)
 ·refine Len.map ?_
  refine Ask.o h fun p2 h => ?_
  refine Elem.o (by first | omega | (simp [Am] at *; omega)) ?_
  refine Len.map ?_
  refine LoopQ.o [18, 17, 16, 7, 6, 12, 11, 10, 0, 1] (H9 o0 list0 x12) (L5 o0 list0 x12) h (fun s o h => Ww s o h) (by first | rfl | simp [restrict, look, Ad, V.fz, fzL, V.up, upL, Ae, Af, Ah, slr]) (fun _ => rfl) ?_
  rintro q10_7 h
  try dsimp only at h
  refine Br.ob h (fun p11 h => ?_) (fun p11 h => ?_)
  ·cases h; exact ⟨rfl, rfl⟩
  refine Ask.o h fun p12 h => ?_
  cases h; exact ⟨rfl, rfl⟩
 cases h; exact ⟨rfl, rfl⟩
noncomputable def E0 (o0 : (List (List Bool))) (list0 : (List Int)) : Option Int :=
 (Ai (B2 o0 list0) (0 : Int)).bind fun t => match t with
 | (.inl q13_4) => (some q13_4)
 | (.inr _) => (some (-1 : Int))
theorem Abp {o0 : (List (List Bool))} {list0 : (List Int)} {v : Int} (h : E0 o0 list0 = some v) : Ret Try.prog Jw [(slr false 1 (slr false 1 V.bool)) o0, (slr false 1 Ab) list0] (Ab v) := by
 refine Av Abc (Nat.le_of_ble_eq_true rfl) ?_
 unfold E0 at h
 refine Len.map ?_
 refine LoopQ.o [12, 11, 10, 0, 1] (Ia o0 list0) (Mf o0 list0) h (fun s o h => W8 s o h) (by first | rfl | simp [restrict, look, Ad, V.fz, fzL, V.up, upL, Ae, Af, Ah, slr]) (by rintro (_ | _) <;> rfl) ?_
 rintro (q13_4 | ⟨⟩) h
 ·try dsimp only at h
  cases h; exact (by rfl)
 try dsimp only at h
 cases h; exact (by rfl)
noncomputable def Cf (z0 : Int) (a1 : (List (List Bool))) (a2 : Int) (a3 : Int) : Option Bool :=
 ask ((0 : Int) ≤ z0 ∧ z0 < (↑a1.length : Int)) <|
 ask ((0 : Int) ≤ a2 ∧ a2 < (↑(nth a1 z0.toNat).length : Int)) <|
 if (nth (nth a1 z0.toNat) a2.toNat) = true then
 ask ((0 : Int) ≤ z0 ∧ z0 < (↑a1.length : Int)) <|
 ask ((0 : Int) ≤ a3 ∧ a3 < (↑(nth a1 z0.toNat).length : Int)) <|
 some (nth (nth a1 z0.toNat) a3.toNat)
 else
 some false
theorem W4 {z0 : Int} {a1 : (List (List Bool))} {a2 : Int} {a3 : Int} {v : Bool} (h : Cf z0 a1 a2 a3 = some v) : Ret Try.prog Ff [Ab z0, (rP false (slr false 1 (slr false 1 V.bool))) a1, (rP false Ab) a2, (rP false Ab) a3] (V.bool v) := by
 refine Av Xd (Nat.le_of_ble_eq_true rfl) ?_
 unfold Cf at h
 refine Len.map ?_
 refine Ask.o h fun p1 h => ?_
 refine Elem.o (by first | omega | (simp [Am] at *; omega)) ?_
 refine Len.map ?_
 refine Ask.o h fun p2 h => ?_
 refine Elem.o (by first | omega | (simp [Am] at *; omega)) ?_
 refine Br.ob h (fun p3 h => ?_) (fun p3 h => ?_)
 ·refine Br.yes ?_
  refine Br.yes ?_
  refine Len.map ?_
  refine Ask.o h fun p4 h => ?_
  refine Elem.o (by first | omega | (simp [Am] at *; omega)) ?_
  iterate 3 refine Br.yes ?_
  refine Len.map ?_
  refine Ask.o h fun p5 h => ?_
  refine Elem.o (by first | omega | (simp [Am] at *; omega)) ?_
  iterate 2 refine Br.yes ?_
  cases h; exact (by rfl)
 iterate 7 refine Br.no ?_
 cases h; exact (by rfl)
noncomputable def Tn (some0 : List Int) : (Int × (List Bool)) → Option ((Int × (List Bool)) ⊕ (List Bool)) := fun (x6, x5) =>
 if x6 < (↑some0.length : Int) then
 ask ((0 : Int) ≤ x6 ∧ x6 < (↑some0.length : Int)) <|
 ask ((0 : Int) ≤ nth some0 x6.toNat ∧ nth some0 x6.toNat < (↑x5.length : Int)) <|
 ask (InI (x6 + (1 : Int))) <|
 some (.inl (x6 + (1 : Int), x5.set (nth some0 x6.toNat).toNat true))
 else
 some (.inr x5)
def Tr (some0 : List Int) : (Int × (List Bool)) → St := fun s => [(6, A.val (Ab s.1)), (5, A.val ((slr true 1 V.bool) s.2)), (1, A.val ((slr false 1 Ab) (some0)))]
def Acv (_some0 : List Int) : (List Bool) → Tgt
 | s => ((Ex.exit 0), [5], [(5, A.val ((slr true 1 V.bool) s))])
theorem Apy {some0 : List Int} (s : (Int × (List Bool))) (o : (Int × (List Bool)) ⊕ (List Bool)) (h : Tn some0 s = some o) : vc Try.prog Acl (Bp [6, 5, 1] (Tr some0) (Acv some0) o) (Tr some0 s) := by
 obtain ⟨x6, x5⟩ := s
 unfold Tn at h
 try dsimp only at h
 refine Len.map ?_
 refine Br.od h (fun p2 h => ?_) (fun p2 h => ?_)
 ·refine Len.map ?_
  refine Ask.o h fun p3 h => ?_
  refine Elem.o (by first | omega | (simp [Am] at *; omega)) ?_
  refine Len.map ?_
  refine Ask.o h fun p4 h => ?_
  refine SetKids.one (fun _ => ⟨rfl, rfl⟩) (true) (by rfl) (by first | omega | (simp [Am] at *; omega)) ?_
  refine Ask.o h fun p5 h => ?_
  cases h; exact ⟨rfl, rfl⟩
 cases h; exact ⟨rfl, rfl⟩
noncomputable def Rr (n0 : Int) (some0 : (List Int)) : Option (List Bool) :=
 ask ((0 : Int) ≤ n0 ∧ n0 ≤ (↑LIM : Int)) <|
 (Ai (Tn some0) ((0 : Int), List.replicate n0.toNat false)).bind fun q6_5 =>
 some q6_5
theorem Av3 {n0 : Int} {some0 : (List Int)} {v : (List Bool)} (h : Rr n0 some0 = some v) : Ret Try.prog Acj [Ab n0, (slr false 1 Ab) some0] ((slr true 1 V.bool) v) := by
 refine Av Awj (Nat.le_of_ble_eq_true rfl) ?_
 unfold Rr at h
 refine Ask.o h fun p1 h => ?_
 refine MkQ.o V.bool (false) rfl ?_
 refine LoopQ.o [6, 5, 1] (Tr some0) (Acv some0) h (fun s o h => Apy s o h) (by first | rfl | simp [restrict, look, Ad, V.fz, fzL, V.up, upL, Ae, Af, Ah, slr]) (fun _ => rfl) ?_
 rintro q6_5 h
 try dsimp only at h
 cases h; exact (by rfl)
noncomputable def P8 (in0 : List Bool) : (Int × (List Int)) → Option ((Int × (List Int)) ⊕ (List Int)) := fun (x4, x3) =>
 if x4 < (↑in0.length : Int) then
 ask ((0 : Int) ≤ x4 ∧ x4 < (↑in0.length : Int)) <|
 if (nth in0 x4.toNat) = true then
 ask ((x3).length + ([x4]).length ≤ LIM) <|
 ask (InI (x4 + (1 : Int))) <|
 some (.inl (x4 + (1 : Int), x3 ++ [x4]))
 else
 ask (InI (x4 + (1 : Int))) <|
 some (.inl (x4 + (1 : Int), x3))
 else
 some (.inr x3)
def P6 (in0 : List Bool) : (Int × (List Int)) → St := fun s => [(4, A.val (Ab s.1)), (3, A.val ((slr true 1 Ab) s.2)), (0, A.val ((slr false 1 V.bool) (in0)))]
def Ye (_in0 : List Bool) : (List Int) → Tgt
 | s => ((Ex.exit 0), [3], [(3, A.val ((slr true 1 Ab) s))])
theorem Ak0 {in0 : List Bool} (s : (Int × (List Int))) (o : (Int × (List Int)) ⊕ (List Int)) (h : P8 in0 s = some o) : vc Try.prog X5 (Bp [4, 3, 0] (P6 in0) (Ye in0) o) (P6 in0 s) := by
 obtain ⟨x4, x3⟩ := s
 unfold P8 at h
 try dsimp only at h
 refine Len.map ?_
 refine Br.od h (fun p1 h => ?_) (fun p1 h => ?_)
 ·refine Len.map ?_
  refine Ask.o h fun p2 h => ?_
  refine Elem.o (by first | omega | (simp [Am] at *; omega)) ?_
  refine Br.ob h (fun p3 h => ?_) (fun p3 h => ?_)
  ·refine BslQ.o Ab [x4] (by exact fun _ => ⟨rfl, rfl⟩) (by rfl) ?_
   refine NoOwn.o (fun _ => rfl) ?_
   refine AppQ.o (m := 1) Ab (by exact fun _ => ⟨rfl, rfl⟩) (x3) ([x4]) (by rfl) (by rfl) h fun h => ?_
   refine Ask.o h fun p4 h => ?_
   cases h; exact ⟨rfl, rfl⟩
  refine Ask.o h fun p5 h => ?_
  cases h; exact ⟨rfl, rfl⟩
 cases h; exact ⟨rfl, rfl⟩
noncomputable def Mi (in0 : (List Bool)) : Option (List Int) :=
 (Ai (P8 in0) ((0 : Int), Ao Int)).bind fun q6_3 =>
 some q6_3
theorem Aqe {in0 : (List Bool)} {v : (List Int)} (h : Mi in0 = some v) : Ret Try.prog W3 [(slr false 1 V.bool) in0] ((slr true 1 Ab) v) := by
 refine Av Aq0 (Nat.le_of_ble_eq_true rfl) ?_
 unfold Mi at h
 refine BslQ.o Ab (Ao Int) (by exact fun _ => ⟨rfl, rfl⟩) (by rfl) ?_
 refine LoopQ.o [4, 3, 0] (P6 in0) (Ye in0) h (fun s o h => Ak0 s o h) (by first | rfl | simp [restrict, look, Ad, V.fz, fzL, V.up, upL, Ae, Af, Ah, slr]) (fun _ => rfl) ?_
 rintro q6_3 h
 try dsimp only at h
 cases h; exact (by rfl)
noncomputable def Ep (n0 : Int) (have0 : List Bool) : (Int × Int) → Option ((Int × Int) ⊕ (Unit ⊕ Unit)) := fun (x0, x1) =>
 if x1 > (0 : Int) then
 ask (n0 ≠ (0 : Int)) <|
 ask ((0 : Int) ≤ x0.tmod n0 ∧ x0.tmod n0 < (↑have0.length : Int)) <|
 if (nth have0 (x0.tmod n0).toNat) = true then
 ask (n0 ≠ (0 : Int) ∧ InI (x0.tdiv n0)) <|
 ask (InI (x1 - (1 : Int))) <|
 some (.inl (x0.tdiv n0, x1 - (1 : Int)))
 else
 some (.inr (.inl ()))
 else
 some (.inr (.inr ()))
def R1 (n0 : Int) (have0 : List Bool) : (Int × Int) → St := fun s => [(0, A.val (Ab s.1)), (1, A.val (Ab s.2)), (2, A.val (Ab (n0))), (3, A.val ((slr false 1 V.bool) (have0)))]
def Aan (_n0 : Int) (_have0 : List Bool) : (Unit ⊕ Unit) → Tgt
 | (.inl _s) => (Ex.ret, [8], [(8, A.val (V.bool (false)))])
 | (.inr _s) => ((Ex.exit 0), [], [])
theorem Aly {n0 : Int} {have0 : List Bool} (s : (Int × Int)) (o : (Int × Int) ⊕ (Unit ⊕ Unit)) (h : Ep n0 have0 s = some o) : vc Try.prog Aam (Bp [0, 1, 2, 3] (R1 n0 have0) (Aan n0 have0) o) (R1 n0 have0 s) := by
 obtain ⟨x0, x1⟩ := s
 unfold Ep at h
 try dsimp only at h
 refine Br.od h (fun p1 h => ?_) (fun p1 h => ?_)
 ·refine Ask.o h fun p2 h => ?_
  refine Len.map ?_
  refine Ask.o h fun p3 h => ?_
  refine Elem.o (by first | omega | (simp [Am] at *; omega)) ?_
  refine Br.flip ?_
  refine Br.ob h (fun p4 h => ?_) (fun p4 h => ?_)
  ·refine Ask.o h fun p5 h => ?_
   refine Ask.o h fun p6 h => ?_
   cases h; exact ⟨rfl, rfl⟩
  cases h; exact ⟨rfl, rfl⟩
 cases h; exact ⟨rfl, rfl⟩
noncomputable def Ob (i0 : Int) (arity0 : Int) (n0 : Int) (have0 : (List Bool)) : Option Bool :=
 (Ai (Ep n0 have0) (i0, arity0)).bind fun t => match t with
 | (.inl _) => (some false)
 | (.inr _) => (some true)
theorem As7 {i0 : Int} {arity0 : Int} {n0 : Int} {have0 : (List Bool)} {v : Bool} (h : Ob i0 arity0 n0 have0 = some v) : Ret Try.prog Y9 [Ab i0, Ab arity0, Ab n0, (slr false 1 V.bool) have0] (V.bool v) := by
 refine Av At9 (Nat.le_of_ble_eq_true rfl) ?_
 unfold Ob at h
 refine LoopQ.o [0, 1, 2, 3] (R1 n0 have0) (Aan n0 have0) h (fun s o h => Aly s o h) (by first | rfl | simp [restrict, look, Ad, V.fz, fzL, V.up, upL, Ae, Af, Ah, slr]) (by rintro (_ | _) <;> rfl) ?_
 rintro (⟨⟩ | ⟨⟩) h
 ·try dsimp only at h
  cases h; exact (by rfl)
 try dsimp only at h
 cases h; exact (by rfl)
noncomputable def E2 (a0 : List (List Int)) (b0 : List (List Int)) : Int → Option (Int ⊕ (Unit ⊕ Unit)) := fun x5 =>
 if x5 < (↑a0.length : Int) then
 ask ((0 : Int) ≤ x5 ∧ x5 < (↑a0.length : Int)) <|
 ask ((0 : Int) ≤ x5 ∧ x5 < (↑b0.length : Int)) <|
 (Ht (nth a0 x5.toNat) (nth b0 x5.toNat)).bind fun r5 =>
 if (r5) = true then
 ask (InI (x5 + (1 : Int))) <|
 some (.inl (x5 + (1 : Int)))
 else
 some (.inr (.inl ()))
 else
 some (.inr (.inr ()))
def Pz (a0 : List (List Int)) (b0 : List (List Int)) : Int → St := fun s => [(5, A.val (Ab s)), (0, A.val ((slr false 1 (slr false 1 Ab)) (a0))), (1, A.val ((slr false 1 (slr false 1 Ab)) (b0)))]
def X9 (_a0 : List (List Int)) (_b0 : List (List Int)) : (Unit ⊕ Unit) → Tgt
 | (.inl _s) => (Ex.ret, [4], [(4, A.val (V.bool (false)))])
 | (.inr _s) => ((Ex.exit 0), [], [])
theorem Ajh {a0 : List (List Int)} {b0 : List (List Int)} (x5 : Int) (o : Int ⊕ (Unit ⊕ Unit)) (h : E2 a0 b0 x5 = some o) : vc Try.prog Xq (Bp [5, 0, 1] (Pz a0 b0) (X9 a0 b0) o) (Pz a0 b0 x5) := by
 unfold E2 at h
 try dsimp only at h
 refine Len.map ?_
 refine Br.od h (fun p2 h => ?_) (fun p2 h => ?_)
 ·refine Len.map ?_
  refine Ask.o h fun p3 h => ?_
  refine Elem.o (by first | omega | (simp [Am] at *; omega)) ?_
  refine Len.map ?_
  refine Ask.o h fun p4 h => ?_
  refine Elem.o (by first | omega | (simp [Am] at *; omega)) ?_
  refine CallQ.o V.bool (by rfl) h (fun r h => Zl h) (fun r5 h => ?_)
  refine Br.flip ?_
  refine Br.ob h (fun p6 h => ?_) (fun p6 h => ?_)
  ·refine Ask.o h fun p7 h => ?_
   cases h; exact ⟨rfl, rfl⟩
  cases h; exact ⟨rfl, rfl⟩
 cases h; exact ⟨rfl, rfl⟩
noncomputable def H5 (a0 : (List (List Int))) (b0 : (List (List Int))) : Option Bool :=
 if (↑a0.length : Int) ≠ (↑b0.length : Int) then
 some false
 else
 (Ai (E2 a0 b0) (0 : Int)).bind fun t => match t with
 | (.inl _) => (some false)
 | (.inr _) => (some true)
theorem Ae0 {a0 : (List (List Int))} {b0 : (List (List Int))} {v : Bool} (h : H5 a0 b0 = some v) : Ret Try.prog Wv [(slr false 1 (slr false 1 Ab)) a0, (slr false 1 (slr false 1 Ab)) b0] (V.bool v) := by
 refine Av Arj (Nat.le_of_ble_eq_true rfl) ?_
 unfold H5 at h
 iterate 2 refine Len.map ?_
 refine Br.on h (fun p1 h => ?_) (fun p1 h => ?_)
 ·cases h; exact (by rfl)
 refine LoopQ.o [5, 0, 1] (Pz a0 b0) (X9 a0 b0) h (fun s o h => Ajh s o h) (by first | rfl | simp [restrict, look, Ad, V.fz, fzL, V.up, upL, Ae, Af, Ah, slr]) (by rintro (_ | _) <;> rfl) ?_
 rintro (⟨⟩ | ⟨⟩) h
 ·try dsimp only at h
  cases h; exact (by rfl)
 try dsimp only at h
 cases h; exact (by rfl)
noncomputable def D4 (a0 : List Int) (b0 : List Int) : Int → Option (Int ⊕ (Unit ⊕ Unit)) := fun x5 =>
 if x5 < (↑a0.length : Int) then
 ask ((0 : Int) ≤ x5 ∧ x5 < (↑a0.length : Int)) <|
 (Q7 (b0) (nth a0 x5.toNat)).bind fun r3 =>
 if (r3) = true then
 ask (InI (x5 + (1 : Int))) <|
 some (.inl (x5 + (1 : Int)))
 else
 some (.inr (.inl ()))
 else
 some (.inr (.inr ()))
def Nv (a0 : List Int) (b0 : List Int) : Int → St := fun s => [(5, A.val (Ab s)), (0, A.val ((slr false 1 Ab) (a0))), (1, A.val ((slr false 1 Ab) (b0)))]
def Vt (_a0 : List Int) (_b0 : List Int) : (Unit ⊕ Unit) → Tgt
 | (.inl _s) => (Ex.ret, [4], [(4, A.val (V.bool (false)))])
 | (.inr _s) => ((Ex.exit 0), [], [])
theorem Ai4 {a0 : List Int} {b0 : List Int} (x5 : Int) (o : Int ⊕ (Unit ⊕ Unit)) (h : D4 a0 b0 x5 = some o) : vc Try.prog V1 (Bp [5, 0, 1] (Nv a0 b0) (Vt a0 b0) o) (Nv a0 b0 x5) := by
 unfold D4 at h
 try dsimp only at h
 refine Len.map ?_
 refine Br.od h (fun p1 h => ?_) (fun p1 h => ?_)
 ·refine Len.map ?_
  refine Ask.o h fun p2 h => ?_
  refine Elem.o (by first | omega | (simp [Am] at *; omega)) ?_
  refine CallQ.o V.bool (by rfl) h (fun r h => Av5 h) (fun r3 h => ?_)
  refine Br.flip ?_
  refine Br.ob h (fun p4 h => ?_) (fun p4 h => ?_)
  ·refine Ask.o h fun p5 h => ?_
   cases h; exact ⟨rfl, rfl⟩
  cases h; exact ⟨rfl, rfl⟩
 cases h; exact ⟨rfl, rfl⟩
noncomputable def Iq (a0 : (List Int)) (b0 : (List Int)) : Option Bool :=
 (Ai (D4 a0 b0) (0 : Int)).bind fun t => match t with
 | (.inl _) => (some false)
 | (.inr _) => (some true)
theorem Aoc {a0 : (List Int)} {b0 : (List Int)} {v : Bool} (h : Iq a0 b0 = some v) : Ret Try.prog T8 [(slr false 1 Ab) a0, (slr false 1 Ab) b0] (V.bool v) := by
 refine Av Apu (Nat.le_of_ble_eq_true rfl) ?_
 unfold Iq at h
 refine LoopQ.o [5, 0, 1] (Nv a0 b0) (Vt a0 b0) h (fun s o h => Ai4 s o h) (by first | rfl | simp [restrict, look, Ad, V.fz, fzL, V.up, upL, Ae, Af, Ah, slr]) (by rintro (_ | _) <;> rfl) ?_
 rintro (⟨⟩ | ⟨⟩) h
 ·try dsimp only at h
  cases h; exact (by rfl)
 try dsimp only at h
 cases h; exact (by rfl)
noncomputable def A5 (c0 : Sl1Cur) (n0 : Int) : Option (Int × Sl1Cur) :=
 if n0 ≤ (1 : Int) then
 some ((0 : Int), c0)
 else
 (Fu (c0)).bind fun (r2, u3) =>
 if n0 > (200 : Int) then
 ask (InI (r2 * (256 : Int))) <|
 (Fu (u3)).bind fun (r6, u7) =>
 ask (InI (r2 * (256 : Int) + r6)) <|
 ask (n0 ≠ (0 : Int)) <|
 some ((r2 * (256 : Int) + r6).tmod n0, u7)
 else
 ask (n0 ≠ (0 : Int)) <|
 some (r2.tmod n0, u3)
theorem Bo {c0 : Sl1Cur} {n0 : Int} {v : (Int × Sl1Cur)} (h : A5 c0 n0 = some v) : Abw Try.prog Be [(rP true (Ak false)) c0, Ab n0] (Ab v.1) 0 ((rP true (Ak false)) v.2) := by
 refine Vm Aim (Nat.le_of_ble_eq_true rfl) ?_
 unfold A5 at h
 refine Br.od h (fun p1 h => ?_) (fun p1 h => ?_)
 ·cases h; exact ⟨(by rfl), (by rfl)⟩
 refine CallQ.io Ab (rP true (Ak false)) (by rfl) rfl (fun _ => rfl) (fun _ => ⟨rfl, rfl⟩) rfl h (fun r h => Vf h) (fun r2 u3 h => ?_)
 refine Br.od h (fun p4 h => ?_) (fun p4 h => ?_)
 ·refine Ask.o h fun p5 h => ?_
  refine CallQ.io Ab (rP true (Ak false)) (by rfl) rfl (fun _ => rfl) (fun _ => ⟨rfl, rfl⟩) rfl h (fun r h => Vf h) (fun r6 u7 h => ?_)
  refine Ask.o h fun p8 h => ?_
  refine Ask.o h fun p9 h => ?_
  cases h; exact ⟨(by rfl), (by rfl)⟩
 refine Ask.o h fun p10 h => ?_
 cases h; exact ⟨(by rfl), (by rfl)⟩
noncomputable def Ri (f0 : SOp) (n0 : Int) : Option Bool :=
 if f0.Arity ≥ (0 : Int) then
 if f0.Arity ≤ (3 : Int) then
 (Li (n0) (f0.Arity)).bind fun r3 =>
 if (↑f0.Table.length : Int) = r3 then
 (Gg (f0.Table) (n0)).bind fun r5 =>
 some r5
 else
 some false
 else
 some false
 else
 some false
theorem Aw5 {f0 : SOp} {n0 : Int} {v : Bool} (h : Ri f0 n0 = some v) : Ret Try.prog Ac2 [(Dh false) f0, Ab n0] (V.bool v) := by
 refine Av Aw4 (Nat.le_of_ble_eq_true rfl) ?_
 unfold Ri at h
 refine Cells.lit rfl rfl ?_
 refine Br.od h (fun p1 h => ?_) (fun p1 h => ?_)
 ·refine Br.yes ?_
  refine Cells.lit rfl rfl ?_
  iterate 2 refine Br.yes ?_
  refine Br.od h (fun p2 h => ?_) (fun p2 h => ?_)
  ·refine Br.yes ?_
   refine Cells.lit rfl rfl ?_
   refine Br.yes ?_
   refine Len.map ?_
   iterate 3 refine Br.yes ?_
   refine Cells.lit rfl rfl ?_
   refine Br.yes ?_
   refine CallP.o Ab (by rfl) h (fun r h => Ath h) (fun r3 h => ?_)
   iterate 2 refine Br.yes ?_
   refine Br.oe h (fun p4 h => ?_) (fun p4 h => ?_)
   ·refine Br.yes ?_
    refine Cells.lit rfl rfl ?_
    iterate 2 refine Br.yes ?_
    refine CallQ.o V.bool (by rfl) h (fun r h => Qq h) (fun r5 h => ?_)
    refine Br.yes ?_
    cases h; exact (by rfl)
   iterate 4 refine Br.no ?_
   cases h; exact (by rfl)
  iterate 13 refine Br.no ?_
  cases h; exact (by rfl)
 iterate 17 refine Br.no ?_
 cases h; exact (by rfl)
end Go.Proofs.Ytoikbcagaanhgaa.Ax
