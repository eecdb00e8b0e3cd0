/-
 What the functions compute, as functions on plain data, and that the program does compute it; written by program.
-/
import Derived.Test.YtcpgnfohmeineaaCode
import Derived.Test.YtcpgnfohmeineaaG2
import Derived.Test.YtcpgnfohmeineaaG3
import Derived.Test.YtcpgnfohmeineaaG5
import Derived.Test.YtcpgnfohmeineaaG6
import Derived.Test.YtcpgnfohmeineaaG7
import Derived.Test.YtcpgnfohmeineaaG8
import Derived.Test.YtcpgnfohmeineaaG10
import Derived.Test.YtcpgnfohmeineaaG11
namespace Go.Proofs.Ytcpgnfohmeineaa.Ax
open Go
set_option maxRecDepth 100000
set_option maxHeartbeats 4000000
noncomputable def Fx (a0 : SAlgebra) (_most0 : Int) (x6 : Int) : (Int × (List (List Int))) → Option ((Int × (List (List Int))) ⊕ (List (List Int))) := fun (x7, x5') =>
 if x7 < x6 then
 (Ga (a0) (x6) (x7)).bind fun r3 =>
 (J1 (x5') (r3)).bind fun r4 =>
 ask (InI (x7 + (1 : Int))) <|
 some (.inl (x7 + (1 : Int), r4))
 else
 some (.inr x5')
def Nw (a0 : SAlgebra) (most0 : Int) (x6 : Int) : (Int × (List (List Int))) → St := fun s => [(7, A.val (Af s.1)), (5, A.val ((slr false 1 (slr false 1 Af)) s.2)), (6, A.val (Af (x6))), (2, A.val ((rP true (Ak false)) (a0))), (1, A.val (Af (most0)))]
def Ve (a0 : SAlgebra) (most0 : Int) (x6 : Int) : (List (List Int)) → Tgt
 | s => ((Ex.exit 2), [5, 6, 2, 1], [(5, A.val ((slr false 1 (slr false 1 Af)) s)), (6, A.val (Af (x6))), (2, A.val ((rP true (Ak false)) (a0))), (1, A.val (Af (most0)))])
theorem Aec {a0 : SAlgebra} {most0 : Int} {x6 : Int} (s : (Int × (List (List Int)))) (o : (Int × (List (List Int))) ⊕ (List (List Int))) (h : Fx a0 most0 x6 s = some o) : vc Try.prog Vb (Cu [7, 5, 6, 2, 1] (Nw a0 most0 x6) (Ve a0 most0 x6) o) (Nw a0 most0 x6 s) := by
 obtain ⟨x7, x5'⟩ := s
 unfold Fx at h
 try dsimp only at h
 conv => whnf
 refine Br.od h (fun p2 h => ?_) (fun p2 h => ?_)
 ·conv => whnf
  refine Cells.lit rfl rfl ?_
  conv => whnf
  refine CallQ.o (slr false 1 Af) (by rfl) h (fun r h => Abg h) (fun r3 h => ?_)
  conv => whnf
  refine CallQ.o (slr false 1 (slr false 1 Af)) (by rfl) h (fun r h => Ac9 h) (fun r4 h => ?_)
  conv => whnf
  refine Ask.o h fun p5 h => ?_
  conv => whnf
  cases h; exact ⟨rfl, rfl⟩
 conv => whnf
 cases h; exact ⟨rfl, rfl⟩
noncomputable def Hu (a0 : SAlgebra) (most0 : Int) : ((List (List Int)) × Int) → Option (((List (List Int)) × Int) ⊕ (List (List Int))) := fun (x5, x6) =>
 if x6 < a0.Size then
 (Al (Fx a0 most0 x6) ((0 : Int), x5)).bind fun q6_5 =>
 ask (InI (x6 + (1 : Int))) <|
 some (.inl (q6_5, x6 + (1 : Int)))
 else
 some (.inr x5)
def Ob (a0 : SAlgebra) (most0 : Int) : ((List (List Int)) × Int) → St := fun s => [(5, A.val ((slr false 1 (slr false 1 Af)) s.1)), (6, A.val (Af s.2)), (2, A.val ((rP true (Ak false)) (a0))), (1, A.val (Af (most0)))]
def U5 (a0 : SAlgebra) (most0 : Int) : (List (List Int)) → Tgt
 | s => ((Ex.exit 0), [5, 2, 1], [(5, A.val ((slr false 1 (slr false 1 Af)) s)), (2, A.val ((rP true (Ak false)) (a0))), (1, A.val (Af (most0)))])
theorem Adv {a0 : SAlgebra} {most0 : Int} (s : ((List (List Int)) × Int)) (o : ((List (List Int)) × Int) ⊕ (List (List Int))) (h : Hu a0 most0 s = some o) : vc Try.prog V3 (Cu [5, 6, 2, 1] (Ob a0 most0) (U5 a0 most0) o) (Ob a0 most0 s) := by
 obtain ⟨x5, x6⟩ := s
 unfold Hu at h
 try dsimp only at h
 conv => whnf
 refine Cells.lit rfl rfl ?_
 conv => whnf
 refine Br.od h (fun p1 h => ?_) (fun p1 h => ?_)
 ·conv => whnf
  refine LoopQ.o [7, 5, 6, 2, 1] (Nw a0 most0 x6) (Ve a0 most0 x6) h (fun s o h => Aec s o h) (by rfl) (fun _ => rfl) ?_
  rintro q6_5 h
  try dsimp only at h
  conv => whnf
  refine Ask.o h fun p7 h => ?_
  conv => whnf
  cases h; exact ⟨rfl, rfl⟩
 conv => whnf
 cases h; exact ⟨rfl, rfl⟩
noncomputable def F3 (most0 : Int) (q8_5 : List (List Int)) (x10 : Int) : (Int × (List (List Int)) × (List (List Int))) → Option ((Int × (List (List Int)) × (List (List Int))) ⊕ ((List (List Int)) × (List (List Int)))) := fun (x11, x9', x8') =>
 ((if x11 < (↑q8_5.length : Int) then
 if (↑x8'.length : Int) ≤ most0 then
 some (.inl ())
 else
 some (.inr ())
 else
 some (.inr ()) : Option (Unit ⊕ Unit))).bind fun t => match t with
 | (.inl _) => (ask ((0 : Int) ≤ x10 ∧ x10 < (↑x9'.length : Int)) <|
 ask ((0 : Int) ≤ x11 ∧ x11 < (↑q8_5.length : Int)) <|
 (Kp (nth x9' x10.toNat) (nth q8_5 x11.toNat)).bind fun r19 =>
 (J1 (x8') (r19)).bind fun r20 =>
 if (↑r20.length : Int) > (↑x8'.length : Int) then
 ask ((x9').length + ([r19]).length ≤ LIM) <|
 ask (InI (x11 + (1 : Int))) <|
 some (.inl (x11 + (1 : Int), x9' ++ [r19], r20))
 else
 ask (InI (x11 + (1 : Int))) <|
 some (.inl (x11 + (1 : Int), x9', x8')))
 | (.inr _) => (some (.inr (x9', x8')))
def Ny (most0 : Int) (q8_5 : List (List Int)) (x10 : Int) : (Int × (List (List Int)) × (List (List Int))) → St := fun s => [(11, A.val (Af s.1)), (9, A.val ((slr true 1 (slr false 1 Af)) s.2.1)), (8, A.val ((slr false 1 (slr false 1 Af)) s.2.2)), (10, A.val (Af (x10))), (5, A.val ((slr false 1 (slr false 1 Af)) (q8_5))), (1, A.val (Af (most0)))]
def Vw (most0 : Int) (q8_5 : List (List Int)) (x10 : Int) : ((List (List Int)) × (List (List Int))) → Tgt
 | s => ((Ex.exit 6), [9, 8, 10, 5, 1], [(9, A.val ((slr true 1 (slr false 1 Af)) s.1)), (8, A.val ((slr false 1 (slr false 1 Af)) s.2)), (10, A.val (Af (x10))), (5, A.val ((slr false 1 (slr false 1 Af)) (q8_5))), (1, A.val (Af (most0)))])
theorem Aew {most0 : Int} {q8_5 : List (List Int)} {x10 : Int} (s : (Int × (List (List Int)) × (List (List Int)))) (o : (Int × (List (List Int)) × (List (List Int))) ⊕ ((List (List Int)) × (List (List Int)))) (h : F3 most0 q8_5 x10 s = some o) : vc Try.prog Uw (Cu [11, 9, 8, 10, 5, 1] (Ny most0 q8_5 x10) (Vw most0 q8_5 x10) o) (Ny most0 q8_5 x10 s) := by
 obtain ⟨x11, x9', x8'⟩ := s
 unfold F3 at h
 try dsimp only at h
 conv => whnf
 refine CutQ.o (fun t : (Unit ⊕ Unit) => match t with | (.inl s) => (Ex.normal, [11, 9, 8, 10, 5, 1], [(11, A.val (Af (x11))), (9, A.val ((slr true 1 (slr false 1 Af)) (x9'))), (8, A.val ((slr false 1 (slr false 1 Af)) (x8'))), (10, A.val (Af (x10))), (5, A.val ((slr false 1 (slr false 1 Af)) (q8_5))), (1, A.val (Af (most0)))]) | (.inr s) => ((Ex.exit 6), [9, 8, 10, 5, 1], [(9, A.val ((slr true 1 (slr false 1 Af)) (x9'))), (8, A.val ((slr false 1 (slr false 1 Af)) (x8'))), (10, A.val (Af (x10))), (5, A.val ((slr false 1 (slr false 1 Af)) (q8_5))), (1, A.val (Af (most0)))])) h ?_ ?_
 ·intro t h
  conv => whnf
  refine Len.map ?_
  conv => whnf
  refine Br.od h (fun p14 h => ?_) (fun p14 h => ?_)
  ·conv => whnf
   refine Br.yes ?_
   conv => whnf
   refine Len.map ?_
   conv => whnf
   refine Br.yes ?_
   conv => whnf
   refine Br.yes ?_
   conv => whnf
   refine Br.yes ?_
   conv => whnf
   refine Br.od h (fun p15 h => ?_) (fun p15 h => ?_)
   ·conv => whnf
    cases h; exact ⟨rfl, rfl⟩
   conv => whnf
   cases h; exact ⟨rfl, rfl⟩
  conv => whnf
  refine Br.no ?_
  conv => whnf
  refine Br.no ?_
  conv => whnf
  refine Br.no ?_
  conv => whnf
  refine Br.no ?_
  conv => whnf
  refine Br.no ?_
  conv => whnf
  cases h; exact ⟨rfl, rfl⟩
 rintro (⟨⟩ | ⟨⟩) h
 ·try dsimp only at h
  conv => whnf
  refine Len.map ?_
  conv => whnf
  refine Ask.o h fun p17 h => ?_
  conv => whnf
  refine Cells.one (fun _ => ⟨rfl, rfl⟩) (by first | omega | (simp [Ap] at *; omega)) ?_
  conv => whnf
  refine Len.map ?_
  conv => whnf
  refine Ask.o h fun p18 h => ?_
  conv => whnf
  refine Elem.o (by first | omega | (simp [Ap] at *; omega)) ?_
  conv => whnf
  refine CallQ.o (slr true 1 Af) (by rfl) h (fun r h => Akn h) (fun r19 h => ?_)
  conv => whnf
  refine FrzQ.d (V.sl false (1 : Nat) (List.map Af r19)) (by first | (simp only [slr]; done) | (simp [A6, V.fz, Ab, slr]; done) | (simp [A6, V.fz, fzL, Ab, slr]; done)) ?_
  conv => whnf
  refine CallQ.o (slr false 1 (slr false 1 Af)) (by rfl) h (fun r h => Ac9 h) (fun r20 h => ?_)
  conv => whnf
  refine Len.map ?_
  conv => whnf
  refine Len.map ?_
  conv => whnf
  refine Br.od h (fun p21 h => ?_) (fun p21 h => ?_)
  ·conv => whnf
   refine BslQ.o (slr false 1 Af) [r19] (by exact fun _ => ⟨rfl, rfl⟩) (by rfl) ?_
   conv => whnf
   refine NoOwn.o (fun _ => rfl) ?_
   conv => whnf
   refine AppQ.o (m := 1) (slr false 1 Af) (by exact fun _ => ⟨rfl, rfl⟩) (x9') ([r19]) (by rfl) (by rfl) h fun h => ?_
   conv => whnf
   refine Ask.o h fun p22 h => ?_
   conv => whnf
   cases h; exact ⟨rfl, rfl⟩
  conv => whnf
  refine Ask.o h fun p23 h => ?_
  conv => whnf
  cases h; exact ⟨rfl, rfl⟩
 try dsimp only at h
 conv => whnf
 cases h; exact ⟨rfl, rfl⟩
noncomputable def Hl (most0 : Int) (q8_5 : List (List Int)) : ((List (List Int)) × (List (List Int)) × Int) → Option (((List (List Int)) × (List (List Int)) × Int) ⊕ (List (List Int))) := fun (x9, x8, x10) =>
 ((if x10 < (↑x9.length : Int) then
 if (↑x8.length : Int) ≤ most0 then
 some (.inl ())
 else
 some (.inr ())
 else
 some (.inr ()) : Option (Unit ⊕ Unit))).bind fun t => match t with
 | (.inl _) => ((Al (F3 most0 q8_5 x10) ((0 : Int), x9, x8)).bind fun (q24_9, q24_8) =>
 ask (InI (x10 + (1 : Int))) <|
 some (.inl (q24_9, q24_8, x10 + (1 : Int))))
 | (.inr _) => (some (.inr x8))
def Oe (most0 : Int) (q8_5 : List (List Int)) : ((List (List Int)) × (List (List Int)) × Int) → St := fun s => [(9, A.val ((slr true 1 (slr false 1 Af)) s.1)), (8, A.val ((slr false 1 (slr false 1 Af)) s.2.1)), (10, A.val (Af s.2.2)), (5, A.val ((slr false 1 (slr false 1 Af)) (q8_5))), (1, A.val (Af (most0)))]
def Vf (_most0 : Int) (_q8_5 : List (List Int)) : (List (List Int)) → Tgt
 | s => ((Ex.exit 4), [8], [(8, A.val ((slr false 1 (slr false 1 Af)) s))])
theorem Aea {most0 : Int} {q8_5 : List (List Int)} (s : ((List (List Int)) × (List (List Int)) × Int)) (o : ((List (List Int)) × (List (List Int)) × Int) ⊕ (List (List Int))) (h : Hl most0 q8_5 s = some o) : vc Try.prog V2 (Cu [9, 8, 10, 5, 1] (Oe most0 q8_5) (Vf most0 q8_5) o) (Oe most0 q8_5 s) := by
 obtain ⟨x9, x8, x10⟩ := s
 unfold Hl at h
 try dsimp only at h
 conv => whnf
 refine CutQ.o (fun t : (Unit ⊕ Unit) => match t with | (.inl s) => (Ex.normal, [9, 8, 10, 5, 1], [(9, A.val ((slr true 1 (slr false 1 Af)) (x9))), (8, A.val ((slr false 1 (slr false 1 Af)) (x8))), (10, A.val (Af (x10))), (5, A.val ((slr false 1 (slr false 1 Af)) (q8_5))), (1, A.val (Af (most0)))]) | (.inr s) => ((Ex.exit 4), [8], [(8, A.val ((slr false 1 (slr false 1 Af)) (x8)))])) h ?_ ?_
 ·intro t h
  conv => whnf
  refine Len.map ?_
  conv => whnf
  refine Br.od h (fun p11 h => ?_) (fun p11 h => ?_)
  ·conv => whnf
   refine Br.yes ?_
   conv => whnf
   refine Len.map ?_
   conv => whnf
   refine Br.yes ?_
   conv => whnf
   refine Br.yes ?_
   conv => whnf
   refine Br.yes ?_
   conv => whnf
   refine Br.od h (fun p12 h => ?_) (fun p12 h => ?_)
   ·conv => whnf
    cases h; exact ⟨rfl, rfl⟩
   conv => whnf
   cases h; exact ⟨rfl, rfl⟩
  conv => whnf
  refine Br.no ?_
  conv => whnf
  refine Br.no ?_
  conv => whnf
  refine Br.no ?_
  conv => whnf
  refine Br.no ?_
  conv => whnf
  refine Br.no ?_
  conv => whnf
  cases h; exact ⟨rfl, rfl⟩
 rintro (⟨⟩ | ⟨⟩) h
 ·try dsimp only at h
  conv => whnf
  refine LoopQ.o [11, 9, 8, 10, 5, 1] (Ny most0 q8_5 x10) (Vw most0 q8_5 x10) h (fun s o h => Aew s o h) (by rfl) (fun _ => rfl) ?_
  rintro ⟨q24_9, q24_8⟩ h
  try dsimp only at h
  conv => whnf
  refine Ask.o h fun p25 h => ?_
  conv => whnf
  cases h; exact ⟨rfl, rfl⟩
 try dsimp only at h
 conv => whnf
 cases h; exact ⟨rfl, rfl⟩
noncomputable def Io (a0 : SAlgebra) (most0 : Int) : Option (List (List Int)) :=
 (Al (Hu a0 most0) (Av (List Int), (0 : Int))).bind fun q8_5 =>
 (Da (a0.Size)).bind fun r9 =>
 (Da (a0.Size)).bind fun r10 =>
 (Al (Hl most0 q8_5) ([r10], [r9], (0 : Int))).bind fun q26_8 =>
 some q26_8
theorem Aj8 {a0 : SAlgebra} {most0 : Int} {v : (List (List Int))} (h : Io a0 most0 = some v) : Ret Try.prog Tu [(Ak false) a0, Af most0] ((slr false 1 (slr false 1 Af)) v) := by
 refine A8 Ajz (Nat.le_of_ble_eq_true rfl) ?_
 unfold Io at h
 conv => whnf
 refine BslQ.o (slr true 1 Af) (Av (List Int)) (by exact fun _ => ⟨rfl, rfl⟩) (by rfl) ?_
 conv => whnf
 refine FrzQ.d (V.sl false (1 : Nat) (List.map (slr false (1 : Nat) Af) (Av (List Int)))) (by first | (simp only [A6, Ac, slr]; done) | (simp [A6, V.fz]; done) | (simp [A6, V.fz, fzL]; done)) ?_
 conv => whnf
 refine LoopQ.o [5, 6, 2, 1] (Ob a0 most0) (U5 a0 most0) h (fun s o h => Adv s o h) (by rfl) (fun _ => rfl) ?_
 rintro q8_5 h
 try dsimp only at h
 conv => whnf
 refine Cells.lit rfl rfl ?_
 conv => whnf
 refine CallQ.o (slr true 1 Af) (by rfl) h (fun r h => I8 h) (fun r9 h => ?_)
 conv => whnf
 refine BslQ.o (slr true 1 Af) [r9] (by exact fun _ => ⟨rfl, rfl⟩) (by rfl) ?_
 conv => whnf
 refine Cells.lit rfl rfl ?_
 conv => whnf
 refine CallQ.o (slr true 1 Af) (by rfl) h (fun r h => I8 h) (fun r10 h => ?_)
 conv => whnf
 refine BslQ.o (slr true 1 Af) [r10] (by exact fun _ => ⟨rfl, rfl⟩) (by rfl) ?_
 conv => whnf
 refine FrzQ.d (V.sl false (1 : Nat) (List.map (slr false (1 : Nat) Af) [r9])) (by first | (simp only [A6, Ac, slr]; done) | (simp [A6, V.fz, slr]; done) | (simp [A6, V.fz, fzL, Ab, slr]; done)) ?_
 conv => whnf
 refine FrzQ.d (V.sl true (1 : Nat) (List.map (slr false (1 : Nat) Af) [r10])) (by first | (simp only [V.fzAt, Lo, Ab]; done) | exact Eq.trans (b := V.sl true (1 : Nat) (List.map (slr false (1 : Nat) Af) [r10])) rfl (by simp only [Ac])) ?_
 conv => whnf
 refine LoopQ.o [9, 8, 10, 5, 1] (Oe most0 q8_5) (Vf most0 q8_5) h (fun s o h => Aea s o h) (by rfl) (fun _ => rfl) ?_
 rintro q26_8 h
 try dsimp only at h
 conv => whnf
 cases h; exact (by rfl)
noncomputable def De (c0 : Sl1Cur) (a0 : SAlgebra) : Option ((List Int) × Sl1Cur) :=
 (((K9 (a0)).bind fun r1 =>
 if (r1) = true then
 (Bm (c0) ((5 : Int))).bind fun (r3, u4) =>
 if (r3) = true then
 (Cr (u4) (a0.Size)).bind fun (r6, u7) =>
 some (.inl (r6, u7))
 else
 some (.inr u4)
 else
 (Cr (c0) (a0.Size)).bind fun (r8, u9) =>
 some (.inl (r8, u9)) : Option (((List Int) × Sl1Cur) ⊕ Sl1Cur))).bind fun t => match t with
 | (.inl (q10_4, q10_27)) => (some (q10_4, q10_27))
 | (.inr q10_27) => ((Io (a0) ((200 : Int))).bind fun r11 =>
 (Ar (q10_27) ((↑r11.length : Int))).bind fun (r12, u13) =>
 ask ((0 : Int) ≤ r12 ∧ r12 < (↑r11.length : Int)) <|
 (Gx (nth r11 r12.toNat)).bind fun r15 =>
 some (r15, u13))
theorem Tp {c0 : Sl1Cur} {a0 : SAlgebra} {v : ((List Int) × Sl1Cur)} (h : De c0 a0 = some v) : Qs Try.prog G4 [(rP true (Aj false)) c0, (Ak false) a0] ((slr true 1 Af) v.1) 0 ((rP true (Aj false)) v.2) := by
 refine Lh Uj (Nat.le_of_ble_eq_true rfl) ?_
 unfold De at h
 conv => whnf
 refine CutQ.o (fun t : (((List Int) × Sl1Cur) ⊕ Sl1Cur) => match t with | (.inl s) => (Ex.ret, [4, 27], [(4, A.val ((slr true 1 Af) s.1)), (27, A.val ((rP true (Aj false)) s.2))]) | (.inr s) => (Ex.normal, [3, 0, 27], [(3, A.val ((rP true (Ak false)) (a0))), (0, A.ref 27 []), (27, A.val ((rP true (Aj false)) s))])) h ?_ ?_
 ·intro t h
  conv => whnf
  refine Cells.lit rfl rfl ?_
  conv => whnf
  refine CallQ.o V.bool (by rfl) h (fun r h => Aj0 h) (fun r1 h => ?_)
  conv => whnf
  refine Br.flip ?_
  conv => whnf
  refine Br.ob h (fun p2 h => ?_) (fun p2 h => ?_)
  ·conv => whnf
   refine Br.no ?_
   conv => whnf
   refine CallQ.io V.bool (rP true (Aj false)) (by rfl) rfl (fun _ => rfl) (fun _ => ⟨rfl, rfl⟩) rfl h (fun r h => Eo h) (fun r3 u4 h => ?_)
   conv => whnf
   refine Br.no ?_
   conv => whnf
   refine Br.ob h (fun p5 h => ?_) (fun p5 h => ?_)
   ·conv => whnf
    refine Cells.lit rfl rfl ?_
    conv => whnf
    refine CallQ.io (slr true 1 Af) (rP true (Aj false)) (by rfl) rfl (fun _ => rfl) (fun _ => ⟨rfl, rfl⟩) rfl h (fun r h => Lr h) (fun r6 u7 h => ?_)
    conv => whnf
    cases h; exact ⟨rfl, rfl⟩
   conv => whnf
   cases h; exact ⟨rfl, rfl⟩
  conv => whnf
  refine Br.yes ?_
  conv => whnf
  refine Br.yes ?_
  conv => whnf
  refine Br.yes ?_
  conv => whnf
  refine Cells.lit rfl rfl ?_
  conv => whnf
  refine CallQ.io (slr true 1 Af) (rP true (Aj false)) (by rfl) rfl (fun _ => rfl) (fun _ => ⟨rfl, rfl⟩) rfl h (fun r h => Lr h) (fun r8 u9 h => ?_)
  conv => whnf
  cases h; exact ⟨rfl, rfl⟩
 rintro (⟨q10_4, q10_27⟩ | q10_27) h
 ·try dsimp only at h
  conv => whnf
  cases h; exact ⟨(by rfl), (by rfl)⟩
 try dsimp only at h
 conv => whnf
 refine Cells.lit rfl rfl ?_
 conv => whnf
 refine CallQ.o (slr false 1 (slr false 1 Af)) (by rfl) h (fun r h => Aj8 h) (fun r11 h => ?_)
 conv => whnf
 refine Len.map ?_
 conv => whnf
 refine CallQ.io Af (rP true (Aj false)) (by rfl) rfl (fun _ => rfl) (fun _ => ⟨rfl, rfl⟩) rfl h (fun r h => Aw h) (fun r12 u13 h => ?_)
 conv => whnf
 refine Len.map ?_
 conv => whnf
 refine Ask.o h fun p14 h => ?_
 conv => whnf
 refine Elem.o (by first | omega | (simp [Ap] at *; omega)) ?_
 conv => whnf
 refine CallQ.o (slr true 1 Af) (by rfl) h (fun r h => Qn h) (fun r15 h => ?_)
 conv => whnf
 cases h; exact ⟨(by rfl), (by rfl)⟩
noncomputable def Dq (code0 : (List Int)) : Option (SAlgebra × (List Int)) :=
 (Ez ({ code := code0, at_ := (0 : Int), seed := (0 : Int) })).bind fun (r1, u2) =>
 (De (u2) (r1)).bind fun (r3, _u4) =>
 some (r1, r3)
theorem Vm {code0 : (List Int)} {v : (SAlgebra × (List Int))} (h : Dq code0 = some v) : Ret Try.prog Hx [(slr false 1 (V.int IntKind.u8)) code0] ((fun r => V.tup [(Ak false) r.1, (slr false 1 Af) r.2]) v) := by
 refine Acc V9 (Nat.le_of_ble_eq_true rfl) ?_
 unfold Dq at h
 conv => whnf
 refine CallQ.io (Ak true) (rP true (Aj false)) (by rfl) rfl (fun _ => rfl) (fun _ => ⟨rfl, rfl⟩) rfl h (fun r h => Zd h) (fun r1 u2 h => ?_)
 conv => whnf
 refine SetKids.lit rfl ?_
 conv => whnf
 refine FrzQ.d (V.ptr true (V.agg [V.int IntKind.i64 r1.Size, V.sl false (2 : Nat) (List.map (A7 false) r1.Ops)])) (by first | (simp only [V.fzAt, Lo]; done) | exact Eq.trans (b := V.ptr true (V.agg [V.int IntKind.i64 r1.Size, (V.sl true (2 : Nat) (List.map (A7 true) r1.Ops)).fz])) rfl (by simp only [Ac])) ?_
 conv => whnf
 refine Cells.lit rfl rfl ?_
 conv => whnf
 refine Cells.lit rfl rfl ?_
 conv => whnf
 refine LendP.io (slr true 1 Af) (rP true (Aj false)) (by rfl) (fun _ => rfl) (fun _ => ⟨rfl, rfl⟩) (fun _ => rfl) h (fun r h => Tp h) (fun r3 u4 h => ?_)
 conv => whnf
 refine SetKids.lit rfl ?_
 conv => whnf
 cases h; exact (by first | rfl | simp only [Ag, V.fz, fzL, V.up, upL, Ab, slr] | simp [Ag, Aa, V.fz, fzL, V.up, upL, Ab, Ac, Ad, slr])
end Go.Proofs.Ytcpgnfohmeineaa.Ax
