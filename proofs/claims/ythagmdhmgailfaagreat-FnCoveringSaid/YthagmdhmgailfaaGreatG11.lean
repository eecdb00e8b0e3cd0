/-
 What the functions compute, as functions on plain data, and that the program does compute it; written by program.
-/
import Derived.Test.YthagmdhmgailfaaGreatCode
import Derived.Test.YthagmdhmgailfaaGreatG1
import Derived.Test.YthagmdhmgailfaaGreatG2
import Derived.Test.YthagmdhmgailfaaGreatG3
import Derived.Test.YthagmdhmgailfaaGreatG4
import Derived.Test.YthagmdhmgailfaaGreatG6
import Derived.Test.YthagmdhmgailfaaGreatG7
import Derived.Test.YthagmdhmgailfaaGreatG8
import Derived.Test.YthagmdhmgailfaaGreatG9
import Derived.Test.YthagmdhmgailfaaGreatG10
namespace Go.Proofs.YthagmdhmgailfaaGreat.Ax
open Go
set_option maxRecDepth 100000
set_option maxHeartbeats 4000000
noncomputable def Cw (a0 : SAlgebra) (_most0 : Int) (x6 : Int) : (Int × (List (List Int))) → Option ((Int × (List (List Int))) ⊕ (List (List Int))) := fun (x7, x5') =>
 if x7 < x6 then
 (Dm (a0) (x6) (x7)).bind fun r3 =>
 (G4 (x5') (r3)).bind fun r4 =>
 ask (InI (x7 + (1 : Int))) <|
 some (.inl (x7 + (1 : Int), r4))
 else
 some (.inr x5')
def Nq (a0 : SAlgebra) (most0 : Int) (x6 : Int) : (Int × (List (List Int))) → St := fun s => [(7, A.val (Af s.1)), (5, A.val ((slr false 1 (slr false 1 Af)) s.2)), (6, A.val (Af (x6))), (2, A.val ((rP true (Ag false)) (a0))), (1, A.val (Af (most0)))]
def Vz (a0 : SAlgebra) (most0 : Int) (x6 : Int) : (List (List Int)) → Tgt
 | s => ((Ex.exit 2), [5, 6, 2, 1], [(5, A.val ((slr false 1 (slr false 1 Af)) s)), (6, A.val (Af (x6))), (2, A.val ((rP true (Ag false)) (a0))), (1, A.val (Af (most0)))])
theorem Aex {a0 : SAlgebra} {most0 : Int} {x6 : Int} (s : (Int × (List (List Int)))) (o : (Int × (List (List Int))) ⊕ (List (List Int))) (h : Cw a0 most0 x6 s = some o) : vc Tryz.prog Vn (Da [7, 5, 6, 2, 1] (Nq a0 most0 x6) (Vz a0 most0 x6) o) (Nq a0 most0 x6 s) := by
 obtain ⟨x7, x5'⟩ := s
 unfold Cw at h
 try dsimp only at h
 refine Br.od h (fun p2 h => ?_) (fun p2 h => ?_)
 ·refine Cells.lit rfl rfl <| CallQ.o (slr false 1 Af) (by rfl) h (fun r h => Abh h) (fun r3 h => ?_)
  refine CallQ.o (slr false 1 (slr false 1 Af)) (by rfl) h (fun r h => Aep h) (fun r4 h => ?_)
  refine Ask.o h fun p5 h => ?_
  cases h; exact ⟨rfl, rfl⟩
 cases h; exact ⟨rfl, rfl⟩
noncomputable def E2 (a0 : SAlgebra) (most0 : Int) : ((List (List Int)) × Int) → Option (((List (List Int)) × Int) ⊕ (List (List Int))) := fun (x5, x6) =>
 if x6 < a0.Size then
 (Al (Cw a0 most0 x6) ((0 : Int), x5)).bind fun q6_5 =>
 ask (InI (x6 + (1 : Int))) <|
 some (.inl (q6_5, x6 + (1 : Int)))
 else
 some (.inr x5)
def Nb (a0 : SAlgebra) (most0 : Int) : ((List (List Int)) × Int) → St := fun s => [(5, A.val ((slr false 1 (slr false 1 Af)) s.1)), (6, A.val (Af s.2)), (2, A.val ((rP true (Ag false)) (a0))), (1, A.val (Af (most0)))]
def V2 (a0 : SAlgebra) (most0 : Int) : (List (List Int)) → Tgt
 | s => ((Ex.exit 0), [5, 2, 1], [(5, A.val ((slr false 1 (slr false 1 Af)) s)), (2, A.val ((rP true (Ag false)) (a0))), (1, A.val (Af (most0)))])
theorem Ae8 {a0 : SAlgebra} {most0 : Int} (s : ((List (List Int)) × Int)) (o : ((List (List Int)) × Int) ⊕ (List (List Int))) (h : E2 a0 most0 s = some o) : vc Tryz.prog Uu (Da [5, 6, 2, 1] (Nb a0 most0) (V2 a0 most0) o) (Nb a0 most0 s) := by
 obtain ⟨x5, x6⟩ := s
 unfold E2 at h
 try dsimp only at h
 refine Cells.lit rfl rfl <| Br.od h (fun p1 h => ?_) (fun p1 h => ?_)
 ·refine LoopQ.o [7, 5, 6, 2, 1] (Nq a0 most0 x6) (Vz a0 most0 x6) h (fun s o h => Aex s o h) (by rfl) (fun _ => rfl) ?_
  rintro q6_5 h
  try dsimp only at h
  refine Ask.o h fun p7 h => ?_
  cases h; exact ⟨rfl, rfl⟩
 cases h; exact ⟨rfl, rfl⟩
noncomputable def Cx (most0 : Int) (q8_5 : List (List Int)) (x10 : Int) : (Int × (List (List Int)) × (List (List Int))) → Option ((Int × (List (List Int)) × (List (List Int))) ⊕ ((List (List Int)) × (List (List Int)))) := fun (x11, x9', x8') =>
 ((if x11 < (↑q8_5.length : Int) then
 if (↑x8'.length : Int) ≤ most0 then
 some (.inl ())
 else
 some (.inr ())
 else
 some (.inr ()) : Option (Unit ⊕ Unit))).bind fun t => match t with
 | (.inl _) => (ask ((0 : Int) ≤ x10 ∧ x10 < (↑x9'.length : Int)) <|
 ask ((0 : Int) ≤ x11 ∧ x11 < (↑q8_5.length : Int)) <|
 (He (nth x9' x10.toNat) (nth q8_5 x11.toNat)).bind fun r19 =>
 (G4 (x8') (r19)).bind fun r20 =>
 if (↑r20.length : Int) > (↑x8'.length : Int) then
 ask ((x9').length + ([r19]).length ≤ LIM) <|
 ask (InI (x11 + (1 : Int))) <|
 some (.inl (x11 + (1 : Int), x9' ++ [r19], r20))
 else
 ask (InI (x11 + (1 : Int))) <|
 some (.inl (x11 + (1 : Int), x9', x8')))
 | (.inr _) => (some (.inr (x9', x8')))
def M8 (most0 : Int) (q8_5 : List (List Int)) (x10 : Int) : (Int × (List (List Int)) × (List (List Int))) → St := fun s => [(11, A.val (Af s.1)), (9, A.val ((slr true 1 (slr false 1 Af)) s.2.1)), (8, A.val ((slr false 1 (slr false 1 Af)) s.2.2)), (10, A.val (Af (x10))), (5, A.val ((slr false 1 (slr false 1 Af)) (q8_5))), (1, A.val (Af (most0)))]
def Uy (most0 : Int) (q8_5 : List (List Int)) (x10 : Int) : ((List (List Int)) × (List (List Int))) → Tgt
 | s => ((Ex.exit 6), [9, 8, 10, 5, 1], [(9, A.val ((slr true 1 (slr false 1 Af)) s.1)), (8, A.val ((slr false 1 (slr false 1 Af)) s.2)), (10, A.val (Af (x10))), (5, A.val ((slr false 1 (slr false 1 Af)) (q8_5))), (1, A.val (Af (most0)))])
theorem Af8 {most0 : Int} {q8_5 : List (List Int)} {x10 : Int} (s : (Int × (List (List Int)) × (List (List Int)))) (o : (Int × (List (List Int)) × (List (List Int))) ⊕ ((List (List Int)) × (List (List Int)))) (h : Cx most0 q8_5 x10 s = some o) : vc Tryz.prog U3 (Da [11, 9, 8, 10, 5, 1] (M8 most0 q8_5 x10) (Uy most0 q8_5 x10) o) (M8 most0 q8_5 x10 s) := by
 obtain ⟨x11, x9', x8'⟩ := s
 unfold Cx at h
 try dsimp only at h
 refine CutQ.o (fun t : (Unit ⊕ Unit) => match t with | (.inl s) => (Ex.normal, [11, 9, 8, 10, 5, 1], [(11, A.val (Af (x11))), (9, A.val ((slr true 1 (slr false 1 Af)) (x9'))), (8, A.val ((slr false 1 (slr false 1 Af)) (x8'))), (10, A.val (Af (x10))), (5, A.val ((slr false 1 (slr false 1 Af)) (q8_5))), (1, A.val (Af (most0)))]) | (.inr s) => ((Ex.exit 6), [9, 8, 10, 5, 1], [(9, A.val ((slr true 1 (slr false 1 Af)) (x9'))), (8, A.val ((slr false 1 (slr false 1 Af)) (x8'))), (10, A.val (Af (x10))), (5, A.val ((slr false 1 (slr false 1 Af)) (q8_5))), (1, A.val (Af (most0)))])) h ?_ ?_
 ·intro t h
  refine Len.map <| Br.od h (fun p14 h => ?_) (fun p14 h => ?_)
  ·refine Br.yes <| Len.map <| Br.yes <| Br.yes <| Br.yes <| Br.od h (fun p15 h => ?_) (fun p15 h => ?_)
   ·cases h; exact ⟨rfl, rfl⟩
   cases h; exact ⟨rfl, rfl⟩
  refine Br.no <| Br.no <| Br.no <| Br.no <| Br.no ?_
  cases h; exact ⟨rfl, rfl⟩
 rintro (⟨⟩ | ⟨⟩) h
 ·try dsimp only at h
  refine Len.map <| Ask.o h fun p17 h => Cells.one (fun _ => ⟨rfl, rfl⟩) (by first | omega | (simp [Ar] at * <;> omega)) <| Len.map <| Ask.o h fun p18 h => Elem.o (by first | omega | (simp [Ar] at * <;> omega)) <| CallQ.o (slr true 1 Af) (by rfl) h (fun r h => Alq h) (fun r19 h => ?_)
  refine FrzQ.d (V.sl false (1 : Nat) (List.map Af r19)) (by first | (simp only [slr]; done) | (simp [Bp, V.fz, Ab, slr]; done) | (simp [Bp, V.fz, fzL, Ab, slr]; done)) <| CallQ.o (slr false 1 (slr false 1 Af)) (by rfl) h (fun r h => Aep h) (fun r20 h => ?_)
  refine Len.map <| Len.map <| Br.od h (fun p21 h => ?_) (fun p21 h => ?_)
  ·refine BslQ.o (slr false 1 Af) [r19] (by exact fun _ => ⟨rfl, rfl⟩) (by rfl) <| NoOwn.o (fun _ => rfl) <| AppQ.o (m := 1) (slr false 1 Af) (by exact fun _ => ⟨rfl, rfl⟩) (x9') ([r19]) (by rfl) (by rfl) h fun h => Ask.o h fun p22 h => ?_
   cases h; exact ⟨rfl, rfl⟩
  refine Ask.o h fun p23 h => ?_
  cases h; exact ⟨rfl, rfl⟩
 try dsimp only at h
 cases h; exact ⟨rfl, rfl⟩
noncomputable def Em (most0 : Int) (q8_5 : List (List Int)) : ((List (List Int)) × (List (List Int)) × Int) → Option (((List (List Int)) × (List (List Int)) × Int) ⊕ (List (List Int))) := fun (x9, x8, x10) =>
 ((if x10 < (↑x9.length : Int) then
 if (↑x8.length : Int) ≤ most0 then
 some (.inl ())
 else
 some (.inr ())
 else
 some (.inr ()) : Option (Unit ⊕ Unit))).bind fun t => match t with
 | (.inl _) => ((Al (Cx most0 q8_5 x10) ((0 : Int), x9, x8)).bind fun (q24_9, q24_8) =>
 ask (InI (x10 + (1 : Int))) <|
 some (.inl (q24_9, q24_8, x10 + (1 : Int))))
 | (.inr _) => (some (.inr x8))
def M9 (most0 : Int) (q8_5 : List (List Int)) : ((List (List Int)) × (List (List Int)) × Int) → St := fun s => [(9, A.val ((slr true 1 (slr false 1 Af)) s.1)), (8, A.val ((slr false 1 (slr false 1 Af)) s.2.1)), (10, A.val (Af s.2.2)), (5, A.val ((slr false 1 (slr false 1 Af)) (q8_5))), (1, A.val (Af (most0)))]
def Vh (_most0 : Int) (_q8_5 : List (List Int)) : (List (List Int)) → Tgt
 | s => ((Ex.exit 4), [8], [(8, A.val ((slr false 1 (slr false 1 Af)) s))])
theorem Afm {most0 : Int} {q8_5 : List (List Int)} (s : ((List (List Int)) × (List (List Int)) × Int)) (o : ((List (List Int)) × (List (List Int)) × Int) ⊕ (List (List Int))) (h : Em most0 q8_5 s = some o) : vc Tryz.prog U1 (Da [9, 8, 10, 5, 1] (M9 most0 q8_5) (Vh most0 q8_5) o) (M9 most0 q8_5 s) := by
 obtain ⟨x9, x8, x10⟩ := s
 unfold Em at h
 try dsimp only at h
 refine CutQ.o (fun t : (Unit ⊕ Unit) => match t with | (.inl s) => (Ex.normal, [9, 8, 10, 5, 1], [(9, A.val ((slr true 1 (slr false 1 Af)) (x9))), (8, A.val ((slr false 1 (slr false 1 Af)) (x8))), (10, A.val (Af (x10))), (5, A.val ((slr false 1 (slr false 1 Af)) (q8_5))), (1, A.val (Af (most0)))]) | (.inr s) => ((Ex.exit 4), [8], [(8, A.val ((slr false 1 (slr false 1 Af)) (x8)))])) h ?_ ?_
 ·intro t h
  refine Len.map <| Br.od h (fun p11 h => ?_) (fun p11 h => ?_)
  ·refine Br.yes <| Len.map <| Br.yes <| Br.yes <| Br.yes <| Br.od h (fun p12 h => ?_) (fun p12 h => ?_)
   ·cases h; exact ⟨rfl, rfl⟩
   cases h; exact ⟨rfl, rfl⟩
  refine Br.no <| Br.no <| Br.no <| Br.no <| Br.no ?_
  cases h; exact ⟨rfl, rfl⟩
 rintro (⟨⟩ | ⟨⟩) h
 ·try dsimp only at h
  refine LoopQ.o [11, 9, 8, 10, 5, 1] (M8 most0 q8_5 x10) (Uy most0 q8_5 x10) h (fun s o h => Af8 s o h) (by rfl) (fun _ => rfl) ?_
  rintro ⟨q24_9, q24_8⟩ h
  try dsimp only at h
  refine Ask.o h fun p25 h => ?_
  cases h; exact ⟨rfl, rfl⟩
 try dsimp only at h
 cases h; exact ⟨rfl, rfl⟩
noncomputable def Bk (a0 : SAlgebra) (most0 : Int) : Option (List (List Int)) :=
 (Al (E2 a0 most0) (Aq (List Int), (0 : Int))).bind fun q8_5 =>
 (B8 (a0.Size)).bind fun r9 =>
 (B8 (a0.Size)).bind fun r10 =>
 (Al (Em most0 q8_5) ([r10], [r9], (0 : Int))).bind fun q26_8 =>
 some q26_8
theorem Uc {a0 : SAlgebra} {most0 : Int} {v : (List (List Int))} (h : Bk a0 most0 = some v) : Ret Tryz.prog Ke [(Ag false) a0, Af most0] ((slr false 1 (slr false 1 Af)) v) := by
 refine Ay Al2 (Nat.le_of_ble_eq_true rfl) ?_
 unfold Bk at h
 refine BslQ.o (slr true 1 Af) (Aq (List Int)) (by exact fun _ => ⟨rfl, rfl⟩) (by rfl) <| FrzQ.d (V.sl false (1 : Nat) (List.map (slr false (1 : Nat) Af) (Aq (List Int)))) (by first | (simp only [Bp, Ac, slr]; done) | (simp [Bp, V.fz]; done) | (simp [Bp, V.fz, fzL]; done)) <| LoopQ.o [5, 6, 2, 1] (Nb a0 most0) (V2 a0 most0) h (fun s o h => Ae8 s o h) (by rfl) (fun _ => rfl) ?_
 rintro q8_5 h
 try dsimp only at h
 refine Cells.lit rfl rfl <| CallQ.o (slr true 1 Af) (by rfl) h (fun r h => Fb h) (fun r9 h => ?_)
 refine BslQ.o (slr true 1 Af) [r9] (by exact fun _ => ⟨rfl, rfl⟩) (by rfl) <| Cells.lit rfl rfl <| CallQ.o (slr true 1 Af) (by rfl) h (fun r h => Fb h) (fun r10 h => ?_)
 refine BslQ.o (slr true 1 Af) [r10] (by exact fun _ => ⟨rfl, rfl⟩) (by rfl) <| FrzQ.d (V.sl false (1 : Nat) (List.map (slr false (1 : Nat) Af) [r9])) (by first | (simp only [Bp, Ac, slr]; done) | (simp [Bp, V.fz, slr]; done) | (simp [Bp, V.fz, fzL, Ab, slr]; done)) <| FrzQ.d (V.sl true (1 : Nat) (List.map (slr false (1 : Nat) Af) [r10])) (by first | (simp only [V.fzAt, Lc, Ab]; done) | exact Eq.trans (b := V.sl true (1 : Nat) (List.map (slr false (1 : Nat) Af) [r10])) rfl (by simp only [Ac])) <| LoopQ.o [9, 8, 10, 5, 1] (M9 most0 q8_5) (Vh most0 q8_5) h (fun s o h => Afm s o h) (by rfl) (fun _ => rfl) ?_
 rintro q26_8 h
 try dsimp only at h
 cases h; exact (by rfl)
noncomputable def D5 (a0 : SAlgebra) : Option Bool :=
 (Hj (a0)).bind fun r1 =>
 if (r1) = true then
 (Bk (a0) ((200 : Int))).bind fun r3 =>
 some (decide ((↑r3.length : Int) ≤ (200 : Int)))
 else
 some false
theorem W6 {a0 : SAlgebra} {v : Bool} (h : D5 a0 = some v) : Ret Tryz.prog L8 [(Ag false) a0] (V.bool v) := by
 refine Ay An8 (Nat.le_of_ble_eq_true rfl) ?_
 unfold D5 at h
 refine Cells.lit rfl rfl <| CallQ.o V.bool (by rfl) h (fun r h => Uq h) (fun r1 h => ?_)
 refine Br.ob h (fun p2 h => ?_) (fun p2 h => ?_)
 ·refine Cells.lit rfl rfl <| Br.yes <| CallQ.o (slr false 1 (slr false 1 Af)) (by rfl) h (fun r h => Uc h) (fun r3 h => ?_)
  refine Br.yes <| Len.map <| Br.yes <| Br.yes ?_
  cases h; exact (by rfl)
 refine Br.no <| Br.no <| Br.no <| Br.no ?_
 cases h; exact (by rfl)
noncomputable def G3 (a0 : SAlgebra) : Option (List (List Int)) :=
 (Bk (a0) ((5000 : Int))).bind fun r1 =>
 some r1
theorem Ww {a0 : SAlgebra} {v : (List (List Int))} (h : G3 a0 = some v) : Ret Tryz.prog L7 [(Ag false) a0] ((slr false 1 (slr false 1 Af)) v) := by
 refine Ay Ao9 (Nat.le_of_ble_eq_true rfl) ?_
 unfold G3 at h
 refine Cells.lit rfl rfl <| CallQ.o (slr false 1 (slr false 1 Af)) (by rfl) h (fun r h => Uc h) (fun r1 h => ?_)
 cases h; exact (by rfl)
noncomputable def Db (c0 : Sl1Cur) (a0 : SAlgebra) : Option ((List Int) × Sl1Cur) :=
 (((Hj (a0)).bind fun r1 =>
 if (r1) = true then
 (El (c0) ((5 : Int))).bind fun (r3, u4) =>
 if (r3) = true then
 (Cm (u4) (a0.Size)).bind fun (r6, u7) =>
 some (.inl (r6, u7))
 else
 some (.inr u4)
 else
 (Cm (c0) (a0.Size)).bind fun (r8, u9) =>
 some (.inl (r8, u9)) : Option (((List Int) × Sl1Cur) ⊕ Sl1Cur))).bind fun t => match t with
 | (.inl (q10_4, q10_27)) => (some (q10_4, q10_27))
 | (.inr q10_27) => ((Bk (a0) ((200 : Int))).bind fun r11 =>
 (Av (q10_27) ((↑r11.length : Int))).bind fun (r12, u13) =>
 ask ((0 : Int) ≤ r12 ∧ r12 < (↑r11.length : Int)) <|
 (Gz (nth r11 r12.toNat)).bind fun r15 =>
 some (r15, u13))
theorem Ub {c0 : Sl1Cur} {a0 : SAlgebra} {v : ((List Int) × Sl1Cur)} (h : Db c0 a0 = some v) : Wy Tryz.prog Hc [(rP true (Aj false)) c0, (Ag false) a0] ((slr true 1 Af) v.1) 0 ((rP true (Aj false)) v.2) := by
 refine N6 Uf (Nat.le_of_ble_eq_true rfl) ?_
 unfold Db at h
 refine CutQ.o (fun t : (((List Int) × Sl1Cur) ⊕ Sl1Cur) => match t with | (.inl s) => (Ex.ret, [4, 27], [(4, A.val ((slr true 1 Af) s.1)), (27, A.val ((rP true (Aj false)) s.2))]) | (.inr s) => (Ex.normal, [3, 0, 27], [(3, A.val ((rP true (Ag false)) (a0))), (0, A.ref 27 []), (27, A.val ((rP true (Aj false)) s))])) h ?_ ?_
 ·intro t h
  refine Cells.lit rfl rfl <| CallQ.o V.bool (by rfl) h (fun r h => Uq h) (fun r1 h => ?_)
  refine Br.flip <| Br.ob h (fun p2 h => ?_) (fun p2 h => ?_)
  ·refine Br.no <| CallQ.io V.bool (rP true (Aj false)) (by rfl) rfl (fun _ => rfl) (fun _ => ⟨rfl, rfl⟩) rfl h (fun r h => M1 h) (fun r3 u4 h => ?_)
   refine Br.no <| Br.ob h (fun p5 h => ?_) (fun p5 h => ?_)
   ·refine Cells.lit rfl rfl <| CallQ.io (slr true 1 Af) (rP true (Aj false)) (by rfl) rfl (fun _ => rfl) (fun _ => ⟨rfl, rfl⟩) rfl h (fun r h => Ln h) (fun r6 u7 h => ?_)
    cases h; exact ⟨rfl, rfl⟩
   cases h; exact ⟨rfl, rfl⟩
  refine Br.yes <| Br.yes <| Br.yes <| Cells.lit rfl rfl <| CallQ.io (slr true 1 Af) (rP true (Aj false)) (by rfl) rfl (fun _ => rfl) (fun _ => ⟨rfl, rfl⟩) rfl h (fun r h => Ln h) (fun r8 u9 h => ?_)
  cases h; exact ⟨rfl, rfl⟩
 rintro (⟨q10_4, q10_27⟩ | q10_27) h
 ·try dsimp only at h
  cases h; exact ⟨(by rfl), (by rfl)⟩
 try dsimp only at h
 refine Cells.lit rfl rfl <| CallQ.o (slr false 1 (slr false 1 Af)) (by rfl) h (fun r h => Uc h) (fun r11 h => ?_)
 refine Len.map <| CallQ.io Af (rP true (Aj false)) (by rfl) rfl (fun _ => rfl) (fun _ => ⟨rfl, rfl⟩) rfl h (fun r h => A3 h) (fun r12 u13 h => ?_)
 refine Len.map <| Ask.o h fun p14 h => Elem.o (by first | omega | (simp [Ar] at * <;> omega)) <| CallQ.o (slr true 1 Af) (by rfl) h (fun r h => P2 h) (fun r15 h => ?_)
 cases h; exact ⟨(by rfl), (by rfl)⟩
noncomputable def C2 (a0 : SAlgebra) : Option ((List (List Int)) × Bool) :=
 (D5 (a0)).bind fun r1 =>
 if (r1) = true then
 (G3 (a0)).bind fun r3 =>
 (B8 (a0.Size)).bind fun r4 =>
 (Fj (r3) (r4)).bind fun r5 =>
 some (r5, true)
 else
 some (Aq (List Int), false)
theorem Ry {a0 : SAlgebra} {v : ((List (List Int)) × Bool)} (h : C2 a0 = some v) : Ret Tryz.prog Gp [(Ag false) a0] ((fun r => V.tup [(slr false 1 (slr false 1 Af)) r.1, V.bool r.2]) v) := by
 refine Q5 R7 (Nat.le_of_ble_eq_true rfl) ?_
 unfold C2 at h
 conv => whnf
 refine Cells.lit rfl rfl ?_
 conv => whnf
 refine CallQ.o V.bool (by rfl) h (fun r h => W6 h) (fun r1 h => ?_)
 conv => whnf
 refine Br.flip ?_
 conv => whnf
 refine Br.ob h (fun p2 h => ?_) (fun p2 h => ?_)
 ·conv => whnf
  refine Cells.lit rfl rfl ?_
  conv => whnf
  refine CallP.o (slr false 1 (slr false 1 Af)) (by rfl) h (fun r h => Ww h) (fun r3 h => ?_)
  conv => whnf
  refine Cells.lit rfl rfl ?_
  conv => whnf
  refine CallQ.o (slr false 1 Af) (by rfl) h (fun r h => Ret.frz (Fb h) (by first | rfl | simp only [V.fz, Ab, slr] | simp [Aa, V.fz, fzL, V.up, upL, Ab, Ac, Ad, slr])) (fun r4 h => ?_)
  conv => whnf
  refine CallQ.o (slr true 1 (slr false 1 Af)) (by rfl) h (fun r h => Pc h) (fun r5 h => ?_)
  conv => whnf
  cases h; exact (by first | rfl | simp only [Ah, V.fz, fzL, V.up, Ab, slr] | simp [Ah, Aa, V.fz, fzL, V.up, upL, Ab, Ac, Ad, slr])
 conv => whnf
 refine BslQ.o (slr true 1 Af) (Aq (List Int)) (by exact fun _ => ⟨rfl, rfl⟩) (by rfl) ?_
 conv => whnf
 cases h; exact (by rfl)
noncomputable def Bi (a0 : SAlgebra) (p0 : (List Int)) : Option ((List (List Int)) × Bool) :=
 (D5 (a0)).bind fun r1 =>
 if (r1) = true then
 (Oj (a0) (p0)).bind fun r3 =>
 if (r3) = true then
 (G3 (a0)).bind fun r5 =>
 (Fj (r5) (p0)).bind fun r6 =>
 some (r6, true)
 else
 some (Aq (List Int), false)
 else
 some (Aq (List Int), false)
theorem Rb {a0 : SAlgebra} {p0 : (List Int)} {v : ((List (List Int)) × Bool)} (h : Bi a0 p0 = some v) : Ret Tryz.prog F4 [(Ag false) a0, (slr false 1 Af) p0] ((fun r => V.tup [(slr false 1 (slr false 1 Af)) r.1, V.bool r.2]) v) := by
 refine Q5 Q7 (Nat.le_of_ble_eq_true rfl) ?_
 unfold Bi at h
 conv => whnf
 refine Cells.lit rfl rfl ?_
 conv => whnf
 refine CallQ.o V.bool (by rfl) h (fun r h => W6 h) (fun r1 h => ?_)
 conv => whnf
 refine Br.flip ?_
 conv => whnf
 refine Br.ob h (fun p2 h => ?_) (fun p2 h => ?_)
 ·conv => whnf
  refine Cells.lit rfl rfl ?_
  conv => whnf
  refine Br.no ?_
  conv => whnf
  refine Br.no ?_
  conv => whnf
  refine CallQ.o V.bool (by rfl) h (fun r h => Apz h) (fun r3 h => ?_)
  conv => whnf
  refine Br.no ?_
  conv => whnf
  refine Br.no ?_
  conv => whnf
  refine Br.flip ?_
  conv => whnf
  refine Br.ob h (fun p4 h => ?_) (fun p4 h => ?_)
  ·conv => whnf
   refine Cells.lit rfl rfl ?_
   conv => whnf
   refine CallQ.o (slr false 1 (slr false 1 Af)) (by rfl) h (fun r h => Ww h) (fun r5 h => ?_)
   conv => whnf
   refine CallQ.o (slr true 1 (slr false 1 Af)) (by rfl) h (fun r h => Pc h) (fun r6 h => ?_)
   conv => whnf
   cases h; exact (by first | rfl | simp only [Ah, V.fz, fzL, V.up, Ab, slr] | simp [Ah, Aa, V.fz, fzL, V.up, upL, Ab, Ac, Ad, slr])
  conv => whnf
  refine BslQ.o (slr true 1 Af) (Aq (List Int)) (by exact fun _ => ⟨rfl, rfl⟩) (by rfl) ?_
  conv => whnf
  cases h; exact (by rfl)
 conv => whnf
 refine Br.yes ?_
 conv => whnf
 refine Br.yes ?_
 conv => whnf
 refine Br.yes ?_
 conv => whnf
 refine Br.yes ?_
 conv => whnf
 refine Br.yes ?_
 conv => whnf
 refine BslQ.o (slr true 1 Af) (Aq (List Int)) (by exact fun _ => ⟨rfl, rfl⟩) (by rfl) ?_
 conv => whnf
 cases h; exact (by rfl)
noncomputable def Dx (code0 : (List Int)) : Option (SAlgebra × (List Int)) :=
 (Dp ({ code := code0, at_ := (0 : Int), seed := (0 : Int) })).bind fun (r1, u2) =>
 (Db (u2) (r1)).bind fun (r3, _u4) =>
 some (r1, r3)
theorem Vf {code0 : (List Int)} {v : (SAlgebra × (List Int))} (h : Dx code0 = some v) : Ret Tryz.prog Ht [(slr false 1 (V.int IntKind.u8)) code0] ((fun r => V.tup [(Ag false) r.1, (slr false 1 Af) r.2]) v) := by
 refine Q5 Vv (Nat.le_of_ble_eq_true rfl) ?_
 unfold Dx at h
 conv => whnf
 refine CallQ.io (Ag true) (rP true (Aj false)) (by rfl) rfl (fun _ => rfl) (fun _ => ⟨rfl, rfl⟩) rfl h (fun r h => O0 h) (fun r1 u2 h => ?_)
 conv => whnf
 refine SetKids.lit rfl ?_
 conv => whnf
 refine FrzQ.d (V.ptr true (V.agg [V.int IntKind.i64 r1.Size, V.sl false (2 : Nat) (List.map (Bd false) r1.Ops)])) (by first | (simp only [V.fzAt, Lc]; done) | exact Eq.trans (b := V.ptr true (V.agg [V.int IntKind.i64 r1.Size, (V.sl true (2 : Nat) (List.map (Bd true) r1.Ops)).fz])) rfl (by simp only [Ac])) ?_
 conv => whnf
 refine Cells.lit rfl rfl ?_
 conv => whnf
 refine Cells.lit rfl rfl ?_
 conv => whnf
 refine LendP.io (slr true 1 Af) (rP true (Aj false)) (by rfl) (fun _ => rfl) (fun _ => ⟨rfl, rfl⟩) (fun _ => rfl) h (fun r h => Ub h) (fun r3 u4 h => ?_)
 conv => whnf
 refine SetKids.lit rfl ?_
 conv => whnf
 cases h; exact (by first | rfl | simp only [Ah, V.fz, fzL, V.up, upL, Ab, slr] | simp [Ah, Aa, V.fz, fzL, V.up, upL, Ab, Ac, Ad, slr])
noncomputable def Ea (a0 : SAlgebra) (r1 : List (List Int)) : (Int × (List (List Int))) → Option ((Int × (List (List Int))) ⊕ (List (List Int))) := fun (x5, x3) =>
 if x5 < (↑r1.length : Int) then
 ask ((0 : Int) ≤ x5 ∧ x5 < (↑r1.length : Int)) <|
 (Fj (r1) (nth r1 x5.toNat)).bind fun r4 =>
 ((if (↑r4.length : Int) = (1 : Int) then
 ask ((0 : Int) ≤ (0 : Int) ∧ (0 : Int) < (↑r4.length : Int)) <|
 (Kd (a0.Size)).bind fun r7 =>
 (Dc (nth r4 (Int.toNat (0 : Int))) (r7)).bind fun r8 =>
 some r8
 else
 some false : Option Bool)).bind fun q9_33 =>
 if (q9_33) = true then
 ask ((0 : Int) ≤ x5 ∧ x5 < (↑r1.length : Int)) <|
 ask ((x3).length + ([nth r1 x5.toNat]).length ≤ LIM) <|
 ask (InI (x5 + (1 : Int))) <|
 some (.inl (x5 + (1 : Int), x3 ++ [nth r1 x5.toNat]))
 else
 ask (InI (x5 + (1 : Int))) <|
 some (.inl (x5 + (1 : Int), x3))
 else
 some (.inr x3)
def J4 (a0 : SAlgebra) (r1 : List (List Int)) : (Int × (List (List Int))) → St := fun s => [(5, A.val (Af s.1)), (4, A.val ((slr false 1 (slr false 1 Af)) (r1))), (3, A.val ((slr true 1 (slr false 1 Af)) s.2)), (1, A.val ((rP true (Ag false)) (a0)))]
def P0 (_a0 : SAlgebra) (_r1 : List (List Int)) : (List (List Int)) → Tgt
 | s => ((Ex.exit 0), [3], [(3, A.val ((slr true 1 (slr false 1 Af)) s))])
theorem Aar {a0 : SAlgebra} {r1 : List (List Int)} (s : (Int × (List (List Int)))) (o : (Int × (List (List Int))) ⊕ (List (List Int))) (h : Ea a0 r1 s = some o) : vc Tryz.prog Pz (Da [5, 4, 3, 1] (J4 a0 r1) (P0 a0 r1) o) (J4 a0 r1 s) := by
 obtain ⟨x5, x3⟩ := s
 unfold Ea at h
 try dsimp only at h
 refine Len.map <| Br.od h (fun p2 h => ?_) (fun p2 h => ?_)
 ·refine Len.map <| Ask.o h fun p3 h => Elem.o (by first | omega | (simp [Ar] at * <;> omega)) <| CallQ.o (slr true 1 (slr false 1 Af)) (by rfl) h (fun r h => Pc h) (fun r4 h => ?_)
  refine CutQ.o (fun t : Bool => match t with | s => (Ex.normal, [33, 5, 4, 3, 1], [(33, A.val (V.bool s)), (5, A.val (Af (x5))), (4, A.val ((slr false 1 (slr false 1 Af)) (r1))), (3, A.val ((slr true 1 (slr false 1 Af)) (x3))), (1, A.val ((rP true (Ag false)) (a0)))])) h ?_ ?_
  ·intro t h
   refine Len.map <| Br.oe h (fun p5 h => ?_) (fun p5 h => ?_)
   ·refine Br.yes <| Len.map <| Ask.o h fun p6 h => Br.yes <| Cells.one (fun _ => ⟨rfl, rfl⟩) (by first | omega | (simp [Ar] at * <;> omega)) <| Br.yes <| Br.yes <| Cells.lit rfl rfl <| Br.yes <| CallP.o (slr true 1 Af) (by rfl) h (fun r h => Al6 h) (fun r7 h => ?_)
    refine Br.yes <| CallQ.rd V.bool (by first | rfl | simp only [Aa, V.fz, Ab, slr] | simp [Aa, V.fz, fzL, V.up, upL, Ab, Ac, Ad, slr]) (fun _ => rfl) h (fun r h => Iq h) (fun r8 h => ?_)
    refine Br.yes ?_
    cases h; exact ⟨rfl, rfl⟩
   refine Br.no <| Br.no <| Br.no <| Br.no <| Br.no <| Br.no <| Br.no ?_
   cases h; exact ⟨rfl, rfl⟩
  rintro q9_33 h
  try dsimp only at h
  refine Br.ob h (fun p10 h => ?_) (fun p10 h => ?_)
  ·refine Len.map <| Ask.o h fun p11 h => Elem.o (by first | omega | (simp [Ar] at * <;> omega)) <| BslQ.o (slr false 1 Af) ([nth r1 x5.toNat]) (by exact fun _ => ⟨rfl, rfl⟩) (by rfl) <| NoOwn.o (fun _ => rfl) <| AppQ.o (m := 1) (slr false 1 Af) (by exact fun _ => ⟨rfl, rfl⟩) (x3) ([nth r1 x5.toNat]) (by rfl) (by rfl) h fun h => Ask.o h fun p12 h => ?_
   cases h; exact ⟨rfl, rfl⟩
  refine Ask.o h fun p13 h => ?_
  cases h; exact ⟨rfl, rfl⟩
 cases h; exact ⟨rfl, rfl⟩
noncomputable def Hy (a0 : SAlgebra) : Option (List (List Int)) :=
 (G3 (a0)).bind fun r1 =>
 (Al (Ea a0 r1) ((0 : Int), Aq (List Int))).bind fun q14_3 =>
 some q14_3
theorem Ae2 {a0 : SAlgebra} {v : (List (List Int))} (h : Hy a0 = some v) : Ret Tryz.prog M3 [(Ag false) a0] ((slr true 1 (slr false 1 Af)) v) := by
 refine Ay Afu (Nat.le_of_ble_eq_true rfl) ?_
 unfold Hy at h
 refine BslQ.o (slr true 1 Af) (Aq (List Int)) (by exact fun _ => ⟨rfl, rfl⟩) (by rfl) <| Cells.lit rfl rfl <| CallQ.o (slr false 1 (slr false 1 Af)) (by rfl) h (fun r h => Ww h) (fun r1 h => ?_)
 refine LoopQ.o [5, 4, 3, 1] (J4 a0 r1) (P0 a0 r1) h (fun s o h => Aar s o h) (by rfl) (fun _ => rfl) ?_
 rintro q14_3 h
 try dsimp only at h
 cases h; exact (by rfl)
end Go.Proofs.YthagmdhmgailfaaGreat.Ax
