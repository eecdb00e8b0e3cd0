/-
 What the functions compute, as functions on plain data, and that the program does compute it; written by program.
-/
import Derived.Test.YtjcekpmojnnmbaaCode
import Derived.Test.YtjcekpmojnnmbaaG2
import Derived.Test.YtjcekpmojnnmbaaG3
import Derived.Test.YtjcekpmojnnmbaaG4
import Derived.Test.YtjcekpmojnnmbaaG6
import Derived.Test.YtjcekpmojnnmbaaG8
import Derived.Test.YtjcekpmojnnmbaaG9
import Derived.Test.YtjcekpmojnnmbaaG10
namespace Go.Proofs.Ytjcekpmojnnmbaa.Ax
open Go
set_option maxRecDepth 100000
set_option maxHeartbeats 4000000
noncomputable def Cp (r3 : List (List Int)) (x18 : Int) (_x4 : List Bool) : (Int × Int) → Option ((Int × Int) ⊕ Int) := fun (x24, x7) =>
 if x24 < (↑(nth r3 x18.toNat).length : Int) then
 ask ((0 : Int) ≤ x24 ∧ x24 < (↑(nth r3 x18.toNat).length : Int)) <|
 if nth (nth r3 x18.toNat) x24.toNat > (0 : Int) then
 ask (InI (x7 + (1 : Int))) <|
 ask (InI (x24 + (1 : Int))) <|
 some (.inl (x24 + (1 : Int), x7 + (1 : Int)))
 else
 ask (InI (x24 + (1 : Int))) <|
 some (.inl (x24 + (1 : Int), x7))
 else
 some (.inr x7)
def H9 (r3 : List (List Int)) (x18 : Int) (x4 : List Bool) : (Int × Int) → St := fun s => [(24, A.val (Ae s.1)), (23, A.val (Ae ((↑(nth r3 x18.toNat).length : Int)))), (22, A.val ((slr false 1 Ae) (nth r3 x18.toNat))), (7, A.val (Ae s.2)), (6, A.val ((slr false 1 Ae) (nth r3 x18.toNat))), (18, A.val (Ae (x18))), (17, A.val (Ae ((↑r3.length : Int)))), (16, A.val ((slr true 1 (slr false 1 Ae)) (r3))), (4, A.val ((slr true 1 V.bool) (x4)))]
def Mh (r3 : List (List Int)) (x18 : Int) (x4 : List Bool) : Int → Tgt
 | s => ((Ex.exit 2), [7, 6, 18, 17, 16, 4], [(7, A.val (Ae s)), (6, A.val ((slr false 1 Ae) (nth r3 x18.toNat))), (18, A.val (Ae (x18))), (17, A.val (Ae ((↑r3.length : Int)))), (16, A.val ((slr true 1 (slr false 1 Ae)) (r3))), (4, A.val ((slr true 1 V.bool) (x4)))])
theorem Wt {r3 : List (List Int)} {x18 : Int} {x4 : List Bool} (s : (Int × Int)) (o : (Int × Int) ⊕ Int) (h : Cp r3 x18 x4 s = some o) : vc Try.prog Mx (C6 [24, 23, 22, 7, 6, 18, 17, 16, 4] (H9 r3 x18 x4) (Mh r3 x18 x4) o) (H9 r3 x18 x4 s) := by
 obtain ⟨x24, x7⟩ := s
 unfold Cp at h
 try dsimp only at h
 refine Br.od h (fun p6 h => ?_) (fun p6 h => ?_)
 ·refine Len.map <| Ask.o h fun p7 h => Elem.o (by first | omega | (simp [A4] at * <;> omega)) <| Br.od h (fun p8 h => ?_) (fun p8 h => ?_)
  ·refine Ask.o h fun p9 h => Ask.o h fun p10 h => ?_
   cases h; exact ⟨rfl, rfl⟩
  refine Ask.o h fun p11 h => ?_
  cases h; exact ⟨rfl, rfl⟩
 cases h; exact ⟨rfl, rfl⟩
noncomputable def Ck (r3 : List (List Int)) : (Int × (List Bool)) → Option ((Int × (List Bool)) ⊕ (List Bool)) := fun (x18, x4) =>
 if x18 < (↑r3.length : Int) then
 ask ((0 : Int) ≤ x18 ∧ x18 < (↑r3.length : Int)) <|
 (Al (Cp r3 x18 x4) ((0 : Int), (0 : Int))).bind fun q12_7 =>
 ((ask ((0 : Int) ≤ (0 : Int) ∧ (0 : Int) < (↑x4.length : Int)) <|
 if (nth x4 (Int.toNat (0 : Int))) = true then
 ask ((0 : Int) ≤ (0 : Int) ∧ (0 : Int) < (↑x4.length : Int)) <|
 some (x4.set (Int.toNat (0 : Int)) (decide (q12_7 ≤ (1 : Int))))
 else
 ask ((0 : Int) ≤ (0 : Int) ∧ (0 : Int) < (↑x4.length : Int)) <|
 some (x4.set (Int.toNat (0 : Int)) false) : Option (List Bool))).bind fun q17_4 =>
 ((ask ((0 : Int) ≤ (1 : Int) ∧ (1 : Int) < (↑q17_4.length : Int)) <|
 if (nth q17_4 (Int.toNat (1 : Int))) = true then
 ask (InI ((↑(nth r3 x18.toNat).length : Int) - q12_7)) <|
 ask ((0 : Int) ≤ (1 : Int) ∧ (1 : Int) < (↑q17_4.length : Int)) <|
 some (q17_4.set (Int.toNat (1 : Int)) (decide ((↑(nth r3 x18.toNat).length : Int) - q12_7 ≤ (1 : Int))))
 else
 ask ((0 : Int) ≤ (1 : Int) ∧ (1 : Int) < (↑q17_4.length : Int)) <|
 some (q17_4.set (Int.toNat (1 : Int)) false) : Option (List Bool))).bind fun q23_4 =>
 ask ((0 : Int) ≤ (2 : Int) ∧ (2 : Int) < (↑q23_4.length : Int)) <|
 if (nth q23_4 (Int.toNat (2 : Int))) = true then
 ask ((0 : Int) ≤ (2 : Int) ∧ (2 : Int) < (↑q23_4.length : Int)) <|
 ask (InI (x18 + (1 : Int))) <|
 some (.inl (x18 + (1 : Int), q23_4.set (Int.toNat (2 : Int)) (decide ((↑(nth r3 x18.toNat).length : Int) ≤ (2 : Int)))))
 else
 ask ((0 : Int) ≤ (2 : Int) ∧ (2 : Int) < (↑q23_4.length : Int)) <|
 ask (InI (x18 + (1 : Int))) <|
 some (.inl (x18 + (1 : Int), q23_4.set (Int.toNat (2 : Int)) false))
 else
 some (.inr x4)
def H8 (r3 : List (List Int)) : (Int × (List Bool)) → St := fun s => [(18, A.val (Ae s.1)), (17, A.val (Ae ((↑r3.length : Int)))), (16, A.val ((slr true 1 (slr false 1 Ae)) (r3))), (4, A.val ((slr true 1 V.bool) s.2))]
def Ms (_r3 : List (List Int)) : (List Bool) → Tgt
 | s => ((Ex.exit 0), [4], [(4, A.val ((slr true 1 V.bool) s))])
theorem Wm {r3 : List (List Int)} (s : (Int × (List Bool))) (o : (Int × (List Bool)) ⊕ (List Bool)) (h : Ck r3 s = some o) : vc Try.prog Mw (C6 [18, 17, 16, 4] (H8 r3) (Ms r3) o) (H8 r3 s) := by
 obtain ⟨x18, x4⟩ := s
 unfold Ck at h
 try dsimp only at h
 refine Br.od h (fun p4 h => ?_) (fun p4 h => ?_)
 ·refine Len.map <| Ask.o h fun p5 h => Cells.one (fun _ => ⟨rfl, rfl⟩) (by first | omega | (simp [A4] at * <;> omega)) <| Len.map <| LoopQ.o [24, 23, 22, 7, 6, 18, 17, 16, 4] (H9 r3 x18 x4) (Mh r3 x18 x4) h (fun s o h => Wt s o h) (by rfl) (fun _ => rfl) ?_
  rintro q12_7 h
  try dsimp only at h
  refine CutQ.o (fun t : (List Bool) => match t with | s => (Ex.normal, [7, 6, 18, 17, 16, 4], [(7, A.val (Ae (q12_7))), (6, A.val ((slr false 1 Ae) (nth r3 x18.toNat))), (18, A.val (Ae (x18))), (17, A.val (Ae ((↑r3.length : Int)))), (16, A.val ((slr true 1 (slr false 1 Ae)) (r3))), (4, A.val ((slr true 1 V.bool) s))])) h ?_ ?_
  ·intro t h
   refine Len.map <| Ask.o h fun p13 h => Cells.one (fun _ => ⟨rfl, rfl⟩) (by first | omega | (simp [A4] at * <;> omega)) <| Br.ob h (fun p14 h => ?_) (fun p14 h => ?_)
   ·refine Br.yes <| Br.yes <| Len.map <| Ask.o h fun p15 h => SetKids.one (fun _ => ⟨rfl, rfl⟩) (decide (q12_7 ≤ (1 : Int))) (by rfl) (by first | omega | (simp [A4] at * <;> omega)) ?_
    cases h; exact ⟨rfl, rfl⟩
   refine Br.no <| Br.no <| Len.map <| Ask.o h fun p16 h => SetKids.one (fun _ => ⟨rfl, rfl⟩) (false) (by rfl) (by first | omega | (simp [A4] at * <;> omega)) ?_
   cases h; exact ⟨rfl, rfl⟩
  rintro q17_4 h
  try dsimp only at h
  refine CutQ.o (fun t : (List Bool) => match t with | s => (Ex.normal, [6, 18, 17, 16, 4], [(6, A.val ((slr false 1 Ae) (nth r3 x18.toNat))), (18, A.val (Ae (x18))), (17, A.val (Ae ((↑r3.length : Int)))), (16, A.val ((slr true 1 (slr false 1 Ae)) (r3))), (4, A.val ((slr true 1 V.bool) s))])) h ?_ ?_
  ·intro t h
   refine Len.map <| Ask.o h fun p18 h => Cells.one (fun _ => ⟨rfl, rfl⟩) (by first | omega | (simp [A4] at * <;> omega)) <| Br.ob h (fun p19 h => ?_) (fun p19 h => ?_)
   ·refine Br.yes <| Len.map <| Br.yes <| Br.yes <| Ask.o h fun p20 h => Br.yes <| Br.yes <| Len.map <| Ask.o h fun p21 h => SetKids.one (fun _ => ⟨rfl, rfl⟩) (decide ((↑(nth r3 x18.toNat).length : Int) - q12_7 ≤ (1 : Int))) (by rfl) (by first | omega | (simp [A4] at * <;> omega)) ?_
    cases h; exact ⟨rfl, rfl⟩
   refine Br.no <| Br.no <| Br.no <| Br.no <| Br.no <| Len.map <| Ask.o h fun p22 h => SetKids.one (fun _ => ⟨rfl, rfl⟩) (false) (by rfl) (by first | omega | (simp [A4] at * <;> omega)) ?_
   cases h; exact ⟨rfl, rfl⟩
  rintro q23_4 h
  try dsimp only at h
  refine Len.map <| Ask.o h fun p24 h => Cells.one (fun _ => ⟨rfl, rfl⟩) (by first | omega | (simp [A4] at * <;> omega)) <| Br.ob h (fun p25 h => ?_) (fun p25 h => ?_)
  ·refine Br.yes <| Len.map <| Br.yes <| Br.yes <| Len.map <| Ask.o h fun p26 h => SetKids.one (fun _ => ⟨rfl, rfl⟩) (decide ((↑(nth r3 x18.toNat).length : Int) ≤ (2 : Int))) (by rfl) (by first | omega | (simp [A4] at * <;> omega)) <| Ask.o h fun p27 h => ?_
   cases h; exact ⟨rfl, rfl⟩
  refine Br.no <| Br.no <| Br.no <| Len.map <| Ask.o h fun p28 h => SetKids.one (fun _ => ⟨rfl, rfl⟩) (false) (by rfl) (by first | omega | (simp [A4] at * <;> omega)) <| Ask.o h fun p29 h => ?_
  cases h; exact ⟨rfl, rfl⟩
 cases h; exact ⟨rfl, rfl⟩
noncomputable def Fv (r0 : SRelation) : Option ((List Bool) × Bool) :=
 (Ds ((2 : Int)) (r0)).bind fun r1 =>
 if (r1) = true then
 (Dz (r0)).bind fun r3 =>
 (Al (Ck r3) ((0 : Int), [true, true, true])).bind fun q30_4 =>
 some (q30_4, true)
 else
 some (Ap Bool, false)
theorem Aa9 {r0 : SRelation} {v : ((List Bool) × Bool)} (h : Fv r0 = some v) : Ret Try.prog Kq [(Ah false) r0] ((fun r => V.tup [(slr true 1 V.bool) r.1, V.bool r.2]) v) := by
 refine A7 Aaq (Nat.le_of_ble_eq_true rfl) ?_
 unfold Fv at h
 refine Cells.lit rfl rfl <| CallQ.o V.bool (by rfl) h (fun r h => L7 h) (fun r1 h => ?_)
 refine Br.flip <| Br.ob h (fun p2 h => ?_) (fun p2 h => ?_)
 ·refine BslQ.o V.bool ([true, true, true]) (by exact fun _ => ⟨rfl, rfl⟩) (by first | rfl | (simp only [Aa, V.fz, fzL, V.up, upL, Ab, Ac, Ad, slr, List.cons_append, List.nil_append]; done) | simp [Aa, V.fz, fzL, V.up, upL, Ab, Ac, Ad, slr]) <| Cells.lit rfl rfl <| CallQ.o (slr true 1 (slr false 1 Ae)) (by rfl) h (fun r h => Pw h) (fun r3 h => ?_)
  refine Len.map <| LoopQ.o [18, 17, 16, 4] (H8 r3) (Ms r3) h (fun s o h => Wm s o h) (by rfl) (fun _ => rfl) ?_
  rintro q30_4 h
  try dsimp only at h
  cases h; exact (by rfl)
 refine BslQ.o V.bool (Ap Bool) (by exact fun _ => ⟨rfl, rfl⟩) (by first | rfl | (simp only [Aa, V.fz, fzL, V.up, upL, Ab, Ac, Ad, slr, List.cons_append, List.nil_append]; done) | simp [Aa, V.fz, fzL, V.up, upL, Ab, Ac, Ad, slr]) ?_
 cases h; exact (by rfl)
noncomputable def Cr (r3 : List (List Int)) (x6 : Int) (_x4 : List Bool) : (Int × Int) → Option ((Int × Int) ⊕ Int) := fun (x8, x7) =>
 ask ((0 : Int) ≤ x6 ∧ x6 < (↑r3.length : Int)) <|
 if x8 < (↑(nth r3 x6.toNat).length : Int) then
 ask ((0 : Int) ≤ x6 ∧ x6 < (↑r3.length : Int)) <|
 ask ((0 : Int) ≤ x8 ∧ x8 < (↑(nth r3 x6.toNat).length : Int)) <|
 if nth (nth r3 x6.toNat) x8.toNat > (0 : Int) then
 ask (InI (x7 + (1 : Int))) <|
 ask (InI (x8 + (1 : Int))) <|
 some (.inl (x8 + (1 : Int), x7 + (1 : Int)))
 else
 ask (InI (x8 + (1 : Int))) <|
 some (.inl (x8 + (1 : Int), x7))
 else
 some (.inr x7)
def Ia (r3 : List (List Int)) (x6 : Int) (x4 : List Bool) : (Int × Int) → St := fun s => [(8, A.val (Ae s.1)), (7, A.val (Ae s.2)), (6, A.val (Ae (x6))), (5, A.val ((slr true 1 (slr false 1 Ae)) (r3))), (4, A.val ((slr true 1 V.bool) (x4)))]
def Mk (r3 : List (List Int)) (x6 : Int) (x4 : List Bool) : Int → Tgt
 | s => ((Ex.exit 2), [7, 6, 5, 4], [(7, A.val (Ae s)), (6, A.val (Ae (x6))), (5, A.val ((slr true 1 (slr false 1 Ae)) (r3))), (4, A.val ((slr true 1 V.bool) (x4)))])
theorem Wl {r3 : List (List Int)} {x6 : Int} {x4 : List Bool} (s : (Int × Int)) (o : (Int × Int) ⊕ Int) (h : Cr r3 x6 x4 s = some o) : vc Try.prog Mj (C6 [8, 7, 6, 5, 4] (Ia r3 x6 x4) (Mk r3 x6 x4) o) (Ia r3 x6 x4 s) := by
 obtain ⟨x8, x7⟩ := s
 unfold Cr at h
 try dsimp only at h
 refine Len.map <| Ask.o h fun p5 h => Cells.one (fun _ => ⟨rfl, rfl⟩) (by first | omega | (simp [A4] at * <;> omega)) <| Len.map <| Br.od h (fun p6 h => ?_) (fun p6 h => ?_)
 ·refine Len.map <| Ask.o h fun p7 h => Cells.one (fun _ => ⟨rfl, rfl⟩) (by first | omega | (simp [A4] at * <;> omega)) <| Len.map <| Ask.o h fun p8 h => Elem.o (by first | omega | (simp [A4] at * <;> omega)) <| Br.od h (fun p9 h => ?_) (fun p9 h => ?_)
  ·refine Ask.o h fun p10 h => Ask.o h fun p11 h => ?_
   cases h; exact ⟨rfl, rfl⟩
  refine Ask.o h fun p12 h => ?_
  cases h; exact ⟨rfl, rfl⟩
 cases h; exact ⟨rfl, rfl⟩
noncomputable def Cq (r3 : List (List Int)) : (Int × (List Bool)) → Option ((Int × (List Bool)) ⊕ (List Bool)) := fun (x6, x4) =>
 if x6 < (↑r3.length : Int) then
 (Al (Cr r3 x6 x4) ((0 : Int), (0 : Int))).bind fun q13_7 =>
 ((ask ((0 : Int) ≤ (0 : Int) ∧ (0 : Int) < (↑x4.length : Int)) <|
 if (nth x4 (Int.toNat (0 : Int))) = true then
 ask ((0 : Int) ≤ (0 : Int) ∧ (0 : Int) < (↑x4.length : Int)) <|
 some (x4.set (Int.toNat (0 : Int)) (decide (q13_7 ≤ (1 : Int))))
 else
 ask ((0 : Int) ≤ (0 : Int) ∧ (0 : Int) < (↑x4.length : Int)) <|
 some (x4.set (Int.toNat (0 : Int)) false) : Option (List Bool))).bind fun q18_4 =>
 ((ask ((0 : Int) ≤ (1 : Int) ∧ (1 : Int) < (↑q18_4.length : Int)) <|
 if (nth q18_4 (Int.toNat (1 : Int))) = true then
 ask ((0 : Int) ≤ x6 ∧ x6 < (↑r3.length : Int)) <|
 ask (InI ((↑(nth r3 x6.toNat).length : Int) - q13_7)) <|
 ask ((0 : Int) ≤ (1 : Int) ∧ (1 : Int) < (↑q18_4.length : Int)) <|
 some (q18_4.set (Int.toNat (1 : Int)) (decide ((↑(nth r3 x6.toNat).length : Int) - q13_7 ≤ (1 : Int))))
 else
 ask ((0 : Int) ≤ (1 : Int) ∧ (1 : Int) < (↑q18_4.length : Int)) <|
 some (q18_4.set (Int.toNat (1 : Int)) false) : Option (List Bool))).bind fun q25_4 =>
 ask ((0 : Int) ≤ (2 : Int) ∧ (2 : Int) < (↑q25_4.length : Int)) <|
 if (nth q25_4 (Int.toNat (2 : Int))) = true then
 ask ((0 : Int) ≤ x6 ∧ x6 < (↑r3.length : Int)) <|
 ask ((0 : Int) ≤ (2 : Int) ∧ (2 : Int) < (↑q25_4.length : Int)) <|
 ask (InI (x6 + (1 : Int))) <|
 some (.inl (x6 + (1 : Int), q25_4.set (Int.toNat (2 : Int)) (decide ((↑(nth r3 x6.toNat).length : Int) ≤ (2 : Int)))))
 else
 ask ((0 : Int) ≤ (2 : Int) ∧ (2 : Int) < (↑q25_4.length : Int)) <|
 ask (InI (x6 + (1 : Int))) <|
 some (.inl (x6 + (1 : Int), q25_4.set (Int.toNat (2 : Int)) false))
 else
 some (.inr x4)
def H5 (r3 : List (List Int)) : (Int × (List Bool)) → St := fun s => [(6, A.val (Ae s.1)), (5, A.val ((slr true 1 (slr false 1 Ae)) (r3))), (4, A.val ((slr true 1 V.bool) s.2))]
def Mm (_r3 : List (List Int)) : (List Bool) → Tgt
 | s => ((Ex.exit 0), [4], [(4, A.val ((slr true 1 V.bool) s))])
theorem W2 {r3 : List (List Int)} (s : (Int × (List Bool))) (o : (Int × (List Bool)) ⊕ (List Bool)) (h : Cq r3 s = some o) : vc Try.prog My (C6 [6, 5, 4] (H5 r3) (Mm r3) o) (H5 r3 s) := by
 obtain ⟨x6, x4⟩ := s
 unfold Cq at h
 try dsimp only at h
 refine Len.map <| Br.od h (fun p4 h => ?_) (fun p4 h => ?_)
 ·refine LoopQ.o [8, 7, 6, 5, 4] (Ia r3 x6 x4) (Mk r3 x6 x4) h (fun s o h => Wl s o h) (by rfl) (fun _ => rfl) ?_
  rintro q13_7 h
  try dsimp only at h
  refine CutQ.o (fun t : (List Bool) => match t with | s => (Ex.normal, [7, 6, 5, 4], [(7, A.val (Ae (q13_7))), (6, A.val (Ae (x6))), (5, A.val ((slr true 1 (slr false 1 Ae)) (r3))), (4, A.val ((slr true 1 V.bool) s))])) h ?_ ?_
  ·intro t h
   refine Len.map <| Ask.o h fun p14 h => Cells.one (fun _ => ⟨rfl, rfl⟩) (by first | omega | (simp [A4] at * <;> omega)) <| Br.ob h (fun p15 h => ?_) (fun p15 h => ?_)
   ·refine Br.yes <| Br.yes <| Len.map <| Ask.o h fun p16 h => SetKids.one (fun _ => ⟨rfl, rfl⟩) (decide (q13_7 ≤ (1 : Int))) (by rfl) (by first | omega | (simp [A4] at * <;> omega)) ?_
    cases h; exact ⟨rfl, rfl⟩
   refine Br.no <| Br.no <| Len.map <| Ask.o h fun p17 h => SetKids.one (fun _ => ⟨rfl, rfl⟩) (false) (by rfl) (by first | omega | (simp [A4] at * <;> omega)) ?_
   cases h; exact ⟨rfl, rfl⟩
  rintro q18_4 h
  try dsimp only at h
  refine CutQ.o (fun t : (List Bool) => match t with | s => (Ex.normal, [6, 5, 4], [(6, A.val (Ae (x6))), (5, A.val ((slr true 1 (slr false 1 Ae)) (r3))), (4, A.val ((slr true 1 V.bool) s))])) h ?_ ?_
  ·intro t h
   refine Len.map <| Ask.o h fun p19 h => Cells.one (fun _ => ⟨rfl, rfl⟩) (by first | omega | (simp [A4] at * <;> omega)) <| Br.ob h (fun p20 h => ?_) (fun p20 h => ?_)
   ·refine Br.yes <| Br.yes <| Len.map <| Ask.o h fun p21 h => Br.yes <| Cells.one (fun _ => ⟨rfl, rfl⟩) (by first | omega | (simp [A4] at * <;> omega)) <| Br.yes <| Len.map <| Br.yes <| Br.yes <| Ask.o h fun p22 h => Br.yes <| Br.yes <| Len.map <| Ask.o h fun p23 h => SetKids.one (fun _ => ⟨rfl, rfl⟩) (decide ((↑(nth r3 x6.toNat).length : Int) - q13_7 ≤ (1 : Int))) (by rfl) (by first | omega | (simp [A4] at * <;> omega)) ?_
    cases h; exact ⟨rfl, rfl⟩
   refine Br.no <| Br.no <| Br.no <| Br.no <| Br.no <| Br.no <| Br.no <| Br.no <| Len.map <| Ask.o h fun p24 h => SetKids.one (fun _ => ⟨rfl, rfl⟩) (false) (by rfl) (by first | omega | (simp [A4] at * <;> omega)) ?_
   cases h; exact ⟨rfl, rfl⟩
  rintro q25_4 h
  try dsimp only at h
  refine Len.map <| Ask.o h fun p26 h => Cells.one (fun _ => ⟨rfl, rfl⟩) (by first | omega | (simp [A4] at * <;> omega)) <| Br.ob h (fun p27 h => ?_) (fun p27 h => ?_)
  ·refine Br.yes <| Br.yes <| Len.map <| Ask.o h fun p28 h => Br.yes <| Cells.one (fun _ => ⟨rfl, rfl⟩) (by first | omega | (simp [A4] at * <;> omega)) <| Br.yes <| Len.map <| Br.yes <| Br.yes <| Len.map <| Ask.o h fun p29 h => SetKids.one (fun _ => ⟨rfl, rfl⟩) (decide ((↑(nth r3 x6.toNat).length : Int) ≤ (2 : Int))) (by rfl) (by first | omega | (simp [A4] at * <;> omega)) <| Ask.o h fun p30 h => ?_
   cases h; exact ⟨rfl, rfl⟩
  refine Br.no <| Br.no <| Br.no <| Br.no <| Br.no <| Br.no <| Len.map <| Ask.o h fun p31 h => SetKids.one (fun _ => ⟨rfl, rfl⟩) (false) (by rfl) (by first | omega | (simp [A4] at * <;> omega)) <| Ask.o h fun p32 h => ?_
  cases h; exact ⟨rfl, rfl⟩
 cases h; exact ⟨rfl, rfl⟩
noncomputable def Fs (r0 : SRelation) : Option ((List Bool) × Bool) :=
 (Fw ((2 : Int)) (r0)).bind fun r1 =>
 if (r1) = true then
 (F4 (r0)).bind fun r3 =>
 (Al (Cq r3) ((0 : Int), [true, true, true])).bind fun q33_4 =>
 some (q33_4, true)
 else
 some (Ap Bool, false)
theorem Aar {r0 : SRelation} {v : ((List Bool) × Bool)} (h : Fs r0 = some v) : Ret Try.prog Kv [(Ah false) r0] ((fun r => V.tup [(slr true 1 V.bool) r.1, V.bool r.2]) v) := by
 refine A7 Aav (Nat.le_of_ble_eq_true rfl) ?_
 unfold Fs at h
 refine Cells.lit rfl rfl <| CallQ.o V.bool (by rfl) h (fun r h => Q4 h) (fun r1 h => ?_)
 refine Br.flip <| Br.ob h (fun p2 h => ?_) (fun p2 h => ?_)
 ·refine BslQ.o V.bool ([true, true, true]) (by exact fun _ => ⟨rfl, rfl⟩) (by first | rfl | (simp only [Aa, V.fz, fzL, V.up, upL, Ab, Ac, Ad, slr, List.cons_append, List.nil_append]; done) | simp [Aa, V.fz, fzL, V.up, upL, Ab, Ac, Ad, slr]) <| Cells.lit rfl rfl <| CallQ.o (slr true 1 (slr false 1 Ae)) (by rfl) h (fun r h => V5 h) (fun r3 h => ?_)
  refine LoopQ.o [6, 5, 4] (H5 r3) (Mm r3) h (fun s o h => W2 s o h) (by rfl) (fun _ => rfl) ?_
  rintro q33_4 h
  try dsimp only at h
  cases h; exact (by rfl)
 refine BslQ.o V.bool (Ap Bool) (by exact fun _ => ⟨rfl, rfl⟩) (by first | rfl | (simp only [Aa, V.fz, fzL, V.up, upL, Ab, Ac, Ad, slr, List.cons_append, List.nil_append]; done) | simp [Aa, V.fz, fzL, V.up, upL, Ab, Ac, Ad, slr]) ?_
 cases h; exact (by rfl)
noncomputable def C4 (n0 : Int) (op0 : SOp) (r0 : SRelation) : Option (Bool × Bool) :=
 (Lo (n0) (op0) (r0)).bind fun r1 =>
 if (r1) = true then
 (Dw (n0) (op0) (r0)).bind fun r3 =>
 some (!r3.snd.snd, true)
 else
 some (false, false)
theorem Pg {n0 : Int} {op0 : SOp} {r0 : SRelation} {v : (Bool × Bool)} (h : C4 n0 op0 r0 = some v) : Ret Try.prog Hu [Ae n0, (Ho false) op0, (Ah false) r0] ((fun r => V.tup [V.bool r.1, V.bool r.2]) v) := by
 refine A7 Afy (Nat.le_of_ble_eq_true rfl) ?_
 unfold C4 at h
 refine Cells.lit rfl rfl <| Cells.lit rfl rfl <| CallQ.o V.bool (by rfl) h (fun r h => Ajj h) (fun r1 h => ?_)
 refine Br.flip <| Br.ob h (fun p2 h => ?_) (fun p2 h => ?_)
 ·refine Cells.lit rfl rfl <| Cells.lit rfl rfl <| CallQ.o (fun r => V.tup [(slr true 1 Ae) r.1, (slr true 1 Ae) r.2.1, V.bool r.2.2]) (by rfl) h (fun r h => Aby h) (fun r3 h => ?_)
  cases h; exact (by rfl)
 cases h; exact (by rfl)
noncomputable def Fr (c0 : Sl1Cur) (class0 : Int) : Option (SRelation × Sl1Cur) :=
 (Bj (c0) ([(1 : Int), (2 : Int), (2 : Int), (3 : Int), (3 : Int), (3 : Int)])).bind fun (r1, u2) =>
 (Db (u2) ((2 : Int)) (r1)).bind fun (r3, u4) =>
 (((Fw ((2 : Int)) (r3)).bind fun r5 =>
 if (r5) = true then
 some r3
 else
 (Dg ((2 : Int)) (r1)).bind fun r7 =>
 some r7 : Option SRelation)).bind fun q8_6 =>
 ((if class0 ≤ (1 : Int) then
 some (decide ((↑q8_6.Tuples.length : Int) > (0 : Int)))
 else
 some false : Option Bool)).bind fun q10_18 =>
 if (q10_18) = true then
 (Fo (q8_6.Arity) (class0)).bind fun r12 =>
 (Fc (q8_6.Tuples) (r12)).bind fun r13 =>
 some ({ Arity := q8_6.Arity, Tuples := r13 }, u4)
 else
 ((if class0 > (1 : Int) then
 some (decide (class0 < (6 : Int)))
 else
 some false : Option Bool)).bind fun q15_35 =>
 if (q15_35) = true then
 (Ke).bind fun r17 =>
 ask (InI (class0 - (2 : Int))) <|
 ask ((0 : Int) ≤ class0 - (2 : Int) ∧ class0 - (2 : Int) < (↑r17.length : Int)) <|
 (G4 ({ Size := (2 : Int), Ops := [nth r17 (class0 - (2 : Int)).toNat] }) (q8_6.Arity) (q8_6.Tuples)).bind fun r20 =>
 some ({ Arity := q8_6.Arity, Tuples := r20.fst }, u4)
 else
 some (q8_6, u4)
theorem Aae {c0 : Sl1Cur} {class0 : Int} {v : (SRelation × Sl1Cur)} (h : Fr c0 class0 = some v) : Sr Try.prog K0 [(rP true (Am false)) c0, Ae class0] ((Ah false) v.1) 0 ((rP true (Am false)) v.2) := by
 refine Amq Aaf (Nat.le_of_ble_eq_true rfl) ?_
 unfold Fr at h
 refine BslQ.o Ae ([(1 : Int), (2 : Int), (2 : Int), (3 : Int), (3 : Int), (3 : Int)]) (by exact fun _ => ⟨rfl, rfl⟩) (by first | rfl | (simp only [Aa, V.fz, fzL, V.up, upL, Ab, Ac, Ad, slr, List.cons_append, List.nil_append]; done) | simp [Aa, V.fz, fzL, V.up, upL, Ab, Ac, Ad, slr]) <| CallQ.io Ae (rP true (Am false)) (by first | rfl | (simp only [Aa, As, V.fz, fzL, Ab, Ac, slr]; done) | simp [Aa, As, V.fz, fzL, V.up, upL, Ab, Ac, Ad, slr]) rfl (fun _ => rfl) (fun _ => ⟨rfl, rfl⟩) rfl h (fun r h => C1 h) (fun r1 u2 h => ?_)
 refine CallQ.io (Aj) (rP true (Am false)) (by rfl) rfl (fun _ => rfl) (fun _ => ⟨rfl, rfl⟩) rfl h (fun r h => Mo h) (fun r3 u4 h => ?_)
 refine SetKids.lit rfl <| CutQ.o (fun t : SRelation => match t with | s => (Ex.normal, [6, 4, 59, 1], [(6, A.val ((rP true (Aj)) s)), (4, A.val ((rP true (Aj)) ({ Arity := (0 : Int), Tuples := Ap (List Int) }))), (59, A.val ((rP true (Am false)) (u4))), (1, A.val (Ae (class0)))])) h ?_ ?_
 ·intro t h
  refine Cells.lit rfl rfl <| CallQ.rd V.bool (by first | rfl | simp only [V.fz, Ab] | simp [Aa, V.fz, fzL, V.up, upL, Ab, Ac, Ad, slr]) (fun _ => rfl) h (fun r h => Q4 h) (fun r5 h => ?_)
  refine Br.flip <| Br.ob h (fun p6 h => ?_) (fun p6 h => ?_)
  ·cases h; exact ⟨rfl, rfl⟩
  refine CallQ.o (Aj) (by rfl) h (fun r h => Xe h) (fun r7 h => ?_)
  refine SetKids.lit rfl ?_
  cases h; exact ⟨rfl, rfl⟩
 rintro q8_6 h
 try dsimp only at h
 refine CutQ.o (fun t : Bool => match t with | s => (Ex.normal, [18, 6, 4, 59, 1], [(18, A.val (V.bool s)), (6, A.val ((rP true (Aj)) (q8_6))), (4, A.val ((rP true (Aj)) ({ Arity := (0 : Int), Tuples := Ap (List Int) }))), (59, A.val ((rP true (Am false)) (u4))), (1, A.val (Ae (class0)))])) h ?_ ?_
 ·intro t h
  refine Br.od h (fun p9 h => ?_) (fun p9 h => ?_)
  ·refine Br.yes <| Cells.lit rfl rfl <| Br.yes <| Kid.lit rfl rfl <| Len.map <| Br.yes <| Br.yes ?_
   cases h; exact ⟨rfl, rfl⟩
  refine Br.no <| Br.no <| Br.no <| Br.no ?_
  cases h; exact ⟨rfl, rfl⟩
 rintro q10_18 h
 try dsimp only at h
 refine Br.ob h (fun p11 h => ?_) (fun p11 h => ?_)
 ·refine Cells.lit rfl rfl <| Cells.lit rfl rfl <| CallP.o (slr true 1 Ae) (by rfl) h (fun r h => Aag h) (fun r12 h => ?_)
  refine Kid.lit rfl rfl <| CallQ.give (slr true 1 (slr false 1 Ae)) (by first | rfl | (simp only [slr]; done) | simp [As, V.fz, Ab, slr]) rfl (fun _ => rfl) rfl h (fun r h => P1 h) (fun r13 h => ?_)
  refine Kid.lit rfl rfl <| SetKids.lit rfl <| SetKids.lit rfl <| Cells.lit rfl rfl <| SetKids.lit rfl ?_
  cases h; exact ⟨(by first | rfl | simp only [Ai, V.fz, fzL, V.up, Ab, slr] | simp [Ai, Aa, V.fz, fzL, V.up, upL, Ab, Ac, Ad, slr]), (by rfl)⟩
 refine CutQ.o (fun t : Bool => match t with | s => (Ex.normal, [35, 6, 4, 59, 1], [(35, A.val (V.bool s)), (6, A.val ((rP true (Aj)) (q8_6))), (4, A.val ((rP true (Aj)) ({ Arity := (0 : Int), Tuples := Ap (List Int) }))), (59, A.val ((rP true (Am false)) (u4))), (1, A.val (Ae (class0)))])) h ?_ ?_
 ·intro t h
  refine Br.od h (fun p14 h => ?_) (fun p14 h => ?_)
  ·refine Br.yes <| Br.yes ?_
   cases h; exact ⟨rfl, rfl⟩
  refine Br.no <| Br.no ?_
  cases h; exact ⟨rfl, rfl⟩
 rintro q15_35 h
 try dsimp only at h
 refine Br.ob h (fun p16 h => ?_) (fun p16 h => ?_)
 ·refine FrzQ.d (V.ptr true (V.agg [V.int IntKind.i64 q8_6.Arity, V.sl false (1 : Nat) (List.map (slr false (1 : Nat) Ae) q8_6.Tuples)])) (by first | (simp only [V.fzAt, C7, Ac]; done) | exact Eq.trans (b := V.ptr true (V.agg [V.int IntKind.i64 q8_6.Arity, (V.sl true (1 : Nat) (List.map (slr false (1 : Nat) Ae) q8_6.Tuples)).fz])) rfl (by simp only [Ac])) <| CallP.o (slr false 2 (Ho false)) (by rfl) h (fun r h => Ret.frz (Ak9 h) (by first | rfl | simp only [V.fz, Ab, slr] | simp [Aa, V.fz, fzL, V.up, upL, Ab, Ac, Ad, slr])) (fun r17 h => ?_)
  refine Ask.o h fun p18 h => Len.map <| Ask.o h fun p19 h => Elem.o (by first | omega | (simp [A4] at * <;> omega)) <| BslQ.o (Ho false) ([nth r17 (class0 - (2 : Int)).toNat]) (by exact fun _ => ⟨rfl, rfl⟩) (by first | rfl | (simp only [Aa, V.fz, fzL, V.up, upL, Ab, Ac, Ad, slr, List.cons_append, List.nil_append]; done) | simp [Aa, V.fz, fzL, V.up, upL, Ab, Ac, Ad, slr]) <| FrzQ.z <| Cells.lit rfl rfl <| Cells.lit rfl rfl <| CallP.o (fun r => V.tup [(slr true 1 (slr false 1 Ae)) r.1, V.bool r.2]) (by rfl) h (fun r h => Ajw h) (fun r20 h => ?_)
  refine SetKids.lit rfl <| Cells.lit rfl rfl <| SetKids.lit rfl ?_
  cases h; exact ⟨(by first | rfl | simp only [Ai, V.fz, fzL, V.up, Ab, slr] | simp [Ai, Aa, V.fz, fzL, V.up, upL, Ab, Ac, Ad, slr]), (by rfl)⟩
 refine Cells.lit rfl rfl <| SetKids.lit rfl ?_
 cases h; exact ⟨(by first | rfl | simp only [Ai, V.fz, fzL, V.up, Ab, slr] | simp [Ai, Aa, V.fz, fzL, V.up, upL, Ab, Ac, Ad, slr]), (by rfl)⟩
end Go.Proofs.Ytjcekpmojnnmbaa.Ax
