/-
  What the functions compute, as functions on plain data, and that the program does compute it; written by program.
-/
import Derived.Test.YtoikbcagaanhgaaCode
namespace Go.Proofs.Ytoikbcagaanhgaa.Ax
open Go
set_option maxRecDepth 100000
set_option maxHeartbeats 4000000

noncomputable def F_spec_l23From_l1 (n0 : Int) (_pairs0 : List (Int × Int)) : (Int × (List (List Bool))) → Option ((Int × (List (List Bool))) ⊕ (List (List Bool))) := fun (x6, x5) =>
 if x6 < n0 then
 ask ((0 : Int) ≤ n0 ∧ n0 ≤ (↑LIM : Int)) <|
 ask ((0 : Int) ≤ x6 ∧ x6 < (↑n0.toNat : Int)) <|
 ask ((x5).length + ([(List.replicate n0.toNat false).set x6.toNat true]).length ≤ LIM) <|
 ask (InI (x6 + (1 : Int))) <|
 some (.inl (x6 + (1 : Int), x5 ++ [(List.replicate n0.toNat false).set x6.toNat true]))
 else
 some (.inr x5)
def S_spec_l23From_l1 (n0 : Int) (pairs0 : List (Int × Int)) : (Int × (List (List Bool))) → St := fun s => [(6, A.val (vint s.1)), (5, A.val ((slr true 1 (slr true 1 V.bool)) s.2)), (4, A.val ((rP true (rS_Poset true)) ({ Below := nilL (List Int) }))), (0, A.val (vint (n0))), (1, A.val ((slr false 2 (rA2 vint)) (pairs0)))]
def T_spec_l23From_l1 (n0 : Int) (pairs0 : List (Int × Int)) : (List (List Bool)) → Tgt
 | s => ((Ex.exit 0), [5, 4, 0, 1], [(5, A.val ((slr true 1 (slr true 1 V.bool)) s)), (4, A.val ((rP true (rS_Poset true)) ({ Below := nilL (List Int) }))), (0, A.val (vint (n0))), (1, A.val ((slr false 2 (rA2 vint)) (pairs0)))])
theorem b_spec_l23From_l1 {n0 : Int} {pairs0 : List (Int × Int)} (s : (Int × (List (List Bool)))) (o : (Int × (List (List Bool))) ⊕ (List (List Bool))) (h : F_spec_l23From_l1 n0 pairs0 s = some o) : vc Try.prog c_spec_l23From_l1 (outQ [6, 5, 4, 0, 1] (S_spec_l23From_l1 n0 pairs0) (T_spec_l23From_l1 n0 pairs0) o) (S_spec_l23From_l1 n0 pairs0 s) := by
  obtain ⟨x6, x5⟩ := s
  unfold F_spec_l23From_l1 at h
  try dsimp only at h
  refine Br.od h (fun p1 h => ?_) (fun p1 h => ?_)
  · refine Ask.o h fun p2 h => ?_
    refine MkQ.o V.bool (false) rfl ?_
    refine Len.mrep ?_
    refine Ask.o h fun p3 h => ?_
    refine SetKids.one (fun _ => ⟨rfl, rfl⟩) (true) (by rfl) (by first | omega | (simp [mulN] at *; omega)) ?_
    refine BslQ.o (slr true 1 V.bool) ([(List.replicate n0.toNat false).set x6.toNat true]) (by exact fun _ => ⟨rfl, rfl⟩) (by rfl) ?_
    refine NoOwn.own rfl ?_
    refine AppQ.o (m := 1) (slr true 1 V.bool) (by exact fun _ => ⟨rfl, rfl⟩) (x5) ([(List.replicate n0.toNat false).set x6.toNat true]) (by rfl) (by rfl) h fun h => ?_
    refine Ask.o h fun p4 h => ?_
    cases h; exact ⟨rfl, rfl⟩
  cases h; exact ⟨rfl, rfl⟩

noncomputable def F_spec_l23From_l2 (_n0 : Int) (pairs0 : List (Int × Int)) : (Int × (List (List Bool))) → Option ((Int × (List (List Bool))) ⊕ (List (List Bool))) := fun (x8, x5) =>
 if x8 < (↑pairs0.length : Int) then
 ask ((0 : Int) ≤ x8 ∧ x8 < (↑pairs0.length : Int)) <|
 ask ((0 : Int) ≤ (nth pairs0 x8.toNat).fst ∧ (nth pairs0 x8.toNat).fst < (↑x5.length : Int)) <|
 ask ((0 : Int) ≤ x8 ∧ x8 < (↑pairs0.length : Int)) <|
 ask ((0 : Int) ≤ (nth pairs0 x8.toNat).snd ∧ (nth pairs0 x8.toNat).snd < (↑(nth x5 (nth pairs0 x8.toNat).fst.toNat).length : Int)) <|
 ask (InI (x8 + (1 : Int))) <|
 some (.inl (x8 + (1 : Int), x5.set (nth pairs0 x8.toNat).fst.toNat ((nth x5 (nth pairs0 x8.toNat).fst.toNat).set (nth pairs0 x8.toNat).snd.toNat true)))
 else
 some (.inr x5)
def S_spec_l23From_l2 (n0 : Int) (pairs0 : List (Int × Int)) : (Int × (List (List Bool))) → St := fun s => [(8, A.val (vint s.1)), (5, A.val ((slr true 1 (slr true 1 V.bool)) s.2)), (4, A.val ((rP true (rS_Poset true)) ({ Below := nilL (List Int) }))), (0, A.val (vint (n0))), (1, A.val ((slr false 2 (rA2 vint)) (pairs0)))]
def T_spec_l23From_l2 (n0 : Int) (_pairs0 : List (Int × Int)) : (List (List Bool)) → Tgt
 | s => ((Ex.exit 2), [5, 4, 0], [(5, A.val ((slr true 1 (slr true 1 V.bool)) s)), (4, A.val ((rP true (rS_Poset true)) ({ Below := nilL (List Int) }))), (0, A.val (vint (n0)))])
theorem b_spec_l23From_l2 {n0 : Int} {pairs0 : List (Int × Int)} (s : (Int × (List (List Bool)))) (o : (Int × (List (List Bool))) ⊕ (List (List Bool))) (h : F_spec_l23From_l2 n0 pairs0 s = some o) : vc Try.prog c_spec_l23From_l2 (outQ [8, 5, 4, 0, 1] (S_spec_l23From_l2 n0 pairs0) (T_spec_l23From_l2 n0 pairs0) o) (S_spec_l23From_l2 n0 pairs0 s) := by
  obtain ⟨x8, x5⟩ := s
  unfold F_spec_l23From_l2 at h
  try dsimp only at h
  refine Len.map ?_
  refine Br.od h (fun p6 h => ?_) (fun p6 h => ?_)
  · refine Len.map ?_
    refine Ask.o h fun p7 h => ?_
    refine Elem.o (by first | omega | (simp [mulN] at *; omega)) ?_
    refine Ask.mk (by decide) ?_
    refine Idx.lit ?_
    refine Len.map ?_
    refine Ask.o h fun p8 h => ?_
    refine Cells.one (fun _ => ⟨rfl, rfl⟩) (by first | omega | (simp [mulN] at *; omega)) ?_
    refine Len.map ?_
    refine Ask.o h fun p9 h => ?_
    refine Elem.o (by first | omega | (simp [mulN] at *; omega)) ?_
    refine Ask.mk (by decide) ?_
    refine Idx.lit ?_
    refine Kid.one (fun _ => ⟨rfl, rfl⟩) (by first | omega | (simp [mulN] at *; omega)) ?_
    refine Len.map ?_
    refine Ask.o h fun p10 h => ?_
    refine Kid.one (fun _ => ⟨rfl, rfl⟩) (by first | omega | (simp [mulN] at *; omega)) ?_
    refine SetKids.one (fun _ => ⟨rfl, rfl⟩) (true) (by rfl) (by first | omega | (simp [mulN] at *; omega)) ?_
    refine Kid.one (fun _ => ⟨rfl, rfl⟩) (by first | omega | (simp [mulN] at *; omega)) ?_
    refine SetKids.one (fun _ => ⟨rfl, rfl⟩) ((nth x5 (nth pairs0 x8.toNat).fst.toNat).set (nth pairs0 x8.toNat).snd.toNat true) (by rfl) (by first | omega | (simp [mulN] at *; omega)) ?_
    refine Ask.o h fun p11 h => ?_
    cases h; exact ⟨rfl, rfl⟩
  cases h; exact ⟨rfl, rfl⟩

noncomputable def F_spec_l23From_l3 (n0 : Int) (x9 : Int) (x10 : Int) : (Int × (List (List Bool))) → Option ((Int × (List (List Bool))) ⊕ (List (List Bool))) := fun (x11, x5'') =>
 if x11 < n0 then
 ask ((0 : Int) ≤ x10 ∧ x10 < (↑x5''.length : Int)) <|
 ask ((0 : Int) ≤ x10 ∧ x10 < (↑x5''.length : Int)) <|
 ask ((0 : Int) ≤ x11 ∧ x11 < (↑(nth x5'' x10.toNat).length : Int)) <|
 if (nth (nth x5'' x10.toNat) x11.toNat) = true then
 ask ((0 : Int) ≤ x11 ∧ x11 < (↑(nth x5'' x10.toNat).length : Int)) <|
 ask (InI (x11 + (1 : Int))) <|
 some (.inl (x11 + (1 : Int), x5''.set x10.toNat ((nth x5'' x10.toNat).set x11.toNat true)))
 else
 ask ((0 : Int) ≤ x10 ∧ x10 < (↑x5''.length : Int)) <|
 ask ((0 : Int) ≤ x9 ∧ x9 < (↑(nth x5'' x10.toNat).length : Int)) <|
 if (nth (nth x5'' x10.toNat) x9.toNat) = true then
 ask ((0 : Int) ≤ x9 ∧ x9 < (↑x5''.length : Int)) <|
 ask ((0 : Int) ≤ x11 ∧ x11 < (↑(nth x5'' x9.toNat).length : Int)) <|
 ask ((0 : Int) ≤ x11 ∧ x11 < (↑(nth x5'' x10.toNat).length : Int)) <|
 ask (InI (x11 + (1 : Int))) <|
 some (.inl (x11 + (1 : Int), x5''.set x10.toNat ((nth x5'' x10.toNat).set x11.toNat (nth (nth x5'' x9.toNat) x11.toNat))))
 else
 ask ((0 : Int) ≤ x11 ∧ x11 < (↑(nth x5'' x10.toNat).length : Int)) <|
 ask (InI (x11 + (1 : Int))) <|
 some (.inl (x11 + (1 : Int), x5''.set x10.toNat ((nth x5'' x10.toNat).set x11.toNat false)))
 else
 some (.inr x5'')
def S_spec_l23From_l3 (n0 : Int) (x9 : Int) (x10 : Int) : (Int × (List (List Bool))) → St := fun s => [(11, A.val (vint s.1)), (10, A.val (vint (x10))), (9, A.val (vint (x9))), (5, A.val ((slr true 1 (slr true 1 V.bool)) s.2)), (4, A.val ((rP true (rS_Poset true)) ({ Below := nilL (List Int) }))), (0, A.val (vint (n0)))]
def T_spec_l23From_l3 (n0 : Int) (x9 : Int) (x10 : Int) : (List (List Bool)) → Tgt
 | s => ((Ex.exit 8), [10, 9, 5, 4, 0], [(10, A.val (vint (x10))), (9, A.val (vint (x9))), (5, A.val ((slr true 1 (slr true 1 V.bool)) s)), (4, A.val ((rP true (rS_Poset true)) ({ Below := nilL (List Int) }))), (0, A.val (vint (n0)))])
theorem b_spec_l23From_l3 {n0 : Int} {x9 : Int} {x10 : Int} (s : (Int × (List (List Bool)))) (o : (Int × (List (List Bool))) ⊕ (List (List Bool))) (h : F_spec_l23From_l3 n0 x9 x10 s = some o) : vc Try.prog c_spec_l23From_l3 (outQ [11, 10, 9, 5, 4, 0] (S_spec_l23From_l3 n0 x9 x10) (T_spec_l23From_l3 n0 x9 x10) o) (S_spec_l23From_l3 n0 x9 x10 s) := by
  obtain ⟨x11, x5''⟩ := s
  unfold F_spec_l23From_l3 at h
  try dsimp only at h
  refine Br.od h (fun p15 h => ?_) (fun p15 h => ?_)
  · refine Len.map ?_
    refine Ask.o h fun p16 h => ?_
    refine Cells.one (fun _ => ⟨rfl, rfl⟩) (by first | omega | (simp [mulN] at *; omega)) ?_
    refine Len.map ?_
    refine Ask.o h fun p17 h => ?_
    refine Cells.one (fun _ => ⟨rfl, rfl⟩) (by first | omega | (simp [mulN] at *; omega)) ?_
    refine Kid.one (fun _ => ⟨rfl, rfl⟩) (by first | omega | (simp [mulN] at *; omega)) ?_
    refine Len.map ?_
    refine Ask.o h fun p18 h => ?_
    refine Kid.one (fun _ => ⟨rfl, rfl⟩) (by first | omega | (simp [mulN] at *; omega)) ?_
    refine Cells.one (fun _ => ⟨rfl, rfl⟩) (by first | omega | (simp [mulN] at *; omega)) ?_
    refine Br.ob h (fun p19 h => ?_) (fun p19 h => ?_)
    · refine Br.yes ?_
      refine Br.yes ?_
      refine Br.yes ?_
      refine Br.yes ?_
      refine Br.yes ?_
      refine Br.yes ?_
      refine Br.yes ?_
      refine Br.yes ?_
      refine Br.yes ?_
      refine Kid.one (fun _ => ⟨rfl, rfl⟩) (by first | omega | (simp [mulN] at *; omega)) ?_
      refine Len.map ?_
      refine Ask.o h fun p20 h => ?_
      refine Kid.one (fun _ => ⟨rfl, rfl⟩) (by first | omega | (simp [mulN] at *; omega)) ?_
      refine SetKids.one (fun _ => ⟨rfl, rfl⟩) (true) (by rfl) (by first | omega | (simp [mulN] at *; omega)) ?_
      refine Kid.one (fun _ => ⟨rfl, rfl⟩) (by first | omega | (simp [mulN] at *; omega)) ?_
      refine SetKids.one (fun _ => ⟨rfl, rfl⟩) ((nth x5'' x10.toNat).set x11.toNat true) (by rfl) (by first | omega | (simp [mulN] at *; omega)) ?_
      refine Ask.o h fun p21 h => ?_
      cases h; exact ⟨rfl, rfl⟩
    refine Br.no ?_
    refine Br.no ?_
    refine Len.map ?_
    refine Ask.o h fun p22 h => ?_
    refine Br.no ?_
    refine Cells.one (fun _ => ⟨rfl, rfl⟩) (by first | omega | (simp [mulN] at *; omega)) ?_
    refine Br.no ?_
    refine Br.no ?_
    refine Kid.one (fun _ => ⟨rfl, rfl⟩) (by first | omega | (simp [mulN] at *; omega)) ?_
    refine Len.map ?_
    refine Ask.o h fun p23 h => ?_
    refine Br.no ?_
    refine Kid.one (fun _ => ⟨rfl, rfl⟩) (by first | omega | (simp [mulN] at *; omega)) ?_
    refine Cells.one (fun _ => ⟨rfl, rfl⟩) (by first | omega | (simp [mulN] at *; omega)) ?_
    refine Br.no ?_
    refine Br.ob h (fun p24 h => ?_) (fun p24 h => ?_)
    · refine Br.yes ?_
      refine Br.yes ?_
      refine Len.map ?_
      refine Ask.o h fun p25 h => ?_
      refine Br.yes ?_
      refine Cells.one (fun _ => ⟨rfl, rfl⟩) (by first | omega | (simp [mulN] at *; omega)) ?_
      refine Br.yes ?_
      refine Br.yes ?_
      refine Kid.one (fun _ => ⟨rfl, rfl⟩) (by first | omega | (simp [mulN] at *; omega)) ?_
      refine Len.map ?_
      refine Ask.o h fun p26 h => ?_
      refine Br.yes ?_
      refine Kid.one (fun _ => ⟨rfl, rfl⟩) (by first | omega | (simp [mulN] at *; omega)) ?_
      refine Cells.one (fun _ => ⟨rfl, rfl⟩) (by first | omega | (simp [mulN] at *; omega)) ?_
      refine Br.no ?_
      refine Br.yes ?_
      refine Br.no ?_
      refine Kid.one (fun _ => ⟨rfl, rfl⟩) (by first | omega | (simp [mulN] at *; omega)) ?_
      refine Len.map ?_
      refine Ask.o h fun p27 h => ?_
      refine Kid.one (fun _ => ⟨rfl, rfl⟩) (by first | omega | (simp [mulN] at *; omega)) ?_
      refine SetKids.one (fun _ => ⟨rfl, rfl⟩) (nth (nth x5'' x9.toNat) x11.toNat) (by rfl) (by first | omega | (simp [mulN] at *; omega)) ?_
      refine Kid.one (fun _ => ⟨rfl, rfl⟩) (by first | omega | (simp [mulN] at *; omega)) ?_
      refine SetKids.one (fun _ => ⟨rfl, rfl⟩) ((nth x5'' x10.toNat).set x11.toNat (nth (nth x5'' x9.toNat) x11.toNat)) (by rfl) (by first | omega | (simp [mulN] at *; omega)) ?_
      refine Ask.o h fun p28 h => ?_
      cases h; exact ⟨rfl, rfl⟩
    refine Br.no ?_
    refine Br.no ?_
    refine Br.no ?_
    refine Br.no ?_
    refine Br.no ?_
    refine Br.no ?_
    refine Br.no ?_
    refine Br.no ?_
    refine Br.no ?_
    refine Kid.one (fun _ => ⟨rfl, rfl⟩) (by first | omega | (simp [mulN] at *; omega)) ?_
    refine Len.map ?_
    refine Ask.o h fun p29 h => ?_
    refine Kid.one (fun _ => ⟨rfl, rfl⟩) (by first | omega | (simp [mulN] at *; omega)) ?_
    refine SetKids.one (fun _ => ⟨rfl, rfl⟩) (false) (by rfl) (by first | omega | (simp [mulN] at *; omega)) ?_
    refine Kid.one (fun _ => ⟨rfl, rfl⟩) (by first | omega | (simp [mulN] at *; omega)) ?_
    refine SetKids.one (fun _ => ⟨rfl, rfl⟩) ((nth x5'' x10.toNat).set x11.toNat false) (by rfl) (by first | omega | (simp [mulN] at *; omega)) ?_
    refine Ask.o h fun p30 h => ?_
    cases h; exact ⟨rfl, rfl⟩
  cases h; exact ⟨rfl, rfl⟩

noncomputable def F_spec_l23From_l4 (n0 : Int) (x9 : Int) : (Int × (List (List Bool))) → Option ((Int × (List (List Bool))) ⊕ (List (List Bool))) := fun (x10, x5') =>
 if x10 < n0 then
 (loopO (F_spec_l23From_l3 n0 x9 x10) ((0 : Int), x5')).bind fun q31_5 =>
 ask (InI (x10 + (1 : Int))) <|
 some (.inl (x10 + (1 : Int), q31_5))
 else
 some (.inr x5')
def S_spec_l23From_l4 (n0 : Int) (x9 : Int) : (Int × (List (List Bool))) → St := fun s => [(10, A.val (vint s.1)), (9, A.val (vint (x9))), (5, A.val ((slr true 1 (slr true 1 V.bool)) s.2)), (4, A.val ((rP true (rS_Poset true)) ({ Below := nilL (List Int) }))), (0, A.val (vint (n0)))]
def T_spec_l23From_l4 (n0 : Int) (x9 : Int) : (List (List Bool)) → Tgt
 | s => ((Ex.exit 6), [9, 5, 4, 0], [(9, A.val (vint (x9))), (5, A.val ((slr true 1 (slr true 1 V.bool)) s)), (4, A.val ((rP true (rS_Poset true)) ({ Below := nilL (List Int) }))), (0, A.val (vint (n0)))])
theorem b_spec_l23From_l4 {n0 : Int} {x9 : Int} (s : (Int × (List (List Bool)))) (o : (Int × (List (List Bool))) ⊕ (List (List Bool))) (h : F_spec_l23From_l4 n0 x9 s = some o) : vc Try.prog c_spec_l23From_l4 (outQ [10, 9, 5, 4, 0] (S_spec_l23From_l4 n0 x9) (T_spec_l23From_l4 n0 x9) o) (S_spec_l23From_l4 n0 x9 s) := by
  obtain ⟨x10, x5'⟩ := s
  unfold F_spec_l23From_l4 at h
  try dsimp only at h
  refine Br.od h (fun p14 h => ?_) (fun p14 h => ?_)
  · refine LoopQ.o [11, 10, 9, 5, 4, 0] (S_spec_l23From_l3 n0 x9 x10) (T_spec_l23From_l3 n0 x9 x10) h (fun s o h => b_spec_l23From_l3 s o h) (by first | rfl | simp [restrict, look, mulN_one, V.fz, fzL, V.up, upL, fzL_map, fz_slr, fz_at, slr]) (fun _ => rfl) ?_
    rintro q31_5 h
    try dsimp only at h
    refine Ask.o h fun p32 h => ?_
    cases h; exact ⟨rfl, rfl⟩
  cases h; exact ⟨rfl, rfl⟩

noncomputable def F_spec_l23From_l5 (n0 : Int) : (Int × (List (List Bool))) → Option ((Int × (List (List Bool))) ⊕ (List (List Bool))) := fun (x9, x5) =>
 if x9 < n0 then
 (loopO (F_spec_l23From_l4 n0 x9) ((0 : Int), x5)).bind fun q33_5 =>
 ask (InI (x9 + (1 : Int))) <|
 some (.inl (x9 + (1 : Int), q33_5))
 else
 some (.inr x5)
def S_spec_l23From_l5 (n0 : Int) : (Int × (List (List Bool))) → St := fun s => [(9, A.val (vint s.1)), (5, A.val ((slr true 1 (slr true 1 V.bool)) s.2)), (4, A.val ((rP true (rS_Poset true)) ({ Below := nilL (List Int) }))), (0, A.val (vint (n0)))]
def T_spec_l23From_l5 (n0 : Int) : (List (List Bool)) → Tgt
 | s => ((Ex.exit 4), [5, 4, 0], [(5, A.val ((slr true 1 (slr true 1 V.bool)) s)), (4, A.val ((rP true (rS_Poset true)) ({ Below := nilL (List Int) }))), (0, A.val (vint (n0)))])
theorem b_spec_l23From_l5 {n0 : Int} (s : (Int × (List (List Bool)))) (o : (Int × (List (List Bool))) ⊕ (List (List Bool))) (h : F_spec_l23From_l5 n0 s = some o) : vc Try.prog c_spec_l23From_l5 (outQ [9, 5, 4, 0] (S_spec_l23From_l5 n0) (T_spec_l23From_l5 n0) o) (S_spec_l23From_l5 n0 s) := by
  obtain ⟨x9, x5⟩ := s
  unfold F_spec_l23From_l5 at h
  try dsimp only at h
  refine Br.od h (fun p13 h => ?_) (fun p13 h => ?_)
  · refine LoopQ.o [10, 9, 5, 4, 0] (S_spec_l23From_l4 n0 x9) (T_spec_l23From_l4 n0 x9) h (fun s o h => b_spec_l23From_l4 s o h) (by first | rfl | simp [restrict, look, mulN_one, V.fz, fzL, V.up, upL, fzL_map, fz_slr, fz_at, slr]) (fun _ => rfl) ?_
    rintro q33_5 h
    try dsimp only at h
    refine Ask.o h fun p34 h => ?_
    cases h; exact ⟨rfl, rfl⟩
  cases h; exact ⟨rfl, rfl⟩

noncomputable def F_spec_l23From_l6 (n0 : Int) (q35_5 : List (List Bool)) (x13 : Int) (_x12 : SPoset) : (Int × (List Int)) → Option ((Int × (List Int)) ⊕ (List Int)) := fun (x15, x14) =>
 if x15 < n0 then
 ask ((0 : Int) ≤ x15 ∧ x15 < (↑q35_5.length : Int)) <|
 ask ((0 : Int) ≤ x13 ∧ x13 < (↑(nth q35_5 x15.toNat).length : Int)) <|
 if (nth (nth q35_5 x15.toNat) x13.toNat) = true then
 ask ((x14).length + ([x15]).length ≤ LIM) <|
 ask (InI (x15 + (1 : Int))) <|
 some (.inl (x15 + (1 : Int), x14 ++ [x15]))
 else
 ask (InI (x15 + (1 : Int))) <|
 some (.inl (x15 + (1 : Int), x14))
 else
 some (.inr x14)
def S_spec_l23From_l6 (n0 : Int) (q35_5 : List (List Bool)) (x13 : Int) (x12 : SPoset) : (Int × (List Int)) → St := fun s => [(15, A.val (vint s.1)), (14, A.val ((slr true 1 vint) s.2)), (13, A.val (vint (x13))), (12, A.val ((rP true (rS_Poset true)) (x12))), (5, A.val ((slr true 1 (slr true 1 V.bool)) (q35_5))), (4, A.val ((rP true (rS_Poset true)) ({ Below := nilL (List Int) }))), (0, A.val (vint (n0)))]
def T_spec_l23From_l6 (n0 : Int) (q35_5 : List (List Bool)) (x13 : Int) (x12 : SPoset) : (List Int) → Tgt
 | s => ((Ex.exit 12), [14, 13, 12, 5, 4, 0], [(14, A.val ((slr true 1 vint) s)), (13, A.val (vint (x13))), (12, A.val ((rP true (rS_Poset true)) (x12))), (5, A.val ((slr true 1 (slr true 1 V.bool)) (q35_5))), (4, A.val ((rP true (rS_Poset true)) ({ Below := nilL (List Int) }))), (0, A.val (vint (n0)))])
theorem b_spec_l23From_l6 {n0 : Int} {q35_5 : List (List Bool)} {x13 : Int} {x12 : SPoset} (s : (Int × (List Int))) (o : (Int × (List Int)) ⊕ (List Int)) (h : F_spec_l23From_l6 n0 q35_5 x13 x12 s = some o) : vc Try.prog c_spec_l23From_l6 (outQ [15, 14, 13, 12, 5, 4, 0] (S_spec_l23From_l6 n0 q35_5 x13 x12) (T_spec_l23From_l6 n0 q35_5 x13 x12) o) (S_spec_l23From_l6 n0 q35_5 x13 x12 s) := by
  obtain ⟨x15, x14⟩ := s
  unfold F_spec_l23From_l6 at h
  try dsimp only at h
  refine Br.od h (fun p37 h => ?_) (fun p37 h => ?_)
  · refine Len.map ?_
    refine Ask.o h fun p38 h => ?_
    refine Cells.one (fun _ => ⟨rfl, rfl⟩) (by first | omega | (simp [mulN] at *; omega)) ?_
    refine Kid.one (fun _ => ⟨rfl, rfl⟩) (by first | omega | (simp [mulN] at *; omega)) ?_
    refine Len.map ?_
    refine Ask.o h fun p39 h => ?_
    refine Kid.one (fun _ => ⟨rfl, rfl⟩) (by first | omega | (simp [mulN] at *; omega)) ?_
    refine Cells.one (fun _ => ⟨rfl, rfl⟩) (by first | omega | (simp [mulN] at *; omega)) ?_
    refine Br.ob h (fun p40 h => ?_) (fun p40 h => ?_)
    · refine BslQ.o vint [x15] (by exact fun _ => ⟨rfl, rfl⟩) (by rfl) ?_
      refine NoOwn.o (fun _ => rfl) ?_
      refine AppQ.o (m := 1) vint (by exact fun _ => ⟨rfl, rfl⟩) (x14) ([x15]) (by rfl) (by rfl) h fun h => ?_
      refine Ask.o h fun p41 h => ?_
      cases h; exact ⟨rfl, rfl⟩
    refine Ask.o h fun p42 h => ?_
    cases h; exact ⟨rfl, rfl⟩
  cases h; exact ⟨rfl, rfl⟩

noncomputable def F_spec_l23From_l7 (n0 : Int) (q35_5 : List (List Bool)) : (Int × SPoset) → Option ((Int × SPoset) ⊕ SPoset) := fun (x13, x12) =>
 if x13 < n0 then
 (loopO (F_spec_l23From_l6 n0 q35_5 x13 x12) ((0 : Int), nilL Int)).bind fun q43_14 =>
 ask ((x12.Below).length + ([q43_14]).length ≤ LIM) <|
 ask (InI (x13 + (1 : Int))) <|
 some (.inl (x13 + (1 : Int), { Below := x12.Below ++ [q43_14] }))
 else
 some (.inr x12)
def S_spec_l23From_l7 (n0 : Int) (q35_5 : List (List Bool)) : (Int × SPoset) → St := fun s => [(13, A.val (vint s.1)), (12, A.val ((rP true (rS_Poset true)) s.2)), (5, A.val ((slr true 1 (slr true 1 V.bool)) (q35_5))), (4, A.val ((rP true (rS_Poset true)) ({ Below := nilL (List Int) }))), (0, A.val (vint (n0)))]
def T_spec_l23From_l7 (_n0 : Int) (_q35_5 : List (List Bool)) : SPoset → Tgt
 | s => ((Ex.exit 10), [12, 4], [(12, A.val ((rP true (rS_Poset true)) s)), (4, A.val ((rP true (rS_Poset true)) ({ Below := nilL (List Int) })))])
theorem b_spec_l23From_l7 {n0 : Int} {q35_5 : List (List Bool)} (s : (Int × SPoset)) (o : (Int × SPoset) ⊕ SPoset) (h : F_spec_l23From_l7 n0 q35_5 s = some o) : vc Try.prog c_spec_l23From_l7 (outQ [13, 12, 5, 4, 0] (S_spec_l23From_l7 n0 q35_5) (T_spec_l23From_l7 n0 q35_5) o) (S_spec_l23From_l7 n0 q35_5 s) := by
  obtain ⟨x13, x12⟩ := s
  unfold F_spec_l23From_l7 at h
  try dsimp only at h
  refine Br.od h (fun p36 h => ?_) (fun p36 h => ?_)
  · refine BslQ.o vint (nilL Int) (by exact fun _ => ⟨rfl, rfl⟩) (by rfl) ?_
    refine LoopQ.o [15, 14, 13, 12, 5, 4, 0] (S_spec_l23From_l6 n0 q35_5 x13 x12) (T_spec_l23From_l6 n0 q35_5 x13 x12) h (fun s o h => b_spec_l23From_l6 s o h) (by first | rfl | simp [restrict, look, mulN_one, V.fz, fzL, V.up, upL, fzL_map, fz_slr, fz_at, slr]) (fun _ => rfl) ?_
    rintro q43_14 h
    try dsimp only at h
    refine Cells.lit rfl rfl ?_
    refine BslQ.o (slr true 1 vint) [q43_14] (by exact fun _ => ⟨rfl, rfl⟩) (by rfl) ?_
    refine NoOwn.own rfl ?_
    refine Kid.lit rfl rfl ?_
    refine Kid.lit rfl rfl ?_
    refine SetKids.lit rfl ?_
    refine AppQ.o (m := 1) (slr true 1 vint) (by exact fun _ => ⟨rfl, rfl⟩) (x12.Below) ([q43_14]) (by rfl) (by rfl) h fun h => ?_
    refine SetKids.lit rfl ?_
    refine Ask.o h fun p44 h => ?_
    cases h; exact ⟨rfl, rfl⟩
  cases h; exact ⟨rfl, rfl⟩

noncomputable def F_spec_l23From (n0 : Int) (pairs0 : (List (Int × Int))) : Option SPoset :=
 (loopO (F_spec_l23From_l1 n0 pairs0) ((0 : Int), nilL (List Bool))).bind fun q5_5 =>
 (loopO (F_spec_l23From_l2 n0 pairs0) ((0 : Int), q5_5)).bind fun q12_5 =>
 (loopO (F_spec_l23From_l5 n0) ((0 : Int), q12_5)).bind fun q35_5 =>
 (loopO (F_spec_l23From_l7 n0 q35_5) ((0 : Int), { Below := nilL (List Int) })).bind fun q45_12 =>
 some q45_12
theorem t_spec_l23From {n0 : Int} {pairs0 : (List (Int × Int))} {v : SPoset} (h : F_spec_l23From n0 pairs0 = some v) : Ret Try.prog f_spec_l23From [vint n0, (slr false 2 (rA2 vint)) pairs0] ((rS_Poset true) v) := by
  refine ret_vc k_spec_l23From (Nat.le_of_ble_eq_true rfl) ?_
  unfold F_spec_l23From at h
  refine BslQ.o (slr true 1 V.bool) (nilL (List Bool)) (by exact fun _ => ⟨rfl, rfl⟩) (by rfl) ?_
  refine LoopQ.o [6, 5, 4, 0, 1] (S_spec_l23From_l1 n0 pairs0) (T_spec_l23From_l1 n0 pairs0) h (fun s o h => b_spec_l23From_l1 s o h) (by first | rfl | simp [restrict, look, mulN_one, V.fz, fzL, V.up, upL, fzL_map, fz_slr, fz_at, slr]) (fun _ => rfl) ?_
  rintro q5_5 h
  try dsimp only at h
  refine LoopQ.o [8, 5, 4, 0, 1] (S_spec_l23From_l2 n0 pairs0) (T_spec_l23From_l2 n0 pairs0) h (fun s o h => b_spec_l23From_l2 s o h) (by first | rfl | simp [restrict, look, mulN_one, V.fz, fzL, V.up, upL, fzL_map, fz_slr, fz_at, slr]) (fun _ => rfl) ?_
  rintro q12_5 h
  try dsimp only at h
  refine LoopQ.o [9, 5, 4, 0] (S_spec_l23From_l5 n0) (T_spec_l23From_l5 n0) h (fun s o h => b_spec_l23From_l5 s o h) (by first | rfl | simp [restrict, look, mulN_one, V.fz, fzL, V.up, upL, fzL_map, fz_slr, fz_at, slr]) (fun _ => rfl) ?_
  rintro q35_5 h
  try dsimp only at h
  refine BslQ.o (slr true 1 vint) (nilL (List Int)) (by exact fun _ => ⟨rfl, rfl⟩) (by rfl) ?_
  refine SetKids.lit rfl ?_
  refine LoopQ.o [13, 12, 5, 4, 0] (S_spec_l23From_l7 n0 q35_5) (T_spec_l23From_l7 n0 q35_5) h (fun s o h => b_spec_l23From_l7 s o h) (by first | rfl | simp [restrict, look, mulN_one, V.fz, fzL, V.up, upL, fzL_map, fz_slr, fz_at, slr]) (fun _ => rfl) ?_
  rintro q45_12 h
  try dsimp only at h
  refine Cells.lit rfl rfl ?_
  refine SetKids.lit rfl ?_
  cases h; exact (by rfl)

noncomputable def F_impl_flatOp_l1 (table0 : List (List Int)) : (Int × SOp) → Option ((Int × SOp) ⊕ SOp) := fun (x9, x3) =>
 if x9 < (↑table0.length : Int) then
 ask ((0 : Int) ≤ x9 ∧ x9 < (↑table0.length : Int)) <|
 ask ((x3.Table).length + (nth table0 x9.toNat).length ≤ LIM) <|
 ask (InI (x9 + (1 : Int))) <|
 some (.inl (x9 + (1 : Int), { Arity := x3.Arity, Table := x3.Table ++ nth table0 x9.toNat }))
 else
 some (.inr x3)
def S_impl_flatOp_l1 (table0 : List (List Int)) : (Int × SOp) → St := fun s => [(9, A.val (vint s.1)), (8, A.val (vint ((↑table0.length : Int)))), (7, A.val ((slr false 1 (slr false 1 vint)) (table0))), (3, A.val ((rP true (rS_Op true)) s.2)), (2, A.val ((rP true (rS_Op true)) ({ Arity := (0 : Int), Table := nilL Int })))]
def T_impl_flatOp_l1 (_table0 : List (List Int)) : SOp → Tgt
 | s => ((Ex.exit 0), [3, 2], [(3, A.val ((rP true (rS_Op true)) s)), (2, A.val ((rP true (rS_Op true)) ({ Arity := (0 : Int), Table := nilL Int })))])
theorem b_impl_flatOp_l1 {table0 : List (List Int)} (s : (Int × SOp)) (o : (Int × SOp) ⊕ SOp) (h : F_impl_flatOp_l1 table0 s = some o) : vc Try.prog c_impl_flatOp_l1 (outQ [9, 8, 7, 3, 2] (S_impl_flatOp_l1 table0) (T_impl_flatOp_l1 table0) o) (S_impl_flatOp_l1 table0 s) := by
  obtain ⟨x9, x3⟩ := s
  unfold F_impl_flatOp_l1 at h
  try dsimp only at h
  refine Br.od h (fun p1 h => ?_) (fun p1 h => ?_)
  · refine Len.map ?_
    refine Ask.o h fun p2 h => ?_
    refine Elem.o (by first | omega | (simp [mulN] at *; omega)) ?_
    refine Cells.lit rfl rfl ?_
    refine Kid.lit rfl rfl ?_
    refine Kid.lit rfl rfl ?_
    refine SetKids.lit rfl ?_
    refine AppQ.o (m := 1) vint (by exact fun _ => ⟨rfl, rfl⟩) (x3.Table) (nth table0 x9.toNat) (by rfl) (by rfl) h fun h => ?_
    refine SetKids.lit rfl ?_
    refine Ask.o h fun p3 h => ?_
    cases h; exact ⟨rfl, rfl⟩
  cases h; exact ⟨rfl, rfl⟩

noncomputable def F_impl_flatOp (table0 : (List (List Int))) : Option SOp :=
 (loopO (F_impl_flatOp_l1 table0) ((0 : Int), { Arity := (2 : Int), Table := nilL Int })).bind fun q4_3 =>
 some q4_3
theorem t_impl_flatOp {table0 : (List (List Int))} {v : SOp} (h : F_impl_flatOp table0 = some v) : Ret Try.prog f_impl_flatOp [(slr false 1 (slr false 1 vint)) table0] ((rS_Op true) v) := by
  refine ret_vc k_impl_flatOp (Nat.le_of_ble_eq_true rfl) ?_
  unfold F_impl_flatOp at h
  refine SetKids.lit rfl ?_
  refine Len.map ?_
  refine LoopQ.o [9, 8, 7, 3, 2] (S_impl_flatOp_l1 table0) (T_impl_flatOp_l1 table0) h (fun s o h => b_impl_flatOp_l1 s o h) (by first | rfl | simp [restrict, look, mulN_one, V.fz, fzL, V.up, upL, fzL_map, fz_slr, fz_at, slr]) (fun _ => rfl) ?_
  rintro q4_3 h
  try dsimp only at h
  refine Cells.lit rfl rfl ?_
  refine SetKids.lit rfl ?_
  cases h; exact (by rfl)

noncomputable def F_impl_rises_l1 (list0 : List Int) : Int → Option (Int ⊕ (Unit ⊕ Unit)) := fun x3 =>
 if x3 < (↑list0.length : Int) then
 ask (InI (x3 - (1 : Int))) <|
 ask ((0 : Int) ≤ x3 - (1 : Int) ∧ x3 - (1 : Int) < (↑list0.length : Int)) <|
 ask ((0 : Int) ≤ x3 ∧ x3 < (↑list0.length : Int)) <|
 if nth list0 (x3 - (1 : Int)).toNat ≥ nth list0 x3.toNat then
 some (.inr (.inl ()))
 else
 ask (InI (x3 + (1 : Int))) <|
 some (.inl (x3 + (1 : Int)))
 else
 some (.inr (.inr ()))
def S_impl_rises_l1 (list0 : List Int) : Int → St := fun s => [(3, A.val (vint s)), (0, A.val ((slr false 1 vint) (list0)))]
def T_impl_rises_l1 (_list0 : List Int) : (Unit ⊕ Unit) → Tgt
 | (.inl _s) => (Ex.ret, [2], [(2, A.val (V.bool (false)))])
 | (.inr _s) => ((Ex.exit 0), [], [])
theorem b_impl_rises_l1 {list0 : List Int} (x3 : Int) (o : Int ⊕ (Unit ⊕ Unit)) (h : F_impl_rises_l1 list0 x3 = some o) : vc Try.prog c_impl_rises_l1 (outQ [3, 0] (S_impl_rises_l1 list0) (T_impl_rises_l1 list0) o) (S_impl_rises_l1 list0 x3) := by
  unfold F_impl_rises_l1 at h
  try dsimp only at h
  refine Len.map ?_
  refine Br.od h (fun p1 h => ?_) (fun p1 h => ?_)
  · refine Ask.o h fun p2 h => ?_
    refine Len.map ?_
    refine Ask.o h fun p3 h => ?_
    refine Elem.o (by first | omega | (simp [mulN] at *; omega)) ?_
    refine Len.map ?_
    refine Ask.o h fun p4 h => ?_
    refine Elem.o (by first | omega | (simp [mulN] at *; omega)) ?_
    refine Br.od h (fun p5 h => ?_) (fun p5 h => ?_)
    · cases h; exact ⟨rfl, rfl⟩
    refine Ask.o h fun p6 h => ?_
    cases h; exact ⟨rfl, rfl⟩
  cases h; exact ⟨rfl, rfl⟩

noncomputable def F_impl_rises (list0 : (List Int)) : Option Bool :=
 (loopO (F_impl_rises_l1 list0) (1 : Int)).bind fun t => match t with
 | (.inl _) => (some false)
 | (.inr _) => (some true)
theorem t_impl_rises {list0 : (List Int)} {v : Bool} (h : F_impl_rises list0 = some v) : Ret Try.prog f_impl_rises [(slr false 1 vint) list0] (V.bool v) := by
  refine ret_vc k_impl_rises (Nat.le_of_ble_eq_true rfl) ?_
  unfold F_impl_rises at h
  refine LoopQ.o [3, 0] (S_impl_rises_l1 list0) (T_impl_rises_l1 list0) h (fun s o h => b_impl_rises_l1 s o h) (by first | rfl | simp [restrict, look, mulN_one, V.fz, fzL, V.up, upL, fzL_map, fz_slr, fz_at, slr]) (by rintro (_ | _) <;> rfl) ?_
  rintro (⟨⟩ | ⟨⟩) h
  · try dsimp only at h
    cases h; exact (by rfl)
  try dsimp only at h
  cases h; exact (by rfl)

end Go.Proofs.Ytoikbcagaanhgaa.Ax
