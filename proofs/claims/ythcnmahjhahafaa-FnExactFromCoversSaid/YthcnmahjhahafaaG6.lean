/-
  What the functions compute, as functions on plain data, and that the program does compute it; written by program.
-/
import Derived.Test.YthcnmahjhahafaaCode
import Derived.Test.YthcnmahjhahafaaG1
import Derived.Test.YthcnmahjhahafaaG2
import Derived.Test.YthcnmahjhahafaaG3
import Derived.Test.YthcnmahjhahafaaG4
namespace Go.Proofs.Ythcnmahjhahafaa.Ax
open Go
set_option maxRecDepth 100000
set_option maxHeartbeats 4000000

noncomputable def F_impl_FromCovers_l1 (_pairs0 : List (Int × Int)) (r5 : List (List Bool)) : (Int × (List (List Bool))) → Option ((Int × (List (List Bool))) ⊕ (List (List Bool))) := fun (x29, x6) =>
   if x29 < (↑r5.length : Int) then
    ask ((0 : Int) ≤ x29 ∧ x29 < (↑x6.length : Int)) <|
    ask ((0 : Int) ≤ x29 ∧ x29 < (↑(nth x6 x29.toNat).length : Int)) <|
    ask (InI (x29 + (1 : Int))) <|
    some (.inl (x29 + (1 : Int), x6.set x29.toNat ((nth x6 x29.toNat).set x29.toNat true)))
   else
    some (.inr x6)
def S_impl_FromCovers_l1 (pairs0 : List (Int × Int)) (r5 : List (List Bool)) : (Int × (List (List Bool))) → St := fun s => [(29, A.val (vint s.1)), (28, A.val (vint ((↑r5.length : Int)))), (6, A.val ((slr true 1 (slr true 1 V.bool)) s.2)), (4, A.val ((rP true (rS_Poset true)) ({ Below := nilL (List Int) }))), (1, A.val ((slr false 2 (rA2 vint)) (pairs0)))]
def T_impl_FromCovers_l1 (pairs0 : List (Int × Int)) (_r5 : List (List Bool)) : (List (List Bool)) → Tgt
  | s => ((Ex.exit 0), [6, 4, 1], [(6, A.val ((slr true 1 (slr true 1 V.bool)) s)), (4, A.val ((rP true (rS_Poset true)) ({ Below := nilL (List Int) }))), (1, A.val ((slr false 2 (rA2 vint)) (pairs0)))])
theorem b_impl_FromCovers_l1 {pairs0 : List (Int × Int)} {r5 : List (List Bool)} (s : (Int × (List (List Bool)))) (o : (Int × (List (List Bool))) ⊕ (List (List Bool))) (h : F_impl_FromCovers_l1 pairs0 r5 s = some o) : vc Try.prog c_impl_FromCovers_l1 (outQ [29, 28, 6, 4, 1] (S_impl_FromCovers_l1 pairs0 r5) (T_impl_FromCovers_l1 pairs0 r5) o) (S_impl_FromCovers_l1 pairs0 r5 s) := by
  obtain ⟨x29, x6⟩ := s
  unfold F_impl_FromCovers_l1 at h
  try dsimp only at h
  conv => whnf
  refine Br.od h (fun p6 h => ?_) (fun p6 h => ?_)
  · conv => whnf
    refine Len.map ?_
    conv => whnf
    refine Ask.o h fun p7 h => ?_
    conv => whnf
    refine Cells.one (fun _ => ⟨rfl, rfl⟩) (by first | omega | (simp only [mulN] at *; omega) | (simp [mulN] at *; omega)) ?_
    conv => whnf
    refine Kid.one (fun _ => ⟨rfl, rfl⟩) (by first | omega | (simp only [mulN] at *; omega) | (simp [mulN] at *; omega)) ?_
    conv => whnf
    refine Len.map ?_
    conv => whnf
    refine Ask.o h fun p8 h => ?_
    conv => whnf
    refine Kid.one (fun _ => ⟨rfl, rfl⟩) (by first | omega | (simp only [mulN] at *; omega) | (simp [mulN] at *; omega)) ?_
    conv => whnf
    refine SetKids.one (fun _ => ⟨rfl, rfl⟩) (true) (by first | rfl | simp only [mulN_one, V.fz, fzL, V.up, upL, fzL_map, fz_slr, fz_at, slr, List.cons_append, List.nil_append] | simp [mulN_one, V.fz, fzL, V.up, upL, fzL_map, fz_slr, fz_at, slr]) (by first | omega | (simp only [mulN] at *; omega) | (simp [mulN] at *; omega)) ?_
    conv => whnf
    refine Kid.one (fun _ => ⟨rfl, rfl⟩) (by first | omega | (simp only [mulN] at *; omega) | (simp [mulN] at *; omega)) ?_
    conv => whnf
    refine SetKids.one (fun _ => ⟨rfl, rfl⟩) ((nth x6 x29.toNat).set x29.toNat true) (by first | rfl | simp only [mulN_one, V.fz, fzL, V.up, upL, fzL_map, fz_slr, fz_at, slr, List.cons_append, List.nil_append] | simp [mulN_one, V.fz, fzL, V.up, upL, fzL_map, fz_slr, fz_at, slr]) (by first | omega | (simp only [mulN] at *; omega) | (simp [mulN] at *; omega)) ?_
    conv => whnf
    refine Ask.o h fun p9 h => ?_
    conv => whnf
    cases h; exact ⟨rfl, rfl⟩
  · conv => whnf
    cases h; exact ⟨rfl, rfl⟩

noncomputable def F_impl_FromCovers_l2 (pairs0 : List (Int × Int)) : (Int × (List (List Bool))) → Option ((Int × (List (List Bool))) ⊕ (Unit ⊕ (List (List Bool)))) := fun (x41, x6) =>
   if x41 < (↑pairs0.length : Int) then
    ask ((0 : Int) ≤ x41 ∧ x41 < (↑pairs0.length : Int)) <|
    (((F_impl_order_has (x6) ([(nth pairs0 x41.toNat).fst, (nth pairs0 x41.toNat).snd])).bind fun r13 =>
       if (r13) = true then
        if (nth pairs0 x41.toNat).fst = (nth pairs0 x41.toNat).snd then
         some (.inl ())
        else
         some (.inr ())
       else
        some (.inl ()) : Option (Unit ⊕ Unit))).bind fun t => match t with
    | (.inl _) => (some (.inr (.inl ())))
    | (.inr _) => (ask ((0 : Int) ≤ (nth pairs0 x41.toNat).fst ∧ (nth pairs0 x41.toNat).fst < (↑x6.length : Int)) <|
      ask ((0 : Int) ≤ (nth pairs0 x41.toNat).snd ∧ (nth pairs0 x41.toNat).snd < (↑(nth x6 (nth pairs0 x41.toNat).fst.toNat).length : Int)) <|
      ask (InI (x41 + (1 : Int))) <|
      some (.inl (x41 + (1 : Int), x6.set (nth pairs0 x41.toNat).fst.toNat ((nth x6 (nth pairs0 x41.toNat).fst.toNat).set (nth pairs0 x41.toNat).snd.toNat true))))
   else
    some (.inr (.inr x6))
def S_impl_FromCovers_l2 (pairs0 : List (Int × Int)) : (Int × (List (List Bool))) → St := fun s => [(41, A.val (vint s.1)), (40, A.val (vint ((↑pairs0.length : Int)))), (39, A.val ((slr false 2 (rA2 vint)) (pairs0))), (6, A.val ((slr true 1 (slr true 1 V.bool)) s.2)), (4, A.val ((rP true (rS_Poset true)) ({ Below := nilL (List Int) })))]
def T_impl_FromCovers_l2 (_pairs0 : List (Int × Int)) : (Unit ⊕ (List (List Bool))) → Tgt
  | (.inl _s) => (Ex.ret, [5, 4], [(5, A.val (V.bool (false))), (4, A.val ((rP true (rS_Poset true)) ({ Below := nilL (List Int) })))])
  | (.inr s) => ((Ex.exit 2), [6, 4], [(6, A.val ((slr true 1 (slr true 1 V.bool)) s)), (4, A.val ((rP true (rS_Poset true)) ({ Below := nilL (List Int) })))])
theorem b_impl_FromCovers_l2 {pairs0 : List (Int × Int)} (s : (Int × (List (List Bool)))) (o : (Int × (List (List Bool))) ⊕ (Unit ⊕ (List (List Bool)))) (h : F_impl_FromCovers_l2 pairs0 s = some o) : vc Try.prog c_impl_FromCovers_l2 (outQ [41, 40, 39, 6, 4] (S_impl_FromCovers_l2 pairs0) (T_impl_FromCovers_l2 pairs0) o) (S_impl_FromCovers_l2 pairs0 s) := by
  obtain ⟨x41, x6⟩ := s
  unfold F_impl_FromCovers_l2 at h
  try dsimp only at h
  conv => whnf
  refine Br.od h (fun p11 h => ?_) (fun p11 h => ?_)
  · conv => whnf
    refine Len.map ?_
    conv => whnf
    refine Ask.o h fun p12 h => ?_
    conv => whnf
    refine Elem.o (by first | omega | (simp only [mulN] at *; omega) | (simp [mulN] at *; omega)) ?_
    conv => whnf
    refine SetKids.lit rfl ?_
    conv => whnf
    refine CutQ.o (fun t : (Unit ⊕ Unit) => match t with | (.inl s) => (Ex.ret, [5, 4], [(5, A.val (V.bool (false))), (4, A.val ((rP true (rS_Poset true)) ({ Below := nilL (List Int) })))]) | (.inr s) => (Ex.normal, [9, 41, 40, 39, 6, 4], [(9, A.val ((rP true (rA2 vint)) (nth pairs0 x41.toNat))), (41, A.val (vint (x41))), (40, A.val (vint ((↑pairs0.length : Int)))), (39, A.val ((slr false 2 (rA2 vint)) (pairs0))), (6, A.val ((slr true 1 (slr true 1 V.bool)) (x6))), (4, A.val ((rP true (rS_Poset true)) ({ Below := nilL (List Int) })))])) h ?_ ?_
    · intro t h
      conv => whnf
      refine Ask.mk (by decide) ?_
      conv => whnf
      refine Idx.lit ?_
      conv => whnf
      refine Cells.lit rfl rfl ?_
      conv => whnf
      refine Ask.mk (by decide) ?_
      conv => whnf
      refine Idx.lit ?_
      conv => whnf
      refine Cells.lit rfl rfl ?_
      conv => whnf
      refine BslQ.o vint ([(nth pairs0 x41.toNat).fst, (nth pairs0 x41.toNat).snd]) (fun _ => ⟨rfl, rfl⟩) (by first | rfl | simp only [mulN_one, V.fz, fzL, V.up, upL, fzL_map, fz_slr, fz_at, slr, List.cons_append, List.nil_append] | simp [mulN_one, V.fz, fzL, V.up, upL, fzL_map, fz_slr, fz_at, slr]) ?_
      conv => whnf
      refine CallQ.rd V.bool (by first | rfl | simp only [V.fz, fzL_map, slr] | simp [mulN_one, V.fz, fzL, V.up, upL, fzL_map, fz_slr, fz_at, slr]) (fun _ => rfl) h (fun r h => t_impl_order_has h) (fun r13 h => ?_)
      conv => whnf
      refine Br.flip ?_
      conv => whnf
      refine Br.ob h (fun p14 h => ?_) (fun p14 h => ?_)
      · conv => whnf
        refine Ask.mk (by decide) ?_
        conv => whnf
        refine Idx.lit ?_
        conv => whnf
        refine Br.no ?_
        conv => whnf
        refine Cells.lit rfl rfl ?_
        conv => whnf
        refine Br.no ?_
        conv => whnf
        refine Ask.mk (by decide) ?_
        conv => whnf
        refine Idx.lit ?_
        conv => whnf
        refine Br.no ?_
        conv => whnf
        refine Cells.lit rfl rfl ?_
        conv => whnf
        refine Br.no ?_
        conv => whnf
        refine Br.no ?_
        conv => whnf
        refine Br.oe h (fun p15 h => ?_) (fun p15 h => ?_)
        · conv => whnf
          refine SetKids.lit rfl ?_
          conv => whnf
          cases h; exact ⟨rfl, rfl⟩
        · conv => whnf
          cases h; exact ⟨rfl, rfl⟩
      · conv => whnf
        refine Br.yes ?_
        conv => whnf
        refine Br.yes ?_
        conv => whnf
        refine Br.yes ?_
        conv => whnf
        refine Br.yes ?_
        conv => whnf
        refine Br.yes ?_
        conv => whnf
        refine Br.yes ?_
        conv => whnf
        refine SetKids.lit rfl ?_
        conv => whnf
        cases h; exact ⟨rfl, rfl⟩
    · rintro (⟨⟩ | ⟨⟩) h
      · try dsimp only at h
        conv => whnf
        cases h; exact ⟨rfl, rfl⟩
      · try dsimp only at h
        conv => whnf
        refine Ask.mk (by decide) ?_
        conv => whnf
        refine Idx.lit ?_
        conv => whnf
        refine Cells.lit rfl rfl ?_
        conv => whnf
        refine Len.map ?_
        conv => whnf
        refine Ask.o h fun p17 h => ?_
        conv => whnf
        refine Cells.one (fun _ => ⟨rfl, rfl⟩) (by first | omega | (simp only [mulN] at *; omega) | (simp [mulN] at *; omega)) ?_
        conv => whnf
        refine Ask.mk (by decide) ?_
        conv => whnf
        refine Idx.lit ?_
        conv => whnf
        refine Cells.lit rfl rfl ?_
        conv => whnf
        refine Kid.one (fun _ => ⟨rfl, rfl⟩) (by first | omega | (simp only [mulN] at *; omega) | (simp [mulN] at *; omega)) ?_
        conv => whnf
        refine Len.map ?_
        conv => whnf
        refine Ask.o h fun p18 h => ?_
        conv => whnf
        refine Kid.one (fun _ => ⟨rfl, rfl⟩) (by first | omega | (simp only [mulN] at *; omega) | (simp [mulN] at *; omega)) ?_
        conv => whnf
        refine SetKids.one (fun _ => ⟨rfl, rfl⟩) (true) (by first | rfl | simp only [mulN_one, V.fz, fzL, V.up, upL, fzL_map, fz_slr, fz_at, slr, List.cons_append, List.nil_append] | simp [mulN_one, V.fz, fzL, V.up, upL, fzL_map, fz_slr, fz_at, slr]) (by first | omega | (simp only [mulN] at *; omega) | (simp [mulN] at *; omega)) ?_
        conv => whnf
        refine Kid.one (fun _ => ⟨rfl, rfl⟩) (by first | omega | (simp only [mulN] at *; omega) | (simp [mulN] at *; omega)) ?_
        conv => whnf
        refine SetKids.one (fun _ => ⟨rfl, rfl⟩) ((nth x6 (nth pairs0 x41.toNat).fst.toNat).set (nth pairs0 x41.toNat).snd.toNat true) (by first | rfl | simp only [mulN_one, V.fz, fzL, V.up, upL, fzL_map, fz_slr, fz_at, slr, List.cons_append, List.nil_append] | simp [mulN_one, V.fz, fzL, V.up, upL, fzL_map, fz_slr, fz_at, slr]) (by first | omega | (simp only [mulN] at *; omega) | (simp [mulN] at *; omega)) ?_
        conv => whnf
        refine Ask.o h fun p19 h => ?_
        conv => whnf
        cases h; exact ⟨rfl, rfl⟩
  · conv => whnf
    cases h; exact ⟨rfl, rfl⟩

noncomputable def F_impl_FromCovers_l3 (_q20_6 : List (List Bool)) (x72 : Int) (_x6 : List (List Bool)) (x77 : Int) (x6' : List (List Bool)) : (Int × (List (List Bool))) → Option ((Int × (List (List Bool))) ⊕ (List (List Bool))) := fun (x82, x6'') =>
   if x82 < (↑x6'.length : Int) then
    ask ((0 : Int) ≤ x77 ∧ x77 < (↑x6''.length : Int)) <|
    ask ((0 : Int) ≤ x77 ∧ x77 < (↑x6''.length : Int)) <|
    ask ((0 : Int) ≤ x82 ∧ x82 < (↑(nth x6'' x77.toNat).length : Int)) <|
    if (nth (nth x6'' x77.toNat) x82.toNat) = true then
     ask ((0 : Int) ≤ x82 ∧ x82 < (↑(nth x6'' x77.toNat).length : Int)) <|
     ask (InI (x82 + (1 : Int))) <|
     some (.inl (x82 + (1 : Int), x6''.set x77.toNat ((nth x6'' x77.toNat).set x82.toNat true)))
    else
     ask ((0 : Int) ≤ x77 ∧ x77 < (↑x6''.length : Int)) <|
     ask ((0 : Int) ≤ x72 ∧ x72 < (↑(nth x6'' x77.toNat).length : Int)) <|
     if (nth (nth x6'' x77.toNat) x72.toNat) = true then
      ask ((0 : Int) ≤ x72 ∧ x72 < (↑x6''.length : Int)) <|
      ask ((0 : Int) ≤ x82 ∧ x82 < (↑(nth x6'' x72.toNat).length : Int)) <|
      ask ((0 : Int) ≤ x82 ∧ x82 < (↑(nth x6'' x77.toNat).length : Int)) <|
      ask (InI (x82 + (1 : Int))) <|
      some (.inl (x82 + (1 : Int), x6''.set x77.toNat ((nth x6'' x77.toNat).set x82.toNat (nth (nth x6'' x72.toNat) x82.toNat))))
     else
      ask ((0 : Int) ≤ x82 ∧ x82 < (↑(nth x6'' x77.toNat).length : Int)) <|
      ask (InI (x82 + (1 : Int))) <|
      some (.inl (x82 + (1 : Int), x6''.set x77.toNat ((nth x6'' x77.toNat).set x82.toNat false)))
   else
    some (.inr x6'')
def S_impl_FromCovers_l3 (q20_6 : List (List Bool)) (x72 : Int) (x6 : List (List Bool)) (x77 : Int) (x6' : List (List Bool)) : (Int × (List (List Bool))) → St := fun s => [(82, A.val (vint s.1)), (81, A.val (vint ((↑x6'.length : Int)))), (11, A.val (vint (x77))), (77, A.val (vint (x77))), (76, A.val (vint ((↑x6.length : Int)))), (10, A.val (vint (x72))), (72, A.val (vint (x72))), (71, A.val (vint ((↑q20_6.length : Int)))), (6, A.val ((slr true 1 (slr true 1 V.bool)) s.2)), (4, A.val ((rP true (rS_Poset true)) ({ Below := nilL (List Int) })))]
def T_impl_FromCovers_l3 (q20_6 : List (List Bool)) (x72 : Int) (x6 : List (List Bool)) (x77 : Int) (_x6' : List (List Bool)) : (List (List Bool)) → Tgt
  | s => ((Ex.exit 8), [77, 76, 10, 72, 71, 6, 4], [(77, A.val (vint (x77))), (76, A.val (vint ((↑x6.length : Int)))), (10, A.val (vint (x72))), (72, A.val (vint (x72))), (71, A.val (vint ((↑q20_6.length : Int)))), (6, A.val ((slr true 1 (slr true 1 V.bool)) s)), (4, A.val ((rP true (rS_Poset true)) ({ Below := nilL (List Int) })))])
theorem b_impl_FromCovers_l3 {q20_6 : List (List Bool)} {x72 : Int} {x6 : List (List Bool)} {x77 : Int} {x6' : List (List Bool)} (s : (Int × (List (List Bool)))) (o : (Int × (List (List Bool))) ⊕ (List (List Bool))) (h : F_impl_FromCovers_l3 q20_6 x72 x6 x77 x6' s = some o) : vc Try.prog c_impl_FromCovers_l3 (outQ [82, 81, 11, 77, 76, 10, 72, 71, 6, 4] (S_impl_FromCovers_l3 q20_6 x72 x6 x77 x6') (T_impl_FromCovers_l3 q20_6 x72 x6 x77 x6') o) (S_impl_FromCovers_l3 q20_6 x72 x6 x77 x6' s) := by
  obtain ⟨x82, x6''⟩ := s
  unfold F_impl_FromCovers_l3 at h
  try dsimp only at h
  conv => whnf
  refine Br.od h (fun p23 h => ?_) (fun p23 h => ?_)
  · conv => whnf
    refine Len.map ?_
    conv => whnf
    refine Ask.o h fun p24 h => ?_
    conv => whnf
    refine Cells.one (fun _ => ⟨rfl, rfl⟩) (by first | omega | (simp only [mulN] at *; omega) | (simp [mulN] at *; omega)) ?_
    conv => whnf
    refine Len.map ?_
    conv => whnf
    refine Ask.o h fun p25 h => ?_
    conv => whnf
    refine Cells.one (fun _ => ⟨rfl, rfl⟩) (by first | omega | (simp only [mulN] at *; omega) | (simp [mulN] at *; omega)) ?_
    conv => whnf
    refine Kid.one (fun _ => ⟨rfl, rfl⟩) (by first | omega | (simp only [mulN] at *; omega) | (simp [mulN] at *; omega)) ?_
    conv => whnf
    refine Len.map ?_
    conv => whnf
    refine Ask.o h fun p26 h => ?_
    conv => whnf
    refine Kid.one (fun _ => ⟨rfl, rfl⟩) (by first | omega | (simp only [mulN] at *; omega) | (simp [mulN] at *; omega)) ?_
    conv => whnf
    refine Cells.one (fun _ => ⟨rfl, rfl⟩) (by first | omega | (simp only [mulN] at *; omega) | (simp [mulN] at *; omega)) ?_
    conv => whnf
    refine Br.ob h (fun p27 h => ?_) (fun p27 h => ?_)
    · conv => whnf
      refine Br.yes ?_
      conv => whnf
      refine Br.yes ?_
      conv => whnf
      refine Br.yes ?_
      conv => whnf
      refine Br.yes ?_
      conv => whnf
      refine Br.yes ?_
      conv => whnf
      refine Br.yes ?_
      conv => whnf
      refine Br.yes ?_
      conv => whnf
      refine Br.yes ?_
      conv => whnf
      refine Br.yes ?_
      conv => whnf
      refine Kid.one (fun _ => ⟨rfl, rfl⟩) (by first | omega | (simp only [mulN] at *; omega) | (simp [mulN] at *; omega)) ?_
      conv => whnf
      refine Len.map ?_
      conv => whnf
      refine Ask.o h fun p28 h => ?_
      conv => whnf
      refine Kid.one (fun _ => ⟨rfl, rfl⟩) (by first | omega | (simp only [mulN] at *; omega) | (simp [mulN] at *; omega)) ?_
      conv => whnf
      refine SetKids.one (fun _ => ⟨rfl, rfl⟩) (true) (by first | rfl | simp only [mulN_one, V.fz, fzL, V.up, upL, fzL_map, fz_slr, fz_at, slr, List.cons_append, List.nil_append] | simp [mulN_one, V.fz, fzL, V.up, upL, fzL_map, fz_slr, fz_at, slr]) (by first | omega | (simp only [mulN] at *; omega) | (simp [mulN] at *; omega)) ?_
      conv => whnf
      refine Kid.one (fun _ => ⟨rfl, rfl⟩) (by first | omega | (simp only [mulN] at *; omega) | (simp [mulN] at *; omega)) ?_
      conv => whnf
      refine SetKids.one (fun _ => ⟨rfl, rfl⟩) ((nth x6'' x77.toNat).set x82.toNat true) (by first | rfl | simp only [mulN_one, V.fz, fzL, V.up, upL, fzL_map, fz_slr, fz_at, slr, List.cons_append, List.nil_append] | simp [mulN_one, V.fz, fzL, V.up, upL, fzL_map, fz_slr, fz_at, slr]) (by first | omega | (simp only [mulN] at *; omega) | (simp [mulN] at *; omega)) ?_
      conv => whnf
      refine Ask.o h fun p29 h => ?_
      conv => whnf
      cases h; exact ⟨rfl, rfl⟩
    · conv => whnf
      refine Br.no ?_
      conv => whnf
      refine Br.no ?_
      conv => whnf
      refine Len.map ?_
      conv => whnf
      refine Ask.o h fun p30 h => ?_
      conv => whnf
      refine Br.no ?_
      conv => whnf
      refine Cells.one (fun _ => ⟨rfl, rfl⟩) (by first | omega | (simp only [mulN] at *; omega) | (simp [mulN] at *; omega)) ?_
      conv => whnf
      refine Br.no ?_
      conv => whnf
      refine Br.no ?_
      conv => whnf
      refine Kid.one (fun _ => ⟨rfl, rfl⟩) (by first | omega | (simp only [mulN] at *; omega) | (simp [mulN] at *; omega)) ?_
      conv => whnf
      refine Len.map ?_
      conv => whnf
      refine Ask.o h fun p31 h => ?_
      conv => whnf
      refine Br.no ?_
      conv => whnf
      refine Kid.one (fun _ => ⟨rfl, rfl⟩) (by first | omega | (simp only [mulN] at *; omega) | (simp [mulN] at *; omega)) ?_
      conv => whnf
      refine Cells.one (fun _ => ⟨rfl, rfl⟩) (by first | omega | (simp only [mulN] at *; omega) | (simp [mulN] at *; omega)) ?_
      conv => whnf
      refine Br.no ?_
      conv => whnf
      refine Br.ob h (fun p32 h => ?_) (fun p32 h => ?_)
      · conv => whnf
        refine Br.yes ?_
        conv => whnf
        refine Br.yes ?_
        conv => whnf
        refine Len.map ?_
        conv => whnf
        refine Ask.o h fun p33 h => ?_
        conv => whnf
        refine Br.yes ?_
        conv => whnf
        refine Cells.one (fun _ => ⟨rfl, rfl⟩) (by first | omega | (simp only [mulN] at *; omega) | (simp [mulN] at *; omega)) ?_
        conv => whnf
        refine Br.yes ?_
        conv => whnf
        refine Br.yes ?_
        conv => whnf
        refine Kid.one (fun _ => ⟨rfl, rfl⟩) (by first | omega | (simp only [mulN] at *; omega) | (simp [mulN] at *; omega)) ?_
        conv => whnf
        refine Len.map ?_
        conv => whnf
        refine Ask.o h fun p34 h => ?_
        conv => whnf
        refine Br.yes ?_
        conv => whnf
        refine Kid.one (fun _ => ⟨rfl, rfl⟩) (by first | omega | (simp only [mulN] at *; omega) | (simp [mulN] at *; omega)) ?_
        conv => whnf
        refine Cells.one (fun _ => ⟨rfl, rfl⟩) (by first | omega | (simp only [mulN] at *; omega) | (simp [mulN] at *; omega)) ?_
        conv => whnf
        refine Br.no ?_
        conv => whnf
        refine Br.yes ?_
        conv => whnf
        refine Br.no ?_
        conv => whnf
        refine Kid.one (fun _ => ⟨rfl, rfl⟩) (by first | omega | (simp only [mulN] at *; omega) | (simp [mulN] at *; omega)) ?_
        conv => whnf
        refine Len.map ?_
        conv => whnf
        refine Ask.o h fun p35 h => ?_
        conv => whnf
        refine Kid.one (fun _ => ⟨rfl, rfl⟩) (by first | omega | (simp only [mulN] at *; omega) | (simp [mulN] at *; omega)) ?_
        conv => whnf
        refine SetKids.one (fun _ => ⟨rfl, rfl⟩) (nth (nth x6'' x72.toNat) x82.toNat) (by first | rfl | simp only [mulN_one, V.fz, fzL, V.up, upL, fzL_map, fz_slr, fz_at, slr, List.cons_append, List.nil_append] | simp [mulN_one, V.fz, fzL, V.up, upL, fzL_map, fz_slr, fz_at, slr]) (by first | omega | (simp only [mulN] at *; omega) | (simp [mulN] at *; omega)) ?_
        conv => whnf
        refine Kid.one (fun _ => ⟨rfl, rfl⟩) (by first | omega | (simp only [mulN] at *; omega) | (simp [mulN] at *; omega)) ?_
        conv => whnf
        refine SetKids.one (fun _ => ⟨rfl, rfl⟩) ((nth x6'' x77.toNat).set x82.toNat (nth (nth x6'' x72.toNat) x82.toNat)) (by first | rfl | simp only [mulN_one, V.fz, fzL, V.up, upL, fzL_map, fz_slr, fz_at, slr, List.cons_append, List.nil_append] | simp [mulN_one, V.fz, fzL, V.up, upL, fzL_map, fz_slr, fz_at, slr]) (by first | omega | (simp only [mulN] at *; omega) | (simp [mulN] at *; omega)) ?_
        conv => whnf
        refine Ask.o h fun p36 h => ?_
        conv => whnf
        cases h; exact ⟨rfl, rfl⟩
      · conv => whnf
        refine Br.no ?_
        conv => whnf
        refine Br.no ?_
        conv => whnf
        refine Br.no ?_
        conv => whnf
        refine Br.no ?_
        conv => whnf
        refine Br.no ?_
        conv => whnf
        refine Br.no ?_
        conv => whnf
        refine Br.no ?_
        conv => whnf
        refine Br.no ?_
        conv => whnf
        refine Br.no ?_
        conv => whnf
        refine Kid.one (fun _ => ⟨rfl, rfl⟩) (by first | omega | (simp only [mulN] at *; omega) | (simp [mulN] at *; omega)) ?_
        conv => whnf
        refine Len.map ?_
        conv => whnf
        refine Ask.o h fun p37 h => ?_
        conv => whnf
        refine Kid.one (fun _ => ⟨rfl, rfl⟩) (by first | omega | (simp only [mulN] at *; omega) | (simp [mulN] at *; omega)) ?_
        conv => whnf
        refine SetKids.one (fun _ => ⟨rfl, rfl⟩) (false) (by first | rfl | simp only [mulN_one, V.fz, fzL, V.up, upL, fzL_map, fz_slr, fz_at, slr, List.cons_append, List.nil_append] | simp [mulN_one, V.fz, fzL, V.up, upL, fzL_map, fz_slr, fz_at, slr]) (by first | omega | (simp only [mulN] at *; omega) | (simp [mulN] at *; omega)) ?_
        conv => whnf
        refine Kid.one (fun _ => ⟨rfl, rfl⟩) (by first | omega | (simp only [mulN] at *; omega) | (simp [mulN] at *; omega)) ?_
        conv => whnf
        refine SetKids.one (fun _ => ⟨rfl, rfl⟩) ((nth x6'' x77.toNat).set x82.toNat false) (by first | rfl | simp only [mulN_one, V.fz, fzL, V.up, upL, fzL_map, fz_slr, fz_at, slr, List.cons_append, List.nil_append] | simp [mulN_one, V.fz, fzL, V.up, upL, fzL_map, fz_slr, fz_at, slr]) (by first | omega | (simp only [mulN] at *; omega) | (simp [mulN] at *; omega)) ?_
        conv => whnf
        refine Ask.o h fun p38 h => ?_
        conv => whnf
        cases h; exact ⟨rfl, rfl⟩
  · conv => whnf
    cases h; exact ⟨rfl, rfl⟩

noncomputable def F_impl_FromCovers_l4 (q20_6 : List (List Bool)) (x72 : Int) (x6 : List (List Bool)) : (Int × (List (List Bool))) → Option ((Int × (List (List Bool))) ⊕ (List (List Bool))) := fun (x77, x6') =>
   if x77 < (↑x6.length : Int) then
    (loopO (F_impl_FromCovers_l3 q20_6 x72 x6 x77 x6') ((0 : Int), x6')).bind fun q39_6 =>
    ask (InI (x77 + (1 : Int))) <|
    some (.inl (x77 + (1 : Int), q39_6))
   else
    some (.inr x6')
def S_impl_FromCovers_l4 (q20_6 : List (List Bool)) (x72 : Int) (x6 : List (List Bool)) : (Int × (List (List Bool))) → St := fun s => [(77, A.val (vint s.1)), (76, A.val (vint ((↑x6.length : Int)))), (10, A.val (vint (x72))), (72, A.val (vint (x72))), (71, A.val (vint ((↑q20_6.length : Int)))), (6, A.val ((slr true 1 (slr true 1 V.bool)) s.2)), (4, A.val ((rP true (rS_Poset true)) ({ Below := nilL (List Int) })))]
def T_impl_FromCovers_l4 (q20_6 : List (List Bool)) (x72 : Int) (_x6 : List (List Bool)) : (List (List Bool)) → Tgt
  | s => ((Ex.exit 6), [72, 71, 6, 4], [(72, A.val (vint (x72))), (71, A.val (vint ((↑q20_6.length : Int)))), (6, A.val ((slr true 1 (slr true 1 V.bool)) s)), (4, A.val ((rP true (rS_Poset true)) ({ Below := nilL (List Int) })))])
theorem b_impl_FromCovers_l4 {q20_6 : List (List Bool)} {x72 : Int} {x6 : List (List Bool)} (s : (Int × (List (List Bool)))) (o : (Int × (List (List Bool))) ⊕ (List (List Bool))) (h : F_impl_FromCovers_l4 q20_6 x72 x6 s = some o) : vc Try.prog c_impl_FromCovers_l4 (outQ [77, 76, 10, 72, 71, 6, 4] (S_impl_FromCovers_l4 q20_6 x72 x6) (T_impl_FromCovers_l4 q20_6 x72 x6) o) (S_impl_FromCovers_l4 q20_6 x72 x6 s) := by
  obtain ⟨x77, x6'⟩ := s
  unfold F_impl_FromCovers_l4 at h
  try dsimp only at h
  conv => whnf
  refine Br.od h (fun p22 h => ?_) (fun p22 h => ?_)
  · conv => whnf
    refine Len.map ?_
    conv => whnf
    refine LoopQ.o [82, 81, 11, 77, 76, 10, 72, 71, 6, 4] (S_impl_FromCovers_l3 q20_6 x72 x6 x77 x6') (T_impl_FromCovers_l3 q20_6 x72 x6 x77 x6') h (fun s o h => b_impl_FromCovers_l3 s o h) (by first | rfl | simp [restrict, look, mulN_one, V.fz, fzL, V.up, upL, fzL_map, fz_slr, fz_at, slr]) (fun _ => rfl) ?_
    rintro q39_6 h
    try dsimp only at h
    conv => whnf
    refine Ask.o h fun p40 h => ?_
    conv => whnf
    cases h; exact ⟨rfl, rfl⟩
  · conv => whnf
    cases h; exact ⟨rfl, rfl⟩

noncomputable def F_impl_FromCovers_l5 (q20_6 : List (List Bool)) : (Int × (List (List Bool))) → Option ((Int × (List (List Bool))) ⊕ (List (List Bool))) := fun (x72, x6) =>
   if x72 < (↑q20_6.length : Int) then
    (loopO (F_impl_FromCovers_l4 q20_6 x72 x6) ((0 : Int), x6)).bind fun q41_6 =>
    ask (InI (x72 + (1 : Int))) <|
    some (.inl (x72 + (1 : Int), q41_6))
   else
    some (.inr x6)
def S_impl_FromCovers_l5 (q20_6 : List (List Bool)) : (Int × (List (List Bool))) → St := fun s => [(72, A.val (vint s.1)), (71, A.val (vint ((↑q20_6.length : Int)))), (6, A.val ((slr true 1 (slr true 1 V.bool)) s.2)), (4, A.val ((rP true (rS_Poset true)) ({ Below := nilL (List Int) })))]
def T_impl_FromCovers_l5 (_q20_6 : List (List Bool)) : (List (List Bool)) → Tgt
  | s => ((Ex.exit 4), [6, 4], [(6, A.val ((slr true 1 (slr true 1 V.bool)) s)), (4, A.val ((rP true (rS_Poset true)) ({ Below := nilL (List Int) })))])
theorem b_impl_FromCovers_l5 {q20_6 : List (List Bool)} (s : (Int × (List (List Bool)))) (o : (Int × (List (List Bool))) ⊕ (List (List Bool))) (h : F_impl_FromCovers_l5 q20_6 s = some o) : vc Try.prog c_impl_FromCovers_l5 (outQ [72, 71, 6, 4] (S_impl_FromCovers_l5 q20_6) (T_impl_FromCovers_l5 q20_6) o) (S_impl_FromCovers_l5 q20_6 s) := by
  obtain ⟨x72, x6⟩ := s
  unfold F_impl_FromCovers_l5 at h
  try dsimp only at h
  conv => whnf
  refine Br.od h (fun p21 h => ?_) (fun p21 h => ?_)
  · conv => whnf
    refine Len.map ?_
    conv => whnf
    refine LoopQ.o [77, 76, 10, 72, 71, 6, 4] (S_impl_FromCovers_l4 q20_6 x72 x6) (T_impl_FromCovers_l4 q20_6 x72 x6) h (fun s o h => b_impl_FromCovers_l4 s o h) (by first | rfl | simp [restrict, look, mulN_one, V.fz, fzL, V.up, upL, fzL_map, fz_slr, fz_at, slr]) (fun _ => rfl) ?_
    rintro q41_6 h
    try dsimp only at h
    conv => whnf
    refine Ask.o h fun p42 h => ?_
    conv => whnf
    cases h; exact ⟨rfl, rfl⟩
  · conv => whnf
    cases h; exact ⟨rfl, rfl⟩

noncomputable def F_impl_FromCovers (n0 : Int) (pairs0 : (List (Int × Int))) : Option (SPoset × Bool) :=
  ((if n0 < (0 : Int) then
      some (.inl ())
     else
      if n0 > (10 : Int) then
       some (.inl ())
      else
       if (↑pairs0.length : Int) > (60 : Int) then
        some (.inl ())
       else
        some (.inr ()) : Option (Unit ⊕ Unit))).bind fun t => match t with
  | (.inl _) => (some ({ Below := nilL (List Int) }, false))
  | (.inr _) => ((F_impl_newOrder (n0)).bind fun r5 =>
    (loopO (F_impl_FromCovers_l1 pairs0 r5) ((0 : Int), r5)).bind fun q10_6 =>
    (loopO (F_impl_FromCovers_l2 pairs0) ((0 : Int), q10_6)).bind fun t => match t with
    | (.inl _) => (some ({ Below := nilL (List Int) }, false))
    | (.inr q20_6) => ((loopO (F_impl_FromCovers_l5 q20_6) ((0 : Int), q20_6)).bind fun q43_6 =>
      (F_impl_order_isOrder (q43_6)).bind fun r44 =>
      if (r44) = true then
       (F_impl_order_poset (q43_6)).bind fun r46 =>
       some (r46, true)
      else
       some ({ Below := nilL (List Int) }, false)))
theorem t_impl_FromCovers {n0 : Int} {pairs0 : (List (Int × Int))} {v : (SPoset × Bool)} (h : F_impl_FromCovers n0 pairs0 = some v) : Ret Try.prog f_impl_FromCovers [vint n0, (slr false 2 (rA2 vint)) pairs0] ((fun r => V.tup [(rS_Poset true) r.1, V.bool r.2]) v) := by
  refine ret_vc k_impl_FromCovers (Nat.le_of_ble_eq_true rfl) ?_
  unfold F_impl_FromCovers at h
  conv => whnf
  refine CutQ.o (fun t : (Unit ⊕ Unit) => match t with | (.inl s) => (Ex.ret, [5, 4], [(5, A.val (V.bool (false))), (4, A.val ((rP true (rS_Poset true)) ({ Below := nilL (List Int) })))]) | (.inr s) => (Ex.normal, [4, 0, 1], [(4, A.val ((rP true (rS_Poset true)) ({ Below := nilL (List Int) }))), (0, A.val (vint (n0))), (1, A.val ((slr false 2 (rA2 vint)) (pairs0)))])) h ?_ ?_
  · intro t h
    conv => whnf
    refine Br.od h (fun p1 h => ?_) (fun p1 h => ?_)
    · conv => whnf
      refine Br.yes ?_
      conv => whnf
      refine Br.yes ?_
      conv => whnf
      refine Br.yes ?_
      conv => whnf
      refine Br.yes ?_
      conv => whnf
      refine Br.yes ?_
      conv => whnf
      refine Br.yes ?_
      conv => whnf
      refine Br.yes ?_
      conv => whnf
      refine SetKids.lit rfl ?_
      conv => whnf
      cases h; exact ⟨rfl, rfl⟩
    · conv => whnf
      refine Br.no ?_
      conv => whnf
      refine Br.no ?_
      conv => whnf
      refine Br.od h (fun p2 h => ?_) (fun p2 h => ?_)
      · conv => whnf
        refine Br.yes ?_
        conv => whnf
        refine Br.yes ?_
        conv => whnf
        refine Br.yes ?_
        conv => whnf
        refine Br.yes ?_
        conv => whnf
        refine SetKids.lit rfl ?_
        conv => whnf
        cases h; exact ⟨rfl, rfl⟩
      · conv => whnf
        refine Br.no ?_
        conv => whnf
        refine Len.map ?_
        conv => whnf
        refine Br.no ?_
        conv => whnf
        refine Br.no ?_
        conv => whnf
        refine Br.od h (fun p3 h => ?_) (fun p3 h => ?_)
        · conv => whnf
          refine SetKids.lit rfl ?_
          conv => whnf
          cases h; exact ⟨rfl, rfl⟩
        · conv => whnf
          cases h; exact ⟨rfl, rfl⟩
  · rintro (⟨⟩ | ⟨⟩) h
    · try dsimp only at h
      conv => whnf
      cases h; exact (by first | rfl | simp [resV, mulN_one, V.fz, fzL, V.up, upL, fzL_map, fz_slr, fz_at, slr])
    · try dsimp only at h
      conv => whnf
      refine CallQ.o (slr true 1 (slr true 1 V.bool)) (by first | rfl | simp only [mulN_one, V.fz, fzL, V.up, upL, fzL_map, fz_slr, fz_at, slr, List.cons_append, List.nil_append] | simp [mulN_one, V.fz, fzL, V.up, upL, fzL_map, fz_slr, fz_at, slr]) h (fun r h => t_impl_newOrder h) (fun r5 h => ?_)
      conv => whnf
      refine Len.map ?_
      conv => whnf
      refine LoopQ.o [29, 28, 6, 4, 1] (S_impl_FromCovers_l1 pairs0 r5) (T_impl_FromCovers_l1 pairs0 r5) h (fun s o h => b_impl_FromCovers_l1 s o h) (by first | rfl | simp [restrict, look, mulN_one, V.fz, fzL, V.up, upL, fzL_map, fz_slr, fz_at, slr]) (fun _ => rfl) ?_
      rintro q10_6 h
      try dsimp only at h
      conv => whnf
      refine Len.map ?_
      conv => whnf
      refine LoopQ.o [41, 40, 39, 6, 4] (S_impl_FromCovers_l2 pairs0) (T_impl_FromCovers_l2 pairs0) h (fun s o h => b_impl_FromCovers_l2 s o h) (by first | rfl | simp [restrict, look, mulN_one, V.fz, fzL, V.up, upL, fzL_map, fz_slr, fz_at, slr]) (by rintro (_ | _) <;> rfl) ?_
      rintro (⟨⟩ | q20_6) h
      · try dsimp only at h
        conv => whnf
        cases h; exact (by first | rfl | simp [resV, mulN_one, V.fz, fzL, V.up, upL, fzL_map, fz_slr, fz_at, slr])
      · try dsimp only at h
        conv => whnf
        refine Len.map ?_
        conv => whnf
        refine LoopQ.o [72, 71, 6, 4] (S_impl_FromCovers_l5 q20_6) (T_impl_FromCovers_l5 q20_6) h (fun s o h => b_impl_FromCovers_l5 s o h) (by first | rfl | simp [restrict, look, mulN_one, V.fz, fzL, V.up, upL, fzL_map, fz_slr, fz_at, slr]) (fun _ => rfl) ?_
        rintro q43_6 h
        try dsimp only at h
        conv => whnf
        refine CallQ.rd V.bool (by first | rfl | simp only [V.fz, fzL_map, slr] | simp [mulN_one, V.fz, fzL, V.up, upL, fzL_map, fz_slr, fz_at, slr]) (fun _ => rfl) h (fun r h => t_impl_order_isOrder h) (fun r44 h => ?_)
        conv => whnf
        refine Br.flip ?_
        conv => whnf
        refine Br.ob h (fun p45 h => ?_) (fun p45 h => ?_)
        · conv => whnf
          refine CallQ.rd (rS_Poset true) (by first | rfl | simp only [V.fz, fzL_map, slr] | simp [mulN_one, V.fz, fzL, V.up, upL, fzL_map, fz_slr, fz_at, slr]) (fun _ => by simp [V.noFz, noFzL, noFzL_map]) h (fun r h => t_impl_order_poset h) (fun r46 h => ?_)
          conv => whnf
          refine SetKids.lit rfl ?_
          conv => whnf
          cases h; exact (by first | rfl | simp [resV, mulN_one, V.fz, fzL, V.up, upL, fzL_map, fz_slr, fz_at, slr])
        · conv => whnf
          refine SetKids.lit rfl ?_
          conv => whnf
          cases h; exact (by first | rfl | simp [resV, mulN_one, V.fz, fzL, V.up, upL, fzL_map, fz_slr, fz_at, slr])

end Go.Proofs.Ythcnmahjhahafaa.Ax
