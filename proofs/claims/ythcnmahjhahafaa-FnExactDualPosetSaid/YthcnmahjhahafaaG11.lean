/-
  What the functions compute, as functions on plain data, and that the program does compute it; written by program.
-/
import Derived.Test.YthcnmahjhahafaaCode
import Derived.Test.YthcnmahjhahafaaG2
import Derived.Test.YthcnmahjhahafaaG3
import Derived.Test.YthcnmahjhahafaaG5
import Derived.Test.YthcnmahjhahafaaG9
import Derived.Test.YthcnmahjhahafaaG10
namespace Go.Proofs.Ythcnmahjhahafaa.Ax
open Go
set_option maxRecDepth 100000
set_option maxHeartbeats 4000000

noncomputable def F_spec_HeightsOf_l1 (p0 : SPoset) : (Int × (List Int)) → Option ((Int × (List Int)) ⊕ (List Int)) := fun (x5, x4) =>
   if x5 < (↑p0.Below.length : Int) then
    (limO fun n => F_spec_l23Height n (p0) (x5)).bind fun r4 =>
    ask ((x4).length + ([r4]).length ≤ LIM) <|
    ask (InI (x5 + (1 : Int))) <|
    some (.inl (x5 + (1 : Int), x4 ++ [r4]))
   else
    some (.inr x4)
def S_spec_HeightsOf_l1 (p0 : SPoset) : (Int × (List Int)) → St := fun s => [(5, A.val (vint s.1)), (4, A.val ((slr true 1 vint) s.2)), (1, A.val ((rP true (rS_Poset false)) (p0)))]
def T_spec_HeightsOf_l1 (_p0 : SPoset) : (List Int) → Tgt
  | s => ((Ex.exit 0), [4], [(4, A.val ((slr true 1 vint) s))])
theorem b_spec_HeightsOf_l1 {p0 : SPoset} (s : (Int × (List Int))) (o : (Int × (List Int)) ⊕ (List Int)) (h : F_spec_HeightsOf_l1 p0 s = some o) : vc Try.prog c_spec_HeightsOf_l1 (outQ [5, 4, 1] (S_spec_HeightsOf_l1 p0) (T_spec_HeightsOf_l1 p0) o) (S_spec_HeightsOf_l1 p0 s) := by
  obtain ⟨x5, x4⟩ := s
  unfold F_spec_HeightsOf_l1 at h
  try dsimp only at h
  conv => whnf
  refine Cells.lit rfl rfl ?_
  conv => whnf
  refine Len.map ?_
  conv => whnf
  refine Br.od h (fun p3 h => ?_) (fun p3 h => ?_)
  · conv => whnf
    refine Cells.lit rfl rfl ?_
    conv => whnf
    refine CallQ.o vint (by first | rfl | simp only [mulN_one, V.fz, fzL, V.up, upL, fzL_map, fz_slr, fz_at, slr, List.cons_append, List.nil_append] | simp [mulN_one, V.fz, fzL, V.up, upL, fzL_map, fz_slr, fz_at, slr]) h (fun r h => t_spec_l23Height h) (fun r4 h => ?_)
    conv => whnf
    refine BslQ.o vint [r4] (fun _ => ⟨rfl, rfl⟩) (by first | rfl | simp only [mulN_one, V.fz, fzL, V.up, upL, fzL_map, fz_slr, fz_at, slr, List.cons_append, List.nil_append] | simp [mulN_one, V.fz, fzL, V.up, upL, fzL_map, fz_slr, fz_at, slr]) ?_
    conv => whnf
    refine NoOwn.o (fun _ => rfl) ?_
    conv => whnf
    refine AppQ.o vint (fun _ => ⟨rfl, rfl⟩) (x4) ([r4]) (by first | rfl | simp only [mulN_one, V.fz, fzL, V.up, upL, fzL_map, fz_slr, fz_at, slr, List.cons_append, List.nil_append] | simp [mulN_one, V.fz, fzL, V.up, upL, fzL_map, fz_slr, fz_at, slr]) (by first | rfl | simp only [mulN_one, V.fz, fzL, V.up, upL, fzL_map, fz_slr, fz_at, slr, List.cons_append, List.nil_append] | simp [mulN_one, V.fz, fzL, V.up, upL, fzL_map, fz_slr, fz_at, slr]) h fun h => ?_
    conv => whnf
    refine Ask.o h fun p5 h => ?_
    conv => whnf
    cases h; exact ⟨rfl, rfl⟩
  · conv => whnf
    cases h; exact ⟨rfl, rfl⟩

noncomputable def F_spec_HeightsOf (p0 : SPoset) : Option ((List Int) × Bool) :=
  (F_spec_l23Good (p0)).bind fun r1 =>
  if (r1) = true then
   (loopO (F_spec_HeightsOf_l1 p0) ((0 : Int), nilL Int)).bind fun q6_4 =>
   some (q6_4, true)
  else
   some (nilL Int, false)
theorem t_spec_HeightsOf {p0 : SPoset} {v : ((List Int) × Bool)} (h : F_spec_HeightsOf p0 = some v) : Ret Try.prog f_spec_HeightsOf [(rS_Poset false) p0] ((fun r => V.tup [(slr true 1 vint) r.1, V.bool r.2]) v) := by
  refine ret_vc k_spec_HeightsOf (Nat.le_of_ble_eq_true rfl) ?_
  unfold F_spec_HeightsOf at h
  conv => whnf
  refine BslQ.o vint (nilL Int) (fun _ => ⟨rfl, rfl⟩) (by first | rfl | simp only [mulN_one, V.fz, fzL, V.up, upL, fzL_map, fz_slr, fz_at, slr, List.cons_append, List.nil_append] | simp [mulN_one, V.fz, fzL, V.up, upL, fzL_map, fz_slr, fz_at, slr]) ?_
  conv => whnf
  refine Cells.lit rfl rfl ?_
  conv => whnf
  refine CallQ.o V.bool (by first | rfl | simp only [mulN_one, V.fz, fzL, V.up, upL, fzL_map, fz_slr, fz_at, slr, List.cons_append, List.nil_append] | simp [mulN_one, V.fz, fzL, V.up, upL, fzL_map, fz_slr, fz_at, slr]) h (fun r h => t_spec_l23Good h) (fun r1 h => ?_)
  conv => whnf
  refine Br.flip ?_
  conv => whnf
  refine Br.ob h (fun p2 h => ?_) (fun p2 h => ?_)
  · conv => whnf
    refine LoopQ.o [5, 4, 1] (S_spec_HeightsOf_l1 p0) (T_spec_HeightsOf_l1 p0) h (fun s o h => b_spec_HeightsOf_l1 s o h) (by first | rfl | simp [restrict, look, mulN_one, V.fz, fzL, V.up, upL, fzL_map, fz_slr, fz_at, slr]) (fun _ => rfl) ?_
    rintro q6_4 h
    try dsimp only at h
    conv => whnf
    cases h; exact (by first | rfl | simp [resV, mulN_one, V.fz, fzL, V.up, upL, fzL_map, fz_slr, fz_at, slr])
  · conv => whnf
    cases h; exact (by first | rfl | simp [resV, mulN_one, V.fz, fzL, V.up, upL, fzL_map, fz_slr, fz_at, slr])

noncomputable def F_spec_DownsetOf (p0 : SPoset) (some0 : (List Int)) : Option ((List Int) × Bool) :=
  (F_spec_l23Good (p0)).bind fun r1 =>
  if (r1) = true then
   if (↑some0.length : Int) > (20 : Int) then
    some (nilL Int, false)
   else
    (F_spec_l2Elements ((↑p0.Below.length : Int)) (some0)).bind fun r4 =>
    if (r4) = true then
     (F_spec_l23Down (p0) (some0)).bind fun r6 =>
     some (r6, true)
    else
     some (nilL Int, false)
  else
   some (nilL Int, false)
theorem t_spec_DownsetOf {p0 : SPoset} {some0 : (List Int)} {v : ((List Int) × Bool)} (h : F_spec_DownsetOf p0 some0 = some v) : Ret Try.prog f_spec_DownsetOf [(rS_Poset false) p0, (slr false 1 vint) some0] ((fun r => V.tup [(slr true 1 vint) r.1, V.bool r.2]) v) := by
  refine ret_vc k_spec_DownsetOf (Nat.le_of_ble_eq_true rfl) ?_
  unfold F_spec_DownsetOf at h
  conv => whnf
  refine Cells.lit rfl rfl ?_
  conv => whnf
  refine CallQ.o V.bool (by first | rfl | simp only [mulN_one, V.fz, fzL, V.up, upL, fzL_map, fz_slr, fz_at, slr, List.cons_append, List.nil_append] | simp [mulN_one, V.fz, fzL, V.up, upL, fzL_map, fz_slr, fz_at, slr]) h (fun r h => t_spec_l23Good h) (fun r1 h => ?_)
  conv => whnf
  refine Br.flip ?_
  conv => whnf
  refine Br.ob h (fun p2 h => ?_) (fun p2 h => ?_)
  · conv => whnf
    refine Br.no ?_
    conv => whnf
    refine Len.map ?_
    conv => whnf
    refine Br.no ?_
    conv => whnf
    refine Br.no ?_
    conv => whnf
    refine Br.od h (fun p3 h => ?_) (fun p3 h => ?_)
    · conv => whnf
      refine Br.yes ?_
      conv => whnf
      refine Br.yes ?_
      conv => whnf
      refine Br.yes ?_
      conv => whnf
      refine Br.yes ?_
      conv => whnf
      refine Br.yes ?_
      conv => whnf
      refine Br.yes ?_
      conv => whnf
      refine Br.yes ?_
      conv => whnf
      refine BslQ.o vint (nilL Int) (fun _ => ⟨rfl, rfl⟩) (by first | rfl | simp only [mulN_one, V.fz, fzL, V.up, upL, fzL_map, fz_slr, fz_at, slr, List.cons_append, List.nil_append] | simp [mulN_one, V.fz, fzL, V.up, upL, fzL_map, fz_slr, fz_at, slr]) ?_
      conv => whnf
      cases h; exact (by first | rfl | simp [resV, mulN_one, V.fz, fzL, V.up, upL, fzL_map, fz_slr, fz_at, slr])
    · conv => whnf
      refine Br.no ?_
      conv => whnf
      refine Cells.lit rfl rfl ?_
      conv => whnf
      refine Br.no ?_
      conv => whnf
      refine Len.map ?_
      conv => whnf
      refine Br.no ?_
      conv => whnf
      refine Br.no ?_
      conv => whnf
      refine CallQ.o V.bool (by first | rfl | simp only [mulN_one, V.fz, fzL, V.up, upL, fzL_map, fz_slr, fz_at, slr, List.cons_append, List.nil_append] | simp [mulN_one, V.fz, fzL, V.up, upL, fzL_map, fz_slr, fz_at, slr]) h (fun r h => t_spec_l2Elements h) (fun r4 h => ?_)
      conv => whnf
      refine Br.no ?_
      conv => whnf
      refine Br.no ?_
      conv => whnf
      refine Br.flip ?_
      conv => whnf
      refine Br.ob h (fun p5 h => ?_) (fun p5 h => ?_)
      · conv => whnf
        refine Cells.lit rfl rfl ?_
        conv => whnf
        refine CallQ.o (slr true 1 vint) (by first | rfl | simp only [mulN_one, V.fz, fzL, V.up, upL, fzL_map, fz_slr, fz_at, slr, List.cons_append, List.nil_append] | simp [mulN_one, V.fz, fzL, V.up, upL, fzL_map, fz_slr, fz_at, slr]) h (fun r h => t_spec_l23Down h) (fun r6 h => ?_)
        conv => whnf
        cases h; exact (by first | rfl | simp [resV, mulN_one, V.fz, fzL, V.up, upL, fzL_map, fz_slr, fz_at, slr])
      · conv => whnf
        refine BslQ.o vint (nilL Int) (fun _ => ⟨rfl, rfl⟩) (by first | rfl | simp only [mulN_one, V.fz, fzL, V.up, upL, fzL_map, fz_slr, fz_at, slr, List.cons_append, List.nil_append] | simp [mulN_one, V.fz, fzL, V.up, upL, fzL_map, fz_slr, fz_at, slr]) ?_
        conv => whnf
        cases h; exact (by first | rfl | simp [resV, mulN_one, V.fz, fzL, V.up, upL, fzL_map, fz_slr, fz_at, slr])
  · conv => whnf
    refine Br.yes ?_
    conv => whnf
    refine Br.yes ?_
    conv => whnf
    refine Br.yes ?_
    conv => whnf
    refine Br.yes ?_
    conv => whnf
    refine Br.yes ?_
    conv => whnf
    refine Br.yes ?_
    conv => whnf
    refine Br.yes ?_
    conv => whnf
    refine Br.yes ?_
    conv => whnf
    refine Br.yes ?_
    conv => whnf
    refine Br.yes ?_
    conv => whnf
    refine Br.yes ?_
    conv => whnf
    refine BslQ.o vint (nilL Int) (fun _ => ⟨rfl, rfl⟩) (by first | rfl | simp only [mulN_one, V.fz, fzL, V.up, upL, fzL_map, fz_slr, fz_at, slr, List.cons_append, List.nil_append] | simp [mulN_one, V.fz, fzL, V.up, upL, fzL_map, fz_slr, fz_at, slr]) ?_
    conv => whnf
    cases h; exact (by first | rfl | simp [resV, mulN_one, V.fz, fzL, V.up, upL, fzL_map, fz_slr, fz_at, slr])

noncomputable def F_spec_DualPoset (p0 : SPoset) : Option (SPoset × Bool) :=
  (F_spec_l23Good (p0)).bind fun r1 =>
  if (r1) = true then
   (F_spec_l23Dual (p0)).bind fun r3 =>
   some (r3, true)
  else
   some ({ Below := nilL (List Int) }, false)
theorem t_spec_DualPoset {p0 : SPoset} {v : (SPoset × Bool)} (h : F_spec_DualPoset p0 = some v) : Ret Try.prog f_spec_DualPoset [(rS_Poset false) p0] ((fun r => V.tup [(rS_Poset true) r.1, V.bool r.2]) v) := by
  refine ret_vc k_spec_DualPoset (Nat.le_of_ble_eq_true rfl) ?_
  unfold F_spec_DualPoset at h
  conv => whnf
  refine Cells.lit rfl rfl ?_
  conv => whnf
  refine CallQ.o V.bool (by first | rfl | simp only [mulN_one, V.fz, fzL, V.up, upL, fzL_map, fz_slr, fz_at, slr, List.cons_append, List.nil_append] | simp [mulN_one, V.fz, fzL, V.up, upL, fzL_map, fz_slr, fz_at, slr]) h (fun r h => t_spec_l23Good h) (fun r1 h => ?_)
  conv => whnf
  refine Br.flip ?_
  conv => whnf
  refine Br.ob h (fun p2 h => ?_) (fun p2 h => ?_)
  · conv => whnf
    refine Cells.lit rfl rfl ?_
    conv => whnf
    refine CallQ.o (rS_Poset true) (by first | rfl | simp only [mulN_one, V.fz, fzL, V.up, upL, fzL_map, fz_slr, fz_at, slr, List.cons_append, List.nil_append] | simp [mulN_one, V.fz, fzL, V.up, upL, fzL_map, fz_slr, fz_at, slr]) h (fun r h => t_spec_l23Dual h) (fun r3 h => ?_)
    conv => whnf
    refine SetKids.lit rfl ?_
    conv => whnf
    cases h; exact (by first | rfl | simp [resV, mulN_one, V.fz, fzL, V.up, upL, fzL_map, fz_slr, fz_at, slr])
  · conv => whnf
    refine SetKids.lit rfl ?_
    conv => whnf
    cases h; exact (by first | rfl | simp [resV, mulN_one, V.fz, fzL, V.up, upL, fzL_map, fz_slr, fz_at, slr])

noncomputable def F_spec_FromCovers_l1 (n0 : Int) (pairs0 : List (Int × Int)) : Int → Option (Int ⊕ (Unit ⊕ Unit)) := fun x6 =>
   if x6 < (↑pairs0.length : Int) then
    ask ((0 : Int) ≤ x6 ∧ x6 < (↑pairs0.length : Int)) <|
    ask (InI (n0 - (1 : Int))) <|
    (F_spec_l1In ((nth pairs0 x6.toNat).fst) ((0 : Int)) (n0 - (1 : Int))).bind fun r8 =>
    if (r8) = true then
     ask ((0 : Int) ≤ x6 ∧ x6 < (↑pairs0.length : Int)) <|
     ask (InI (n0 - (1 : Int))) <|
     (F_spec_l1In ((nth pairs0 x6.toNat).snd) ((0 : Int)) (n0 - (1 : Int))).bind fun r12 =>
     if (r12) = true then
      ask ((0 : Int) ≤ x6 ∧ x6 < (↑pairs0.length : Int)) <|
      ask ((0 : Int) ≤ x6 ∧ x6 < (↑pairs0.length : Int)) <|
      if (nth pairs0 x6.toNat).fst = (nth pairs0 x6.toNat).snd then
       some (.inr (.inl ()))
      else
       ask (InI (x6 + (1 : Int))) <|
       some (.inl (x6 + (1 : Int)))
     else
      some (.inr (.inl ()))
    else
     some (.inr (.inl ()))
   else
    some (.inr (.inr ()))
def S_spec_FromCovers_l1 (n0 : Int) (pairs0 : List (Int × Int)) : Int → St := fun s => [(6, A.val (vint s)), (4, A.val ((rP true (rS_Poset true)) ({ Below := nilL (List Int) }))), (0, A.val (vint (n0))), (1, A.val ((slr false 2 (rA2 vint)) (pairs0)))]
def T_spec_FromCovers_l1 (n0 : Int) (pairs0 : List (Int × Int)) : (Unit ⊕ Unit) → Tgt
  | (.inl _s) => (Ex.ret, [5, 4], [(5, A.val (V.bool (false))), (4, A.val ((rP true (rS_Poset true)) ({ Below := nilL (List Int) })))])
  | (.inr _s) => ((Ex.exit 0), [4, 0, 1], [(4, A.val ((rP true (rS_Poset true)) ({ Below := nilL (List Int) }))), (0, A.val (vint (n0))), (1, A.val ((slr false 2 (rA2 vint)) (pairs0)))])
theorem b_spec_FromCovers_l1 {n0 : Int} {pairs0 : List (Int × Int)} (x6 : Int) (o : Int ⊕ (Unit ⊕ Unit)) (h : F_spec_FromCovers_l1 n0 pairs0 x6 = some o) : vc Try.prog c_spec_FromCovers_l1 (outQ [6, 4, 0, 1] (S_spec_FromCovers_l1 n0 pairs0) (T_spec_FromCovers_l1 n0 pairs0) o) (S_spec_FromCovers_l1 n0 pairs0 x6) := by
  unfold F_spec_FromCovers_l1 at h
  try dsimp only at h
  conv => whnf
  refine Len.map ?_
  conv => whnf
  refine Br.od h (fun p5 h => ?_) (fun p5 h => ?_)
  · conv => whnf
    refine Len.map ?_
    conv => whnf
    refine Ask.o h fun p6 h => ?_
    conv => whnf
    refine Elem.o (by first | omega | (simp only [mulN] at *; omega) | (simp [mulN] at *; omega)) ?_
    conv => whnf
    refine Ask.mk (by decide) ?_
    conv => whnf
    refine Idx.lit ?_
    conv => whnf
    refine Ask.o h fun p7 h => ?_
    conv => whnf
    refine CallP.o V.bool (by first | rfl | simp only [mulN_one, V.fz, fzL, V.up, upL, fzL_map, fz_slr, fz_at, slr, List.cons_append, List.nil_append] | simp [mulN_one, V.fz, fzL, V.up, upL, fzL_map, fz_slr, fz_at, slr]) h (fun r h => t_spec_l1In h) (fun r8 h => ?_)
    conv => whnf
    refine Br.flip ?_
    conv => whnf
    refine Br.ob h (fun p9 h => ?_) (fun p9 h => ?_)
    · conv => whnf
      refine Br.no ?_
      conv => whnf
      refine Br.no ?_
      conv => whnf
      refine Len.map ?_
      conv => whnf
      refine Ask.o h fun p10 h => ?_
      conv => whnf
      refine Elem.o (by first | omega | (simp only [mulN] at *; omega) | (simp [mulN] at *; omega)) ?_
      conv => whnf
      refine Br.no ?_
      conv => whnf
      refine Ask.mk (by decide) ?_
      conv => whnf
      refine Idx.lit ?_
      conv => whnf
      refine Br.no ?_
      conv => whnf
      refine Br.no ?_
      conv => whnf
      refine Br.no ?_
      conv => whnf
      refine Ask.o h fun p11 h => ?_
      conv => whnf
      refine Br.no ?_
      conv => whnf
      refine CallP.o V.bool (by first | rfl | simp only [mulN_one, V.fz, fzL, V.up, upL, fzL_map, fz_slr, fz_at, slr, List.cons_append, List.nil_append] | simp [mulN_one, V.fz, fzL, V.up, upL, fzL_map, fz_slr, fz_at, slr]) h (fun r h => t_spec_l1In h) (fun r12 h => ?_)
      conv => whnf
      refine Br.no ?_
      conv => whnf
      refine Br.no ?_
      conv => whnf
      refine Br.flip ?_
      conv => whnf
      refine Br.ob h (fun p13 h => ?_) (fun p13 h => ?_)
      · conv => whnf
        refine Br.no ?_
        conv => whnf
        refine Br.no ?_
        conv => whnf
        refine Len.map ?_
        conv => whnf
        refine Ask.o h fun p14 h => ?_
        conv => whnf
        refine Elem.o (by first | omega | (simp only [mulN] at *; omega) | (simp [mulN] at *; omega)) ?_
        conv => whnf
        refine Br.no ?_
        conv => whnf
        refine Ask.mk (by decide) ?_
        conv => whnf
        refine Idx.lit ?_
        conv => whnf
        refine Br.no ?_
        conv => whnf
        refine Br.no ?_
        conv => whnf
        refine Br.no ?_
        conv => whnf
        refine Br.no ?_
        conv => whnf
        refine Len.map ?_
        conv => whnf
        refine Ask.o h fun p15 h => ?_
        conv => whnf
        refine Elem.o (by first | omega | (simp only [mulN] at *; omega) | (simp [mulN] at *; omega)) ?_
        conv => whnf
        refine Br.no ?_
        conv => whnf
        refine Ask.mk (by decide) ?_
        conv => whnf
        refine Idx.lit ?_
        conv => whnf
        refine Br.no ?_
        conv => whnf
        refine Br.no ?_
        conv => whnf
        refine Br.no ?_
        conv => whnf
        refine Br.oe h (fun p16 h => ?_) (fun p16 h => ?_)
        · conv => whnf
          refine SetKids.lit rfl ?_
          conv => whnf
          cases h; exact ⟨rfl, rfl⟩
        · conv => whnf
          refine Ask.o h fun p17 h => ?_
          conv => whnf
          cases h; exact ⟨rfl, rfl⟩
      · conv => whnf
        refine Br.yes ?_
        conv => whnf
        refine Br.yes ?_
        conv => whnf
        refine Br.yes ?_
        conv => whnf
        refine Br.yes ?_
        conv => whnf
        refine Br.yes ?_
        conv => whnf
        refine Br.yes ?_
        conv => whnf
        refine Br.yes ?_
        conv => whnf
        refine Br.yes ?_
        conv => whnf
        refine Br.yes ?_
        conv => whnf
        refine Br.yes ?_
        conv => whnf
        refine Br.yes ?_
        conv => whnf
        refine Br.yes ?_
        conv => whnf
        refine SetKids.lit rfl ?_
        conv => whnf
        cases h; exact ⟨rfl, rfl⟩
    · conv => whnf
      refine Br.yes ?_
      conv => whnf
      refine Br.yes ?_
      conv => whnf
      refine Br.yes ?_
      conv => whnf
      refine Br.yes ?_
      conv => whnf
      refine Br.yes ?_
      conv => whnf
      refine Br.yes ?_
      conv => whnf
      refine Br.yes ?_
      conv => whnf
      refine Br.yes ?_
      conv => whnf
      refine Br.yes ?_
      conv => whnf
      refine Br.yes ?_
      conv => whnf
      refine Br.yes ?_
      conv => whnf
      refine Br.yes ?_
      conv => whnf
      refine Br.yes ?_
      conv => whnf
      refine Br.yes ?_
      conv => whnf
      refine Br.yes ?_
      conv => whnf
      refine Br.yes ?_
      conv => whnf
      refine Br.yes ?_
      conv => whnf
      refine Br.yes ?_
      conv => whnf
      refine Br.yes ?_
      conv => whnf
      refine Br.yes ?_
      conv => whnf
      refine Br.yes ?_
      conv => whnf
      refine Br.yes ?_
      conv => whnf
      refine SetKids.lit rfl ?_
      conv => whnf
      cases h; exact ⟨rfl, rfl⟩
  · conv => whnf
    cases h; exact ⟨rfl, rfl⟩

noncomputable def F_spec_FromCovers (n0 : Int) (pairs0 : (List (Int × Int))) : Option (SPoset × Bool) :=
  (((F_spec_l1In (n0) ((0 : Int)) ((10 : Int))).bind fun r1 =>
     if (r1) = true then
      if (↑pairs0.length : Int) > (60 : Int) then
       some (.inl ())
      else
       some (.inr ())
     else
      some (.inl ()) : Option (Unit ⊕ Unit))).bind fun t => match t with
  | (.inl _) => (some ({ Below := nilL (List Int) }, false))
  | (.inr _) => ((loopO (F_spec_FromCovers_l1 n0 pairs0) (0 : Int)).bind fun t => match t with
    | (.inl _) => (some ({ Below := nilL (List Int) }, false))
    | (.inr _) => ((F_spec_l23From (n0) (pairs0)).bind fun r19 =>
      (F_spec_l23Good (r19)).bind fun r20 =>
      if (r20) = true then
       some (r19, true)
      else
       some ({ Below := nilL (List Int) }, false)))
theorem t_spec_FromCovers {n0 : Int} {pairs0 : (List (Int × Int))} {v : (SPoset × Bool)} (h : F_spec_FromCovers n0 pairs0 = some v) : Ret Try.prog f_spec_FromCovers [vint n0, (slr false 2 (rA2 vint)) pairs0] ((fun r => V.tup [(rS_Poset true) r.1, V.bool r.2]) v) := by
  refine ret_vc k_spec_FromCovers (Nat.le_of_ble_eq_true rfl) ?_
  unfold F_spec_FromCovers at h
  conv => whnf
  refine CutQ.o (fun t : (Unit ⊕ Unit) => match t with | (.inl s) => (Ex.ret, [5, 4], [(5, A.val (V.bool (false))), (4, A.val ((rP true (rS_Poset true)) ({ Below := nilL (List Int) })))]) | (.inr s) => (Ex.normal, [4, 0, 1], [(4, A.val ((rP true (rS_Poset true)) ({ Below := nilL (List Int) }))), (0, A.val (vint (n0))), (1, A.val ((slr false 2 (rA2 vint)) (pairs0)))])) h ?_ ?_
  · intro t h
    conv => whnf
    refine CallQ.o V.bool (by first | rfl | simp only [mulN_one, V.fz, fzL, V.up, upL, fzL_map, fz_slr, fz_at, slr, List.cons_append, List.nil_append] | simp [mulN_one, V.fz, fzL, V.up, upL, fzL_map, fz_slr, fz_at, slr]) h (fun r h => t_spec_l1In h) (fun r1 h => ?_)
    conv => whnf
    refine Br.flip ?_
    conv => whnf
    refine Br.ob h (fun p2 h => ?_) (fun p2 h => ?_)
    · conv => whnf
      refine Br.no ?_
      conv => whnf
      refine Len.map ?_
      conv => whnf
      refine Br.no ?_
      conv => whnf
      refine Br.no ?_
      conv => whnf
      refine Br.od h (fun p3 h => ?_) (fun p3 h => ?_)
      · conv => whnf
        refine SetKids.lit rfl ?_
        conv => whnf
        cases h; exact ⟨rfl, rfl⟩
      · conv => whnf
        cases h; exact ⟨rfl, rfl⟩
    · conv => whnf
      refine Br.yes ?_
      conv => whnf
      refine Br.yes ?_
      conv => whnf
      refine Br.yes ?_
      conv => whnf
      refine Br.yes ?_
      conv => whnf
      refine SetKids.lit rfl ?_
      conv => whnf
      cases h; exact ⟨rfl, rfl⟩
  · rintro (⟨⟩ | ⟨⟩) h
    · try dsimp only at h
      conv => whnf
      cases h; exact (by first | rfl | simp [resV, mulN_one, V.fz, fzL, V.up, upL, fzL_map, fz_slr, fz_at, slr])
    · try dsimp only at h
      conv => whnf
      refine LoopQ.o [6, 4, 0, 1] (S_spec_FromCovers_l1 n0 pairs0) (T_spec_FromCovers_l1 n0 pairs0) h (fun s o h => b_spec_FromCovers_l1 s o h) (by first | rfl | simp [restrict, look, mulN_one, V.fz, fzL, V.up, upL, fzL_map, fz_slr, fz_at, slr]) (by rintro (_ | _) <;> rfl) ?_
      rintro (⟨⟩ | ⟨⟩) h
      · try dsimp only at h
        conv => whnf
        cases h; exact (by first | rfl | simp [resV, mulN_one, V.fz, fzL, V.up, upL, fzL_map, fz_slr, fz_at, slr])
      · try dsimp only at h
        conv => whnf
        refine CallQ.o (rS_Poset true) (by first | rfl | simp only [mulN_one, V.fz, fzL, V.up, upL, fzL_map, fz_slr, fz_at, slr, List.cons_append, List.nil_append] | simp [mulN_one, V.fz, fzL, V.up, upL, fzL_map, fz_slr, fz_at, slr]) h (fun r h => t_spec_l23From h) (fun r19 h => ?_)
        conv => whnf
        refine SetKids.lit rfl ?_
        conv => whnf
        refine Cells.lit rfl rfl ?_
        conv => whnf
        refine CallQ.rd V.bool (by first | rfl | simp only [V.fz, fzL_map] | simp [mulN_one, V.fz, fzL, V.up, upL, fzL_map, fz_slr, fz_at, slr]) (fun _ => rfl) h (fun r h => t_spec_l23Good h) (fun r20 h => ?_)
        conv => whnf
        refine Br.flip ?_
        conv => whnf
        refine Br.ob h (fun p21 h => ?_) (fun p21 h => ?_)
        · conv => whnf
          refine Cells.lit rfl rfl ?_
          conv => whnf
          refine SetKids.lit rfl ?_
          conv => whnf
          cases h; exact (by first | rfl | simp [resV, mulN_one, V.fz, fzL, V.up, upL, fzL_map, fz_slr, fz_at, slr])
        · conv => whnf
          refine SetKids.lit rfl ?_
          conv => whnf
          cases h; exact (by first | rfl | simp [resV, mulN_one, V.fz, fzL, V.up, upL, fzL_map, fz_slr, fz_at, slr])

noncomputable def F_impl_IsLattice (p0 : SPoset) : Option Bool :=
  (F_impl_latticeOf (p0)).bind fun t => match t with
  | (none, r1_2) => (some r1_2)
  | ((some _r1_1), r1_2) => (some r1_2)
theorem t_impl_IsLattice {p0 : SPoset} {v : Bool} (h : F_impl_IsLattice p0 = some v) : Ret Try.prog f_impl_IsLattice [(rS_Poset false) p0] (V.bool v) := by
  refine ret_vc k_impl_IsLattice (Nat.le_of_ble_eq_true rfl) ?_
  unfold F_impl_IsLattice at h
  conv => whnf
  refine Cells.lit rfl rfl ?_
  conv => whnf
  refine CallQ.o (fun r => V.tup [(rO true (rS_lattice true)) r.1, V.bool r.2]) (by first | rfl | simp only [mulN_one, V.fz, fzL, V.up, upL, fzL_map, fz_slr, fz_at, slr, List.cons_append, List.nil_append] | simp [mulN_one, V.fz, fzL, V.up, upL, fzL_map, fz_slr, fz_at, slr]) h (fun r h => t_impl_latticeOf h) (fun r1 h => ?_)
  rcases r1 with ⟨(_ | r1_1), r1_2⟩
  · try dsimp only at h
    conv => whnf
    cases h; exact (by first | rfl | simp [resV, mulN_one, V.fz, fzL, V.up, upL, fzL_map, fz_slr, fz_at, slr])
  · try dsimp only at h
    conv => whnf
    cases h; exact (by first | rfl | simp [resV, mulN_one, V.fz, fzL, V.up, upL, fzL_map, fz_slr, fz_at, slr])

noncomputable def F_spec_LongestChain_l1 (p0 : SPoset) (r3 : SPoset) : (Int × Int) → Option ((Int × Int) ⊕ Int) := fun (x7, x6) =>
   if x7 < (↑p0.Below.length : Int) then
    (limO fun n => F_spec_l23Height n (r3) (x7)).bind fun r5 =>
    ask (InI (r5 + (1 : Int))) <|
    (F_spec_l1Most (x6) (r5 + (1 : Int))).bind fun r7 =>
    ask (InI (x7 + (1 : Int))) <|
    some (.inl (x7 + (1 : Int), r7))
   else
    some (.inr x6)
def S_spec_LongestChain_l1 (p0 : SPoset) (r3 : SPoset) : (Int × Int) → St := fun s => [(7, A.val (vint s.1)), (6, A.val (vint s.2)), (5, A.val ((rP true (rS_Poset true)) (r3))), (4, A.val ((slr true 1 vint) (nilL Int))), (1, A.val ((rP true (rS_Poset false)) (p0)))]
def T_spec_LongestChain_l1 (p0 : SPoset) (r3 : SPoset) : Int → Tgt
  | s => ((Ex.exit 0), [6, 5, 4, 1], [(6, A.val (vint s)), (5, A.val ((rP true (rS_Poset true)) (r3))), (4, A.val ((slr true 1 vint) (nilL Int))), (1, A.val ((rP true (rS_Poset false)) (p0)))])
theorem b_spec_LongestChain_l1 {p0 : SPoset} {r3 : SPoset} (s : (Int × Int)) (o : (Int × Int) ⊕ Int) (h : F_spec_LongestChain_l1 p0 r3 s = some o) : vc Try.prog c_spec_LongestChain_l1 (outQ [7, 6, 5, 4, 1] (S_spec_LongestChain_l1 p0 r3) (T_spec_LongestChain_l1 p0 r3) o) (S_spec_LongestChain_l1 p0 r3 s) := by
  obtain ⟨x7, x6⟩ := s
  unfold F_spec_LongestChain_l1 at h
  try dsimp only at h
  conv => whnf
  refine Cells.lit rfl rfl ?_
  conv => whnf
  refine Len.map ?_
  conv => whnf
  refine Br.od h (fun p4 h => ?_) (fun p4 h => ?_)
  · conv => whnf
    refine Cells.lit rfl rfl ?_
    conv => whnf
    refine CallQ.rd vint (by first | rfl | simp only [V.fz, V.up, fzL_map, fz_at] | simp [mulN_one, V.fz, fzL, V.up, upL, fzL_map, fz_slr, fz_at, slr]) (fun _ => rfl) h (fun r h => t_spec_l23Height h) (fun r5 h => ?_)
    conv => whnf
    refine Ask.o h fun p6 h => ?_
    conv => whnf
    refine CallQ.o vint (by first | rfl | simp only [mulN_one, V.fz, fzL, V.up, upL, fzL_map, fz_slr, fz_at, slr, List.cons_append, List.nil_append] | simp [mulN_one, V.fz, fzL, V.up, upL, fzL_map, fz_slr, fz_at, slr]) h (fun r h => t_spec_l1Most h) (fun r7 h => ?_)
    conv => whnf
    refine Ask.o h fun p8 h => ?_
    conv => whnf
    cases h; exact ⟨rfl, rfl⟩
  · conv => whnf
    cases h; exact ⟨rfl, rfl⟩

noncomputable def F_spec_LongestChain_l2 (p0 : SPoset) (r3 : SPoset) (x6 : Int) (x4 : List Int) : Int → Option (Int ⊕ Int) := fun x8 =>
   (limO fun n => F_spec_l23Height n (r3) (x8)).bind fun r11 =>
   ask (InI (r11 + (1 : Int))) <|
   if r11 + (1 : Int) < x6 then
    ask (InI (x8 + (1 : Int))) <|
    some (.inl (x8 + (1 : Int)))
   else
    if (↑x4.length : Int) > (0 : Int) then
     ask (InI ((↑x4.length : Int) - (1 : Int))) <|
     ask ((0 : Int) ≤ (↑x4.length : Int) - (1 : Int) ∧ (↑x4.length : Int) - (1 : Int) < (↑x4.length : Int)) <|
     (F_spec_l23Less (p0) (nth x4 ((↑x4.length : Int) - (1 : Int)).toNat) (x8)).bind fun r18 =>
     if (r18) = true then
      some (.inr x8)
     else
      ask (InI (x8 + (1 : Int))) <|
      some (.inl (x8 + (1 : Int)))
    else
     some (.inr x8)
def S_spec_LongestChain_l2 (p0 : SPoset) (r3 : SPoset) (x6 : Int) (x4 : List Int) : Int → St := fun s => [(8, A.val (vint s)), (6, A.val (vint (x6))), (5, A.val ((rP true (rS_Poset true)) (r3))), (4, A.val ((slr true 1 vint) (x4))), (1, A.val ((rP true (rS_Poset false)) (p0)))]
def T_spec_LongestChain_l2 (p0 : SPoset) (r3 : SPoset) (x6 : Int) (x4 : List Int) : Int → Tgt
  | s => ((Ex.exit 4), [8, 6, 5, 4, 1], [(8, A.val (vint s)), (6, A.val (vint (x6))), (5, A.val ((rP true (rS_Poset true)) (r3))), (4, A.val ((slr true 1 vint) (x4))), (1, A.val ((rP true (rS_Poset false)) (p0)))])
theorem b_spec_LongestChain_l2 {p0 : SPoset} {r3 : SPoset} {x6 : Int} {x4 : List Int} (x8 : Int) (o : Int ⊕ Int) (h : F_spec_LongestChain_l2 p0 r3 x6 x4 x8 = some o) : vc Try.prog c_spec_LongestChain_l2 (outQ [8, 6, 5, 4, 1] (S_spec_LongestChain_l2 p0 r3 x6 x4) (T_spec_LongestChain_l2 p0 r3 x6 x4) o) (S_spec_LongestChain_l2 p0 r3 x6 x4 x8) := by
  unfold F_spec_LongestChain_l2 at h
  try dsimp only at h
  conv => whnf
  refine Cells.lit rfl rfl ?_
  conv => whnf
  refine CallP.rd vint (by first | rfl | simp only [V.fz, V.up, fzL_map, fz_at] | simp [mulN_one, V.fz, fzL, V.up, upL, fzL_map, fz_slr, fz_at, slr]) (fun _ => rfl) h (fun r h => t_spec_l23Height h) (fun r11 h => ?_)
  conv => whnf
  refine Ask.o h fun p12 h => ?_
  conv => whnf
  refine Br.od h (fun p13 h => ?_) (fun p13 h => ?_)
  · conv => whnf
    refine Br.yes ?_
    conv => whnf
    refine Br.yes ?_
    conv => whnf
    refine Br.yes ?_
    conv => whnf
    refine Br.yes ?_
    conv => whnf
    refine Br.yes ?_
    conv => whnf
    refine Br.yes ?_
    conv => whnf
    refine Ask.o h fun p14 h => ?_
    conv => whnf
    cases h; exact ⟨rfl, rfl⟩
  · conv => whnf
    refine Br.no ?_
    conv => whnf
    refine Len.map ?_
    conv => whnf
    refine Br.no ?_
    conv => whnf
    refine Br.no ?_
    conv => whnf
    refine Br.od h (fun p15 h => ?_) (fun p15 h => ?_)
    · conv => whnf
      refine Cells.lit rfl rfl ?_
      conv => whnf
      refine Br.yes ?_
      conv => whnf
      refine Br.yes ?_
      conv => whnf
      refine Br.yes ?_
      conv => whnf
      refine Len.map ?_
      conv => whnf
      refine Br.yes ?_
      conv => whnf
      refine Ask.o h fun p16 h => ?_
      conv => whnf
      refine Br.yes ?_
      conv => whnf
      refine Len.map ?_
      conv => whnf
      refine Ask.o h fun p17 h => ?_
      conv => whnf
      refine Br.yes ?_
      conv => whnf
      refine Cells.one (fun _ => ⟨rfl, rfl⟩) (by first | omega | (simp only [mulN] at *; omega) | (simp [mulN] at *; omega)) ?_
      conv => whnf
      refine Br.yes ?_
      conv => whnf
      refine Br.yes ?_
      conv => whnf
      refine CallQ.o V.bool (by first | rfl | simp only [mulN_one, V.fz, fzL, V.up, upL, fzL_map, fz_slr, fz_at, slr, List.cons_append, List.nil_append] | simp [mulN_one, V.fz, fzL, V.up, upL, fzL_map, fz_slr, fz_at, slr]) h (fun r h => t_spec_l23Less h) (fun r18 h => ?_)
      conv => whnf
      refine Br.yes ?_
      conv => whnf
      refine Br.no ?_
      conv => whnf
      refine Br.yes ?_
      conv => whnf
      refine Br.no ?_
      conv => whnf
      refine Br.flip ?_
      conv => whnf
      refine Br.ob h (fun p19 h => ?_) (fun p19 h => ?_)
      · conv => whnf
        cases h; exact ⟨rfl, rfl⟩
      · conv => whnf
        refine Ask.o h fun p20 h => ?_
        conv => whnf
        cases h; exact ⟨rfl, rfl⟩
    · conv => whnf
      refine Br.no ?_
      conv => whnf
      refine Br.no ?_
      conv => whnf
      refine Br.no ?_
      conv => whnf
      refine Br.no ?_
      conv => whnf
      refine Br.no ?_
      conv => whnf
      refine Br.no ?_
      conv => whnf
      refine Br.no ?_
      conv => whnf
      refine Br.no ?_
      conv => whnf
      refine Br.no ?_
      conv => whnf
      refine Br.no ?_
      conv => whnf
      refine Br.no ?_
      conv => whnf
      refine Br.no ?_
      conv => whnf
      refine Br.no ?_
      conv => whnf
      cases h; exact ⟨rfl, rfl⟩

noncomputable def F_spec_LongestChain_l3 (p0 : SPoset) (r3 : SPoset) : (Int × (List Int)) → Option ((Int × (List Int)) ⊕ (List Int)) := fun (x6, x4) =>
   if x6 > (0 : Int) then
    (loopO (F_spec_LongestChain_l2 p0 r3 x6 x4) (0 : Int)).bind fun q21_8 =>
    ask ((x4).length + ([q21_8]).length ≤ LIM) <|
    ask (InI (x6 - (1 : Int))) <|
    some (.inl (x6 - (1 : Int), x4 ++ [q21_8]))
   else
    some (.inr x4)
def S_spec_LongestChain_l3 (p0 : SPoset) (r3 : SPoset) : (Int × (List Int)) → St := fun s => [(6, A.val (vint s.1)), (5, A.val ((rP true (rS_Poset true)) (r3))), (4, A.val ((slr true 1 vint) s.2)), (1, A.val ((rP true (rS_Poset false)) (p0)))]
def T_spec_LongestChain_l3 (_p0 : SPoset) (_r3 : SPoset) : (List Int) → Tgt
  | s => ((Ex.exit 2), [4], [(4, A.val ((slr true 1 vint) s))])
theorem b_spec_LongestChain_l3 {p0 : SPoset} {r3 : SPoset} (s : (Int × (List Int))) (o : (Int × (List Int)) ⊕ (List Int)) (h : F_spec_LongestChain_l3 p0 r3 s = some o) : vc Try.prog c_spec_LongestChain_l3 (outQ [6, 5, 4, 1] (S_spec_LongestChain_l3 p0 r3) (T_spec_LongestChain_l3 p0 r3) o) (S_spec_LongestChain_l3 p0 r3 s) := by
  obtain ⟨x6, x4⟩ := s
  unfold F_spec_LongestChain_l3 at h
  try dsimp only at h
  conv => whnf
  refine Br.od h (fun p10 h => ?_) (fun p10 h => ?_)
  · conv => whnf
    refine LoopQ.o [8, 6, 5, 4, 1] (S_spec_LongestChain_l2 p0 r3 x6 x4) (T_spec_LongestChain_l2 p0 r3 x6 x4) h (fun s o h => b_spec_LongestChain_l2 s o h) (by first | rfl | simp [restrict, look, mulN_one, V.fz, fzL, V.up, upL, fzL_map, fz_slr, fz_at, slr]) (fun _ => rfl) ?_
    rintro q21_8 h
    try dsimp only at h
    conv => whnf
    refine BslQ.o vint [q21_8] (fun _ => ⟨rfl, rfl⟩) (by first | rfl | simp only [mulN_one, V.fz, fzL, V.up, upL, fzL_map, fz_slr, fz_at, slr, List.cons_append, List.nil_append] | simp [mulN_one, V.fz, fzL, V.up, upL, fzL_map, fz_slr, fz_at, slr]) ?_
    conv => whnf
    refine NoOwn.o (fun _ => rfl) ?_
    conv => whnf
    refine AppQ.o vint (fun _ => ⟨rfl, rfl⟩) (x4) ([q21_8]) (by first | rfl | simp only [mulN_one, V.fz, fzL, V.up, upL, fzL_map, fz_slr, fz_at, slr, List.cons_append, List.nil_append] | simp [mulN_one, V.fz, fzL, V.up, upL, fzL_map, fz_slr, fz_at, slr]) (by first | rfl | simp only [mulN_one, V.fz, fzL, V.up, upL, fzL_map, fz_slr, fz_at, slr, List.cons_append, List.nil_append] | simp [mulN_one, V.fz, fzL, V.up, upL, fzL_map, fz_slr, fz_at, slr]) h fun h => ?_
    conv => whnf
    refine Ask.o h fun p22 h => ?_
    conv => whnf
    cases h; exact ⟨rfl, rfl⟩
  · conv => whnf
    cases h; exact ⟨rfl, rfl⟩

noncomputable def F_spec_LongestChain (p0 : SPoset) : Option ((List Int) × Bool) :=
  (F_spec_l23Good (p0)).bind fun r1 =>
  if (r1) = true then
   (F_spec_l23Dual (p0)).bind fun r3 =>
   (loopO (F_spec_LongestChain_l1 p0 r3) ((0 : Int), (0 : Int))).bind fun q9_6 =>
   (loopO (F_spec_LongestChain_l3 p0 r3) (q9_6, nilL Int)).bind fun q23_4 =>
   some (q23_4, true)
  else
   some (nilL Int, false)
theorem t_spec_LongestChain {p0 : SPoset} {v : ((List Int) × Bool)} (h : F_spec_LongestChain p0 = some v) : Ret Try.prog f_spec_LongestChain [(rS_Poset false) p0] ((fun r => V.tup [(slr true 1 vint) r.1, V.bool r.2]) v) := by
  refine ret_vc k_spec_LongestChain (Nat.le_of_ble_eq_true rfl) ?_
  unfold F_spec_LongestChain at h
  conv => whnf
  refine BslQ.o vint (nilL Int) (fun _ => ⟨rfl, rfl⟩) (by first | rfl | simp only [mulN_one, V.fz, fzL, V.up, upL, fzL_map, fz_slr, fz_at, slr, List.cons_append, List.nil_append] | simp [mulN_one, V.fz, fzL, V.up, upL, fzL_map, fz_slr, fz_at, slr]) ?_
  conv => whnf
  refine Cells.lit rfl rfl ?_
  conv => whnf
  refine CallQ.o V.bool (by first | rfl | simp only [mulN_one, V.fz, fzL, V.up, upL, fzL_map, fz_slr, fz_at, slr, List.cons_append, List.nil_append] | simp [mulN_one, V.fz, fzL, V.up, upL, fzL_map, fz_slr, fz_at, slr]) h (fun r h => t_spec_l23Good h) (fun r1 h => ?_)
  conv => whnf
  refine Br.flip ?_
  conv => whnf
  refine Br.ob h (fun p2 h => ?_) (fun p2 h => ?_)
  · conv => whnf
    refine Cells.lit rfl rfl ?_
    conv => whnf
    refine CallQ.o (rS_Poset true) (by first | rfl | simp only [mulN_one, V.fz, fzL, V.up, upL, fzL_map, fz_slr, fz_at, slr, List.cons_append, List.nil_append] | simp [mulN_one, V.fz, fzL, V.up, upL, fzL_map, fz_slr, fz_at, slr]) h (fun r h => t_spec_l23Dual h) (fun r3 h => ?_)
    conv => whnf
    refine SetKids.lit rfl ?_
    conv => whnf
    refine LoopQ.o [7, 6, 5, 4, 1] (S_spec_LongestChain_l1 p0 r3) (T_spec_LongestChain_l1 p0 r3) h (fun s o h => b_spec_LongestChain_l1 s o h) (by first | rfl | simp [restrict, look, mulN_one, V.fz, fzL, V.up, upL, fzL_map, fz_slr, fz_at, slr]) (fun _ => rfl) ?_
    rintro q9_6 h
    try dsimp only at h
    conv => whnf
    refine LoopQ.o [6, 5, 4, 1] (S_spec_LongestChain_l3 p0 r3) (T_spec_LongestChain_l3 p0 r3) h (fun s o h => b_spec_LongestChain_l3 s o h) (by first | rfl | simp [restrict, look, mulN_one, V.fz, fzL, V.up, upL, fzL_map, fz_slr, fz_at, slr]) (fun _ => rfl) ?_
    rintro q23_4 h
    try dsimp only at h
    conv => whnf
    cases h; exact (by first | rfl | simp [resV, mulN_one, V.fz, fzL, V.up, upL, fzL_map, fz_slr, fz_at, slr])
  · conv => whnf
    cases h; exact (by first | rfl | simp [resV, mulN_one, V.fz, fzL, V.up, upL, fzL_map, fz_slr, fz_at, slr])

end Go.Proofs.Ythcnmahjhahafaa.Ax
