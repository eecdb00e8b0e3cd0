/-
  What the functions compute, as functions on plain data, and that the program does compute it; written by program.
-/
import Derived.Test.YthcnmahjhahafaaCode
import Derived.Test.YthcnmahjhahafaaG1
import Derived.Test.YthcnmahjhahafaaG3
import Derived.Test.YthcnmahjhahafaaG4
import Derived.Test.YthcnmahjhahafaaG5
import Derived.Test.YthcnmahjhahafaaG6
namespace Go.Proofs.Ythcnmahjhahafaa.Ax
open Go
set_option maxRecDepth 100000
set_option maxHeartbeats 4000000

noncomputable def F_impl_LongestChain_l1 (_r1 : List (List Bool) × Bool) (r3 : List Int) : (Int × Int) → Option ((Int × Int) ⊕ Int) := fun (x24, x7) =>
   if x24 < (↑r3.length : Int) then
    ask ((0 : Int) ≤ x24 ∧ x24 < (↑r3.length : Int)) <|
    ask (InI (x24 + (1 : Int))) <|
    some (.inl (x24 + (1 : Int), if nth r3 x24.toNat > x7 then nth r3 x24.toNat else x7))
   else
    some (.inr x7)
def S_impl_LongestChain_l1 (r1 : List (List Bool) × Bool) (r3 : List Int) : (Int × Int) → St := fun s => [(24, A.val (vint s.1)), (23, A.val (vint ((↑r3.length : Int)))), (22, A.ref (6 : Nat) []), (7, A.val (vint s.2)), (6, A.val ((slr true 1 vint) (r3))), (4, A.val ((slr true 1 (slr true 1 V.bool)) (r1.fst)))]
def T_impl_LongestChain_l1 (r1 : List (List Bool) × Bool) (r3 : List Int) : Int → Tgt
  | s => ((Ex.exit 0), [7, 6, 4], [(7, A.val (vint s)), (6, A.val ((slr true 1 vint) (r3))), (4, A.val ((slr true 1 (slr true 1 V.bool)) (r1.fst)))])
theorem b_impl_LongestChain_l1 {r1 : List (List Bool) × Bool} {r3 : List Int} (s : (Int × Int)) (o : (Int × Int) ⊕ Int) (h : F_impl_LongestChain_l1 r1 r3 s = some o) : vc Try.prog c_impl_LongestChain_l1 (outQ [24, 23, 22, 7, 6, 4] (S_impl_LongestChain_l1 r1 r3) (T_impl_LongestChain_l1 r1 r3) o) (S_impl_LongestChain_l1 r1 r3 s) := by
  obtain ⟨x24, x7⟩ := s
  unfold F_impl_LongestChain_l1 at h
  try dsimp only at h
  conv => whnf
  refine Br.od h (fun p4 h => ?_) (fun p4 h => ?_)
  · conv => whnf
    refine Len.map ?_
    conv => whnf
    refine Ask.o h fun p5 h => ?_
    conv => whnf
    refine Cells.one (fun _ => ⟨rfl, rfl⟩) (by first | omega | (simp only [mulN] at *; omega) | (simp [mulN] at *; omega)) ?_
    conv => whnf
    refine Ask.o h fun p6 h => ?_
    conv => whnf
    cases h; exact ⟨rfl, rfl⟩
  · conv => whnf
    cases h; exact ⟨rfl, rfl⟩

noncomputable def F_impl_LongestChain_l2 (r1 : List (List Bool) × Bool) (r3 : List Int) (x10 : List Int) (x7 : Int) : Int → Option (Int ⊕ (List Int)) := fun x39 =>
   if x39 < (↑r1.fst.length : Int) then
    ask ((0 : Int) ≤ x39 ∧ x39 < (↑r3.length : Int)) <|
    if nth r3 x39.toNat = x7 then
     if (↑x10.length : Int) = (0 : Int) then
      ask ((x10).length + ([x39]).length ≤ LIM) <|
      some (.inr (x10 ++ [x39]))
     else
      ask (InI ((↑x10.length : Int) - (1 : Int))) <|
      ask ((0 : Int) ≤ (↑x10.length : Int) - (1 : Int) ∧ (↑x10.length : Int) - (1 : Int) < (↑x10.length : Int)) <|
      (F_impl_order_less (r1.fst) (nth x10 ((↑x10.length : Int) - (1 : Int)).toNat) (x39)).bind fun r15 =>
      if (r15) = true then
       ask ((x10).length + ([x39]).length ≤ LIM) <|
       some (.inr (x10 ++ [x39]))
      else
       ask (InI (x39 + (1 : Int))) <|
       some (.inl (x39 + (1 : Int)))
    else
     ask (InI (x39 + (1 : Int))) <|
     some (.inl (x39 + (1 : Int)))
   else
    some (.inr x10)
def S_impl_LongestChain_l2 (r1 : List (List Bool) × Bool) (r3 : List Int) (x10 : List Int) (x7 : Int) : Int → St := fun s => [(39, A.val (vint s)), (38, A.val (vint ((↑r1.fst.length : Int)))), (10, A.val ((slr true 1 vint) (x10))), (7, A.val (vint (x7))), (6, A.val ((slr true 1 vint) (r3))), (4, A.val ((slr true 1 (slr true 1 V.bool)) (r1.fst)))]
def T_impl_LongestChain_l2 (r1 : List (List Bool) × Bool) (r3 : List Int) (_x10 : List Int) (x7 : Int) : (List Int) → Tgt
  | s => ((Ex.exit 4), [10, 7, 6, 4], [(10, A.val ((slr true 1 vint) s)), (7, A.val (vint (x7))), (6, A.val ((slr true 1 vint) (r3))), (4, A.val ((slr true 1 (slr true 1 V.bool)) (r1.fst)))])
theorem b_impl_LongestChain_l2 {r1 : List (List Bool) × Bool} {r3 : List Int} {x10 : List Int} {x7 : Int} (x39 : Int) (o : Int ⊕ (List Int)) (h : F_impl_LongestChain_l2 r1 r3 x10 x7 x39 = some o) : vc Try.prog c_impl_LongestChain_l2 (outQ [39, 38, 10, 7, 6, 4] (S_impl_LongestChain_l2 r1 r3 x10 x7) (T_impl_LongestChain_l2 r1 r3 x10 x7) o) (S_impl_LongestChain_l2 r1 r3 x10 x7 x39) := by
  unfold F_impl_LongestChain_l2 at h
  try dsimp only at h
  conv => whnf
  refine Br.od h (fun p9 h => ?_) (fun p9 h => ?_)
  · conv => whnf
    refine Len.map ?_
    conv => whnf
    refine Ask.o h fun p10 h => ?_
    conv => whnf
    refine Cells.one (fun _ => ⟨rfl, rfl⟩) (by first | omega | (simp only [mulN] at *; omega) | (simp [mulN] at *; omega)) ?_
    conv => whnf
    refine Br.oe h (fun p11 h => ?_) (fun p11 h => ?_)
    · conv => whnf
      refine Br.yes ?_
      conv => whnf
      refine Len.map ?_
      conv => whnf
      refine Br.yes ?_
      conv => whnf
      refine Br.yes ?_
      conv => whnf
      refine Br.oe h (fun p12 h => ?_) (fun p12 h => ?_)
      · conv => whnf
        refine Br.yes ?_
        conv => whnf
        refine Br.yes ?_
        conv => whnf
        refine Br.yes ?_
        conv => whnf
        refine Br.yes ?_
        conv => whnf
        refine Br.yes ?_
        conv => whnf
        refine Br.yes ?_
        conv => whnf
        refine Br.yes ?_
        conv => whnf
        refine Br.yes ?_
        conv => whnf
        refine Br.yes ?_
        conv => whnf
        refine Br.yes ?_
        conv => whnf
        refine Br.yes ?_
        conv => whnf
        refine Br.yes ?_
        conv => whnf
        refine BslQ.o vint [x39] (fun _ => ⟨rfl, rfl⟩) (by first | rfl | simp only [mulN_one, V.fz, fzL, V.up, upL, fzL_map, fz_slr, fz_at, slr, List.cons_append, List.nil_append] | simp [mulN_one, V.fz, fzL, V.up, upL, fzL_map, fz_slr, fz_at, slr]) ?_
        conv => whnf
        refine NoOwn.o (fun _ => rfl) ?_
        conv => whnf
        refine AppQ.o vint (fun _ => ⟨rfl, rfl⟩) (x10) ([x39]) (by first | rfl | simp only [mulN_one, V.fz, fzL, V.up, upL, fzL_map, fz_slr, fz_at, slr, List.cons_append, List.nil_append] | simp [mulN_one, V.fz, fzL, V.up, upL, fzL_map, fz_slr, fz_at, slr]) (by first | rfl | simp only [mulN_one, V.fz, fzL, V.up, upL, fzL_map, fz_slr, fz_at, slr, List.cons_append, List.nil_append] | simp [mulN_one, V.fz, fzL, V.up, upL, fzL_map, fz_slr, fz_at, slr]) h fun h => ?_
        conv => whnf
        cases h; exact ⟨rfl, rfl⟩
      · conv => whnf
        refine Br.no ?_
        conv => whnf
        refine Br.no ?_
        conv => whnf
        refine Br.no ?_
        conv => whnf
        refine Len.map ?_
        conv => whnf
        refine Br.no ?_
        conv => whnf
        refine Ask.o h fun p13 h => ?_
        conv => whnf
        refine Br.no ?_
        conv => whnf
        refine Len.map ?_
        conv => whnf
        refine Ask.o h fun p14 h => ?_
        conv => whnf
        refine Br.no ?_
        conv => whnf
        refine Cells.one (fun _ => ⟨rfl, rfl⟩) (by first | omega | (simp only [mulN] at *; omega) | (simp [mulN] at *; omega)) ?_
        conv => whnf
        refine Br.no ?_
        conv => whnf
        refine Br.no ?_
        conv => whnf
        refine CallQ.rd V.bool (by first | rfl | simp only [mulN_one, V.fz, V.up, fzL_map, fz_at, slr] | simp [mulN_one, V.fz, fzL, V.up, upL, fzL_map, fz_slr, fz_at, slr]) (fun _ => rfl) h (fun r h => t_impl_order_less h) (fun r15 h => ?_)
        conv => whnf
        refine Br.yes ?_
        conv => whnf
        refine Br.no ?_
        conv => whnf
        refine Br.yes ?_
        conv => whnf
        refine Br.ob h (fun p16 h => ?_) (fun p16 h => ?_)
        · conv => whnf
          refine BslQ.o vint [x39] (fun _ => ⟨rfl, rfl⟩) (by first | rfl | simp only [mulN_one, V.fz, fzL, V.up, upL, fzL_map, fz_slr, fz_at, slr, List.cons_append, List.nil_append] | simp [mulN_one, V.fz, fzL, V.up, upL, fzL_map, fz_slr, fz_at, slr]) ?_
          conv => whnf
          refine NoOwn.o (fun _ => rfl) ?_
          conv => whnf
          refine AppQ.o vint (fun _ => ⟨rfl, rfl⟩) (x10) ([x39]) (by first | rfl | simp only [mulN_one, V.fz, fzL, V.up, upL, fzL_map, fz_slr, fz_at, slr, List.cons_append, List.nil_append] | simp [mulN_one, V.fz, fzL, V.up, upL, fzL_map, fz_slr, fz_at, slr]) (by first | rfl | simp only [mulN_one, V.fz, fzL, V.up, upL, fzL_map, fz_slr, fz_at, slr, List.cons_append, List.nil_append] | simp [mulN_one, V.fz, fzL, V.up, upL, fzL_map, fz_slr, fz_at, slr]) h fun h => ?_
          conv => whnf
          cases h; exact ⟨rfl, rfl⟩
        · conv => whnf
          refine Ask.o h fun p17 h => ?_
          conv => whnf
          cases h; exact ⟨rfl, rfl⟩
    · conv => whnf
      refine Br.no ?_
      conv => whnf
      refine Br.no ?_
      conv => whnf
      refine Br.no ?_
      conv => whnf
      refine Br.no ?_
      conv => whnf
      refine Br.no ?_
      conv => whnf
      refine Br.no ?_
      conv => whnf
      refine Ask.o h fun p18 h => ?_
      conv => whnf
      cases h; exact ⟨rfl, rfl⟩
  · conv => whnf
    cases h; exact ⟨rfl, rfl⟩

noncomputable def F_impl_LongestChain_l3 (r1 : List (List Bool) × Bool) (r3 : List Int) : ((List Int) × Int) → Option (((List Int) × Int) ⊕ (List Int)) := fun (x10, x7) =>
   if x7 ≥ (0 : Int) then
    (loopO (F_impl_LongestChain_l2 r1 r3 x10 x7) (0 : Int)).bind fun q19_10 =>
    ask (InI (x7 - (1 : Int))) <|
    some (.inl (q19_10, x7 - (1 : Int)))
   else
    some (.inr x10)
def S_impl_LongestChain_l3 (r1 : List (List Bool) × Bool) (r3 : List Int) : ((List Int) × Int) → St := fun s => [(10, A.val ((slr true 1 vint) s.1)), (7, A.val (vint s.2)), (6, A.val ((slr true 1 vint) (r3))), (4, A.val ((slr true 1 (slr true 1 V.bool)) (r1.fst)))]
def T_impl_LongestChain_l3 (_r1 : List (List Bool) × Bool) (_r3 : List Int) : (List Int) → Tgt
  | s => ((Ex.exit 2), [10], [(10, A.val ((slr true 1 vint) s))])
theorem b_impl_LongestChain_l3 {r1 : List (List Bool) × Bool} {r3 : List Int} (s : ((List Int) × Int)) (o : ((List Int) × Int) ⊕ (List Int)) (h : F_impl_LongestChain_l3 r1 r3 s = some o) : vc Try.prog c_impl_LongestChain_l3 (outQ [10, 7, 6, 4] (S_impl_LongestChain_l3 r1 r3) (T_impl_LongestChain_l3 r1 r3) o) (S_impl_LongestChain_l3 r1 r3 s) := by
  obtain ⟨x10, x7⟩ := s
  unfold F_impl_LongestChain_l3 at h
  try dsimp only at h
  conv => whnf
  refine Br.od h (fun p8 h => ?_) (fun p8 h => ?_)
  · conv => whnf
    refine Len.map ?_
    conv => whnf
    refine LoopQ.o [39, 38, 10, 7, 6, 4] (S_impl_LongestChain_l2 r1 r3 x10 x7) (T_impl_LongestChain_l2 r1 r3 x10 x7) h (fun s o h => b_impl_LongestChain_l2 s o h) (by first | rfl | simp [restrict, look, mulN_one, V.fz, fzL, V.up, upL, fzL_map, fz_slr, fz_at, slr]) (fun _ => rfl) ?_
    rintro q19_10 h
    try dsimp only at h
    conv => whnf
    refine Ask.o h fun p20 h => ?_
    conv => whnf
    cases h; exact ⟨rfl, rfl⟩
  · conv => whnf
    cases h; exact ⟨rfl, rfl⟩

noncomputable def F_impl_LongestChain (p0 : SPoset) : Option ((List Int) × Bool) :=
  (F_impl_orderOf (p0)).bind fun r1 =>
  if (r1.snd) = true then
   (F_impl_order_lengths (r1.fst) (false)).bind fun r3 =>
   (loopO (F_impl_LongestChain_l1 r1 r3) ((0 : Int), (-1 : Int))).bind fun q7_7 =>
   (loopO (F_impl_LongestChain_l3 r1 r3) (nilL Int, q7_7)).bind fun q21_10 =>
   some (q21_10, true)
  else
   some (nilL Int, false)
theorem t_impl_LongestChain {p0 : SPoset} {v : ((List Int) × Bool)} (h : F_impl_LongestChain p0 = some v) : Ret Try.prog f_impl_LongestChain [(rS_Poset false) p0] ((fun r => V.tup [(slr true 1 vint) r.1, V.bool r.2]) v) := by
  refine ret_vc k_impl_LongestChain (Nat.le_of_ble_eq_true rfl) ?_
  unfold F_impl_LongestChain at h
  conv => whnf
  refine Cells.lit rfl rfl ?_
  conv => whnf
  refine CallQ.o (fun r => V.tup [(slr true 1 (slr true 1 V.bool)) r.1, V.bool r.2]) (by first | rfl | simp only [mulN_one, V.fz, fzL, V.up, upL, fzL_map, fz_slr, fz_at, slr, List.cons_append, List.nil_append] | simp [mulN_one, V.fz, fzL, V.up, upL, fzL_map, fz_slr, fz_at, slr]) h (fun r h => t_impl_orderOf h) (fun r1 h => ?_)
  conv => whnf
  refine Br.flip ?_
  conv => whnf
  refine Br.ob h (fun p2 h => ?_) (fun p2 h => ?_)
  · conv => whnf
    refine CallQ.rd (slr true 1 vint) (by first | rfl | simp only [V.fz, fzL_map, slr] | simp [mulN_one, V.fz, fzL, V.up, upL, fzL_map, fz_slr, fz_at, slr]) (fun _ => by simp [V.noFz, noFzL_map]) h (fun r h => t_impl_order_lengths h) (fun r3 h => ?_)
    conv => whnf
    refine Len.map ?_
    conv => whnf
    refine LoopQ.o [24, 23, 22, 7, 6, 4] (S_impl_LongestChain_l1 r1 r3) (T_impl_LongestChain_l1 r1 r3) h (fun s o h => b_impl_LongestChain_l1 s o h) (by first | rfl | simp [restrict, look, mulN_one, V.fz, fzL, V.up, upL, fzL_map, fz_slr, fz_at, slr]) (fun _ => rfl) ?_
    rintro q7_7 h
    try dsimp only at h
    conv => whnf
    refine BslQ.o vint (nilL Int) (fun _ => ⟨rfl, rfl⟩) (by first | rfl | simp only [mulN_one, V.fz, fzL, V.up, upL, fzL_map, fz_slr, fz_at, slr, List.cons_append, List.nil_append] | simp [mulN_one, V.fz, fzL, V.up, upL, fzL_map, fz_slr, fz_at, slr]) ?_
    conv => whnf
    refine LoopQ.o [10, 7, 6, 4] (S_impl_LongestChain_l3 r1 r3) (T_impl_LongestChain_l3 r1 r3) h (fun s o h => b_impl_LongestChain_l3 s o h) (by first | rfl | simp [restrict, look, mulN_one, V.fz, fzL, V.up, upL, fzL_map, fz_slr, fz_at, slr]) (fun _ => rfl) ?_
    rintro q21_10 h
    try dsimp only at h
    conv => whnf
    cases h; exact (by first | rfl | simp [resV, mulN_one, V.fz, fzL, V.up, upL, fzL_map, fz_slr, fz_at, slr])
  · conv => whnf
    refine BslQ.o vint (nilL Int) (fun _ => ⟨rfl, rfl⟩) (by first | rfl | simp only [mulN_one, V.fz, fzL, V.up, upL, fzL_map, fz_slr, fz_at, slr, List.cons_append, List.nil_append] | simp [mulN_one, V.fz, fzL, V.up, upL, fzL_map, fz_slr, fz_at, slr]) ?_
    conv => whnf
    cases h; exact (by first | rfl | simp [resV, mulN_one, V.fz, fzL, V.up, upL, fzL_map, fz_slr, fz_at, slr])

noncomputable def F_spec_l23Good_l1 (p0 : SPoset) : Int → Option (Int ⊕ (Unit ⊕ Unit)) := fun x4 =>
   if x4 < (↑p0.Below.length : Int) then
    ask ((0 : Int) ≤ x4 ∧ x4 < (↑p0.Below.length : Int)) <|
    ask (InI ((↑p0.Below.length : Int) - (1 : Int))) <|
    (F_spec_l1Rising (nth p0.Below x4.toNat) ((0 : Int)) ((↑p0.Below.length : Int) - (1 : Int))).bind fun r5 =>
    if (r5) = true then
     ask ((0 : Int) ≤ x4 ∧ x4 < (↑p0.Below.length : Int)) <|
     (F_spec_l1Has (nth p0.Below x4.toNat) (x4)).bind fun r8 =>
     if (r8) = true then
      ask (InI (x4 + (1 : Int))) <|
      some (.inl (x4 + (1 : Int)))
     else
      some (.inr (.inl ()))
    else
     some (.inr (.inl ()))
   else
    some (.inr (.inr ()))
def S_spec_l23Good_l1 (p0 : SPoset) : Int → St := fun s => [(4, A.val (vint s)), (3, A.val (vint ((↑p0.Below.length : Int)))), (1, A.val ((rP true (rS_Poset false)) (p0)))]
def T_spec_l23Good_l1 (p0 : SPoset) : (Unit ⊕ Unit) → Tgt
  | (.inl _s) => (Ex.ret, [2], [(2, A.val (V.bool (false)))])
  | (.inr _s) => ((Ex.exit 0), [3, 1], [(3, A.val (vint ((↑p0.Below.length : Int)))), (1, A.val ((rP true (rS_Poset false)) (p0)))])
theorem b_spec_l23Good_l1 {p0 : SPoset} (x4 : Int) (o : Int ⊕ (Unit ⊕ Unit)) (h : F_spec_l23Good_l1 p0 x4 = some o) : vc Try.prog c_spec_l23Good_l1 (outQ [4, 3, 1] (S_spec_l23Good_l1 p0) (T_spec_l23Good_l1 p0) o) (S_spec_l23Good_l1 p0 x4) := by
  unfold F_spec_l23Good_l1 at h
  try dsimp only at h
  conv => whnf
  refine Br.od h (fun p2 h => ?_) (fun p2 h => ?_)
  · conv => whnf
    refine Cells.lit rfl rfl ?_
    conv => whnf
    refine Len.map ?_
    conv => whnf
    refine Ask.o h fun p3 h => ?_
    conv => whnf
    refine Elem.o (by first | omega | (simp only [mulN] at *; omega) | (simp [mulN] at *; omega)) ?_
    conv => whnf
    refine Ask.o h fun p4 h => ?_
    conv => whnf
    refine CallQ.o V.bool (by first | rfl | simp only [mulN_one, V.fz, fzL, V.up, upL, fzL_map, fz_slr, fz_at, slr, List.cons_append, List.nil_append] | simp [mulN_one, V.fz, fzL, V.up, upL, fzL_map, fz_slr, fz_at, slr]) h (fun r h => t_spec_l1Rising h) (fun r5 h => ?_)
    conv => whnf
    refine Br.flip ?_
    conv => whnf
    refine Br.ob h (fun p6 h => ?_) (fun p6 h => ?_)
    · conv => whnf
      refine Br.no ?_
      conv => whnf
      refine Cells.lit rfl rfl ?_
      conv => whnf
      refine Br.no ?_
      conv => whnf
      refine Br.no ?_
      conv => whnf
      refine Len.map ?_
      conv => whnf
      refine Ask.o h fun p7 h => ?_
      conv => whnf
      refine Elem.o (by first | omega | (simp only [mulN] at *; omega) | (simp [mulN] at *; omega)) ?_
      conv => whnf
      refine Br.no ?_
      conv => whnf
      refine Br.no ?_
      conv => whnf
      refine Br.no ?_
      conv => whnf
      refine CallQ.o V.bool (by first | rfl | simp only [mulN_one, V.fz, fzL, V.up, upL, fzL_map, fz_slr, fz_at, slr, List.cons_append, List.nil_append] | simp [mulN_one, V.fz, fzL, V.up, upL, fzL_map, fz_slr, fz_at, slr]) h (fun r h => t_spec_l1Has h) (fun r8 h => ?_)
      conv => whnf
      refine Br.no ?_
      conv => whnf
      refine Br.no ?_
      conv => whnf
      refine Br.flip ?_
      conv => whnf
      refine Br.ob h (fun p9 h => ?_) (fun p9 h => ?_)
      · conv => whnf
        refine Ask.o h fun p10 h => ?_
        conv => whnf
        cases h; exact ⟨rfl, rfl⟩
      · conv => whnf
        cases h; exact ⟨rfl, rfl⟩
    · conv => whnf
      refine Br.yes ?_
      conv => whnf
      refine Br.yes ?_
      conv => whnf
      refine Br.yes ?_
      conv => whnf
      refine Br.yes ?_
      conv => whnf
      refine Br.yes ?_
      conv => whnf
      refine Br.yes ?_
      conv => whnf
      refine Br.yes ?_
      conv => whnf
      refine Br.yes ?_
      conv => whnf
      refine Br.yes ?_
      conv => whnf
      cases h; exact ⟨rfl, rfl⟩
  · conv => whnf
    cases h; exact ⟨rfl, rfl⟩

noncomputable def F_spec_l23Good_l2 (p0 : SPoset) (x5 : Int) : Int → Option (Int ⊕ (Unit ⊕ Unit)) := fun x6 =>
   ask ((0 : Int) ≤ x5 ∧ x5 < (↑p0.Below.length : Int)) <|
   if x6 < (↑(nth p0.Below x5.toNat).length : Int) then
    ask ((0 : Int) ≤ x5 ∧ x5 < (↑p0.Below.length : Int)) <|
    ask ((0 : Int) ≤ x6 ∧ x6 < (↑(nth p0.Below x5.toNat).length : Int)) <|
    if nth (nth p0.Below x5.toNat) x6.toNat ≠ x5 then
     ask ((0 : Int) ≤ nth (nth p0.Below x5.toNat) x6.toNat ∧ nth (nth p0.Below x5.toNat) x6.toNat < (↑p0.Below.length : Int)) <|
     (F_spec_l1Has (nth p0.Below (nth (nth p0.Below x5.toNat) x6.toNat).toNat) (x5)).bind fun r19 =>
     if (r19) = true then
      some (.inr (.inl ()))
     else
      ask ((0 : Int) ≤ nth (nth p0.Below x5.toNat) x6.toNat ∧ nth (nth p0.Below x5.toNat) x6.toNat < (↑p0.Below.length : Int)) <|
      ask ((0 : Int) ≤ x5 ∧ x5 < (↑p0.Below.length : Int)) <|
      (F_spec_l5Within (nth p0.Below (nth (nth p0.Below x5.toNat) x6.toNat).toNat) (nth p0.Below x5.toNat)).bind fun r23 =>
      if (r23) = true then
       ask (InI (x6 + (1 : Int))) <|
       some (.inl (x6 + (1 : Int)))
      else
       some (.inr (.inl ()))
    else
     ask ((0 : Int) ≤ nth (nth p0.Below x5.toNat) x6.toNat ∧ nth (nth p0.Below x5.toNat) x6.toNat < (↑p0.Below.length : Int)) <|
     ask ((0 : Int) ≤ x5 ∧ x5 < (↑p0.Below.length : Int)) <|
     (F_spec_l5Within (nth p0.Below (nth (nth p0.Below x5.toNat) x6.toNat).toNat) (nth p0.Below x5.toNat)).bind fun r28 =>
     if (r28) = true then
      ask (InI (x6 + (1 : Int))) <|
      some (.inl (x6 + (1 : Int)))
     else
      some (.inr (.inl ()))
   else
    some (.inr (.inr ()))
def S_spec_l23Good_l2 (p0 : SPoset) (x5 : Int) : Int → St := fun s => [(6, A.val (vint s)), (5, A.val (vint (x5))), (3, A.val (vint ((↑p0.Below.length : Int)))), (1, A.val ((rP true (rS_Poset false)) (p0)))]
def T_spec_l23Good_l2 (p0 : SPoset) (x5 : Int) : (Unit ⊕ Unit) → Tgt
  | (.inl _s) => (Ex.ret, [2], [(2, A.val (V.bool (false)))])
  | (.inr _s) => ((Ex.exit 4), [5, 3, 1], [(5, A.val (vint (x5))), (3, A.val (vint ((↑p0.Below.length : Int)))), (1, A.val ((rP true (rS_Poset false)) (p0)))])
theorem b_spec_l23Good_l2 {p0 : SPoset} {x5 : Int} (x6 : Int) (o : Int ⊕ (Unit ⊕ Unit)) (h : F_spec_l23Good_l2 p0 x5 x6 = some o) : vc Try.prog c_spec_l23Good_l2 (outQ [6, 5, 3, 1] (S_spec_l23Good_l2 p0 x5) (T_spec_l23Good_l2 p0 x5) o) (S_spec_l23Good_l2 p0 x5 x6) := by
  unfold F_spec_l23Good_l2 at h
  try dsimp only at h
  conv => whnf
  refine Cells.lit rfl rfl ?_
  conv => whnf
  refine Len.map ?_
  conv => whnf
  refine Ask.o h fun p13 h => ?_
  conv => whnf
  refine Elem.o (by first | omega | (simp only [mulN] at *; omega) | (simp [mulN] at *; omega)) ?_
  conv => whnf
  refine Len.map ?_
  conv => whnf
  refine Br.od h (fun p14 h => ?_) (fun p14 h => ?_)
  · conv => whnf
    refine Cells.lit rfl rfl ?_
    conv => whnf
    refine Len.map ?_
    conv => whnf
    refine Ask.o h fun p15 h => ?_
    conv => whnf
    refine Elem.o (by first | omega | (simp only [mulN] at *; omega) | (simp [mulN] at *; omega)) ?_
    conv => whnf
    refine Len.map ?_
    conv => whnf
    refine Ask.o h fun p16 h => ?_
    conv => whnf
    refine Elem.o (by first | omega | (simp only [mulN] at *; omega) | (simp [mulN] at *; omega)) ?_
    conv => whnf
    refine Br.on h (fun p17 h => ?_) (fun p17 h => ?_)
    · conv => whnf
      refine Br.yes ?_
      conv => whnf
      refine Cells.lit rfl rfl ?_
      conv => whnf
      refine Br.yes ?_
      conv => whnf
      refine Br.yes ?_
      conv => whnf
      refine Len.map ?_
      conv => whnf
      refine Ask.o h fun p18 h => ?_
      conv => whnf
      refine Elem.o (by first | omega | (simp only [mulN] at *; omega) | (simp [mulN] at *; omega)) ?_
      conv => whnf
      refine Br.yes ?_
      conv => whnf
      refine Br.yes ?_
      conv => whnf
      refine Br.yes ?_
      conv => whnf
      refine CallP.o V.bool (by first | rfl | simp only [mulN_one, V.fz, fzL, V.up, upL, fzL_map, fz_slr, fz_at, slr, List.cons_append, List.nil_append] | simp [mulN_one, V.fz, fzL, V.up, upL, fzL_map, fz_slr, fz_at, slr]) h (fun r h => t_spec_l1Has h) (fun r19 h => ?_)
      conv => whnf
      refine Br.yes ?_
      conv => whnf
      refine Br.ob h (fun p20 h => ?_) (fun p20 h => ?_)
      · conv => whnf
        refine Br.yes ?_
        conv => whnf
        refine Br.yes ?_
        conv => whnf
        refine Br.yes ?_
        conv => whnf
        refine Br.yes ?_
        conv => whnf
        refine Br.yes ?_
        conv => whnf
        refine Br.yes ?_
        conv => whnf
        refine Br.yes ?_
        conv => whnf
        refine Br.yes ?_
        conv => whnf
        refine Br.yes ?_
        conv => whnf
        refine Br.yes ?_
        conv => whnf
        refine Br.yes ?_
        conv => whnf
        refine Br.yes ?_
        conv => whnf
        refine Br.yes ?_
        conv => whnf
        cases h; exact ⟨rfl, rfl⟩
      · conv => whnf
        refine Br.no ?_
        conv => whnf
        refine Cells.lit rfl rfl ?_
        conv => whnf
        refine Br.no ?_
        conv => whnf
        refine Br.no ?_
        conv => whnf
        refine Len.map ?_
        conv => whnf
        refine Ask.o h fun p21 h => ?_
        conv => whnf
        refine Elem.o (by first | omega | (simp only [mulN] at *; omega) | (simp [mulN] at *; omega)) ?_
        conv => whnf
        refine Br.no ?_
        conv => whnf
        refine Br.no ?_
        conv => whnf
        refine Br.no ?_
        conv => whnf
        refine Cells.lit rfl rfl ?_
        conv => whnf
        refine Br.no ?_
        conv => whnf
        refine Br.no ?_
        conv => whnf
        refine Len.map ?_
        conv => whnf
        refine Ask.o h fun p22 h => ?_
        conv => whnf
        refine Elem.o (by first | omega | (simp only [mulN] at *; omega) | (simp [mulN] at *; omega)) ?_
        conv => whnf
        refine Br.no ?_
        conv => whnf
        refine Br.no ?_
        conv => whnf
        refine CallQ.o V.bool (by first | rfl | simp only [mulN_one, V.fz, fzL, V.up, upL, fzL_map, fz_slr, fz_at, slr, List.cons_append, List.nil_append] | simp [mulN_one, V.fz, fzL, V.up, upL, fzL_map, fz_slr, fz_at, slr]) h (fun r h => t_spec_l5Within h) (fun r23 h => ?_)
        conv => whnf
        refine Br.no ?_
        conv => whnf
        refine Br.no ?_
        conv => whnf
        refine Br.flip ?_
        conv => whnf
        refine Br.ob h (fun p24 h => ?_) (fun p24 h => ?_)
        · conv => whnf
          refine Ask.o h fun p25 h => ?_
          conv => whnf
          cases h; exact ⟨rfl, rfl⟩
        · conv => whnf
          cases h; exact ⟨rfl, rfl⟩
    · conv => whnf
      refine Br.no ?_
      conv => whnf
      refine Br.no ?_
      conv => whnf
      refine Br.no ?_
      conv => whnf
      refine Br.no ?_
      conv => whnf
      refine Br.no ?_
      conv => whnf
      refine Br.no ?_
      conv => whnf
      refine Br.no ?_
      conv => whnf
      refine Br.no ?_
      conv => whnf
      refine Br.no ?_
      conv => whnf
      refine Cells.lit rfl rfl ?_
      conv => whnf
      refine Br.no ?_
      conv => whnf
      refine Br.no ?_
      conv => whnf
      refine Len.map ?_
      conv => whnf
      refine Ask.o h fun p26 h => ?_
      conv => whnf
      refine Elem.o (by first | omega | (simp only [mulN] at *; omega) | (simp [mulN] at *; omega)) ?_
      conv => whnf
      refine Br.no ?_
      conv => whnf
      refine Br.no ?_
      conv => whnf
      refine Br.no ?_
      conv => whnf
      refine Cells.lit rfl rfl ?_
      conv => whnf
      refine Br.no ?_
      conv => whnf
      refine Br.no ?_
      conv => whnf
      refine Len.map ?_
      conv => whnf
      refine Ask.o h fun p27 h => ?_
      conv => whnf
      refine Elem.o (by first | omega | (simp only [mulN] at *; omega) | (simp [mulN] at *; omega)) ?_
      conv => whnf
      refine Br.no ?_
      conv => whnf
      refine Br.no ?_
      conv => whnf
      refine CallQ.o V.bool (by first | rfl | simp only [mulN_one, V.fz, fzL, V.up, upL, fzL_map, fz_slr, fz_at, slr, List.cons_append, List.nil_append] | simp [mulN_one, V.fz, fzL, V.up, upL, fzL_map, fz_slr, fz_at, slr]) h (fun r h => t_spec_l5Within h) (fun r28 h => ?_)
      conv => whnf
      refine Br.no ?_
      conv => whnf
      refine Br.no ?_
      conv => whnf
      refine Br.flip ?_
      conv => whnf
      refine Br.ob h (fun p29 h => ?_) (fun p29 h => ?_)
      · conv => whnf
        refine Ask.o h fun p30 h => ?_
        conv => whnf
        cases h; exact ⟨rfl, rfl⟩
      · conv => whnf
        cases h; exact ⟨rfl, rfl⟩
  · conv => whnf
    cases h; exact ⟨rfl, rfl⟩

noncomputable def F_spec_l23Good_l3 (p0 : SPoset) : Int → Option (Int ⊕ (Unit ⊕ Unit)) := fun x5 =>
   if x5 < (↑p0.Below.length : Int) then
    (loopO (F_spec_l23Good_l2 p0 x5) (0 : Int)).bind fun t => match t with
    | (.inl _) => (some (.inr (.inl ())))
    | (.inr _) => (ask (InI (x5 + (1 : Int))) <|
      some (.inl (x5 + (1 : Int))))
   else
    some (.inr (.inr ()))
def S_spec_l23Good_l3 (p0 : SPoset) : Int → St := fun s => [(5, A.val (vint s)), (3, A.val (vint ((↑p0.Below.length : Int)))), (1, A.val ((rP true (rS_Poset false)) (p0)))]
def T_spec_l23Good_l3 (_p0 : SPoset) : (Unit ⊕ Unit) → Tgt
  | (.inl _s) => (Ex.ret, [2], [(2, A.val (V.bool (false)))])
  | (.inr _s) => ((Ex.exit 2), [], [])
theorem b_spec_l23Good_l3 {p0 : SPoset} (x5 : Int) (o : Int ⊕ (Unit ⊕ Unit)) (h : F_spec_l23Good_l3 p0 x5 = some o) : vc Try.prog c_spec_l23Good_l3 (outQ [5, 3, 1] (S_spec_l23Good_l3 p0) (T_spec_l23Good_l3 p0) o) (S_spec_l23Good_l3 p0 x5) := by
  unfold F_spec_l23Good_l3 at h
  try dsimp only at h
  conv => whnf
  refine Br.od h (fun p12 h => ?_) (fun p12 h => ?_)
  · conv => whnf
    refine LoopQ.o [6, 5, 3, 1] (S_spec_l23Good_l2 p0 x5) (T_spec_l23Good_l2 p0 x5) h (fun s o h => b_spec_l23Good_l2 s o h) (by first | rfl | simp [restrict, look, mulN_one, V.fz, fzL, V.up, upL, fzL_map, fz_slr, fz_at, slr]) (by rintro (_ | _) <;> rfl) ?_
    rintro (⟨⟩ | ⟨⟩) h
    · try dsimp only at h
      conv => whnf
      cases h; exact ⟨rfl, rfl⟩
    · try dsimp only at h
      conv => whnf
      refine Ask.o h fun p32 h => ?_
      conv => whnf
      cases h; exact ⟨rfl, rfl⟩
  · conv => whnf
    cases h; exact ⟨rfl, rfl⟩

noncomputable def F_spec_l23Good (p0 : SPoset) : Option Bool :=
  if (↑p0.Below.length : Int) > (10 : Int) then
   some false
  else
   (loopO (F_spec_l23Good_l1 p0) (0 : Int)).bind fun t => match t with
   | (.inl _) => (some false)
   | (.inr _) => ((loopO (F_spec_l23Good_l3 p0) (0 : Int)).bind fun t => match t with
     | (.inl _) => (some false)
     | (.inr _) => (some true))
theorem t_spec_l23Good {p0 : SPoset} {v : Bool} (h : F_spec_l23Good p0 = some v) : Ret Try.prog f_spec_l23Good [(rS_Poset false) p0] (V.bool v) := by
  refine ret_vc k_spec_l23Good (Nat.le_of_ble_eq_true rfl) ?_
  unfold F_spec_l23Good at h
  conv => whnf
  refine Cells.lit rfl rfl ?_
  conv => whnf
  refine Len.map ?_
  conv => whnf
  refine Br.od h (fun p1 h => ?_) (fun p1 h => ?_)
  · conv => whnf
    cases h; exact (by first | rfl | simp [resV, mulN_one, V.fz, fzL, V.up, upL, fzL_map, fz_slr, fz_at, slr])
  · conv => whnf
    refine LoopQ.o [4, 3, 1] (S_spec_l23Good_l1 p0) (T_spec_l23Good_l1 p0) h (fun s o h => b_spec_l23Good_l1 s o h) (by first | rfl | simp [restrict, look, mulN_one, V.fz, fzL, V.up, upL, fzL_map, fz_slr, fz_at, slr]) (by rintro (_ | _) <;> rfl) ?_
    rintro (⟨⟩ | ⟨⟩) h
    · try dsimp only at h
      conv => whnf
      cases h; exact (by first | rfl | simp [resV, mulN_one, V.fz, fzL, V.up, upL, fzL_map, fz_slr, fz_at, slr])
    · try dsimp only at h
      conv => whnf
      refine LoopQ.o [5, 3, 1] (S_spec_l23Good_l3 p0) (T_spec_l23Good_l3 p0) h (fun s o h => b_spec_l23Good_l3 s o h) (by first | rfl | simp [restrict, look, mulN_one, V.fz, fzL, V.up, upL, fzL_map, fz_slr, fz_at, slr]) (by rintro (_ | _) <;> rfl) ?_
      rintro (⟨⟩ | ⟨⟩) h
      · try dsimp only at h
        conv => whnf
        cases h; exact (by first | rfl | simp [resV, mulN_one, V.fz, fzL, V.up, upL, fzL_map, fz_slr, fz_at, slr])
      · try dsimp only at h
        conv => whnf
        cases h; exact (by first | rfl | simp [resV, mulN_one, V.fz, fzL, V.up, upL, fzL_map, fz_slr, fz_at, slr])

noncomputable def F_impl_MinimalElements_1 (x0 : Int) (a1 : (List (List Bool))) : Option Bool :=
  (F_impl_order_none (a1) (fun w_0 => F_impl_MinimalElements_1_1 w_0 (a1) (x0))).bind fun r1 =>
  some r1
theorem t_impl_MinimalElements_1 {x0 : Int} {a1 : (List (List Bool))} {v : Bool} (h : F_impl_MinimalElements_1 x0 a1 = some v) : Ret Try.prog f_impl_MinimalElements_1 [vint x0, (rP false (slr false 1 (slr false 1 V.bool))) a1] (V.bool v) := by
  refine ret_vc k_impl_MinimalElements_1 (Nat.le_of_ble_eq_true rfl) ?_
  unfold F_impl_MinimalElements_1 at h
  conv => whnf
  refine CallQ.rd V.bool (by first | rfl | simp only [mulN_one, V.fz, fzL, V.up, upL, fzL_map, fz_slr, fz_at, slr, List.cons_append, List.nil_append] | simp [mulN_one, V.fz, fzL, V.up, upL, fzL_map, fz_slr, fz_at, slr]) (fun _ => rfl) h (fun r h => t_impl_order_none (f_so0 := f_impl_MinimalElements_1_1) (c_so0 := [(rP false (slr false 1 (slr false 1 V.bool))) (a1), (rP false vint) (x0)]) (fun w_0 v h => Ret.cast (by first | rfl | simp only [mulN_one, V.fz, fzL, V.up, upL, fzL_map, fz_slr, fz_at, slr, List.cons_append, List.nil_append] | simp [mulN_one, V.fz, fzL, V.up, upL, fzL_map, fz_slr, fz_at, slr]) (t_impl_MinimalElements_1_1 h)) h) (fun r1 h => ?_)
  conv => whnf
  cases h; exact (by first | rfl | simp [resV, mulN_one, V.fz, fzL, V.up, upL, fzL_map, fz_slr, fz_at, slr])

noncomputable def F_spec_l23Dual_l1 (p0 : SPoset) (x4 : Int) (_x3 : SPoset) : (Int × (List Int)) → Option ((Int × (List Int)) ⊕ (List Int)) := fun (x6, x5) =>
   if x6 < (↑p0.Below.length : Int) then
    (F_spec_l23Leq (p0) (x4) (x6)).bind fun r3 =>
    if (r3) = true then
     ask ((x5).length + ([x6]).length ≤ LIM) <|
     ask (InI (x6 + (1 : Int))) <|
     some (.inl (x6 + (1 : Int), x5 ++ [x6]))
    else
     ask (InI (x6 + (1 : Int))) <|
     some (.inl (x6 + (1 : Int), x5))
   else
    some (.inr x5)
def S_spec_l23Dual_l1 (p0 : SPoset) (x4 : Int) (x3 : SPoset) : (Int × (List Int)) → St := fun s => [(6, A.val (vint s.1)), (5, A.val ((slr true 1 vint) s.2)), (4, A.val (vint (x4))), (3, A.val ((rP true (rS_Poset true)) (x3))), (2, A.val ((rP true (rS_Poset true)) ({ Below := nilL (List Int) }))), (1, A.val ((rP true (rS_Poset false)) (p0)))]
def T_spec_l23Dual_l1 (p0 : SPoset) (x4 : Int) (x3 : SPoset) : (List Int) → Tgt
  | s => ((Ex.exit 2), [5, 4, 3, 2, 1], [(5, A.val ((slr true 1 vint) s)), (4, A.val (vint (x4))), (3, A.val ((rP true (rS_Poset true)) (x3))), (2, A.val ((rP true (rS_Poset true)) ({ Below := nilL (List Int) }))), (1, A.val ((rP true (rS_Poset false)) (p0)))])
theorem b_spec_l23Dual_l1 {p0 : SPoset} {x4 : Int} {x3 : SPoset} (s : (Int × (List Int))) (o : (Int × (List Int)) ⊕ (List Int)) (h : F_spec_l23Dual_l1 p0 x4 x3 s = some o) : vc Try.prog c_spec_l23Dual_l1 (outQ [6, 5, 4, 3, 2, 1] (S_spec_l23Dual_l1 p0 x4 x3) (T_spec_l23Dual_l1 p0 x4 x3) o) (S_spec_l23Dual_l1 p0 x4 x3 s) := by
  obtain ⟨x6, x5⟩ := s
  unfold F_spec_l23Dual_l1 at h
  try dsimp only at h
  conv => whnf
  refine Cells.lit rfl rfl ?_
  conv => whnf
  refine Len.map ?_
  conv => whnf
  refine Br.od h (fun p2 h => ?_) (fun p2 h => ?_)
  · conv => whnf
    refine Cells.lit rfl rfl ?_
    conv => whnf
    refine CallQ.o V.bool (by first | rfl | simp only [mulN_one, V.fz, fzL, V.up, upL, fzL_map, fz_slr, fz_at, slr, List.cons_append, List.nil_append] | simp [mulN_one, V.fz, fzL, V.up, upL, fzL_map, fz_slr, fz_at, slr]) h (fun r h => t_spec_l23Leq h) (fun r3 h => ?_)
    conv => whnf
    refine Br.ob h (fun p4 h => ?_) (fun p4 h => ?_)
    · conv => whnf
      refine BslQ.o vint [x6] (fun _ => ⟨rfl, rfl⟩) (by first | rfl | simp only [mulN_one, V.fz, fzL, V.up, upL, fzL_map, fz_slr, fz_at, slr, List.cons_append, List.nil_append] | simp [mulN_one, V.fz, fzL, V.up, upL, fzL_map, fz_slr, fz_at, slr]) ?_
      conv => whnf
      refine NoOwn.o (fun _ => rfl) ?_
      conv => whnf
      refine AppQ.o vint (fun _ => ⟨rfl, rfl⟩) (x5) ([x6]) (by first | rfl | simp only [mulN_one, V.fz, fzL, V.up, upL, fzL_map, fz_slr, fz_at, slr, List.cons_append, List.nil_append] | simp [mulN_one, V.fz, fzL, V.up, upL, fzL_map, fz_slr, fz_at, slr]) (by first | rfl | simp only [mulN_one, V.fz, fzL, V.up, upL, fzL_map, fz_slr, fz_at, slr, List.cons_append, List.nil_append] | simp [mulN_one, V.fz, fzL, V.up, upL, fzL_map, fz_slr, fz_at, slr]) h fun h => ?_
      conv => whnf
      refine Ask.o h fun p5 h => ?_
      conv => whnf
      cases h; exact ⟨rfl, rfl⟩
    · conv => whnf
      refine Ask.o h fun p6 h => ?_
      conv => whnf
      cases h; exact ⟨rfl, rfl⟩
  · conv => whnf
    cases h; exact ⟨rfl, rfl⟩

noncomputable def F_spec_l23Dual_l2 (p0 : SPoset) : (Int × SPoset) → Option ((Int × SPoset) ⊕ SPoset) := fun (x4, x3) =>
   if x4 < (↑p0.Below.length : Int) then
    (loopO (F_spec_l23Dual_l1 p0 x4 x3) ((0 : Int), nilL Int)).bind fun q7_5 =>
    ask ((x3.Below).length + ([q7_5]).length ≤ LIM) <|
    ask (InI (x4 + (1 : Int))) <|
    some (.inl (x4 + (1 : Int), { Below := x3.Below ++ [q7_5] }))
   else
    some (.inr x3)
def S_spec_l23Dual_l2 (p0 : SPoset) : (Int × SPoset) → St := fun s => [(4, A.val (vint s.1)), (3, A.val ((rP true (rS_Poset true)) s.2)), (2, A.val ((rP true (rS_Poset true)) ({ Below := nilL (List Int) }))), (1, A.val ((rP true (rS_Poset false)) (p0)))]
def T_spec_l23Dual_l2 (_p0 : SPoset) : SPoset → Tgt
  | s => ((Ex.exit 0), [3, 2], [(3, A.val ((rP true (rS_Poset true)) s)), (2, A.val ((rP true (rS_Poset true)) ({ Below := nilL (List Int) })))])
theorem b_spec_l23Dual_l2 {p0 : SPoset} (s : (Int × SPoset)) (o : (Int × SPoset) ⊕ SPoset) (h : F_spec_l23Dual_l2 p0 s = some o) : vc Try.prog c_spec_l23Dual_l2 (outQ [4, 3, 2, 1] (S_spec_l23Dual_l2 p0) (T_spec_l23Dual_l2 p0) o) (S_spec_l23Dual_l2 p0 s) := by
  obtain ⟨x4, x3⟩ := s
  unfold F_spec_l23Dual_l2 at h
  try dsimp only at h
  conv => whnf
  refine Cells.lit rfl rfl ?_
  conv => whnf
  refine Len.map ?_
  conv => whnf
  refine Br.od h (fun p1 h => ?_) (fun p1 h => ?_)
  · conv => whnf
    refine BslQ.o vint (nilL Int) (fun _ => ⟨rfl, rfl⟩) (by first | rfl | simp only [mulN_one, V.fz, fzL, V.up, upL, fzL_map, fz_slr, fz_at, slr, List.cons_append, List.nil_append] | simp [mulN_one, V.fz, fzL, V.up, upL, fzL_map, fz_slr, fz_at, slr]) ?_
    conv => whnf
    refine LoopQ.o [6, 5, 4, 3, 2, 1] (S_spec_l23Dual_l1 p0 x4 x3) (T_spec_l23Dual_l1 p0 x4 x3) h (fun s o h => b_spec_l23Dual_l1 s o h) (by first | rfl | simp [restrict, look, mulN_one, V.fz, fzL, V.up, upL, fzL_map, fz_slr, fz_at, slr]) (fun _ => rfl) ?_
    rintro q7_5 h
    try dsimp only at h
    conv => whnf
    refine Cells.lit rfl rfl ?_
    conv => whnf
    refine BslQ.o (slr true 1 vint) [q7_5] (fun _ => ⟨rfl, rfl⟩) (by first | rfl | simp only [mulN_one, V.fz, fzL, V.up, upL, fzL_map, fz_slr, fz_at, slr, List.cons_append, List.nil_append] | simp [mulN_one, V.fz, fzL, V.up, upL, fzL_map, fz_slr, fz_at, slr]) ?_
    conv => whnf
    refine NoOwn.own rfl ?_
    conv => whnf
    refine AppQ.o (slr true 1 vint) (fun _ => ⟨rfl, rfl⟩) (x3.Below) ([q7_5]) (by first | rfl | simp only [mulN_one, V.fz, fzL, V.up, upL, fzL_map, fz_slr, fz_at, slr, List.cons_append, List.nil_append] | simp [mulN_one, V.fz, fzL, V.up, upL, fzL_map, fz_slr, fz_at, slr]) (by first | rfl | simp only [mulN_one, V.fz, fzL, V.up, upL, fzL_map, fz_slr, fz_at, slr, List.cons_append, List.nil_append] | simp [mulN_one, V.fz, fzL, V.up, upL, fzL_map, fz_slr, fz_at, slr]) h fun h => ?_
    conv => whnf
    refine SetKids.lit rfl ?_
    conv => whnf
    refine Ask.o h fun p8 h => ?_
    conv => whnf
    cases h; exact ⟨rfl, rfl⟩
  · conv => whnf
    cases h; exact ⟨rfl, rfl⟩

noncomputable def F_spec_l23Dual (p0 : SPoset) : Option SPoset :=
  (loopO (F_spec_l23Dual_l2 p0) ((0 : Int), { Below := nilL (List Int) })).bind fun q9_3 =>
  some q9_3
theorem t_spec_l23Dual {p0 : SPoset} {v : SPoset} (h : F_spec_l23Dual p0 = some v) : Ret Try.prog f_spec_l23Dual [(rS_Poset false) p0] ((rS_Poset true) v) := by
  refine ret_vc k_spec_l23Dual (Nat.le_of_ble_eq_true rfl) ?_
  unfold F_spec_l23Dual at h
  conv => whnf
  refine BslQ.o (slr true 1 vint) (nilL (List Int)) (fun _ => ⟨rfl, rfl⟩) (by first | rfl | simp only [mulN_one, V.fz, fzL, V.up, upL, fzL_map, fz_slr, fz_at, slr, List.cons_append, List.nil_append] | simp [mulN_one, V.fz, fzL, V.up, upL, fzL_map, fz_slr, fz_at, slr]) ?_
  conv => whnf
  refine SetKids.lit rfl ?_
  conv => whnf
  refine LoopQ.o [4, 3, 2, 1] (S_spec_l23Dual_l2 p0) (T_spec_l23Dual_l2 p0) h (fun s o h => b_spec_l23Dual_l2 s o h) (by first | rfl | simp [restrict, look, mulN_one, V.fz, fzL, V.up, upL, fzL_map, fz_slr, fz_at, slr]) (fun _ => rfl) ?_
  rintro q9_3 h
  try dsimp only at h
  conv => whnf
  refine Cells.lit rfl rfl ?_
  conv => whnf
  refine SetKids.lit rfl ?_
  conv => whnf
  cases h; exact (by first | rfl | simp [resV, mulN_one, V.fz, fzL, V.up, upL, fzL_map, fz_slr, fz_at, slr])

noncomputable def F_impl_MaximalElements_1 (x0 : Int) (a1 : (List (List Bool))) : Option Bool :=
  (F_impl_order_none (a1) (fun w_0 => F_impl_MaximalElements_1_1 w_0 (a1) (x0))).bind fun r1 =>
  some r1
theorem t_impl_MaximalElements_1 {x0 : Int} {a1 : (List (List Bool))} {v : Bool} (h : F_impl_MaximalElements_1 x0 a1 = some v) : Ret Try.prog f_impl_MaximalElements_1 [vint x0, (rP false (slr false 1 (slr false 1 V.bool))) a1] (V.bool v) := by
  refine ret_vc k_impl_MaximalElements_1 (Nat.le_of_ble_eq_true rfl) ?_
  unfold F_impl_MaximalElements_1 at h
  conv => whnf
  refine CallQ.rd V.bool (by first | rfl | simp only [mulN_one, V.fz, fzL, V.up, upL, fzL_map, fz_slr, fz_at, slr, List.cons_append, List.nil_append] | simp [mulN_one, V.fz, fzL, V.up, upL, fzL_map, fz_slr, fz_at, slr]) (fun _ => rfl) h (fun r h => t_impl_order_none (f_so0 := f_impl_MaximalElements_1_1) (c_so0 := [(rP false (slr false 1 (slr false 1 V.bool))) (a1), (rP false vint) (x0)]) (fun w_0 v h => Ret.cast (by first | rfl | simp only [mulN_one, V.fz, fzL, V.up, upL, fzL_map, fz_slr, fz_at, slr, List.cons_append, List.nil_append] | simp [mulN_one, V.fz, fzL, V.up, upL, fzL_map, fz_slr, fz_at, slr]) (t_impl_MaximalElements_1_1 h)) h) (fun r1 h => ?_)
  conv => whnf
  cases h; exact (by first | rfl | simp [resV, mulN_one, V.fz, fzL, V.up, upL, fzL_map, fz_slr, fz_at, slr])

noncomputable def F_impl_latticeOf (p0 : SPoset) : Option ((Option Slattice) × Bool) :=
  (F_impl_orderOf (p0)).bind fun r1 =>
  ((if (r1.snd) = true then
      if (↑r1.fst.length : Int) = (0 : Int) then
       some (.inl ())
      else
       some (.inr ())
     else
      some (.inl ()) : Option (Unit ⊕ Unit))).bind fun t => match t with
  | (.inl _) => (some (none, false))
  | (.inr _) => ((F_impl_order_meetTable (r1.fst)).bind fun r5 =>
    (F_impl_order_dual (r1.fst)).bind fun r6 =>
    (F_impl_order_meetTable (r6)).bind fun r7 =>
    if (r5.snd) = true then
     some (some { order := r1.fst, meets := r5.fst, joins := r7.fst }, r7.snd)
    else
     some (some { order := r1.fst, meets := r5.fst, joins := r7.fst }, false))
theorem t_impl_latticeOf {p0 : SPoset} {v : ((Option Slattice) × Bool)} (h : F_impl_latticeOf p0 = some v) : Ret Try.prog f_impl_latticeOf [(rS_Poset false) p0] ((fun r => V.tup [(rO true (rS_lattice true)) r.1, V.bool r.2]) v) := by
  refine ret_vc k_impl_latticeOf (Nat.le_of_ble_eq_true rfl) ?_
  unfold F_impl_latticeOf at h
  conv => whnf
  refine Cells.lit rfl rfl ?_
  conv => whnf
  refine CallQ.o (fun r => V.tup [(slr true 1 (slr true 1 V.bool)) r.1, V.bool r.2]) (by first | rfl | simp only [mulN_one, V.fz, fzL, V.up, upL, fzL_map, fz_slr, fz_at, slr, List.cons_append, List.nil_append] | simp [mulN_one, V.fz, fzL, V.up, upL, fzL_map, fz_slr, fz_at, slr]) h (fun r h => t_impl_orderOf h) (fun r1 h => ?_)
  conv => whnf
  refine CutQ.o (fun t : (Unit ⊕ Unit) => match t with | (.inl s) => (Ex.ret, [3, 2], [(3, A.val (V.bool (false))), (2, A.val V.nilp.up)]) | (.inr s) => (Ex.normal, [4], [(4, A.val ((slr true 1 (slr true 1 V.bool)) (r1.fst)))])) h ?_ ?_
  · intro t h
    conv => whnf
    refine Br.flip ?_
    conv => whnf
    refine Br.ob h (fun p2 h => ?_) (fun p2 h => ?_)
    · conv => whnf
      refine Br.no ?_
      conv => whnf
      refine Len.map ?_
      conv => whnf
      refine Br.no ?_
      conv => whnf
      refine Br.no ?_
      conv => whnf
      refine Br.oe h (fun p3 h => ?_) (fun p3 h => ?_)
      · conv => whnf
        cases h; exact ⟨rfl, rfl⟩
      · conv => whnf
        cases h; exact ⟨rfl, rfl⟩
    · conv => whnf
      refine Br.yes ?_
      conv => whnf
      refine Br.yes ?_
      conv => whnf
      refine Br.yes ?_
      conv => whnf
      refine Br.yes ?_
      conv => whnf
      cases h; exact ⟨rfl, rfl⟩
  · rintro (⟨⟩ | ⟨⟩) h
    · try dsimp only at h
      conv => whnf
      cases h; exact (by first | rfl | simp [resV, mulN_one, V.fz, fzL, V.up, upL, fzL_map, fz_slr, fz_at, slr])
    · try dsimp only at h
      conv => whnf
      refine CallQ.rd (fun r => V.tup [(slr true 1 (slr true 1 vint)) r.1, V.bool r.2]) (by first | rfl | simp only [V.fz, fzL_map, slr] | simp [mulN_one, V.fz, fzL, V.up, upL, fzL_map, fz_slr, fz_at, slr]) (fun _ => by simp [V.noFz, noFzL, noFzL_map]) h (fun r h => t_impl_order_meetTable h) (fun r5 h => ?_)
      conv => whnf
      refine CallQ.rd (slr true 1 (slr true 1 V.bool)) (by first | rfl | simp only [V.fz, fzL_map, slr] | simp [mulN_one, V.fz, fzL, V.up, upL, fzL_map, fz_slr, fz_at, slr]) (fun _ => by simp [V.noFz, noFzL_map]) h (fun r h => t_impl_order_dual h) (fun r6 h => ?_)
      conv => whnf
      refine CallQ.rd (fun r => V.tup [(slr true 1 (slr true 1 vint)) r.1, V.bool r.2]) (by first | rfl | simp only [V.fz, fzL_map, slr] | simp [mulN_one, V.fz, fzL, V.up, upL, fzL_map, fz_slr, fz_at, slr]) (fun _ => by simp [V.noFz, noFzL, noFzL_map]) h (fun r h => t_impl_order_meetTable h) (fun r7 h => ?_)
      conv => whnf
      refine Br.ob h (fun p8 h => ?_) (fun p8 h => ?_)
      · conv => whnf
        refine Br.yes ?_
        conv => whnf
        cases h; exact (by first | rfl | simp [resV, mulN_one, V.fz, fzL, V.up, upL, fzL_map, fz_slr, fz_at, slr])
      · conv => whnf
        refine Br.no ?_
        conv => whnf
        cases h; exact (by first | rfl | simp [resV, mulN_one, V.fz, fzL, V.up, upL, fzL_map, fz_slr, fz_at, slr])

end Go.Proofs.Ythcnmahjhahafaa.Ax
