/-
  What the functions compute, as functions on plain data, and that the program does compute it; written by program.
-/
import Derived.Test.YtoikbcagaanhgaaCode
import Derived.Test.YtoikbcagaanhgaaG3
import Derived.Test.YtoikbcagaanhgaaG4
import Derived.Test.YtoikbcagaanhgaaG5
import Derived.Test.YtoikbcagaanhgaaG7
import Derived.Test.YtoikbcagaanhgaaG8
import Derived.Test.YtoikbcagaanhgaaG11
namespace Go.Proofs.Ytoikbcagaanhgaa.Ax
open Go
set_option maxRecDepth 100000
set_option maxHeartbeats 4000000

noncomputable def F_spec_l1Cur_poset_l1 (r1 : Int) (x5 : Int) : (Int × (List (Int × Int)) × Sl1Cur) → Option ((Int × (List (Int × Int)) × Sl1Cur) ⊕ ((List (Int × Int)) × Sl1Cur)) := fun (x6, x4', x147') =>
 if x6 < r1 then
 (F_spec_l1Cur_one (x147') ((3 : Int))).bind fun (r6, u7) =>
 if (r6) = true then
 ask ((x4').length + ([(x5, x6)]).length ≤ LIM) <|
 ask (InI (x6 + (1 : Int))) <|
 some (.inl (x6 + (1 : Int), x4' ++ [(x5, x6)], u7))
 else
 ask (InI (x6 + (1 : Int))) <|
 some (.inl (x6 + (1 : Int), x4', u7))
 else
 some (.inr (x4', x147'))
def S_spec_l1Cur_poset_l1 (r1 : Int) (x5 : Int) : (Int × (List (Int × Int)) × Sl1Cur) → St := fun s => [(6, A.val (vint s.1)), (5, A.val (vint (x5))), (4, A.val ((slr true 2 (rA2 vint)) s.2.1)), (3, A.val (vint (r1))), (2, A.val ((rP true (rS_Poset true)) ({ Below := nilL (List Int) }))), (0, A.ref 147 []), (147, A.val ((rP true (rS_l1Cur false)) s.2.2))]
def T_spec_l1Cur_poset_l1 (r1 : Int) (x5 : Int) : ((List (Int × Int)) × Sl1Cur) → Tgt
 | s => ((Ex.exit 2), [5, 4, 3, 2, 0, 147], [(5, A.val (vint (x5))), (4, A.val ((slr true 2 (rA2 vint)) s.1)), (3, A.val (vint (r1))), (2, A.val ((rP true (rS_Poset true)) ({ Below := nilL (List Int) }))), (0, A.ref 147 []), (147, A.val ((rP true (rS_l1Cur false)) s.2))])
theorem b_spec_l1Cur_poset_l1 {r1 : Int} {x5 : Int} (s : (Int × (List (Int × Int)) × Sl1Cur)) (o : (Int × (List (Int × Int)) × Sl1Cur) ⊕ ((List (Int × Int)) × Sl1Cur)) (h : F_spec_l1Cur_poset_l1 r1 x5 s = some o) : vc Try.prog c_spec_l1Cur_poset_l1 (outQ [6, 5, 4, 3, 2, 0, 147] (S_spec_l1Cur_poset_l1 r1 x5) (T_spec_l1Cur_poset_l1 r1 x5) o) (S_spec_l1Cur_poset_l1 r1 x5 s) := by
  obtain ⟨x6, x4', x147'⟩ := s
  unfold F_spec_l1Cur_poset_l1 at h
  try dsimp only at h
  refine Br.od h (fun p5 h => ?_) (fun p5 h => ?_)
  · refine CallQ.io V.bool (rP true (rS_l1Cur false)) (by rfl) rfl (fun _ => rfl) (fun _ => ⟨rfl, rfl⟩) rfl h (fun r h => t_spec_l1Cur_one h) (fun r6 u7 h => ?_)
    refine Br.ob h (fun p8 h => ?_) (fun p8 h => ?_)
    · refine BslQ.o (rA2 vint) ([(x5, x6)]) (by exact fun _ => ⟨rfl, rfl⟩) (by rfl) ?_
      refine NoOwn.o (fun _ => rfl) ?_
      refine AppQ.o (m := 2) (rA2 vint) (by exact fun _ => ⟨rfl, rfl⟩) (x4') ([(x5, x6)]) (by rfl) (by rfl) h fun h => ?_
      refine Ask.o h fun p9 h => ?_
      cases h; exact ⟨rfl, rfl⟩
    refine Ask.o h fun p10 h => ?_
    cases h; exact ⟨rfl, rfl⟩
  cases h; exact ⟨rfl, rfl⟩

noncomputable def F_spec_l1Cur_poset_l2 (r1 : Int) : (Int × (List (Int × Int)) × Sl1Cur) → Option ((Int × (List (Int × Int)) × Sl1Cur) ⊕ ((List (Int × Int)) × Sl1Cur)) := fun (x5, x4, x147) =>
 if x5 < r1 then
 ask (InI (x5 + (1 : Int))) <|
 (loopO (F_spec_l1Cur_poset_l1 r1 x5) (x5 + (1 : Int), x4, x147)).bind fun (q11_4, q11_147) =>
 ask (InI (x5 + (1 : Int))) <|
 some (.inl (x5 + (1 : Int), q11_4, q11_147))
 else
 some (.inr (x4, x147))
def S_spec_l1Cur_poset_l2 (r1 : Int) : (Int × (List (Int × Int)) × Sl1Cur) → St := fun s => [(5, A.val (vint s.1)), (4, A.val ((slr true 2 (rA2 vint)) s.2.1)), (3, A.val (vint (r1))), (2, A.val ((rP true (rS_Poset true)) ({ Below := nilL (List Int) }))), (0, A.ref 147 []), (147, A.val ((rP true (rS_l1Cur false)) s.2.2))]
def T_spec_l1Cur_poset_l2 (r1 : Int) : ((List (Int × Int)) × Sl1Cur) → Tgt
 | s => ((Ex.exit 0), [4, 3, 2, 0, 147], [(4, A.val ((slr true 2 (rA2 vint)) s.1)), (3, A.val (vint (r1))), (2, A.val ((rP true (rS_Poset true)) ({ Below := nilL (List Int) }))), (0, A.ref 147 []), (147, A.val ((rP true (rS_l1Cur false)) s.2))])
theorem b_spec_l1Cur_poset_l2 {r1 : Int} (s : (Int × (List (Int × Int)) × Sl1Cur)) (o : (Int × (List (Int × Int)) × Sl1Cur) ⊕ ((List (Int × Int)) × Sl1Cur)) (h : F_spec_l1Cur_poset_l2 r1 s = some o) : vc Try.prog c_spec_l1Cur_poset_l2 (outQ [5, 4, 3, 2, 0, 147] (S_spec_l1Cur_poset_l2 r1) (T_spec_l1Cur_poset_l2 r1) o) (S_spec_l1Cur_poset_l2 r1 s) := by
  obtain ⟨x5, x4, x147⟩ := s
  unfold F_spec_l1Cur_poset_l2 at h
  try dsimp only at h
  refine Br.od h (fun p3 h => ?_) (fun p3 h => ?_)
  · refine Ask.o h fun p4 h => ?_
    refine LoopQ.o [6, 5, 4, 3, 2, 0, 147] (S_spec_l1Cur_poset_l1 r1 x5) (T_spec_l1Cur_poset_l1 r1 x5) h (fun s o h => b_spec_l1Cur_poset_l1 s o h) (by first | rfl | simp [restrict, look, mulN_one, V.fz, fzL, V.up, upL, fzL_map, fz_slr, fz_at, slr]) (fun _ => rfl) ?_
    rintro ⟨q11_4, q11_147⟩ h
    try dsimp only at h
    refine Ask.o h fun p12 h => ?_
    cases h; exact ⟨rfl, rfl⟩
  cases h; exact ⟨rfl, rfl⟩

noncomputable def F_spec_l1Cur_poset_l3 (_r1 : Int) (r14 : List Int) (_q20_147 : Sl1Cur) : (Int × (List (Int × Int))) → Option ((Int × (List (Int × Int))) ⊕ (List (Int × Int))) := fun (x8, x4) =>
 if x8 < (↑x4.length : Int) then
 ask ((0 : Int) ≤ x8 ∧ x8 < (↑x4.length : Int)) <|
 ask ((0 : Int) ≤ (nth x4 x8.toNat).fst ∧ (nth x4 x8.toNat).fst < (↑r14.length : Int)) <|
 ask ((0 : Int) ≤ x8 ∧ x8 < (↑x4.length : Int)) <|
 ask ((0 : Int) ≤ (nth x4 x8.toNat).snd ∧ (nth x4 x8.toNat).snd < (↑r14.length : Int)) <|
 ask ((0 : Int) ≤ x8 ∧ x8 < (↑x4.length : Int)) <|
 ask (InI (x8 + (1 : Int))) <|
 some (.inl (x8 + (1 : Int), x4.set x8.toNat (nth r14 (nth x4 x8.toNat).fst.toNat, nth r14 (nth x4 x8.toNat).snd.toNat)))
 else
 some (.inr x4)
def S_spec_l1Cur_poset_l3 (r1 : Int) (r14 : List Int) (q20_147 : Sl1Cur) : (Int × (List (Int × Int))) → St := fun s => [(8, A.val (vint s.1)), (7, A.val ((slr true 1 vint) (r14))), (4, A.val ((slr true 2 (rA2 vint)) s.2)), (3, A.val (vint (r1))), (2, A.val ((rP true (rS_Poset true)) ({ Below := nilL (List Int) }))), (0, A.ref 147 []), (147, A.val ((rP true (rS_l1Cur false)) (q20_147)))]
def T_spec_l1Cur_poset_l3 (r1 : Int) (_r14 : List Int) (q20_147 : Sl1Cur) : (List (Int × Int)) → Tgt
 | s => ((Ex.exit 4), [4, 3, 2, 0, 147], [(4, A.val ((slr true 2 (rA2 vint)) s)), (3, A.val (vint (r1))), (2, A.val ((rP true (rS_Poset true)) ({ Below := nilL (List Int) }))), (0, A.ref 147 []), (147, A.val ((rP true (rS_l1Cur false)) (q20_147)))])
theorem b_spec_l1Cur_poset_l3 {r1 : Int} {r14 : List Int} {q20_147 : Sl1Cur} (s : (Int × (List (Int × Int)))) (o : (Int × (List (Int × Int))) ⊕ (List (Int × Int))) (h : F_spec_l1Cur_poset_l3 r1 r14 q20_147 s = some o) : vc Try.prog c_spec_l1Cur_poset_l3 (outQ [8, 7, 4, 3, 2, 0, 147] (S_spec_l1Cur_poset_l3 r1 r14 q20_147) (T_spec_l1Cur_poset_l3 r1 r14 q20_147) o) (S_spec_l1Cur_poset_l3 r1 r14 q20_147 s) := by
  obtain ⟨x8, x4⟩ := s
  unfold F_spec_l1Cur_poset_l3 at h
  try dsimp only at h
  refine Len.map ?_
  refine Br.od h (fun p22 h => ?_) (fun p22 h => ?_)
  · refine Len.map ?_
    refine Ask.o h fun p23 h => ?_
    refine Ask.mk (by decide) ?_
    refine Idx.lit ?_
    refine Cells.wide (by exact fun _ => ⟨rfl, rfl⟩) (by first | omega | (simp [mulN] at *; omega)) (by decide) ?_
    refine Len.map ?_
    refine Ask.o h fun p24 h => ?_
    refine Cells.one (fun _ => ⟨rfl, rfl⟩) (by first | omega | (simp [mulN] at *; omega)) ?_
    refine Len.map ?_
    refine Ask.o h fun p25 h => ?_
    refine Ask.mk (by decide) ?_
    refine Idx.lit ?_
    refine Cells.wide (by exact fun _ => ⟨rfl, rfl⟩) (by first | omega | (simp [mulN] at *; omega)) (by decide) ?_
    refine Len.map ?_
    refine Ask.o h fun p26 h => ?_
    refine Cells.one (fun _ => ⟨rfl, rfl⟩) (by first | omega | (simp [mulN] at *; omega)) ?_
    refine Len.map ?_
    refine Ask.o h fun p27 h => ?_
    refine SetKids.wide0 (by exact fun _ => ⟨rfl, rfl⟩) ((nth r14 (nth x4 x8.toNat).fst.toNat, nth r14 (nth x4 x8.toNat).snd.toNat)) (by first | omega | (simp [mulN] at *; omega)) (by rfl) (by decide) ?_
    refine Ask.o h fun p28 h => ?_
    cases h; exact ⟨rfl, rfl⟩
  cases h; exact ⟨rfl, rfl⟩

noncomputable def F_spec_l1Cur_poset_l4 : (SPoset × Sl1Cur) → Option ((SPoset × Sl1Cur) ⊕ (SPoset × Sl1Cur)) := fun (x9, x147) =>
 (F_spec_l1Cur_pick (x147) ((2 : Int))).bind fun (r56, u57) =>
 ask (InI ((10 : Int) + r56)) <|
 if (↑x9.Below.length : Int) < (10 : Int) + r56 then
 ask ((x9.Below).length + ([[(↑x9.Below.length : Int)]]).length ≤ LIM) <|
 some (.inl ({ Below := x9.Below ++ [[(↑x9.Below.length : Int)]] }, u57))
 else
 some (.inr (x9, u57))
def S_spec_l1Cur_poset_l4 : (SPoset × Sl1Cur) → St := fun s => [(9, A.val ((rP true (rS_Poset true)) s.1)), (2, A.val ((rP true (rS_Poset true)) ({ Below := nilL (List Int) }))), (0, A.ref 147 []), (147, A.val ((rP true (rS_l1Cur false)) s.2))]
def T_spec_l1Cur_poset_l4 : (SPoset × Sl1Cur) → Tgt
 | s => ((Ex.exit 7), [9, 2, 147], [(9, A.val ((rP true (rS_Poset true)) s.1)), (2, A.val ((rP true (rS_Poset true)) ({ Below := nilL (List Int) }))), (147, A.val ((rP true (rS_l1Cur false)) s.2))])
theorem b_spec_l1Cur_poset_l4 (s : (SPoset × Sl1Cur)) (o : (SPoset × Sl1Cur) ⊕ (SPoset × Sl1Cur)) (h : F_spec_l1Cur_poset_l4 s = some o) : vc Try.prog c_spec_l1Cur_poset_l4 (outQ [9, 2, 0, 147] (S_spec_l1Cur_poset_l4) (T_spec_l1Cur_poset_l4) o) (S_spec_l1Cur_poset_l4 s) := by
  obtain ⟨x9, x147⟩ := s
  unfold F_spec_l1Cur_poset_l4 at h
  try dsimp only at h
  refine Cells.lit rfl rfl ?_
  refine Kid.lit rfl rfl ?_
  refine Len.map ?_
  refine LendP.io vint (rP true (rS_l1Cur false)) (by rfl) (fun _ => rfl) (fun _ => ⟨rfl, rfl⟩) (fun _ => rfl) h (fun r h => t_spec_l1Cur_pick h) (fun r56 u57 h => ?_)
  refine Ask.o h fun p58 h => ?_
  refine Br.od h (fun p59 h => ?_) (fun p59 h => ?_)
  · refine Cells.lit rfl rfl ?_
    refine Cells.lit rfl rfl ?_
    refine Kid.lit rfl rfl ?_
    refine Len.map ?_
    refine BslQ.o vint ([(↑x9.Below.length : Int)]) (by exact fun _ => ⟨rfl, rfl⟩) (by rfl) ?_
    refine BslQ.o (slr true 1 vint) ([[(↑x9.Below.length : Int)]]) (by exact fun _ => ⟨rfl, rfl⟩) (by rfl) ?_
    refine NoOwn.own rfl ?_
    refine Kid.lit rfl rfl ?_
    refine Kid.lit rfl rfl ?_
    refine SetKids.lit rfl ?_
    refine AppQ.o (m := 1) (slr true 1 vint) (by exact fun _ => ⟨rfl, rfl⟩) (x9.Below) ([[(↑x9.Below.length : Int)]]) (by rfl) (by rfl) h fun h => ?_
    refine SetKids.lit rfl ?_
    cases h; exact ⟨rfl, rfl⟩
  cases h; exact ⟨rfl, rfl⟩

noncomputable def F_spec_l1Cur_poset (c0 : Sl1Cur) : Option (SPoset × Sl1Cur) :=
 (F_spec_l1Cur_among (c0) ([(0 : Int), (1 : Int), (2 : Int), (3 : Int), (4 : Int), (4 : Int), (5 : Int), (5 : Int), (6 : Int), (7 : Int)])).bind fun (r1, u2) =>
 (loopO (F_spec_l1Cur_poset_l2 r1) ((0 : Int), nilL (Int × Int), u2)).bind fun (q13_4, q13_147) =>
 (((F_spec_l1Cur_names2 (q13_147) (r1)).bind fun (r14, u15) =>
 (((F_spec_l2Perm (r14) (r1)).bind fun r16 =>
 if (r16) = true then
 (F_spec_l1Cur_one (u15) ((2 : Int))).bind fun (r18, u19) =>
 some (r18, u19)
 else
 some (false, u15) : Option (Bool × Sl1Cur))).bind fun (q20_44, q20_147) =>
 if (q20_44) = true then
 (loopO (F_spec_l1Cur_poset_l3 r1 r14 q20_147) ((0 : Int), q13_4)).bind fun q29_4 =>
 some (q29_4, q20_147)
 else
 some (q13_4, q20_147) : Option ((List (Int × Int)) × Sl1Cur))).bind fun (q30_4, q30_147) =>
 (F_spec_l23From (r1) (q30_4)).bind fun r31 =>
 ((if r1 = (0 : Int) then
 some (.inl q30_147)
 else
 (F_spec_l1Cur_one (q30_147) ((16 : Int))).bind fun (r33, u34) =>
 if (r33) = true then
 some (.inr u34)
 else
 some (.inl u34) : Option (Sl1Cur ⊕ Sl1Cur))).bind fun t => match t with
 | (.inl q36_147) => (some (r31, q36_147))
 | (.inr q36_147) => ((F_spec_l1Cur_pick (q36_147) (r1)).bind fun (r37, u38) =>
 (F_spec_l1Cur_pick (u38) ((4 : Int))).bind fun (r39, u40) =>
 if r39 = (0 : Int) then
 ask ((0 : Int) ≤ r37 ∧ r37 < (↑r31.Below.length : Int)) <|
 ask (0 ≤ (1 : Int) ∧ (1 : Int) ≤ (↑(nth r31.Below r37.toNat).length : Int) ∧ (↑(nth r31.Below r37.toNat).length : Int) ≤ (((nth r31.Below r37.toNat).length : Nat) : Int)) <|
 ask ((0 : Int) ≤ r37 ∧ r37 < (↑r31.Below.length : Int)) <|
 some ({ Below := r31.Below.set r37.toNat (List.take ((↑(nth r31.Below r37.toNat).length : Int).toNat - Int.toNat (1 : Int)) (List.drop (Int.toNat (1 : Int)) (nth r31.Below r37.toNat))) }, u40)
 else
 if r39 = (1 : Int) then
 ask ((0 : Int) ≤ r37 ∧ r37 < (↑r31.Below.length : Int)) <|
 ask ((0 : Int) ≤ r37 ∧ r37 < (↑r31.Below.length : Int)) <|
 ask ((0 : Int) ≤ r37 ∧ r37 < (↑r31.Below.length : Int)) <|
 ask ((nth r31.Below r37.toNat).length + ([r1]).length ≤ LIM) <|
 ask ((0 : Int) ≤ r37 ∧ r37 < (↑r31.Below.length : Int)) <|
 some ({ Below := r31.Below.set r37.toNat (nth r31.Below r37.toNat ++ [r1]) }, u40)
 else
 if r39 = (2 : Int) then
 ask ((0 : Int) ≤ r37 ∧ r37 < (↑r31.Below.length : Int)) <|
 (F_spec_l1Cur_pick (u40) (r1)).bind fun (r51, u52) =>
 (F_spec_l1Put (nth r31.Below r37.toNat) (r51)).bind fun r53 =>
 ask ((0 : Int) ≤ r37 ∧ r37 < (↑r31.Below.length : Int)) <|
 some ({ Below := r31.Below.set r37.toNat r53 }, u52)
 else
 if r39 = (3 : Int) then
 (loopO (F_spec_l1Cur_poset_l4) (r31, u40)).bind fun (q60_9, q60_147) =>
 some (q60_9, q60_147)
 else
 some (r31, u40))
theorem t_spec_l1Cur_poset {c0 : Sl1Cur} {v : (SPoset × Sl1Cur)} (h : F_spec_l1Cur_poset c0 = some v) : RetO Try.prog f_spec_l1Cur_poset [(rP true (rS_l1Cur false)) c0] ((rS_Poset false) v.1) 0 ((rP true (rS_l1Cur false)) v.2) := by
  refine retofz_vc k_spec_l1Cur_poset (Nat.le_of_ble_eq_true rfl) ?_
  unfold F_spec_l1Cur_poset at h
  refine BslQ.o vint ([(0 : Int), (1 : Int), (2 : Int), (3 : Int), (4 : Int), (4 : Int), (5 : Int), (5 : Int), (6 : Int), (7 : Int)]) (by exact fun _ => ⟨rfl, rfl⟩) (by rfl) ?_
  refine CallQ.io vint (rP true (rS_l1Cur false)) (by rfl) rfl (fun _ => rfl) (fun _ => ⟨rfl, rfl⟩) rfl h (fun r h => t_spec_l1Cur_among h) (fun r1 u2 h => ?_)
  refine BslQ.o (rA2 vint) (nilL (Int × Int)) (by exact fun _ => ⟨rfl, rfl⟩) (by rfl) ?_
  refine LoopQ.o [5, 4, 3, 2, 0, 147] (S_spec_l1Cur_poset_l2 r1) (T_spec_l1Cur_poset_l2 r1) h (fun s o h => b_spec_l1Cur_poset_l2 s o h) (by first | rfl | simp [restrict, look, mulN_one, V.fz, fzL, V.up, upL, fzL_map, fz_slr, fz_at, slr]) (fun _ => rfl) ?_
  rintro ⟨q13_4, q13_147⟩ h
  try dsimp only at h
  refine CutQ.o (fun t : ((List (Int × Int)) × Sl1Cur) => match t with | s => (Ex.normal, [4, 3, 2, 0, 147], [(4, A.val ((slr true 2 (rA2 vint)) s.1)), (3, A.val (vint (r1))), (2, A.val ((rP true (rS_Poset true)) ({ Below := nilL (List Int) }))), (0, A.ref 147 []), (147, A.val ((rP true (rS_l1Cur false)) s.2))])) h ?_ ?_
  · intro t h
    refine CallQ.io (slr true 1 vint) (rP true (rS_l1Cur false)) (by rfl) rfl (fun _ => rfl) (fun _ => ⟨rfl, rfl⟩) rfl h (fun r h => t_spec_l1Cur_names2 h) (fun r14 u15 h => ?_)
    refine CutQ.o (fun t : (Bool × Sl1Cur) => match t with | s => (Ex.normal, [44, 7, 4, 3, 2, 0, 147], [(44, A.val (V.bool s.1)), (7, A.val ((slr true 1 vint) (r14))), (4, A.val ((slr true 2 (rA2 vint)) (q13_4))), (3, A.val (vint (r1))), (2, A.val ((rP true (rS_Poset true)) ({ Below := nilL (List Int) }))), (0, A.ref 147 []), (147, A.val ((rP true (rS_l1Cur false)) s.2))])) h ?_ ?_
    · intro t h
      refine CallQ.rd V.bool (by first | rfl | simp only [V.fz, V.up, fzL_map, fz_at, slr] | simp [mulN_one, V.fz, fzL, V.up, upL, fzL_map, fz_slr, fz_at, slr]) (fun _ => rfl) h (fun r h => t_spec_l2Perm h) (fun r16 h => ?_)
      refine Br.ob h (fun p17 h => ?_) (fun p17 h => ?_)
      · refine Br.yes ?_
        refine CallQ.io V.bool (rP true (rS_l1Cur false)) (by rfl) rfl (fun _ => rfl) (fun _ => ⟨rfl, rfl⟩) rfl h (fun r h => t_spec_l1Cur_one h) (fun r18 u19 h => ?_)
        refine Br.yes ?_
        cases h; exact ⟨rfl, rfl⟩
      refine Br.no ?_
      refine Br.no ?_
      cases h; exact ⟨rfl, rfl⟩
    rintro ⟨q20_44, q20_147⟩ h
    try dsimp only at h
    refine Br.ob h (fun p21 h => ?_) (fun p21 h => ?_)
    · refine LoopQ.o [8, 7, 4, 3, 2, 0, 147] (S_spec_l1Cur_poset_l3 r1 r14 q20_147) (T_spec_l1Cur_poset_l3 r1 r14 q20_147) h (fun s o h => b_spec_l1Cur_poset_l3 s o h) (by first | rfl | simp [restrict, look, mulN_one, V.fz, fzL, V.up, upL, fzL_map, fz_slr, fz_at, slr]) (fun _ => rfl) ?_
      rintro q29_4 h
      try dsimp only at h
      cases h; exact ⟨rfl, rfl⟩
    cases h; exact ⟨rfl, rfl⟩
  rintro ⟨q30_4, q30_147⟩ h
  try dsimp only at h
  refine CallQ.rd (rS_Poset true) (by first | rfl | simp only [V.fz, V.up, fzL_map, fz_at, slr] | simp [mulN_one, V.fz, fzL, V.up, upL, fzL_map, fz_slr, fz_at, slr]) (fun _ => by simp [V.noFz, noFzL, noFzL_map]) h (fun r h => t_spec_l23From h) (fun r31 h => ?_)
  refine SetKids.lit rfl ?_
  refine CutQ.o (fun t : (Sl1Cur ⊕ Sl1Cur) => match t with | (.inl s) => (Ex.ret, [2, 147], [(2, A.val ((rP true (rS_Poset true)) (r31))), (147, A.val ((rP true (rS_l1Cur false)) s))]) | (.inr s) => (Ex.normal, [9, 3, 2, 0, 147], [(9, A.val ((rP true (rS_Poset true)) (r31))), (3, A.val (vint (r1))), (2, A.val ((rP true (rS_Poset true)) ({ Below := nilL (List Int) }))), (0, A.ref 147 []), (147, A.val ((rP true (rS_l1Cur false)) s))])) h ?_ ?_
  · intro t h
    refine Br.oe h (fun p32 h => ?_) (fun p32 h => ?_)
    · refine Br.yes ?_
      refine Br.yes ?_
      refine Br.yes ?_
      refine Br.yes ?_
      refine Cells.lit rfl rfl ?_
      refine SetKids.lit rfl ?_
      cases h; exact ⟨rfl, rfl⟩
    refine Br.no ?_
    refine CallQ.io V.bool (rP true (rS_l1Cur false)) (by rfl) rfl (fun _ => rfl) (fun _ => ⟨rfl, rfl⟩) rfl h (fun r h => t_spec_l1Cur_one h) (fun r33 u34 h => ?_)
    refine Br.no ?_
    refine Br.no ?_
    refine Br.flip ?_
    refine Br.ob h (fun p35 h => ?_) (fun p35 h => ?_)
    · cases h; exact ⟨rfl, rfl⟩
    refine Cells.lit rfl rfl ?_
    refine SetKids.lit rfl ?_
    cases h; exact ⟨rfl, rfl⟩
  rintro (q36_147 | q36_147) h
  · try dsimp only at h
    cases h; exact ⟨(by first | rfl | simp only [resV, V.fz, fzL, fzL_map, slr] | simp [resV, mulN_one, V.fz, fzL, V.up, upL, fzL_map, fz_slr, fz_at, slr]), (by rfl)⟩
  try dsimp only at h
  refine CallQ.io vint (rP true (rS_l1Cur false)) (by rfl) rfl (fun _ => rfl) (fun _ => ⟨rfl, rfl⟩) rfl h (fun r h => t_spec_l1Cur_pick h) (fun r37 u38 h => ?_)
  refine CallQ.io vint (rP true (rS_l1Cur false)) (by rfl) rfl (fun _ => rfl) (fun _ => ⟨rfl, rfl⟩) rfl h (fun r h => t_spec_l1Cur_pick h) (fun r39 u40 h => ?_)
  refine Br.oe h (fun p41 h => ?_) (fun p41 h => ?_)
  · refine FrzQ.d (V.ptr true (V.agg [V.sl true (1 : Nat) (List.map (slr false (1 : Nat) vint) r31.Below)])) (by simp only [V.fzAt, fzAtL, fzAtL_zero, fzL_map]) ?_
    refine Cells.lit rfl rfl ?_
    refine Cells.lit rfl rfl ?_
    refine Kid.lit rfl rfl ?_
    refine Len.map ?_
    refine Ask.o h fun p42 h => ?_
    refine Kid.lit rfl rfl ?_
    refine Cells.one (fun _ => ⟨rfl, rfl⟩) (by first | omega | (simp [mulN] at *; omega)) ?_
    refine Len.map ?_
    refine SlcQ.o vint h fun h => ?_
    refine Kid.lit rfl rfl ?_
    refine Len.map ?_
    refine Ask.o h fun p43 h => ?_
    refine Kid.lit rfl rfl ?_
    refine SetKids.one (fun _ => ⟨rfl, rfl⟩) (List.take ((↑(nth r31.Below r37.toNat).length : Int).toNat - Int.toNat (1 : Int)) (List.drop (Int.toNat (1 : Int)) (nth r31.Below r37.toNat))) (by rfl) (by first | omega | (simp [mulN] at *; omega)) ?_
    refine Kid.lit rfl rfl ?_
    refine SetKids.lit rfl ?_
    refine Cells.lit rfl rfl ?_
    refine SetKids.lit rfl ?_
    cases h; exact ⟨(by first | rfl | simp only [resV, mulN_one, V.fz, fzL, fzL_map] | simp [resV, mulN_one, V.fz, fzL, V.up, upL, fzL_map, fz_slr, fz_at, slr]), (by rfl)⟩
  refine Br.oe h (fun p44 h => ?_) (fun p44 h => ?_)
  · refine Cells.lit rfl rfl ?_
    refine Cells.lit rfl rfl ?_
    refine Kid.lit rfl rfl ?_
    refine Len.map ?_
    refine Ask.o h fun p45 h => ?_
    refine Kid.lit rfl rfl ?_
    refine Cells.one (fun _ => ⟨rfl, rfl⟩) (by first | omega | (simp [mulN] at *; omega)) ?_
    refine SameQ.mk ⟨rfl, ?_⟩
    refine Cells.lit rfl rfl ?_
    refine SameQ.mk ⟨rfl, ?_⟩
    refine SameQ.mk ⟨rfl, ?_⟩
    refine SameQ.mk ⟨rfl, ?_⟩
    refine Cells.lit rfl rfl ?_
    refine SameQ.mk ⟨rfl, ?_⟩
    refine SameQ.mk ⟨rfl, ?_⟩
    refine Kid.lit rfl rfl ?_
    refine Len.map ?_
    refine Ask.o h fun p46 h => ?_
    refine SameQ.mk ⟨rfl, ?_⟩
    refine Kid.lit rfl rfl ?_
    refine Cells.one (fun _ => ⟨rfl, rfl⟩) (by first | omega | (simp [mulN] at *; omega)) ?_
    refine SameQ.mk ⟨rfl, ?_⟩
    refine SameQ.mk ⟨rfl, ?_⟩
    refine BslQ.o vint [r1] (by exact fun _ => ⟨rfl, rfl⟩) (by rfl) ?_
    refine SameQ.mk ⟨rfl, ?_⟩
    refine Cells.lit rfl rfl ?_
    refine SameQ.mk ⟨rfl, ?_⟩
    refine SameQ.mk ⟨rfl, ?_⟩
    refine SameQ.mk ⟨rfl, ?_⟩
    refine Cells.lit rfl rfl ?_
    refine SameQ.mk ⟨rfl, ?_⟩
    refine SameQ.mk ⟨rfl, ?_⟩
    refine Kid.lit rfl rfl ?_
    refine Len.map ?_
    refine Ask.o h fun p47 h => ?_
    refine SameQ.mk ⟨rfl, ?_⟩
    refine Kid.lit rfl rfl ?_
    refine Cells.one (fun _ => ⟨rfl, rfl⟩) (by first | omega | (simp [mulN] at *; omega)) ?_
    refine SameQ.mk ⟨rfl, ?_⟩
    refine NoOwn.o (fun _ => rfl) ?_
    refine Kid.lit rfl rfl ?_
    refine Kid.one (fun _ => ⟨rfl, rfl⟩) (by first | omega | (simp [mulN] at *; omega)) ?_
    refine Kid.lit rfl rfl ?_
    refine Kid.one (fun _ => ⟨rfl, rfl⟩) (by first | omega | (simp [mulN] at *; omega)) ?_
    refine SetKids.mkhole (fun _ => ⟨rfl, rfl⟩) (by first | omega | (simp [mulN] at *; omega)) ?_
    refine SetKids.lit rfl ?_
    refine AppQ.o (m := 1) vint (by exact fun _ => ⟨rfl, rfl⟩) (nth r31.Below r37.toNat) ([r1]) (by rfl) (by rfl) h fun h => ?_
    refine SameQ.mk ⟨rfl, ?_⟩
    refine Cells.lit rfl rfl ?_
    refine SameQ.mk ⟨rfl, ?_⟩
    refine SameQ.mk ⟨rfl, ?_⟩
    refine Kid.lit rfl rfl ?_
    refine Len.hole ?_
    refine Ask.o h fun p48 h => ?_
    refine Kid.lit rfl rfl ?_
    refine SetKids.fill (fun _ => ⟨rfl, rfl⟩) (nth r31.Below r37.toNat ++ [r1]) (by rfl) (by first | omega | (simp [mulN] at *; omega)) ?_
    refine Kid.lit rfl rfl ?_
    refine SetKids.lit rfl ?_
    refine Cells.lit rfl rfl ?_
    refine SetKids.lit rfl ?_
    cases h; exact ⟨(by first | rfl | simp only [resV, mulN_one, V.fz, fzL, fzL_map] | simp [resV, mulN_one, V.fz, fzL, V.up, upL, fzL_map, fz_slr, fz_at, slr]), (by rfl)⟩
  refine Br.oe h (fun p49 h => ?_) (fun p49 h => ?_)
  · refine FrzQ.d (V.ptr true (V.agg [V.sl true (1 : Nat) (List.map (slr false (1 : Nat) vint) r31.Below)])) (by simp only [V.fzAt, fzAtL, fzAtL_zero, fzL_map]) ?_
    refine Cells.lit rfl rfl ?_
    refine Cells.lit rfl rfl ?_
    refine Kid.lit rfl rfl ?_
    refine Len.map ?_
    refine Ask.o h fun p50 h => ?_
    refine Kid.lit rfl rfl ?_
    refine Cells.one (fun _ => ⟨rfl, rfl⟩) (by first | omega | (simp [mulN] at *; omega)) ?_
    refine LendP.io vint (rP true (rS_l1Cur false)) (by rfl) (fun _ => rfl) (fun _ => ⟨rfl, rfl⟩) (fun _ => rfl) h (fun r h => t_spec_l1Cur_pick h) (fun r51 u52 h => ?_)
    refine CallP.o (slr false 1 vint) (by rfl) h (fun r h => t_spec_l1Put h) (fun r53 h => ?_)
    refine Kid.lit rfl rfl ?_
    refine Len.map ?_
    refine Ask.o h fun p54 h => ?_
    refine Kid.lit rfl rfl ?_
    refine SetKids.one (fun _ => ⟨rfl, rfl⟩) (r53) (by rfl) (by first | omega | (simp [mulN] at *; omega)) ?_
    refine Kid.lit rfl rfl ?_
    refine SetKids.lit rfl ?_
    refine Cells.lit rfl rfl ?_
    refine SetKids.lit rfl ?_
    cases h; exact ⟨(by first | rfl | simp only [resV, mulN_one, V.fz, fzL, fzL_map] | simp [resV, mulN_one, V.fz, fzL, V.up, upL, fzL_map, fz_slr, fz_at, slr]), (by rfl)⟩
  refine Br.oe h (fun p55 h => ?_) (fun p55 h => ?_)
  · refine LoopQ.o [9, 2, 0, 147] (S_spec_l1Cur_poset_l4) (T_spec_l1Cur_poset_l4) h (fun s o h => b_spec_l1Cur_poset_l4 s o h) (by first | rfl | simp [restrict, look, mulN_one, V.fz, fzL, V.up, upL, fzL_map, fz_slr, fz_at, slr]) (fun _ => rfl) ?_
    rintro ⟨q60_9, q60_147⟩ h
    try dsimp only at h
    refine Cells.lit rfl rfl ?_
    refine SetKids.lit rfl ?_
    cases h; exact ⟨(by first | rfl | simp only [resV, V.fz, fzL, fzL_map, slr] | simp [resV, mulN_one, V.fz, fzL, V.up, upL, fzL_map, fz_slr, fz_at, slr]), (by rfl)⟩
  refine Cells.lit rfl rfl ?_
  refine SetKids.lit rfl ?_
  cases h; exact ⟨(by first | rfl | simp only [resV, V.fz, fzL, fzL_map, slr] | simp [resV, mulN_one, V.fz, fzL, V.up, upL, fzL_map, fz_slr, fz_at, slr]), (by rfl)⟩

noncomputable def F_spec_l23Pairs_l1 (p0 : SPoset) (x4 : Int) : (Int × (List (Int × Int))) → Option ((Int × (List (Int × Int))) ⊕ (List (Int × Int))) := fun (x5, x3') =>
 if x5 < (↑p0.Below.length : Int) then
 (F_spec_l23Covers (p0) (x4) (x5)).bind fun r3 =>
 if (r3) = true then
 ask ((x3').length + ([(x4, x5)]).length ≤ LIM) <|
 ask (InI (x5 + (1 : Int))) <|
 some (.inl (x5 + (1 : Int), x3' ++ [(x4, x5)]))
 else
 ask (InI (x5 + (1 : Int))) <|
 some (.inl (x5 + (1 : Int), x3'))
 else
 some (.inr x3')
def S_spec_l23Pairs_l1 (p0 : SPoset) (x4 : Int) : (Int × (List (Int × Int))) → St := fun s => [(5, A.val (vint s.1)), (4, A.val (vint (x4))), (3, A.val ((slr true 2 (rA2 vint)) s.2)), (1, A.val ((rP true (rS_Poset false)) (p0)))]
def T_spec_l23Pairs_l1 (p0 : SPoset) (x4 : Int) : (List (Int × Int)) → Tgt
 | s => ((Ex.exit 2), [4, 3, 1], [(4, A.val (vint (x4))), (3, A.val ((slr true 2 (rA2 vint)) s)), (1, A.val ((rP true (rS_Poset false)) (p0)))])
theorem b_spec_l23Pairs_l1 {p0 : SPoset} {x4 : Int} (s : (Int × (List (Int × Int)))) (o : (Int × (List (Int × Int))) ⊕ (List (Int × Int))) (h : F_spec_l23Pairs_l1 p0 x4 s = some o) : vc Try.prog c_spec_l23Pairs_l1 (outQ [5, 4, 3, 1] (S_spec_l23Pairs_l1 p0 x4) (T_spec_l23Pairs_l1 p0 x4) o) (S_spec_l23Pairs_l1 p0 x4 s) := by
  obtain ⟨x5, x3'⟩ := s
  unfold F_spec_l23Pairs_l1 at h
  try dsimp only at h
  refine Cells.lit rfl rfl ?_
  refine Len.map ?_
  refine Br.od h (fun p2 h => ?_) (fun p2 h => ?_)
  · refine Cells.lit rfl rfl ?_
    refine CallQ.o V.bool (by rfl) h (fun r h => t_spec_l23Covers h) (fun r3 h => ?_)
    refine Br.ob h (fun p4 h => ?_) (fun p4 h => ?_)
    · refine BslQ.o (rA2 vint) ([(x4, x5)]) (by exact fun _ => ⟨rfl, rfl⟩) (by rfl) ?_
      refine NoOwn.o (fun _ => rfl) ?_
      refine AppQ.o (m := 2) (rA2 vint) (by exact fun _ => ⟨rfl, rfl⟩) (x3') ([(x4, x5)]) (by rfl) (by rfl) h fun h => ?_
      refine Ask.o h fun p5 h => ?_
      cases h; exact ⟨rfl, rfl⟩
    refine Ask.o h fun p6 h => ?_
    cases h; exact ⟨rfl, rfl⟩
  cases h; exact ⟨rfl, rfl⟩

noncomputable def F_spec_l23Pairs_l2 (p0 : SPoset) : (Int × (List (Int × Int))) → Option ((Int × (List (Int × Int))) ⊕ (List (Int × Int))) := fun (x4, x3) =>
 if x4 < (↑p0.Below.length : Int) then
 (loopO (F_spec_l23Pairs_l1 p0 x4) ((0 : Int), x3)).bind fun q7_3 =>
 ask (InI (x4 + (1 : Int))) <|
 some (.inl (x4 + (1 : Int), q7_3))
 else
 some (.inr x3)
def S_spec_l23Pairs_l2 (p0 : SPoset) : (Int × (List (Int × Int))) → St := fun s => [(4, A.val (vint s.1)), (3, A.val ((slr true 2 (rA2 vint)) s.2)), (1, A.val ((rP true (rS_Poset false)) (p0)))]
def T_spec_l23Pairs_l2 (_p0 : SPoset) : (List (Int × Int)) → Tgt
 | s => ((Ex.exit 0), [3], [(3, A.val ((slr true 2 (rA2 vint)) s))])
theorem b_spec_l23Pairs_l2 {p0 : SPoset} (s : (Int × (List (Int × Int)))) (o : (Int × (List (Int × Int))) ⊕ (List (Int × Int))) (h : F_spec_l23Pairs_l2 p0 s = some o) : vc Try.prog c_spec_l23Pairs_l2 (outQ [4, 3, 1] (S_spec_l23Pairs_l2 p0) (T_spec_l23Pairs_l2 p0) o) (S_spec_l23Pairs_l2 p0 s) := by
  obtain ⟨x4, x3⟩ := s
  unfold F_spec_l23Pairs_l2 at h
  try dsimp only at h
  refine Cells.lit rfl rfl ?_
  refine Len.map ?_
  refine Br.od h (fun p1 h => ?_) (fun p1 h => ?_)
  · refine LoopQ.o [5, 4, 3, 1] (S_spec_l23Pairs_l1 p0 x4) (T_spec_l23Pairs_l1 p0 x4) h (fun s o h => b_spec_l23Pairs_l1 s o h) (by first | rfl | simp [restrict, look, mulN_one, V.fz, fzL, V.up, upL, fzL_map, fz_slr, fz_at, slr]) (fun _ => rfl) ?_
    rintro q7_3 h
    try dsimp only at h
    refine Ask.o h fun p8 h => ?_
    cases h; exact ⟨rfl, rfl⟩
  cases h; exact ⟨rfl, rfl⟩

noncomputable def F_spec_l23Pairs (p0 : SPoset) : Option (List (Int × Int)) :=
 (loopO (F_spec_l23Pairs_l2 p0) ((0 : Int), nilL (Int × Int))).bind fun q9_3 =>
 some q9_3
theorem t_spec_l23Pairs {p0 : SPoset} {v : (List (Int × Int))} (h : F_spec_l23Pairs p0 = some v) : Ret Try.prog f_spec_l23Pairs [(rS_Poset false) p0] ((slr true 2 (rA2 vint)) v) := by
  refine ret_vc k_spec_l23Pairs (Nat.le_of_ble_eq_true rfl) ?_
  unfold F_spec_l23Pairs at h
  refine BslQ.o (rA2 vint) (nilL (Int × Int)) (by exact fun _ => ⟨rfl, rfl⟩) (by rfl) ?_
  refine LoopQ.o [4, 3, 1] (S_spec_l23Pairs_l2 p0) (T_spec_l23Pairs_l2 p0) h (fun s o h => b_spec_l23Pairs_l2 s o h) (by first | rfl | simp [restrict, look, mulN_one, V.fz, fzL, V.up, upL, fzL_map, fz_slr, fz_at, slr]) (fun _ => rfl) ?_
  rintro q9_3 h
  try dsimp only at h
  cases h; exact (by rfl)

noncomputable def F_impl_lattice_irreducibles_1 (x0 : Int) (a1 : Slattice) : Option Bool :=
 (F_impl_order_lowerCovers (a1.order) (x0)).bind fun r1 =>
 some ((↑r1.length : Int) == (1 : Int))
theorem t_impl_lattice_irreducibles_1 {x0 : Int} {a1 : Slattice} {v : Bool} (h : F_impl_lattice_irreducibles_1 x0 a1 = some v) : Ret Try.prog f_impl_lattice_irreducibles_1 [vint x0, (rP false (rP false (rS_lattice false))) a1] (V.bool v) := by
  refine ret_vc k_impl_lattice_irreducibles_1 (Nat.le_of_ble_eq_true rfl) ?_
  unfold F_impl_lattice_irreducibles_1 at h
  refine CallQ.o (slr true 1 vint) (by rfl) h (fun r h => t_impl_order_lowerCovers h) (fun r1 h => ?_)
  refine Len.map ?_
  cases h; exact (by rfl)

end Go.Proofs.Ytoikbcagaanhgaa.Ax
