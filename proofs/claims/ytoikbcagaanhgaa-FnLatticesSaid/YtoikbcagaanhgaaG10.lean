/-
  What the functions compute, as functions on plain data, and that the program does compute it; written by program.
-/
import Derived.Test.YtoikbcagaanhgaaCode
import Derived.Test.YtoikbcagaanhgaaG6
import Derived.Test.YtoikbcagaanhgaaG7
import Derived.Test.YtoikbcagaanhgaaG8
import Derived.Test.YtoikbcagaanhgaaG9
namespace Go.Proofs.Ytoikbcagaanhgaa.Ax
open Go
set_option maxRecDepth 100000
set_option maxHeartbeats 4000000

noncomputable def F_impl_MeetAll (p0 : SPoset) (some0 : (List Int)) : Option (Int × Bool) :=
 (F_impl_latticeOf (p0)).bind fun t => match t with
 | (none, r1_2) => (if (r1_2) = true then
 if (↑some0.length : Int) > (20 : Int) then
 some ((0 : Int), false)
 else
 none
 else
 some ((0 : Int), false))
 | ((some r1_1), r1_2) => (if (r1_2) = true then
 if (↑some0.length : Int) > (20 : Int) then
 some ((0 : Int), false)
 else
 (F_impl_order_has (r1_1.order) (some0)).bind fun r6 =>
 if (r6) = true then
 (F_impl_lattice_meetAll (r1_1) (some0)).bind fun r8 =>
 some (r8, true)
 else
 some ((0 : Int), false)
 else
 some ((0 : Int), false))
theorem t_impl_MeetAll {p0 : SPoset} {some0 : (List Int)} {v : (Int × Bool)} (h : F_impl_MeetAll p0 some0 = some v) : Ret Try.prog f_impl_MeetAll [(rS_Poset false) p0, (slr false 1 vint) some0] ((fun r => V.tup [vint r.1, V.bool r.2]) v) := by
  refine ret_vc k_impl_MeetAll (Nat.le_of_ble_eq_true rfl) ?_
  unfold F_impl_MeetAll at h
  refine Cells.lit rfl rfl ?_
  refine CallQ.o (fun r => V.tup [(rO true (rS_lattice true)) r.1, V.bool r.2]) (by rfl) h (fun r h => t_impl_latticeOf h) (fun r1 h => ?_)
  rcases r1 with ⟨(_ | r1_1), r1_2⟩
  · try dsimp only at h
    refine Br.flip ?_
    refine Br.ob h (fun p2 h => ?_) (fun p2 h => ?_)
    · refine Br.no ?_
      refine Len.map ?_
      refine Br.no ?_
      refine Br.no ?_
      refine Br.od h (fun p3 h => ?_) (fun p3 h => ?_)
      · refine Br.yes ?_
        refine Br.yes ?_
        refine Br.yes ?_
        refine Br.yes ?_
        refine Br.yes ?_
        refine Br.yes ?_
        refine Br.yes ?_
        refine Br.yes ?_
        cases h; exact (by rfl)
      refine Br.no ?_
      cases h
    refine Br.yes ?_
    refine Br.yes ?_
    refine Br.yes ?_
    refine Br.yes ?_
    refine Br.yes ?_
    refine Br.yes ?_
    refine Br.yes ?_
    refine Br.yes ?_
    refine Br.yes ?_
    refine Br.yes ?_
    refine Br.yes ?_
    refine Br.yes ?_
    cases h; exact (by rfl)
  try dsimp only at h
  refine Br.flip ?_
  refine Br.ob h (fun p4 h => ?_) (fun p4 h => ?_)
  · refine Br.no ?_
    refine Len.map ?_
    refine Br.no ?_
    refine Br.no ?_
    refine Br.od h (fun p5 h => ?_) (fun p5 h => ?_)
    · refine Br.yes ?_
      refine Br.yes ?_
      refine Br.yes ?_
      refine Br.yes ?_
      refine Br.yes ?_
      refine Br.yes ?_
      refine Br.yes ?_
      refine Br.yes ?_
      cases h; exact (by rfl)
    refine Br.no ?_
    refine Br.no ?_
    refine Br.no ?_
    refine Cells.lit rfl rfl ?_
    refine Br.no ?_
    refine Br.no ?_
    refine Kid.lit rfl rfl ?_
    refine CallQ.rd V.bool (by first | rfl | simp only [V.fz, V.up, fzL_map, slr] | simp [mulN_one, V.fz, fzL, V.up, upL, fzL_map, fz_slr, fz_at, slr]) (fun _ => rfl) h (fun r h => t_impl_order_has h) (fun r6 h => ?_)
    refine Br.no ?_
    refine Br.no ?_
    refine Br.flip ?_
    refine Br.ob h (fun p7 h => ?_) (fun p7 h => ?_)
    · refine CallQ.rd vint (by first | rfl | simp only [V.fz, fzL, V.up, fzL_map, slr] | simp [mulN_one, V.fz, fzL, V.up, upL, fzL_map, fz_slr, fz_at, slr]) (fun _ => rfl) h (fun r h => t_impl_lattice_meetAll h) (fun r8 h => ?_)
      cases h; exact (by rfl)
    cases h; exact (by rfl)
  refine Br.yes ?_
  refine Br.yes ?_
  refine Br.yes ?_
  refine Br.yes ?_
  refine Br.yes ?_
  refine Br.yes ?_
  refine Br.yes ?_
  refine Br.yes ?_
  refine Br.yes ?_
  refine Br.yes ?_
  refine Br.yes ?_
  refine Br.yes ?_
  cases h; exact (by rfl)

noncomputable def F_impl_JoinOf (p0 : SPoset) (x0 : Int) (y0 : Int) : Option (Int × Bool) :=
 (F_impl_latticeOf (p0)).bind fun t => match t with
 | (none, r1_2) => (((if (r1_2) = true then
 none
 else
 some () : Option Unit)).bind fun _ =>
 some ((0 : Int), false))
 | ((some r1_1), r1_2) => (((if (r1_2) = true then
 (F_impl_order_has (r1_1.order) ([x0, y0])).bind fun r5 =>
 if (r5) = true then
 some (.inl ())
 else
 some (.inr ())
 else
 some (.inr ()) : Option (Unit ⊕ Unit))).bind fun t => match t with
 | (.inl _) => (ask ((0 : Int) ≤ x0 ∧ x0 < (↑r1_1.joins.length : Int)) <|
 ask ((0 : Int) ≤ y0 ∧ y0 < (↑(nth r1_1.joins x0.toNat).length : Int)) <|
 some (nth (nth r1_1.joins x0.toNat) y0.toNat, true))
 | (.inr _) => (some ((0 : Int), false)))
theorem t_impl_JoinOf {p0 : SPoset} {x0 : Int} {y0 : Int} {v : (Int × Bool)} (h : F_impl_JoinOf p0 x0 y0 = some v) : Ret Try.prog f_impl_JoinOf [(rS_Poset false) p0, vint x0, vint y0] ((fun r => V.tup [vint r.1, V.bool r.2]) v) := by
  refine ret_vc k_impl_JoinOf (Nat.le_of_ble_eq_true rfl) ?_
  unfold F_impl_JoinOf at h
  refine Cells.lit rfl rfl ?_
  refine CallQ.o (fun r => V.tup [(rO true (rS_lattice true)) r.1, V.bool r.2]) (by rfl) h (fun r h => t_impl_latticeOf h) (fun r1 h => ?_)
  rcases r1 with ⟨(_ | r1_1), r1_2⟩
  · try dsimp only at h
    refine CutQ.o (fun t : Unit => match t with | s => (Ex.ret, [7, 6], [(7, A.val (V.bool (false))), (6, A.val (vint ((0 : Int))))])) h ?_ ?_
    · intro t h
      refine Br.flip ?_
      refine Br.ob h (fun p2 h => ?_) (fun p2 h => ?_)
      · refine Br.no ?_
        cases h
      refine Br.yes ?_
      refine Br.yes ?_
      refine Br.yes ?_
      refine Br.yes ?_
      refine Br.yes ?_
      refine Br.yes ?_
      refine Br.yes ?_
      refine Br.yes ?_
      refine Br.yes ?_
      refine Br.yes ?_
      cases h; exact ⟨rfl, rfl⟩
    rintro ⟨⟩ h
    try dsimp only at h
    cases h; exact (by rfl)
  try dsimp only at h
  refine CutQ.o (fun t : (Unit ⊕ Unit) => match t with | (.inl s) => (Ex.normal, [8, 1, 2], [(8, A.val ((rP true (rS_lattice true)) (r1_1))), (1, A.val (vint (x0))), (2, A.val (vint (y0)))]) | (.inr s) => (Ex.ret, [7, 6], [(7, A.val (V.bool (false))), (6, A.val (vint ((0 : Int))))])) h ?_ ?_
  · intro t h
    refine Br.flip ?_
    refine Br.ob h (fun p4 h => ?_) (fun p4 h => ?_)
    · refine Br.no ?_
      refine Br.no ?_
      refine Br.no ?_
      refine Cells.lit rfl rfl ?_
      refine Br.no ?_
      refine Br.no ?_
      refine Br.no ?_
      refine BslQ.o vint ([x0, y0]) (by exact fun _ => ⟨rfl, rfl⟩) (by rfl) ?_
      refine Br.no ?_
      refine Kid.lit rfl rfl ?_
      refine CallQ.rd V.bool (by first | rfl | simp only [V.fz, fzL_map, slr] | simp [mulN_one, V.fz, fzL, V.up, upL, fzL_map, fz_slr, fz_at, slr]) (fun _ => rfl) h (fun r h => t_impl_order_has h) (fun r5 h => ?_)
      refine Br.no ?_
      refine Br.no ?_
      refine Br.flip ?_
      refine Br.ob h (fun p6 h => ?_) (fun p6 h => ?_)
      · cases h; exact ⟨rfl, rfl⟩
      cases h; exact ⟨rfl, rfl⟩
    refine Br.yes ?_
    refine Br.yes ?_
    refine Br.yes ?_
    refine Br.yes ?_
    refine Br.yes ?_
    refine Br.yes ?_
    refine Br.yes ?_
    refine Br.yes ?_
    refine Br.yes ?_
    refine Br.yes ?_
    cases h; exact ⟨rfl, rfl⟩
  rintro (⟨⟩ | ⟨⟩) h
  · try dsimp only at h
    refine Cells.lit rfl rfl ?_
    refine Kid.lit rfl rfl ?_
    refine Len.map ?_
    refine Ask.o h fun p8 h => ?_
    refine Kid.lit rfl rfl ?_
    refine Cells.one (fun _ => ⟨rfl, rfl⟩) (by first | omega | (simp [mulN] at *; omega)) ?_
    refine Kid.lit rfl rfl ?_
    refine Kid.one (fun _ => ⟨rfl, rfl⟩) (by first | omega | (simp [mulN] at *; omega)) ?_
    refine Len.map ?_
    refine Ask.o h fun p9 h => ?_
    refine Kid.lit rfl rfl ?_
    refine Kid.one (fun _ => ⟨rfl, rfl⟩) (by first | omega | (simp [mulN] at *; omega)) ?_
    refine Cells.one (fun _ => ⟨rfl, rfl⟩) (by first | omega | (simp [mulN] at *; omega)) ?_
    cases h; exact (by rfl)
  try dsimp only at h
  cases h; exact (by rfl)

noncomputable def F_impl_MeetOf (p0 : SPoset) (x0 : Int) (y0 : Int) : Option (Int × Bool) :=
 (F_impl_latticeOf (p0)).bind fun t => match t with
 | (none, r1_2) => (((if (r1_2) = true then
 none
 else
 some () : Option Unit)).bind fun _ =>
 some ((0 : Int), false))
 | ((some r1_1), r1_2) => (((if (r1_2) = true then
 (F_impl_order_has (r1_1.order) ([x0, y0])).bind fun r5 =>
 if (r5) = true then
 some (.inl ())
 else
 some (.inr ())
 else
 some (.inr ()) : Option (Unit ⊕ Unit))).bind fun t => match t with
 | (.inl _) => (ask ((0 : Int) ≤ x0 ∧ x0 < (↑r1_1.meets.length : Int)) <|
 ask ((0 : Int) ≤ y0 ∧ y0 < (↑(nth r1_1.meets x0.toNat).length : Int)) <|
 some (nth (nth r1_1.meets x0.toNat) y0.toNat, true))
 | (.inr _) => (some ((0 : Int), false)))
theorem t_impl_MeetOf {p0 : SPoset} {x0 : Int} {y0 : Int} {v : (Int × Bool)} (h : F_impl_MeetOf p0 x0 y0 = some v) : Ret Try.prog f_impl_MeetOf [(rS_Poset false) p0, vint x0, vint y0] ((fun r => V.tup [vint r.1, V.bool r.2]) v) := by
  refine ret_vc k_impl_MeetOf (Nat.le_of_ble_eq_true rfl) ?_
  unfold F_impl_MeetOf at h
  refine Cells.lit rfl rfl ?_
  refine CallQ.o (fun r => V.tup [(rO true (rS_lattice true)) r.1, V.bool r.2]) (by rfl) h (fun r h => t_impl_latticeOf h) (fun r1 h => ?_)
  rcases r1 with ⟨(_ | r1_1), r1_2⟩
  · try dsimp only at h
    refine CutQ.o (fun t : Unit => match t with | s => (Ex.ret, [7, 6], [(7, A.val (V.bool (false))), (6, A.val (vint ((0 : Int))))])) h ?_ ?_
    · intro t h
      refine Br.flip ?_
      refine Br.ob h (fun p2 h => ?_) (fun p2 h => ?_)
      · refine Br.no ?_
        cases h
      refine Br.yes ?_
      refine Br.yes ?_
      refine Br.yes ?_
      refine Br.yes ?_
      refine Br.yes ?_
      refine Br.yes ?_
      refine Br.yes ?_
      refine Br.yes ?_
      refine Br.yes ?_
      refine Br.yes ?_
      cases h; exact ⟨rfl, rfl⟩
    rintro ⟨⟩ h
    try dsimp only at h
    cases h; exact (by rfl)
  try dsimp only at h
  refine CutQ.o (fun t : (Unit ⊕ Unit) => match t with | (.inl s) => (Ex.normal, [8, 1, 2], [(8, A.val ((rP true (rS_lattice true)) (r1_1))), (1, A.val (vint (x0))), (2, A.val (vint (y0)))]) | (.inr s) => (Ex.ret, [7, 6], [(7, A.val (V.bool (false))), (6, A.val (vint ((0 : Int))))])) h ?_ ?_
  · intro t h
    refine Br.flip ?_
    refine Br.ob h (fun p4 h => ?_) (fun p4 h => ?_)
    · refine Br.no ?_
      refine Br.no ?_
      refine Br.no ?_
      refine Cells.lit rfl rfl ?_
      refine Br.no ?_
      refine Br.no ?_
      refine Br.no ?_
      refine BslQ.o vint ([x0, y0]) (by exact fun _ => ⟨rfl, rfl⟩) (by rfl) ?_
      refine Br.no ?_
      refine Kid.lit rfl rfl ?_
      refine CallQ.rd V.bool (by first | rfl | simp only [V.fz, fzL_map, slr] | simp [mulN_one, V.fz, fzL, V.up, upL, fzL_map, fz_slr, fz_at, slr]) (fun _ => rfl) h (fun r h => t_impl_order_has h) (fun r5 h => ?_)
      refine Br.no ?_
      refine Br.no ?_
      refine Br.flip ?_
      refine Br.ob h (fun p6 h => ?_) (fun p6 h => ?_)
      · cases h; exact ⟨rfl, rfl⟩
      cases h; exact ⟨rfl, rfl⟩
    refine Br.yes ?_
    refine Br.yes ?_
    refine Br.yes ?_
    refine Br.yes ?_
    refine Br.yes ?_
    refine Br.yes ?_
    refine Br.yes ?_
    refine Br.yes ?_
    refine Br.yes ?_
    refine Br.yes ?_
    cases h; exact ⟨rfl, rfl⟩
  rintro (⟨⟩ | ⟨⟩) h
  · try dsimp only at h
    refine Cells.lit rfl rfl ?_
    refine Kid.lit rfl rfl ?_
    refine Len.map ?_
    refine Ask.o h fun p8 h => ?_
    refine Kid.lit rfl rfl ?_
    refine Cells.one (fun _ => ⟨rfl, rfl⟩) (by first | omega | (simp [mulN] at *; omega)) ?_
    refine Kid.lit rfl rfl ?_
    refine Kid.one (fun _ => ⟨rfl, rfl⟩) (by first | omega | (simp [mulN] at *; omega)) ?_
    refine Len.map ?_
    refine Ask.o h fun p9 h => ?_
    refine Kid.lit rfl rfl ?_
    refine Kid.one (fun _ => ⟨rfl, rfl⟩) (by first | omega | (simp [mulN] at *; omega)) ?_
    refine Cells.one (fun _ => ⟨rfl, rfl⟩) (by first | omega | (simp [mulN] at *; omega)) ?_
    cases h; exact (by rfl)
  try dsimp only at h
  cases h; exact (by rfl)

noncomputable def F_impl_IntervalOf (p0 : SPoset) (x0 : Int) (y0 : Int) : Option ((List Int) × Bool) :=
 (F_impl_latticeOf (p0)).bind fun t => match t with
 | (none, r1_2) => (((if (r1_2) = true then
 none
 else
 some () : Option Unit)).bind fun _ =>
 some (nilL Int, false))
 | ((some r1_1), r1_2) => (((if (r1_2) = true then
 (F_impl_order_has (r1_1.order) ([x0, y0])).bind fun r5 =>
 if (r5) = true then
 ask ((0 : Int) ≤ x0 ∧ x0 < (↑r1_1.order.length : Int)) <|
 ask ((0 : Int) ≤ y0 ∧ y0 < (↑(nth r1_1.order x0.toNat).length : Int)) <|
 if (nth (nth r1_1.order x0.toNat) y0.toNat) = true then
 some (.inl ())
 else
 some (.inr ())
 else
 some (.inr ())
 else
 some (.inr ()) : Option (Unit ⊕ Unit))).bind fun t => match t with
 | (.inl _) => ((F_impl_order_interval (r1_1.order) (x0) (y0)).bind fun r11 =>
 some (r11, true))
 | (.inr _) => (some (nilL Int, false)))
theorem t_impl_IntervalOf {p0 : SPoset} {x0 : Int} {y0 : Int} {v : ((List Int) × Bool)} (h : F_impl_IntervalOf p0 x0 y0 = some v) : Ret Try.prog f_impl_IntervalOf [(rS_Poset false) p0, vint x0, vint y0] ((fun r => V.tup [(slr true 1 vint) r.1, V.bool r.2]) v) := by
  refine ret_vc k_impl_IntervalOf (Nat.le_of_ble_eq_true rfl) ?_
  unfold F_impl_IntervalOf at h
  refine Cells.lit rfl rfl ?_
  refine CallQ.o (fun r => V.tup [(rO true (rS_lattice true)) r.1, V.bool r.2]) (by rfl) h (fun r h => t_impl_latticeOf h) (fun r1 h => ?_)
  rcases r1 with ⟨(_ | r1_1), r1_2⟩
  · try dsimp only at h
    refine CutQ.o (fun t : Unit => match t with | s => (Ex.ret, [7, 6], [(7, A.val (V.bool (false))), (6, A.val ((slr true 1 vint) (nilL Int)))])) h ?_ ?_
    · intro t h
      refine Br.flip ?_
      refine Br.ob h (fun p2 h => ?_) (fun p2 h => ?_)
      · refine Br.no ?_
        cases h
      refine Br.yes ?_
      refine Br.yes ?_
      refine Br.yes ?_
      refine Br.yes ?_
      refine Br.yes ?_
      refine Br.yes ?_
      refine Br.yes ?_
      refine Br.yes ?_
      refine Br.yes ?_
      refine Br.yes ?_
      refine Br.yes ?_
      refine Br.yes ?_
      refine Br.yes ?_
      refine Br.yes ?_
      refine Br.yes ?_
      refine Br.yes ?_
      refine Br.yes ?_
      refine Br.yes ?_
      refine Br.yes ?_
      refine Br.yes ?_
      refine Br.yes ?_
      refine Br.yes ?_
      refine BslQ.o vint (nilL Int) (by exact fun _ => ⟨rfl, rfl⟩) (by rfl) ?_
      cases h; exact ⟨rfl, rfl⟩
    rintro ⟨⟩ h
    try dsimp only at h
    cases h; exact (by rfl)
  try dsimp only at h
  refine CutQ.o (fun t : (Unit ⊕ Unit) => match t with | (.inl s) => (Ex.normal, [8, 1, 2], [(8, A.val ((rP true (rS_lattice true)) (r1_1))), (1, A.val (vint (x0))), (2, A.val (vint (y0)))]) | (.inr s) => (Ex.ret, [7, 6], [(7, A.val (V.bool (false))), (6, A.val ((slr true 1 vint) (nilL Int)))])) h ?_ ?_
  · intro t h
    refine Br.flip ?_
    refine Br.ob h (fun p4 h => ?_) (fun p4 h => ?_)
    · refine Br.no ?_
      refine Br.no ?_
      refine Br.no ?_
      refine Cells.lit rfl rfl ?_
      refine Br.no ?_
      refine Br.no ?_
      refine Br.no ?_
      refine BslQ.o vint ([x0, y0]) (by exact fun _ => ⟨rfl, rfl⟩) (by rfl) ?_
      refine Br.no ?_
      refine Kid.lit rfl rfl ?_
      refine CallQ.rd V.bool (by first | rfl | simp only [V.fz, fzL_map, slr] | simp [mulN_one, V.fz, fzL, V.up, upL, fzL_map, fz_slr, fz_at, slr]) (fun _ => rfl) h (fun r h => t_impl_order_has h) (fun r5 h => ?_)
      refine Br.no ?_
      refine Br.no ?_
      refine Br.flip ?_
      refine Br.ob h (fun p6 h => ?_) (fun p6 h => ?_)
      · refine Br.no ?_
        refine Br.no ?_
        refine Br.no ?_
        refine Cells.lit rfl rfl ?_
        refine Br.no ?_
        refine Br.no ?_
        refine Kid.lit rfl rfl ?_
        refine Len.map ?_
        refine Ask.o h fun p7 h => ?_
        refine Br.no ?_
        refine Kid.lit rfl rfl ?_
        refine Cells.one (fun _ => ⟨rfl, rfl⟩) (by first | omega | (simp [mulN] at *; omega)) ?_
        refine Br.no ?_
        refine Br.no ?_
        refine Kid.lit rfl rfl ?_
        refine Kid.one (fun _ => ⟨rfl, rfl⟩) (by first | omega | (simp [mulN] at *; omega)) ?_
        refine Len.map ?_
        refine Ask.o h fun p8 h => ?_
        refine Br.no ?_
        refine Kid.lit rfl rfl ?_
        refine Kid.one (fun _ => ⟨rfl, rfl⟩) (by first | omega | (simp [mulN] at *; omega)) ?_
        refine Cells.one (fun _ => ⟨rfl, rfl⟩) (by first | omega | (simp [mulN] at *; omega)) ?_
        refine Br.no ?_
        refine Br.no ?_
        refine Br.flip ?_
        refine Br.ob h (fun p9 h => ?_) (fun p9 h => ?_)
        · cases h; exact ⟨rfl, rfl⟩
        refine BslQ.o vint (nilL Int) (by exact fun _ => ⟨rfl, rfl⟩) (by rfl) ?_
        cases h; exact ⟨rfl, rfl⟩
      refine Br.yes ?_
      refine Br.yes ?_
      refine Br.yes ?_
      refine Br.yes ?_
      refine Br.yes ?_
      refine Br.yes ?_
      refine Br.yes ?_
      refine Br.yes ?_
      refine Br.yes ?_
      refine Br.yes ?_
      refine Br.yes ?_
      refine Br.yes ?_
      refine BslQ.o vint (nilL Int) (by exact fun _ => ⟨rfl, rfl⟩) (by rfl) ?_
      cases h; exact ⟨rfl, rfl⟩
    refine Br.yes ?_
    refine Br.yes ?_
    refine Br.yes ?_
    refine Br.yes ?_
    refine Br.yes ?_
    refine Br.yes ?_
    refine Br.yes ?_
    refine Br.yes ?_
    refine Br.yes ?_
    refine Br.yes ?_
    refine Br.yes ?_
    refine Br.yes ?_
    refine Br.yes ?_
    refine Br.yes ?_
    refine Br.yes ?_
    refine Br.yes ?_
    refine Br.yes ?_
    refine Br.yes ?_
    refine Br.yes ?_
    refine Br.yes ?_
    refine Br.yes ?_
    refine Br.yes ?_
    refine BslQ.o vint (nilL Int) (by exact fun _ => ⟨rfl, rfl⟩) (by rfl) ?_
    cases h; exact ⟨rfl, rfl⟩
  rintro (⟨⟩ | ⟨⟩) h
  · try dsimp only at h
    refine Cells.lit rfl rfl ?_
    refine Kid.lit rfl rfl ?_
    refine CallQ.rd (slr true 1 vint) (by first | rfl | simp only [V.fz, V.up, fzL_map, fz_at, slr] | simp [mulN_one, V.fz, fzL, V.up, upL, fzL_map, fz_slr, fz_at, slr]) (fun _ => by simp [V.noFz, noFzL_map]) h (fun r h => t_impl_order_interval h) (fun r11 h => ?_)
    cases h; exact (by rfl)
  try dsimp only at h
  cases h; exact (by rfl)

noncomputable def F_spec_l24Good_l1 (p0 : SPoset) (r5 : SPoset) (x4 : Int) : Int → Option (Int ⊕ (Unit ⊕ Unit)) := fun x5 =>
 if x5 < x4 then
 (F_spec_l24Bound (p0) ([x4, x5])).bind fun r8 =>
 if r8 < (0 : Int) then
 some (.inr (.inl ()))
 else
 (F_spec_l24Bound (r5) ([x4, x5])).bind fun r10 =>
 if r10 < (0 : Int) then
 some (.inr (.inl ()))
 else
 ask (InI (x5 + (1 : Int))) <|
 some (.inl (x5 + (1 : Int)))
 else
 some (.inr (.inr ()))
def S_spec_l24Good_l1 (p0 : SPoset) (r5 : SPoset) (x4 : Int) : Int → St := fun s => [(5, A.val (vint s)), (4, A.val (vint (x4))), (3, A.val ((rP true (rS_Poset true)) (r5))), (1, A.val ((rP true (rS_Poset false)) (p0)))]
def T_spec_l24Good_l1 (p0 : SPoset) (r5 : SPoset) (x4 : Int) : (Unit ⊕ Unit) → Tgt
 | (.inl _s) => (Ex.ret, [2], [(2, A.val (V.bool (false)))])
 | (.inr _s) => ((Ex.exit 2), [4, 3, 1], [(4, A.val (vint (x4))), (3, A.val ((rP true (rS_Poset true)) (r5))), (1, A.val ((rP true (rS_Poset false)) (p0)))])
theorem b_spec_l24Good_l1 {p0 : SPoset} {r5 : SPoset} {x4 : Int} (x5 : Int) (o : Int ⊕ (Unit ⊕ Unit)) (h : F_spec_l24Good_l1 p0 r5 x4 x5 = some o) : vc Try.prog c_spec_l24Good_l1 (outQ [5, 4, 3, 1] (S_spec_l24Good_l1 p0 r5 x4) (T_spec_l24Good_l1 p0 r5 x4) o) (S_spec_l24Good_l1 p0 r5 x4 x5) := by
  unfold F_spec_l24Good_l1 at h
  try dsimp only at h
  refine Br.od h (fun p7 h => ?_) (fun p7 h => ?_)
  · refine Cells.lit rfl rfl ?_
    refine BslQ.o vint ([x4, x5]) (by exact fun _ => ⟨rfl, rfl⟩) (by rfl) ?_
    refine CallQ.rd vint (by rfl) (fun _ => rfl) h (fun r h => t_spec_l24Bound h) (fun r8 h => ?_)
    refine Br.od h (fun p9 h => ?_) (fun p9 h => ?_)
    · refine Br.yes ?_
      refine Br.yes ?_
      refine Br.yes ?_
      refine Br.yes ?_
      refine Br.yes ?_
      refine Br.yes ?_
      refine Br.yes ?_
      cases h; exact ⟨rfl, rfl⟩
    refine Cells.lit rfl rfl ?_
    refine Br.no ?_
    refine Br.no ?_
    refine Br.no ?_
    refine BslQ.o vint ([x4, x5]) (by exact fun _ => ⟨rfl, rfl⟩) (by rfl) ?_
    refine Br.no ?_
    refine CallQ.rd vint (by first | rfl | simp only [V.fz, fzL_map, slr] | simp [mulN_one, V.fz, fzL, V.up, upL, fzL_map, fz_slr, fz_at, slr]) (fun _ => rfl) h (fun r h => t_spec_l24Bound h) (fun r10 h => ?_)
    refine Br.no ?_
    refine Br.no ?_
    refine Br.od h (fun p11 h => ?_) (fun p11 h => ?_)
    · cases h; exact ⟨rfl, rfl⟩
    refine Ask.o h fun p12 h => ?_
    cases h; exact ⟨rfl, rfl⟩
  cases h; exact ⟨rfl, rfl⟩

noncomputable def F_spec_l24Good_l2 (p0 : SPoset) (r5 : SPoset) : Int → Option (Int ⊕ (Unit ⊕ Unit)) := fun x4 =>
 if x4 < (↑p0.Below.length : Int) then
 (loopO (F_spec_l24Good_l1 p0 r5 x4) (0 : Int)).bind fun t => match t with
 | (.inl _) => (some (.inr (.inl ())))
 | (.inr _) => (ask (InI (x4 + (1 : Int))) <|
 some (.inl (x4 + (1 : Int))))
 else
 some (.inr (.inr ()))
def S_spec_l24Good_l2 (p0 : SPoset) (r5 : SPoset) : Int → St := fun s => [(4, A.val (vint s)), (3, A.val ((rP true (rS_Poset true)) (r5))), (1, A.val ((rP true (rS_Poset false)) (p0)))]
def T_spec_l24Good_l2 (_p0 : SPoset) (_r5 : SPoset) : (Unit ⊕ Unit) → Tgt
 | (.inl _s) => (Ex.ret, [2], [(2, A.val (V.bool (false)))])
 | (.inr _s) => ((Ex.exit 0), [], [])
theorem b_spec_l24Good_l2 {p0 : SPoset} {r5 : SPoset} (x4 : Int) (o : Int ⊕ (Unit ⊕ Unit)) (h : F_spec_l24Good_l2 p0 r5 x4 = some o) : vc Try.prog c_spec_l24Good_l2 (outQ [4, 3, 1] (S_spec_l24Good_l2 p0 r5) (T_spec_l24Good_l2 p0 r5) o) (S_spec_l24Good_l2 p0 r5 x4) := by
  unfold F_spec_l24Good_l2 at h
  try dsimp only at h
  refine Cells.lit rfl rfl ?_
  refine Len.map ?_
  refine Br.od h (fun p6 h => ?_) (fun p6 h => ?_)
  · refine LoopQ.o [5, 4, 3, 1] (S_spec_l24Good_l1 p0 r5 x4) (T_spec_l24Good_l1 p0 r5 x4) h (fun s o h => b_spec_l24Good_l1 s o h) (by first | rfl | simp [restrict, look, mulN_one, V.fz, fzL, V.up, upL, fzL_map, fz_slr, fz_at, slr]) (by rintro (_ | _) <;> rfl) ?_
    rintro (⟨⟩ | ⟨⟩) h
    · try dsimp only at h
      cases h; exact ⟨rfl, rfl⟩
    try dsimp only at h
    refine Ask.o h fun p14 h => ?_
    cases h; exact ⟨rfl, rfl⟩
  cases h; exact ⟨rfl, rfl⟩

noncomputable def F_spec_l24Good (p0 : SPoset) : Option Bool :=
 (((F_spec_l23Good (p0)).bind fun r1 =>
 if (r1) = true then
 if (↑p0.Below.length : Int) = (0 : Int) then
 some (.inl ())
 else
 some (.inr ())
 else
 some (.inl ()) : Option (Unit ⊕ Unit))).bind fun t => match t with
 | (.inl _) => (some false)
 | (.inr _) => ((F_spec_l23Dual (p0)).bind fun r5 =>
 (loopO (F_spec_l24Good_l2 p0 r5) (0 : Int)).bind fun t => match t with
 | (.inl _) => (some false)
 | (.inr _) => (some true))
theorem t_spec_l24Good {p0 : SPoset} {v : Bool} (h : F_spec_l24Good p0 = some v) : Ret Try.prog f_spec_l24Good [(rS_Poset false) p0] (V.bool v) := by
  refine ret_vc k_spec_l24Good (Nat.le_of_ble_eq_true rfl) ?_
  unfold F_spec_l24Good at h
  refine CutQ.o (fun t : (Unit ⊕ Unit) => match t with | (.inl s) => (Ex.ret, [2], [(2, A.val (V.bool (false)))]) | (.inr s) => (Ex.normal, [1], [(1, A.val ((rP true (rS_Poset false)) (p0)))])) h ?_ ?_
  · intro t h
    refine Cells.lit rfl rfl ?_
    refine CallQ.o V.bool (by rfl) h (fun r h => t_spec_l23Good h) (fun r1 h => ?_)
    refine Br.flip ?_
    refine Br.ob h (fun p2 h => ?_) (fun p2 h => ?_)
    · refine Br.no ?_
      refine Cells.lit rfl rfl ?_
      refine Br.no ?_
      refine Len.map ?_
      refine Br.no ?_
      refine Br.no ?_
      refine Br.oe h (fun p3 h => ?_) (fun p3 h => ?_)
      · cases h; exact ⟨rfl, rfl⟩
      cases h; exact ⟨rfl, rfl⟩
    refine Br.yes ?_
    refine Br.yes ?_
    refine Br.yes ?_
    refine Br.yes ?_
    refine Br.yes ?_
    cases h; exact ⟨rfl, rfl⟩
  rintro (⟨⟩ | ⟨⟩) h
  · try dsimp only at h
    cases h; exact (by rfl)
  try dsimp only at h
  refine Cells.lit rfl rfl ?_
  refine CallQ.o (rS_Poset true) (by rfl) h (fun r h => t_spec_l23Dual h) (fun r5 h => ?_)
  refine SetKids.lit rfl ?_
  refine LoopQ.o [4, 3, 1] (S_spec_l24Good_l2 p0 r5) (T_spec_l24Good_l2 p0 r5) h (fun s o h => b_spec_l24Good_l2 s o h) (by first | rfl | simp [restrict, look, mulN_one, V.fz, fzL, V.up, upL, fzL_map, fz_slr, fz_at, slr]) (by rintro (_ | _) <;> rfl) ?_
  rintro (⟨⟩ | ⟨⟩) h
  · try dsimp only at h
    cases h; exact (by rfl)
  try dsimp only at h
  cases h; exact (by rfl)

noncomputable def F_impl_listOf (p0 : SPoset) (list0 : (Slattice → Option (List Int))) : Option ((List Int) × Bool) :=
 (F_impl_latticeOf (p0)).bind fun t => match t with
 | (none, r1_2) => (if (r1_2) = true then
 none
 else
 some (nilL Int, false))
 | ((some r1_1), r1_2) => (if (r1_2) = true then
 (list0 (r1_1)).bind fun r4 =>
 some (r4, true)
 else
 some (nilL Int, false))
theorem t_impl_listOf {p0 : SPoset} {list0 : (Slattice → Option (List Int))} {f_list0 : Nat} {c_list0 : List V} (h_list0 : ∀ w_0 v, list0 w_0 = some v → Ret Try.prog f_list0 ([(rP false (rS_lattice false)) w_0] ++ fzL c_list0) ((slr true 1 vint) v)) {v : ((List Int) × Bool)} (h : F_impl_listOf p0 list0 = some v) : Ret Try.prog f_impl_listOf [(rS_Poset false) p0, V.fclo f_list0 c_list0] ((fun r => V.tup [(slr true 1 vint) r.1, V.bool r.2]) v) := by
  refine ret_vc k_impl_listOf (Nat.le_of_ble_eq_true rfl) ?_
  unfold F_impl_listOf at h
  refine Cells.lit rfl rfl ?_
  refine CallQ.o (fun r => V.tup [(rO true (rS_lattice true)) r.1, V.bool r.2]) (by rfl) h (fun r h => t_impl_latticeOf h) (fun r1 h => ?_)
  rcases r1 with ⟨(_ | r1_1), r1_2⟩
  · try dsimp only at h
    refine Br.flip ?_
    refine Br.ob h (fun p2 h => ?_) (fun p2 h => ?_)
    · cases h
    refine BslQ.o vint (nilL Int) (by exact fun _ => ⟨rfl, rfl⟩) (by rfl) ?_
    cases h; exact (by rfl)
  try dsimp only at h
  refine Br.flip ?_
  refine Br.ob h (fun p3 h => ?_) (fun p3 h => ?_)
  · refine CloQ.o (slr true 1 vint) (by first | rfl | simp only [V.fz, fzL, fzL_map, List.cons_append, List.nil_append] | simp [mulN_one, V.fz, fzL, V.up, upL, fzL_map, fz_slr, fz_at, slr]) (fun _ => by first | rfl | simp [resOk, V.noFz, noFzL_map]) h (fun r h => h_list0 _ _ h) (fun r4 h => ?_)
    cases h; exact (by rfl)
  refine BslQ.o vint (nilL Int) (by exact fun _ => ⟨rfl, rfl⟩) (by rfl) ?_
  cases h; exact (by rfl)

end Go.Proofs.Ytoikbcagaanhgaa.Ax
