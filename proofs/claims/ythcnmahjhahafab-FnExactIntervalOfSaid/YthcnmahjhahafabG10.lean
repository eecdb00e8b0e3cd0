/-
  What the functions compute, as functions on plain data, and that the program does compute it; written by program.
-/
import Derived.Test.YthcnmahjhahafabCode
import Derived.Test.YthcnmahjhahafabG2
import Derived.Test.YthcnmahjhahafabG4
import Derived.Test.YthcnmahjhahafabG5
import Derived.Test.YthcnmahjhahafabG7
import Derived.Test.YthcnmahjhahafabG8
namespace Go.Proofs.Ythcnmahjhahafab.Ax
open Go
set_option maxRecDepth 100000
set_option maxHeartbeats 4000000

noncomputable def F_impl_IntervalOf (p0 : SPoset) (x0 : Int) (y0 : Int) : Option ((List Int) × Bool) :=
  (F_impl_latticeOf (p0)).bind fun t => match t with
  | (none, r1_2) => (((if (r1_2) = true then
        none
       else
        some () : Option Unit)).bind fun _ =>
    some (nilL Int, false))
  | ((some r1_1), r1_2) => (((if (r1_2) = true then
        (F_impl_order_has (r1_1.order) ([x0, y0])).bind fun r5 =>
        if (r5) = true then
         ask ((0 : Int) ≤ x0 ∧ x0 < (↑r1_1.order.length : Int)) <|
         ask ((0 : Int) ≤ y0 ∧ y0 < (↑(nth r1_1.order x0.toNat).length : Int)) <|
         if (nth (nth r1_1.order x0.toNat) y0.toNat) = true then
          some (.inl ())
         else
          some (.inr ())
        else
         some (.inr ())
       else
        some (.inr ()) : Option (Unit ⊕ Unit))).bind fun t => match t with
    | (.inl _) => ((F_impl_order_interval (r1_1.order) (x0) (y0)).bind fun r11 =>
      some (r11, true))
    | (.inr _) => (some (nilL Int, false)))
theorem t_impl_IntervalOf {p0 : SPoset} {x0 : Int} {y0 : Int} {v : ((List Int) × Bool)} (h : F_impl_IntervalOf p0 x0 y0 = some v) : Ret Try.prog f_impl_IntervalOf [(rS_Poset false) p0, vint x0, vint y0] ((fun r => V.tup [(slr true 1 vint) r.1, V.bool r.2]) v) := by
  refine ret_vc k_impl_IntervalOf (Nat.le_of_ble_eq_true rfl) ?_
  unfold F_impl_IntervalOf at h
  conv => whnf
  refine Cells.lit rfl rfl ?_
  conv => whnf
  refine CallQ.o (fun r => V.tup [(rO true (rS_lattice true)) r.1, V.bool r.2]) (by first | rfl | simp only [mulN_one, V.fz, fzL, V.up, upL, fzL_map, fz_slr, fz_at, slr, List.cons_append, List.nil_append] | simp [mulN_one, V.fz, fzL, V.up, upL, fzL_map, fz_slr, fz_at, slr]) h (fun r h => t_impl_latticeOf h) (fun r1 h => ?_)
  rcases r1 with ⟨(_ | r1_1), r1_2⟩
  · try dsimp only at h
    conv => whnf
    refine CutQ.o (fun t : Unit => match t with | s => (Ex.ret, [7, 6], [(7, A.val (V.bool (false))), (6, A.val ((slr true 1 vint) (nilL Int)))])) h ?_ ?_
    · intro t h
      conv => whnf
      refine Br.flip ?_
      conv => whnf
      refine Br.ob h (fun p2 h => ?_) (fun p2 h => ?_)
      · conv => whnf
        refine Br.no ?_
        conv => whnf
        cases h
      · conv => whnf
        refine Br.yes ?_
        conv => whnf
        refine Br.yes ?_
        conv => whnf
        refine Br.yes ?_
        conv => whnf
        refine Br.yes ?_
        conv => whnf
        refine Br.yes ?_
        conv => whnf
        refine Br.yes ?_
        conv => whnf
        refine Br.yes ?_
        conv => whnf
        refine Br.yes ?_
        conv => whnf
        refine Br.yes ?_
        conv => whnf
        refine Br.yes ?_
        conv => whnf
        refine Br.yes ?_
        conv => whnf
        refine Br.yes ?_
        conv => whnf
        refine Br.yes ?_
        conv => whnf
        refine Br.yes ?_
        conv => whnf
        refine Br.yes ?_
        conv => whnf
        refine Br.yes ?_
        conv => whnf
        refine Br.yes ?_
        conv => whnf
        refine Br.yes ?_
        conv => whnf
        refine Br.yes ?_
        conv => whnf
        refine Br.yes ?_
        conv => whnf
        refine Br.yes ?_
        conv => whnf
        refine Br.yes ?_
        conv => whnf
        refine BslQ.o vint (nilL Int) (by exact fun _ => ⟨rfl, rfl⟩) (by first | rfl | simp only [mulN_one, V.fz, fzL, V.up, upL, fzL_map, fz_slr, fz_at, slr, List.cons_append, List.nil_append] | simp [mulN_one, V.fz, fzL, V.up, upL, fzL_map, fz_slr, fz_at, slr]) ?_
        conv => whnf
        cases h; exact ⟨rfl, rfl⟩
    · rintro ⟨⟩ h
      try dsimp only at h
      conv => whnf
      cases h; exact (by first | rfl | simp [resV, mulN_one, V.fz, fzL, V.up, upL, fzL_map, fz_slr, fz_at, slr])
  · try dsimp only at h
    conv => whnf
    refine CutQ.o (fun t : (Unit ⊕ Unit) => match t with | (.inl s) => (Ex.normal, [8, 1, 2], [(8, A.val ((rP true (rS_lattice true)) (r1_1))), (1, A.val (vint (x0))), (2, A.val (vint (y0)))]) | (.inr s) => (Ex.ret, [7, 6], [(7, A.val (V.bool (false))), (6, A.val ((slr true 1 vint) (nilL Int)))])) h ?_ ?_
    · intro t h
      conv => whnf
      refine Br.flip ?_
      conv => whnf
      refine Br.ob h (fun p4 h => ?_) (fun p4 h => ?_)
      · conv => whnf
        refine Br.no ?_
        conv => whnf
        refine Br.no ?_
        conv => whnf
        refine Br.no ?_
        conv => whnf
        refine Cells.lit rfl rfl ?_
        conv => whnf
        refine Br.no ?_
        conv => whnf
        refine Br.no ?_
        conv => whnf
        refine Br.no ?_
        conv => whnf
        refine BslQ.o vint ([x0, y0]) (by exact fun _ => ⟨rfl, rfl⟩) (by first | rfl | simp only [mulN_one, V.fz, fzL, V.up, upL, fzL_map, fz_slr, fz_at, slr, List.cons_append, List.nil_append] | simp [mulN_one, V.fz, fzL, V.up, upL, fzL_map, fz_slr, fz_at, slr]) ?_
        conv => whnf
        refine Br.no ?_
        conv => whnf
        refine Kid.lit rfl rfl ?_
        conv => whnf
        refine CallQ.rd V.bool (by first | rfl | simp only [V.fz, fzL_map, slr] | simp [mulN_one, V.fz, fzL, V.up, upL, fzL_map, fz_slr, fz_at, slr]) (fun _ => rfl) h (fun r h => t_impl_order_has h) (fun r5 h => ?_)
        conv => whnf
        refine Br.no ?_
        conv => whnf
        refine Br.no ?_
        conv => whnf
        refine Br.flip ?_
        conv => whnf
        refine Br.ob h (fun p6 h => ?_) (fun p6 h => ?_)
        · conv => whnf
          refine Br.no ?_
          conv => whnf
          refine Br.no ?_
          conv => whnf
          refine Br.no ?_
          conv => whnf
          refine Cells.lit rfl rfl ?_
          conv => whnf
          refine Br.no ?_
          conv => whnf
          refine Br.no ?_
          conv => whnf
          refine Kid.lit rfl rfl ?_
          conv => whnf
          refine Len.map ?_
          conv => whnf
          refine Ask.o h fun p7 h => ?_
          conv => whnf
          refine Br.no ?_
          conv => whnf
          refine Kid.lit rfl rfl ?_
          conv => whnf
          refine Cells.one (fun _ => ⟨rfl, rfl⟩) (by first | omega | (simp only [mulN] at *; omega) | (simp [mulN] at *; omega)) ?_
          conv => whnf
          refine Br.no ?_
          conv => whnf
          refine Br.no ?_
          conv => whnf
          refine Kid.lit rfl rfl ?_
          conv => whnf
          refine Kid.one (fun _ => ⟨rfl, rfl⟩) (by first | omega | (simp only [mulN] at *; omega) | (simp [mulN] at *; omega)) ?_
          conv => whnf
          refine Len.map ?_
          conv => whnf
          refine Ask.o h fun p8 h => ?_
          conv => whnf
          refine Br.no ?_
          conv => whnf
          refine Kid.lit rfl rfl ?_
          conv => whnf
          refine Kid.one (fun _ => ⟨rfl, rfl⟩) (by first | omega | (simp only [mulN] at *; omega) | (simp [mulN] at *; omega)) ?_
          conv => whnf
          refine Cells.one (fun _ => ⟨rfl, rfl⟩) (by first | omega | (simp only [mulN] at *; omega) | (simp [mulN] at *; omega)) ?_
          conv => whnf
          refine Br.no ?_
          conv => whnf
          refine Br.no ?_
          conv => whnf
          refine Br.flip ?_
          conv => whnf
          refine Br.ob h (fun p9 h => ?_) (fun p9 h => ?_)
          · conv => whnf
            cases h; exact ⟨rfl, rfl⟩
          · conv => whnf
            refine BslQ.o vint (nilL Int) (by exact fun _ => ⟨rfl, rfl⟩) (by first | rfl | simp only [mulN_one, V.fz, fzL, V.up, upL, fzL_map, fz_slr, fz_at, slr, List.cons_append, List.nil_append] | simp [mulN_one, V.fz, fzL, V.up, upL, fzL_map, fz_slr, fz_at, slr]) ?_
            conv => whnf
            cases h; exact ⟨rfl, rfl⟩
        · conv => whnf
          refine Br.yes ?_
          conv => whnf
          refine Br.yes ?_
          conv => whnf
          refine Br.yes ?_
          conv => whnf
          refine Br.yes ?_
          conv => whnf
          refine Br.yes ?_
          conv => whnf
          refine Br.yes ?_
          conv => whnf
          refine Br.yes ?_
          conv => whnf
          refine Br.yes ?_
          conv => whnf
          refine Br.yes ?_
          conv => whnf
          refine Br.yes ?_
          conv => whnf
          refine Br.yes ?_
          conv => whnf
          refine Br.yes ?_
          conv => whnf
          refine BslQ.o vint (nilL Int) (by exact fun _ => ⟨rfl, rfl⟩) (by first | rfl | simp only [mulN_one, V.fz, fzL, V.up, upL, fzL_map, fz_slr, fz_at, slr, List.cons_append, List.nil_append] | simp [mulN_one, V.fz, fzL, V.up, upL, fzL_map, fz_slr, fz_at, slr]) ?_
          conv => whnf
          cases h; exact ⟨rfl, rfl⟩
      · conv => whnf
        refine Br.yes ?_
        conv => whnf
        refine Br.yes ?_
        conv => whnf
        refine Br.yes ?_
        conv => whnf
        refine Br.yes ?_
        conv => whnf
        refine Br.yes ?_
        conv => whnf
        refine Br.yes ?_
        conv => whnf
        refine Br.yes ?_
        conv => whnf
        refine Br.yes ?_
        conv => whnf
        refine Br.yes ?_
        conv => whnf
        refine Br.yes ?_
        conv => whnf
        refine Br.yes ?_
        conv => whnf
        refine Br.yes ?_
        conv => whnf
        refine Br.yes ?_
        conv => whnf
        refine Br.yes ?_
        conv => whnf
        refine Br.yes ?_
        conv => whnf
        refine Br.yes ?_
        conv => whnf
        refine Br.yes ?_
        conv => whnf
        refine Br.yes ?_
        conv => whnf
        refine Br.yes ?_
        conv => whnf
        refine Br.yes ?_
        conv => whnf
        refine Br.yes ?_
        conv => whnf
        refine Br.yes ?_
        conv => whnf
        refine BslQ.o vint (nilL Int) (by exact fun _ => ⟨rfl, rfl⟩) (by first | rfl | simp only [mulN_one, V.fz, fzL, V.up, upL, fzL_map, fz_slr, fz_at, slr, List.cons_append, List.nil_append] | simp [mulN_one, V.fz, fzL, V.up, upL, fzL_map, fz_slr, fz_at, slr]) ?_
        conv => whnf
        cases h; exact ⟨rfl, rfl⟩
    · rintro (⟨⟩ | ⟨⟩) h
      · try dsimp only at h
        conv => whnf
        refine Cells.lit rfl rfl ?_
        conv => whnf
        refine Kid.lit rfl rfl ?_
        conv => whnf
        refine CallQ.rd (slr true 1 vint) (by first | rfl | simp only [V.fz, V.up, fzL_map, fz_at, slr] | simp [mulN_one, V.fz, fzL, V.up, upL, fzL_map, fz_slr, fz_at, slr]) (fun _ => by simp [V.noFz, noFzL_map]) h (fun r h => t_impl_order_interval h) (fun r11 h => ?_)
        conv => whnf
        cases h; exact (by first | rfl | simp [resV, mulN_one, V.fz, fzL, V.up, upL, fzL_map, fz_slr, fz_at, slr])
      · try dsimp only at h
        conv => whnf
        cases h; exact (by first | rfl | simp [resV, mulN_one, V.fz, fzL, V.up, upL, fzL_map, fz_slr, fz_at, slr])

noncomputable def F_spec_l24Join (p0 : SPoset) (x0 : Int) (y0 : Int) : Option Int :=
  (F_spec_l23Dual (p0)).bind fun r1 =>
  (F_spec_l24Bound (r1) ([x0, y0])).bind fun r2 =>
  some r2
theorem t_spec_l24Join {p0 : SPoset} {x0 : Int} {y0 : Int} {v : Int} (h : F_spec_l24Join p0 x0 y0 = some v) : Ret Try.prog f_spec_l24Join [(rS_Poset false) p0, vint x0, vint y0] (vint v) := by
  refine ret_vc k_spec_l24Join (Nat.le_of_ble_eq_true rfl) ?_
  unfold F_spec_l24Join at h
  conv => whnf
  refine Cells.lit rfl rfl ?_
  conv => whnf
  refine CallQ.o (rS_Poset true) (by first | rfl | simp only [mulN_one, V.fz, fzL, V.up, upL, fzL_map, fz_slr, fz_at, slr, List.cons_append, List.nil_append] | simp [mulN_one, V.fz, fzL, V.up, upL, fzL_map, fz_slr, fz_at, slr]) h (fun r h => t_spec_l23Dual h) (fun r1 h => ?_)
  conv => whnf
  refine BslQ.o vint ([x0, y0]) (by exact fun _ => ⟨rfl, rfl⟩) (by first | rfl | simp only [mulN_one, V.fz, fzL, V.up, upL, fzL_map, fz_slr, fz_at, slr, List.cons_append, List.nil_append] | simp [mulN_one, V.fz, fzL, V.up, upL, fzL_map, fz_slr, fz_at, slr]) ?_
  conv => whnf
  refine CallQ.rd vint (by first | rfl | simp only [V.fz, fzL, fzL_map, slr] | simp [mulN_one, V.fz, fzL, V.up, upL, fzL_map, fz_slr, fz_at, slr]) (fun _ => rfl) h (fun r h => t_spec_l24Bound h) (fun r2 h => ?_)
  conv => whnf
  cases h; exact (by first | rfl | simp [resV, mulN_one, V.fz, fzL, V.up, upL, fzL_map, fz_slr, fz_at, slr])

noncomputable def F_spec_l24Meet (p0 : SPoset) (x0 : Int) (y0 : Int) : Option Int :=
  (F_spec_l24Bound (p0) ([x0, y0])).bind fun r1 =>
  some r1
theorem t_spec_l24Meet {p0 : SPoset} {x0 : Int} {y0 : Int} {v : Int} (h : F_spec_l24Meet p0 x0 y0 = some v) : Ret Try.prog f_spec_l24Meet [(rS_Poset false) p0, vint x0, vint y0] (vint v) := by
  refine ret_vc k_spec_l24Meet (Nat.le_of_ble_eq_true rfl) ?_
  unfold F_spec_l24Meet at h
  conv => whnf
  refine Cells.lit rfl rfl ?_
  conv => whnf
  refine BslQ.o vint ([x0, y0]) (by exact fun _ => ⟨rfl, rfl⟩) (by first | rfl | simp only [mulN_one, V.fz, fzL, V.up, upL, fzL_map, fz_slr, fz_at, slr, List.cons_append, List.nil_append] | simp [mulN_one, V.fz, fzL, V.up, upL, fzL_map, fz_slr, fz_at, slr]) ?_
  conv => whnf
  refine CallQ.rd vint (by first | rfl | simp only [mulN_one, V.fz, fzL, V.up, upL, fzL_map, fz_slr, fz_at, slr, List.cons_append, List.nil_append] | simp [mulN_one, V.fz, fzL, V.up, upL, fzL_map, fz_slr, fz_at, slr]) (fun _ => rfl) h (fun r h => t_spec_l24Bound h) (fun r1 h => ?_)
  conv => whnf
  cases h; exact (by first | rfl | simp [resV, mulN_one, V.fz, fzL, V.up, upL, fzL_map, fz_slr, fz_at, slr])

noncomputable def F_spec_l23Largest_l1 (p0 : SPoset) : (Int × (List Int)) → Option ((Int × (List Int)) ⊕ (List Int)) := fun (x4, x3) =>
   ask ((0 : Int) ≤ (↑p0.Below.length : Int)) <|
   if x4 < shlI (1 : Int) (↑p0.Below.length : Int) then
    (F_spec_l5Bits (x4)).bind fun r3 =>
    if (↑r3.length : Int) > (↑x3.length : Int) then
     (F_spec_l23Anti (p0) (r3)).bind fun r5 =>
     if (r5) = true then
      ask (InI (x4 + (1 : Int))) <|
      some (.inl (x4 + (1 : Int), r3))
     else
      ask (InI (x4 + (1 : Int))) <|
      some (.inl (x4 + (1 : Int), x3))
    else
     if (↑r3.length : Int) = (↑x3.length : Int) then
      (F_spec_l5Less (r3) (x3)).bind fun r10 =>
      if (r10) = true then
       (F_spec_l23Anti (p0) (r3)).bind fun r12 =>
       if (r12) = true then
        ask (InI (x4 + (1 : Int))) <|
        some (.inl (x4 + (1 : Int), r3))
       else
        ask (InI (x4 + (1 : Int))) <|
        some (.inl (x4 + (1 : Int), x3))
      else
       ask (InI (x4 + (1 : Int))) <|
       some (.inl (x4 + (1 : Int), x3))
     else
      ask (InI (x4 + (1 : Int))) <|
      some (.inl (x4 + (1 : Int), x3))
   else
    some (.inr x3)
def S_spec_l23Largest_l1 (p0 : SPoset) : (Int × (List Int)) → St := fun s => [(4, A.val (vint s.1)), (3, A.val ((slr true 1 vint) s.2)), (1, A.val ((rP true (rS_Poset false)) (p0)))]
def T_spec_l23Largest_l1 (_p0 : SPoset) : (List Int) → Tgt
  | s => ((Ex.exit 0), [3], [(3, A.val ((slr true 1 vint) s))])
theorem b_spec_l23Largest_l1 {p0 : SPoset} (s : (Int × (List Int))) (o : (Int × (List Int)) ⊕ (List Int)) (h : F_spec_l23Largest_l1 p0 s = some o) : vc Try.prog c_spec_l23Largest_l1 (outQ [4, 3, 1] (S_spec_l23Largest_l1 p0) (T_spec_l23Largest_l1 p0) o) (S_spec_l23Largest_l1 p0 s) := by
  obtain ⟨x4, x3⟩ := s
  unfold F_spec_l23Largest_l1 at h
  try dsimp only at h
  conv => whnf
  refine Cells.lit rfl rfl ?_
  conv => whnf
  refine Len.map ?_
  conv => whnf
  refine Ask.o h fun p1 h => ?_
  conv => whnf
  refine Br.od h (fun p2 h => ?_) (fun p2 h => ?_)
  · conv => whnf
    refine CallQ.o (slr true 1 vint) (by first | rfl | simp only [mulN_one, V.fz, fzL, V.up, upL, fzL_map, fz_slr, fz_at, slr, List.cons_append, List.nil_append] | simp [mulN_one, V.fz, fzL, V.up, upL, fzL_map, fz_slr, fz_at, slr]) h (fun r h => t_spec_l5Bits h) (fun r3 h => ?_)
    conv => whnf
    refine Len.map ?_
    conv => whnf
    refine Len.map ?_
    conv => whnf
    refine Br.od h (fun p4 h => ?_) (fun p4 h => ?_)
    · conv => whnf
      refine Br.yes ?_
      conv => whnf
      refine Br.yes ?_
      conv => whnf
      refine Br.yes ?_
      conv => whnf
      refine Br.yes ?_
      conv => whnf
      refine Br.yes ?_
      conv => whnf
      refine Br.yes ?_
      conv => whnf
      refine Br.yes ?_
      conv => whnf
      refine Br.yes ?_
      conv => whnf
      refine Cells.lit rfl rfl ?_
      conv => whnf
      refine Br.yes ?_
      conv => whnf
      refine Br.yes ?_
      conv => whnf
      refine CallQ.rd V.bool (by first | rfl | simp only [V.fz, fzL, fzL_map, slr] | simp [mulN_one, V.fz, fzL, V.up, upL, fzL_map, fz_slr, fz_at, slr]) (fun _ => rfl) h (fun r h => t_spec_l23Anti h) (fun r5 h => ?_)
      conv => whnf
      refine Br.yes ?_
      conv => whnf
      refine Br.ob h (fun p6 h => ?_) (fun p6 h => ?_)
      · conv => whnf
        refine Ask.o h fun p7 h => ?_
        conv => whnf
        cases h; exact ⟨rfl, rfl⟩
      · conv => whnf
        refine Ask.o h fun p8 h => ?_
        conv => whnf
        cases h; exact ⟨rfl, rfl⟩
    · conv => whnf
      refine Br.no ?_
      conv => whnf
      refine Len.map ?_
      conv => whnf
      refine Br.no ?_
      conv => whnf
      refine Br.no ?_
      conv => whnf
      refine Len.map ?_
      conv => whnf
      refine Br.no ?_
      conv => whnf
      refine Br.no ?_
      conv => whnf
      refine Br.oe h (fun p9 h => ?_) (fun p9 h => ?_)
      · conv => whnf
        refine Br.yes ?_
        conv => whnf
        refine Br.yes ?_
        conv => whnf
        refine CallQ.rd V.bool (by first | rfl | simp only [V.fz, fzL_map, slr] | simp [mulN_one, V.fz, fzL, V.up, upL, fzL_map, fz_slr, fz_at, slr]) (fun _ => rfl) h (fun r h => t_spec_l5Less h) (fun r10 h => ?_)
        conv => whnf
        refine Br.no ?_
        conv => whnf
        refine Br.yes ?_
        conv => whnf
        refine Br.no ?_
        conv => whnf
        refine Br.ob h (fun p11 h => ?_) (fun p11 h => ?_)
        · conv => whnf
          refine Cells.lit rfl rfl ?_
          conv => whnf
          refine Br.yes ?_
          conv => whnf
          refine Br.yes ?_
          conv => whnf
          refine CallQ.rd V.bool (by first | rfl | simp only [V.fz, fzL, fzL_map, slr] | simp [mulN_one, V.fz, fzL, V.up, upL, fzL_map, fz_slr, fz_at, slr]) (fun _ => rfl) h (fun r h => t_spec_l23Anti h) (fun r12 h => ?_)
          conv => whnf
          refine Br.yes ?_
          conv => whnf
          refine Br.ob h (fun p13 h => ?_) (fun p13 h => ?_)
          · conv => whnf
            refine Ask.o h fun p14 h => ?_
            conv => whnf
            cases h; exact ⟨rfl, rfl⟩
          · conv => whnf
            refine Ask.o h fun p15 h => ?_
            conv => whnf
            cases h; exact ⟨rfl, rfl⟩
        · conv => whnf
          refine Br.no ?_
          conv => whnf
          refine Br.no ?_
          conv => whnf
          refine Br.no ?_
          conv => whnf
          refine Br.no ?_
          conv => whnf
          refine Ask.o h fun p16 h => ?_
          conv => whnf
          cases h; exact ⟨rfl, rfl⟩
      · conv => whnf
        refine Br.no ?_
        conv => whnf
        refine Br.no ?_
        conv => whnf
        refine Br.no ?_
        conv => whnf
        refine Br.no ?_
        conv => whnf
        refine Br.no ?_
        conv => whnf
        refine Br.no ?_
        conv => whnf
        refine Br.no ?_
        conv => whnf
        refine Br.no ?_
        conv => whnf
        refine Br.no ?_
        conv => whnf
        refine Br.no ?_
        conv => whnf
        refine Ask.o h fun p17 h => ?_
        conv => whnf
        cases h; exact ⟨rfl, rfl⟩
  · conv => whnf
    cases h; exact ⟨rfl, rfl⟩

noncomputable def F_spec_l23Largest (p0 : SPoset) : Option (List Int) :=
  (loopO (F_spec_l23Largest_l1 p0) ((0 : Int), nilL Int)).bind fun q18_3 =>
  some q18_3
theorem t_spec_l23Largest {p0 : SPoset} {v : (List Int)} (h : F_spec_l23Largest p0 = some v) : Ret Try.prog f_spec_l23Largest [(rS_Poset false) p0] ((slr true 1 vint) v) := by
  refine ret_vc k_spec_l23Largest (Nat.le_of_ble_eq_true rfl) ?_
  unfold F_spec_l23Largest at h
  conv => whnf
  refine BslQ.o vint (nilL Int) (by exact fun _ => ⟨rfl, rfl⟩) (by first | rfl | simp only [mulN_one, V.fz, fzL, V.up, upL, fzL_map, fz_slr, fz_at, slr, List.cons_append, List.nil_append] | simp [mulN_one, V.fz, fzL, V.up, upL, fzL_map, fz_slr, fz_at, slr]) ?_
  conv => whnf
  refine LoopQ.o [4, 3, 1] (S_spec_l23Largest_l1 p0) (T_spec_l23Largest_l1 p0) h (fun s o h => b_spec_l23Largest_l1 s o h) (by first | rfl | simp [restrict, look, mulN_one, V.fz, fzL, V.up, upL, fzL_map, fz_slr, fz_at, slr]) (fun _ => rfl) ?_
  rintro q18_3 h
  try dsimp only at h
  conv => whnf
  cases h; exact (by first | rfl | simp [resV, mulN_one, V.fz, fzL, V.up, upL, fzL_map, fz_slr, fz_at, slr])

noncomputable def F_spec_l24Good_l1 (p0 : SPoset) (r5 : SPoset) (x4 : Int) : Int → Option (Int ⊕ (Unit ⊕ Unit)) := fun x5 =>
   if x5 < x4 then
    (F_spec_l24Bound (p0) ([x4, x5])).bind fun r8 =>
    if r8 < (0 : Int) then
     some (.inr (.inl ()))
    else
     (F_spec_l24Bound (r5) ([x4, x5])).bind fun r10 =>
     if r10 < (0 : Int) then
      some (.inr (.inl ()))
     else
      ask (InI (x5 + (1 : Int))) <|
      some (.inl (x5 + (1 : Int)))
   else
    some (.inr (.inr ()))
def S_spec_l24Good_l1 (p0 : SPoset) (r5 : SPoset) (x4 : Int) : Int → St := fun s => [(5, A.val (vint s)), (4, A.val (vint (x4))), (3, A.val ((rP true (rS_Poset true)) (r5))), (1, A.val ((rP true (rS_Poset false)) (p0)))]
def T_spec_l24Good_l1 (p0 : SPoset) (r5 : SPoset) (x4 : Int) : (Unit ⊕ Unit) → Tgt
  | (.inl _s) => (Ex.ret, [2], [(2, A.val (V.bool (false)))])
  | (.inr _s) => ((Ex.exit 2), [4, 3, 1], [(4, A.val (vint (x4))), (3, A.val ((rP true (rS_Poset true)) (r5))), (1, A.val ((rP true (rS_Poset false)) (p0)))])
theorem b_spec_l24Good_l1 {p0 : SPoset} {r5 : SPoset} {x4 : Int} (x5 : Int) (o : Int ⊕ (Unit ⊕ Unit)) (h : F_spec_l24Good_l1 p0 r5 x4 x5 = some o) : vc Try.prog c_spec_l24Good_l1 (outQ [5, 4, 3, 1] (S_spec_l24Good_l1 p0 r5 x4) (T_spec_l24Good_l1 p0 r5 x4) o) (S_spec_l24Good_l1 p0 r5 x4 x5) := by
  unfold F_spec_l24Good_l1 at h
  try dsimp only at h
  conv => whnf
  refine Br.od h (fun p7 h => ?_) (fun p7 h => ?_)
  · conv => whnf
    refine Cells.lit rfl rfl ?_
    conv => whnf
    refine BslQ.o vint ([x4, x5]) (by exact fun _ => ⟨rfl, rfl⟩) (by first | rfl | simp only [mulN_one, V.fz, fzL, V.up, upL, fzL_map, fz_slr, fz_at, slr, List.cons_append, List.nil_append] | simp [mulN_one, V.fz, fzL, V.up, upL, fzL_map, fz_slr, fz_at, slr]) ?_
    conv => whnf
    refine CallQ.rd vint (by first | rfl | simp only [mulN_one, V.fz, fzL, V.up, upL, fzL_map, fz_slr, fz_at, slr, List.cons_append, List.nil_append] | simp [mulN_one, V.fz, fzL, V.up, upL, fzL_map, fz_slr, fz_at, slr]) (fun _ => rfl) h (fun r h => t_spec_l24Bound h) (fun r8 h => ?_)
    conv => whnf
    refine Br.od h (fun p9 h => ?_) (fun p9 h => ?_)
    · conv => whnf
      refine Br.yes ?_
      conv => whnf
      refine Br.yes ?_
      conv => whnf
      refine Br.yes ?_
      conv => whnf
      refine Br.yes ?_
      conv => whnf
      refine Br.yes ?_
      conv => whnf
      refine Br.yes ?_
      conv => whnf
      refine Br.yes ?_
      conv => whnf
      cases h; exact ⟨rfl, rfl⟩
    · conv => whnf
      refine Cells.lit rfl rfl ?_
      conv => whnf
      refine Br.no ?_
      conv => whnf
      refine Br.no ?_
      conv => whnf
      refine Br.no ?_
      conv => whnf
      refine BslQ.o vint ([x4, x5]) (by exact fun _ => ⟨rfl, rfl⟩) (by first | rfl | simp only [mulN_one, V.fz, fzL, V.up, upL, fzL_map, fz_slr, fz_at, slr, List.cons_append, List.nil_append] | simp [mulN_one, V.fz, fzL, V.up, upL, fzL_map, fz_slr, fz_at, slr]) ?_
      conv => whnf
      refine Br.no ?_
      conv => whnf
      refine CallQ.rd vint (by first | rfl | simp only [V.fz, fzL_map, slr] | simp [mulN_one, V.fz, fzL, V.up, upL, fzL_map, fz_slr, fz_at, slr]) (fun _ => rfl) h (fun r h => t_spec_l24Bound h) (fun r10 h => ?_)
      conv => whnf
      refine Br.no ?_
      conv => whnf
      refine Br.no ?_
      conv => whnf
      refine Br.od h (fun p11 h => ?_) (fun p11 h => ?_)
      · conv => whnf
        cases h; exact ⟨rfl, rfl⟩
      · conv => whnf
        refine Ask.o h fun p12 h => ?_
        conv => whnf
        cases h; exact ⟨rfl, rfl⟩
  · conv => whnf
    cases h; exact ⟨rfl, rfl⟩

noncomputable def F_spec_l24Good_l2 (p0 : SPoset) (r5 : SPoset) : Int → Option (Int ⊕ (Unit ⊕ Unit)) := fun x4 =>
   if x4 < (↑p0.Below.length : Int) then
    (loopO (F_spec_l24Good_l1 p0 r5 x4) (0 : Int)).bind fun t => match t with
    | (.inl _) => (some (.inr (.inl ())))
    | (.inr _) => (ask (InI (x4 + (1 : Int))) <|
      some (.inl (x4 + (1 : Int))))
   else
    some (.inr (.inr ()))
def S_spec_l24Good_l2 (p0 : SPoset) (r5 : SPoset) : Int → St := fun s => [(4, A.val (vint s)), (3, A.val ((rP true (rS_Poset true)) (r5))), (1, A.val ((rP true (rS_Poset false)) (p0)))]
def T_spec_l24Good_l2 (_p0 : SPoset) (_r5 : SPoset) : (Unit ⊕ Unit) → Tgt
  | (.inl _s) => (Ex.ret, [2], [(2, A.val (V.bool (false)))])
  | (.inr _s) => ((Ex.exit 0), [], [])
theorem b_spec_l24Good_l2 {p0 : SPoset} {r5 : SPoset} (x4 : Int) (o : Int ⊕ (Unit ⊕ Unit)) (h : F_spec_l24Good_l2 p0 r5 x4 = some o) : vc Try.prog c_spec_l24Good_l2 (outQ [4, 3, 1] (S_spec_l24Good_l2 p0 r5) (T_spec_l24Good_l2 p0 r5) o) (S_spec_l24Good_l2 p0 r5 x4) := by
  unfold F_spec_l24Good_l2 at h
  try dsimp only at h
  conv => whnf
  refine Cells.lit rfl rfl ?_
  conv => whnf
  refine Len.map ?_
  conv => whnf
  refine Br.od h (fun p6 h => ?_) (fun p6 h => ?_)
  · conv => whnf
    refine LoopQ.o [5, 4, 3, 1] (S_spec_l24Good_l1 p0 r5 x4) (T_spec_l24Good_l1 p0 r5 x4) h (fun s o h => b_spec_l24Good_l1 s o h) (by first | rfl | simp [restrict, look, mulN_one, V.fz, fzL, V.up, upL, fzL_map, fz_slr, fz_at, slr]) (by rintro (_ | _) <;> rfl) ?_
    rintro (⟨⟩ | ⟨⟩) h
    · try dsimp only at h
      conv => whnf
      cases h; exact ⟨rfl, rfl⟩
    · try dsimp only at h
      conv => whnf
      refine Ask.o h fun p14 h => ?_
      conv => whnf
      cases h; exact ⟨rfl, rfl⟩
  · conv => whnf
    cases h; exact ⟨rfl, rfl⟩

noncomputable def F_spec_l24Good (p0 : SPoset) : Option Bool :=
  (((F_spec_l23Good (p0)).bind fun r1 =>
     if (r1) = true then
      if (↑p0.Below.length : Int) = (0 : Int) then
       some (.inl ())
      else
       some (.inr ())
     else
      some (.inl ()) : Option (Unit ⊕ Unit))).bind fun t => match t with
  | (.inl _) => (some false)
  | (.inr _) => ((F_spec_l23Dual (p0)).bind fun r5 =>
    (loopO (F_spec_l24Good_l2 p0 r5) (0 : Int)).bind fun t => match t with
    | (.inl _) => (some false)
    | (.inr _) => (some true))
theorem t_spec_l24Good {p0 : SPoset} {v : Bool} (h : F_spec_l24Good p0 = some v) : Ret Try.prog f_spec_l24Good [(rS_Poset false) p0] (V.bool v) := by
  refine ret_vc k_spec_l24Good (Nat.le_of_ble_eq_true rfl) ?_
  unfold F_spec_l24Good at h
  conv => whnf
  refine CutQ.o (fun t : (Unit ⊕ Unit) => match t with | (.inl s) => (Ex.ret, [2], [(2, A.val (V.bool (false)))]) | (.inr s) => (Ex.normal, [1], [(1, A.val ((rP true (rS_Poset false)) (p0)))])) h ?_ ?_
  · intro t h
    conv => whnf
    refine Cells.lit rfl rfl ?_
    conv => whnf
    refine CallQ.o V.bool (by first | rfl | simp only [mulN_one, V.fz, fzL, V.up, upL, fzL_map, fz_slr, fz_at, slr, List.cons_append, List.nil_append] | simp [mulN_one, V.fz, fzL, V.up, upL, fzL_map, fz_slr, fz_at, slr]) h (fun r h => t_spec_l23Good h) (fun r1 h => ?_)
    conv => whnf
    refine Br.flip ?_
    conv => whnf
    refine Br.ob h (fun p2 h => ?_) (fun p2 h => ?_)
    · conv => whnf
      refine Br.no ?_
      conv => whnf
      refine Cells.lit rfl rfl ?_
      conv => whnf
      refine Br.no ?_
      conv => whnf
      refine Len.map ?_
      conv => whnf
      refine Br.no ?_
      conv => whnf
      refine Br.no ?_
      conv => whnf
      refine Br.oe h (fun p3 h => ?_) (fun p3 h => ?_)
      · conv => whnf
        cases h; exact ⟨rfl, rfl⟩
      · conv => whnf
        cases h; exact ⟨rfl, rfl⟩
    · conv => whnf
      refine Br.yes ?_
      conv => whnf
      refine Br.yes ?_
      conv => whnf
      refine Br.yes ?_
      conv => whnf
      refine Br.yes ?_
      conv => whnf
      refine Br.yes ?_
      conv => whnf
      cases h; exact ⟨rfl, rfl⟩
  · rintro (⟨⟩ | ⟨⟩) h
    · try dsimp only at h
      conv => whnf
      cases h; exact (by first | rfl | simp [resV, mulN_one, V.fz, fzL, V.up, upL, fzL_map, fz_slr, fz_at, slr])
    · try dsimp only at h
      conv => whnf
      refine Cells.lit rfl rfl ?_
      conv => whnf
      refine CallQ.o (rS_Poset true) (by first | rfl | simp only [mulN_one, V.fz, fzL, V.up, upL, fzL_map, fz_slr, fz_at, slr, List.cons_append, List.nil_append] | simp [mulN_one, V.fz, fzL, V.up, upL, fzL_map, fz_slr, fz_at, slr]) h (fun r h => t_spec_l23Dual h) (fun r5 h => ?_)
      conv => whnf
      refine SetKids.lit rfl ?_
      conv => whnf
      refine LoopQ.o [4, 3, 1] (S_spec_l24Good_l2 p0 r5) (T_spec_l24Good_l2 p0 r5) h (fun s o h => b_spec_l24Good_l2 s o h) (by first | rfl | simp [restrict, look, mulN_one, V.fz, fzL, V.up, upL, fzL_map, fz_slr, fz_at, slr]) (by rintro (_ | _) <;> rfl) ?_
      rintro (⟨⟩ | ⟨⟩) h
      · try dsimp only at h
        conv => whnf
        cases h; exact (by first | rfl | simp [resV, mulN_one, V.fz, fzL, V.up, upL, fzL_map, fz_slr, fz_at, slr])
      · try dsimp only at h
        conv => whnf
        cases h; exact (by first | rfl | simp [resV, mulN_one, V.fz, fzL, V.up, upL, fzL_map, fz_slr, fz_at, slr])

noncomputable def F_spec_l24Bottom (p0 : SPoset) : Option Int :=
  (F_spec_l23Dual (p0)).bind fun r1 =>
  (F_spec_l24Bound (r1) (nilL Int)).bind fun r2 =>
  some r2
theorem t_spec_l24Bottom {p0 : SPoset} {v : Int} (h : F_spec_l24Bottom p0 = some v) : Ret Try.prog f_spec_l24Bottom [(rS_Poset false) p0] (vint v) := by
  refine ret_vc k_spec_l24Bottom (Nat.le_of_ble_eq_true rfl) ?_
  unfold F_spec_l24Bottom at h
  conv => whnf
  refine Cells.lit rfl rfl ?_
  conv => whnf
  refine CallQ.o (rS_Poset true) (by first | rfl | simp only [mulN_one, V.fz, fzL, V.up, upL, fzL_map, fz_slr, fz_at, slr, List.cons_append, List.nil_append] | simp [mulN_one, V.fz, fzL, V.up, upL, fzL_map, fz_slr, fz_at, slr]) h (fun r h => t_spec_l23Dual h) (fun r1 h => ?_)
  conv => whnf
  refine BslQ.o vint (nilL Int) (by exact fun _ => ⟨rfl, rfl⟩) (by first | rfl | simp only [mulN_one, V.fz, fzL, V.up, upL, fzL_map, fz_slr, fz_at, slr, List.cons_append, List.nil_append] | simp [mulN_one, V.fz, fzL, V.up, upL, fzL_map, fz_slr, fz_at, slr]) ?_
  conv => whnf
  refine CallQ.rd vint (by first | rfl | simp only [V.fz, fzL, fzL_map, slr] | simp [mulN_one, V.fz, fzL, V.up, upL, fzL_map, fz_slr, fz_at, slr]) (fun _ => rfl) h (fun r h => t_spec_l24Bound h) (fun r2 h => ?_)
  conv => whnf
  cases h; exact (by first | rfl | simp [resV, mulN_one, V.fz, fzL, V.up, upL, fzL_map, fz_slr, fz_at, slr])

noncomputable def F_spec_l24Top (p0 : SPoset) : Option Int :=
  (F_spec_l24Bound (p0) (nilL Int)).bind fun r1 =>
  some r1
theorem t_spec_l24Top {p0 : SPoset} {v : Int} (h : F_spec_l24Top p0 = some v) : Ret Try.prog f_spec_l24Top [(rS_Poset false) p0] (vint v) := by
  refine ret_vc k_spec_l24Top (Nat.le_of_ble_eq_true rfl) ?_
  unfold F_spec_l24Top at h
  conv => whnf
  refine Cells.lit rfl rfl ?_
  conv => whnf
  refine BslQ.o vint (nilL Int) (by exact fun _ => ⟨rfl, rfl⟩) (by first | rfl | simp only [mulN_one, V.fz, fzL, V.up, upL, fzL_map, fz_slr, fz_at, slr, List.cons_append, List.nil_append] | simp [mulN_one, V.fz, fzL, V.up, upL, fzL_map, fz_slr, fz_at, slr]) ?_
  conv => whnf
  refine CallQ.rd vint (by first | rfl | simp only [mulN_one, V.fz, fzL, V.up, upL, fzL_map, fz_slr, fz_at, slr, List.cons_append, List.nil_append] | simp [mulN_one, V.fz, fzL, V.up, upL, fzL_map, fz_slr, fz_at, slr]) (fun _ => rfl) h (fun r h => t_spec_l24Bound h) (fun r1 h => ?_)
  conv => whnf
  cases h; exact (by first | rfl | simp [resV, mulN_one, V.fz, fzL, V.up, upL, fzL_map, fz_slr, fz_at, slr])

end Go.Proofs.Ythcnmahjhahafab.Ax
