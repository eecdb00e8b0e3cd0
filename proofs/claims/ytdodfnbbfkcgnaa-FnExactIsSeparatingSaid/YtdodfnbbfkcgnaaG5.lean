/-
  What the functions compute, as functions on plain data, and that the program does compute it; written by program.
-/
import Derived.Test.YtdodfnbbfkcgnaaCode
import Derived.Test.YtdodfnbbfkcgnaaG1
import Derived.Test.YtdodfnbbfkcgnaaG2
import Derived.Test.YtdodfnbbfkcgnaaG3
import Derived.Test.YtdodfnbbfkcgnaaG4
namespace Go.Proofs.Ytdodfnbbfkcgnaa.Ax
open Go
set_option maxRecDepth 100000
set_option maxHeartbeats 4000000

noncomputable def F_spec_l6Is (a0 : SAlgebra) (p0 : (List Int)) : Option Bool :=
  (F_spec_l6Partition (a0.Size) (p0)).bind fun r1 =>
  if (r1) = true then
   (F_spec_l6Push (a0) (p0)).bind fun r3 =>
   (F_spec_l1Same (r3) (p0)).bind fun r4 =>
   some r4
  else
   some false
theorem t_spec_l6Is {a0 : SAlgebra} {p0 : (List Int)} {v : Bool} (h : F_spec_l6Is a0 p0 = some v) : Ret Try.prog f_spec_l6Is [(rS_Algebra false) a0, (slr false 1 vint) p0] (V.bool v) := by
  refine ret_vc k_spec_l6Is (Nat.le_of_ble_eq_true rfl) ?_
  unfold F_spec_l6Is at h
  conv => whnf
  refine Cells.lit rfl rfl ?_
  conv => whnf
  refine CallQ.o V.bool (by first | rfl | simp only [mulN_one, V.fz, fzL, V.up, upL, fzL_map, fz_slr, fz_at, slr, List.cons_append, List.nil_append] | simp [mulN_one, V.fz, fzL, V.up, upL, fzL_map, fz_slr, fz_at, slr]) h (fun r h => t_spec_l6Partition h) (fun r1 h => ?_)
  conv => whnf
  refine Br.ob h (fun p2 h => ?_) (fun p2 h => ?_)
  · conv => whnf
    refine Cells.lit rfl rfl ?_
    conv => whnf
    refine Br.yes ?_
    conv => whnf
    refine Br.yes ?_
    conv => whnf
    refine CallQ.o (slr true 1 vint) (by first | rfl | simp only [mulN_one, V.fz, fzL, V.up, upL, fzL_map, fz_slr, fz_at, slr, List.cons_append, List.nil_append] | simp [mulN_one, V.fz, fzL, V.up, upL, fzL_map, fz_slr, fz_at, slr]) h (fun r h => t_spec_l6Push h) (fun r3 h => ?_)
    conv => whnf
    refine Br.yes ?_
    conv => whnf
    refine Br.yes ?_
    conv => whnf
    refine CallQ.rd V.bool (by first | rfl | simp only [V.fz, V.up, fzL_map, slr] | simp [mulN_one, V.fz, fzL, V.up, upL, fzL_map, fz_slr, fz_at, slr]) (fun _ => rfl) h (fun r h => t_spec_l1Same h) (fun r4 h => ?_)
    conv => whnf
    refine Br.yes ?_
    conv => whnf
    cases h; exact (by first | rfl | simp only [resV, mulN_one, V.fz, fzL, V.up, upL, fzL_map, fz_slr, fz_at, slr] | simp [resV, mulN_one, V.fz, fzL, V.up, upL, fzL_map, fz_slr, fz_at, slr])
  · conv => whnf
    refine Br.no ?_
    conv => whnf
    refine Br.no ?_
    conv => whnf
    refine Br.no ?_
    conv => whnf
    refine Br.no ?_
    conv => whnf
    refine Br.no ?_
    conv => whnf
    cases h; exact (by first | rfl | simp only [resV, mulN_one, V.fz, fzL, V.up, upL, fzL_map, fz_slr, fz_at, slr] | simp [resV, mulN_one, V.fz, fzL, V.up, upL, fzL_map, fz_slr, fz_at, slr])

noncomputable def F_impl_IsSeparating (a0 : SAlgebra) (list0 : (List (List Int))) : Option (Bool × Bool) :=
  (F_impl_areCongruences (a0) (list0)).bind fun r1 =>
  if (r1) = true then
   (F_impl_meetAll (a0.Size) (list0)).bind fun r3 =>
   (F_impl_blockCount (r3)).bind fun r4 =>
   some (r4 == a0.Size, true)
  else
   some (false, false)
theorem t_impl_IsSeparating {a0 : SAlgebra} {list0 : (List (List Int))} {v : (Bool × Bool)} (h : F_impl_IsSeparating a0 list0 = some v) : Ret Try.prog f_impl_IsSeparating [(rS_Algebra false) a0, (slr false 1 (slr false 1 vint)) list0] ((fun r => V.tup [V.bool r.1, V.bool r.2]) v) := by
  refine ret_vc k_impl_IsSeparating (Nat.le_of_ble_eq_true rfl) ?_
  unfold F_impl_IsSeparating at h
  conv => whnf
  refine Cells.lit rfl rfl ?_
  conv => whnf
  refine CallQ.o V.bool (by first | rfl | simp only [mulN_one, V.fz, fzL, V.up, upL, fzL_map, fz_slr, fz_at, slr, List.cons_append, List.nil_append] | simp [mulN_one, V.fz, fzL, V.up, upL, fzL_map, fz_slr, fz_at, slr]) h (fun r h => t_impl_areCongruences h) (fun r1 h => ?_)
  conv => whnf
  refine Br.flip ?_
  conv => whnf
  refine Br.ob h (fun p2 h => ?_) (fun p2 h => ?_)
  · conv => whnf
    refine Cells.lit rfl rfl ?_
    conv => whnf
    refine CallP.o (slr true 1 vint) (by first | rfl | simp only [mulN_one, V.fz, fzL, V.up, upL, fzL_map, fz_slr, fz_at, slr, List.cons_append, List.nil_append] | simp [mulN_one, V.fz, fzL, V.up, upL, fzL_map, fz_slr, fz_at, slr]) h (fun r h => t_impl_meetAll h) (fun r3 h => ?_)
    conv => whnf
    refine CallP.rd vint (by first | rfl | simp only [V.fz, fzL_map, slr] | simp [mulN_one, V.fz, fzL, V.up, upL, fzL_map, fz_slr, fz_at, slr]) (fun _ => rfl) h (fun r h => t_impl_blockCount h) (fun r4 h => ?_)
    conv => whnf
    refine Cells.lit rfl rfl ?_
    conv => whnf
    cases h; exact (by first | rfl | simp only [resV, mulN_one, V.fz, fzL, V.up, upL, fzL_map, fz_slr, fz_at, slr] | simp [resV, mulN_one, V.fz, fzL, V.up, upL, fzL_map, fz_slr, fz_at, slr])
  · conv => whnf
    cases h; exact (by first | rfl | simp only [resV, mulN_one, V.fz, fzL, V.up, upL, fzL_map, fz_slr, fz_at, slr] | simp [resV, mulN_one, V.fz, fzL, V.up, upL, fzL_map, fz_slr, fz_at, slr])

noncomputable def F_spec_l10List_l1 (a0 : SAlgebra) (list0 : List (List Int)) : Int → Option (Int ⊕ (Unit ⊕ Unit)) := fun x5 =>
   if x5 < (↑list0.length : Int) then
    ask ((0 : Int) ≤ x5 ∧ x5 < (↑list0.length : Int)) <|
    (F_spec_l6Is (a0) (nth list0 x5.toNat)).bind fun r7 =>
    if (r7) = true then
     ask (InI (x5 + (1 : Int))) <|
     some (.inl (x5 + (1 : Int)))
    else
     some (.inr (.inl ()))
   else
    some (.inr (.inr ()))
def S_spec_l10List_l1 (a0 : SAlgebra) (list0 : List (List Int)) : Int → St := fun s => [(5, A.val (vint s)), (2, A.val ((rP true (rS_Algebra false)) (a0))), (1, A.val ((slr false 1 (slr false 1 vint)) (list0)))]
def T_spec_l10List_l1 (_a0 : SAlgebra) (_list0 : List (List Int)) : (Unit ⊕ Unit) → Tgt
  | (.inl _s) => (Ex.ret, [4], [(4, A.val (V.bool (false)))])
  | (.inr _s) => ((Ex.exit 0), [], [])
theorem b_spec_l10List_l1 {a0 : SAlgebra} {list0 : List (List Int)} (x5 : Int) (o : Int ⊕ (Unit ⊕ Unit)) (h : F_spec_l10List_l1 a0 list0 x5 = some o) : vc Try.prog c_spec_l10List_l1 (outQ [5, 2, 1] (S_spec_l10List_l1 a0 list0) (T_spec_l10List_l1 a0 list0) o) (S_spec_l10List_l1 a0 list0 x5) := by
  unfold F_spec_l10List_l1 at h
  try dsimp only at h
  conv => whnf
  refine Len.map ?_
  conv => whnf
  refine Br.od h (fun p5 h => ?_) (fun p5 h => ?_)
  · conv => whnf
    refine Cells.lit rfl rfl ?_
    conv => whnf
    refine Len.map ?_
    conv => whnf
    refine Ask.o h fun p6 h => ?_
    conv => whnf
    refine Elem.o (by first | omega | (simp only [mulN] at *; omega) | (simp [mulN] at *; omega)) ?_
    conv => whnf
    refine CallQ.o V.bool (by first | rfl | simp only [mulN_one, V.fz, fzL, V.up, upL, fzL_map, fz_slr, fz_at, slr, List.cons_append, List.nil_append] | simp [mulN_one, V.fz, fzL, V.up, upL, fzL_map, fz_slr, fz_at, slr]) h (fun r h => t_spec_l6Is h) (fun r7 h => ?_)
    conv => whnf
    refine Br.flip ?_
    conv => whnf
    refine Br.ob h (fun p8 h => ?_) (fun p8 h => ?_)
    · conv => whnf
      refine Ask.o h fun p9 h => ?_
      conv => whnf
      cases h; exact ⟨rfl, rfl⟩
    · conv => whnf
      cases h; exact ⟨rfl, rfl⟩
  · conv => whnf
    cases h; exact ⟨rfl, rfl⟩

noncomputable def F_spec_l10List (a0 : SAlgebra) (list0 : (List (List Int))) : Option Bool :=
  (((F_spec_l2Good (a0)).bind fun r1 =>
     if (r1) = true then
      if (↑list0.length : Int) > (20 : Int) then
       some (.inl ())
      else
       some (.inr ())
     else
      some (.inl ()) : Option (Unit ⊕ Unit))).bind fun t => match t with
  | (.inl _) => (some false)
  | (.inr _) => ((loopO (F_spec_l10List_l1 a0 list0) (0 : Int)).bind fun t => match t with
    | (.inl _) => (some false)
    | (.inr _) => (some true))
theorem t_spec_l10List {a0 : SAlgebra} {list0 : (List (List Int))} {v : Bool} (h : F_spec_l10List a0 list0 = some v) : Ret Try.prog f_spec_l10List [(rS_Algebra false) a0, (slr false 1 (slr false 1 vint)) list0] (V.bool v) := by
  refine ret_vc k_spec_l10List (Nat.le_of_ble_eq_true rfl) ?_
  unfold F_spec_l10List at h
  conv => whnf
  refine CutQ.o (fun t : (Unit ⊕ Unit) => match t with | (.inl s) => (Ex.ret, [4], [(4, A.val (V.bool (false)))]) | (.inr s) => (Ex.normal, [2, 1], [(2, A.val ((rP true (rS_Algebra false)) (a0))), (1, A.val ((slr false 1 (slr false 1 vint)) (list0)))])) h ?_ ?_
  · intro t h
    conv => whnf
    refine Cells.lit rfl rfl ?_
    conv => whnf
    refine CallQ.o V.bool (by first | rfl | simp only [mulN_one, V.fz, fzL, V.up, upL, fzL_map, fz_slr, fz_at, slr, List.cons_append, List.nil_append] | simp [mulN_one, V.fz, fzL, V.up, upL, fzL_map, fz_slr, fz_at, slr]) h (fun r h => t_spec_l2Good h) (fun r1 h => ?_)
    conv => whnf
    refine Br.flip ?_
    conv => whnf
    refine Br.ob h (fun p2 h => ?_) (fun p2 h => ?_)
    · conv => whnf
      refine Br.no ?_
      conv => whnf
      refine Len.map ?_
      conv => whnf
      refine Br.no ?_
      conv => whnf
      refine Br.no ?_
      conv => whnf
      refine Br.od h (fun p3 h => ?_) (fun p3 h => ?_)
      · conv => whnf
        cases h; exact ⟨rfl, rfl⟩
      · conv => whnf
        cases h; exact ⟨rfl, rfl⟩
    · conv => whnf
      refine Br.yes ?_
      conv => whnf
      refine Br.yes ?_
      conv => whnf
      refine Br.yes ?_
      conv => whnf
      refine Br.yes ?_
      conv => whnf
      cases h; exact ⟨rfl, rfl⟩
  · rintro (⟨⟩ | ⟨⟩) h
    · try dsimp only at h
      conv => whnf
      cases h; exact (by first | rfl | simp only [resV, mulN_one, V.fz, fzL, V.up, upL, fzL_map, fz_slr, fz_at, slr] | simp [resV, mulN_one, V.fz, fzL, V.up, upL, fzL_map, fz_slr, fz_at, slr])
    · try dsimp only at h
      conv => whnf
      refine LoopQ.o [5, 2, 1] (S_spec_l10List_l1 a0 list0) (T_spec_l10List_l1 a0 list0) h (fun s o h => b_spec_l10List_l1 s o h) (by first | rfl | simp [restrict, look, mulN_one, V.fz, fzL, V.up, upL, fzL_map, fz_slr, fz_at, slr]) (by rintro (_ | _) <;> rfl) ?_
      rintro (⟨⟩ | ⟨⟩) h
      · try dsimp only at h
        conv => whnf
        cases h; exact (by first | rfl | simp only [resV, mulN_one, V.fz, fzL, V.up, upL, fzL_map, fz_slr, fz_at, slr] | simp [resV, mulN_one, V.fz, fzL, V.up, upL, fzL_map, fz_slr, fz_at, slr])
      · try dsimp only at h
        conv => whnf
        cases h; exact (by first | rfl | simp only [resV, mulN_one, V.fz, fzL, V.up, upL, fzL_map, fz_slr, fz_at, slr] | simp [resV, mulN_one, V.fz, fzL, V.up, upL, fzL_map, fz_slr, fz_at, slr])

noncomputable def F_spec_IsSeparating (a0 : SAlgebra) (list0 : (List (List Int))) : Option (Bool × Bool) :=
  (F_spec_l10List (a0) (list0)).bind fun r1 =>
  if (r1) = true then
   (F_spec_l10Meet (a0.Size) (list0)).bind fun r3 =>
   (F_spec_l6Count (r3)).bind fun r4 =>
   some (r4 == a0.Size, true)
  else
   some (false, false)
theorem t_spec_IsSeparating {a0 : SAlgebra} {list0 : (List (List Int))} {v : (Bool × Bool)} (h : F_spec_IsSeparating a0 list0 = some v) : Ret Try.prog f_spec_IsSeparating [(rS_Algebra false) a0, (slr false 1 (slr false 1 vint)) list0] ((fun r => V.tup [V.bool r.1, V.bool r.2]) v) := by
  refine ret_vc k_spec_IsSeparating (Nat.le_of_ble_eq_true rfl) ?_
  unfold F_spec_IsSeparating at h
  conv => whnf
  refine Cells.lit rfl rfl ?_
  conv => whnf
  refine CallQ.o V.bool (by first | rfl | simp only [mulN_one, V.fz, fzL, V.up, upL, fzL_map, fz_slr, fz_at, slr, List.cons_append, List.nil_append] | simp [mulN_one, V.fz, fzL, V.up, upL, fzL_map, fz_slr, fz_at, slr]) h (fun r h => t_spec_l10List h) (fun r1 h => ?_)
  conv => whnf
  refine Br.flip ?_
  conv => whnf
  refine Br.ob h (fun p2 h => ?_) (fun p2 h => ?_)
  · conv => whnf
    refine Cells.lit rfl rfl ?_
    conv => whnf
    refine CallP.o (slr true 1 vint) (by first | rfl | simp only [mulN_one, V.fz, fzL, V.up, upL, fzL_map, fz_slr, fz_at, slr, List.cons_append, List.nil_append] | simp [mulN_one, V.fz, fzL, V.up, upL, fzL_map, fz_slr, fz_at, slr]) h (fun r h => t_spec_l10Meet h) (fun r3 h => ?_)
    conv => whnf
    refine CallP.rd vint (by first | rfl | simp only [V.fz, fzL_map, slr] | simp [mulN_one, V.fz, fzL, V.up, upL, fzL_map, fz_slr, fz_at, slr]) (fun _ => rfl) h (fun r h => t_spec_l6Count h) (fun r4 h => ?_)
    conv => whnf
    refine Cells.lit rfl rfl ?_
    conv => whnf
    cases h; exact (by first | rfl | simp only [resV, mulN_one, V.fz, fzL, V.up, upL, fzL_map, fz_slr, fz_at, slr] | simp [resV, mulN_one, V.fz, fzL, V.up, upL, fzL_map, fz_slr, fz_at, slr])
  · conv => whnf
    cases h; exact (by first | rfl | simp only [resV, mulN_one, V.fz, fzL, V.up, upL, fzL_map, fz_slr, fz_at, slr] | simp [resV, mulN_one, V.fz, fzL, V.up, upL, fzL_map, fz_slr, fz_at, slr])

end Go.Proofs.Ytdodfnbbfkcgnaa.Ax
