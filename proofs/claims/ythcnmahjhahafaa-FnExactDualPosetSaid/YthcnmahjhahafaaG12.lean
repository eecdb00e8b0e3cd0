/-
  What the functions compute, as functions on plain data, and that the program does compute it; written by program.
-/
import Derived.Test.YthcnmahjhahafaaCode
import Derived.Test.YthcnmahjhahafaaG9
import Derived.Test.YthcnmahjhahafaaG10
namespace Go.Proofs.Ythcnmahjhahafaa.Ax
open Go
set_option maxRecDepth 100000
set_option maxHeartbeats 4000000

noncomputable def F_spec_l24Good_l1 (p0 : SPoset) (r5 : SPoset) (x4 : Int) : Int → Option (Int ⊕ (Unit ⊕ Unit)) := fun x5 =>
   if x5 < x4 then
    (F_spec_l24Bound (p0) ([x4, x5])).bind fun r8 =>
    if r8 < (0 : Int) then
     some (.inr (.inl ()))
    else
     (F_spec_l24Bound (r5) ([x4, x5])).bind fun r10 =>
     if r10 < (0 : Int) then
      some (.inr (.inl ()))
     else
      ask (InI (x5 + (1 : Int))) <|
      some (.inl (x5 + (1 : Int)))
   else
    some (.inr (.inr ()))
def S_spec_l24Good_l1 (p0 : SPoset) (r5 : SPoset) (x4 : Int) : Int → St := fun s => [(5, A.val (vint s)), (4, A.val (vint (x4))), (3, A.val ((rP true (rS_Poset true)) (r5))), (1, A.val ((rP true (rS_Poset false)) (p0)))]
def T_spec_l24Good_l1 (p0 : SPoset) (r5 : SPoset) (x4 : Int) : (Unit ⊕ Unit) → Tgt
  | (.inl _s) => (Ex.ret, [2], [(2, A.val (V.bool (false)))])
  | (.inr _s) => ((Ex.exit 2), [4, 3, 1], [(4, A.val (vint (x4))), (3, A.val ((rP true (rS_Poset true)) (r5))), (1, A.val ((rP true (rS_Poset false)) (p0)))])
theorem b_spec_l24Good_l1 {p0 : SPoset} {r5 : SPoset} {x4 : Int} (x5 : Int) (o : Int ⊕ (Unit ⊕ Unit)) (h : F_spec_l24Good_l1 p0 r5 x4 x5 = some o) : vc Try.prog c_spec_l24Good_l1 (outQ [5, 4, 3, 1] (S_spec_l24Good_l1 p0 r5 x4) (T_spec_l24Good_l1 p0 r5 x4) o) (S_spec_l24Good_l1 p0 r5 x4 x5) := by
  unfold F_spec_l24Good_l1 at h
  try dsimp only at h
  conv => whnf
  refine Br.od h (fun p7 h => ?_) (fun p7 h => ?_)
  · conv => whnf
    refine Cells.lit rfl rfl ?_
    conv => whnf
    refine BslQ.o vint ([x4, x5]) (fun _ => ⟨rfl, rfl⟩) (by first | rfl | simp only [mulN_one, V.fz, fzL, V.up, upL, fzL_map, fz_slr, fz_at, slr, List.cons_append, List.nil_append] | simp [mulN_one, V.fz, fzL, V.up, upL, fzL_map, fz_slr, fz_at, slr]) ?_
    conv => whnf
    refine CallQ.rd vint (by first | rfl | simp only [mulN_one, V.fz, fzL, V.up, upL, fzL_map, fz_slr, fz_at, slr, List.cons_append, List.nil_append] | simp [mulN_one, V.fz, fzL, V.up, upL, fzL_map, fz_slr, fz_at, slr]) (fun _ => rfl) h (fun r h => t_spec_l24Bound h) (fun r8 h => ?_)
    conv => whnf
    refine Br.od h (fun p9 h => ?_) (fun p9 h => ?_)
    · conv => whnf
      refine Br.yes ?_
      conv => whnf
      refine Br.yes ?_
      conv => whnf
      refine Br.yes ?_
      conv => whnf
      refine Br.yes ?_
      conv => whnf
      refine Br.yes ?_
      conv => whnf
      refine Br.yes ?_
      conv => whnf
      refine Br.yes ?_
      conv => whnf
      cases h; exact ⟨rfl, rfl⟩
    · conv => whnf
      refine Cells.lit rfl rfl ?_
      conv => whnf
      refine Br.no ?_
      conv => whnf
      refine Br.no ?_
      conv => whnf
      refine Br.no ?_
      conv => whnf
      refine BslQ.o vint ([x4, x5]) (fun _ => ⟨rfl, rfl⟩) (by first | rfl | simp only [mulN_one, V.fz, fzL, V.up, upL, fzL_map, fz_slr, fz_at, slr, List.cons_append, List.nil_append] | simp [mulN_one, V.fz, fzL, V.up, upL, fzL_map, fz_slr, fz_at, slr]) ?_
      conv => whnf
      refine Br.no ?_
      conv => whnf
      refine CallQ.rd vint (by first | rfl | simp only [V.fz, fzL_map, slr] | simp [mulN_one, V.fz, fzL, V.up, upL, fzL_map, fz_slr, fz_at, slr]) (fun _ => rfl) h (fun r h => t_spec_l24Bound h) (fun r10 h => ?_)
      conv => whnf
      refine Br.no ?_
      conv => whnf
      refine Br.no ?_
      conv => whnf
      refine Br.od h (fun p11 h => ?_) (fun p11 h => ?_)
      · conv => whnf
        cases h; exact ⟨rfl, rfl⟩
      · conv => whnf
        refine Ask.o h fun p12 h => ?_
        conv => whnf
        cases h; exact ⟨rfl, rfl⟩
  · conv => whnf
    cases h; exact ⟨rfl, rfl⟩

noncomputable def F_spec_l24Good_l2 (p0 : SPoset) (r5 : SPoset) : Int → Option (Int ⊕ (Unit ⊕ Unit)) := fun x4 =>
   if x4 < (↑p0.Below.length : Int) then
    (loopO (F_spec_l24Good_l1 p0 r5 x4) (0 : Int)).bind fun t => match t with
    | (.inl _) => (some (.inr (.inl ())))
    | (.inr _) => (ask (InI (x4 + (1 : Int))) <|
      some (.inl (x4 + (1 : Int))))
   else
    some (.inr (.inr ()))
def S_spec_l24Good_l2 (p0 : SPoset) (r5 : SPoset) : Int → St := fun s => [(4, A.val (vint s)), (3, A.val ((rP true (rS_Poset true)) (r5))), (1, A.val ((rP true (rS_Poset false)) (p0)))]
def T_spec_l24Good_l2 (_p0 : SPoset) (_r5 : SPoset) : (Unit ⊕ Unit) → Tgt
  | (.inl _s) => (Ex.ret, [2], [(2, A.val (V.bool (false)))])
  | (.inr _s) => ((Ex.exit 0), [], [])
theorem b_spec_l24Good_l2 {p0 : SPoset} {r5 : SPoset} (x4 : Int) (o : Int ⊕ (Unit ⊕ Unit)) (h : F_spec_l24Good_l2 p0 r5 x4 = some o) : vc Try.prog c_spec_l24Good_l2 (outQ [4, 3, 1] (S_spec_l24Good_l2 p0 r5) (T_spec_l24Good_l2 p0 r5) o) (S_spec_l24Good_l2 p0 r5 x4) := by
  unfold F_spec_l24Good_l2 at h
  try dsimp only at h
  conv => whnf
  refine Cells.lit rfl rfl ?_
  conv => whnf
  refine Len.map ?_
  conv => whnf
  refine Br.od h (fun p6 h => ?_) (fun p6 h => ?_)
  · conv => whnf
    refine LoopQ.o [5, 4, 3, 1] (S_spec_l24Good_l1 p0 r5 x4) (T_spec_l24Good_l1 p0 r5 x4) h (fun s o h => b_spec_l24Good_l1 s o h) (by first | rfl | simp [restrict, look, mulN_one, V.fz, fzL, V.up, upL, fzL_map, fz_slr, fz_at, slr]) (by rintro (_ | _) <;> rfl) ?_
    rintro (⟨⟩ | ⟨⟩) h
    · try dsimp only at h
      conv => whnf
      cases h; exact ⟨rfl, rfl⟩
    · try dsimp only at h
      conv => whnf
      refine Ask.o h fun p14 h => ?_
      conv => whnf
      cases h; exact ⟨rfl, rfl⟩
  · conv => whnf
    cases h; exact ⟨rfl, rfl⟩

noncomputable def F_spec_l24Good (p0 : SPoset) : Option Bool :=
  (((F_spec_l23Good (p0)).bind fun r1 =>
     if (r1) = true then
      if (↑p0.Below.length : Int) = (0 : Int) then
       some (.inl ())
      else
       some (.inr ())
     else
      some (.inl ()) : Option (Unit ⊕ Unit))).bind fun t => match t with
  | (.inl _) => (some false)
  | (.inr _) => ((F_spec_l23Dual (p0)).bind fun r5 =>
    (loopO (F_spec_l24Good_l2 p0 r5) (0 : Int)).bind fun t => match t with
    | (.inl _) => (some false)
    | (.inr _) => (some true))
theorem t_spec_l24Good {p0 : SPoset} {v : Bool} (h : F_spec_l24Good p0 = some v) : Ret Try.prog f_spec_l24Good [(rS_Poset false) p0] (V.bool v) := by
  refine ret_vc k_spec_l24Good (Nat.le_of_ble_eq_true rfl) ?_
  unfold F_spec_l24Good at h
  conv => whnf
  refine CutQ.o (fun t : (Unit ⊕ Unit) => match t with | (.inl s) => (Ex.ret, [2], [(2, A.val (V.bool (false)))]) | (.inr s) => (Ex.normal, [1], [(1, A.val ((rP true (rS_Poset false)) (p0)))])) h ?_ ?_
  · intro t h
    conv => whnf
    refine Cells.lit rfl rfl ?_
    conv => whnf
    refine CallQ.o V.bool (by first | rfl | simp only [mulN_one, V.fz, fzL, V.up, upL, fzL_map, fz_slr, fz_at, slr, List.cons_append, List.nil_append] | simp [mulN_one, V.fz, fzL, V.up, upL, fzL_map, fz_slr, fz_at, slr]) h (fun r h => t_spec_l23Good h) (fun r1 h => ?_)
    conv => whnf
    refine Br.flip ?_
    conv => whnf
    refine Br.ob h (fun p2 h => ?_) (fun p2 h => ?_)
    · conv => whnf
      refine Br.no ?_
      conv => whnf
      refine Cells.lit rfl rfl ?_
      conv => whnf
      refine Br.no ?_
      conv => whnf
      refine Len.map ?_
      conv => whnf
      refine Br.no ?_
      conv => whnf
      refine Br.no ?_
      conv => whnf
      refine Br.oe h (fun p3 h => ?_) (fun p3 h => ?_)
      · conv => whnf
        cases h; exact ⟨rfl, rfl⟩
      · conv => whnf
        cases h; exact ⟨rfl, rfl⟩
    · conv => whnf
      refine Br.yes ?_
      conv => whnf
      refine Br.yes ?_
      conv => whnf
      refine Br.yes ?_
      conv => whnf
      refine Br.yes ?_
      conv => whnf
      refine Br.yes ?_
      conv => whnf
      cases h; exact ⟨rfl, rfl⟩
  · rintro (⟨⟩ | ⟨⟩) h
    · try dsimp only at h
      conv => whnf
      cases h; exact (by first | rfl | simp [resV, mulN_one, V.fz, fzL, V.up, upL, fzL_map, fz_slr, fz_at, slr])
    · try dsimp only at h
      conv => whnf
      refine Cells.lit rfl rfl ?_
      conv => whnf
      refine CallQ.o (rS_Poset true) (by first | rfl | simp only [mulN_one, V.fz, fzL, V.up, upL, fzL_map, fz_slr, fz_at, slr, List.cons_append, List.nil_append] | simp [mulN_one, V.fz, fzL, V.up, upL, fzL_map, fz_slr, fz_at, slr]) h (fun r h => t_spec_l23Dual h) (fun r5 h => ?_)
      conv => whnf
      refine SetKids.lit rfl ?_
      conv => whnf
      refine LoopQ.o [4, 3, 1] (S_spec_l24Good_l2 p0 r5) (T_spec_l24Good_l2 p0 r5) h (fun s o h => b_spec_l24Good_l2 s o h) (by first | rfl | simp [restrict, look, mulN_one, V.fz, fzL, V.up, upL, fzL_map, fz_slr, fz_at, slr]) (by rintro (_ | _) <;> rfl) ?_
      rintro (⟨⟩ | ⟨⟩) h
      · try dsimp only at h
        conv => whnf
        cases h; exact (by first | rfl | simp [resV, mulN_one, V.fz, fzL, V.up, upL, fzL_map, fz_slr, fz_at, slr])
      · try dsimp only at h
        conv => whnf
        cases h; exact (by first | rfl | simp [resV, mulN_one, V.fz, fzL, V.up, upL, fzL_map, fz_slr, fz_at, slr])

noncomputable def F_spec_IsLattice (p0 : SPoset) : Option Bool :=
  (F_spec_l24Good (p0)).bind fun r1 =>
  some r1
theorem t_spec_IsLattice {p0 : SPoset} {v : Bool} (h : F_spec_IsLattice p0 = some v) : Ret Try.prog f_spec_IsLattice [(rS_Poset false) p0] (V.bool v) := by
  refine ret_vc k_spec_IsLattice (Nat.le_of_ble_eq_true rfl) ?_
  unfold F_spec_IsLattice at h
  conv => whnf
  refine Cells.lit rfl rfl ?_
  conv => whnf
  refine CallQ.o V.bool (by first | rfl | simp only [mulN_one, V.fz, fzL, V.up, upL, fzL_map, fz_slr, fz_at, slr, List.cons_append, List.nil_append] | simp [mulN_one, V.fz, fzL, V.up, upL, fzL_map, fz_slr, fz_at, slr]) h (fun r h => t_spec_l24Good h) (fun r1 h => ?_)
  conv => whnf
  cases h; exact (by first | rfl | simp [resV, mulN_one, V.fz, fzL, V.up, upL, fzL_map, fz_slr, fz_at, slr])

end Go.Proofs.Ythcnmahjhahafaa.Ax
