/-
  What the functions compute, as functions on plain data, and that the program does compute it; written by program.
-/
import Derived.Test.YtdodfnbbfkcgnaaCode
import Derived.Test.YtdodfnbbfkcgnaaG1
import Derived.Test.YtdodfnbbfkcgnaaG3
import Derived.Test.YtdodfnbbfkcgnaaG4
import Derived.Test.YtdodfnbbfkcgnaaG5
import Derived.Test.YtdodfnbbfkcgnaaG6
namespace Go.Proofs.Ytdodfnbbfkcgnaa.Ax
open Go
set_option maxRecDepth 100000
set_option maxHeartbeats 4000000

noncomputable def F_impl_LatticeOf (a0 : SAlgebra) : Option (SPoset × Bool) :=
  (((F_impl_IsAlgebra (a0)).bind fun r1 =>
     if (r1) = true then
      (F_impl_typeOf (a0)).bind fun r3 =>
      (F_impl_sameList (r3) ([(2 : Int), (2 : Int)])).bind fun r4 =>
      if (r4) = true then
       some (.inl ())
      else
       some (.inr ())
     else
      some (.inr ()) : Option (Unit ⊕ Unit))).bind fun t => match t with
  | (.inl _) => (ask ((0 : Int) ≤ (0 : Int) ∧ (0 : Int) < (↑a0.Ops.length : Int)) <|
    (F_impl_orderOfMeet (a0.Size) ((nth a0.Ops (Int.toNat (0 : Int))).Table)).bind fun r8 =>
    (F_impl_order_poset (r8)).bind fun r9 =>
    (F_impl_latticeOf (r9)).bind fun t => match t with
    | (none, r10_2) => (if (r10_2) = true then
       none
      else
       some ({ Below := nilL (List Int) }, false))
    | ((some r10_1), r10_2) => (if (r10_2) = true then
       (F_impl_lattice_algebra (r10_1)).bind fun r13 =>
       (F_impl_sameAlgebra (r13) (a0)).bind fun r14 =>
       if (r14) = true then
        some (r9, true)
       else
        some ({ Below := nilL (List Int) }, false)
      else
       some ({ Below := nilL (List Int) }, false)))
  | (.inr _) => (some ({ Below := nilL (List Int) }, false))
theorem t_impl_LatticeOf {a0 : SAlgebra} {v : (SPoset × Bool)} (h : F_impl_LatticeOf a0 = some v) : Ret Try.prog f_impl_LatticeOf [(rS_Algebra false) a0] ((fun r => V.tup [(rS_Poset true) r.1, V.bool r.2]) v) := by
  refine ret_vc k_impl_LatticeOf (Nat.le_of_ble_eq_true rfl) ?_
  unfold F_impl_LatticeOf at h
  conv => whnf
  refine CutQ.o (fun t : (Unit ⊕ Unit) => match t with | (.inl s) => (Ex.normal, [2, 1], [(2, A.val ((rP true (rS_Poset true)) ({ Below := nilL (List Int) }))), (1, A.val ((rP true (rS_Algebra false)) (a0)))]) | (.inr s) => (Ex.ret, [3, 2], [(3, A.val (V.bool (false))), (2, A.val ((rP true (rS_Poset true)) ({ Below := nilL (List Int) })))])) h ?_ ?_
  · intro t h
    conv => whnf
    refine Cells.lit rfl rfl ?_
    conv => whnf
    refine CallQ.o V.bool (by first | rfl | simp only [mulN_one, V.fz, fzL, V.up, upL, fzL_map, fz_slr, fz_at, slr, List.cons_append, List.nil_append] | simp [mulN_one, V.fz, fzL, V.up, upL, fzL_map, fz_slr, fz_at, slr]) h (fun r h => t_impl_IsAlgebra h) (fun r1 h => ?_)
    conv => whnf
    refine Br.flip ?_
    conv => whnf
    refine Br.ob h (fun p2 h => ?_) (fun p2 h => ?_)
    · conv => whnf
      refine Cells.lit rfl rfl ?_
      conv => whnf
      refine Br.no ?_
      conv => whnf
      refine CallQ.o (slr true 1 vint) (by first | rfl | simp only [mulN_one, V.fz, fzL, V.up, upL, fzL_map, fz_slr, fz_at, slr, List.cons_append, List.nil_append] | simp [mulN_one, V.fz, fzL, V.up, upL, fzL_map, fz_slr, fz_at, slr]) h (fun r h => t_impl_typeOf h) (fun r3 h => ?_)
      conv => whnf
      refine Br.no ?_
      conv => whnf
      refine BslQ.o vint ([(2 : Int), (2 : Int)]) (by exact fun _ => ⟨rfl, rfl⟩) (by first | rfl | simp only [mulN_one, V.fz, fzL, V.up, upL, fzL_map, fz_slr, fz_at, slr, List.cons_append, List.nil_append] | simp [mulN_one, V.fz, fzL, V.up, upL, fzL_map, fz_slr, fz_at, slr]) ?_
      conv => whnf
      refine Br.no ?_
      conv => whnf
      refine CallQ.rd V.bool (by first | rfl | simp only [V.fz, fzL_map, slr] | simp [mulN_one, V.fz, fzL, V.up, upL, fzL_map, fz_slr, fz_at, slr]) (fun _ => rfl) h (fun r h => t_impl_sameList h) (fun r4 h => ?_)
      conv => whnf
      refine Br.no ?_
      conv => whnf
      refine Br.no ?_
      conv => whnf
      refine Br.flip ?_
      conv => whnf
      refine Br.ob h (fun p5 h => ?_) (fun p5 h => ?_)
      · conv => whnf
        cases h; exact ⟨rfl, rfl⟩
      · conv => whnf
        refine SetKids.lit rfl ?_
        conv => whnf
        cases h; exact ⟨rfl, rfl⟩
    · conv => whnf
      refine Br.yes ?_
      conv => whnf
      refine Br.yes ?_
      conv => whnf
      refine Br.yes ?_
      conv => whnf
      refine Br.yes ?_
      conv => whnf
      refine Br.yes ?_
      conv => whnf
      refine Br.yes ?_
      conv => whnf
      refine SetKids.lit rfl ?_
      conv => whnf
      cases h; exact ⟨rfl, rfl⟩
  · rintro (⟨⟩ | ⟨⟩) h
    · try dsimp only at h
      conv => whnf
      refine Cells.lit rfl rfl ?_
      conv => whnf
      refine Cells.lit rfl rfl ?_
      conv => whnf
      refine Len.map ?_
      conv => whnf
      refine Ask.o h fun p7 h => ?_
      conv => whnf
      refine Elem.o (by first | omega | (simp only [mulN] at *; omega) | (simp [mulN] at *; omega)) ?_
      conv => whnf
      refine CallP.o (slr true 1 (slr true 1 V.bool)) (by first | rfl | simp only [mulN_one, V.fz, fzL, V.up, upL, fzL_map, fz_slr, fz_at, slr, List.cons_append, List.nil_append] | simp [mulN_one, V.fz, fzL, V.up, upL, fzL_map, fz_slr, fz_at, slr]) h (fun r h => t_impl_orderOfMeet h) (fun r8 h => ?_)
      conv => whnf
      refine CallP.rd (rS_Poset true) (by first | rfl | simp only [V.fz, fzL_map, slr] | simp [mulN_one, V.fz, fzL, V.up, upL, fzL_map, fz_slr, fz_at, slr]) (fun _ => by simp [V.noFz, noFzL, noFzL_map]) h (fun r h => t_impl_order_poset h) (fun r9 h => ?_)
      conv => whnf
      refine SetKids.lit rfl ?_
      conv => whnf
      refine Cells.lit rfl rfl ?_
      conv => whnf
      refine CallQ.rd (fun r => V.tup [(rO true (rS_lattice true)) r.1, V.bool r.2]) (by first | rfl | simp only [V.fz, fzL_map] | simp [mulN_one, V.fz, fzL, V.up, upL, fzL_map, fz_slr, fz_at, slr]) (fun _ => by simp [V.noFz, noFzL, NoFz.eq]) h (fun r h => t_impl_latticeOf h) (fun r10 h => ?_)
      rcases r10 with ⟨(_ | r10_1), r10_2⟩
      · try dsimp only at h
        conv => whnf
        refine Br.flip ?_
        conv => whnf
        refine Br.ob h (fun p11 h => ?_) (fun p11 h => ?_)
        · conv => whnf
          refine Br.no ?_
          conv => whnf
          cases h
        · conv => whnf
          refine Br.yes ?_
          conv => whnf
          refine Br.yes ?_
          conv => whnf
          refine Br.yes ?_
          conv => whnf
          refine Br.yes ?_
          conv => whnf
          refine Br.yes ?_
          conv => whnf
          refine Br.yes ?_
          conv => whnf
          refine SetKids.lit rfl ?_
          conv => whnf
          cases h; exact (by first | rfl | simp only [resV, mulN_one, V.fz, fzL, V.up, upL, fzL_map, fz_slr, fz_at, slr] | simp [resV, mulN_one, V.fz, fzL, V.up, upL, fzL_map, fz_slr, fz_at, slr])
      · try dsimp only at h
        conv => whnf
        refine Br.flip ?_
        conv => whnf
        refine Br.ob h (fun p12 h => ?_) (fun p12 h => ?_)
        · conv => whnf
          refine Br.no ?_
          conv => whnf
          refine CallP.rd (rS_Algebra true) (by first | rfl | simp only [V.fz, fzL, fzL_map] | simp [mulN_one, V.fz, fzL, V.up, upL, fzL_map, fz_slr, fz_at, slr]) (fun _ => by simp [V.noFz, noFzL, noFzL_map]) h (fun r h => t_impl_lattice_algebra h) (fun r13 h => ?_)
          conv => whnf
          refine Br.no ?_
          conv => whnf
          refine Cells.lit rfl rfl ?_
          conv => whnf
          refine Br.no ?_
          conv => whnf
          refine CallQ.rd V.bool (by first | rfl | simp only [V.fz, fzL, fzL_map] | simp [mulN_one, V.fz, fzL, V.up, upL, fzL_map, fz_slr, fz_at, slr]) (fun _ => rfl) h (fun r h => t_impl_sameAlgebra h) (fun r14 h => ?_)
          conv => whnf
          refine Br.no ?_
          conv => whnf
          refine Br.no ?_
          conv => whnf
          refine Br.flip ?_
          conv => whnf
          refine Br.ob h (fun p15 h => ?_) (fun p15 h => ?_)
          · conv => whnf
            refine Cells.lit rfl rfl ?_
            conv => whnf
            refine SetKids.lit rfl ?_
            conv => whnf
            cases h; exact (by first | rfl | simp only [resV, mulN_one, V.fz, fzL, V.up, upL, fzL_map, fz_slr, fz_at, slr] | simp [resV, mulN_one, V.fz, fzL, V.up, upL, fzL_map, fz_slr, fz_at, slr])
          · conv => whnf
            refine SetKids.lit rfl ?_
            conv => whnf
            cases h; exact (by first | rfl | simp only [resV, mulN_one, V.fz, fzL, V.up, upL, fzL_map, fz_slr, fz_at, slr] | simp [resV, mulN_one, V.fz, fzL, V.up, upL, fzL_map, fz_slr, fz_at, slr])
        · conv => whnf
          refine Br.yes ?_
          conv => whnf
          refine Br.yes ?_
          conv => whnf
          refine Br.yes ?_
          conv => whnf
          refine Br.yes ?_
          conv => whnf
          refine Br.yes ?_
          conv => whnf
          refine Br.yes ?_
          conv => whnf
          refine SetKids.lit rfl ?_
          conv => whnf
          cases h; exact (by first | rfl | simp only [resV, mulN_one, V.fz, fzL, V.up, upL, fzL_map, fz_slr, fz_at, slr] | simp [resV, mulN_one, V.fz, fzL, V.up, upL, fzL_map, fz_slr, fz_at, slr])
    · try dsimp only at h
      conv => whnf
      cases h; exact (by first | rfl | simp only [resV, mulN_one, V.fz, fzL, V.up, upL, fzL_map, fz_slr, fz_at, slr] | simp [resV, mulN_one, V.fz, fzL, V.up, upL, fzL_map, fz_slr, fz_at, slr])

noncomputable def F_spec_l24Good_l1 (p0 : SPoset) (r5 : SPoset) (x4 : Int) : Int → Option (Int ⊕ (Unit ⊕ Unit)) := fun x5 =>
   if x5 < x4 then
    (F_spec_l24Bound (p0) ([x4, x5])).bind fun r8 =>
    if r8 < (0 : Int) then
     some (.inr (.inl ()))
    else
     (F_spec_l24Bound (r5) ([x4, x5])).bind fun r10 =>
     if r10 < (0 : Int) then
      some (.inr (.inl ()))
     else
      ask (InI (x5 + (1 : Int))) <|
      some (.inl (x5 + (1 : Int)))
   else
    some (.inr (.inr ()))
def S_spec_l24Good_l1 (p0 : SPoset) (r5 : SPoset) (x4 : Int) : Int → St := fun s => [(5, A.val (vint s)), (4, A.val (vint (x4))), (3, A.val ((rP true (rS_Poset true)) (r5))), (1, A.val ((rP true (rS_Poset false)) (p0)))]
def T_spec_l24Good_l1 (p0 : SPoset) (r5 : SPoset) (x4 : Int) : (Unit ⊕ Unit) → Tgt
  | (.inl _s) => (Ex.ret, [2], [(2, A.val (V.bool (false)))])
  | (.inr _s) => ((Ex.exit 2), [4, 3, 1], [(4, A.val (vint (x4))), (3, A.val ((rP true (rS_Poset true)) (r5))), (1, A.val ((rP true (rS_Poset false)) (p0)))])
theorem b_spec_l24Good_l1 {p0 : SPoset} {r5 : SPoset} {x4 : Int} (x5 : Int) (o : Int ⊕ (Unit ⊕ Unit)) (h : F_spec_l24Good_l1 p0 r5 x4 x5 = some o) : vc Try.prog c_spec_l24Good_l1 (outQ [5, 4, 3, 1] (S_spec_l24Good_l1 p0 r5 x4) (T_spec_l24Good_l1 p0 r5 x4) o) (S_spec_l24Good_l1 p0 r5 x4 x5) := by
  unfold F_spec_l24Good_l1 at h
  try dsimp only at h
  conv => whnf
  refine Br.od h (fun p7 h => ?_) (fun p7 h => ?_)
  · conv => whnf
    refine Cells.lit rfl rfl ?_
    conv => whnf
    refine BslQ.o vint ([x4, x5]) (by exact fun _ => ⟨rfl, rfl⟩) (by first | rfl | simp only [mulN_one, V.fz, fzL, V.up, upL, fzL_map, fz_slr, fz_at, slr, List.cons_append, List.nil_append] | simp [mulN_one, V.fz, fzL, V.up, upL, fzL_map, fz_slr, fz_at, slr]) ?_
    conv => whnf
    refine CallQ.rd vint (by first | rfl | simp only [mulN_one, V.fz, fzL, V.up, upL, fzL_map, fz_slr, fz_at, slr, List.cons_append, List.nil_append] | simp [mulN_one, V.fz, fzL, V.up, upL, fzL_map, fz_slr, fz_at, slr]) (fun _ => rfl) h (fun r h => t_spec_l24Bound h) (fun r8 h => ?_)
    conv => whnf
    refine Br.od h (fun p9 h => ?_) (fun p9 h => ?_)
    · conv => whnf
      refine Br.yes ?_
      conv => whnf
      refine Br.yes ?_
      conv => whnf
      refine Br.yes ?_
      conv => whnf
      refine Br.yes ?_
      conv => whnf
      refine Br.yes ?_
      conv => whnf
      refine Br.yes ?_
      conv => whnf
      refine Br.yes ?_
      conv => whnf
      cases h; exact ⟨rfl, rfl⟩
    · conv => whnf
      refine Cells.lit rfl rfl ?_
      conv => whnf
      refine Br.no ?_
      conv => whnf
      refine Br.no ?_
      conv => whnf
      refine Br.no ?_
      conv => whnf
      refine BslQ.o vint ([x4, x5]) (by exact fun _ => ⟨rfl, rfl⟩) (by first | rfl | simp only [mulN_one, V.fz, fzL, V.up, upL, fzL_map, fz_slr, fz_at, slr, List.cons_append, List.nil_append] | simp [mulN_one, V.fz, fzL, V.up, upL, fzL_map, fz_slr, fz_at, slr]) ?_
      conv => whnf
      refine Br.no ?_
      conv => whnf
      refine CallQ.rd vint (by first | rfl | simp only [V.fz, fzL_map, slr] | simp [mulN_one, V.fz, fzL, V.up, upL, fzL_map, fz_slr, fz_at, slr]) (fun _ => rfl) h (fun r h => t_spec_l24Bound h) (fun r10 h => ?_)
      conv => whnf
      refine Br.no ?_
      conv => whnf
      refine Br.no ?_
      conv => whnf
      refine Br.od h (fun p11 h => ?_) (fun p11 h => ?_)
      · conv => whnf
        cases h; exact ⟨rfl, rfl⟩
      · conv => whnf
        refine Ask.o h fun p12 h => ?_
        conv => whnf
        cases h; exact ⟨rfl, rfl⟩
  · conv => whnf
    cases h; exact ⟨rfl, rfl⟩

noncomputable def F_spec_l24Good_l2 (p0 : SPoset) (r5 : SPoset) : Int → Option (Int ⊕ (Unit ⊕ Unit)) := fun x4 =>
   if x4 < (↑p0.Below.length : Int) then
    (loopO (F_spec_l24Good_l1 p0 r5 x4) (0 : Int)).bind fun t => match t with
    | (.inl _) => (some (.inr (.inl ())))
    | (.inr _) => (ask (InI (x4 + (1 : Int))) <|
      some (.inl (x4 + (1 : Int))))
   else
    some (.inr (.inr ()))
def S_spec_l24Good_l2 (p0 : SPoset) (r5 : SPoset) : Int → St := fun s => [(4, A.val (vint s)), (3, A.val ((rP true (rS_Poset true)) (r5))), (1, A.val ((rP true (rS_Poset false)) (p0)))]
def T_spec_l24Good_l2 (_p0 : SPoset) (_r5 : SPoset) : (Unit ⊕ Unit) → Tgt
  | (.inl _s) => (Ex.ret, [2], [(2, A.val (V.bool (false)))])
  | (.inr _s) => ((Ex.exit 0), [], [])
theorem b_spec_l24Good_l2 {p0 : SPoset} {r5 : SPoset} (x4 : Int) (o : Int ⊕ (Unit ⊕ Unit)) (h : F_spec_l24Good_l2 p0 r5 x4 = some o) : vc Try.prog c_spec_l24Good_l2 (outQ [4, 3, 1] (S_spec_l24Good_l2 p0 r5) (T_spec_l24Good_l2 p0 r5) o) (S_spec_l24Good_l2 p0 r5 x4) := by
  unfold F_spec_l24Good_l2 at h
  try dsimp only at h
  conv => whnf
  refine Cells.lit rfl rfl ?_
  conv => whnf
  refine Len.map ?_
  conv => whnf
  refine Br.od h (fun p6 h => ?_) (fun p6 h => ?_)
  · conv => whnf
    refine LoopQ.o [5, 4, 3, 1] (S_spec_l24Good_l1 p0 r5 x4) (T_spec_l24Good_l1 p0 r5 x4) h (fun s o h => b_spec_l24Good_l1 s o h) (by first | rfl | simp [restrict, look, mulN_one, V.fz, fzL, V.up, upL, fzL_map, fz_slr, fz_at, slr]) (by rintro (_ | _) <;> rfl) ?_
    rintro (⟨⟩ | ⟨⟩) h
    · try dsimp only at h
      conv => whnf
      cases h; exact ⟨rfl, rfl⟩
    · try dsimp only at h
      conv => whnf
      refine Ask.o h fun p14 h => ?_
      conv => whnf
      cases h; exact ⟨rfl, rfl⟩
  · conv => whnf
    cases h; exact ⟨rfl, rfl⟩

noncomputable def F_spec_l24Good (p0 : SPoset) : Option Bool :=
  (((F_spec_l23Good (p0)).bind fun r1 =>
     if (r1) = true then
      if (↑p0.Below.length : Int) = (0 : Int) then
       some (.inl ())
      else
       some (.inr ())
     else
      some (.inl ()) : Option (Unit ⊕ Unit))).bind fun t => match t with
  | (.inl _) => (some false)
  | (.inr _) => ((F_spec_l23Dual (p0)).bind fun r5 =>
    (loopO (F_spec_l24Good_l2 p0 r5) (0 : Int)).bind fun t => match t with
    | (.inl _) => (some false)
    | (.inr _) => (some true))
theorem t_spec_l24Good {p0 : SPoset} {v : Bool} (h : F_spec_l24Good p0 = some v) : Ret Try.prog f_spec_l24Good [(rS_Poset false) p0] (V.bool v) := by
  refine ret_vc k_spec_l24Good (Nat.le_of_ble_eq_true rfl) ?_
  unfold F_spec_l24Good at h
  conv => whnf
  refine CutQ.o (fun t : (Unit ⊕ Unit) => match t with | (.inl s) => (Ex.ret, [2], [(2, A.val (V.bool (false)))]) | (.inr s) => (Ex.normal, [1], [(1, A.val ((rP true (rS_Poset false)) (p0)))])) h ?_ ?_
  · intro t h
    conv => whnf
    refine Cells.lit rfl rfl ?_
    conv => whnf
    refine CallQ.o V.bool (by first | rfl | simp only [mulN_one, V.fz, fzL, V.up, upL, fzL_map, fz_slr, fz_at, slr, List.cons_append, List.nil_append] | simp [mulN_one, V.fz, fzL, V.up, upL, fzL_map, fz_slr, fz_at, slr]) h (fun r h => t_spec_l23Good h) (fun r1 h => ?_)
    conv => whnf
    refine Br.flip ?_
    conv => whnf
    refine Br.ob h (fun p2 h => ?_) (fun p2 h => ?_)
    · conv => whnf
      refine Br.no ?_
      conv => whnf
      refine Cells.lit rfl rfl ?_
      conv => whnf
      refine Br.no ?_
      conv => whnf
      refine Len.map ?_
      conv => whnf
      refine Br.no ?_
      conv => whnf
      refine Br.no ?_
      conv => whnf
      refine Br.oe h (fun p3 h => ?_) (fun p3 h => ?_)
      · conv => whnf
        cases h; exact ⟨rfl, rfl⟩
      · conv => whnf
        cases h; exact ⟨rfl, rfl⟩
    · conv => whnf
      refine Br.yes ?_
      conv => whnf
      refine Br.yes ?_
      conv => whnf
      refine Br.yes ?_
      conv => whnf
      refine Br.yes ?_
      conv => whnf
      refine Br.yes ?_
      conv => whnf
      cases h; exact ⟨rfl, rfl⟩
  · rintro (⟨⟩ | ⟨⟩) h
    · try dsimp only at h
      conv => whnf
      cases h; exact (by first | rfl | simp only [resV, mulN_one, V.fz, fzL, V.up, upL, fzL_map, fz_slr, fz_at, slr] | simp [resV, mulN_one, V.fz, fzL, V.up, upL, fzL_map, fz_slr, fz_at, slr])
    · try dsimp only at h
      conv => whnf
      refine Cells.lit rfl rfl ?_
      conv => whnf
      refine CallQ.o (rS_Poset true) (by first | rfl | simp only [mulN_one, V.fz, fzL, V.up, upL, fzL_map, fz_slr, fz_at, slr, List.cons_append, List.nil_append] | simp [mulN_one, V.fz, fzL, V.up, upL, fzL_map, fz_slr, fz_at, slr]) h (fun r h => t_spec_l23Dual h) (fun r5 h => ?_)
      conv => whnf
      refine SetKids.lit rfl ?_
      conv => whnf
      refine LoopQ.o [4, 3, 1] (S_spec_l24Good_l2 p0 r5) (T_spec_l24Good_l2 p0 r5) h (fun s o h => b_spec_l24Good_l2 s o h) (by first | rfl | simp [restrict, look, mulN_one, V.fz, fzL, V.up, upL, fzL_map, fz_slr, fz_at, slr]) (by rintro (_ | _) <;> rfl) ?_
      rintro (⟨⟩ | ⟨⟩) h
      · try dsimp only at h
        conv => whnf
        cases h; exact (by first | rfl | simp only [resV, mulN_one, V.fz, fzL, V.up, upL, fzL_map, fz_slr, fz_at, slr] | simp [resV, mulN_one, V.fz, fzL, V.up, upL, fzL_map, fz_slr, fz_at, slr])
      · try dsimp only at h
        conv => whnf
        cases h; exact (by first | rfl | simp only [resV, mulN_one, V.fz, fzL, V.up, upL, fzL_map, fz_slr, fz_at, slr] | simp [resV, mulN_one, V.fz, fzL, V.up, upL, fzL_map, fz_slr, fz_at, slr])

noncomputable def F_spec_l24Algebra_l1 (p0 : SPoset) (r1 : SPoset) (x7 : Int) : (Int × SOp × SOp) → Option ((Int × SOp × SOp) ⊕ (SOp × SOp)) := fun (x8, x6', x5') =>
   if x8 < (↑p0.Below.length : Int) then
    (F_spec_l24Bound (p0) ([x7, x8])).bind fun r4 =>
    ask ((x5'.Table).length + ([r4]).length ≤ LIM) <|
    (F_spec_l24Bound (r1) ([x7, x8])).bind fun r5 =>
    ask ((x6'.Table).length + ([r5]).length ≤ LIM) <|
    ask (InI (x8 + (1 : Int))) <|
    some (.inl (x8 + (1 : Int), { Arity := x6'.Arity, Table := x6'.Table ++ [r5] }, { Arity := x5'.Arity, Table := x5'.Table ++ [r4] }))
   else
    some (.inr (x6', x5'))
def S_spec_l24Algebra_l1 (p0 : SPoset) (r1 : SPoset) (x7 : Int) : (Int × SOp × SOp) → St := fun s => [(8, A.val (vint s.1)), (7, A.val (vint (x7))), (6, A.val ((rP true (rS_Op true)) s.2.1)), (5, A.val ((rP true (rS_Op true)) s.2.2)), (4, A.val ((rP true (rS_Poset true)) (r1))), (3, A.val (vint ((↑p0.Below.length : Int)))), (2, A.val ((rP true (rS_Algebra true)) ({ Size := (0 : Int), Ops := nilL SOp }))), (1, A.val ((rP true (rS_Poset false)) (p0)))]
def T_spec_l24Algebra_l1 (p0 : SPoset) (r1 : SPoset) (x7 : Int) : (SOp × SOp) → Tgt
  | s => ((Ex.exit 2), [7, 6, 5, 4, 3, 2, 1], [(7, A.val (vint (x7))), (6, A.val ((rP true (rS_Op true)) s.1)), (5, A.val ((rP true (rS_Op true)) s.2)), (4, A.val ((rP true (rS_Poset true)) (r1))), (3, A.val (vint ((↑p0.Below.length : Int)))), (2, A.val ((rP true (rS_Algebra true)) ({ Size := (0 : Int), Ops := nilL SOp }))), (1, A.val ((rP true (rS_Poset false)) (p0)))])
theorem b_spec_l24Algebra_l1 {p0 : SPoset} {r1 : SPoset} {x7 : Int} (s : (Int × SOp × SOp)) (o : (Int × SOp × SOp) ⊕ (SOp × SOp)) (h : F_spec_l24Algebra_l1 p0 r1 x7 s = some o) : vc Try.prog c_spec_l24Algebra_l1 (outQ [8, 7, 6, 5, 4, 3, 2, 1] (S_spec_l24Algebra_l1 p0 r1 x7) (T_spec_l24Algebra_l1 p0 r1 x7) o) (S_spec_l24Algebra_l1 p0 r1 x7 s) := by
  obtain ⟨x8, x6', x5'⟩ := s
  unfold F_spec_l24Algebra_l1 at h
  try dsimp only at h
  conv => whnf
  refine Br.od h (fun p3 h => ?_) (fun p3 h => ?_)
  · conv => whnf
    refine Cells.lit rfl rfl ?_
    conv => whnf
    refine Cells.lit rfl rfl ?_
    conv => whnf
    refine BslQ.o vint ([x7, x8]) (by exact fun _ => ⟨rfl, rfl⟩) (by first | rfl | simp only [mulN_one, V.fz, fzL, V.up, upL, fzL_map, fz_slr, fz_at, slr, List.cons_append, List.nil_append] | simp [mulN_one, V.fz, fzL, V.up, upL, fzL_map, fz_slr, fz_at, slr]) ?_
    conv => whnf
    refine CallP.rd vint (by first | rfl | simp only [mulN_one, V.fz, fzL, V.up, upL, fzL_map, fz_slr, fz_at, slr, List.cons_append, List.nil_append] | simp [mulN_one, V.fz, fzL, V.up, upL, fzL_map, fz_slr, fz_at, slr]) (fun _ => rfl) h (fun r h => t_spec_l24Bound h) (fun r4 h => ?_)
    conv => whnf
    refine BslQ.o vint [r4] (by exact fun _ => ⟨rfl, rfl⟩) (by first | rfl | simp only [mulN_one, V.fz, fzL, V.up, upL, fzL_map, fz_slr, fz_at, slr, List.cons_append, List.nil_append] | simp [mulN_one, V.fz, fzL, V.up, upL, fzL_map, fz_slr, fz_at, slr]) ?_
    conv => whnf
    refine NoOwn.o (fun _ => rfl) ?_
    conv => whnf
    refine AppQ.o (m := 1) vint (by exact fun _ => ⟨rfl, rfl⟩) (x5'.Table) ([r4]) (by first | rfl | simp only [mulN_one, V.fz, fzL, V.up, upL, fzL_map, fz_slr, fz_at, slr, List.cons_append, List.nil_append] | simp [mulN_one, V.fz, fzL, V.up, upL, fzL_map, fz_slr, fz_at, slr]) (by first | rfl | simp only [mulN_one, V.fz, fzL, V.up, upL, fzL_map, fz_slr, fz_at, slr, List.cons_append, List.nil_append] | simp [mulN_one, V.fz, fzL, V.up, upL, fzL_map, fz_slr, fz_at, slr]) h fun h => ?_
    conv => whnf
    refine SetKids.lit rfl ?_
    conv => whnf
    refine Cells.lit rfl rfl ?_
    conv => whnf
    refine Cells.lit rfl rfl ?_
    conv => whnf
    refine BslQ.o vint ([x7, x8]) (by exact fun _ => ⟨rfl, rfl⟩) (by first | rfl | simp only [mulN_one, V.fz, fzL, V.up, upL, fzL_map, fz_slr, fz_at, slr, List.cons_append, List.nil_append] | simp [mulN_one, V.fz, fzL, V.up, upL, fzL_map, fz_slr, fz_at, slr]) ?_
    conv => whnf
    refine CallP.rd vint (by first | rfl | simp only [V.fz, fzL_map, slr] | simp [mulN_one, V.fz, fzL, V.up, upL, fzL_map, fz_slr, fz_at, slr]) (fun _ => rfl) h (fun r h => t_spec_l24Bound h) (fun r5 h => ?_)
    conv => whnf
    refine BslQ.o vint [r5] (by exact fun _ => ⟨rfl, rfl⟩) (by first | rfl | simp only [mulN_one, V.fz, fzL, V.up, upL, fzL_map, fz_slr, fz_at, slr, List.cons_append, List.nil_append] | simp [mulN_one, V.fz, fzL, V.up, upL, fzL_map, fz_slr, fz_at, slr]) ?_
    conv => whnf
    refine NoOwn.o (fun _ => rfl) ?_
    conv => whnf
    refine AppQ.o (m := 1) vint (by exact fun _ => ⟨rfl, rfl⟩) (x6'.Table) ([r5]) (by first | rfl | simp only [mulN_one, V.fz, fzL, V.up, upL, fzL_map, fz_slr, fz_at, slr, List.cons_append, List.nil_append] | simp [mulN_one, V.fz, fzL, V.up, upL, fzL_map, fz_slr, fz_at, slr]) (by first | rfl | simp only [mulN_one, V.fz, fzL, V.up, upL, fzL_map, fz_slr, fz_at, slr, List.cons_append, List.nil_append] | simp [mulN_one, V.fz, fzL, V.up, upL, fzL_map, fz_slr, fz_at, slr]) h fun h => ?_
    conv => whnf
    refine SetKids.lit rfl ?_
    conv => whnf
    refine Ask.o h fun p6 h => ?_
    conv => whnf
    cases h; exact ⟨rfl, rfl⟩
  · conv => whnf
    cases h; exact ⟨rfl, rfl⟩

noncomputable def F_spec_l24Algebra_l2 (p0 : SPoset) (r1 : SPoset) : (Int × SOp × SOp) → Option ((Int × SOp × SOp) ⊕ (SOp × SOp)) := fun (x7, x6, x5) =>
   if x7 < (↑p0.Below.length : Int) then
    (loopO (F_spec_l24Algebra_l1 p0 r1 x7) ((0 : Int), x6, x5)).bind fun (q7_6, q7_5) =>
    ask (InI (x7 + (1 : Int))) <|
    some (.inl (x7 + (1 : Int), q7_6, q7_5))
   else
    some (.inr (x6, x5))
def S_spec_l24Algebra_l2 (p0 : SPoset) (r1 : SPoset) : (Int × SOp × SOp) → St := fun s => [(7, A.val (vint s.1)), (6, A.val ((rP true (rS_Op true)) s.2.1)), (5, A.val ((rP true (rS_Op true)) s.2.2)), (4, A.val ((rP true (rS_Poset true)) (r1))), (3, A.val (vint ((↑p0.Below.length : Int)))), (2, A.val ((rP true (rS_Algebra true)) ({ Size := (0 : Int), Ops := nilL SOp }))), (1, A.val ((rP true (rS_Poset false)) (p0)))]
def T_spec_l24Algebra_l2 (p0 : SPoset) (_r1 : SPoset) : (SOp × SOp) → Tgt
  | s => ((Ex.exit 0), [6, 5, 3, 2], [(6, A.val ((rP true (rS_Op true)) s.1)), (5, A.val ((rP true (rS_Op true)) s.2)), (3, A.val (vint ((↑p0.Below.length : Int)))), (2, A.val ((rP true (rS_Algebra true)) ({ Size := (0 : Int), Ops := nilL SOp })))])
theorem b_spec_l24Algebra_l2 {p0 : SPoset} {r1 : SPoset} (s : (Int × SOp × SOp)) (o : (Int × SOp × SOp) ⊕ (SOp × SOp)) (h : F_spec_l24Algebra_l2 p0 r1 s = some o) : vc Try.prog c_spec_l24Algebra_l2 (outQ [7, 6, 5, 4, 3, 2, 1] (S_spec_l24Algebra_l2 p0 r1) (T_spec_l24Algebra_l2 p0 r1) o) (S_spec_l24Algebra_l2 p0 r1 s) := by
  obtain ⟨x7, x6, x5⟩ := s
  unfold F_spec_l24Algebra_l2 at h
  try dsimp only at h
  conv => whnf
  refine Br.od h (fun p2 h => ?_) (fun p2 h => ?_)
  · conv => whnf
    refine LoopQ.o [8, 7, 6, 5, 4, 3, 2, 1] (S_spec_l24Algebra_l1 p0 r1 x7) (T_spec_l24Algebra_l1 p0 r1 x7) h (fun s o h => b_spec_l24Algebra_l1 s o h) (by first | rfl | simp [restrict, look, mulN_one, V.fz, fzL, V.up, upL, fzL_map, fz_slr, fz_at, slr]) (fun _ => rfl) ?_
    rintro ⟨q7_6, q7_5⟩ h
    try dsimp only at h
    conv => whnf
    refine Ask.o h fun p8 h => ?_
    conv => whnf
    cases h; exact ⟨rfl, rfl⟩
  · conv => whnf
    cases h; exact ⟨rfl, rfl⟩

noncomputable def F_spec_l24Algebra (p0 : SPoset) : Option SAlgebra :=
  (F_spec_l23Dual (p0)).bind fun r1 =>
  (loopO (F_spec_l24Algebra_l2 p0 r1) ((0 : Int), { Arity := (2 : Int), Table := nilL Int }, { Arity := (2 : Int), Table := nilL Int })).bind fun (q9_6, q9_5) =>
  some ({ Size := (↑p0.Below.length : Int), Ops := [q9_5, q9_6] })
theorem t_spec_l24Algebra {p0 : SPoset} {v : SAlgebra} (h : F_spec_l24Algebra p0 = some v) : Ret Try.prog f_spec_l24Algebra [(rS_Poset false) p0] ((rS_Algebra true) v) := by
  refine ret_vc k_spec_l24Algebra (Nat.le_of_ble_eq_true rfl) ?_
  unfold F_spec_l24Algebra at h
  conv => whnf
  refine Cells.lit rfl rfl ?_
  conv => whnf
  refine Len.map ?_
  conv => whnf
  refine Cells.lit rfl rfl ?_
  conv => whnf
  refine CallQ.o (rS_Poset true) (by first | rfl | simp only [mulN_one, V.fz, fzL, V.up, upL, fzL_map, fz_slr, fz_at, slr, List.cons_append, List.nil_append] | simp [mulN_one, V.fz, fzL, V.up, upL, fzL_map, fz_slr, fz_at, slr]) h (fun r h => t_spec_l23Dual h) (fun r1 h => ?_)
  conv => whnf
  refine SetKids.lit rfl ?_
  conv => whnf
  refine SetKids.lit rfl ?_
  conv => whnf
  refine SetKids.lit rfl ?_
  conv => whnf
  refine LoopQ.o [7, 6, 5, 4, 3, 2, 1] (S_spec_l24Algebra_l2 p0 r1) (T_spec_l24Algebra_l2 p0 r1) h (fun s o h => b_spec_l24Algebra_l2 s o h) (by first | rfl | simp [restrict, look, mulN_one, V.fz, fzL, V.up, upL, fzL_map, fz_slr, fz_at, slr]) (fun _ => rfl) ?_
  rintro ⟨q9_6, q9_5⟩ h
  try dsimp only at h
  conv => whnf
  refine Cells.lit rfl rfl ?_
  conv => whnf
  refine Cells.lit rfl rfl ?_
  conv => whnf
  refine BslQ.o (rS_Op true) ([q9_5, q9_6]) (by exact fun _ => ⟨rfl, rfl⟩) (by first | rfl | simp only [mulN_one, V.fz, fzL, V.up, upL, fzL_map, fz_slr, fz_at, slr, List.cons_append, List.nil_append] | simp [mulN_one, V.fz, fzL, V.up, upL, fzL_map, fz_slr, fz_at, slr]) ?_
  conv => whnf
  refine SetKids.lit rfl ?_
  conv => whnf
  cases h; exact (by first | rfl | simp only [resV, mulN_one, V.fz, fzL, V.up, upL, fzL_map, fz_slr, fz_at, slr] | simp [resV, mulN_one, V.fz, fzL, V.up, upL, fzL_map, fz_slr, fz_at, slr])

end Go.Proofs.Ytdodfnbbfkcgnaa.Ax
