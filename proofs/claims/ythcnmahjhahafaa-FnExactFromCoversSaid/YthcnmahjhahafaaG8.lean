/-
  What the functions compute, as functions on plain data, and that the program does compute it; written by program.
-/
import Derived.Test.YthcnmahjhahafaaCode
import Derived.Test.YthcnmahjhahafaaG1
import Derived.Test.YthcnmahjhahafaaG2
import Derived.Test.YthcnmahjhahafaaG7
namespace Go.Proofs.Ythcnmahjhahafaa.Ax
open Go
set_option maxRecDepth 100000
set_option maxHeartbeats 4000000

noncomputable def F_spec_FromCovers_l1 (n0 : Int) (pairs0 : List (Int × Int)) : Int → Option (Int ⊕ (Unit ⊕ Unit)) := fun x6 =>
   if x6 < (↑pairs0.length : Int) then
    ask ((0 : Int) ≤ x6 ∧ x6 < (↑pairs0.length : Int)) <|
    ask (InI (n0 - (1 : Int))) <|
    (F_spec_l1In ((nth pairs0 x6.toNat).fst) ((0 : Int)) (n0 - (1 : Int))).bind fun r8 =>
    if (r8) = true then
     ask ((0 : Int) ≤ x6 ∧ x6 < (↑pairs0.length : Int)) <|
     ask (InI (n0 - (1 : Int))) <|
     (F_spec_l1In ((nth pairs0 x6.toNat).snd) ((0 : Int)) (n0 - (1 : Int))).bind fun r12 =>
     if (r12) = true then
      ask ((0 : Int) ≤ x6 ∧ x6 < (↑pairs0.length : Int)) <|
      ask ((0 : Int) ≤ x6 ∧ x6 < (↑pairs0.length : Int)) <|
      if (nth pairs0 x6.toNat).fst = (nth pairs0 x6.toNat).snd then
       some (.inr (.inl ()))
      else
       ask (InI (x6 + (1 : Int))) <|
       some (.inl (x6 + (1 : Int)))
     else
      some (.inr (.inl ()))
    else
     some (.inr (.inl ()))
   else
    some (.inr (.inr ()))
def S_spec_FromCovers_l1 (n0 : Int) (pairs0 : List (Int × Int)) : Int → St := fun s => [(6, A.val (vint s)), (4, A.val ((rP true (rS_Poset true)) ({ Below := nilL (List Int) }))), (0, A.val (vint (n0))), (1, A.val ((slr false 2 (rA2 vint)) (pairs0)))]
def T_spec_FromCovers_l1 (n0 : Int) (pairs0 : List (Int × Int)) : (Unit ⊕ Unit) → Tgt
  | (.inl _s) => (Ex.ret, [5, 4], [(5, A.val (V.bool (false))), (4, A.val ((rP true (rS_Poset true)) ({ Below := nilL (List Int) })))])
  | (.inr _s) => ((Ex.exit 0), [4, 0, 1], [(4, A.val ((rP true (rS_Poset true)) ({ Below := nilL (List Int) }))), (0, A.val (vint (n0))), (1, A.val ((slr false 2 (rA2 vint)) (pairs0)))])
theorem b_spec_FromCovers_l1 {n0 : Int} {pairs0 : List (Int × Int)} (x6 : Int) (o : Int ⊕ (Unit ⊕ Unit)) (h : F_spec_FromCovers_l1 n0 pairs0 x6 = some o) : vc Try.prog c_spec_FromCovers_l1 (outQ [6, 4, 0, 1] (S_spec_FromCovers_l1 n0 pairs0) (T_spec_FromCovers_l1 n0 pairs0) o) (S_spec_FromCovers_l1 n0 pairs0 x6) := by
  unfold F_spec_FromCovers_l1 at h
  try dsimp only at h
  conv => whnf
  refine Len.map ?_
  conv => whnf
  refine Br.od h (fun p5 h => ?_) (fun p5 h => ?_)
  · conv => whnf
    refine Len.map ?_
    conv => whnf
    refine Ask.o h fun p6 h => ?_
    conv => whnf
    refine Elem.o (by first | omega | (simp only [mulN] at *; omega) | (simp [mulN] at *; omega)) ?_
    conv => whnf
    refine Ask.mk (by decide) ?_
    conv => whnf
    refine Idx.lit ?_
    conv => whnf
    refine Ask.o h fun p7 h => ?_
    conv => whnf
    refine CallP.o V.bool (by first | rfl | simp only [mulN_one, V.fz, fzL, V.up, upL, fzL_map, fz_slr, fz_at, slr, List.cons_append, List.nil_append] | simp [mulN_one, V.fz, fzL, V.up, upL, fzL_map, fz_slr, fz_at, slr]) h (fun r h => t_spec_l1In h) (fun r8 h => ?_)
    conv => whnf
    refine Br.flip ?_
    conv => whnf
    refine Br.ob h (fun p9 h => ?_) (fun p9 h => ?_)
    · conv => whnf
      refine Br.no ?_
      conv => whnf
      refine Br.no ?_
      conv => whnf
      refine Len.map ?_
      conv => whnf
      refine Ask.o h fun p10 h => ?_
      conv => whnf
      refine Elem.o (by first | omega | (simp only [mulN] at *; omega) | (simp [mulN] at *; omega)) ?_
      conv => whnf
      refine Br.no ?_
      conv => whnf
      refine Ask.mk (by decide) ?_
      conv => whnf
      refine Idx.lit ?_
      conv => whnf
      refine Br.no ?_
      conv => whnf
      refine Br.no ?_
      conv => whnf
      refine Br.no ?_
      conv => whnf
      refine Ask.o h fun p11 h => ?_
      conv => whnf
      refine Br.no ?_
      conv => whnf
      refine CallP.o V.bool (by first | rfl | simp only [mulN_one, V.fz, fzL, V.up, upL, fzL_map, fz_slr, fz_at, slr, List.cons_append, List.nil_append] | simp [mulN_one, V.fz, fzL, V.up, upL, fzL_map, fz_slr, fz_at, slr]) h (fun r h => t_spec_l1In h) (fun r12 h => ?_)
      conv => whnf
      refine Br.no ?_
      conv => whnf
      refine Br.no ?_
      conv => whnf
      refine Br.flip ?_
      conv => whnf
      refine Br.ob h (fun p13 h => ?_) (fun p13 h => ?_)
      · conv => whnf
        refine Br.no ?_
        conv => whnf
        refine Br.no ?_
        conv => whnf
        refine Len.map ?_
        conv => whnf
        refine Ask.o h fun p14 h => ?_
        conv => whnf
        refine Elem.o (by first | omega | (simp only [mulN] at *; omega) | (simp [mulN] at *; omega)) ?_
        conv => whnf
        refine Br.no ?_
        conv => whnf
        refine Ask.mk (by decide) ?_
        conv => whnf
        refine Idx.lit ?_
        conv => whnf
        refine Br.no ?_
        conv => whnf
        refine Br.no ?_
        conv => whnf
        refine Br.no ?_
        conv => whnf
        refine Br.no ?_
        conv => whnf
        refine Len.map ?_
        conv => whnf
        refine Ask.o h fun p15 h => ?_
        conv => whnf
        refine Elem.o (by first | omega | (simp only [mulN] at *; omega) | (simp [mulN] at *; omega)) ?_
        conv => whnf
        refine Br.no ?_
        conv => whnf
        refine Ask.mk (by decide) ?_
        conv => whnf
        refine Idx.lit ?_
        conv => whnf
        refine Br.no ?_
        conv => whnf
        refine Br.no ?_
        conv => whnf
        refine Br.no ?_
        conv => whnf
        refine Br.oe h (fun p16 h => ?_) (fun p16 h => ?_)
        · conv => whnf
          refine SetKids.lit rfl ?_
          conv => whnf
          cases h; exact ⟨rfl, rfl⟩
        · conv => whnf
          refine Ask.o h fun p17 h => ?_
          conv => whnf
          cases h; exact ⟨rfl, rfl⟩
      · conv => whnf
        refine Br.yes ?_
        conv => whnf
        refine Br.yes ?_
        conv => whnf
        refine Br.yes ?_
        conv => whnf
        refine Br.yes ?_
        conv => whnf
        refine Br.yes ?_
        conv => whnf
        refine Br.yes ?_
        conv => whnf
        refine Br.yes ?_
        conv => whnf
        refine Br.yes ?_
        conv => whnf
        refine Br.yes ?_
        conv => whnf
        refine Br.yes ?_
        conv => whnf
        refine Br.yes ?_
        conv => whnf
        refine Br.yes ?_
        conv => whnf
        refine SetKids.lit rfl ?_
        conv => whnf
        cases h; exact ⟨rfl, rfl⟩
    · conv => whnf
      refine Br.yes ?_
      conv => whnf
      refine Br.yes ?_
      conv => whnf
      refine Br.yes ?_
      conv => whnf
      refine Br.yes ?_
      conv => whnf
      refine Br.yes ?_
      conv => whnf
      refine Br.yes ?_
      conv => whnf
      refine Br.yes ?_
      conv => whnf
      refine Br.yes ?_
      conv => whnf
      refine Br.yes ?_
      conv => whnf
      refine Br.yes ?_
      conv => whnf
      refine Br.yes ?_
      conv => whnf
      refine Br.yes ?_
      conv => whnf
      refine Br.yes ?_
      conv => whnf
      refine Br.yes ?_
      conv => whnf
      refine Br.yes ?_
      conv => whnf
      refine Br.yes ?_
      conv => whnf
      refine Br.yes ?_
      conv => whnf
      refine Br.yes ?_
      conv => whnf
      refine Br.yes ?_
      conv => whnf
      refine Br.yes ?_
      conv => whnf
      refine Br.yes ?_
      conv => whnf
      refine Br.yes ?_
      conv => whnf
      refine SetKids.lit rfl ?_
      conv => whnf
      cases h; exact ⟨rfl, rfl⟩
  · conv => whnf
    cases h; exact ⟨rfl, rfl⟩

noncomputable def F_spec_FromCovers (n0 : Int) (pairs0 : (List (Int × Int))) : Option (SPoset × Bool) :=
  (((F_spec_l1In (n0) ((0 : Int)) ((10 : Int))).bind fun r1 =>
     if (r1) = true then
      if (↑pairs0.length : Int) > (60 : Int) then
       some (.inl ())
      else
       some (.inr ())
     else
      some (.inl ()) : Option (Unit ⊕ Unit))).bind fun t => match t with
  | (.inl _) => (some ({ Below := nilL (List Int) }, false))
  | (.inr _) => ((loopO (F_spec_FromCovers_l1 n0 pairs0) (0 : Int)).bind fun t => match t with
    | (.inl _) => (some ({ Below := nilL (List Int) }, false))
    | (.inr _) => ((F_spec_l23From (n0) (pairs0)).bind fun r19 =>
      (F_spec_l23Good (r19)).bind fun r20 =>
      if (r20) = true then
       some (r19, true)
      else
       some ({ Below := nilL (List Int) }, false)))
theorem t_spec_FromCovers {n0 : Int} {pairs0 : (List (Int × Int))} {v : (SPoset × Bool)} (h : F_spec_FromCovers n0 pairs0 = some v) : Ret Try.prog f_spec_FromCovers [vint n0, (slr false 2 (rA2 vint)) pairs0] ((fun r => V.tup [(rS_Poset true) r.1, V.bool r.2]) v) := by
  refine ret_vc k_spec_FromCovers (Nat.le_of_ble_eq_true rfl) ?_
  unfold F_spec_FromCovers at h
  conv => whnf
  refine CutQ.o (fun t : (Unit ⊕ Unit) => match t with | (.inl s) => (Ex.ret, [5, 4], [(5, A.val (V.bool (false))), (4, A.val ((rP true (rS_Poset true)) ({ Below := nilL (List Int) })))]) | (.inr s) => (Ex.normal, [4, 0, 1], [(4, A.val ((rP true (rS_Poset true)) ({ Below := nilL (List Int) }))), (0, A.val (vint (n0))), (1, A.val ((slr false 2 (rA2 vint)) (pairs0)))])) h ?_ ?_
  · intro t h
    conv => whnf
    refine CallQ.o V.bool (by first | rfl | simp only [mulN_one, V.fz, fzL, V.up, upL, fzL_map, fz_slr, fz_at, slr, List.cons_append, List.nil_append] | simp [mulN_one, V.fz, fzL, V.up, upL, fzL_map, fz_slr, fz_at, slr]) h (fun r h => t_spec_l1In h) (fun r1 h => ?_)
    conv => whnf
    refine Br.flip ?_
    conv => whnf
    refine Br.ob h (fun p2 h => ?_) (fun p2 h => ?_)
    · conv => whnf
      refine Br.no ?_
      conv => whnf
      refine Len.map ?_
      conv => whnf
      refine Br.no ?_
      conv => whnf
      refine Br.no ?_
      conv => whnf
      refine Br.od h (fun p3 h => ?_) (fun p3 h => ?_)
      · conv => whnf
        refine SetKids.lit rfl ?_
        conv => whnf
        cases h; exact ⟨rfl, rfl⟩
      · conv => whnf
        cases h; exact ⟨rfl, rfl⟩
    · conv => whnf
      refine Br.yes ?_
      conv => whnf
      refine Br.yes ?_
      conv => whnf
      refine Br.yes ?_
      conv => whnf
      refine Br.yes ?_
      conv => whnf
      refine SetKids.lit rfl ?_
      conv => whnf
      cases h; exact ⟨rfl, rfl⟩
  · rintro (⟨⟩ | ⟨⟩) h
    · try dsimp only at h
      conv => whnf
      cases h; exact (by first | rfl | simp [resV, mulN_one, V.fz, fzL, V.up, upL, fzL_map, fz_slr, fz_at, slr])
    · try dsimp only at h
      conv => whnf
      refine LoopQ.o [6, 4, 0, 1] (S_spec_FromCovers_l1 n0 pairs0) (T_spec_FromCovers_l1 n0 pairs0) h (fun s o h => b_spec_FromCovers_l1 s o h) (by first | rfl | simp [restrict, look, mulN_one, V.fz, fzL, V.up, upL, fzL_map, fz_slr, fz_at, slr]) (by rintro (_ | _) <;> rfl) ?_
      rintro (⟨⟩ | ⟨⟩) h
      · try dsimp only at h
        conv => whnf
        cases h; exact (by first | rfl | simp [resV, mulN_one, V.fz, fzL, V.up, upL, fzL_map, fz_slr, fz_at, slr])
      · try dsimp only at h
        conv => whnf
        refine CallQ.o (rS_Poset true) (by first | rfl | simp only [mulN_one, V.fz, fzL, V.up, upL, fzL_map, fz_slr, fz_at, slr, List.cons_append, List.nil_append] | simp [mulN_one, V.fz, fzL, V.up, upL, fzL_map, fz_slr, fz_at, slr]) h (fun r h => t_spec_l23From h) (fun r19 h => ?_)
        conv => whnf
        refine SetKids.lit rfl ?_
        conv => whnf
        refine Cells.lit rfl rfl ?_
        conv => whnf
        refine CallQ.rd V.bool (by first | rfl | simp only [V.fz, fzL_map] | simp [mulN_one, V.fz, fzL, V.up, upL, fzL_map, fz_slr, fz_at, slr]) (fun _ => rfl) h (fun r h => t_spec_l23Good h) (fun r20 h => ?_)
        conv => whnf
        refine Br.flip ?_
        conv => whnf
        refine Br.ob h (fun p21 h => ?_) (fun p21 h => ?_)
        · conv => whnf
          refine Cells.lit rfl rfl ?_
          conv => whnf
          refine SetKids.lit rfl ?_
          conv => whnf
          cases h; exact (by first | rfl | simp [resV, mulN_one, V.fz, fzL, V.up, upL, fzL_map, fz_slr, fz_at, slr])
        · conv => whnf
          refine SetKids.lit rfl ?_
          conv => whnf
          cases h; exact (by first | rfl | simp [resV, mulN_one, V.fz, fzL, V.up, upL, fzL_map, fz_slr, fz_at, slr])

end Go.Proofs.Ythcnmahjhahafaa.Ax
