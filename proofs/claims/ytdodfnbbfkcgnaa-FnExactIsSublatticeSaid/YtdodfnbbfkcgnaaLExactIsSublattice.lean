/-
  What the functions compute, as functions on plain data, and that the program does compute it; written by program.
-/
import Derived.Test.YtdodfnbbfkcgnaaCode
import Derived.Test.YtdodfnbbfkcgnaaG1
import Derived.Test.YtdodfnbbfkcgnaaG5
import Derived.Test.YtdodfnbbfkcgnaaG6
import Derived.Test.YtdodfnbbfkcgnaaG7
namespace Go.Proofs.Ytdodfnbbfkcgnaa.Ax
open Go
set_option maxRecDepth 100000
set_option maxHeartbeats 4000000

noncomputable def F_laws_FnExactIsSublattice (aP0 : SPoset) (aSome0 : (List Int)) : Option Bool :=
  if (↑aSome0.length : Int) > (1048576 : Int) then
   some true
  else
   (F_laws_szPoset (aP0) ((1048576 : Int))).bind fun r2 =>
   if r2 < (0 : Int) then
    some true
   else
    (F_laws_toPoset (aP0)).bind fun r4 =>
    (F_laws_toIntS (aSome0)).bind fun r5 =>
    (F_spec_IsSublattice (r4) (r5)).bind fun r6 =>
    (F_laws_toPoset (aP0)).bind fun r7 =>
    (F_laws_toIntS (aSome0)).bind fun r8 =>
    (F_impl_IsSublattice (r7) (r8)).bind fun r9 =>
    ((if (r9.fst == r6.fst) = true then
          if (r9.snd == r6.snd) = true then
           some (.inl ())
          else
           some (.inr ())
         else
          some (.inr ()) : Option (Unit ⊕ Unit))).bind fun t => match t with
    | (.inl _) => ((F_laws_toPoset (aP0)).bind fun r13 =>
      (F_laws_eqPoset (r7) (r13)).bind fun r14 =>
      if (r14) = true then
       (F_laws_toIntS (aSome0)).bind fun r16 =>
       (F_laws_eqIntS (r8) (r16)).bind fun r17 =>
       if (r17) = true then
        some true
       else
        some false
      else
       some false)
    | (.inr _) => (some false)
theorem t_laws_FnExactIsSublattice {aP0 : SPoset} {aSome0 : (List Int)} {v : Bool} (h : F_laws_FnExactIsSublattice aP0 aSome0 = some v) : Ret Try.prog f_laws_FnExactIsSublattice [(rS_Poset false) aP0, (slr false 1 vint) aSome0] (V.bool v) := by
  refine ret_vc k_laws_FnExactIsSublattice (Nat.le_of_ble_eq_true rfl) ?_
  unfold F_laws_FnExactIsSublattice at h
  conv => whnf
  refine Len.map ?_
  conv => whnf
  refine Br.od h (fun p1 h => ?_) (fun p1 h => ?_)
  · conv => whnf
    cases h; exact (by first | rfl | simp only [resV, mulN_one, V.fz, fzL, V.up, upL, fzL_map, fz_slr, fz_at, slr] | simp [resV, mulN_one, V.fz, fzL, V.up, upL, fzL_map, fz_slr, fz_at, slr])
  · conv => whnf
    refine Cells.lit rfl rfl ?_
    conv => whnf
    refine CallQ.o vint (by first | rfl | simp only [mulN_one, V.fz, fzL, V.up, upL, fzL_map, fz_slr, fz_at, slr, List.cons_append, List.nil_append] | simp [mulN_one, V.fz, fzL, V.up, upL, fzL_map, fz_slr, fz_at, slr]) h (fun r h => t_laws_szPoset h) (fun r2 h => ?_)
    conv => whnf
    refine Br.od h (fun p3 h => ?_) (fun p3 h => ?_)
    · conv => whnf
      cases h; exact (by first | rfl | simp only [resV, mulN_one, V.fz, fzL, V.up, upL, fzL_map, fz_slr, fz_at, slr] | simp [resV, mulN_one, V.fz, fzL, V.up, upL, fzL_map, fz_slr, fz_at, slr])
    · conv => whnf
      refine Cells.lit rfl rfl ?_
      conv => whnf
      refine CallQ.o (rS_Poset true) (by first | rfl | simp only [mulN_one, V.fz, fzL, V.up, upL, fzL_map, fz_slr, fz_at, slr, List.cons_append, List.nil_append] | simp [mulN_one, V.fz, fzL, V.up, upL, fzL_map, fz_slr, fz_at, slr]) h (fun r h => t_laws_toPoset h) (fun r4 h => ?_)
      conv => whnf
      refine CallQ.o (slr true 1 vint) (by first | rfl | simp only [mulN_one, V.fz, fzL, V.up, upL, fzL_map, fz_slr, fz_at, slr, List.cons_append, List.nil_append] | simp [mulN_one, V.fz, fzL, V.up, upL, fzL_map, fz_slr, fz_at, slr]) h (fun r h => t_laws_toIntS h) (fun r5 h => ?_)
      conv => whnf
      refine CallQ.rd (fun r => V.tup [V.bool r.1, V.bool r.2]) (by first | rfl | simp only [V.fz, fzL, fzL_map, slr] | simp [mulN_one, V.fz, fzL, V.up, upL, fzL_map, fz_slr, fz_at, slr]) (fun _ => by simp [V.noFz, noFzL]) h (fun r h => t_spec_IsSublattice h) (fun r6 h => ?_)
      conv => whnf
      refine Cells.lit rfl rfl ?_
      conv => whnf
      refine CallQ.o (rS_Poset true) (by first | rfl | simp only [mulN_one, V.fz, fzL, V.up, upL, fzL_map, fz_slr, fz_at, slr, List.cons_append, List.nil_append] | simp [mulN_one, V.fz, fzL, V.up, upL, fzL_map, fz_slr, fz_at, slr]) h (fun r h => t_laws_toPoset h) (fun r7 h => ?_)
      conv => whnf
      refine SetKids.lit rfl ?_
      conv => whnf
      refine CallQ.o (slr true 1 vint) (by first | rfl | simp only [mulN_one, V.fz, fzL, V.up, upL, fzL_map, fz_slr, fz_at, slr, List.cons_append, List.nil_append] | simp [mulN_one, V.fz, fzL, V.up, upL, fzL_map, fz_slr, fz_at, slr]) h (fun r h => t_laws_toIntS h) (fun r8 h => ?_)
      conv => whnf
      refine Cells.lit rfl rfl ?_
      conv => whnf
      refine CallQ.rd (fun r => V.tup [V.bool r.1, V.bool r.2]) (by first | rfl | simp only [V.fz, fzL_map, slr] | simp [mulN_one, V.fz, fzL, V.up, upL, fzL_map, fz_slr, fz_at, slr]) (fun _ => by simp [V.noFz, noFzL]) h (fun r h => t_impl_IsSublattice h) (fun r9 h => ?_)
      conv => whnf
      refine CutQ.o (fun t : (Unit ⊕ Unit) => match t with | (.inl s) => (Ex.normal, [9, 8, 2, 1], [(9, A.val ((slr true 1 vint) (r8))), (8, A.val ((rP true (rS_Poset true)) (r7))), (2, A.val ((rP true (rS_Poset false)) (aP0))), (1, A.val ((slr false 1 vint) (aSome0)))]) | (.inr s) => (Ex.ret, [4], [(4, A.val (V.bool (false)))])) h ?_ ?_
      · intro t h
        conv => whnf
        refine Br.flip ?_
        conv => whnf
        refine Br.ob h (fun p10 h => ?_) (fun p10 h => ?_)
        · conv => whnf
          refine Br.no ?_
          conv => whnf
          refine Br.no ?_
          conv => whnf
          refine Br.no ?_
          conv => whnf
          refine Br.flip ?_
          conv => whnf
          refine Br.ob h (fun p11 h => ?_) (fun p11 h => ?_)
          · conv => whnf
            cases h; exact ⟨rfl, rfl⟩
          · conv => whnf
            cases h; exact ⟨rfl, rfl⟩
        · conv => whnf
          refine Br.yes ?_
          conv => whnf
          refine Br.yes ?_
          conv => whnf
          refine Br.yes ?_
          conv => whnf
          refine Br.yes ?_
          conv => whnf
          cases h; exact ⟨rfl, rfl⟩
      · rintro (⟨⟩ | ⟨⟩) h
        · try dsimp only at h
          conv => whnf
          refine Cells.lit rfl rfl ?_
          conv => whnf
          refine Cells.lit rfl rfl ?_
          conv => whnf
          refine CallP.o (rS_Poset true) (by first | rfl | simp only [mulN_one, V.fz, fzL, V.up, upL, fzL_map, fz_slr, fz_at, slr, List.cons_append, List.nil_append] | simp [mulN_one, V.fz, fzL, V.up, upL, fzL_map, fz_slr, fz_at, slr]) h (fun r h => t_laws_toPoset h) (fun r13 h => ?_)
          conv => whnf
          refine CallQ.rd V.bool (by first | rfl | simp only [V.fz, fzL, fzL_map] | simp [mulN_one, V.fz, fzL, V.up, upL, fzL_map, fz_slr, fz_at, slr]) (fun _ => rfl) h (fun r h => t_laws_eqPoset h) (fun r14 h => ?_)
          conv => whnf
          refine Br.flip ?_
          conv => whnf
          refine Br.ob h (fun p15 h => ?_) (fun p15 h => ?_)
          · conv => whnf
            refine CallQ.o (slr true 1 vint) (by first | rfl | simp only [mulN_one, V.fz, fzL, V.up, upL, fzL_map, fz_slr, fz_at, slr, List.cons_append, List.nil_append] | simp [mulN_one, V.fz, fzL, V.up, upL, fzL_map, fz_slr, fz_at, slr]) h (fun r h => t_laws_toIntS h) (fun r16 h => ?_)
            conv => whnf
            refine CallQ.rd V.bool (by first | rfl | simp only [V.fz, fzL_map, slr] | simp [mulN_one, V.fz, fzL, V.up, upL, fzL_map, fz_slr, fz_at, slr]) (fun _ => rfl) h (fun r h => t_laws_eqIntS h) (fun r17 h => ?_)
            conv => whnf
            refine Br.flip ?_
            conv => whnf
            refine Br.ob h (fun p18 h => ?_) (fun p18 h => ?_)
            · conv => whnf
              cases h; exact (by first | rfl | simp only [resV, mulN_one, V.fz, fzL, V.up, upL, fzL_map, fz_slr, fz_at, slr] | simp [resV, mulN_one, V.fz, fzL, V.up, upL, fzL_map, fz_slr, fz_at, slr])
            · conv => whnf
              cases h; exact (by first | rfl | simp only [resV, mulN_one, V.fz, fzL, V.up, upL, fzL_map, fz_slr, fz_at, slr] | simp [resV, mulN_one, V.fz, fzL, V.up, upL, fzL_map, fz_slr, fz_at, slr])
          · conv => whnf
            cases h; exact (by first | rfl | simp only [resV, mulN_one, V.fz, fzL, V.up, upL, fzL_map, fz_slr, fz_at, slr] | simp [resV, mulN_one, V.fz, fzL, V.up, upL, fzL_map, fz_slr, fz_at, slr])
        · try dsimp only at h
          conv => whnf
          cases h; exact (by first | rfl | simp only [resV, mulN_one, V.fz, fzL, V.up, upL, fzL_map, fz_slr, fz_at, slr] | simp [resV, mulN_one, V.fz, fzL, V.up, upL, fzL_map, fz_slr, fz_at, slr])

end Go.Proofs.Ytdodfnbbfkcgnaa.Ax
