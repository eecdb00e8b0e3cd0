/-
  What the functions compute, as functions on plain data, and that the program does compute it; written by program.
-/
import Derived.Test.YthcnmahjhahafaaCode
import Derived.Test.YthcnmahjhahafaaG1
import Derived.Test.YthcnmahjhahafaaG6
import Derived.Test.YthcnmahjhahafaaG7
import Derived.Test.YthcnmahjhahafaaG9
import Derived.Test.YthcnmahjhahafaaG11
namespace Go.Proofs.Ythcnmahjhahafaa.Ax
open Go
set_option maxRecDepth 100000
set_option maxHeartbeats 4000000

noncomputable def F_laws_FnExactDownsetOf (aP0 : SPoset) (aSome0 : (List Int)) : Option Bool :=
  if (↑aSome0.length : Int) > (1048576 : Int) then
   some true
  else
   (F_laws_szPoset (aP0) ((1048576 : Int))).bind fun r2 =>
   if r2 < (0 : Int) then
    some true
   else
    (F_laws_toPoset (aP0)).bind fun r4 =>
    (F_laws_toIntS (aSome0)).bind fun r5 =>
    (F_spec_DownsetOf (r4) (r5)).bind fun r6 =>
    (F_laws_toPoset (aP0)).bind fun r7 =>
    (F_laws_toIntS (aSome0)).bind fun r8 =>
    (F_impl_DownsetOf (r7) (r8)).bind fun r9 =>
    (((F_laws_eqIntS (r9.fst) (r6.fst)).bind fun r10 =>
         if (r10) = true then
          if (r9.snd == r6.snd) = true then
           some (.inl ())
          else
           some (.inr ())
         else
          some (.inr ()) : Option (Unit ⊕ Unit))).bind fun t => match t with
    | (.inl _) => ((F_laws_toPoset (aP0)).bind fun r14 =>
      (F_laws_eqPoset (r7) (r14)).bind fun r15 =>
      if (r15) = true then
       (F_laws_toIntS (aSome0)).bind fun r17 =>
       (F_laws_eqIntS (r8) (r17)).bind fun r18 =>
       if (r18) = true then
        (F_laws_markPoset (r7) ((1 : Int))).bind fun r20 =>
        (F_laws_markIntS (r8) (r20)).bind fun (r21, _u22) =>
        ((if r21 < (0 : Int) then
                  some (.inl ())
                 else
                  (F_laws_eqIntS (r9.fst) (r6.fst)).bind fun r24 =>
                  if (r24) = true then
                   if (r9.snd == r6.snd) = true then
                    some (.inr ())
                   else
                    some (.inl ())
                  else
                   some (.inl ()) : Option (Unit ⊕ Unit))).bind fun t => match t with
        | (.inl _) => (some false)
        | (.inr _) => ((F_laws_markIntS (r9.fst) ((1 : Int))).bind fun (r28, u29) =>
          (F_laws_heldIntS (u29) ((1 : Int))).bind fun r30 =>
          if r30 < (0 : Int) then
           some false
          else
           if r30 ≠ r28 then
            some false
           else
            (F_laws_toPoset (aP0)).bind fun r33 =>
            (F_laws_toIntS (aSome0)).bind fun r34 =>
            (F_impl_DownsetOf (r33) (r34)).bind fun r35 =>
            (((F_laws_eqIntS (r35.fst) (r6.fst)).bind fun r36 =>
                         if (r36) = true then
                          if (r35.snd == r6.snd) = true then
                           some (.inl ())
                          else
                           some (.inr ())
                         else
                          some (.inr ()) : Option (Unit ⊕ Unit))).bind fun t => match t with
            | (.inl _) => ((F_laws_heldIntS (u29) ((1 : Int))).bind fun r40 =>
              if r40 < (0 : Int) then
               some false
              else
               if r40 ≠ r28 then
                some false
               else
                some true)
            | (.inr _) => (some false))
       else
        some false
      else
       some false)
    | (.inr _) => (some false)
theorem t_laws_FnExactDownsetOf {aP0 : SPoset} {aSome0 : (List Int)} {v : Bool} (h : F_laws_FnExactDownsetOf aP0 aSome0 = some v) : Ret Try.prog f_laws_FnExactDownsetOf [(rS_Poset false) aP0, (slr false 1 vint) aSome0] (V.bool v) := by
  refine ret_vc k_laws_FnExactDownsetOf (Nat.le_of_ble_eq_true rfl) ?_
  unfold F_laws_FnExactDownsetOf at h
  conv => whnf
  refine Len.map ?_
  conv => whnf
  refine Br.od h (fun p1 h => ?_) (fun p1 h => ?_)
  · conv => whnf
    cases h; exact (by first | rfl | simp [resV, mulN_one, V.fz, fzL, V.up, upL, fzL_map, fz_slr, fz_at, slr])
  · conv => whnf
    refine Cells.lit rfl rfl ?_
    conv => whnf
    refine CallQ.o vint (by first | rfl | simp only [mulN_one, V.fz, fzL, V.up, upL, fzL_map, fz_slr, fz_at, slr, List.cons_append, List.nil_append] | simp [mulN_one, V.fz, fzL, V.up, upL, fzL_map, fz_slr, fz_at, slr]) h (fun r h => t_laws_szPoset h) (fun r2 h => ?_)
    conv => whnf
    refine Br.od h (fun p3 h => ?_) (fun p3 h => ?_)
    · conv => whnf
      cases h; exact (by first | rfl | simp [resV, mulN_one, V.fz, fzL, V.up, upL, fzL_map, fz_slr, fz_at, slr])
    · conv => whnf
      refine Cells.lit rfl rfl ?_
      conv => whnf
      refine CallQ.o (rS_Poset true) (by first | rfl | simp only [mulN_one, V.fz, fzL, V.up, upL, fzL_map, fz_slr, fz_at, slr, List.cons_append, List.nil_append] | simp [mulN_one, V.fz, fzL, V.up, upL, fzL_map, fz_slr, fz_at, slr]) h (fun r h => t_laws_toPoset h) (fun r4 h => ?_)
      conv => whnf
      refine CallQ.o (slr true 1 vint) (by first | rfl | simp only [mulN_one, V.fz, fzL, V.up, upL, fzL_map, fz_slr, fz_at, slr, List.cons_append, List.nil_append] | simp [mulN_one, V.fz, fzL, V.up, upL, fzL_map, fz_slr, fz_at, slr]) h (fun r h => t_laws_toIntS h) (fun r5 h => ?_)
      conv => whnf
      refine CallQ.rd (fun r => V.tup [(slr true 1 vint) r.1, V.bool r.2]) (by first | rfl | simp only [V.fz, fzL, fzL_map, slr] | simp [mulN_one, V.fz, fzL, V.up, upL, fzL_map, fz_slr, fz_at, slr]) (fun _ => by simp [V.noFz, noFzL, noFzL_map]) h (fun r h => t_spec_DownsetOf h) (fun r6 h => ?_)
      conv => whnf
      refine Cells.lit rfl rfl ?_
      conv => whnf
      refine CallQ.o (rS_Poset true) (by first | rfl | simp only [mulN_one, V.fz, fzL, V.up, upL, fzL_map, fz_slr, fz_at, slr, List.cons_append, List.nil_append] | simp [mulN_one, V.fz, fzL, V.up, upL, fzL_map, fz_slr, fz_at, slr]) h (fun r h => t_laws_toPoset h) (fun r7 h => ?_)
      conv => whnf
      refine SetKids.lit rfl ?_
      conv => whnf
      refine CallQ.o (slr true 1 vint) (by first | rfl | simp only [mulN_one, V.fz, fzL, V.up, upL, fzL_map, fz_slr, fz_at, slr, List.cons_append, List.nil_append] | simp [mulN_one, V.fz, fzL, V.up, upL, fzL_map, fz_slr, fz_at, slr]) h (fun r h => t_laws_toIntS h) (fun r8 h => ?_)
      conv => whnf
      refine Cells.lit rfl rfl ?_
      conv => whnf
      refine CallQ.rd (fun r => V.tup [(slr true 1 vint) r.1, V.bool r.2]) (by first | rfl | simp only [V.fz, fzL_map, slr] | simp [mulN_one, V.fz, fzL, V.up, upL, fzL_map, fz_slr, fz_at, slr]) (fun _ => by simp [V.noFz, noFzL, noFzL_map]) h (fun r h => t_impl_DownsetOf h) (fun r9 h => ?_)
      conv => whnf
      refine CutQ.o (fun t : (Unit ⊕ Unit) => match t with | (.inl s) => (Ex.normal, [11, 10, 9, 8, 7, 6, 2, 1], [(11, A.val (V.bool (r9.snd))), (10, A.val ((slr true 1 vint) (r9.fst))), (9, A.val ((slr true 1 vint) (r8))), (8, A.val ((rP true (rS_Poset true)) (r7))), (7, A.val (V.bool (r6.snd))), (6, A.val ((slr true 1 vint) (r6.fst))), (2, A.val ((rP true (rS_Poset false)) (aP0))), (1, A.val ((slr false 1 vint) (aSome0)))]) | (.inr s) => (Ex.ret, [4], [(4, A.val (V.bool (false)))])) h ?_ ?_
      · intro t h
        conv => whnf
        refine CallQ.rd V.bool (by first | rfl | simp only [V.fz, fzL_map, slr] | simp [mulN_one, V.fz, fzL, V.up, upL, fzL_map, fz_slr, fz_at, slr]) (fun _ => rfl) h (fun r h => t_laws_eqIntS h) (fun r10 h => ?_)
        conv => whnf
        refine Br.flip ?_
        conv => whnf
        refine Br.ob h (fun p11 h => ?_) (fun p11 h => ?_)
        · conv => whnf
          refine Br.no ?_
          conv => whnf
          refine Br.no ?_
          conv => whnf
          refine Br.no ?_
          conv => whnf
          refine Br.flip ?_
          conv => whnf
          refine Br.ob h (fun p12 h => ?_) (fun p12 h => ?_)
          · conv => whnf
            cases h; exact ⟨rfl, rfl⟩
          · conv => whnf
            cases h; exact ⟨rfl, rfl⟩
        · conv => whnf
          refine Br.yes ?_
          conv => whnf
          refine Br.yes ?_
          conv => whnf
          refine Br.yes ?_
          conv => whnf
          refine Br.yes ?_
          conv => whnf
          cases h; exact ⟨rfl, rfl⟩
      · rintro (⟨⟩ | ⟨⟩) h
        · try dsimp only at h
          conv => whnf
          refine Cells.lit rfl rfl ?_
          conv => whnf
          refine Cells.lit rfl rfl ?_
          conv => whnf
          refine CallP.o (rS_Poset true) (by first | rfl | simp only [mulN_one, V.fz, fzL, V.up, upL, fzL_map, fz_slr, fz_at, slr, List.cons_append, List.nil_append] | simp [mulN_one, V.fz, fzL, V.up, upL, fzL_map, fz_slr, fz_at, slr]) h (fun r h => t_laws_toPoset h) (fun r14 h => ?_)
          conv => whnf
          refine CallQ.rd V.bool (by first | rfl | simp only [V.fz, fzL, fzL_map] | simp [mulN_one, V.fz, fzL, V.up, upL, fzL_map, fz_slr, fz_at, slr]) (fun _ => rfl) h (fun r h => t_laws_eqPoset h) (fun r15 h => ?_)
          conv => whnf
          refine Br.flip ?_
          conv => whnf
          refine Br.ob h (fun p16 h => ?_) (fun p16 h => ?_)
          · conv => whnf
            refine CallQ.o (slr true 1 vint) (by first | rfl | simp only [mulN_one, V.fz, fzL, V.up, upL, fzL_map, fz_slr, fz_at, slr, List.cons_append, List.nil_append] | simp [mulN_one, V.fz, fzL, V.up, upL, fzL_map, fz_slr, fz_at, slr]) h (fun r h => t_laws_toIntS h) (fun r17 h => ?_)
            conv => whnf
            refine CallQ.rd V.bool (by first | rfl | simp only [V.fz, fzL_map, slr] | simp [mulN_one, V.fz, fzL, V.up, upL, fzL_map, fz_slr, fz_at, slr]) (fun _ => rfl) h (fun r h => t_laws_eqIntS h) (fun r18 h => ?_)
            conv => whnf
            refine Br.flip ?_
            conv => whnf
            refine Br.ob h (fun p19 h => ?_) (fun p19 h => ?_)
            · conv => whnf
              refine Cells.lit rfl rfl ?_
              conv => whnf
              refine GiveQ.o vint (by first | rfl | simp only [mulN_one, V.fz, fzL, V.up, upL, fzL_map, fz_slr, fz_at, slr, List.cons_append, List.nil_append] | simp [mulN_one, V.fz, fzL, V.up, upL, fzL_map, fz_slr, fz_at, slr]) h (fun r h => t_laws_markPoset h) (fun r20 h => ?_)
              conv => whnf
              refine CallQ.io vint (slr true 1 vint) (by first | rfl | simp only [mulN_one, V.fz, fzL, V.up, upL, fzL_map, fz_slr, fz_at, slr, List.cons_append, List.nil_append] | simp [mulN_one, V.fz, fzL, V.up, upL, fzL_map, fz_slr, fz_at, slr]) rfl (fun _ => rfl) (fun _ => ⟨rfl, rfl⟩) rfl h (fun r h => t_laws_markIntS h) (fun r21 u22 h => ?_)
              conv => whnf
              refine CutQ.o (fun t : (Unit ⊕ Unit) => match t with | (.inl s) => (Ex.ret, [4], [(4, A.val (V.bool (false)))]) | (.inr s) => (Ex.normal, [10, 7, 6, 2, 1], [(10, A.val ((slr true 1 vint) (r9.fst))), (7, A.val (V.bool (r6.snd))), (6, A.val ((slr true 1 vint) (r6.fst))), (2, A.val ((rP true (rS_Poset false)) (aP0))), (1, A.val ((slr false 1 vint) (aSome0)))])) h ?_ ?_
              · intro t h
                conv => whnf
                refine Br.od h (fun p23 h => ?_) (fun p23 h => ?_)
                · conv => whnf
                  refine Br.yes ?_
                  conv => whnf
                  refine Br.yes ?_
                  conv => whnf
                  refine Br.yes ?_
                  conv => whnf
                  refine Br.yes ?_
                  conv => whnf
                  refine Br.yes ?_
                  conv => whnf
                  refine Br.yes ?_
                  conv => whnf
                  refine Br.yes ?_
                  conv => whnf
                  refine Br.yes ?_
                  conv => whnf
                  refine Br.yes ?_
                  conv => whnf
                  cases h; exact ⟨rfl, rfl⟩
                · conv => whnf
                  refine Br.no ?_
                  conv => whnf
                  refine Br.no ?_
                  conv => whnf
                  refine CallQ.rd V.bool (by first | rfl | simp only [V.fz, fzL_map, slr] | simp [mulN_one, V.fz, fzL, V.up, upL, fzL_map, fz_slr, fz_at, slr]) (fun _ => rfl) h (fun r h => t_laws_eqIntS h) (fun r24 h => ?_)
                  conv => whnf
                  refine Br.no ?_
                  conv => whnf
                  refine Br.no ?_
                  conv => whnf
                  refine Br.flip ?_
                  conv => whnf
                  refine Br.ob h (fun p25 h => ?_) (fun p25 h => ?_)
                  · conv => whnf
                    refine Br.no ?_
                    conv => whnf
                    refine Br.no ?_
                    conv => whnf
                    refine Br.no ?_
                    conv => whnf
                    refine Br.flip ?_
                    conv => whnf
                    refine Br.ob h (fun p26 h => ?_) (fun p26 h => ?_)
                    · conv => whnf
                      cases h; exact ⟨rfl, rfl⟩
                    · conv => whnf
                      cases h; exact ⟨rfl, rfl⟩
                  · conv => whnf
                    refine Br.yes ?_
                    conv => whnf
                    refine Br.yes ?_
                    conv => whnf
                    refine Br.yes ?_
                    conv => whnf
                    refine Br.yes ?_
                    conv => whnf
                    cases h; exact ⟨rfl, rfl⟩
              · rintro (⟨⟩ | ⟨⟩) h
                · try dsimp only at h
                  conv => whnf
                  cases h; exact (by first | rfl | simp [resV, mulN_one, V.fz, fzL, V.up, upL, fzL_map, fz_slr, fz_at, slr])
                · try dsimp only at h
                  conv => whnf
                  refine CallQ.io vint (slr true 1 vint) (by first | rfl | simp only [mulN_one, V.fz, fzL, V.up, upL, fzL_map, fz_slr, fz_at, slr, List.cons_append, List.nil_append] | simp [mulN_one, V.fz, fzL, V.up, upL, fzL_map, fz_slr, fz_at, slr]) rfl (fun _ => rfl) (fun _ => ⟨rfl, rfl⟩) rfl h (fun r h => t_laws_markIntS h) (fun r28 u29 h => ?_)
                  conv => whnf
                  refine CallQ.rd vint (by first | rfl | simp only [V.fz, V.up, fzL_map, fz_at, slr] | simp [mulN_one, V.fz, fzL, V.up, upL, fzL_map, fz_slr, fz_at, slr]) (fun _ => rfl) h (fun r h => t_laws_heldIntS h) (fun r30 h => ?_)
                  conv => whnf
                  refine Br.od h (fun p31 h => ?_) (fun p31 h => ?_)
                  · conv => whnf
                    cases h; exact (by first | rfl | simp [resV, mulN_one, V.fz, fzL, V.up, upL, fzL_map, fz_slr, fz_at, slr])
                  · conv => whnf
                    refine Br.on h (fun p32 h => ?_) (fun p32 h => ?_)
                    · conv => whnf
                      cases h; exact (by first | rfl | simp [resV, mulN_one, V.fz, fzL, V.up, upL, fzL_map, fz_slr, fz_at, slr])
                    · conv => whnf
                      refine Cells.lit rfl rfl ?_
                      conv => whnf
                      refine CallQ.o (rS_Poset true) (by first | rfl | simp only [mulN_one, V.fz, fzL, V.up, upL, fzL_map, fz_slr, fz_at, slr, List.cons_append, List.nil_append] | simp [mulN_one, V.fz, fzL, V.up, upL, fzL_map, fz_slr, fz_at, slr]) h (fun r h => t_laws_toPoset h) (fun r33 h => ?_)
                      conv => whnf
                      refine CallQ.o (slr true 1 vint) (by first | rfl | simp only [mulN_one, V.fz, fzL, V.up, upL, fzL_map, fz_slr, fz_at, slr, List.cons_append, List.nil_append] | simp [mulN_one, V.fz, fzL, V.up, upL, fzL_map, fz_slr, fz_at, slr]) h (fun r h => t_laws_toIntS h) (fun r34 h => ?_)
                      conv => whnf
                      refine CallQ.rd (fun r => V.tup [(slr true 1 vint) r.1, V.bool r.2]) (by first | rfl | simp only [V.fz, fzL, fzL_map, slr] | simp [mulN_one, V.fz, fzL, V.up, upL, fzL_map, fz_slr, fz_at, slr]) (fun _ => by simp [V.noFz, noFzL, noFzL_map]) h (fun r h => t_impl_DownsetOf h) (fun r35 h => ?_)
                      conv => whnf
                      refine CutQ.o (fun t : (Unit ⊕ Unit) => match t with | (.inl s) => (Ex.normal, [13, 10], [(13, A.val (vint (r28))), (10, A.val ((slr true 1 vint) (u29)))]) | (.inr s) => (Ex.ret, [4], [(4, A.val (V.bool (false)))])) h ?_ ?_
                      · intro t h
                        conv => whnf
                        refine CallQ.rd V.bool (by first | rfl | simp only [V.fz, fzL_map, slr] | simp [mulN_one, V.fz, fzL, V.up, upL, fzL_map, fz_slr, fz_at, slr]) (fun _ => rfl) h (fun r h => t_laws_eqIntS h) (fun r36 h => ?_)
                        conv => whnf
                        refine Br.flip ?_
                        conv => whnf
                        refine Br.ob h (fun p37 h => ?_) (fun p37 h => ?_)
                        · conv => whnf
                          refine Br.no ?_
                          conv => whnf
                          refine Br.no ?_
                          conv => whnf
                          refine Br.no ?_
                          conv => whnf
                          refine Br.flip ?_
                          conv => whnf
                          refine Br.ob h (fun p38 h => ?_) (fun p38 h => ?_)
                          · conv => whnf
                            cases h; exact ⟨rfl, rfl⟩
                          · conv => whnf
                            cases h; exact ⟨rfl, rfl⟩
                        · conv => whnf
                          refine Br.yes ?_
                          conv => whnf
                          refine Br.yes ?_
                          conv => whnf
                          refine Br.yes ?_
                          conv => whnf
                          refine Br.yes ?_
                          conv => whnf
                          cases h; exact ⟨rfl, rfl⟩
                      · rintro (⟨⟩ | ⟨⟩) h
                        · try dsimp only at h
                          conv => whnf
                          refine CallQ.rd vint (by first | rfl | simp only [V.fz, V.up, fzL_map, fz_at, slr] | simp [mulN_one, V.fz, fzL, V.up, upL, fzL_map, fz_slr, fz_at, slr]) (fun _ => rfl) h (fun r h => t_laws_heldIntS h) (fun r40 h => ?_)
                          conv => whnf
                          refine Br.od h (fun p41 h => ?_) (fun p41 h => ?_)
                          · conv => whnf
                            cases h; exact (by first | rfl | simp [resV, mulN_one, V.fz, fzL, V.up, upL, fzL_map, fz_slr, fz_at, slr])
                          · conv => whnf
                            refine Br.on h (fun p42 h => ?_) (fun p42 h => ?_)
                            · conv => whnf
                              cases h; exact (by first | rfl | simp [resV, mulN_one, V.fz, fzL, V.up, upL, fzL_map, fz_slr, fz_at, slr])
                            · conv => whnf
                              cases h; exact (by first | rfl | simp [resV, mulN_one, V.fz, fzL, V.up, upL, fzL_map, fz_slr, fz_at, slr])
                        · try dsimp only at h
                          conv => whnf
                          cases h; exact (by first | rfl | simp [resV, mulN_one, V.fz, fzL, V.up, upL, fzL_map, fz_slr, fz_at, slr])
            · conv => whnf
              cases h; exact (by first | rfl | simp [resV, mulN_one, V.fz, fzL, V.up, upL, fzL_map, fz_slr, fz_at, slr])
          · conv => whnf
            cases h; exact (by first | rfl | simp [resV, mulN_one, V.fz, fzL, V.up, upL, fzL_map, fz_slr, fz_at, slr])
        · try dsimp only at h
          conv => whnf
          cases h; exact (by first | rfl | simp [resV, mulN_one, V.fz, fzL, V.up, upL, fzL_map, fz_slr, fz_at, slr])

noncomputable def F_laws_FnExactLongestChain (aP0 : SPoset) : Option Bool :=
  (F_laws_szPoset (aP0) ((1048576 : Int))).bind fun r1 =>
  if r1 < (0 : Int) then
   some true
  else
   (F_laws_toPoset (aP0)).bind fun r3 =>
   (F_spec_LongestChain (r3)).bind fun r4 =>
   (F_laws_toPoset (aP0)).bind fun r5 =>
   (F_impl_LongestChain (r5)).bind fun r6 =>
   (((F_laws_eqIntS (r6.fst) (r4.fst)).bind fun r7 =>
       if (r7) = true then
        if (r6.snd == r4.snd) = true then
         some (.inl ())
        else
         some (.inr ())
       else
        some (.inr ()) : Option (Unit ⊕ Unit))).bind fun t => match t with
   | (.inl _) => ((F_laws_toPoset (aP0)).bind fun r11 =>
     (F_laws_eqPoset (r5) (r11)).bind fun r12 =>
     if (r12) = true then
      (F_laws_markPoset (r5) ((1 : Int))).bind fun r14 =>
      ((if r14 < (0 : Int) then
              some (.inl ())
             else
              (F_laws_eqIntS (r6.fst) (r4.fst)).bind fun r16 =>
              if (r16) = true then
               if (r6.snd == r4.snd) = true then
                some (.inr ())
               else
                some (.inl ())
              else
               some (.inl ()) : Option (Unit ⊕ Unit))).bind fun t => match t with
      | (.inl _) => (some false)
      | (.inr _) => ((F_laws_markIntS (r6.fst) ((1 : Int))).bind fun (r20, u21) =>
        (F_laws_heldIntS (u21) ((1 : Int))).bind fun r22 =>
        if r22 < (0 : Int) then
         some false
        else
         if r22 ≠ r20 then
          some false
         else
          (F_laws_toPoset (aP0)).bind fun r25 =>
          (F_impl_LongestChain (r25)).bind fun r26 =>
          (((F_laws_eqIntS (r26.fst) (r4.fst)).bind fun r27 =>
                     if (r27) = true then
                      if (r26.snd == r4.snd) = true then
                       some (.inl ())
                      else
                       some (.inr ())
                     else
                      some (.inr ()) : Option (Unit ⊕ Unit))).bind fun t => match t with
          | (.inl _) => ((F_laws_heldIntS (u21) ((1 : Int))).bind fun r31 =>
            if r31 < (0 : Int) then
             some false
            else
             if r31 ≠ r20 then
              some false
             else
              some true)
          | (.inr _) => (some false))
     else
      some false)
   | (.inr _) => (some false)
theorem t_laws_FnExactLongestChain {aP0 : SPoset} {v : Bool} (h : F_laws_FnExactLongestChain aP0 = some v) : Ret Try.prog f_laws_FnExactLongestChain [(rS_Poset false) aP0] (V.bool v) := by
  refine ret_vc k_laws_FnExactLongestChain (Nat.le_of_ble_eq_true rfl) ?_
  unfold F_laws_FnExactLongestChain at h
  conv => whnf
  refine Cells.lit rfl rfl ?_
  conv => whnf
  refine CallQ.o vint (by first | rfl | simp only [mulN_one, V.fz, fzL, V.up, upL, fzL_map, fz_slr, fz_at, slr, List.cons_append, List.nil_append] | simp [mulN_one, V.fz, fzL, V.up, upL, fzL_map, fz_slr, fz_at, slr]) h (fun r h => t_laws_szPoset h) (fun r1 h => ?_)
  conv => whnf
  refine Br.od h (fun p2 h => ?_) (fun p2 h => ?_)
  · conv => whnf
    cases h; exact (by first | rfl | simp [resV, mulN_one, V.fz, fzL, V.up, upL, fzL_map, fz_slr, fz_at, slr])
  · conv => whnf
    refine Cells.lit rfl rfl ?_
    conv => whnf
    refine CallQ.o (rS_Poset true) (by first | rfl | simp only [mulN_one, V.fz, fzL, V.up, upL, fzL_map, fz_slr, fz_at, slr, List.cons_append, List.nil_append] | simp [mulN_one, V.fz, fzL, V.up, upL, fzL_map, fz_slr, fz_at, slr]) h (fun r h => t_laws_toPoset h) (fun r3 h => ?_)
    conv => whnf
    refine CallQ.rd (fun r => V.tup [(slr true 1 vint) r.1, V.bool r.2]) (by first | rfl | simp only [V.fz, fzL, fzL_map] | simp [mulN_one, V.fz, fzL, V.up, upL, fzL_map, fz_slr, fz_at, slr]) (fun _ => by simp [V.noFz, noFzL, noFzL_map]) h (fun r h => t_spec_LongestChain h) (fun r4 h => ?_)
    conv => whnf
    refine Cells.lit rfl rfl ?_
    conv => whnf
    refine CallQ.o (rS_Poset true) (by first | rfl | simp only [mulN_one, V.fz, fzL, V.up, upL, fzL_map, fz_slr, fz_at, slr, List.cons_append, List.nil_append] | simp [mulN_one, V.fz, fzL, V.up, upL, fzL_map, fz_slr, fz_at, slr]) h (fun r h => t_laws_toPoset h) (fun r5 h => ?_)
    conv => whnf
    refine SetKids.lit rfl ?_
    conv => whnf
    refine Cells.lit rfl rfl ?_
    conv => whnf
    refine CallQ.rd (fun r => V.tup [(slr true 1 vint) r.1, V.bool r.2]) (by first | rfl | simp only [V.fz, fzL_map] | simp [mulN_one, V.fz, fzL, V.up, upL, fzL_map, fz_slr, fz_at, slr]) (fun _ => by simp [V.noFz, noFzL, noFzL_map]) h (fun r h => t_impl_LongestChain h) (fun r6 h => ?_)
    conv => whnf
    refine CutQ.o (fun t : (Unit ⊕ Unit) => match t with | (.inl s) => (Ex.normal, [8, 7, 6, 5, 4, 1], [(8, A.val (V.bool (r6.snd))), (7, A.val ((slr true 1 vint) (r6.fst))), (6, A.val ((rP true (rS_Poset true)) (r5))), (5, A.val (V.bool (r4.snd))), (4, A.val ((slr true 1 vint) (r4.fst))), (1, A.val ((rP true (rS_Poset false)) (aP0)))]) | (.inr s) => (Ex.ret, [2], [(2, A.val (V.bool (false)))])) h ?_ ?_
    · intro t h
      conv => whnf
      refine CallQ.rd V.bool (by first | rfl | simp only [V.fz, fzL_map, slr] | simp [mulN_one, V.fz, fzL, V.up, upL, fzL_map, fz_slr, fz_at, slr]) (fun _ => rfl) h (fun r h => t_laws_eqIntS h) (fun r7 h => ?_)
      conv => whnf
      refine Br.flip ?_
      conv => whnf
      refine Br.ob h (fun p8 h => ?_) (fun p8 h => ?_)
      · conv => whnf
        refine Br.no ?_
        conv => whnf
        refine Br.no ?_
        conv => whnf
        refine Br.no ?_
        conv => whnf
        refine Br.flip ?_
        conv => whnf
        refine Br.ob h (fun p9 h => ?_) (fun p9 h => ?_)
        · conv => whnf
          cases h; exact ⟨rfl, rfl⟩
        · conv => whnf
          cases h; exact ⟨rfl, rfl⟩
      · conv => whnf
        refine Br.yes ?_
        conv => whnf
        refine Br.yes ?_
        conv => whnf
        refine Br.yes ?_
        conv => whnf
        refine Br.yes ?_
        conv => whnf
        cases h; exact ⟨rfl, rfl⟩
    · rintro (⟨⟩ | ⟨⟩) h
      · try dsimp only at h
        conv => whnf
        refine Cells.lit rfl rfl ?_
        conv => whnf
        refine Cells.lit rfl rfl ?_
        conv => whnf
        refine CallP.o (rS_Poset true) (by first | rfl | simp only [mulN_one, V.fz, fzL, V.up, upL, fzL_map, fz_slr, fz_at, slr, List.cons_append, List.nil_append] | simp [mulN_one, V.fz, fzL, V.up, upL, fzL_map, fz_slr, fz_at, slr]) h (fun r h => t_laws_toPoset h) (fun r11 h => ?_)
        conv => whnf
        refine CallQ.rd V.bool (by first | rfl | simp only [V.fz, fzL, fzL_map] | simp [mulN_one, V.fz, fzL, V.up, upL, fzL_map, fz_slr, fz_at, slr]) (fun _ => rfl) h (fun r h => t_laws_eqPoset h) (fun r12 h => ?_)
        conv => whnf
        refine Br.flip ?_
        conv => whnf
        refine Br.ob h (fun p13 h => ?_) (fun p13 h => ?_)
        · conv => whnf
          refine Cells.lit rfl rfl ?_
          conv => whnf
          refine GiveQ.o vint (by first | rfl | simp only [mulN_one, V.fz, fzL, V.up, upL, fzL_map, fz_slr, fz_at, slr, List.cons_append, List.nil_append] | simp [mulN_one, V.fz, fzL, V.up, upL, fzL_map, fz_slr, fz_at, slr]) h (fun r h => t_laws_markPoset h) (fun r14 h => ?_)
          conv => whnf
          refine CutQ.o (fun t : (Unit ⊕ Unit) => match t with | (.inl s) => (Ex.ret, [2], [(2, A.val (V.bool (false)))]) | (.inr s) => (Ex.normal, [7, 5, 4, 1], [(7, A.val ((slr true 1 vint) (r6.fst))), (5, A.val (V.bool (r4.snd))), (4, A.val ((slr true 1 vint) (r4.fst))), (1, A.val ((rP true (rS_Poset false)) (aP0)))])) h ?_ ?_
          · intro t h
            conv => whnf
            refine Br.od h (fun p15 h => ?_) (fun p15 h => ?_)
            · conv => whnf
              refine Br.yes ?_
              conv => whnf
              refine Br.yes ?_
              conv => whnf
              refine Br.yes ?_
              conv => whnf
              refine Br.yes ?_
              conv => whnf
              refine Br.yes ?_
              conv => whnf
              refine Br.yes ?_
              conv => whnf
              refine Br.yes ?_
              conv => whnf
              refine Br.yes ?_
              conv => whnf
              refine Br.yes ?_
              conv => whnf
              cases h; exact ⟨rfl, rfl⟩
            · conv => whnf
              refine Br.no ?_
              conv => whnf
              refine Br.no ?_
              conv => whnf
              refine CallQ.rd V.bool (by first | rfl | simp only [V.fz, fzL_map, slr] | simp [mulN_one, V.fz, fzL, V.up, upL, fzL_map, fz_slr, fz_at, slr]) (fun _ => rfl) h (fun r h => t_laws_eqIntS h) (fun r16 h => ?_)
              conv => whnf
              refine Br.no ?_
              conv => whnf
              refine Br.no ?_
              conv => whnf
              refine Br.flip ?_
              conv => whnf
              refine Br.ob h (fun p17 h => ?_) (fun p17 h => ?_)
              · conv => whnf
                refine Br.no ?_
                conv => whnf
                refine Br.no ?_
                conv => whnf
                refine Br.no ?_
                conv => whnf
                refine Br.flip ?_
                conv => whnf
                refine Br.ob h (fun p18 h => ?_) (fun p18 h => ?_)
                · conv => whnf
                  cases h; exact ⟨rfl, rfl⟩
                · conv => whnf
                  cases h; exact ⟨rfl, rfl⟩
              · conv => whnf
                refine Br.yes ?_
                conv => whnf
                refine Br.yes ?_
                conv => whnf
                refine Br.yes ?_
                conv => whnf
                refine Br.yes ?_
                conv => whnf
                cases h; exact ⟨rfl, rfl⟩
          · rintro (⟨⟩ | ⟨⟩) h
            · try dsimp only at h
              conv => whnf
              cases h; exact (by first | rfl | simp [resV, mulN_one, V.fz, fzL, V.up, upL, fzL_map, fz_slr, fz_at, slr])
            · try dsimp only at h
              conv => whnf
              refine CallQ.io vint (slr true 1 vint) (by first | rfl | simp only [mulN_one, V.fz, fzL, V.up, upL, fzL_map, fz_slr, fz_at, slr, List.cons_append, List.nil_append] | simp [mulN_one, V.fz, fzL, V.up, upL, fzL_map, fz_slr, fz_at, slr]) rfl (fun _ => rfl) (fun _ => ⟨rfl, rfl⟩) rfl h (fun r h => t_laws_markIntS h) (fun r20 u21 h => ?_)
              conv => whnf
              refine CallQ.rd vint (by first | rfl | simp only [V.fz, V.up, fzL_map, fz_at, slr] | simp [mulN_one, V.fz, fzL, V.up, upL, fzL_map, fz_slr, fz_at, slr]) (fun _ => rfl) h (fun r h => t_laws_heldIntS h) (fun r22 h => ?_)
              conv => whnf
              refine Br.od h (fun p23 h => ?_) (fun p23 h => ?_)
              · conv => whnf
                cases h; exact (by first | rfl | simp [resV, mulN_one, V.fz, fzL, V.up, upL, fzL_map, fz_slr, fz_at, slr])
              · conv => whnf
                refine Br.on h (fun p24 h => ?_) (fun p24 h => ?_)
                · conv => whnf
                  cases h; exact (by first | rfl | simp [resV, mulN_one, V.fz, fzL, V.up, upL, fzL_map, fz_slr, fz_at, slr])
                · conv => whnf
                  refine Cells.lit rfl rfl ?_
                  conv => whnf
                  refine CallQ.o (rS_Poset true) (by first | rfl | simp only [mulN_one, V.fz, fzL, V.up, upL, fzL_map, fz_slr, fz_at, slr, List.cons_append, List.nil_append] | simp [mulN_one, V.fz, fzL, V.up, upL, fzL_map, fz_slr, fz_at, slr]) h (fun r h => t_laws_toPoset h) (fun r25 h => ?_)
                  conv => whnf
                  refine CallQ.rd (fun r => V.tup [(slr true 1 vint) r.1, V.bool r.2]) (by first | rfl | simp only [V.fz, fzL, fzL_map] | simp [mulN_one, V.fz, fzL, V.up, upL, fzL_map, fz_slr, fz_at, slr]) (fun _ => by simp [V.noFz, noFzL, noFzL_map]) h (fun r h => t_impl_LongestChain h) (fun r26 h => ?_)
                  conv => whnf
                  refine CutQ.o (fun t : (Unit ⊕ Unit) => match t with | (.inl s) => (Ex.normal, [10, 7], [(10, A.val (vint (r20))), (7, A.val ((slr true 1 vint) (u21)))]) | (.inr s) => (Ex.ret, [2], [(2, A.val (V.bool (false)))])) h ?_ ?_
                  · intro t h
                    conv => whnf
                    refine CallQ.rd V.bool (by first | rfl | simp only [V.fz, fzL_map, slr] | simp [mulN_one, V.fz, fzL, V.up, upL, fzL_map, fz_slr, fz_at, slr]) (fun _ => rfl) h (fun r h => t_laws_eqIntS h) (fun r27 h => ?_)
                    conv => whnf
                    refine Br.flip ?_
                    conv => whnf
                    refine Br.ob h (fun p28 h => ?_) (fun p28 h => ?_)
                    · conv => whnf
                      refine Br.no ?_
                      conv => whnf
                      refine Br.no ?_
                      conv => whnf
                      refine Br.no ?_
                      conv => whnf
                      refine Br.flip ?_
                      conv => whnf
                      refine Br.ob h (fun p29 h => ?_) (fun p29 h => ?_)
                      · conv => whnf
                        cases h; exact ⟨rfl, rfl⟩
                      · conv => whnf
                        cases h; exact ⟨rfl, rfl⟩
                    · conv => whnf
                      refine Br.yes ?_
                      conv => whnf
                      refine Br.yes ?_
                      conv => whnf
                      refine Br.yes ?_
                      conv => whnf
                      refine Br.yes ?_
                      conv => whnf
                      cases h; exact ⟨rfl, rfl⟩
                  · rintro (⟨⟩ | ⟨⟩) h
                    · try dsimp only at h
                      conv => whnf
                      refine CallQ.rd vint (by first | rfl | simp only [V.fz, V.up, fzL_map, fz_at, slr] | simp [mulN_one, V.fz, fzL, V.up, upL, fzL_map, fz_slr, fz_at, slr]) (fun _ => rfl) h (fun r h => t_laws_heldIntS h) (fun r31 h => ?_)
                      conv => whnf
                      refine Br.od h (fun p32 h => ?_) (fun p32 h => ?_)
                      · conv => whnf
                        cases h; exact (by first | rfl | simp [resV, mulN_one, V.fz, fzL, V.up, upL, fzL_map, fz_slr, fz_at, slr])
                      · conv => whnf
                        refine Br.on h (fun p33 h => ?_) (fun p33 h => ?_)
                        · conv => whnf
                          cases h; exact (by first | rfl | simp [resV, mulN_one, V.fz, fzL, V.up, upL, fzL_map, fz_slr, fz_at, slr])
                        · conv => whnf
                          cases h; exact (by first | rfl | simp [resV, mulN_one, V.fz, fzL, V.up, upL, fzL_map, fz_slr, fz_at, slr])
                    · try dsimp only at h
                      conv => whnf
                      cases h; exact (by first | rfl | simp [resV, mulN_one, V.fz, fzL, V.up, upL, fzL_map, fz_slr, fz_at, slr])
        · conv => whnf
          cases h; exact (by first | rfl | simp [resV, mulN_one, V.fz, fzL, V.up, upL, fzL_map, fz_slr, fz_at, slr])
      · try dsimp only at h
        conv => whnf
        cases h; exact (by first | rfl | simp [resV, mulN_one, V.fz, fzL, V.up, upL, fzL_map, fz_slr, fz_at, slr])

noncomputable def F_spec_IsLattice (p0 : SPoset) : Option Bool :=
  (F_spec_l24Good (p0)).bind fun r1 =>
  some r1
theorem t_spec_IsLattice {p0 : SPoset} {v : Bool} (h : F_spec_IsLattice p0 = some v) : Ret Try.prog f_spec_IsLattice [(rS_Poset false) p0] (V.bool v) := by
  refine ret_vc k_spec_IsLattice (Nat.le_of_ble_eq_true rfl) ?_
  unfold F_spec_IsLattice at h
  conv => whnf
  refine Cells.lit rfl rfl ?_
  conv => whnf
  refine CallQ.o V.bool (by first | rfl | simp only [mulN_one, V.fz, fzL, V.up, upL, fzL_map, fz_slr, fz_at, slr, List.cons_append, List.nil_append] | simp [mulN_one, V.fz, fzL, V.up, upL, fzL_map, fz_slr, fz_at, slr]) h (fun r h => t_spec_l24Good h) (fun r1 h => ?_)
  conv => whnf
  cases h; exact (by first | rfl | simp [resV, mulN_one, V.fz, fzL, V.up, upL, fzL_map, fz_slr, fz_at, slr])

end Go.Proofs.Ythcnmahjhahafaa.Ax
