/-
  What the functions compute, as functions on plain data, and that the program does compute it; written by program.
-/
import Derived.Test.YtpfikenknmlajaaCode
import Derived.Test.YtpfikenknmlajaaG2
import Derived.Test.YtpfikenknmlajaaG3
import Derived.Test.YtpfikenknmlajaaG4
import Derived.Test.YtpfikenknmlajaaG5
namespace Go.Proofs.Ytpfikenknmlajaa.Ax
open Go
set_option maxRecDepth 100000
set_option maxHeartbeats 4000000

noncomputable def F_laws_FnExactFewestChains (aP0 : SPoset) : Option Bool :=
  (F_laws_szPoset (aP0) ((1048576 : Int))).bind fun r1 =>
  if r1 < (0 : Int) then
   some true
  else
   (F_laws_toPoset (aP0)).bind fun r3 =>
   (F_spec_FewestChains (r3)).bind fun r4 =>
   (F_laws_toPoset (aP0)).bind fun r5 =>
   (F_impl_FewestChains (r5)).bind fun r6 =>
   (((F_laws_eqIntSS (r6.fst) (r4.fst)).bind fun r7 =>
       if (r7) = true then
        if (r6.snd == r4.snd) = true then
         some (.inl ())
        else
         some (.inr ())
       else
        some (.inr ()) : Option (Unit ⊕ Unit))).bind fun t => match t with
   | (.inl _) => ((F_laws_toPoset (aP0)).bind fun r11 =>
     (F_laws_eqPoset (r5) (r11)).bind fun r12 =>
     if (r12) = true then
      (F_laws_markPoset (r5) ((1 : Int))).bind fun (r14, _u15) =>
      ((if r14 < (0 : Int) then
              some (.inl ())
             else
              (F_laws_eqIntSS (r6.fst) (r4.fst)).bind fun r17 =>
              if (r17) = true then
               if (r6.snd == r4.snd) = true then
                some (.inr ())
               else
                some (.inl ())
              else
               some (.inl ()) : Option (Unit ⊕ Unit))).bind fun t => match t with
      | (.inl _) => (some false)
      | (.inr _) => ((F_laws_markIntSS (r6.fst) ((1 : Int))).bind fun (r21, u22) =>
        (F_laws_heldIntSS (u22) ((1 : Int))).bind fun r23 =>
        if r23 < (0 : Int) then
         some false
        else
         if r23 ≠ r21 then
          some false
         else
          (F_laws_toPoset (aP0)).bind fun r26 =>
          (F_impl_FewestChains (r26)).bind fun r27 =>
          (((F_laws_eqIntSS (r27.fst) (r4.fst)).bind fun r28 =>
                     if (r28) = true then
                      if (r27.snd == r4.snd) = true then
                       some (.inl ())
                      else
                       some (.inr ())
                     else
                      some (.inr ()) : Option (Unit ⊕ Unit))).bind fun t => match t with
          | (.inl _) => ((F_laws_heldIntSS (u22) ((1 : Int))).bind fun r32 =>
            if r32 < (0 : Int) then
             some false
            else
             if r32 ≠ r21 then
              some false
             else
              some true)
          | (.inr _) => (some false))
     else
      some false)
   | (.inr _) => (some false)
theorem t_laws_FnExactFewestChains {aP0 : SPoset} {v : Bool} (h : F_laws_FnExactFewestChains aP0 = some v) : Ret Try.prog f_laws_FnExactFewestChains [(rS_Poset false) aP0] (V.bool v) := by
  refine ret_vc k_laws_FnExactFewestChains (Nat.le_of_ble_eq_true rfl) ?_
  unfold F_laws_FnExactFewestChains at h
  conv => whnf
  refine Cells.lit rfl rfl ?_
  conv => whnf
  refine CallQ.o vint (by first | rfl | simp only [mulN_one, V.fz, fzL, V.up, upL, fzL_map, fz_slr, fz_at, slr, List.cons_append, List.nil_append] | simp [mulN_one, V.fz, fzL, V.up, upL, fzL_map, fz_slr, fz_at, slr]) h (fun r h => t_laws_szPoset h) (fun r1 h => ?_)
  conv => whnf
  refine Br.od h (fun p2 h => ?_) (fun p2 h => ?_)
  · conv => whnf
    cases h; exact (by first | rfl | simp only [resV, mulN_one, V.fz, fzL, V.up, upL, fzL_map, fz_slr, fz_at, slr] | simp [resV, mulN_one, V.fz, fzL, V.up, upL, fzL_map, fz_slr, fz_at, slr])
  · conv => whnf
    refine Cells.lit rfl rfl ?_
    conv => whnf
    refine CallQ.o (rS_Poset true) (by first | rfl | simp only [mulN_one, V.fz, fzL, V.up, upL, fzL_map, fz_slr, fz_at, slr, List.cons_append, List.nil_append] | simp [mulN_one, V.fz, fzL, V.up, upL, fzL_map, fz_slr, fz_at, slr]) h (fun r h => t_laws_toPoset h) (fun r3 h => ?_)
    conv => whnf
    refine CallQ.rd (fun r => V.tup [(slr true 1 (slr true 1 vint)) r.1, V.bool r.2]) (by first | rfl | simp only [V.fz, fzL, fzL_map] | simp [mulN_one, V.fz, fzL, V.up, upL, fzL_map, fz_slr, fz_at, slr]) (fun _ => by simp [V.noFz, noFzL, noFzL_map]) h (fun r h => t_spec_FewestChains h) (fun r4 h => ?_)
    conv => whnf
    refine Cells.lit rfl rfl ?_
    conv => whnf
    refine CallQ.o (rS_Poset true) (by first | rfl | simp only [mulN_one, V.fz, fzL, V.up, upL, fzL_map, fz_slr, fz_at, slr, List.cons_append, List.nil_append] | simp [mulN_one, V.fz, fzL, V.up, upL, fzL_map, fz_slr, fz_at, slr]) h (fun r h => t_laws_toPoset h) (fun r5 h => ?_)
    conv => whnf
    refine SetKids.lit rfl ?_
    conv => whnf
    refine Cells.lit rfl rfl ?_
    conv => whnf
    refine CallQ.rd (fun r => V.tup [(slr true 1 (slr true 1 vint)) r.1, V.bool r.2]) (by first | rfl | simp only [V.fz, fzL_map] | simp [mulN_one, V.fz, fzL, V.up, upL, fzL_map, fz_slr, fz_at, slr]) (fun _ => by simp [V.noFz, noFzL, noFzL_map]) h (fun r h => t_impl_FewestChains h) (fun r6 h => ?_)
    conv => whnf
    refine CutQ.o (fun t : (Unit ⊕ Unit) => match t with | (.inl s) => (Ex.normal, [8, 7, 6, 5, 4, 1], [(8, A.val (V.bool (r6.snd))), (7, A.val ((slr true 1 (slr true 1 vint)) (r6.fst))), (6, A.val ((rP true (rS_Poset true)) (r5))), (5, A.val (V.bool (r4.snd))), (4, A.val ((slr true 1 (slr true 1 vint)) (r4.fst))), (1, A.val ((rP true (rS_Poset false)) (aP0)))]) | (.inr s) => (Ex.ret, [2], [(2, A.val (V.bool (false)))])) h ?_ ?_
    · intro t h
      conv => whnf
      refine CallQ.rd V.bool (by first | rfl | simp only [V.fz, fzL_map, slr] | simp [mulN_one, V.fz, fzL, V.up, upL, fzL_map, fz_slr, fz_at, slr]) (fun _ => rfl) h (fun r h => t_laws_eqIntSS h) (fun r7 h => ?_)
      conv => whnf
      refine Br.flip ?_
      conv => whnf
      refine Br.ob h (fun p8 h => ?_) (fun p8 h => ?_)
      · conv => whnf
        refine Br.no ?_
        conv => whnf
        refine Br.no ?_
        conv => whnf
        refine Br.no ?_
        conv => whnf
        refine Br.flip ?_
        conv => whnf
        refine Br.ob h (fun p9 h => ?_) (fun p9 h => ?_)
        · conv => whnf
          cases h; exact ⟨rfl, rfl⟩
        · conv => whnf
          cases h; exact ⟨rfl, rfl⟩
      · conv => whnf
        refine Br.yes ?_
        conv => whnf
        refine Br.yes ?_
        conv => whnf
        refine Br.yes ?_
        conv => whnf
        refine Br.yes ?_
        conv => whnf
        cases h; exact ⟨rfl, rfl⟩
    · rintro (⟨⟩ | ⟨⟩) h
      · try dsimp only at h
        conv => whnf
        refine Cells.lit rfl rfl ?_
        conv => whnf
        refine Cells.lit rfl rfl ?_
        conv => whnf
        refine CallP.o (rS_Poset true) (by first | rfl | simp only [mulN_one, V.fz, fzL, V.up, upL, fzL_map, fz_slr, fz_at, slr, List.cons_append, List.nil_append] | simp [mulN_one, V.fz, fzL, V.up, upL, fzL_map, fz_slr, fz_at, slr]) h (fun r h => t_laws_toPoset h) (fun r11 h => ?_)
        conv => whnf
        refine CallQ.rd V.bool (by first | rfl | simp only [V.fz, fzL, fzL_map] | simp [mulN_one, V.fz, fzL, V.up, upL, fzL_map, fz_slr, fz_at, slr]) (fun _ => rfl) h (fun r h => t_laws_eqPoset h) (fun r12 h => ?_)
        conv => whnf
        refine Br.flip ?_
        conv => whnf
        refine Br.ob h (fun p13 h => ?_) (fun p13 h => ?_)
        · conv => whnf
          refine Cells.lit rfl rfl ?_
          conv => whnf
          refine Kid.lit rfl rfl ?_
          conv => whnf
          refine LendQ.io vint (rS_Poset true) (fun s => [(slr true 1 (slr true 1 vint)) s.Below]) (fun s => (slr true 1 (slr true 1 vint)) s.Below) (by first | rfl | simp only [mulN_one, V.fz, fzL, V.up, upL, fzL_map, fz_slr, fz_at, slr, List.cons_append, List.nil_append] | simp [mulN_one, V.fz, fzL, V.up, upL, fzL_map, fz_slr, fz_at, slr]) (fun _ => rfl) (fun _ => rfl) rfl (fun _ => rfl) (fun _ => ⟨rfl, rfl⟩) rfl h (fun r h => t_laws_markPoset h) (fun r14 u15 h => ?_)
          conv => whnf
          refine Kid.lit rfl rfl ?_
          conv => whnf
          refine SetKids.lit rfl ?_
          conv => whnf
          refine CutQ.o (fun t : (Unit ⊕ Unit) => match t with | (.inl s) => (Ex.ret, [2], [(2, A.val (V.bool (false)))]) | (.inr s) => (Ex.normal, [7, 5, 4, 1], [(7, A.val ((slr true 1 (slr true 1 vint)) (r6.fst))), (5, A.val (V.bool (r4.snd))), (4, A.val ((slr true 1 (slr true 1 vint)) (r4.fst))), (1, A.val ((rP true (rS_Poset false)) (aP0)))])) h ?_ ?_
          · intro t h
            conv => whnf
            refine Br.od h (fun p16 h => ?_) (fun p16 h => ?_)
            · conv => whnf
              refine Br.yes ?_
              conv => whnf
              refine Br.yes ?_
              conv => whnf
              refine Br.yes ?_
              conv => whnf
              refine Br.yes ?_
              conv => whnf
              refine Br.yes ?_
              conv => whnf
              refine Br.yes ?_
              conv => whnf
              refine Br.yes ?_
              conv => whnf
              refine Br.yes ?_
              conv => whnf
              refine Br.yes ?_
              conv => whnf
              cases h; exact ⟨rfl, rfl⟩
            · conv => whnf
              refine Br.no ?_
              conv => whnf
              refine Br.no ?_
              conv => whnf
              refine CallQ.rd V.bool (by first | rfl | simp only [V.fz, fzL_map, slr] | simp [mulN_one, V.fz, fzL, V.up, upL, fzL_map, fz_slr, fz_at, slr]) (fun _ => rfl) h (fun r h => t_laws_eqIntSS h) (fun r17 h => ?_)
              conv => whnf
              refine Br.no ?_
              conv => whnf
              refine Br.no ?_
              conv => whnf
              refine Br.flip ?_
              conv => whnf
              refine Br.ob h (fun p18 h => ?_) (fun p18 h => ?_)
              · conv => whnf
                refine Br.no ?_
                conv => whnf
                refine Br.no ?_
                conv => whnf
                refine Br.no ?_
                conv => whnf
                refine Br.flip ?_
                conv => whnf
                refine Br.ob h (fun p19 h => ?_) (fun p19 h => ?_)
                · conv => whnf
                  cases h; exact ⟨rfl, rfl⟩
                · conv => whnf
                  cases h; exact ⟨rfl, rfl⟩
              · conv => whnf
                refine Br.yes ?_
                conv => whnf
                refine Br.yes ?_
                conv => whnf
                refine Br.yes ?_
                conv => whnf
                refine Br.yes ?_
                conv => whnf
                cases h; exact ⟨rfl, rfl⟩
          · rintro (⟨⟩ | ⟨⟩) h
            · try dsimp only at h
              conv => whnf
              cases h; exact (by first | rfl | simp only [resV, mulN_one, V.fz, fzL, V.up, upL, fzL_map, fz_slr, fz_at, slr] | simp [resV, mulN_one, V.fz, fzL, V.up, upL, fzL_map, fz_slr, fz_at, slr])
            · try dsimp only at h
              conv => whnf
              refine CallQ.io vint (slr true 1 (slr true 1 vint)) (by first | rfl | simp only [mulN_one, V.fz, fzL, V.up, upL, fzL_map, fz_slr, fz_at, slr, List.cons_append, List.nil_append] | simp [mulN_one, V.fz, fzL, V.up, upL, fzL_map, fz_slr, fz_at, slr]) rfl (fun _ => rfl) (fun _ => ⟨rfl, rfl⟩) rfl h (fun r h => t_laws_markIntSS h) (fun r21 u22 h => ?_)
              conv => whnf
              refine CallQ.rd vint (by first | rfl | simp only [V.fz, V.up, fzL_map, fz_at, slr] | simp [mulN_one, V.fz, fzL, V.up, upL, fzL_map, fz_slr, fz_at, slr]) (fun _ => rfl) h (fun r h => t_laws_heldIntSS h) (fun r23 h => ?_)
              conv => whnf
              refine Br.od h (fun p24 h => ?_) (fun p24 h => ?_)
              · conv => whnf
                cases h; exact (by first | rfl | simp only [resV, mulN_one, V.fz, fzL, V.up, upL, fzL_map, fz_slr, fz_at, slr] | simp [resV, mulN_one, V.fz, fzL, V.up, upL, fzL_map, fz_slr, fz_at, slr])
              · conv => whnf
                refine Br.on h (fun p25 h => ?_) (fun p25 h => ?_)
                · conv => whnf
                  cases h; exact (by first | rfl | simp only [resV, mulN_one, V.fz, fzL, V.up, upL, fzL_map, fz_slr, fz_at, slr] | simp [resV, mulN_one, V.fz, fzL, V.up, upL, fzL_map, fz_slr, fz_at, slr])
                · conv => whnf
                  refine Cells.lit rfl rfl ?_
                  conv => whnf
                  refine CallQ.o (rS_Poset true) (by first | rfl | simp only [mulN_one, V.fz, fzL, V.up, upL, fzL_map, fz_slr, fz_at, slr, List.cons_append, List.nil_append] | simp [mulN_one, V.fz, fzL, V.up, upL, fzL_map, fz_slr, fz_at, slr]) h (fun r h => t_laws_toPoset h) (fun r26 h => ?_)
                  conv => whnf
                  refine CallQ.rd (fun r => V.tup [(slr true 1 (slr true 1 vint)) r.1, V.bool r.2]) (by first | rfl | simp only [V.fz, fzL, fzL_map] | simp [mulN_one, V.fz, fzL, V.up, upL, fzL_map, fz_slr, fz_at, slr]) (fun _ => by simp [V.noFz, noFzL, noFzL_map]) h (fun r h => t_impl_FewestChains h) (fun r27 h => ?_)
                  conv => whnf
                  refine CutQ.o (fun t : (Unit ⊕ Unit) => match t with | (.inl s) => (Ex.normal, [10, 7], [(10, A.val (vint (r21))), (7, A.val ((slr true 1 (slr true 1 vint)) (u22)))]) | (.inr s) => (Ex.ret, [2], [(2, A.val (V.bool (false)))])) h ?_ ?_
                  · intro t h
                    conv => whnf
                    refine CallQ.rd V.bool (by first | rfl | simp only [V.fz, fzL_map, slr] | simp [mulN_one, V.fz, fzL, V.up, upL, fzL_map, fz_slr, fz_at, slr]) (fun _ => rfl) h (fun r h => t_laws_eqIntSS h) (fun r28 h => ?_)
                    conv => whnf
                    refine Br.flip ?_
                    conv => whnf
                    refine Br.ob h (fun p29 h => ?_) (fun p29 h => ?_)
                    · conv => whnf
                      refine Br.no ?_
                      conv => whnf
                      refine Br.no ?_
                      conv => whnf
                      refine Br.no ?_
                      conv => whnf
                      refine Br.flip ?_
                      conv => whnf
                      refine Br.ob h (fun p30 h => ?_) (fun p30 h => ?_)
                      · conv => whnf
                        cases h; exact ⟨rfl, rfl⟩
                      · conv => whnf
                        cases h; exact ⟨rfl, rfl⟩
                    · conv => whnf
                      refine Br.yes ?_
                      conv => whnf
                      refine Br.yes ?_
                      conv => whnf
                      refine Br.yes ?_
                      conv => whnf
                      refine Br.yes ?_
                      conv => whnf
                      cases h; exact ⟨rfl, rfl⟩
                  · rintro (⟨⟩ | ⟨⟩) h
                    · try dsimp only at h
                      conv => whnf
                      refine CallQ.rd vint (by first | rfl | simp only [V.fz, V.up, fzL_map, fz_at, slr] | simp [mulN_one, V.fz, fzL, V.up, upL, fzL_map, fz_slr, fz_at, slr]) (fun _ => rfl) h (fun r h => t_laws_heldIntSS h) (fun r32 h => ?_)
                      conv => whnf
                      refine Br.od h (fun p33 h => ?_) (fun p33 h => ?_)
                      · conv => whnf
                        cases h; exact (by first | rfl | simp only [resV, mulN_one, V.fz, fzL, V.up, upL, fzL_map, fz_slr, fz_at, slr] | simp [resV, mulN_one, V.fz, fzL, V.up, upL, fzL_map, fz_slr, fz_at, slr])
                      · conv => whnf
                        refine Br.on h (fun p34 h => ?_) (fun p34 h => ?_)
                        · conv => whnf
                          cases h; exact (by first | rfl | simp only [resV, mulN_one, V.fz, fzL, V.up, upL, fzL_map, fz_slr, fz_at, slr] | simp [resV, mulN_one, V.fz, fzL, V.up, upL, fzL_map, fz_slr, fz_at, slr])
                        · conv => whnf
                          cases h; exact (by first | rfl | simp only [resV, mulN_one, V.fz, fzL, V.up, upL, fzL_map, fz_slr, fz_at, slr] | simp [resV, mulN_one, V.fz, fzL, V.up, upL, fzL_map, fz_slr, fz_at, slr])
                    · try dsimp only at h
                      conv => whnf
                      cases h; exact (by first | rfl | simp only [resV, mulN_one, V.fz, fzL, V.up, upL, fzL_map, fz_slr, fz_at, slr] | simp [resV, mulN_one, V.fz, fzL, V.up, upL, fzL_map, fz_slr, fz_at, slr])
        · conv => whnf
          cases h; exact (by first | rfl | simp only [resV, mulN_one, V.fz, fzL, V.up, upL, fzL_map, fz_slr, fz_at, slr] | simp [resV, mulN_one, V.fz, fzL, V.up, upL, fzL_map, fz_slr, fz_at, slr])
      · try dsimp only at h
        conv => whnf
        cases h; exact (by first | rfl | simp only [resV, mulN_one, V.fz, fzL, V.up, upL, fzL_map, fz_slr, fz_at, slr] | simp [resV, mulN_one, V.fz, fzL, V.up, upL, fzL_map, fz_slr, fz_at, slr])

end Go.Proofs.Ytpfikenknmlajaa.Ax
