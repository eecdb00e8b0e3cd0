/-
  What the functions compute, as functions on plain data, and that the program does compute it; written by program.
-/
import Derived.Test.YtdodfnbbfkcgnaaCode
import Derived.Test.YtdodfnbbfkcgnaaG1
import Derived.Test.YtdodfnbbfkcgnaaG4
import Derived.Test.YtdodfnbbfkcgnaaG5
import Derived.Test.YtdodfnbbfkcgnaaG6
namespace Go.Proofs.Ytdodfnbbfkcgnaa.Ax
open Go
set_option maxRecDepth 100000
set_option maxHeartbeats 4000000

noncomputable def F_laws_FnExactInverseIso (aA0 : SAlgebra) (aB0 : SAlgebra) (aF0 : (List Int)) : Option Bool :=
  if (↑aF0.length : Int) > (1048576 : Int) then
   some true
  else
   (F_laws_szAlgebra (aA0) ((1048576 : Int))).bind fun r2 =>
   if r2 < (0 : Int) then
    some true
   else
    (F_laws_szAlgebra (aB0) (r2)).bind fun r4 =>
    if r4 < (0 : Int) then
     some true
    else
     (F_laws_toAlgebra (aA0)).bind fun r6 =>
     (F_laws_toAlgebra (aB0)).bind fun r7 =>
     (F_laws_toIntS (aF0)).bind fun r8 =>
     (F_spec_InverseIso (r6) (r7) (r8)).bind fun r9 =>
     (F_laws_toAlgebra (aA0)).bind fun r10 =>
     (F_laws_toAlgebra (aB0)).bind fun r11 =>
     (F_laws_toIntS (aF0)).bind fun r12 =>
     (F_impl_InverseIso (r10) (r11) (r12)).bind fun r13 =>
     (((F_laws_eqIntS (r13.fst) (r9.fst)).bind fun r14 =>
           if (r14) = true then
            if (r13.snd == r9.snd) = true then
             some (.inl ())
            else
             some (.inr ())
           else
            some (.inr ()) : Option (Unit ⊕ Unit))).bind fun t => match t with
     | (.inl _) => ((F_laws_toAlgebra (aA0)).bind fun r18 =>
       (F_laws_eqAlgebra (r10) (r18)).bind fun r19 =>
       if (r19) = true then
        (F_laws_toAlgebra (aB0)).bind fun r21 =>
        (F_laws_eqAlgebra (r11) (r21)).bind fun r22 =>
        if (r22) = true then
         (F_laws_toIntS (aF0)).bind fun r24 =>
         (F_laws_eqIntS (r12) (r24)).bind fun r25 =>
         if (r25) = true then
          (F_laws_markAlgebra (r10) ((1 : Int))).bind fun (r27, _u28) =>
          (F_laws_markAlgebra (r11) (r27)).bind fun (r29, _u30) =>
          (F_laws_markIntS (r12) (r29)).bind fun (r31, _u32) =>
          ((if r31 < (0 : Int) then
                      some (.inl ())
                     else
                      (F_laws_eqIntS (r13.fst) (r9.fst)).bind fun r34 =>
                      if (r34) = true then
                       if (r13.snd == r9.snd) = true then
                        some (.inr ())
                       else
                        some (.inl ())
                      else
                       some (.inl ()) : Option (Unit ⊕ Unit))).bind fun t => match t with
          | (.inl _) => (some false)
          | (.inr _) => ((F_laws_markIntS (r13.fst) ((1 : Int))).bind fun (r38, u39) =>
            (F_laws_heldIntS (u39) ((1 : Int))).bind fun r40 =>
            if r40 < (0 : Int) then
             some false
            else
             if r40 ≠ r38 then
              some false
             else
              (F_laws_toAlgebra (aA0)).bind fun r43 =>
              (F_laws_toAlgebra (aB0)).bind fun r44 =>
              (F_laws_toIntS (aF0)).bind fun r45 =>
              (F_impl_InverseIso (r43) (r44) (r45)).bind fun r46 =>
              (((F_laws_eqIntS (r46.fst) (r9.fst)).bind fun r47 =>
                             if (r47) = true then
                              if (r46.snd == r9.snd) = true then
                               some (.inl ())
                              else
                               some (.inr ())
                             else
                              some (.inr ()) : Option (Unit ⊕ Unit))).bind fun t => match t with
              | (.inl _) => ((F_laws_heldIntS (u39) ((1 : Int))).bind fun r51 =>
                if r51 < (0 : Int) then
                 some false
                else
                 if r51 ≠ r38 then
                  some false
                 else
                  some true)
              | (.inr _) => (some false))
         else
          some false
        else
         some false
       else
        some false)
     | (.inr _) => (some false)
theorem t_laws_FnExactInverseIso {aA0 : SAlgebra} {aB0 : SAlgebra} {aF0 : (List Int)} {v : Bool} (h : F_laws_FnExactInverseIso aA0 aB0 aF0 = some v) : Ret Try.prog f_laws_FnExactInverseIso [(rS_Algebra false) aA0, (rS_Algebra false) aB0, (slr false 1 vint) aF0] (V.bool v) := by
  refine ret_vc k_laws_FnExactInverseIso (Nat.le_of_ble_eq_true rfl) ?_
  unfold F_laws_FnExactInverseIso at h
  conv => whnf
  refine Len.map ?_
  conv => whnf
  refine Br.od h (fun p1 h => ?_) (fun p1 h => ?_)
  · conv => whnf
    cases h; exact (by first | rfl | simp only [resV, mulN_one, V.fz, fzL, V.up, upL, fzL_map, fz_slr, fz_at, slr] | simp [resV, mulN_one, V.fz, fzL, V.up, upL, fzL_map, fz_slr, fz_at, slr])
  · conv => whnf
    refine Cells.lit rfl rfl ?_
    conv => whnf
    refine CallQ.o vint (by first | rfl | simp only [mulN_one, V.fz, fzL, V.up, upL, fzL_map, fz_slr, fz_at, slr, List.cons_append, List.nil_append] | simp [mulN_one, V.fz, fzL, V.up, upL, fzL_map, fz_slr, fz_at, slr]) h (fun r h => t_laws_szAlgebra h) (fun r2 h => ?_)
    conv => whnf
    refine Br.od h (fun p3 h => ?_) (fun p3 h => ?_)
    · conv => whnf
      cases h; exact (by first | rfl | simp only [resV, mulN_one, V.fz, fzL, V.up, upL, fzL_map, fz_slr, fz_at, slr] | simp [resV, mulN_one, V.fz, fzL, V.up, upL, fzL_map, fz_slr, fz_at, slr])
    · conv => whnf
      refine Cells.lit rfl rfl ?_
      conv => whnf
      refine CallQ.o vint (by first | rfl | simp only [mulN_one, V.fz, fzL, V.up, upL, fzL_map, fz_slr, fz_at, slr, List.cons_append, List.nil_append] | simp [mulN_one, V.fz, fzL, V.up, upL, fzL_map, fz_slr, fz_at, slr]) h (fun r h => t_laws_szAlgebra h) (fun r4 h => ?_)
      conv => whnf
      refine Br.od h (fun p5 h => ?_) (fun p5 h => ?_)
      · conv => whnf
        cases h; exact (by first | rfl | simp only [resV, mulN_one, V.fz, fzL, V.up, upL, fzL_map, fz_slr, fz_at, slr] | simp [resV, mulN_one, V.fz, fzL, V.up, upL, fzL_map, fz_slr, fz_at, slr])
      · conv => whnf
        refine Cells.lit rfl rfl ?_
        conv => whnf
        refine CallP.o (rS_Algebra true) (by first | rfl | simp only [mulN_one, V.fz, fzL, V.up, upL, fzL_map, fz_slr, fz_at, slr, List.cons_append, List.nil_append] | simp [mulN_one, V.fz, fzL, V.up, upL, fzL_map, fz_slr, fz_at, slr]) h (fun r h => t_laws_toAlgebra h) (fun r6 h => ?_)
        conv => whnf
        refine Cells.lit rfl rfl ?_
        conv => whnf
        refine CallP.o (rS_Algebra true) (by first | rfl | simp only [mulN_one, V.fz, fzL, V.up, upL, fzL_map, fz_slr, fz_at, slr, List.cons_append, List.nil_append] | simp [mulN_one, V.fz, fzL, V.up, upL, fzL_map, fz_slr, fz_at, slr]) h (fun r h => t_laws_toAlgebra h) (fun r7 h => ?_)
        conv => whnf
        refine CallP.o (slr true 1 vint) (by first | rfl | simp only [mulN_one, V.fz, fzL, V.up, upL, fzL_map, fz_slr, fz_at, slr, List.cons_append, List.nil_append] | simp [mulN_one, V.fz, fzL, V.up, upL, fzL_map, fz_slr, fz_at, slr]) h (fun r h => t_laws_toIntS h) (fun r8 h => ?_)
        conv => whnf
        refine CallP.rd (fun r => V.tup [(slr true 1 vint) r.1, V.bool r.2]) (by first | rfl | simp only [V.fz, fzL, fzL_map, slr] | simp [mulN_one, V.fz, fzL, V.up, upL, fzL_map, fz_slr, fz_at, slr]) (fun _ => by simp [V.noFz, noFzL, noFzL_map]) h (fun r h => t_spec_InverseIso h) (fun r9 h => ?_)
        conv => whnf
        refine Cells.lit rfl rfl ?_
        conv => whnf
        refine CallQ.o (rS_Algebra true) (by first | rfl | simp only [mulN_one, V.fz, fzL, V.up, upL, fzL_map, fz_slr, fz_at, slr, List.cons_append, List.nil_append] | simp [mulN_one, V.fz, fzL, V.up, upL, fzL_map, fz_slr, fz_at, slr]) h (fun r h => t_laws_toAlgebra h) (fun r10 h => ?_)
        conv => whnf
        refine SetKids.lit rfl ?_
        conv => whnf
        refine Cells.lit rfl rfl ?_
        conv => whnf
        refine CallQ.o (rS_Algebra true) (by first | rfl | simp only [mulN_one, V.fz, fzL, V.up, upL, fzL_map, fz_slr, fz_at, slr, List.cons_append, List.nil_append] | simp [mulN_one, V.fz, fzL, V.up, upL, fzL_map, fz_slr, fz_at, slr]) h (fun r h => t_laws_toAlgebra h) (fun r11 h => ?_)
        conv => whnf
        refine SetKids.lit rfl ?_
        conv => whnf
        refine CallQ.o (slr true 1 vint) (by first | rfl | simp only [mulN_one, V.fz, fzL, V.up, upL, fzL_map, fz_slr, fz_at, slr, List.cons_append, List.nil_append] | simp [mulN_one, V.fz, fzL, V.up, upL, fzL_map, fz_slr, fz_at, slr]) h (fun r h => t_laws_toIntS h) (fun r12 h => ?_)
        conv => whnf
        refine Cells.lit rfl rfl ?_
        conv => whnf
        refine Cells.lit rfl rfl ?_
        conv => whnf
        refine CallQ.rd (fun r => V.tup [(slr true 1 vint) r.1, V.bool r.2]) (by first | rfl | simp only [V.fz, fzL_map, slr] | simp [mulN_one, V.fz, fzL, V.up, upL, fzL_map, fz_slr, fz_at, slr]) (fun _ => by simp [V.noFz, noFzL, noFzL_map]) h (fun r h => t_impl_InverseIso h) (fun r13 h => ?_)
        conv => whnf
        refine CutQ.o (fun t : (Unit ⊕ Unit) => match t with | (.inl s) => (Ex.normal, [14, 13, 12, 11, 10, 9, 8, 4, 3, 2], [(14, A.val (V.bool (r13.snd))), (13, A.val ((slr true 1 vint) (r13.fst))), (12, A.val ((slr true 1 vint) (r12))), (11, A.val ((rP true (rS_Algebra true)) (r11))), (10, A.val ((rP true (rS_Algebra true)) (r10))), (9, A.val (V.bool (r9.snd))), (8, A.val ((slr true 1 vint) (r9.fst))), (4, A.val ((rP true (rS_Algebra false)) (aB0))), (3, A.val ((rP true (rS_Algebra false)) (aA0))), (2, A.val ((slr false 1 vint) (aF0)))]) | (.inr s) => (Ex.ret, [6], [(6, A.val (V.bool (false)))])) h ?_ ?_
        · intro t h
          conv => whnf
          refine CallQ.rd V.bool (by first | rfl | simp only [V.fz, fzL_map, slr] | simp [mulN_one, V.fz, fzL, V.up, upL, fzL_map, fz_slr, fz_at, slr]) (fun _ => rfl) h (fun r h => t_laws_eqIntS h) (fun r14 h => ?_)
          conv => whnf
          refine Br.flip ?_
          conv => whnf
          refine Br.ob h (fun p15 h => ?_) (fun p15 h => ?_)
          · conv => whnf
            refine Br.no ?_
            conv => whnf
            refine Br.no ?_
            conv => whnf
            refine Br.no ?_
            conv => whnf
            refine Br.flip ?_
            conv => whnf
            refine Br.ob h (fun p16 h => ?_) (fun p16 h => ?_)
            · conv => whnf
              cases h; exact ⟨rfl, rfl⟩
            · conv => whnf
              cases h; exact ⟨rfl, rfl⟩
          · conv => whnf
            refine Br.yes ?_
            conv => whnf
            refine Br.yes ?_
            conv => whnf
            refine Br.yes ?_
            conv => whnf
            refine Br.yes ?_
            conv => whnf
            cases h; exact ⟨rfl, rfl⟩
        · rintro (⟨⟩ | ⟨⟩) h
          · try dsimp only at h
            conv => whnf
            refine Cells.lit rfl rfl ?_
            conv => whnf
            refine Cells.lit rfl rfl ?_
            conv => whnf
            refine CallP.o (rS_Algebra true) (by first | rfl | simp only [mulN_one, V.fz, fzL, V.up, upL, fzL_map, fz_slr, fz_at, slr, List.cons_append, List.nil_append] | simp [mulN_one, V.fz, fzL, V.up, upL, fzL_map, fz_slr, fz_at, slr]) h (fun r h => t_laws_toAlgebra h) (fun r18 h => ?_)
            conv => whnf
            refine CallQ.rd V.bool (by first | rfl | simp only [V.fz, fzL, fzL_map] | simp [mulN_one, V.fz, fzL, V.up, upL, fzL_map, fz_slr, fz_at, slr]) (fun _ => rfl) h (fun r h => t_laws_eqAlgebra h) (fun r19 h => ?_)
            conv => whnf
            refine Br.flip ?_
            conv => whnf
            refine Br.ob h (fun p20 h => ?_) (fun p20 h => ?_)
            · conv => whnf
              refine Cells.lit rfl rfl ?_
              conv => whnf
              refine Cells.lit rfl rfl ?_
              conv => whnf
              refine CallP.o (rS_Algebra true) (by first | rfl | simp only [mulN_one, V.fz, fzL, V.up, upL, fzL_map, fz_slr, fz_at, slr, List.cons_append, List.nil_append] | simp [mulN_one, V.fz, fzL, V.up, upL, fzL_map, fz_slr, fz_at, slr]) h (fun r h => t_laws_toAlgebra h) (fun r21 h => ?_)
              conv => whnf
              refine CallQ.rd V.bool (by first | rfl | simp only [V.fz, fzL, fzL_map] | simp [mulN_one, V.fz, fzL, V.up, upL, fzL_map, fz_slr, fz_at, slr]) (fun _ => rfl) h (fun r h => t_laws_eqAlgebra h) (fun r22 h => ?_)
              conv => whnf
              refine Br.flip ?_
              conv => whnf
              refine Br.ob h (fun p23 h => ?_) (fun p23 h => ?_)
              · conv => whnf
                refine CallQ.o (slr true 1 vint) (by first | rfl | simp only [mulN_one, V.fz, fzL, V.up, upL, fzL_map, fz_slr, fz_at, slr, List.cons_append, List.nil_append] | simp [mulN_one, V.fz, fzL, V.up, upL, fzL_map, fz_slr, fz_at, slr]) h (fun r h => t_laws_toIntS h) (fun r24 h => ?_)
                conv => whnf
                refine CallQ.rd V.bool (by first | rfl | simp only [V.fz, fzL_map, slr] | simp [mulN_one, V.fz, fzL, V.up, upL, fzL_map, fz_slr, fz_at, slr]) (fun _ => rfl) h (fun r h => t_laws_eqIntS h) (fun r25 h => ?_)
                conv => whnf
                refine Br.flip ?_
                conv => whnf
                refine Br.ob h (fun p26 h => ?_) (fun p26 h => ?_)
                · conv => whnf
                  refine Cells.lit rfl rfl ?_
                  conv => whnf
                  refine Kid.lit rfl rfl ?_
                  conv => whnf
                  refine LendQ.io vint (rS_Algebra true) (fun s => [vint s.Size, (slr true 2 (rS_Op true)) s.Ops]) (fun s => (slr true 2 (rS_Op true)) s.Ops) (by first | rfl | simp only [mulN_one, V.fz, fzL, V.up, upL, fzL_map, fz_slr, fz_at, slr, List.cons_append, List.nil_append] | simp [mulN_one, V.fz, fzL, V.up, upL, fzL_map, fz_slr, fz_at, slr]) (fun _ => rfl) (fun _ => rfl) rfl (fun _ => rfl) (fun _ => ⟨rfl, rfl⟩) rfl h (fun r h => t_laws_markAlgebra h) (fun r27 u28 h => ?_)
                  conv => whnf
                  refine Kid.lit rfl rfl ?_
                  conv => whnf
                  refine SetKids.lit rfl ?_
                  conv => whnf
                  refine Cells.lit rfl rfl ?_
                  conv => whnf
                  refine Kid.lit rfl rfl ?_
                  conv => whnf
                  refine LendQ.io vint (rS_Algebra true) (fun s => [vint s.Size, (slr true 2 (rS_Op true)) s.Ops]) (fun s => (slr true 2 (rS_Op true)) s.Ops) (by first | rfl | simp only [mulN_one, V.fz, fzL, V.up, upL, fzL_map, fz_slr, fz_at, slr, List.cons_append, List.nil_append] | simp [mulN_one, V.fz, fzL, V.up, upL, fzL_map, fz_slr, fz_at, slr]) (fun _ => rfl) (fun _ => rfl) rfl (fun _ => rfl) (fun _ => ⟨rfl, rfl⟩) rfl h (fun r h => t_laws_markAlgebra h) (fun r29 u30 h => ?_)
                  conv => whnf
                  refine Kid.lit rfl rfl ?_
                  conv => whnf
                  refine SetKids.lit rfl ?_
                  conv => whnf
                  refine CallQ.io vint (slr true 1 vint) (by first | rfl | simp only [mulN_one, V.fz, fzL, V.up, upL, fzL_map, fz_slr, fz_at, slr, List.cons_append, List.nil_append] | simp [mulN_one, V.fz, fzL, V.up, upL, fzL_map, fz_slr, fz_at, slr]) rfl (fun _ => rfl) (fun _ => ⟨rfl, rfl⟩) rfl h (fun r h => t_laws_markIntS h) (fun r31 u32 h => ?_)
                  conv => whnf
                  refine CutQ.o (fun t : (Unit ⊕ Unit) => match t with | (.inl s) => (Ex.ret, [6], [(6, A.val (V.bool (false)))]) | (.inr s) => (Ex.normal, [13, 9, 8, 4, 3, 2], [(13, A.val ((slr true 1 vint) (r13.fst))), (9, A.val (V.bool (r9.snd))), (8, A.val ((slr true 1 vint) (r9.fst))), (4, A.val ((rP true (rS_Algebra false)) (aB0))), (3, A.val ((rP true (rS_Algebra false)) (aA0))), (2, A.val ((slr false 1 vint) (aF0)))])) h ?_ ?_
                  · intro t h
                    conv => whnf
                    refine Br.od h (fun p33 h => ?_) (fun p33 h => ?_)
                    · conv => whnf
                      refine Br.yes ?_
                      conv => whnf
                      refine Br.yes ?_
                      conv => whnf
                      refine Br.yes ?_
                      conv => whnf
                      refine Br.yes ?_
                      conv => whnf
                      refine Br.yes ?_
                      conv => whnf
                      refine Br.yes ?_
                      conv => whnf
                      refine Br.yes ?_
                      conv => whnf
                      refine Br.yes ?_
                      conv => whnf
                      refine Br.yes ?_
                      conv => whnf
                      cases h; exact ⟨rfl, rfl⟩
                    · conv => whnf
                      refine Br.no ?_
                      conv => whnf
                      refine Br.no ?_
                      conv => whnf
                      refine CallQ.rd V.bool (by first | rfl | simp only [V.fz, fzL_map, slr] | simp [mulN_one, V.fz, fzL, V.up, upL, fzL_map, fz_slr, fz_at, slr]) (fun _ => rfl) h (fun r h => t_laws_eqIntS h) (fun r34 h => ?_)
                      conv => whnf
                      refine Br.no ?_
                      conv => whnf
                      refine Br.no ?_
                      conv => whnf
                      refine Br.flip ?_
                      conv => whnf
                      refine Br.ob h (fun p35 h => ?_) (fun p35 h => ?_)
                      · conv => whnf
                        refine Br.no ?_
                        conv => whnf
                        refine Br.no ?_
                        conv => whnf
                        refine Br.no ?_
                        conv => whnf
                        refine Br.flip ?_
                        conv => whnf
                        refine Br.ob h (fun p36 h => ?_) (fun p36 h => ?_)
                        · conv => whnf
                          cases h; exact ⟨rfl, rfl⟩
                        · conv => whnf
                          cases h; exact ⟨rfl, rfl⟩
                      · conv => whnf
                        refine Br.yes ?_
                        conv => whnf
                        refine Br.yes ?_
                        conv => whnf
                        refine Br.yes ?_
                        conv => whnf
                        refine Br.yes ?_
                        conv => whnf
                        cases h; exact ⟨rfl, rfl⟩
                  · rintro (⟨⟩ | ⟨⟩) h
                    · try dsimp only at h
                      conv => whnf
                      cases h; exact (by first | rfl | simp only [resV, mulN_one, V.fz, fzL, V.up, upL, fzL_map, fz_slr, fz_at, slr] | simp [resV, mulN_one, V.fz, fzL, V.up, upL, fzL_map, fz_slr, fz_at, slr])
                    · try dsimp only at h
                      conv => whnf
                      refine CallQ.io vint (slr true 1 vint) (by first | rfl | simp only [mulN_one, V.fz, fzL, V.up, upL, fzL_map, fz_slr, fz_at, slr, List.cons_append, List.nil_append] | simp [mulN_one, V.fz, fzL, V.up, upL, fzL_map, fz_slr, fz_at, slr]) rfl (fun _ => rfl) (fun _ => ⟨rfl, rfl⟩) rfl h (fun r h => t_laws_markIntS h) (fun r38 u39 h => ?_)
                      conv => whnf
                      refine CallQ.rd vint (by first | rfl | simp only [V.fz, V.up, fzL_map, fz_at, slr] | simp [mulN_one, V.fz, fzL, V.up, upL, fzL_map, fz_slr, fz_at, slr]) (fun _ => rfl) h (fun r h => t_laws_heldIntS h) (fun r40 h => ?_)
                      conv => whnf
                      refine Br.od h (fun p41 h => ?_) (fun p41 h => ?_)
                      · conv => whnf
                        cases h; exact (by first | rfl | simp only [resV, mulN_one, V.fz, fzL, V.up, upL, fzL_map, fz_slr, fz_at, slr] | simp [resV, mulN_one, V.fz, fzL, V.up, upL, fzL_map, fz_slr, fz_at, slr])
                      · conv => whnf
                        refine Br.on h (fun p42 h => ?_) (fun p42 h => ?_)
                        · conv => whnf
                          cases h; exact (by first | rfl | simp only [resV, mulN_one, V.fz, fzL, V.up, upL, fzL_map, fz_slr, fz_at, slr] | simp [resV, mulN_one, V.fz, fzL, V.up, upL, fzL_map, fz_slr, fz_at, slr])
                        · conv => whnf
                          refine Cells.lit rfl rfl ?_
                          conv => whnf
                          refine CallP.o (rS_Algebra true) (by first | rfl | simp only [mulN_one, V.fz, fzL, V.up, upL, fzL_map, fz_slr, fz_at, slr, List.cons_append, List.nil_append] | simp [mulN_one, V.fz, fzL, V.up, upL, fzL_map, fz_slr, fz_at, slr]) h (fun r h => t_laws_toAlgebra h) (fun r43 h => ?_)
                          conv => whnf
                          refine Cells.lit rfl rfl ?_
                          conv => whnf
                          refine CallP.o (rS_Algebra true) (by first | rfl | simp only [mulN_one, V.fz, fzL, V.up, upL, fzL_map, fz_slr, fz_at, slr, List.cons_append, List.nil_append] | simp [mulN_one, V.fz, fzL, V.up, upL, fzL_map, fz_slr, fz_at, slr]) h (fun r h => t_laws_toAlgebra h) (fun r44 h => ?_)
                          conv => whnf
                          refine CallP.o (slr true 1 vint) (by first | rfl | simp only [mulN_one, V.fz, fzL, V.up, upL, fzL_map, fz_slr, fz_at, slr, List.cons_append, List.nil_append] | simp [mulN_one, V.fz, fzL, V.up, upL, fzL_map, fz_slr, fz_at, slr]) h (fun r h => t_laws_toIntS h) (fun r45 h => ?_)
                          conv => whnf
                          refine CallP.rd (fun r => V.tup [(slr true 1 vint) r.1, V.bool r.2]) (by first | rfl | simp only [V.fz, fzL, fzL_map, slr] | simp [mulN_one, V.fz, fzL, V.up, upL, fzL_map, fz_slr, fz_at, slr]) (fun _ => by simp [V.noFz, noFzL, noFzL_map]) h (fun r h => t_impl_InverseIso h) (fun r46 h => ?_)
                          conv => whnf
                          refine CutQ.o (fun t : (Unit ⊕ Unit) => match t with | (.inl s) => (Ex.normal, [16, 13], [(16, A.val (vint (r38))), (13, A.val ((slr true 1 vint) (u39)))]) | (.inr s) => (Ex.ret, [6], [(6, A.val (V.bool (false)))])) h ?_ ?_
                          · intro t h
                            conv => whnf
                            refine CallQ.rd V.bool (by first | rfl | simp only [V.fz, fzL_map, slr] | simp [mulN_one, V.fz, fzL, V.up, upL, fzL_map, fz_slr, fz_at, slr]) (fun _ => rfl) h (fun r h => t_laws_eqIntS h) (fun r47 h => ?_)
                            conv => whnf
                            refine Br.flip ?_
                            conv => whnf
                            refine Br.ob h (fun p48 h => ?_) (fun p48 h => ?_)
                            · conv => whnf
                              refine Br.no ?_
                              conv => whnf
                              refine Br.no ?_
                              conv => whnf
                              refine Br.no ?_
                              conv => whnf
                              refine Br.flip ?_
                              conv => whnf
                              refine Br.ob h (fun p49 h => ?_) (fun p49 h => ?_)
                              · conv => whnf
                                cases h; exact ⟨rfl, rfl⟩
                              · conv => whnf
                                cases h; exact ⟨rfl, rfl⟩
                            · conv => whnf
                              refine Br.yes ?_
                              conv => whnf
                              refine Br.yes ?_
                              conv => whnf
                              refine Br.yes ?_
                              conv => whnf
                              refine Br.yes ?_
                              conv => whnf
                              cases h; exact ⟨rfl, rfl⟩
                          · rintro (⟨⟩ | ⟨⟩) h
                            · try dsimp only at h
                              conv => whnf
                              refine CallQ.rd vint (by first | rfl | simp only [V.fz, V.up, fzL_map, fz_at, slr] | simp [mulN_one, V.fz, fzL, V.up, upL, fzL_map, fz_slr, fz_at, slr]) (fun _ => rfl) h (fun r h => t_laws_heldIntS h) (fun r51 h => ?_)
                              conv => whnf
                              refine Br.od h (fun p52 h => ?_) (fun p52 h => ?_)
                              · conv => whnf
                                cases h; exact (by first | rfl | simp only [resV, mulN_one, V.fz, fzL, V.up, upL, fzL_map, fz_slr, fz_at, slr] | simp [resV, mulN_one, V.fz, fzL, V.up, upL, fzL_map, fz_slr, fz_at, slr])
                              · conv => whnf
                                refine Br.on h (fun p53 h => ?_) (fun p53 h => ?_)
                                · conv => whnf
                                  cases h; exact (by first | rfl | simp only [resV, mulN_one, V.fz, fzL, V.up, upL, fzL_map, fz_slr, fz_at, slr] | simp [resV, mulN_one, V.fz, fzL, V.up, upL, fzL_map, fz_slr, fz_at, slr])
                                · conv => whnf
                                  cases h; exact (by first | rfl | simp only [resV, mulN_one, V.fz, fzL, V.up, upL, fzL_map, fz_slr, fz_at, slr] | simp [resV, mulN_one, V.fz, fzL, V.up, upL, fzL_map, fz_slr, fz_at, slr])
                            · try dsimp only at h
                              conv => whnf
                              cases h; exact (by first | rfl | simp only [resV, mulN_one, V.fz, fzL, V.up, upL, fzL_map, fz_slr, fz_at, slr] | simp [resV, mulN_one, V.fz, fzL, V.up, upL, fzL_map, fz_slr, fz_at, slr])
                · conv => whnf
                  cases h; exact (by first | rfl | simp only [resV, mulN_one, V.fz, fzL, V.up, upL, fzL_map, fz_slr, fz_at, slr] | simp [resV, mulN_one, V.fz, fzL, V.up, upL, fzL_map, fz_slr, fz_at, slr])
              · conv => whnf
                cases h; exact (by first | rfl | simp only [resV, mulN_one, V.fz, fzL, V.up, upL, fzL_map, fz_slr, fz_at, slr] | simp [resV, mulN_one, V.fz, fzL, V.up, upL, fzL_map, fz_slr, fz_at, slr])
            · conv => whnf
              cases h; exact (by first | rfl | simp only [resV, mulN_one, V.fz, fzL, V.up, upL, fzL_map, fz_slr, fz_at, slr] | simp [resV, mulN_one, V.fz, fzL, V.up, upL, fzL_map, fz_slr, fz_at, slr])
          · try dsimp only at h
            conv => whnf
            cases h; exact (by first | rfl | simp only [resV, mulN_one, V.fz, fzL, V.up, upL, fzL_map, fz_slr, fz_at, slr] | simp [resV, mulN_one, V.fz, fzL, V.up, upL, fzL_map, fz_slr, fz_at, slr])

end Go.Proofs.Ytdodfnbbfkcgnaa.Ax
