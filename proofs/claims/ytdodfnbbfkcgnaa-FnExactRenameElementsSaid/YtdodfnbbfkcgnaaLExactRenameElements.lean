/-
  What the functions compute, as functions on plain data, and that the program does compute it; written by program.
-/
import Derived.Test.YtdodfnbbfkcgnaaCode
import Derived.Test.YtdodfnbbfkcgnaaG1
import Derived.Test.YtdodfnbbfkcgnaaG4
import Derived.Test.YtdodfnbbfkcgnaaG5
namespace Go.Proofs.Ytdodfnbbfkcgnaa.Ax
open Go
set_option maxRecDepth 100000
set_option maxHeartbeats 4000000

noncomputable def F_laws_FnExactRenameElements (aA0 : SAlgebra) (aNames0 : (List Int)) : Option Bool :=
  if (↑aNames0.length : Int) > (1048576 : Int) then
   some true
  else
   (F_laws_szAlgebra (aA0) ((1048576 : Int))).bind fun r2 =>
   if r2 < (0 : Int) then
    some true
   else
    (F_laws_toAlgebra (aA0)).bind fun r4 =>
    (F_laws_toIntS (aNames0)).bind fun r5 =>
    (F_spec_RenameElements (r4) (r5)).bind fun r6 =>
    (F_laws_toAlgebra (aA0)).bind fun r7 =>
    (F_laws_toIntS (aNames0)).bind fun r8 =>
    (F_impl_RenameElements (r7) (r8)).bind fun r9 =>
    (((F_laws_eqAlgebra (r9.fst) (r6.fst)).bind fun r10 =>
         if (r10) = true then
          if (r9.snd == r6.snd) = true then
           some (.inl ())
          else
           some (.inr ())
         else
          some (.inr ()) : Option (Unit ⊕ Unit))).bind fun t => match t with
    | (.inl _) => ((F_laws_toAlgebra (aA0)).bind fun r14 =>
      (F_laws_eqAlgebra (r7) (r14)).bind fun r15 =>
      if (r15) = true then
       (F_laws_toIntS (aNames0)).bind fun r17 =>
       (F_laws_eqIntS (r8) (r17)).bind fun r18 =>
       if (r18) = true then
        (F_laws_markAlgebra (r7) ((1 : Int))).bind fun (r20, _u21) =>
        (F_laws_markIntS (r8) (r20)).bind fun (r22, _u23) =>
        ((if r22 < (0 : Int) then
                  some (.inl ())
                 else
                  (F_laws_eqAlgebra (r9.fst) (r6.fst)).bind fun r25 =>
                  if (r25) = true then
                   if (r9.snd == r6.snd) = true then
                    some (.inr ())
                   else
                    some (.inl ())
                  else
                   some (.inl ()) : Option (Unit ⊕ Unit))).bind fun t => match t with
        | (.inl _) => (some false)
        | (.inr _) => ((F_laws_markAlgebra (r9.fst) ((1 : Int))).bind fun (r29, u30) =>
          (F_laws_heldAlgebra ({ Size := r9.fst.Size, Ops := u30.Ops }) ((1 : Int))).bind fun r31 =>
          if r31 < (0 : Int) then
           some false
          else
           if r31 ≠ r29 then
            some false
           else
            (F_laws_toAlgebra (aA0)).bind fun r34 =>
            (F_laws_toIntS (aNames0)).bind fun r35 =>
            (F_impl_RenameElements (r34) (r35)).bind fun r36 =>
            (((F_laws_eqAlgebra (r36.fst) (r6.fst)).bind fun r37 =>
                         if (r37) = true then
                          if (r36.snd == r6.snd) = true then
                           some (.inl ())
                          else
                           some (.inr ())
                         else
                          some (.inr ()) : Option (Unit ⊕ Unit))).bind fun t => match t with
            | (.inl _) => ((F_laws_heldAlgebra ({ Size := r9.fst.Size, Ops := u30.Ops }) ((1 : Int))).bind fun r41 =>
              if r41 < (0 : Int) then
               some false
              else
               if r41 ≠ r29 then
                some false
               else
                some true)
            | (.inr _) => (some false))
       else
        some false
      else
       some false)
    | (.inr _) => (some false)
theorem t_laws_FnExactRenameElements {aA0 : SAlgebra} {aNames0 : (List Int)} {v : Bool} (h : F_laws_FnExactRenameElements aA0 aNames0 = some v) : Ret Try.prog f_laws_FnExactRenameElements [(rS_Algebra false) aA0, (slr false 1 vint) aNames0] (V.bool v) := by
  refine ret_vc k_laws_FnExactRenameElements (Nat.le_of_ble_eq_true rfl) ?_
  unfold F_laws_FnExactRenameElements at h
  conv => whnf
  refine Len.map ?_
  conv => whnf
  refine Br.od h (fun p1 h => ?_) (fun p1 h => ?_)
  · conv => whnf
    cases h; exact (by first | rfl | simp only [resV, mulN_one, V.fz, fzL, V.up, upL, fzL_map, fz_slr, fz_at, slr] | simp [resV, mulN_one, V.fz, fzL, V.up, upL, fzL_map, fz_slr, fz_at, slr])
  · conv => whnf
    refine Cells.lit rfl rfl ?_
    conv => whnf
    refine CallQ.o vint (by first | rfl | simp only [mulN_one, V.fz, fzL, V.up, upL, fzL_map, fz_slr, fz_at, slr, List.cons_append, List.nil_append] | simp [mulN_one, V.fz, fzL, V.up, upL, fzL_map, fz_slr, fz_at, slr]) h (fun r h => t_laws_szAlgebra h) (fun r2 h => ?_)
    conv => whnf
    refine Br.od h (fun p3 h => ?_) (fun p3 h => ?_)
    · conv => whnf
      cases h; exact (by first | rfl | simp only [resV, mulN_one, V.fz, fzL, V.up, upL, fzL_map, fz_slr, fz_at, slr] | simp [resV, mulN_one, V.fz, fzL, V.up, upL, fzL_map, fz_slr, fz_at, slr])
    · conv => whnf
      refine Cells.lit rfl rfl ?_
      conv => whnf
      refine CallQ.o (rS_Algebra true) (by first | rfl | simp only [mulN_one, V.fz, fzL, V.up, upL, fzL_map, fz_slr, fz_at, slr, List.cons_append, List.nil_append] | simp [mulN_one, V.fz, fzL, V.up, upL, fzL_map, fz_slr, fz_at, slr]) h (fun r h => t_laws_toAlgebra h) (fun r4 h => ?_)
      conv => whnf
      refine CallQ.o (slr true 1 vint) (by first | rfl | simp only [mulN_one, V.fz, fzL, V.up, upL, fzL_map, fz_slr, fz_at, slr, List.cons_append, List.nil_append] | simp [mulN_one, V.fz, fzL, V.up, upL, fzL_map, fz_slr, fz_at, slr]) h (fun r h => t_laws_toIntS h) (fun r5 h => ?_)
      conv => whnf
      refine CallQ.rd (fun r => V.tup [(rS_Algebra true) r.1, V.bool r.2]) (by first | rfl | simp only [V.fz, fzL, fzL_map, slr] | simp [mulN_one, V.fz, fzL, V.up, upL, fzL_map, fz_slr, fz_at, slr]) (fun _ => by simp [V.noFz, noFzL, noFzL_map]) h (fun r h => t_spec_RenameElements h) (fun r6 h => ?_)
      conv => whnf
      refine SetKids.lit rfl ?_
      conv => whnf
      refine Cells.lit rfl rfl ?_
      conv => whnf
      refine CallQ.o (rS_Algebra true) (by first | rfl | simp only [mulN_one, V.fz, fzL, V.up, upL, fzL_map, fz_slr, fz_at, slr, List.cons_append, List.nil_append] | simp [mulN_one, V.fz, fzL, V.up, upL, fzL_map, fz_slr, fz_at, slr]) h (fun r h => t_laws_toAlgebra h) (fun r7 h => ?_)
      conv => whnf
      refine SetKids.lit rfl ?_
      conv => whnf
      refine CallQ.o (slr true 1 vint) (by first | rfl | simp only [mulN_one, V.fz, fzL, V.up, upL, fzL_map, fz_slr, fz_at, slr, List.cons_append, List.nil_append] | simp [mulN_one, V.fz, fzL, V.up, upL, fzL_map, fz_slr, fz_at, slr]) h (fun r h => t_laws_toIntS h) (fun r8 h => ?_)
      conv => whnf
      refine Cells.lit rfl rfl ?_
      conv => whnf
      refine CallQ.rd (fun r => V.tup [(rS_Algebra true) r.1, V.bool r.2]) (by first | rfl | simp only [V.fz, fzL_map, slr] | simp [mulN_one, V.fz, fzL, V.up, upL, fzL_map, fz_slr, fz_at, slr]) (fun _ => by simp [V.noFz, noFzL, noFzL_map]) h (fun r h => t_impl_RenameElements h) (fun r9 h => ?_)
      conv => whnf
      refine SetKids.lit rfl ?_
      conv => whnf
      refine CutQ.o (fun t : (Unit ⊕ Unit) => match t with | (.inl s) => (Ex.normal, [11, 10, 9, 8, 7, 6, 2, 1], [(11, A.val (V.bool (r9.snd))), (10, A.val ((rP true (rS_Algebra true)) (r9.fst))), (9, A.val ((slr true 1 vint) (r8))), (8, A.val ((rP true (rS_Algebra true)) (r7))), (7, A.val (V.bool (r6.snd))), (6, A.val ((rP true (rS_Algebra true)) (r6.fst))), (2, A.val ((rP true (rS_Algebra false)) (aA0))), (1, A.val ((slr false 1 vint) (aNames0)))]) | (.inr s) => (Ex.ret, [4], [(4, A.val (V.bool (false)))])) h ?_ ?_
      · intro t h
        conv => whnf
        refine Cells.lit rfl rfl ?_
        conv => whnf
        refine Cells.lit rfl rfl ?_
        conv => whnf
        refine CallQ.rd V.bool (by first | rfl | simp only [V.fz, fzL_map] | simp [mulN_one, V.fz, fzL, V.up, upL, fzL_map, fz_slr, fz_at, slr]) (fun _ => rfl) h (fun r h => t_laws_eqAlgebra h) (fun r10 h => ?_)
        conv => whnf
        refine Br.flip ?_
        conv => whnf
        refine Br.ob h (fun p11 h => ?_) (fun p11 h => ?_)
        · conv => whnf
          refine Br.no ?_
          conv => whnf
          refine Br.no ?_
          conv => whnf
          refine Br.no ?_
          conv => whnf
          refine Br.flip ?_
          conv => whnf
          refine Br.ob h (fun p12 h => ?_) (fun p12 h => ?_)
          · conv => whnf
            cases h; exact ⟨rfl, rfl⟩
          · conv => whnf
            cases h; exact ⟨rfl, rfl⟩
        · conv => whnf
          refine Br.yes ?_
          conv => whnf
          refine Br.yes ?_
          conv => whnf
          refine Br.yes ?_
          conv => whnf
          refine Br.yes ?_
          conv => whnf
          cases h; exact ⟨rfl, rfl⟩
      · rintro (⟨⟩ | ⟨⟩) h
        · try dsimp only at h
          conv => whnf
          refine Cells.lit rfl rfl ?_
          conv => whnf
          refine Cells.lit rfl rfl ?_
          conv => whnf
          refine CallP.o (rS_Algebra true) (by first | rfl | simp only [mulN_one, V.fz, fzL, V.up, upL, fzL_map, fz_slr, fz_at, slr, List.cons_append, List.nil_append] | simp [mulN_one, V.fz, fzL, V.up, upL, fzL_map, fz_slr, fz_at, slr]) h (fun r h => t_laws_toAlgebra h) (fun r14 h => ?_)
          conv => whnf
          refine CallQ.rd V.bool (by first | rfl | simp only [V.fz, fzL, fzL_map] | simp [mulN_one, V.fz, fzL, V.up, upL, fzL_map, fz_slr, fz_at, slr]) (fun _ => rfl) h (fun r h => t_laws_eqAlgebra h) (fun r15 h => ?_)
          conv => whnf
          refine Br.flip ?_
          conv => whnf
          refine Br.ob h (fun p16 h => ?_) (fun p16 h => ?_)
          · conv => whnf
            refine CallQ.o (slr true 1 vint) (by first | rfl | simp only [mulN_one, V.fz, fzL, V.up, upL, fzL_map, fz_slr, fz_at, slr, List.cons_append, List.nil_append] | simp [mulN_one, V.fz, fzL, V.up, upL, fzL_map, fz_slr, fz_at, slr]) h (fun r h => t_laws_toIntS h) (fun r17 h => ?_)
            conv => whnf
            refine CallQ.rd V.bool (by first | rfl | simp only [V.fz, fzL_map, slr] | simp [mulN_one, V.fz, fzL, V.up, upL, fzL_map, fz_slr, fz_at, slr]) (fun _ => rfl) h (fun r h => t_laws_eqIntS h) (fun r18 h => ?_)
            conv => whnf
            refine Br.flip ?_
            conv => whnf
            refine Br.ob h (fun p19 h => ?_) (fun p19 h => ?_)
            · conv => whnf
              refine Cells.lit rfl rfl ?_
              conv => whnf
              refine Kid.lit rfl rfl ?_
              conv => whnf
              refine LendQ.io vint (rS_Algebra true) (fun s => [vint s.Size, (slr true 2 (rS_Op true)) s.Ops]) (fun s => (slr true 2 (rS_Op true)) s.Ops) (by first | rfl | simp only [mulN_one, V.fz, fzL, V.up, upL, fzL_map, fz_slr, fz_at, slr, List.cons_append, List.nil_append] | simp [mulN_one, V.fz, fzL, V.up, upL, fzL_map, fz_slr, fz_at, slr]) (fun _ => rfl) (fun _ => rfl) rfl (fun _ => rfl) (fun _ => ⟨rfl, rfl⟩) rfl h (fun r h => t_laws_markAlgebra h) (fun r20 u21 h => ?_)
              conv => whnf
              refine Kid.lit rfl rfl ?_
              conv => whnf
              refine SetKids.lit rfl ?_
              conv => whnf
              refine CallQ.io vint (slr true 1 vint) (by first | rfl | simp only [mulN_one, V.fz, fzL, V.up, upL, fzL_map, fz_slr, fz_at, slr, List.cons_append, List.nil_append] | simp [mulN_one, V.fz, fzL, V.up, upL, fzL_map, fz_slr, fz_at, slr]) rfl (fun _ => rfl) (fun _ => ⟨rfl, rfl⟩) rfl h (fun r h => t_laws_markIntS h) (fun r22 u23 h => ?_)
              conv => whnf
              refine CutQ.o (fun t : (Unit ⊕ Unit) => match t with | (.inl s) => (Ex.ret, [4], [(4, A.val (V.bool (false)))]) | (.inr s) => (Ex.normal, [10, 7, 6, 2, 1], [(10, A.val ((rP true (rS_Algebra true)) (r9.fst))), (7, A.val (V.bool (r6.snd))), (6, A.val ((rP true (rS_Algebra true)) (r6.fst))), (2, A.val ((rP true (rS_Algebra false)) (aA0))), (1, A.val ((slr false 1 vint) (aNames0)))])) h ?_ ?_
              · intro t h
                conv => whnf
                refine Br.od h (fun p24 h => ?_) (fun p24 h => ?_)
                · conv => whnf
                  refine Br.yes ?_
                  conv => whnf
                  refine Br.yes ?_
                  conv => whnf
                  refine Br.yes ?_
                  conv => whnf
                  refine Br.yes ?_
                  conv => whnf
                  refine Br.yes ?_
                  conv => whnf
                  refine Br.yes ?_
                  conv => whnf
                  refine Br.yes ?_
                  conv => whnf
                  refine Br.yes ?_
                  conv => whnf
                  refine Br.yes ?_
                  conv => whnf
                  cases h; exact ⟨rfl, rfl⟩
                · conv => whnf
                  refine Cells.lit rfl rfl ?_
                  conv => whnf
                  refine Br.no ?_
                  conv => whnf
                  refine Cells.lit rfl rfl ?_
                  conv => whnf
                  refine Br.no ?_
                  conv => whnf
                  refine CallQ.rd V.bool (by first | rfl | simp only [V.fz, fzL_map] | simp [mulN_one, V.fz, fzL, V.up, upL, fzL_map, fz_slr, fz_at, slr]) (fun _ => rfl) h (fun r h => t_laws_eqAlgebra h) (fun r25 h => ?_)
                  conv => whnf
                  refine Br.no ?_
                  conv => whnf
                  refine Br.no ?_
                  conv => whnf
                  refine Br.flip ?_
                  conv => whnf
                  refine Br.ob h (fun p26 h => ?_) (fun p26 h => ?_)
                  · conv => whnf
                    refine Br.no ?_
                    conv => whnf
                    refine Br.no ?_
                    conv => whnf
                    refine Br.no ?_
                    conv => whnf
                    refine Br.flip ?_
                    conv => whnf
                    refine Br.ob h (fun p27 h => ?_) (fun p27 h => ?_)
                    · conv => whnf
                      cases h; exact ⟨rfl, rfl⟩
                    · conv => whnf
                      cases h; exact ⟨rfl, rfl⟩
                  · conv => whnf
                    refine Br.yes ?_
                    conv => whnf
                    refine Br.yes ?_
                    conv => whnf
                    refine Br.yes ?_
                    conv => whnf
                    refine Br.yes ?_
                    conv => whnf
                    cases h; exact ⟨rfl, rfl⟩
              · rintro (⟨⟩ | ⟨⟩) h
                · try dsimp only at h
                  conv => whnf
                  cases h; exact (by first | rfl | simp only [resV, mulN_one, V.fz, fzL, V.up, upL, fzL_map, fz_slr, fz_at, slr] | simp [resV, mulN_one, V.fz, fzL, V.up, upL, fzL_map, fz_slr, fz_at, slr])
                · try dsimp only at h
                  conv => whnf
                  refine Cells.lit rfl rfl ?_
                  conv => whnf
                  refine Kid.lit rfl rfl ?_
                  conv => whnf
                  refine LendQ.io vint (rS_Algebra true) (fun s => [vint s.Size, (slr true 2 (rS_Op true)) s.Ops]) (fun s => (slr true 2 (rS_Op true)) s.Ops) (by first | rfl | simp only [mulN_one, V.fz, fzL, V.up, upL, fzL_map, fz_slr, fz_at, slr, List.cons_append, List.nil_append] | simp [mulN_one, V.fz, fzL, V.up, upL, fzL_map, fz_slr, fz_at, slr]) (fun _ => rfl) (fun _ => rfl) rfl (fun _ => rfl) (fun _ => ⟨rfl, rfl⟩) rfl h (fun r h => t_laws_markAlgebra h) (fun r29 u30 h => ?_)
                  conv => whnf
                  refine Kid.lit rfl rfl ?_
                  conv => whnf
                  refine SetKids.lit rfl ?_
                  conv => whnf
                  refine Cells.lit rfl rfl ?_
                  conv => whnf
                  refine CallQ.rd vint (by first | rfl | simp only [V.fz, V.up, fzL_map, fz_at] | simp [mulN_one, V.fz, fzL, V.up, upL, fzL_map, fz_slr, fz_at, slr]) (fun _ => rfl) h (fun r h => t_laws_heldAlgebra h) (fun r31 h => ?_)
                  conv => whnf
                  refine Br.od h (fun p32 h => ?_) (fun p32 h => ?_)
                  · conv => whnf
                    cases h; exact (by first | rfl | simp only [resV, mulN_one, V.fz, fzL, V.up, upL, fzL_map, fz_slr, fz_at, slr] | simp [resV, mulN_one, V.fz, fzL, V.up, upL, fzL_map, fz_slr, fz_at, slr])
                  · conv => whnf
                    refine Br.on h (fun p33 h => ?_) (fun p33 h => ?_)
                    · conv => whnf
                      cases h; exact (by first | rfl | simp only [resV, mulN_one, V.fz, fzL, V.up, upL, fzL_map, fz_slr, fz_at, slr] | simp [resV, mulN_one, V.fz, fzL, V.up, upL, fzL_map, fz_slr, fz_at, slr])
                    · conv => whnf
                      refine Cells.lit rfl rfl ?_
                      conv => whnf
                      refine CallQ.o (rS_Algebra true) (by first | rfl | simp only [mulN_one, V.fz, fzL, V.up, upL, fzL_map, fz_slr, fz_at, slr, List.cons_append, List.nil_append] | simp [mulN_one, V.fz, fzL, V.up, upL, fzL_map, fz_slr, fz_at, slr]) h (fun r h => t_laws_toAlgebra h) (fun r34 h => ?_)
                      conv => whnf
                      refine CallQ.o (slr true 1 vint) (by first | rfl | simp only [mulN_one, V.fz, fzL, V.up, upL, fzL_map, fz_slr, fz_at, slr, List.cons_append, List.nil_append] | simp [mulN_one, V.fz, fzL, V.up, upL, fzL_map, fz_slr, fz_at, slr]) h (fun r h => t_laws_toIntS h) (fun r35 h => ?_)
                      conv => whnf
                      refine CallQ.rd (fun r => V.tup [(rS_Algebra true) r.1, V.bool r.2]) (by first | rfl | simp only [V.fz, fzL, fzL_map, slr] | simp [mulN_one, V.fz, fzL, V.up, upL, fzL_map, fz_slr, fz_at, slr]) (fun _ => by simp [V.noFz, noFzL, noFzL_map]) h (fun r h => t_impl_RenameElements h) (fun r36 h => ?_)
                      conv => whnf
                      refine SetKids.lit rfl ?_
                      conv => whnf
                      refine CutQ.o (fun t : (Unit ⊕ Unit) => match t with | (.inl s) => (Ex.normal, [13, 10], [(13, A.val (vint (r29))), (10, A.val ((rP true (rS_Algebra true)) ({ Size := r9.fst.Size, Ops := u30.Ops })))]) | (.inr s) => (Ex.ret, [4], [(4, A.val (V.bool (false)))])) h ?_ ?_
                      · intro t h
                        conv => whnf
                        refine Cells.lit rfl rfl ?_
                        conv => whnf
                        refine Cells.lit rfl rfl ?_
                        conv => whnf
                        refine CallQ.rd V.bool (by first | rfl | simp only [V.fz, fzL_map] | simp [mulN_one, V.fz, fzL, V.up, upL, fzL_map, fz_slr, fz_at, slr]) (fun _ => rfl) h (fun r h => t_laws_eqAlgebra h) (fun r37 h => ?_)
                        conv => whnf
                        refine Br.flip ?_
                        conv => whnf
                        refine Br.ob h (fun p38 h => ?_) (fun p38 h => ?_)
                        · conv => whnf
                          refine Br.no ?_
                          conv => whnf
                          refine Br.no ?_
                          conv => whnf
                          refine Br.no ?_
                          conv => whnf
                          refine Br.flip ?_
                          conv => whnf
                          refine Br.ob h (fun p39 h => ?_) (fun p39 h => ?_)
                          · conv => whnf
                            cases h; exact ⟨rfl, rfl⟩
                          · conv => whnf
                            cases h; exact ⟨rfl, rfl⟩
                        · conv => whnf
                          refine Br.yes ?_
                          conv => whnf
                          refine Br.yes ?_
                          conv => whnf
                          refine Br.yes ?_
                          conv => whnf
                          refine Br.yes ?_
                          conv => whnf
                          cases h; exact ⟨rfl, rfl⟩
                      · rintro (⟨⟩ | ⟨⟩) h
                        · try dsimp only at h
                          conv => whnf
                          refine Cells.lit rfl rfl ?_
                          conv => whnf
                          refine CallQ.rd vint (by first | rfl | simp only [V.fz, V.up, fzL_map, fz_at] | simp [mulN_one, V.fz, fzL, V.up, upL, fzL_map, fz_slr, fz_at, slr]) (fun _ => rfl) h (fun r h => t_laws_heldAlgebra h) (fun r41 h => ?_)
                          conv => whnf
                          refine Br.od h (fun p42 h => ?_) (fun p42 h => ?_)
                          · conv => whnf
                            cases h; exact (by first | rfl | simp only [resV, mulN_one, V.fz, fzL, V.up, upL, fzL_map, fz_slr, fz_at, slr] | simp [resV, mulN_one, V.fz, fzL, V.up, upL, fzL_map, fz_slr, fz_at, slr])
                          · conv => whnf
                            refine Br.on h (fun p43 h => ?_) (fun p43 h => ?_)
                            · conv => whnf
                              cases h; exact (by first | rfl | simp only [resV, mulN_one, V.fz, fzL, V.up, upL, fzL_map, fz_slr, fz_at, slr] | simp [resV, mulN_one, V.fz, fzL, V.up, upL, fzL_map, fz_slr, fz_at, slr])
                            · conv => whnf
                              cases h; exact (by first | rfl | simp only [resV, mulN_one, V.fz, fzL, V.up, upL, fzL_map, fz_slr, fz_at, slr] | simp [resV, mulN_one, V.fz, fzL, V.up, upL, fzL_map, fz_slr, fz_at, slr])
                        · try dsimp only at h
                          conv => whnf
                          cases h; exact (by first | rfl | simp only [resV, mulN_one, V.fz, fzL, V.up, upL, fzL_map, fz_slr, fz_at, slr] | simp [resV, mulN_one, V.fz, fzL, V.up, upL, fzL_map, fz_slr, fz_at, slr])
            · conv => whnf
              cases h; exact (by first | rfl | simp only [resV, mulN_one, V.fz, fzL, V.up, upL, fzL_map, fz_slr, fz_at, slr] | simp [resV, mulN_one, V.fz, fzL, V.up, upL, fzL_map, fz_slr, fz_at, slr])
          · conv => whnf
            cases h; exact (by first | rfl | simp only [resV, mulN_one, V.fz, fzL, V.up, upL, fzL_map, fz_slr, fz_at, slr] | simp [resV, mulN_one, V.fz, fzL, V.up, upL, fzL_map, fz_slr, fz_at, slr])
        · try dsimp only at h
          conv => whnf
          cases h; exact (by first | rfl | simp only [resV, mulN_one, V.fz, fzL, V.up, upL, fzL_map, fz_slr, fz_at, slr] | simp [resV, mulN_one, V.fz, fzL, V.up, upL, fzL_map, fz_slr, fz_at, slr])

end Go.Proofs.Ytdodfnbbfkcgnaa.Ax
