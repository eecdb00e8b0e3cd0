/-
  What the functions compute, as functions on plain data, and that the program does compute it; written by program.
-/
import Derived.Test.YtdodfnbbfkcgnaaCode
import Derived.Test.YtdodfnbbfkcgnaaG5
import Derived.Test.YtdodfnbbfkcgnaaG9
import Derived.Test.YtdodfnbbfkcgnaaG10
namespace Go.Proofs.Ytdodfnbbfkcgnaa.Ax
open Go
set_option maxRecDepth 100000
set_option maxHeartbeats 4000000

noncomputable def F_laws_FnExactStackLattice (aP0 : SPoset) (aQ0 : SPoset) : Option Bool :=
  (F_laws_szPoset (aP0) ((1048576 : Int))).bind fun r1 =>
  if r1 < (0 : Int) then
   some true
  else
   (F_laws_szPoset (aQ0) (r1)).bind fun r3 =>
   if r3 < (0 : Int) then
    some true
   else
    (F_laws_toPoset (aP0)).bind fun r5 =>
    (F_laws_toPoset (aQ0)).bind fun r6 =>
    (F_spec_StackLattice (r5) (r6)).bind fun r7 =>
    (F_laws_toPoset (aP0)).bind fun r8 =>
    (F_laws_toPoset (aQ0)).bind fun r9 =>
    (F_impl_StackLattice (r8) (r9)).bind fun r10 =>
    (((F_laws_eqPoset (r10.fst) (r7.fst)).bind fun r11 =>
         if (r11) = true then
          if (r10.snd == r7.snd) = true then
           some (.inl ())
          else
           some (.inr ())
         else
          some (.inr ()) : Option (Unit ⊕ Unit))).bind fun t => match t with
    | (.inl _) => ((F_laws_toPoset (aP0)).bind fun r15 =>
      (F_laws_eqPoset (r8) (r15)).bind fun r16 =>
      if (r16) = true then
       (F_laws_toPoset (aQ0)).bind fun r18 =>
       (F_laws_eqPoset (r9) (r18)).bind fun r19 =>
       if (r19) = true then
        (F_laws_markPoset (r8) ((1 : Int))).bind fun (r21, _u22) =>
        (F_laws_markPoset (r9) (r21)).bind fun (r23, _u24) =>
        ((if r23 < (0 : Int) then
                  some (.inl ())
                 else
                  (F_laws_eqPoset (r10.fst) (r7.fst)).bind fun r26 =>
                  if (r26) = true then
                   if (r10.snd == r7.snd) = true then
                    some (.inr ())
                   else
                    some (.inl ())
                  else
                   some (.inl ()) : Option (Unit ⊕ Unit))).bind fun t => match t with
        | (.inl _) => (some false)
        | (.inr _) => ((F_laws_markPoset (r10.fst) ((1 : Int))).bind fun (r30, u31) =>
          (F_laws_heldPoset (u31) ((1 : Int))).bind fun r32 =>
          if r32 < (0 : Int) then
           some false
          else
           if r32 ≠ r30 then
            some false
           else
            (F_laws_toPoset (aP0)).bind fun r35 =>
            (F_laws_toPoset (aQ0)).bind fun r36 =>
            (F_impl_StackLattice (r35) (r36)).bind fun r37 =>
            (((F_laws_eqPoset (r37.fst) (r7.fst)).bind fun r38 =>
                         if (r38) = true then
                          if (r37.snd == r7.snd) = true then
                           some (.inl ())
                          else
                           some (.inr ())
                         else
                          some (.inr ()) : Option (Unit ⊕ Unit))).bind fun t => match t with
            | (.inl _) => ((F_laws_heldPoset (u31) ((1 : Int))).bind fun r42 =>
              if r42 < (0 : Int) then
               some false
              else
               if r42 ≠ r30 then
                some false
               else
                some true)
            | (.inr _) => (some false))
       else
        some false
      else
       some false)
    | (.inr _) => (some false)
theorem t_laws_FnExactStackLattice {aP0 : SPoset} {aQ0 : SPoset} {v : Bool} (h : F_laws_FnExactStackLattice aP0 aQ0 = some v) : Ret Try.prog f_laws_FnExactStackLattice [(rS_Poset false) aP0, (rS_Poset false) aQ0] (V.bool v) := by
  refine ret_vc k_laws_FnExactStackLattice (Nat.le_of_ble_eq_true rfl) ?_
  unfold F_laws_FnExactStackLattice at h
  conv => whnf
  refine Cells.lit rfl rfl ?_
  conv => whnf
  refine CallQ.o vint (by first | rfl | simp only [mulN_one, V.fz, fzL, V.up, upL, fzL_map, fz_slr, fz_at, slr, List.cons_append, List.nil_append] | simp [mulN_one, V.fz, fzL, V.up, upL, fzL_map, fz_slr, fz_at, slr]) h (fun r h => t_laws_szPoset h) (fun r1 h => ?_)
  conv => whnf
  refine Br.od h (fun p2 h => ?_) (fun p2 h => ?_)
  · conv => whnf
    cases h; exact (by first | rfl | simp only [resV, mulN_one, V.fz, fzL, V.up, upL, fzL_map, fz_slr, fz_at, slr] | simp [resV, mulN_one, V.fz, fzL, V.up, upL, fzL_map, fz_slr, fz_at, slr])
  · conv => whnf
    refine Cells.lit rfl rfl ?_
    conv => whnf
    refine CallQ.o vint (by first | rfl | simp only [mulN_one, V.fz, fzL, V.up, upL, fzL_map, fz_slr, fz_at, slr, List.cons_append, List.nil_append] | simp [mulN_one, V.fz, fzL, V.up, upL, fzL_map, fz_slr, fz_at, slr]) h (fun r h => t_laws_szPoset h) (fun r3 h => ?_)
    conv => whnf
    refine Br.od h (fun p4 h => ?_) (fun p4 h => ?_)
    · conv => whnf
      cases h; exact (by first | rfl | simp only [resV, mulN_one, V.fz, fzL, V.up, upL, fzL_map, fz_slr, fz_at, slr] | simp [resV, mulN_one, V.fz, fzL, V.up, upL, fzL_map, fz_slr, fz_at, slr])
    · conv => whnf
      refine Cells.lit rfl rfl ?_
      conv => whnf
      refine CallP.o (rS_Poset true) (by first | rfl | simp only [mulN_one, V.fz, fzL, V.up, upL, fzL_map, fz_slr, fz_at, slr, List.cons_append, List.nil_append] | simp [mulN_one, V.fz, fzL, V.up, upL, fzL_map, fz_slr, fz_at, slr]) h (fun r h => t_laws_toPoset h) (fun r5 h => ?_)
      conv => whnf
      refine Cells.lit rfl rfl ?_
      conv => whnf
      refine CallP.o (rS_Poset true) (by first | rfl | simp only [mulN_one, V.fz, fzL, V.up, upL, fzL_map, fz_slr, fz_at, slr, List.cons_append, List.nil_append] | simp [mulN_one, V.fz, fzL, V.up, upL, fzL_map, fz_slr, fz_at, slr]) h (fun r h => t_laws_toPoset h) (fun r6 h => ?_)
      conv => whnf
      refine CallP.rd (fun r => V.tup [(rS_Poset true) r.1, V.bool r.2]) (by first | rfl | simp only [V.fz, fzL, fzL_map] | simp [mulN_one, V.fz, fzL, V.up, upL, fzL_map, fz_slr, fz_at, slr]) (fun _ => by simp [V.noFz, noFzL, noFzL_map]) h (fun r h => t_spec_StackLattice h) (fun r7 h => ?_)
      conv => whnf
      refine SetKids.lit rfl ?_
      conv => whnf
      refine Cells.lit rfl rfl ?_
      conv => whnf
      refine CallQ.o (rS_Poset true) (by first | rfl | simp only [mulN_one, V.fz, fzL, V.up, upL, fzL_map, fz_slr, fz_at, slr, List.cons_append, List.nil_append] | simp [mulN_one, V.fz, fzL, V.up, upL, fzL_map, fz_slr, fz_at, slr]) h (fun r h => t_laws_toPoset h) (fun r8 h => ?_)
      conv => whnf
      refine SetKids.lit rfl ?_
      conv => whnf
      refine Cells.lit rfl rfl ?_
      conv => whnf
      refine CallQ.o (rS_Poset true) (by first | rfl | simp only [mulN_one, V.fz, fzL, V.up, upL, fzL_map, fz_slr, fz_at, slr, List.cons_append, List.nil_append] | simp [mulN_one, V.fz, fzL, V.up, upL, fzL_map, fz_slr, fz_at, slr]) h (fun r h => t_laws_toPoset h) (fun r9 h => ?_)
      conv => whnf
      refine SetKids.lit rfl ?_
      conv => whnf
      refine Cells.lit rfl rfl ?_
      conv => whnf
      refine Cells.lit rfl rfl ?_
      conv => whnf
      refine CallQ.rd (fun r => V.tup [(rS_Poset true) r.1, V.bool r.2]) (by first | rfl | simp only [V.fz, fzL_map] | simp [mulN_one, V.fz, fzL, V.up, upL, fzL_map, fz_slr, fz_at, slr]) (fun _ => by simp [V.noFz, noFzL, noFzL_map]) h (fun r h => t_impl_StackLattice h) (fun r10 h => ?_)
      conv => whnf
      refine SetKids.lit rfl ?_
      conv => whnf
      refine CutQ.o (fun t : (Unit ⊕ Unit) => match t with | (.inl s) => (Ex.normal, [11, 10, 9, 8, 7, 6, 3, 2], [(11, A.val (V.bool (r10.snd))), (10, A.val ((rP true (rS_Poset true)) (r10.fst))), (9, A.val ((rP true (rS_Poset true)) (r9))), (8, A.val ((rP true (rS_Poset true)) (r8))), (7, A.val (V.bool (r7.snd))), (6, A.val ((rP true (rS_Poset true)) (r7.fst))), (3, A.val ((rP true (rS_Poset false)) (aQ0))), (2, A.val ((rP true (rS_Poset false)) (aP0)))]) | (.inr s) => (Ex.ret, [4], [(4, A.val (V.bool (false)))])) h ?_ ?_
      · intro t h
        conv => whnf
        refine Cells.lit rfl rfl ?_
        conv => whnf
        refine Cells.lit rfl rfl ?_
        conv => whnf
        refine CallQ.rd V.bool (by first | rfl | simp only [V.fz, fzL_map] | simp [mulN_one, V.fz, fzL, V.up, upL, fzL_map, fz_slr, fz_at, slr]) (fun _ => rfl) h (fun r h => t_laws_eqPoset h) (fun r11 h => ?_)
        conv => whnf
        refine Br.flip ?_
        conv => whnf
        refine Br.ob h (fun p12 h => ?_) (fun p12 h => ?_)
        · conv => whnf
          refine Br.no ?_
          conv => whnf
          refine Br.no ?_
          conv => whnf
          refine Br.no ?_
          conv => whnf
          refine Br.flip ?_
          conv => whnf
          refine Br.ob h (fun p13 h => ?_) (fun p13 h => ?_)
          · conv => whnf
            cases h; exact ⟨rfl, rfl⟩
          · conv => whnf
            cases h; exact ⟨rfl, rfl⟩
        · conv => whnf
          refine Br.yes ?_
          conv => whnf
          refine Br.yes ?_
          conv => whnf
          refine Br.yes ?_
          conv => whnf
          refine Br.yes ?_
          conv => whnf
          cases h; exact ⟨rfl, rfl⟩
      · rintro (⟨⟩ | ⟨⟩) h
        · try dsimp only at h
          conv => whnf
          refine Cells.lit rfl rfl ?_
          conv => whnf
          refine Cells.lit rfl rfl ?_
          conv => whnf
          refine CallP.o (rS_Poset true) (by first | rfl | simp only [mulN_one, V.fz, fzL, V.up, upL, fzL_map, fz_slr, fz_at, slr, List.cons_append, List.nil_append] | simp [mulN_one, V.fz, fzL, V.up, upL, fzL_map, fz_slr, fz_at, slr]) h (fun r h => t_laws_toPoset h) (fun r15 h => ?_)
          conv => whnf
          refine CallQ.rd V.bool (by first | rfl | simp only [V.fz, fzL, fzL_map] | simp [mulN_one, V.fz, fzL, V.up, upL, fzL_map, fz_slr, fz_at, slr]) (fun _ => rfl) h (fun r h => t_laws_eqPoset h) (fun r16 h => ?_)
          conv => whnf
          refine Br.flip ?_
          conv => whnf
          refine Br.ob h (fun p17 h => ?_) (fun p17 h => ?_)
          · conv => whnf
            refine Cells.lit rfl rfl ?_
            conv => whnf
            refine Cells.lit rfl rfl ?_
            conv => whnf
            refine CallP.o (rS_Poset true) (by first | rfl | simp only [mulN_one, V.fz, fzL, V.up, upL, fzL_map, fz_slr, fz_at, slr, List.cons_append, List.nil_append] | simp [mulN_one, V.fz, fzL, V.up, upL, fzL_map, fz_slr, fz_at, slr]) h (fun r h => t_laws_toPoset h) (fun r18 h => ?_)
            conv => whnf
            refine CallQ.rd V.bool (by first | rfl | simp only [V.fz, fzL, fzL_map] | simp [mulN_one, V.fz, fzL, V.up, upL, fzL_map, fz_slr, fz_at, slr]) (fun _ => rfl) h (fun r h => t_laws_eqPoset h) (fun r19 h => ?_)
            conv => whnf
            refine Br.flip ?_
            conv => whnf
            refine Br.ob h (fun p20 h => ?_) (fun p20 h => ?_)
            · conv => whnf
              refine Cells.lit rfl rfl ?_
              conv => whnf
              refine Kid.lit rfl rfl ?_
              conv => whnf
              refine LendQ.io vint (rS_Poset true) (fun s => [(slr true 1 (slr true 1 vint)) s.Below]) (fun s => (slr true 1 (slr true 1 vint)) s.Below) (by first | rfl | simp only [mulN_one, V.fz, fzL, V.up, upL, fzL_map, fz_slr, fz_at, slr, List.cons_append, List.nil_append] | simp [mulN_one, V.fz, fzL, V.up, upL, fzL_map, fz_slr, fz_at, slr]) (fun _ => rfl) (fun _ => rfl) rfl (fun _ => rfl) (fun _ => ⟨rfl, rfl⟩) rfl h (fun r h => t_laws_markPoset h) (fun r21 u22 h => ?_)
              conv => whnf
              refine Kid.lit rfl rfl ?_
              conv => whnf
              refine SetKids.lit rfl ?_
              conv => whnf
              refine Cells.lit rfl rfl ?_
              conv => whnf
              refine Kid.lit rfl rfl ?_
              conv => whnf
              refine LendQ.io vint (rS_Poset true) (fun s => [(slr true 1 (slr true 1 vint)) s.Below]) (fun s => (slr true 1 (slr true 1 vint)) s.Below) (by first | rfl | simp only [mulN_one, V.fz, fzL, V.up, upL, fzL_map, fz_slr, fz_at, slr, List.cons_append, List.nil_append] | simp [mulN_one, V.fz, fzL, V.up, upL, fzL_map, fz_slr, fz_at, slr]) (fun _ => rfl) (fun _ => rfl) rfl (fun _ => rfl) (fun _ => ⟨rfl, rfl⟩) rfl h (fun r h => t_laws_markPoset h) (fun r23 u24 h => ?_)
              conv => whnf
              refine Kid.lit rfl rfl ?_
              conv => whnf
              refine SetKids.lit rfl ?_
              conv => whnf
              refine CutQ.o (fun t : (Unit ⊕ Unit) => match t with | (.inl s) => (Ex.ret, [4], [(4, A.val (V.bool (false)))]) | (.inr s) => (Ex.normal, [10, 7, 6, 3, 2], [(10, A.val ((rP true (rS_Poset true)) (r10.fst))), (7, A.val (V.bool (r7.snd))), (6, A.val ((rP true (rS_Poset true)) (r7.fst))), (3, A.val ((rP true (rS_Poset false)) (aQ0))), (2, A.val ((rP true (rS_Poset false)) (aP0)))])) h ?_ ?_
              · intro t h
                conv => whnf
                refine Br.od h (fun p25 h => ?_) (fun p25 h => ?_)
                · conv => whnf
                  refine Br.yes ?_
                  conv => whnf
                  refine Br.yes ?_
                  conv => whnf
                  refine Br.yes ?_
                  conv => whnf
                  refine Br.yes ?_
                  conv => whnf
                  refine Br.yes ?_
                  conv => whnf
                  refine Br.yes ?_
                  conv => whnf
                  refine Br.yes ?_
                  conv => whnf
                  refine Br.yes ?_
                  conv => whnf
                  refine Br.yes ?_
                  conv => whnf
                  cases h; exact ⟨rfl, rfl⟩
                · conv => whnf
                  refine Cells.lit rfl rfl ?_
                  conv => whnf
                  refine Br.no ?_
                  conv => whnf
                  refine Cells.lit rfl rfl ?_
                  conv => whnf
                  refine Br.no ?_
                  conv => whnf
                  refine CallQ.rd V.bool (by first | rfl | simp only [V.fz, fzL_map] | simp [mulN_one, V.fz, fzL, V.up, upL, fzL_map, fz_slr, fz_at, slr]) (fun _ => rfl) h (fun r h => t_laws_eqPoset h) (fun r26 h => ?_)
                  conv => whnf
                  refine Br.no ?_
                  conv => whnf
                  refine Br.no ?_
                  conv => whnf
                  refine Br.flip ?_
                  conv => whnf
                  refine Br.ob h (fun p27 h => ?_) (fun p27 h => ?_)
                  · conv => whnf
                    refine Br.no ?_
                    conv => whnf
                    refine Br.no ?_
                    conv => whnf
                    refine Br.no ?_
                    conv => whnf
                    refine Br.flip ?_
                    conv => whnf
                    refine Br.ob h (fun p28 h => ?_) (fun p28 h => ?_)
                    · conv => whnf
                      cases h; exact ⟨rfl, rfl⟩
                    · conv => whnf
                      cases h; exact ⟨rfl, rfl⟩
                  · conv => whnf
                    refine Br.yes ?_
                    conv => whnf
                    refine Br.yes ?_
                    conv => whnf
                    refine Br.yes ?_
                    conv => whnf
                    refine Br.yes ?_
                    conv => whnf
                    cases h; exact ⟨rfl, rfl⟩
              · rintro (⟨⟩ | ⟨⟩) h
                · try dsimp only at h
                  conv => whnf
                  cases h; exact (by first | rfl | simp only [resV, mulN_one, V.fz, fzL, V.up, upL, fzL_map, fz_slr, fz_at, slr] | simp [resV, mulN_one, V.fz, fzL, V.up, upL, fzL_map, fz_slr, fz_at, slr])
                · try dsimp only at h
                  conv => whnf
                  refine Cells.lit rfl rfl ?_
                  conv => whnf
                  refine Kid.lit rfl rfl ?_
                  conv => whnf
                  refine LendQ.io vint (rS_Poset true) (fun s => [(slr true 1 (slr true 1 vint)) s.Below]) (fun s => (slr true 1 (slr true 1 vint)) s.Below) (by first | rfl | simp only [mulN_one, V.fz, fzL, V.up, upL, fzL_map, fz_slr, fz_at, slr, List.cons_append, List.nil_append] | simp [mulN_one, V.fz, fzL, V.up, upL, fzL_map, fz_slr, fz_at, slr]) (fun _ => rfl) (fun _ => rfl) rfl (fun _ => rfl) (fun _ => ⟨rfl, rfl⟩) rfl h (fun r h => t_laws_markPoset h) (fun r30 u31 h => ?_)
                  conv => whnf
                  refine Kid.lit rfl rfl ?_
                  conv => whnf
                  refine SetKids.lit rfl ?_
                  conv => whnf
                  refine Cells.lit rfl rfl ?_
                  conv => whnf
                  refine CallQ.rd vint (by first | rfl | simp only [V.fz, V.up, fzL_map, fz_at] | simp [mulN_one, V.fz, fzL, V.up, upL, fzL_map, fz_slr, fz_at, slr]) (fun _ => rfl) h (fun r h => t_laws_heldPoset h) (fun r32 h => ?_)
                  conv => whnf
                  refine Br.od h (fun p33 h => ?_) (fun p33 h => ?_)
                  · conv => whnf
                    cases h; exact (by first | rfl | simp only [resV, mulN_one, V.fz, fzL, V.up, upL, fzL_map, fz_slr, fz_at, slr] | simp [resV, mulN_one, V.fz, fzL, V.up, upL, fzL_map, fz_slr, fz_at, slr])
                  · conv => whnf
                    refine Br.on h (fun p34 h => ?_) (fun p34 h => ?_)
                    · conv => whnf
                      cases h; exact (by first | rfl | simp only [resV, mulN_one, V.fz, fzL, V.up, upL, fzL_map, fz_slr, fz_at, slr] | simp [resV, mulN_one, V.fz, fzL, V.up, upL, fzL_map, fz_slr, fz_at, slr])
                    · conv => whnf
                      refine Cells.lit rfl rfl ?_
                      conv => whnf
                      refine CallP.o (rS_Poset true) (by first | rfl | simp only [mulN_one, V.fz, fzL, V.up, upL, fzL_map, fz_slr, fz_at, slr, List.cons_append, List.nil_append] | simp [mulN_one, V.fz, fzL, V.up, upL, fzL_map, fz_slr, fz_at, slr]) h (fun r h => t_laws_toPoset h) (fun r35 h => ?_)
                      conv => whnf
                      refine Cells.lit rfl rfl ?_
                      conv => whnf
                      refine CallP.o (rS_Poset true) (by first | rfl | simp only [mulN_one, V.fz, fzL, V.up, upL, fzL_map, fz_slr, fz_at, slr, List.cons_append, List.nil_append] | simp [mulN_one, V.fz, fzL, V.up, upL, fzL_map, fz_slr, fz_at, slr]) h (fun r h => t_laws_toPoset h) (fun r36 h => ?_)
                      conv => whnf
                      refine CallP.rd (fun r => V.tup [(rS_Poset true) r.1, V.bool r.2]) (by first | rfl | simp only [V.fz, fzL, fzL_map] | simp [mulN_one, V.fz, fzL, V.up, upL, fzL_map, fz_slr, fz_at, slr]) (fun _ => by simp [V.noFz, noFzL, noFzL_map]) h (fun r h => t_impl_StackLattice h) (fun r37 h => ?_)
                      conv => whnf
                      refine SetKids.lit rfl ?_
                      conv => whnf
                      refine CutQ.o (fun t : (Unit ⊕ Unit) => match t with | (.inl s) => (Ex.normal, [13, 10], [(13, A.val (vint (r30))), (10, A.val ((rP true (rS_Poset true)) (u31)))]) | (.inr s) => (Ex.ret, [4], [(4, A.val (V.bool (false)))])) h ?_ ?_
                      · intro t h
                        conv => whnf
                        refine Cells.lit rfl rfl ?_
                        conv => whnf
                        refine Cells.lit rfl rfl ?_
                        conv => whnf
                        refine CallQ.rd V.bool (by first | rfl | simp only [V.fz, fzL_map] | simp [mulN_one, V.fz, fzL, V.up, upL, fzL_map, fz_slr, fz_at, slr]) (fun _ => rfl) h (fun r h => t_laws_eqPoset h) (fun r38 h => ?_)
                        conv => whnf
                        refine Br.flip ?_
                        conv => whnf
                        refine Br.ob h (fun p39 h => ?_) (fun p39 h => ?_)
                        · conv => whnf
                          refine Br.no ?_
                          conv => whnf
                          refine Br.no ?_
                          conv => whnf
                          refine Br.no ?_
                          conv => whnf
                          refine Br.flip ?_
                          conv => whnf
                          refine Br.ob h (fun p40 h => ?_) (fun p40 h => ?_)
                          · conv => whnf
                            cases h; exact ⟨rfl, rfl⟩
                          · conv => whnf
                            cases h; exact ⟨rfl, rfl⟩
                        · conv => whnf
                          refine Br.yes ?_
                          conv => whnf
                          refine Br.yes ?_
                          conv => whnf
                          refine Br.yes ?_
                          conv => whnf
                          refine Br.yes ?_
                          conv => whnf
                          cases h; exact ⟨rfl, rfl⟩
                      · rintro (⟨⟩ | ⟨⟩) h
                        · try dsimp only at h
                          conv => whnf
                          refine Cells.lit rfl rfl ?_
                          conv => whnf
                          refine CallQ.rd vint (by first | rfl | simp only [V.fz, V.up, fzL_map, fz_at] | simp [mulN_one, V.fz, fzL, V.up, upL, fzL_map, fz_slr, fz_at, slr]) (fun _ => rfl) h (fun r h => t_laws_heldPoset h) (fun r42 h => ?_)
                          conv => whnf
                          refine Br.od h (fun p43 h => ?_) (fun p43 h => ?_)
                          · conv => whnf
                            cases h; exact (by first | rfl | simp only [resV, mulN_one, V.fz, fzL, V.up, upL, fzL_map, fz_slr, fz_at, slr] | simp [resV, mulN_one, V.fz, fzL, V.up, upL, fzL_map, fz_slr, fz_at, slr])
                          · conv => whnf
                            refine Br.on h (fun p44 h => ?_) (fun p44 h => ?_)
                            · conv => whnf
                              cases h; exact (by first | rfl | simp only [resV, mulN_one, V.fz, fzL, V.up, upL, fzL_map, fz_slr, fz_at, slr] | simp [resV, mulN_one, V.fz, fzL, V.up, upL, fzL_map, fz_slr, fz_at, slr])
                            · conv => whnf
                              cases h; exact (by first | rfl | simp only [resV, mulN_one, V.fz, fzL, V.up, upL, fzL_map, fz_slr, fz_at, slr] | simp [resV, mulN_one, V.fz, fzL, V.up, upL, fzL_map, fz_slr, fz_at, slr])
                        · try dsimp only at h
                          conv => whnf
                          cases h; exact (by first | rfl | simp only [resV, mulN_one, V.fz, fzL, V.up, upL, fzL_map, fz_slr, fz_at, slr] | simp [resV, mulN_one, V.fz, fzL, V.up, upL, fzL_map, fz_slr, fz_at, slr])
            · conv => whnf
              cases h; exact (by first | rfl | simp only [resV, mulN_one, V.fz, fzL, V.up, upL, fzL_map, fz_slr, fz_at, slr] | simp [resV, mulN_one, V.fz, fzL, V.up, upL, fzL_map, fz_slr, fz_at, slr])
          · conv => whnf
            cases h; exact (by first | rfl | simp only [resV, mulN_one, V.fz, fzL, V.up, upL, fzL_map, fz_slr, fz_at, slr] | simp [resV, mulN_one, V.fz, fzL, V.up, upL, fzL_map, fz_slr, fz_at, slr])
        · try dsimp only at h
          conv => whnf
          cases h; exact (by first | rfl | simp only [resV, mulN_one, V.fz, fzL, V.up, upL, fzL_map, fz_slr, fz_at, slr] | simp [resV, mulN_one, V.fz, fzL, V.up, upL, fzL_map, fz_slr, fz_at, slr])

end Go.Proofs.Ytdodfnbbfkcgnaa.Ax
