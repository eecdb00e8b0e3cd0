/-
  What the functions compute, as functions on plain data, and that the program does compute it; written by program.
-/
import Derived.Test.YtoikbcagaanhgaaCode
import Derived.Test.YtoikbcagaanhgaaG1
import Derived.Test.YtoikbcagaanhgaaG4
import Derived.Test.YtoikbcagaanhgaaG6
import Derived.Test.YtoikbcagaanhgaaG8
import Derived.Test.YtoikbcagaanhgaaG9
import Derived.Test.YtoikbcagaanhgaaG10
import Derived.Test.YtoikbcagaanhgaaG11
import Derived.Test.YtoikbcagaanhgaaG12
namespace Go.Proofs.Ytoikbcagaanhgaa.Ax
open Go
set_option maxRecDepth 100000
set_option maxHeartbeats 4000000

noncomputable def F_laws_FnLatticeProducts (code0 : (List Int)) : Option Bool :=
 (F_laws_rBig (code0)).bind fun r1 =>
 if (r1) = true then
 some true
 else
 (F_spec_DrawProductLattice (code0)).bind fun r3 =>
 (F_impl_ProductLattice (r3.fst) (r3.snd)).bind fun r4 =>
 (((F_spec_ProductLattice (r3.fst) (r3.snd)).bind fun r5 =>
 if (r4.snd == r5.snd) = true then
 (F_laws_rTable (r4.fst.Below) (r5.fst.Below)).bind fun r7 =>
 if (r7) = true then
 some (.inl ())
 else
 some (.inr ())
 else
 some (.inr ()) : Option (Unit ⊕ Unit))).bind fun t => match t with
 | (.inl _) => (((if (r4.snd) = true then
 (F_impl_AtomsOf (r3.fst)).bind fun r11 =>
 (F_impl_AtomsOf (r3.snd)).bind fun r12 =>
 (F_impl_AtomsOf (r4.fst)).bind fun r13 =>
 (((F_spec_AtomsOf (r4.fst)).bind fun r14 =>
 if (r13.snd == r14.snd) = true then
 (F_laws_rInts (r13.fst) (r14.fst)).bind fun r16 =>
 if (r16) = true then
 some (.inl ())
 else
 some (.inr ())
 else
 some (.inr ()) : Option (Unit ⊕ Unit))).bind fun t => match t with
 | (.inl _) => ((((F_impl_IsLattice (r4.fst)).bind fun r19 =>
 if (r19) = true then
 if (r11.snd) = true then
 if (r12.snd) = true then
 if (r13.snd) = true then
 ask (InI ((↑r11.fst.length : Int) + (↑r12.fst.length : Int))) <|
 if (↑r13.fst.length : Int) ≠ (↑r11.fst.length : Int) + (↑r12.fst.length : Int) then
 some (.inl ())
 else
 some (.inr ())
 else
 some (.inl ())
 else
 some (.inl ())
 else
 some (.inl ())
 else
 some (.inl ()) : Option (Unit ⊕ Unit))).bind fun t => match t with
 | (.inl _) => (some (.inl ()))
 | (.inr _) => ((F_impl_JoinIrreducibles (r3.fst)).bind fun r27 =>
 (F_impl_JoinIrreducibles (r3.snd)).bind fun r28 =>
 (F_impl_JoinIrreducibles (r4.fst)).bind fun r29 =>
 if (r27.snd) = true then
 if (r28.snd) = true then
 if (r29.snd) = true then
 ask (InI ((↑r27.fst.length : Int) + (↑r28.fst.length : Int))) <|
 if (↑r29.fst.length : Int) ≠ (↑r27.fst.length : Int) + (↑r28.fst.length : Int) then
 some (.inl ())
 else
 some (.inr ())
 else
 some (.inl ())
 else
 some (.inl ())
 else
 some (.inl ())))
 | (.inr _) => (some (.inl ()))
 else
 some (.inr ()) : Option (Unit ⊕ Unit))).bind fun t => match t with
 | (.inl _) => (some false)
 | (.inr _) => ((F_spec_DrawStackLattice (code0)).bind fun r36 =>
 (F_impl_StackLattice (r36.fst) (r36.snd)).bind fun r37 =>
 (((F_spec_StackLattice (r36.fst) (r36.snd)).bind fun r38 =>
 if (r37.snd == r38.snd) = true then
 (F_laws_rTable (r37.fst.Below) (r38.fst.Below)).bind fun r40 =>
 if (r40) = true then
 some (.inl ())
 else
 some (.inr ())
 else
 some (.inr ()) : Option (Unit ⊕ Unit))).bind fun t => match t with
 | (.inl _) => (if (r37.snd) = true then
 (F_impl_EndsOf (r36.fst)).bind fun r44 =>
 (F_impl_EndsOf (r36.snd)).bind fun r45 =>
 (F_impl_EndsOf (r37.fst)).bind fun r46 =>
 (F_impl_IsLattice (r37.fst)).bind fun r47 =>
 if (r47) = true then
 if (r44.snd.snd) = true then
 if (r45.snd.snd) = true then
 if (r46.snd.snd) = true then
 if r46.fst ≠ r44.fst then
 some false
 else
 ask (InI (r45.snd.fst + (↑r36.fst.Below.length : Int))) <|
 if r46.snd.fst ≠ r45.snd.fst + (↑r36.fst.Below.length : Int) then
 some false
 else
 some true
 else
 some false
 else
 some false
 else
 some false
 else
 some false
 else
 some true)
 | (.inr _) => (some false)))
 | (.inr _) => (some false)
theorem t_laws_FnLatticeProducts {code0 : (List Int)} {v : Bool} (h : F_laws_FnLatticeProducts code0 = some v) : Ret Try.prog f_laws_FnLatticeProducts [(slr false 1 (V.int IntKind.u8)) code0] (V.bool v) := by
  refine ret_vc k_laws_FnLatticeProducts (Nat.le_of_ble_eq_true rfl) ?_
  unfold F_laws_FnLatticeProducts at h
  conv => whnf
  refine CallQ.o V.bool (by rfl) h (fun r h => t_laws_rBig h) (fun r1 h => ?_)
  conv => whnf
  refine Br.ob h (fun p2 h => ?_) (fun p2 h => ?_)
  · conv => whnf
    cases h; exact (by rfl)
  conv => whnf
  refine CallQ.o (fun r => V.tup [(rS_Poset false) r.1, (rS_Poset false) r.2]) (by rfl) h (fun r h => t_spec_DrawProductLattice h) (fun r3 h => ?_)
  conv => whnf
  refine SetKids.lit rfl ?_
  conv => whnf
  refine SetKids.lit rfl ?_
  conv => whnf
  refine Cells.lit rfl rfl ?_
  conv => whnf
  refine Cells.lit rfl rfl ?_
  conv => whnf
  refine CallQ.o (fun r => V.tup [(rS_Poset true) r.1, V.bool r.2]) (by rfl) h (fun r h => t_impl_ProductLattice h) (fun r4 h => ?_)
  conv => whnf
  refine SetKids.lit rfl ?_
  conv => whnf
  refine CutQ.o (fun t : (Unit ⊕ Unit) => match t with | (.inl s) => (Ex.normal, [6, 5, 4, 3, 0], [(6, A.val (V.bool (r4.snd))), (5, A.val ((rP true (rS_Poset true)) (r4.fst))), (4, A.val ((rP true (rS_Poset false)) (r3.snd))), (3, A.val ((rP true (rS_Poset false)) (r3.fst))), (0, A.val ((slr false 1 (V.int IntKind.u8)) (code0)))]) | (.inr s) => (Ex.ret, [2], [(2, A.val (V.bool (false)))])) h ?_ ?_
  · intro t h
    conv => whnf
    refine Cells.lit rfl rfl ?_
    conv => whnf
    refine Cells.lit rfl rfl ?_
    conv => whnf
    refine CallQ.o (fun r => V.tup [(rS_Poset true) r.1, V.bool r.2]) (by rfl) h (fun r h => t_spec_ProductLattice h) (fun r5 h => ?_)
    conv => whnf
    refine SetKids.lit rfl ?_
    conv => whnf
    refine Br.flip ?_
    conv => whnf
    refine Br.ob h (fun p6 h => ?_) (fun p6 h => ?_)
    · conv => whnf
      refine Br.no ?_
      conv => whnf
      refine Cells.lit rfl rfl ?_
      conv => whnf
      refine Br.no ?_
      conv => whnf
      refine Br.no ?_
      conv => whnf
      refine Cells.lit rfl rfl ?_
      conv => whnf
      refine Br.no ?_
      conv => whnf
      refine Kid.lit rfl rfl ?_
      conv => whnf
      refine Kid.lit rfl rfl ?_
      conv => whnf
      refine CallQ.rd V.bool (by first | rfl | simp only [V.fz, fzL_map, slr] | simp [mulN_one, V.fz, fzL, V.up, upL, fzL_map, fz_slr, fz_at, slr]) (fun _ => rfl) h (fun r h => t_laws_rTable h) (fun r7 h => ?_)
      conv => whnf
      refine Br.no ?_
      conv => whnf
      refine Br.no ?_
      conv => whnf
      refine Br.flip ?_
      conv => whnf
      refine Br.ob h (fun p8 h => ?_) (fun p8 h => ?_)
      · conv => whnf
        cases h; exact ⟨rfl, rfl⟩
      conv => whnf
      cases h; exact ⟨rfl, rfl⟩
    conv => whnf
    refine Br.yes ?_
    conv => whnf
    refine Br.yes ?_
    conv => whnf
    refine Br.yes ?_
    conv => whnf
    refine Br.yes ?_
    conv => whnf
    refine Br.yes ?_
    conv => whnf
    refine Br.yes ?_
    conv => whnf
    refine Br.yes ?_
    conv => whnf
    cases h; exact ⟨rfl, rfl⟩
  rintro (⟨⟩ | ⟨⟩) h
  · try dsimp only at h
    conv => whnf
    refine CutQ.o (fun t : (Unit ⊕ Unit) => match t with | (.inl s) => (Ex.ret, [2], [(2, A.val (V.bool (false)))]) | (.inr s) => (Ex.normal, [0], [(0, A.val ((slr false 1 (V.int IntKind.u8)) (code0)))])) h ?_ ?_
    · intro t h
      conv => whnf
      refine Br.ob h (fun p10 h => ?_) (fun p10 h => ?_)
      · conv => whnf
        refine Cells.lit rfl rfl ?_
        conv => whnf
        refine CallQ.o (fun r => V.tup [(slr true 1 vint) r.1, V.bool r.2]) (by rfl) h (fun r h => t_impl_AtomsOf h) (fun r11 h => ?_)
        conv => whnf
        refine Cells.lit rfl rfl ?_
        conv => whnf
        refine CallQ.o (fun r => V.tup [(slr true 1 vint) r.1, V.bool r.2]) (by rfl) h (fun r h => t_impl_AtomsOf h) (fun r12 h => ?_)
        conv => whnf
        refine Cells.lit rfl rfl ?_
        conv => whnf
        refine CallQ.rd (fun r => V.tup [(slr true 1 vint) r.1, V.bool r.2]) (by first | rfl | simp only [V.fz, fzL_map] | simp [mulN_one, V.fz, fzL, V.up, upL, fzL_map, fz_slr, fz_at, slr]) (fun _ => by simp [V.noFz, noFzL, noFzL_map]) h (fun r h => t_impl_AtomsOf h) (fun r13 h => ?_)
        conv => whnf
        refine CutQ.o (fun t : (Unit ⊕ Unit) => match t with | (.inl s) => (Ex.normal, [14, 13, 12, 11, 10, 9, 5, 4, 3, 0], [(14, A.val (V.bool (r13.snd))), (13, A.val ((slr true 1 vint) (r13.fst))), (12, A.val (V.bool (r12.snd))), (11, A.val ((slr true 1 vint) (r12.fst))), (10, A.val (V.bool (r11.snd))), (9, A.val ((slr true 1 vint) (r11.fst))), (5, A.val ((rP true (rS_Poset true)) (r4.fst))), (4, A.val ((rP true (rS_Poset false)) (r3.snd))), (3, A.val ((rP true (rS_Poset false)) (r3.fst))), (0, A.val ((slr false 1 (V.int IntKind.u8)) (code0)))]) | (.inr s) => (Ex.ret, [2], [(2, A.val (V.bool (false)))])) h ?_ ?_
        · intro t h
          conv => whnf
          refine Cells.lit rfl rfl ?_
          conv => whnf
          refine CallQ.rd (fun r => V.tup [(slr true 1 vint) r.1, V.bool r.2]) (by first | rfl | simp only [V.fz, fzL_map] | simp [mulN_one, V.fz, fzL, V.up, upL, fzL_map, fz_slr, fz_at, slr]) (fun _ => by simp [V.noFz, noFzL, noFzL_map]) h (fun r h => t_spec_AtomsOf h) (fun r14 h => ?_)
          conv => whnf
          refine Br.flip ?_
          conv => whnf
          refine Br.ob h (fun p15 h => ?_) (fun p15 h => ?_)
          · conv => whnf
            refine Br.no ?_
            conv => whnf
            refine Br.no ?_
            conv => whnf
            refine CallQ.rd V.bool (by first | rfl | simp only [V.fz, fzL_map, slr] | simp [mulN_one, V.fz, fzL, V.up, upL, fzL_map, fz_slr, fz_at, slr]) (fun _ => rfl) h (fun r h => t_laws_rInts h) (fun r16 h => ?_)
            conv => whnf
            refine Br.no ?_
            conv => whnf
            refine Br.no ?_
            conv => whnf
            refine Br.flip ?_
            conv => whnf
            refine Br.ob h (fun p17 h => ?_) (fun p17 h => ?_)
            · conv => whnf
              cases h; exact ⟨rfl, rfl⟩
            conv => whnf
            cases h; exact ⟨rfl, rfl⟩
          conv => whnf
          refine Br.yes ?_
          conv => whnf
          refine Br.yes ?_
          conv => whnf
          refine Br.yes ?_
          conv => whnf
          refine Br.yes ?_
          conv => whnf
          refine Br.yes ?_
          conv => whnf
          cases h; exact ⟨rfl, rfl⟩
        rintro (⟨⟩ | ⟨⟩) h
        · try dsimp only at h
          conv => whnf
          refine CutQ.o (fun t : (Unit ⊕ Unit) => match t with | (.inl s) => (Ex.ret, [2], [(2, A.val (V.bool (false)))]) | (.inr s) => (Ex.normal, [5, 4, 3, 0], [(5, A.val ((rP true (rS_Poset true)) (r4.fst))), (4, A.val ((rP true (rS_Poset false)) (r3.snd))), (3, A.val ((rP true (rS_Poset false)) (r3.fst))), (0, A.val ((slr false 1 (V.int IntKind.u8)) (code0)))])) h ?_ ?_
          · intro t h
            conv => whnf
            refine Cells.lit rfl rfl ?_
            conv => whnf
            refine CallQ.rd V.bool (by first | rfl | simp only [V.fz, fzL_map] | simp [mulN_one, V.fz, fzL, V.up, upL, fzL_map, fz_slr, fz_at, slr]) (fun _ => rfl) h (fun r h => t_impl_IsLattice h) (fun r19 h => ?_)
            conv => whnf
            refine Br.flip ?_
            conv => whnf
            refine Br.ob h (fun p20 h => ?_) (fun p20 h => ?_)
            · conv => whnf
              refine Br.no ?_
              conv => whnf
              refine Br.no ?_
              conv => whnf
              refine Br.flip ?_
              conv => whnf
              refine Br.ob h (fun p21 h => ?_) (fun p21 h => ?_)
              · conv => whnf
                refine Br.no ?_
                conv => whnf
                refine Br.no ?_
                conv => whnf
                refine Br.flip ?_
                conv => whnf
                refine Br.ob h (fun p22 h => ?_) (fun p22 h => ?_)
                · conv => whnf
                  refine Br.no ?_
                  conv => whnf
                  refine Br.no ?_
                  conv => whnf
                  refine Br.flip ?_
                  conv => whnf
                  refine Br.ob h (fun p23 h => ?_) (fun p23 h => ?_)
                  · conv => whnf
                    refine Br.no ?_
                    conv => whnf
                    refine Len.map ?_
                    conv => whnf
                    refine Br.no ?_
                    conv => whnf
                    refine Br.no ?_
                    conv => whnf
                    refine Len.map ?_
                    conv => whnf
                    refine Br.no ?_
                    conv => whnf
                    refine Br.no ?_
                    conv => whnf
                    refine Len.map ?_
                    conv => whnf
                    refine Br.no ?_
                    conv => whnf
                    refine Ask.o h fun p24 h => ?_
                    conv => whnf
                    refine Br.no ?_
                    conv => whnf
                    refine Br.no ?_
                    conv => whnf
                    refine Br.on h (fun p25 h => ?_) (fun p25 h => ?_)
                    · conv => whnf
                      cases h; exact ⟨rfl, rfl⟩
                    conv => whnf
                    cases h; exact ⟨rfl, rfl⟩
                  conv => whnf
                  refine Br.yes ?_
                  conv => whnf
                  refine Br.yes ?_
                  conv => whnf
                  refine Br.yes ?_
                  conv => whnf
                  refine Br.yes ?_
                  conv => whnf
                  refine Br.yes ?_
                  conv => whnf
                  refine Br.yes ?_
                  conv => whnf
                  refine Br.yes ?_
                  conv => whnf
                  refine Br.yes ?_
                  conv => whnf
                  refine Br.yes ?_
                  conv => whnf
                  cases h; exact ⟨rfl, rfl⟩
                conv => whnf
                refine Br.yes ?_
                conv => whnf
                refine Br.yes ?_
                conv => whnf
                refine Br.yes ?_
                conv => whnf
                refine Br.yes ?_
                conv => whnf
                refine Br.yes ?_
                conv => whnf
                refine Br.yes ?_
                conv => whnf
                refine Br.yes ?_
                conv => whnf
                refine Br.yes ?_
                conv => whnf
                refine Br.yes ?_
                conv => whnf
                refine Br.yes ?_
                conv => whnf
                refine Br.yes ?_
                conv => whnf
                refine Br.yes ?_
                conv => whnf
                cases h; exact ⟨rfl, rfl⟩
              conv => whnf
              refine Br.yes ?_
              conv => whnf
              refine Br.yes ?_
              conv => whnf
              refine Br.yes ?_
              conv => whnf
              refine Br.yes ?_
              conv => whnf
              refine Br.yes ?_
              conv => whnf
              refine Br.yes ?_
              conv => whnf
              refine Br.yes ?_
              conv => whnf
              refine Br.yes ?_
              conv => whnf
              refine Br.yes ?_
              conv => whnf
              refine Br.yes ?_
              conv => whnf
              refine Br.yes ?_
              conv => whnf
              refine Br.yes ?_
              conv => whnf
              refine Br.yes ?_
              conv => whnf
              refine Br.yes ?_
              conv => whnf
              refine Br.yes ?_
              conv => whnf
              cases h; exact ⟨rfl, rfl⟩
            conv => whnf
            refine Br.yes ?_
            conv => whnf
            refine Br.yes ?_
            conv => whnf
            refine Br.yes ?_
            conv => whnf
            refine Br.yes ?_
            conv => whnf
            refine Br.yes ?_
            conv => whnf
            refine Br.yes ?_
            conv => whnf
            refine Br.yes ?_
            conv => whnf
            refine Br.yes ?_
            conv => whnf
            refine Br.yes ?_
            conv => whnf
            refine Br.yes ?_
            conv => whnf
            refine Br.yes ?_
            conv => whnf
            refine Br.yes ?_
            conv => whnf
            refine Br.yes ?_
            conv => whnf
            refine Br.yes ?_
            conv => whnf
            refine Br.yes ?_
            conv => whnf
            refine Br.yes ?_
            conv => whnf
            refine Br.yes ?_
            conv => whnf
            refine Br.yes ?_
            conv => whnf
            cases h; exact ⟨rfl, rfl⟩
          rintro (⟨⟩ | ⟨⟩) h
          · try dsimp only at h
            conv => whnf
            cases h; exact ⟨rfl, rfl⟩
          try dsimp only at h
          conv => whnf
          refine Cells.lit rfl rfl ?_
          conv => whnf
          refine CallQ.o (fun r => V.tup [(slr true 1 vint) r.1, V.bool r.2]) (by rfl) h (fun r h => t_impl_JoinIrreducibles h) (fun r27 h => ?_)
          conv => whnf
          refine Cells.lit rfl rfl ?_
          conv => whnf
          refine CallQ.o (fun r => V.tup [(slr true 1 vint) r.1, V.bool r.2]) (by rfl) h (fun r h => t_impl_JoinIrreducibles h) (fun r28 h => ?_)
          conv => whnf
          refine Cells.lit rfl rfl ?_
          conv => whnf
          refine CallQ.rd (fun r => V.tup [(slr true 1 vint) r.1, V.bool r.2]) (by first | rfl | simp only [V.fz, fzL_map] | simp [mulN_one, V.fz, fzL, V.up, upL, fzL_map, fz_slr, fz_at, slr]) (fun _ => by simp [V.noFz, noFzL, noFzL_map]) h (fun r h => t_impl_JoinIrreducibles h) (fun r29 h => ?_)
          conv => whnf
          refine Br.flip ?_
          conv => whnf
          refine Br.ob h (fun p30 h => ?_) (fun p30 h => ?_)
          · conv => whnf
            refine Br.no ?_
            conv => whnf
            refine Br.no ?_
            conv => whnf
            refine Br.flip ?_
            conv => whnf
            refine Br.ob h (fun p31 h => ?_) (fun p31 h => ?_)
            · conv => whnf
              refine Br.no ?_
              conv => whnf
              refine Br.no ?_
              conv => whnf
              refine Br.flip ?_
              conv => whnf
              refine Br.ob h (fun p32 h => ?_) (fun p32 h => ?_)
              · conv => whnf
                refine Br.no ?_
                conv => whnf
                refine Len.map ?_
                conv => whnf
                refine Br.no ?_
                conv => whnf
                refine Br.no ?_
                conv => whnf
                refine Len.map ?_
                conv => whnf
                refine Br.no ?_
                conv => whnf
                refine Br.no ?_
                conv => whnf
                refine Len.map ?_
                conv => whnf
                refine Br.no ?_
                conv => whnf
                refine Ask.o h fun p33 h => ?_
                conv => whnf
                refine Br.no ?_
                conv => whnf
                refine Br.no ?_
                conv => whnf
                refine Br.on h (fun p34 h => ?_) (fun p34 h => ?_)
                · conv => whnf
                  cases h; exact ⟨rfl, rfl⟩
                conv => whnf
                cases h; exact ⟨rfl, rfl⟩
              conv => whnf
              refine Br.yes ?_
              conv => whnf
              refine Br.yes ?_
              conv => whnf
              refine Br.yes ?_
              conv => whnf
              refine Br.yes ?_
              conv => whnf
              refine Br.yes ?_
              conv => whnf
              refine Br.yes ?_
              conv => whnf
              refine Br.yes ?_
              conv => whnf
              refine Br.yes ?_
              conv => whnf
              refine Br.yes ?_
              conv => whnf
              cases h; exact ⟨rfl, rfl⟩
            conv => whnf
            refine Br.yes ?_
            conv => whnf
            refine Br.yes ?_
            conv => whnf
            refine Br.yes ?_
            conv => whnf
            refine Br.yes ?_
            conv => whnf
            refine Br.yes ?_
            conv => whnf
            refine Br.yes ?_
            conv => whnf
            refine Br.yes ?_
            conv => whnf
            refine Br.yes ?_
            conv => whnf
            refine Br.yes ?_
            conv => whnf
            refine Br.yes ?_
            conv => whnf
            refine Br.yes ?_
            conv => whnf
            refine Br.yes ?_
            conv => whnf
            cases h; exact ⟨rfl, rfl⟩
          conv => whnf
          refine Br.yes ?_
          conv => whnf
          refine Br.yes ?_
          conv => whnf
          refine Br.yes ?_
          conv => whnf
          refine Br.yes ?_
          conv => whnf
          refine Br.yes ?_
          conv => whnf
          refine Br.yes ?_
          conv => whnf
          refine Br.yes ?_
          conv => whnf
          refine Br.yes ?_
          conv => whnf
          refine Br.yes ?_
          conv => whnf
          refine Br.yes ?_
          conv => whnf
          refine Br.yes ?_
          conv => whnf
          refine Br.yes ?_
          conv => whnf
          refine Br.yes ?_
          conv => whnf
          refine Br.yes ?_
          conv => whnf
          refine Br.yes ?_
          conv => whnf
          cases h; exact ⟨rfl, rfl⟩
        try dsimp only at h
        conv => whnf
        cases h; exact ⟨rfl, rfl⟩
      conv => whnf
      cases h; exact ⟨rfl, rfl⟩
    rintro (⟨⟩ | ⟨⟩) h
    · try dsimp only at h
      conv => whnf
      cases h; exact (by rfl)
    try dsimp only at h
    conv => whnf
    refine CallQ.o (fun r => V.tup [(rS_Poset false) r.1, (rS_Poset false) r.2]) (by rfl) h (fun r h => t_spec_DrawStackLattice h) (fun r36 h => ?_)
    conv => whnf
    refine SetKids.lit rfl ?_
    conv => whnf
    refine SetKids.lit rfl ?_
    conv => whnf
    refine Cells.lit rfl rfl ?_
    conv => whnf
    refine Cells.lit rfl rfl ?_
    conv => whnf
    refine CallQ.o (fun r => V.tup [(rS_Poset true) r.1, V.bool r.2]) (by rfl) h (fun r h => t_impl_StackLattice h) (fun r37 h => ?_)
    conv => whnf
    refine SetKids.lit rfl ?_
    conv => whnf
    refine CutQ.o (fun t : (Unit ⊕ Unit) => match t with | (.inl s) => (Ex.normal, [26, 25, 24, 23], [(26, A.val (V.bool (r37.snd))), (25, A.val ((rP true (rS_Poset true)) (r37.fst))), (24, A.val ((rP true (rS_Poset false)) (r36.snd))), (23, A.val ((rP true (rS_Poset false)) (r36.fst)))]) | (.inr s) => (Ex.ret, [2], [(2, A.val (V.bool (false)))])) h ?_ ?_
    · intro t h
      conv => whnf
      refine Cells.lit rfl rfl ?_
      conv => whnf
      refine Cells.lit rfl rfl ?_
      conv => whnf
      refine CallQ.o (fun r => V.tup [(rS_Poset true) r.1, V.bool r.2]) (by rfl) h (fun r h => t_spec_StackLattice h) (fun r38 h => ?_)
      conv => whnf
      refine SetKids.lit rfl ?_
      conv => whnf
      refine Br.flip ?_
      conv => whnf
      refine Br.ob h (fun p39 h => ?_) (fun p39 h => ?_)
      · conv => whnf
        refine Br.no ?_
        conv => whnf
        refine Cells.lit rfl rfl ?_
        conv => whnf
        refine Br.no ?_
        conv => whnf
        refine Br.no ?_
        conv => whnf
        refine Cells.lit rfl rfl ?_
        conv => whnf
        refine Br.no ?_
        conv => whnf
        refine Kid.lit rfl rfl ?_
        conv => whnf
        refine Kid.lit rfl rfl ?_
        conv => whnf
        refine CallQ.rd V.bool (by first | rfl | simp only [V.fz, fzL_map, slr] | simp [mulN_one, V.fz, fzL, V.up, upL, fzL_map, fz_slr, fz_at, slr]) (fun _ => rfl) h (fun r h => t_laws_rTable h) (fun r40 h => ?_)
        conv => whnf
        refine Br.no ?_
        conv => whnf
        refine Br.no ?_
        conv => whnf
        refine Br.flip ?_
        conv => whnf
        refine Br.ob h (fun p41 h => ?_) (fun p41 h => ?_)
        · conv => whnf
          cases h; exact ⟨rfl, rfl⟩
        conv => whnf
        cases h; exact ⟨rfl, rfl⟩
      conv => whnf
      refine Br.yes ?_
      conv => whnf
      refine Br.yes ?_
      conv => whnf
      refine Br.yes ?_
      conv => whnf
      refine Br.yes ?_
      conv => whnf
      refine Br.yes ?_
      conv => whnf
      refine Br.yes ?_
      conv => whnf
      refine Br.yes ?_
      conv => whnf
      cases h; exact ⟨rfl, rfl⟩
    rintro (⟨⟩ | ⟨⟩) h
    · try dsimp only at h
      conv => whnf
      refine Br.ob h (fun p43 h => ?_) (fun p43 h => ?_)
      · conv => whnf
        refine Cells.lit rfl rfl ?_
        conv => whnf
        refine CallQ.o (fun r => V.tup [vint r.1, vint r.2.1, V.bool r.2.2]) (by rfl) h (fun r h => t_impl_EndsOf h) (fun r44 h => ?_)
        conv => whnf
        refine Cells.lit rfl rfl ?_
        conv => whnf
        refine CallQ.o (fun r => V.tup [vint r.1, vint r.2.1, V.bool r.2.2]) (by rfl) h (fun r h => t_impl_EndsOf h) (fun r45 h => ?_)
        conv => whnf
        refine Cells.lit rfl rfl ?_
        conv => whnf
        refine CallQ.rd (fun r => V.tup [vint r.1, vint r.2.1, V.bool r.2.2]) (by first | rfl | simp only [V.fz, fzL_map] | simp [mulN_one, V.fz, fzL, V.up, upL, fzL_map, fz_slr, fz_at, slr]) (fun _ => by simp [V.noFz, noFzL]) h (fun r h => t_impl_EndsOf h) (fun r46 h => ?_)
        conv => whnf
        refine Cells.lit rfl rfl ?_
        conv => whnf
        refine CallQ.rd V.bool (by first | rfl | simp only [V.fz, fzL_map] | simp [mulN_one, V.fz, fzL, V.up, upL, fzL_map, fz_slr, fz_at, slr]) (fun _ => rfl) h (fun r h => t_impl_IsLattice h) (fun r47 h => ?_)
        conv => whnf
        refine Br.flip ?_
        conv => whnf
        refine Br.ob h (fun p48 h => ?_) (fun p48 h => ?_)
        · conv => whnf
          refine Br.no ?_
          conv => whnf
          refine Br.no ?_
          conv => whnf
          refine Br.flip ?_
          conv => whnf
          refine Br.ob h (fun p49 h => ?_) (fun p49 h => ?_)
          · conv => whnf
            refine Br.no ?_
            conv => whnf
            refine Br.no ?_
            conv => whnf
            refine Br.flip ?_
            conv => whnf
            refine Br.ob h (fun p50 h => ?_) (fun p50 h => ?_)
            · conv => whnf
              refine Br.no ?_
              conv => whnf
              refine Br.no ?_
              conv => whnf
              refine Br.flip ?_
              conv => whnf
              refine Br.ob h (fun p51 h => ?_) (fun p51 h => ?_)
              · conv => whnf
                refine Br.no ?_
                conv => whnf
                refine Br.no ?_
                conv => whnf
                refine Br.no ?_
                conv => whnf
                refine Br.on h (fun p52 h => ?_) (fun p52 h => ?_)
                · conv => whnf
                  refine Br.yes ?_
                  conv => whnf
                  refine Br.yes ?_
                  conv => whnf
                  refine Br.yes ?_
                  conv => whnf
                  refine Br.yes ?_
                  conv => whnf
                  refine Br.yes ?_
                  conv => whnf
                  refine Br.yes ?_
                  conv => whnf
                  refine Br.yes ?_
                  conv => whnf
                  refine Br.yes ?_
                  conv => whnf
                  cases h; exact (by rfl)
                conv => whnf
                refine Br.no ?_
                conv => whnf
                refine Br.no ?_
                conv => whnf
                refine Br.no ?_
                conv => whnf
                refine Cells.lit rfl rfl ?_
                conv => whnf
                refine Br.no ?_
                conv => whnf
                refine Len.map ?_
                conv => whnf
                refine Br.no ?_
                conv => whnf
                refine Ask.o h fun p53 h => ?_
                conv => whnf
                refine Br.no ?_
                conv => whnf
                refine Br.no ?_
                conv => whnf
                refine Br.on h (fun p54 h => ?_) (fun p54 h => ?_)
                · conv => whnf
                  cases h; exact (by rfl)
                conv => whnf
                cases h; exact (by rfl)
              conv => whnf
              refine Br.yes ?_
              conv => whnf
              refine Br.yes ?_
              conv => whnf
              refine Br.yes ?_
              conv => whnf
              refine Br.yes ?_
              conv => whnf
              refine Br.yes ?_
              conv => whnf
              refine Br.yes ?_
              conv => whnf
              refine Br.yes ?_
              conv => whnf
              refine Br.yes ?_
              conv => whnf
              refine Br.yes ?_
              conv => whnf
              refine Br.yes ?_
              conv => whnf
              refine Br.yes ?_
              conv => whnf
              refine Br.yes ?_
              conv => whnf
              cases h; exact (by rfl)
            conv => whnf
            refine Br.yes ?_
            conv => whnf
            refine Br.yes ?_
            conv => whnf
            refine Br.yes ?_
            conv => whnf
            refine Br.yes ?_
            conv => whnf
            refine Br.yes ?_
            conv => whnf
            refine Br.yes ?_
            conv => whnf
            refine Br.yes ?_
            conv => whnf
            refine Br.yes ?_
            conv => whnf
            refine Br.yes ?_
            conv => whnf
            refine Br.yes ?_
            conv => whnf
            refine Br.yes ?_
            conv => whnf
            refine Br.yes ?_
            conv => whnf
            refine Br.yes ?_
            conv => whnf
            refine Br.yes ?_
            conv => whnf
            refine Br.yes ?_
            conv => whnf
            cases h; exact (by rfl)
          conv => whnf
          refine Br.yes ?_
          conv => whnf
          refine Br.yes ?_
          conv => whnf
          refine Br.yes ?_
          conv => whnf
          refine Br.yes ?_
          conv => whnf
          refine Br.yes ?_
          conv => whnf
          refine Br.yes ?_
          conv => whnf
          refine Br.yes ?_
          conv => whnf
          refine Br.yes ?_
          conv => whnf
          refine Br.yes ?_
          conv => whnf
          refine Br.yes ?_
          conv => whnf
          refine Br.yes ?_
          conv => whnf
          refine Br.yes ?_
          conv => whnf
          refine Br.yes ?_
          conv => whnf
          refine Br.yes ?_
          conv => whnf
          refine Br.yes ?_
          conv => whnf
          refine Br.yes ?_
          conv => whnf
          refine Br.yes ?_
          conv => whnf
          refine Br.yes ?_
          conv => whnf
          cases h; exact (by rfl)
        conv => whnf
        refine Br.yes ?_
        conv => whnf
        refine Br.yes ?_
        conv => whnf
        refine Br.yes ?_
        conv => whnf
        refine Br.yes ?_
        conv => whnf
        refine Br.yes ?_
        conv => whnf
        refine Br.yes ?_
        conv => whnf
        refine Br.yes ?_
        conv => whnf
        refine Br.yes ?_
        conv => whnf
        refine Br.yes ?_
        conv => whnf
        refine Br.yes ?_
        conv => whnf
        refine Br.yes ?_
        conv => whnf
        refine Br.yes ?_
        conv => whnf
        refine Br.yes ?_
        conv => whnf
        refine Br.yes ?_
        conv => whnf
        refine Br.yes ?_
        conv => whnf
        refine Br.yes ?_
        conv => whnf
        refine Br.yes ?_
        conv => whnf
        refine Br.yes ?_
        conv => whnf
        refine Br.yes ?_
        conv => whnf
        refine Br.yes ?_
        conv => whnf
        refine Br.yes ?_
        conv => whnf
        cases h; exact (by rfl)
      conv => whnf
      cases h; exact (by rfl)
    try dsimp only at h
    conv => whnf
    cases h; exact (by rfl)
  try dsimp only at h
  conv => whnf
  cases h; exact (by rfl)

end Go.Proofs.Ytoikbcagaanhgaa.Ax
