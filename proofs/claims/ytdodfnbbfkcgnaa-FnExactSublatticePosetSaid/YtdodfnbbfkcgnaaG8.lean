/-
  What the functions compute, as functions on plain data, and that the program does compute it; written by program.
-/
import Derived.Test.YtdodfnbbfkcgnaaCode
import Derived.Test.YtdodfnbbfkcgnaaG4
import Derived.Test.YtdodfnbbfkcgnaaG7
namespace Go.Proofs.Ytdodfnbbfkcgnaa.Ax
open Go
set_option maxRecDepth 100000
set_option maxHeartbeats 4000000

noncomputable def F_spec_SublatticePoset_l1 (p0 : SPoset) (sub0 : List Int) (x7 : Int) (_x6 : SPoset) : (Int × (List Int)) → Option ((Int × (List Int)) ⊕ (List Int)) := fun (x9, x8) =>
   if x9 < (↑sub0.length : Int) then
    ask ((0 : Int) ≤ x9 ∧ x9 < (↑sub0.length : Int)) <|
    ask ((0 : Int) ≤ x7 ∧ x7 < (↑sub0.length : Int)) <|
    (F_spec_l23Leq (p0) (nth sub0 x9.toNat) (nth sub0 x7.toNat)).bind fun r10 =>
    if (r10) = true then
     ask ((x8).length + ([x9]).length ≤ LIM) <|
     ask (InI (x9 + (1 : Int))) <|
     some (.inl (x9 + (1 : Int), x8 ++ [x9]))
    else
     ask (InI (x9 + (1 : Int))) <|
     some (.inl (x9 + (1 : Int), x8))
   else
    some (.inr x8)
def S_spec_SublatticePoset_l1 (p0 : SPoset) (sub0 : List Int) (x7 : Int) (x6 : SPoset) : (Int × (List Int)) → St := fun s => [(9, A.val (vint s.1)), (8, A.val ((slr true 1 vint) s.2)), (7, A.val (vint (x7))), (6, A.val ((rP true (rS_Poset true)) (x6))), (4, A.val ((rP true (rS_Poset true)) ({ Below := nilL (List Int) }))), (2, A.val ((rP true (rS_Poset false)) (p0))), (1, A.val ((slr false 1 vint) (sub0)))]
def T_spec_SublatticePoset_l1 (p0 : SPoset) (sub0 : List Int) (x7 : Int) (x6 : SPoset) : (List Int) → Tgt
  | s => ((Ex.exit 2), [8, 7, 6, 4, 2, 1], [(8, A.val ((slr true 1 vint) s)), (7, A.val (vint (x7))), (6, A.val ((rP true (rS_Poset true)) (x6))), (4, A.val ((rP true (rS_Poset true)) ({ Below := nilL (List Int) }))), (2, A.val ((rP true (rS_Poset false)) (p0))), (1, A.val ((slr false 1 vint) (sub0)))])
theorem b_spec_SublatticePoset_l1 {p0 : SPoset} {sub0 : List Int} {x7 : Int} {x6 : SPoset} (s : (Int × (List Int))) (o : (Int × (List Int)) ⊕ (List Int)) (h : F_spec_SublatticePoset_l1 p0 sub0 x7 x6 s = some o) : vc Try.prog c_spec_SublatticePoset_l1 (outQ [9, 8, 7, 6, 4, 2, 1] (S_spec_SublatticePoset_l1 p0 sub0 x7 x6) (T_spec_SublatticePoset_l1 p0 sub0 x7 x6) o) (S_spec_SublatticePoset_l1 p0 sub0 x7 x6 s) := by
  obtain ⟨x9, x8⟩ := s
  unfold F_spec_SublatticePoset_l1 at h
  try dsimp only at h
  conv => whnf
  refine Len.map ?_
  conv => whnf
  refine Br.od h (fun p7 h => ?_) (fun p7 h => ?_)
  · conv => whnf
    refine Cells.lit rfl rfl ?_
    conv => whnf
    refine Len.map ?_
    conv => whnf
    refine Ask.o h fun p8 h => ?_
    conv => whnf
    refine Elem.o (by first | omega | (simp only [mulN] at *; omega) | (simp [mulN] at *; omega)) ?_
    conv => whnf
    refine Len.map ?_
    conv => whnf
    refine Ask.o h fun p9 h => ?_
    conv => whnf
    refine Elem.o (by first | omega | (simp only [mulN] at *; omega) | (simp [mulN] at *; omega)) ?_
    conv => whnf
    refine CallQ.o V.bool (by first | rfl | simp only [mulN_one, V.fz, fzL, V.up, upL, fzL_map, fz_slr, fz_at, slr, List.cons_append, List.nil_append] | simp [mulN_one, V.fz, fzL, V.up, upL, fzL_map, fz_slr, fz_at, slr]) h (fun r h => t_spec_l23Leq h) (fun r10 h => ?_)
    conv => whnf
    refine Br.ob h (fun p11 h => ?_) (fun p11 h => ?_)
    · conv => whnf
      refine BslQ.o vint [x9] (by exact fun _ => ⟨rfl, rfl⟩) (by first | rfl | simp only [mulN_one, V.fz, fzL, V.up, upL, fzL_map, fz_slr, fz_at, slr, List.cons_append, List.nil_append] | simp [mulN_one, V.fz, fzL, V.up, upL, fzL_map, fz_slr, fz_at, slr]) ?_
      conv => whnf
      refine NoOwn.o (fun _ => rfl) ?_
      conv => whnf
      refine AppQ.o (m := 1) vint (by exact fun _ => ⟨rfl, rfl⟩) (x8) ([x9]) (by first | rfl | simp only [mulN_one, V.fz, fzL, V.up, upL, fzL_map, fz_slr, fz_at, slr, List.cons_append, List.nil_append] | simp [mulN_one, V.fz, fzL, V.up, upL, fzL_map, fz_slr, fz_at, slr]) (by first | rfl | simp only [mulN_one, V.fz, fzL, V.up, upL, fzL_map, fz_slr, fz_at, slr, List.cons_append, List.nil_append] | simp [mulN_one, V.fz, fzL, V.up, upL, fzL_map, fz_slr, fz_at, slr]) h fun h => ?_
      conv => whnf
      refine Ask.o h fun p12 h => ?_
      conv => whnf
      cases h; exact ⟨rfl, rfl⟩
    · conv => whnf
      refine Ask.o h fun p13 h => ?_
      conv => whnf
      cases h; exact ⟨rfl, rfl⟩
  · conv => whnf
    cases h; exact ⟨rfl, rfl⟩

noncomputable def F_spec_SublatticePoset_l2 (p0 : SPoset) (sub0 : List Int) : (Int × SPoset) → Option ((Int × SPoset) ⊕ SPoset) := fun (x7, x6) =>
   if x7 < (↑sub0.length : Int) then
    (loopO (F_spec_SublatticePoset_l1 p0 sub0 x7 x6) ((0 : Int), nilL Int)).bind fun q14_8 =>
    ask ((x6.Below).length + ([q14_8]).length ≤ LIM) <|
    ask (InI (x7 + (1 : Int))) <|
    some (.inl (x7 + (1 : Int), { Below := x6.Below ++ [q14_8] }))
   else
    some (.inr x6)
def S_spec_SublatticePoset_l2 (p0 : SPoset) (sub0 : List Int) : (Int × SPoset) → St := fun s => [(7, A.val (vint s.1)), (6, A.val ((rP true (rS_Poset true)) s.2)), (4, A.val ((rP true (rS_Poset true)) ({ Below := nilL (List Int) }))), (2, A.val ((rP true (rS_Poset false)) (p0))), (1, A.val ((slr false 1 vint) (sub0)))]
def T_spec_SublatticePoset_l2 (_p0 : SPoset) (_sub0 : List Int) : SPoset → Tgt
  | s => ((Ex.exit 0), [6, 4], [(6, A.val ((rP true (rS_Poset true)) s)), (4, A.val ((rP true (rS_Poset true)) ({ Below := nilL (List Int) })))])
theorem b_spec_SublatticePoset_l2 {p0 : SPoset} {sub0 : List Int} (s : (Int × SPoset)) (o : (Int × SPoset) ⊕ SPoset) (h : F_spec_SublatticePoset_l2 p0 sub0 s = some o) : vc Try.prog c_spec_SublatticePoset_l2 (outQ [7, 6, 4, 2, 1] (S_spec_SublatticePoset_l2 p0 sub0) (T_spec_SublatticePoset_l2 p0 sub0) o) (S_spec_SublatticePoset_l2 p0 sub0 s) := by
  obtain ⟨x7, x6⟩ := s
  unfold F_spec_SublatticePoset_l2 at h
  try dsimp only at h
  conv => whnf
  refine Len.map ?_
  conv => whnf
  refine Br.od h (fun p6 h => ?_) (fun p6 h => ?_)
  · conv => whnf
    refine BslQ.o vint (nilL Int) (by exact fun _ => ⟨rfl, rfl⟩) (by first | rfl | simp only [mulN_one, V.fz, fzL, V.up, upL, fzL_map, fz_slr, fz_at, slr, List.cons_append, List.nil_append] | simp [mulN_one, V.fz, fzL, V.up, upL, fzL_map, fz_slr, fz_at, slr]) ?_
    conv => whnf
    refine LoopQ.o [9, 8, 7, 6, 4, 2, 1] (S_spec_SublatticePoset_l1 p0 sub0 x7 x6) (T_spec_SublatticePoset_l1 p0 sub0 x7 x6) h (fun s o h => b_spec_SublatticePoset_l1 s o h) (by first | rfl | simp [restrict, look, mulN_one, V.fz, fzL, V.up, upL, fzL_map, fz_slr, fz_at, slr]) (fun _ => rfl) ?_
    rintro q14_8 h
    try dsimp only at h
    conv => whnf
    refine Cells.lit rfl rfl ?_
    conv => whnf
    refine BslQ.o (slr true 1 vint) [q14_8] (by exact fun _ => ⟨rfl, rfl⟩) (by first | rfl | simp only [mulN_one, V.fz, fzL, V.up, upL, fzL_map, fz_slr, fz_at, slr, List.cons_append, List.nil_append] | simp [mulN_one, V.fz, fzL, V.up, upL, fzL_map, fz_slr, fz_at, slr]) ?_
    conv => whnf
    refine NoOwn.own rfl ?_
    conv => whnf
    refine AppQ.o (m := 1) (slr true 1 vint) (by exact fun _ => ⟨rfl, rfl⟩) (x6.Below) ([q14_8]) (by first | rfl | simp only [mulN_one, V.fz, fzL, V.up, upL, fzL_map, fz_slr, fz_at, slr, List.cons_append, List.nil_append] | simp [mulN_one, V.fz, fzL, V.up, upL, fzL_map, fz_slr, fz_at, slr]) (by first | rfl | simp only [mulN_one, V.fz, fzL, V.up, upL, fzL_map, fz_slr, fz_at, slr, List.cons_append, List.nil_append] | simp [mulN_one, V.fz, fzL, V.up, upL, fzL_map, fz_slr, fz_at, slr]) h fun h => ?_
    conv => whnf
    refine SetKids.lit rfl ?_
    conv => whnf
    refine Ask.o h fun p15 h => ?_
    conv => whnf
    cases h; exact ⟨rfl, rfl⟩
  · conv => whnf
    cases h; exact ⟨rfl, rfl⟩

noncomputable def F_spec_SublatticePoset (p0 : SPoset) (sub0 : (List Int)) : Option (SPoset × Bool) :=
  (((F_spec_l24Good (p0)).bind fun r1 =>
     if (r1) = true then
      (F_spec_l24Sub (p0) (sub0)).bind fun r3 =>
      if (r3) = true then
       some (.inl ())
      else
       some (.inr ())
     else
      some (.inr ()) : Option (Unit ⊕ Unit))).bind fun t => match t with
  | (.inl _) => ((loopO (F_spec_SublatticePoset_l2 p0 sub0) ((0 : Int), { Below := nilL (List Int) })).bind fun q16_6 =>
    some (q16_6, true))
  | (.inr _) => (some ({ Below := nilL (List Int) }, false))
theorem t_spec_SublatticePoset {p0 : SPoset} {sub0 : (List Int)} {v : (SPoset × Bool)} (h : F_spec_SublatticePoset p0 sub0 = some v) : Ret Try.prog f_spec_SublatticePoset [(rS_Poset false) p0, (slr false 1 vint) sub0] ((fun r => V.tup [(rS_Poset true) r.1, V.bool r.2]) v) := by
  refine ret_vc k_spec_SublatticePoset (Nat.le_of_ble_eq_true rfl) ?_
  unfold F_spec_SublatticePoset at h
  conv => whnf
  refine CutQ.o (fun t : (Unit ⊕ Unit) => match t with | (.inl s) => (Ex.normal, [4, 2, 1], [(4, A.val ((rP true (rS_Poset true)) ({ Below := nilL (List Int) }))), (2, A.val ((rP true (rS_Poset false)) (p0))), (1, A.val ((slr false 1 vint) (sub0)))]) | (.inr s) => (Ex.ret, [5, 4], [(5, A.val (V.bool (false))), (4, A.val ((rP true (rS_Poset true)) ({ Below := nilL (List Int) })))])) h ?_ ?_
  · intro t h
    conv => whnf
    refine Cells.lit rfl rfl ?_
    conv => whnf
    refine CallQ.o V.bool (by first | rfl | simp only [mulN_one, V.fz, fzL, V.up, upL, fzL_map, fz_slr, fz_at, slr, List.cons_append, List.nil_append] | simp [mulN_one, V.fz, fzL, V.up, upL, fzL_map, fz_slr, fz_at, slr]) h (fun r h => t_spec_l24Good h) (fun r1 h => ?_)
    conv => whnf
    refine Br.flip ?_
    conv => whnf
    refine Br.ob h (fun p2 h => ?_) (fun p2 h => ?_)
    · conv => whnf
      refine Cells.lit rfl rfl ?_
      conv => whnf
      refine Br.no ?_
      conv => whnf
      refine Br.no ?_
      conv => whnf
      refine CallQ.o V.bool (by first | rfl | simp only [mulN_one, V.fz, fzL, V.up, upL, fzL_map, fz_slr, fz_at, slr, List.cons_append, List.nil_append] | simp [mulN_one, V.fz, fzL, V.up, upL, fzL_map, fz_slr, fz_at, slr]) h (fun r h => t_spec_l24Sub h) (fun r3 h => ?_)
      conv => whnf
      refine Br.no ?_
      conv => whnf
      refine Br.no ?_
      conv => whnf
      refine Br.flip ?_
      conv => whnf
      refine Br.ob h (fun p4 h => ?_) (fun p4 h => ?_)
      · conv => whnf
        cases h; exact ⟨rfl, rfl⟩
      · conv => whnf
        refine SetKids.lit rfl ?_
        conv => whnf
        cases h; exact ⟨rfl, rfl⟩
    · conv => whnf
      refine Br.yes ?_
      conv => whnf
      refine Br.yes ?_
      conv => whnf
      refine Br.yes ?_
      conv => whnf
      refine Br.yes ?_
      conv => whnf
      refine Br.yes ?_
      conv => whnf
      refine SetKids.lit rfl ?_
      conv => whnf
      cases h; exact ⟨rfl, rfl⟩
  · rintro (⟨⟩ | ⟨⟩) h
    · try dsimp only at h
      conv => whnf
      refine BslQ.o (slr true 1 vint) (nilL (List Int)) (by exact fun _ => ⟨rfl, rfl⟩) (by first | rfl | simp only [mulN_one, V.fz, fzL, V.up, upL, fzL_map, fz_slr, fz_at, slr, List.cons_append, List.nil_append] | simp [mulN_one, V.fz, fzL, V.up, upL, fzL_map, fz_slr, fz_at, slr]) ?_
      conv => whnf
      refine SetKids.lit rfl ?_
      conv => whnf
      refine LoopQ.o [7, 6, 4, 2, 1] (S_spec_SublatticePoset_l2 p0 sub0) (T_spec_SublatticePoset_l2 p0 sub0) h (fun s o h => b_spec_SublatticePoset_l2 s o h) (by first | rfl | simp [restrict, look, mulN_one, V.fz, fzL, V.up, upL, fzL_map, fz_slr, fz_at, slr]) (fun _ => rfl) ?_
      rintro q16_6 h
      try dsimp only at h
      conv => whnf
      refine Cells.lit rfl rfl ?_
      conv => whnf
      refine SetKids.lit rfl ?_
      conv => whnf
      cases h; exact (by first | rfl | simp only [resV, mulN_one, V.fz, fzL, V.up, upL, fzL_map, fz_slr, fz_at, slr] | simp [resV, mulN_one, V.fz, fzL, V.up, upL, fzL_map, fz_slr, fz_at, slr])
    · try dsimp only at h
      conv => whnf
      cases h; exact (by first | rfl | simp only [resV, mulN_one, V.fz, fzL, V.up, upL, fzL_map, fz_slr, fz_at, slr] | simp [resV, mulN_one, V.fz, fzL, V.up, upL, fzL_map, fz_slr, fz_at, slr])

end Go.Proofs.Ytdodfnbbfkcgnaa.Ax
