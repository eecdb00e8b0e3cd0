/-
  What the functions compute, as functions on plain data, and that the program does compute it; written by program.
-/
import Derived.Test.YtdodfnbbfkcgnaaCode
import Derived.Test.YtdodfnbbfkcgnaaG1
import Derived.Test.YtdodfnbbfkcgnaaG5
import Derived.Test.YtdodfnbbfkcgnaaG7
namespace Go.Proofs.Ytdodfnbbfkcgnaa.Ax
open Go
set_option maxRecDepth 100000
set_option maxHeartbeats 4000000

noncomputable def F_spec_LatticeOf_l1 (a0 : SAlgebra) (x5 : Int) (_x4 : SPoset) : (Int × (List Int)) → Option ((Int × (List Int)) ⊕ (List Int)) := fun (x7, x6) =>
   if x7 < a0.Size then
    (F_spec_l2Value (a0) ((0 : Int)) ([x7, x5])).bind fun r9 =>
    if r9 = x7 then
     ask ((x6).length + ([x7]).length ≤ LIM) <|
     ask (InI (x7 + (1 : Int))) <|
     some (.inl (x7 + (1 : Int), x6 ++ [x7]))
    else
     ask (InI (x7 + (1 : Int))) <|
     some (.inl (x7 + (1 : Int), x6))
   else
    some (.inr x6)
def S_spec_LatticeOf_l1 (a0 : SAlgebra) (x5 : Int) (x4 : SPoset) : (Int × (List Int)) → St := fun s => [(7, A.val (vint s.1)), (6, A.val ((slr true 1 vint) s.2)), (5, A.val (vint (x5))), (4, A.val ((rP true (rS_Poset true)) (x4))), (2, A.val ((rP true (rS_Poset true)) ({ Below := nilL (List Int) }))), (1, A.val ((rP true (rS_Algebra false)) (a0)))]
def T_spec_LatticeOf_l1 (a0 : SAlgebra) (x5 : Int) (x4 : SPoset) : (List Int) → Tgt
  | s => ((Ex.exit 2), [6, 5, 4, 2, 1], [(6, A.val ((slr true 1 vint) s)), (5, A.val (vint (x5))), (4, A.val ((rP true (rS_Poset true)) (x4))), (2, A.val ((rP true (rS_Poset true)) ({ Below := nilL (List Int) }))), (1, A.val ((rP true (rS_Algebra false)) (a0)))])
theorem b_spec_LatticeOf_l1 {a0 : SAlgebra} {x5 : Int} {x4 : SPoset} (s : (Int × (List Int))) (o : (Int × (List Int)) ⊕ (List Int)) (h : F_spec_LatticeOf_l1 a0 x5 x4 s = some o) : vc Try.prog c_spec_LatticeOf_l1 (outQ [7, 6, 5, 4, 2, 1] (S_spec_LatticeOf_l1 a0 x5 x4) (T_spec_LatticeOf_l1 a0 x5 x4) o) (S_spec_LatticeOf_l1 a0 x5 x4 s) := by
  obtain ⟨x7, x6⟩ := s
  unfold F_spec_LatticeOf_l1 at h
  try dsimp only at h
  conv => whnf
  refine Cells.lit rfl rfl ?_
  conv => whnf
  refine Br.od h (fun p8 h => ?_) (fun p8 h => ?_)
  · conv => whnf
    refine Cells.lit rfl rfl ?_
    conv => whnf
    refine BslQ.o vint ([x7, x5]) (by exact fun _ => ⟨rfl, rfl⟩) (by first | rfl | simp only [mulN_one, V.fz, fzL, V.up, upL, fzL_map, fz_slr, fz_at, slr, List.cons_append, List.nil_append] | simp [mulN_one, V.fz, fzL, V.up, upL, fzL_map, fz_slr, fz_at, slr]) ?_
    conv => whnf
    refine CallQ.rd vint (by first | rfl | simp only [mulN_one, V.fz, fzL, V.up, upL, fzL_map, fz_slr, fz_at, slr, List.cons_append, List.nil_append] | simp [mulN_one, V.fz, fzL, V.up, upL, fzL_map, fz_slr, fz_at, slr]) (fun _ => rfl) h (fun r h => t_spec_l2Value h) (fun r9 h => ?_)
    conv => whnf
    refine Br.oe h (fun p10 h => ?_) (fun p10 h => ?_)
    · conv => whnf
      refine BslQ.o vint [x7] (by exact fun _ => ⟨rfl, rfl⟩) (by first | rfl | simp only [mulN_one, V.fz, fzL, V.up, upL, fzL_map, fz_slr, fz_at, slr, List.cons_append, List.nil_append] | simp [mulN_one, V.fz, fzL, V.up, upL, fzL_map, fz_slr, fz_at, slr]) ?_
      conv => whnf
      refine NoOwn.o (fun _ => rfl) ?_
      conv => whnf
      refine AppQ.o (m := 1) vint (by exact fun _ => ⟨rfl, rfl⟩) (x6) ([x7]) (by first | rfl | simp only [mulN_one, V.fz, fzL, V.up, upL, fzL_map, fz_slr, fz_at, slr, List.cons_append, List.nil_append] | simp [mulN_one, V.fz, fzL, V.up, upL, fzL_map, fz_slr, fz_at, slr]) (by first | rfl | simp only [mulN_one, V.fz, fzL, V.up, upL, fzL_map, fz_slr, fz_at, slr, List.cons_append, List.nil_append] | simp [mulN_one, V.fz, fzL, V.up, upL, fzL_map, fz_slr, fz_at, slr]) h fun h => ?_
      conv => whnf
      refine Ask.o h fun p11 h => ?_
      conv => whnf
      cases h; exact ⟨rfl, rfl⟩
    · conv => whnf
      refine Ask.o h fun p12 h => ?_
      conv => whnf
      cases h; exact ⟨rfl, rfl⟩
  · conv => whnf
    cases h; exact ⟨rfl, rfl⟩

noncomputable def F_spec_LatticeOf_l2 (a0 : SAlgebra) : (Int × SPoset) → Option ((Int × SPoset) ⊕ SPoset) := fun (x5, x4) =>
   if x5 < a0.Size then
    (loopO (F_spec_LatticeOf_l1 a0 x5 x4) ((0 : Int), nilL Int)).bind fun q13_6 =>
    ask ((x4.Below).length + ([q13_6]).length ≤ LIM) <|
    ask (InI (x5 + (1 : Int))) <|
    some (.inl (x5 + (1 : Int), { Below := x4.Below ++ [q13_6] }))
   else
    some (.inr x4)
def S_spec_LatticeOf_l2 (a0 : SAlgebra) : (Int × SPoset) → St := fun s => [(5, A.val (vint s.1)), (4, A.val ((rP true (rS_Poset true)) s.2)), (2, A.val ((rP true (rS_Poset true)) ({ Below := nilL (List Int) }))), (1, A.val ((rP true (rS_Algebra false)) (a0)))]
def T_spec_LatticeOf_l2 (a0 : SAlgebra) : SPoset → Tgt
  | s => ((Ex.exit 0), [4, 2, 1], [(4, A.val ((rP true (rS_Poset true)) s)), (2, A.val ((rP true (rS_Poset true)) ({ Below := nilL (List Int) }))), (1, A.val ((rP true (rS_Algebra false)) (a0)))])
theorem b_spec_LatticeOf_l2 {a0 : SAlgebra} (s : (Int × SPoset)) (o : (Int × SPoset) ⊕ SPoset) (h : F_spec_LatticeOf_l2 a0 s = some o) : vc Try.prog c_spec_LatticeOf_l2 (outQ [5, 4, 2, 1] (S_spec_LatticeOf_l2 a0) (T_spec_LatticeOf_l2 a0) o) (S_spec_LatticeOf_l2 a0 s) := by
  obtain ⟨x5, x4⟩ := s
  unfold F_spec_LatticeOf_l2 at h
  try dsimp only at h
  conv => whnf
  refine Cells.lit rfl rfl ?_
  conv => whnf
  refine Br.od h (fun p7 h => ?_) (fun p7 h => ?_)
  · conv => whnf
    refine BslQ.o vint (nilL Int) (by exact fun _ => ⟨rfl, rfl⟩) (by first | rfl | simp only [mulN_one, V.fz, fzL, V.up, upL, fzL_map, fz_slr, fz_at, slr, List.cons_append, List.nil_append] | simp [mulN_one, V.fz, fzL, V.up, upL, fzL_map, fz_slr, fz_at, slr]) ?_
    conv => whnf
    refine LoopQ.o [7, 6, 5, 4, 2, 1] (S_spec_LatticeOf_l1 a0 x5 x4) (T_spec_LatticeOf_l1 a0 x5 x4) h (fun s o h => b_spec_LatticeOf_l1 s o h) (by first | rfl | simp [restrict, look, mulN_one, V.fz, fzL, V.up, upL, fzL_map, fz_slr, fz_at, slr]) (fun _ => rfl) ?_
    rintro q13_6 h
    try dsimp only at h
    conv => whnf
    refine Cells.lit rfl rfl ?_
    conv => whnf
    refine BslQ.o (slr true 1 vint) [q13_6] (by exact fun _ => ⟨rfl, rfl⟩) (by first | rfl | simp only [mulN_one, V.fz, fzL, V.up, upL, fzL_map, fz_slr, fz_at, slr, List.cons_append, List.nil_append] | simp [mulN_one, V.fz, fzL, V.up, upL, fzL_map, fz_slr, fz_at, slr]) ?_
    conv => whnf
    refine NoOwn.own rfl ?_
    conv => whnf
    refine AppQ.o (m := 1) (slr true 1 vint) (by exact fun _ => ⟨rfl, rfl⟩) (x4.Below) ([q13_6]) (by first | rfl | simp only [mulN_one, V.fz, fzL, V.up, upL, fzL_map, fz_slr, fz_at, slr, List.cons_append, List.nil_append] | simp [mulN_one, V.fz, fzL, V.up, upL, fzL_map, fz_slr, fz_at, slr]) (by first | rfl | simp only [mulN_one, V.fz, fzL, V.up, upL, fzL_map, fz_slr, fz_at, slr, List.cons_append, List.nil_append] | simp [mulN_one, V.fz, fzL, V.up, upL, fzL_map, fz_slr, fz_at, slr]) h fun h => ?_
    conv => whnf
    refine SetKids.lit rfl ?_
    conv => whnf
    refine Ask.o h fun p14 h => ?_
    conv => whnf
    cases h; exact ⟨rfl, rfl⟩
  · conv => whnf
    cases h; exact ⟨rfl, rfl⟩

noncomputable def F_spec_LatticeOf (a0 : SAlgebra) : Option (SPoset × Bool) :=
  (((F_spec_l2Good (a0)).bind fun r1 =>
     if (r1) = true then
      (F_spec_l2Type (a0)).bind fun r3 =>
      (F_spec_l1Same (r3) ([(2 : Int), (2 : Int)])).bind fun r4 =>
      if (r4) = true then
       some (.inl ())
      else
       some (.inr ())
     else
      some (.inr ()) : Option (Unit ⊕ Unit))).bind fun t => match t with
  | (.inl _) => ((loopO (F_spec_LatticeOf_l2 a0) ((0 : Int), { Below := nilL (List Int) })).bind fun q15_4 =>
    (F_spec_l24Good (q15_4)).bind fun r16 =>
    if (r16) = true then
     (F_spec_l24Algebra (q15_4)).bind fun r18 =>
     ask ((0 : Int) ≤ (0 : Int) ∧ (0 : Int) < (↑a0.Ops.length : Int)) <|
     ask ((0 : Int) ≤ (0 : Int) ∧ (0 : Int) < (↑r18.Ops.length : Int)) <|
     (F_spec_l1Same ((nth a0.Ops (Int.toNat (0 : Int))).Table) ((nth r18.Ops (Int.toNat (0 : Int))).Table)).bind fun r21 =>
     if (r21) = true then
      ask ((0 : Int) ≤ (1 : Int) ∧ (1 : Int) < (↑a0.Ops.length : Int)) <|
      ask ((0 : Int) ≤ (1 : Int) ∧ (1 : Int) < (↑r18.Ops.length : Int)) <|
      (F_spec_l1Same ((nth a0.Ops (Int.toNat (1 : Int))).Table) ((nth r18.Ops (Int.toNat (1 : Int))).Table)).bind fun r25 =>
      if (r25) = true then
       some (q15_4, true)
      else
       some ({ Below := nilL (List Int) }, false)
     else
      some ({ Below := nilL (List Int) }, false)
    else
     some ({ Below := nilL (List Int) }, false))
  | (.inr _) => (some ({ Below := nilL (List Int) }, false))
theorem t_spec_LatticeOf {a0 : SAlgebra} {v : (SPoset × Bool)} (h : F_spec_LatticeOf a0 = some v) : Ret Try.prog f_spec_LatticeOf [(rS_Algebra false) a0] ((fun r => V.tup [(rS_Poset true) r.1, V.bool r.2]) v) := by
  refine ret_vc k_spec_LatticeOf (Nat.le_of_ble_eq_true rfl) ?_
  unfold F_spec_LatticeOf at h
  conv => whnf
  refine CutQ.o (fun t : (Unit ⊕ Unit) => match t with | (.inl s) => (Ex.normal, [2, 1], [(2, A.val ((rP true (rS_Poset true)) ({ Below := nilL (List Int) }))), (1, A.val ((rP true (rS_Algebra false)) (a0)))]) | (.inr s) => (Ex.ret, [3, 2], [(3, A.val (V.bool (false))), (2, A.val ((rP true (rS_Poset true)) ({ Below := nilL (List Int) })))])) h ?_ ?_
  · intro t h
    conv => whnf
    refine Cells.lit rfl rfl ?_
    conv => whnf
    refine CallQ.o V.bool (by first | rfl | simp only [mulN_one, V.fz, fzL, V.up, upL, fzL_map, fz_slr, fz_at, slr, List.cons_append, List.nil_append] | simp [mulN_one, V.fz, fzL, V.up, upL, fzL_map, fz_slr, fz_at, slr]) h (fun r h => t_spec_l2Good h) (fun r1 h => ?_)
    conv => whnf
    refine Br.flip ?_
    conv => whnf
    refine Br.ob h (fun p2 h => ?_) (fun p2 h => ?_)
    · conv => whnf
      refine Cells.lit rfl rfl ?_
      conv => whnf
      refine Br.no ?_
      conv => whnf
      refine CallQ.o (slr true 1 vint) (by first | rfl | simp only [mulN_one, V.fz, fzL, V.up, upL, fzL_map, fz_slr, fz_at, slr, List.cons_append, List.nil_append] | simp [mulN_one, V.fz, fzL, V.up, upL, fzL_map, fz_slr, fz_at, slr]) h (fun r h => t_spec_l2Type h) (fun r3 h => ?_)
      conv => whnf
      refine Br.no ?_
      conv => whnf
      refine BslQ.o vint ([(2 : Int), (2 : Int)]) (by exact fun _ => ⟨rfl, rfl⟩) (by first | rfl | simp only [mulN_one, V.fz, fzL, V.up, upL, fzL_map, fz_slr, fz_at, slr, List.cons_append, List.nil_append] | simp [mulN_one, V.fz, fzL, V.up, upL, fzL_map, fz_slr, fz_at, slr]) ?_
      conv => whnf
      refine Br.no ?_
      conv => whnf
      refine CallQ.rd V.bool (by first | rfl | simp only [V.fz, fzL_map, slr] | simp [mulN_one, V.fz, fzL, V.up, upL, fzL_map, fz_slr, fz_at, slr]) (fun _ => rfl) h (fun r h => t_spec_l1Same h) (fun r4 h => ?_)
      conv => whnf
      refine Br.no ?_
      conv => whnf
      refine Br.no ?_
      conv => whnf
      refine Br.flip ?_
      conv => whnf
      refine Br.ob h (fun p5 h => ?_) (fun p5 h => ?_)
      · conv => whnf
        cases h; exact ⟨rfl, rfl⟩
      · conv => whnf
        refine SetKids.lit rfl ?_
        conv => whnf
        cases h; exact ⟨rfl, rfl⟩
    · conv => whnf
      refine Br.yes ?_
      conv => whnf
      refine Br.yes ?_
      conv => whnf
      refine Br.yes ?_
      conv => whnf
      refine Br.yes ?_
      conv => whnf
      refine Br.yes ?_
      conv => whnf
      refine Br.yes ?_
      conv => whnf
      refine SetKids.lit rfl ?_
      conv => whnf
      cases h; exact ⟨rfl, rfl⟩
  · rintro (⟨⟩ | ⟨⟩) h
    · try dsimp only at h
      conv => whnf
      refine BslQ.o (slr true 1 vint) (nilL (List Int)) (by exact fun _ => ⟨rfl, rfl⟩) (by first | rfl | simp only [mulN_one, V.fz, fzL, V.up, upL, fzL_map, fz_slr, fz_at, slr, List.cons_append, List.nil_append] | simp [mulN_one, V.fz, fzL, V.up, upL, fzL_map, fz_slr, fz_at, slr]) ?_
      conv => whnf
      refine SetKids.lit rfl ?_
      conv => whnf
      refine LoopQ.o [5, 4, 2, 1] (S_spec_LatticeOf_l2 a0) (T_spec_LatticeOf_l2 a0) h (fun s o h => b_spec_LatticeOf_l2 s o h) (by first | rfl | simp [restrict, look, mulN_one, V.fz, fzL, V.up, upL, fzL_map, fz_slr, fz_at, slr]) (fun _ => rfl) ?_
      rintro q15_4 h
      try dsimp only at h
      conv => whnf
      refine Cells.lit rfl rfl ?_
      conv => whnf
      refine CallQ.rd V.bool (by first | rfl | simp only [V.fz, fzL_map] | simp [mulN_one, V.fz, fzL, V.up, upL, fzL_map, fz_slr, fz_at, slr]) (fun _ => rfl) h (fun r h => t_spec_l24Good h) (fun r16 h => ?_)
      conv => whnf
      refine Br.flip ?_
      conv => whnf
      refine Br.ob h (fun p17 h => ?_) (fun p17 h => ?_)
      · conv => whnf
        refine Cells.lit rfl rfl ?_
        conv => whnf
        refine CallQ.rd (rS_Algebra true) (by first | rfl | simp only [V.fz, fzL_map] | simp [mulN_one, V.fz, fzL, V.up, upL, fzL_map, fz_slr, fz_at, slr]) (fun _ => by simp [V.noFz, noFzL, noFzL_map]) h (fun r h => t_spec_l24Algebra h) (fun r18 h => ?_)
        conv => whnf
        refine SetKids.lit rfl ?_
        conv => whnf
        refine Cells.lit rfl rfl ?_
        conv => whnf
        refine Len.map ?_
        conv => whnf
        refine Ask.o h fun p19 h => ?_
        conv => whnf
        refine Elem.o (by first | omega | (simp only [mulN] at *; omega) | (simp [mulN] at *; omega)) ?_
        conv => whnf
        refine Cells.lit rfl rfl ?_
        conv => whnf
        refine Kid.lit rfl rfl ?_
        conv => whnf
        refine Len.map ?_
        conv => whnf
        refine Ask.o h fun p20 h => ?_
        conv => whnf
        refine Kid.lit rfl rfl ?_
        conv => whnf
        refine Cells.wide (by exact fun _ => ⟨rfl, rfl⟩) (by first | omega | (simp only [mulN] at *; omega) | (simp [mulN] at *; omega)) (by decide) ?_
        conv => whnf
        refine Kid.lit rfl rfl ?_
        conv => whnf
        refine Kid.wide (by exact fun _ => ⟨rfl, rfl⟩) (by first | omega | (simp only [mulN] at *; omega) | (simp [mulN] at *; omega)) (by rfl) ?_
        conv => whnf
        refine CallP.rd V.bool (by first | rfl | simp only [V.fz, fzL_map, slr] | simp [mulN_one, V.fz, fzL, V.up, upL, fzL_map, fz_slr, fz_at, slr]) (fun _ => rfl) h (fun r h => t_spec_l1Same h) (fun r21 h => ?_)
        conv => whnf
        refine Br.flip ?_
        conv => whnf
        refine Br.ob h (fun p22 h => ?_) (fun p22 h => ?_)
        · conv => whnf
          refine Br.no ?_
          conv => whnf
          refine Cells.lit rfl rfl ?_
          conv => whnf
          refine Br.no ?_
          conv => whnf
          refine Len.map ?_
          conv => whnf
          refine Ask.o h fun p23 h => ?_
          conv => whnf
          refine Elem.o (by first | omega | (simp only [mulN] at *; omega) | (simp [mulN] at *; omega)) ?_
          conv => whnf
          refine Br.no ?_
          conv => whnf
          refine Br.no ?_
          conv => whnf
          refine Br.no ?_
          conv => whnf
          refine Br.no ?_
          conv => whnf
          refine Cells.lit rfl rfl ?_
          conv => whnf
          refine Br.no ?_
          conv => whnf
          refine Kid.lit rfl rfl ?_
          conv => whnf
          refine Len.map ?_
          conv => whnf
          refine Ask.o h fun p24 h => ?_
          conv => whnf
          refine Br.no ?_
          conv => whnf
          refine Br.no ?_
          conv => whnf
          refine Kid.lit rfl rfl ?_
          conv => whnf
          refine Cells.wide (by exact fun _ => ⟨rfl, rfl⟩) (by first | omega | (simp only [mulN] at *; omega) | (simp [mulN] at *; omega)) (by decide) ?_
          conv => whnf
          refine Br.no ?_
          conv => whnf
          refine Kid.lit rfl rfl ?_
          conv => whnf
          refine Kid.wide (by exact fun _ => ⟨rfl, rfl⟩) (by first | omega | (simp only [mulN] at *; omega) | (simp [mulN] at *; omega)) (by rfl) ?_
          conv => whnf
          refine CallQ.rd V.bool (by first | rfl | simp only [V.fz, fzL_map, slr] | simp [mulN_one, V.fz, fzL, V.up, upL, fzL_map, fz_slr, fz_at, slr]) (fun _ => rfl) h (fun r h => t_spec_l1Same h) (fun r25 h => ?_)
          conv => whnf
          refine Br.no ?_
          conv => whnf
          refine Br.no ?_
          conv => whnf
          refine Br.flip ?_
          conv => whnf
          refine Br.ob h (fun p26 h => ?_) (fun p26 h => ?_)
          · conv => whnf
            refine Cells.lit rfl rfl ?_
            conv => whnf
            refine SetKids.lit rfl ?_
            conv => whnf
            cases h; exact (by first | rfl | simp only [resV, mulN_one, V.fz, fzL, V.up, upL, fzL_map, fz_slr, fz_at, slr] | simp [resV, mulN_one, V.fz, fzL, V.up, upL, fzL_map, fz_slr, fz_at, slr])
          · conv => whnf
            refine SetKids.lit rfl ?_
            conv => whnf
            cases h; exact (by first | rfl | simp only [resV, mulN_one, V.fz, fzL, V.up, upL, fzL_map, fz_slr, fz_at, slr] | simp [resV, mulN_one, V.fz, fzL, V.up, upL, fzL_map, fz_slr, fz_at, slr])
        · conv => whnf
          refine Br.yes ?_
          conv => whnf
          refine Br.yes ?_
          conv => whnf
          refine Br.yes ?_
          conv => whnf
          refine Br.yes ?_
          conv => whnf
          refine Br.yes ?_
          conv => whnf
          refine Br.yes ?_
          conv => whnf
          refine Br.yes ?_
          conv => whnf
          refine Br.yes ?_
          conv => whnf
          refine Br.yes ?_
          conv => whnf
          refine Br.yes ?_
          conv => whnf
          refine Br.yes ?_
          conv => whnf
          refine Br.yes ?_
          conv => whnf
          refine Br.yes ?_
          conv => whnf
          refine SetKids.lit rfl ?_
          conv => whnf
          cases h; exact (by first | rfl | simp only [resV, mulN_one, V.fz, fzL, V.up, upL, fzL_map, fz_slr, fz_at, slr] | simp [resV, mulN_one, V.fz, fzL, V.up, upL, fzL_map, fz_slr, fz_at, slr])
      · conv => whnf
        refine SetKids.lit rfl ?_
        conv => whnf
        cases h; exact (by first | rfl | simp only [resV, mulN_one, V.fz, fzL, V.up, upL, fzL_map, fz_slr, fz_at, slr] | simp [resV, mulN_one, V.fz, fzL, V.up, upL, fzL_map, fz_slr, fz_at, slr])
    · try dsimp only at h
      conv => whnf
      cases h; exact (by first | rfl | simp only [resV, mulN_one, V.fz, fzL, V.up, upL, fzL_map, fz_slr, fz_at, slr] | simp [resV, mulN_one, V.fz, fzL, V.up, upL, fzL_map, fz_slr, fz_at, slr])

end Go.Proofs.Ytdodfnbbfkcgnaa.Ax
