/-
  What the functions compute, as functions on plain data, and that the program does compute it; written by program.
-/
import Derived.Test.YthcnmahjhahafabCode
import Derived.Test.YthcnmahjhahafabG2
import Derived.Test.YthcnmahjhahafabG3
import Derived.Test.YthcnmahjhahafabG4
import Derived.Test.YthcnmahjhahafabG5
import Derived.Test.YthcnmahjhahafabG7
import Derived.Test.YthcnmahjhahafabG8
import Derived.Test.YthcnmahjhahafabG10
namespace Go.Proofs.Ythcnmahjhahafab.Ax
open Go
set_option maxRecDepth 100000
set_option maxHeartbeats 4000000

noncomputable def F_impl_rename_l1 (_a0 : SAlgebra) (names0 : List Int) (_x18 : Int) (_x26 : Int) (_x5' : SAlgebra) (r6 : List Int) : (Int × (List Int)) → Option ((Int × (List Int)) ⊕ (List Int)) := fun (x39, x10) =>
   if x39 < (↑r6.length : Int) then
    ask ((0 : Int) ≤ x39 ∧ x39 < (↑x10.length : Int)) <|
    ask ((0 : Int) ≤ nth x10 x39.toNat ∧ nth x10 x39.toNat < (↑names0.length : Int)) <|
    ask ((0 : Int) ≤ x39 ∧ x39 < (↑x10.length : Int)) <|
    ask (InI (x39 + (1 : Int))) <|
    some (.inl (x39 + (1 : Int), x10.set x39.toNat (nth names0 (nth x10 x39.toNat).toNat)))
   else
    some (.inr x10)
def S_impl_rename_l1 (a0 : SAlgebra) (names0 : List Int) (x18 : Int) (x26 : Int) (x5' : SAlgebra) (r6 : List Int) : (Int × (List Int)) → St := fun s => [(39, A.val (vint s.1)), (38, A.val (vint ((↑r6.length : Int)))), (37, A.ref (10 : Nat) []), (10, A.val ((slr true 1 vint) s.2)), (9, A.val (vint (nth (nth a0.Ops x18.toNat).Table x26.toNat))), (26, A.val (vint (x26))), (25, A.val (vint ((↑(nth a0.Ops x18.toNat).Table.length : Int)))), (24, A.val ((slr false 1 vint) ((nth a0.Ops x18.toNat).Table))), (6, A.val (vint (x18))), (7, A.val ((rP true (rS_Op false)) (nth a0.Ops x18.toNat))), (18, A.val (vint (x18))), (17, A.val (vint ((↑a0.Ops.length : Int)))), (16, A.val ((slr false 2 (rS_Op false)) (a0.Ops))), (5, A.val ((rP true (rS_Algebra true)) (x5'))), (4, A.val ((rP true (rS_Algebra true)) ({ Size := (0 : Int), Ops := nilL SOp }))), (2, A.val ((rP true (rS_Algebra false)) (a0))), (1, A.val ((slr false 1 vint) (names0)))]
def T_impl_rename_l1 (a0 : SAlgebra) (names0 : List Int) (x18 : Int) (x26 : Int) (x5' : SAlgebra) (_r6 : List Int) : (List Int) → Tgt
  | s => ((Ex.exit 4), [10, 9, 26, 25, 24, 6, 7, 18, 17, 16, 5, 4, 2, 1], [(10, A.val ((slr true 1 vint) s)), (9, A.val (vint (nth (nth a0.Ops x18.toNat).Table x26.toNat))), (26, A.val (vint (x26))), (25, A.val (vint ((↑(nth a0.Ops x18.toNat).Table.length : Int)))), (24, A.val ((slr false 1 vint) ((nth a0.Ops x18.toNat).Table))), (6, A.val (vint (x18))), (7, A.val ((rP true (rS_Op false)) (nth a0.Ops x18.toNat))), (18, A.val (vint (x18))), (17, A.val (vint ((↑a0.Ops.length : Int)))), (16, A.val ((slr false 2 (rS_Op false)) (a0.Ops))), (5, A.val ((rP true (rS_Algebra true)) (x5'))), (4, A.val ((rP true (rS_Algebra true)) ({ Size := (0 : Int), Ops := nilL SOp }))), (2, A.val ((rP true (rS_Algebra false)) (a0))), (1, A.val ((slr false 1 vint) (names0)))])
theorem b_impl_rename_l1 {a0 : SAlgebra} {names0 : List Int} {x18 : Int} {x26 : Int} {x5' : SAlgebra} {r6 : List Int} (s : (Int × (List Int))) (o : (Int × (List Int)) ⊕ (List Int)) (h : F_impl_rename_l1 a0 names0 x18 x26 x5' r6 s = some o) : vc Try.prog c_impl_rename_l1 (outQ [39, 38, 37, 10, 9, 26, 25, 24, 6, 7, 18, 17, 16, 5, 4, 2, 1] (S_impl_rename_l1 a0 names0 x18 x26 x5' r6) (T_impl_rename_l1 a0 names0 x18 x26 x5' r6) o) (S_impl_rename_l1 a0 names0 x18 x26 x5' r6 s) := by
  obtain ⟨x39, x10⟩ := s
  unfold F_impl_rename_l1 at h
  try dsimp only at h
  conv => whnf
  refine Br.od h (fun p7 h => ?_) (fun p7 h => ?_)
  · conv => whnf
    refine Len.map ?_
    conv => whnf
    refine Ask.o h fun p8 h => ?_
    conv => whnf
    refine Cells.one (fun _ => ⟨rfl, rfl⟩) (by first | omega | (simp only [mulN] at *; omega) | (simp [mulN] at *; omega)) ?_
    conv => whnf
    refine Len.map ?_
    conv => whnf
    refine Ask.o h fun p9 h => ?_
    conv => whnf
    refine Elem.o (by first | omega | (simp only [mulN] at *; omega) | (simp [mulN] at *; omega)) ?_
    conv => whnf
    refine Len.map ?_
    conv => whnf
    refine Ask.o h fun p10 h => ?_
    conv => whnf
    refine SetKids.one (fun _ => ⟨rfl, rfl⟩) (nth names0 (nth x10 x39.toNat).toNat) (by first | rfl | simp only [mulN_one, V.fz, fzL, V.up, upL, fzL_map, fz_slr, fz_at, slr, List.cons_append, List.nil_append] | simp [mulN_one, V.fz, fzL, V.up, upL, fzL_map, fz_slr, fz_at, slr]) (by first | omega | (simp only [mulN] at *; omega) | (simp [mulN] at *; omega)) ?_
    conv => whnf
    refine Ask.o h fun p11 h => ?_
    conv => whnf
    cases h; exact ⟨rfl, rfl⟩
  · conv => whnf
    cases h; exact ⟨rfl, rfl⟩

noncomputable def F_impl_rename_l2 (a0 : SAlgebra) (names0 : List Int) (x18 : Int) : (Int × SAlgebra) → Option ((Int × SAlgebra) ⊕ SAlgebra) := fun (x26, x5') =>
   if x26 < (↑(nth a0.Ops x18.toNat).Table.length : Int) then
    ask ((0 : Int) ≤ x26 ∧ x26 < (↑(nth a0.Ops x18.toNat).Table.length : Int)) <|
    (F_impl_argsAt (x26) ((nth a0.Ops x18.toNat).Arity) (a0.Size)).bind fun r6 =>
    (loopO (F_impl_rename_l1 a0 names0 x18 x26 x5' r6) ((0 : Int), r6)).bind fun q12_10 =>
    ask ((0 : Int) ≤ x18 ∧ x18 < (↑x5'.Ops.length : Int)) <|
    (F_impl_indexOf (q12_10) (a0.Size)).bind fun r14 =>
    ask ((0 : Int) ≤ nth (nth a0.Ops x18.toNat).Table x26.toNat ∧ nth (nth a0.Ops x18.toNat).Table x26.toNat < (↑names0.length : Int)) <|
    ask ((0 : Int) ≤ r14 ∧ r14 < (↑(nth x5'.Ops x18.toNat).Table.length : Int)) <|
    ask (InI (x26 + (1 : Int))) <|
    some (.inl (x26 + (1 : Int), { Size := x5'.Size, Ops := x5'.Ops.set x18.toNat { Arity := (nth x5'.Ops x18.toNat).Arity, Table := (nth x5'.Ops x18.toNat).Table.set r14.toNat (nth names0 (nth (nth a0.Ops x18.toNat).Table x26.toNat).toNat) } }))
   else
    some (.inr x5')
def S_impl_rename_l2 (a0 : SAlgebra) (names0 : List Int) (x18 : Int) : (Int × SAlgebra) → St := fun s => [(26, A.val (vint s.1)), (25, A.val (vint ((↑(nth a0.Ops x18.toNat).Table.length : Int)))), (24, A.val ((slr false 1 vint) ((nth a0.Ops x18.toNat).Table))), (6, A.val (vint (x18))), (7, A.val ((rP true (rS_Op false)) (nth a0.Ops x18.toNat))), (18, A.val (vint (x18))), (17, A.val (vint ((↑a0.Ops.length : Int)))), (16, A.val ((slr false 2 (rS_Op false)) (a0.Ops))), (5, A.val ((rP true (rS_Algebra true)) s.2)), (4, A.val ((rP true (rS_Algebra true)) ({ Size := (0 : Int), Ops := nilL SOp }))), (2, A.val ((rP true (rS_Algebra false)) (a0))), (1, A.val ((slr false 1 vint) (names0)))]
def T_impl_rename_l2 (a0 : SAlgebra) (names0 : List Int) (x18 : Int) : SAlgebra → Tgt
  | s => ((Ex.exit 2), [18, 17, 16, 5, 4, 2, 1], [(18, A.val (vint (x18))), (17, A.val (vint ((↑a0.Ops.length : Int)))), (16, A.val ((slr false 2 (rS_Op false)) (a0.Ops))), (5, A.val ((rP true (rS_Algebra true)) s)), (4, A.val ((rP true (rS_Algebra true)) ({ Size := (0 : Int), Ops := nilL SOp }))), (2, A.val ((rP true (rS_Algebra false)) (a0))), (1, A.val ((slr false 1 vint) (names0)))])
theorem b_impl_rename_l2 {a0 : SAlgebra} {names0 : List Int} {x18 : Int} (s : (Int × SAlgebra)) (o : (Int × SAlgebra) ⊕ SAlgebra) (h : F_impl_rename_l2 a0 names0 x18 s = some o) : vc Try.prog c_impl_rename_l2 (outQ [26, 25, 24, 6, 7, 18, 17, 16, 5, 4, 2, 1] (S_impl_rename_l2 a0 names0 x18) (T_impl_rename_l2 a0 names0 x18) o) (S_impl_rename_l2 a0 names0 x18 s) := by
  obtain ⟨x26, x5'⟩ := s
  unfold F_impl_rename_l2 at h
  try dsimp only at h
  conv => whnf
  refine Br.od h (fun p4 h => ?_) (fun p4 h => ?_)
  · conv => whnf
    refine Len.map ?_
    conv => whnf
    refine Ask.o h fun p5 h => ?_
    conv => whnf
    refine Elem.o (by first | omega | (simp only [mulN] at *; omega) | (simp [mulN] at *; omega)) ?_
    conv => whnf
    refine Cells.lit rfl rfl ?_
    conv => whnf
    refine Cells.lit rfl rfl ?_
    conv => whnf
    refine CallQ.o (slr true 1 vint) (by first | rfl | simp only [mulN_one, V.fz, fzL, V.up, upL, fzL_map, fz_slr, fz_at, slr, List.cons_append, List.nil_append] | simp [mulN_one, V.fz, fzL, V.up, upL, fzL_map, fz_slr, fz_at, slr]) h (fun r h => t_impl_argsAt h) (fun r6 h => ?_)
    conv => whnf
    refine Len.map ?_
    conv => whnf
    refine LoopQ.o [39, 38, 37, 10, 9, 26, 25, 24, 6, 7, 18, 17, 16, 5, 4, 2, 1] (S_impl_rename_l1 a0 names0 x18 x26 x5' r6) (T_impl_rename_l1 a0 names0 x18 x26 x5' r6) h (fun s o h => b_impl_rename_l1 s o h) (by first | rfl | simp [restrict, look, mulN_one, V.fz, fzL, V.up, upL, fzL_map, fz_slr, fz_at, slr]) (fun _ => rfl) ?_
    rintro q12_10 h
    try dsimp only at h
    conv => whnf
    refine Cells.lit rfl rfl ?_
    conv => whnf
    refine Kid.lit rfl rfl ?_
    conv => whnf
    refine Len.map ?_
    conv => whnf
    refine Ask.o h fun p13 h => ?_
    conv => whnf
    refine Kid.lit rfl rfl ?_
    conv => whnf
    refine Cells.wide (by exact fun _ => ⟨rfl, rfl⟩) (by first | omega | (simp only [mulN] at *; omega) | (simp [mulN] at *; omega)) (by decide) ?_
    conv => whnf
    refine Cells.lit rfl rfl ?_
    conv => whnf
    refine CallP.rd vint (by first | rfl | simp only [V.fz, fzL_map, slr] | simp [mulN_one, V.fz, fzL, V.up, upL, fzL_map, fz_slr, fz_at, slr]) (fun _ => rfl) h (fun r h => t_impl_indexOf h) (fun r14 h => ?_)
    conv => whnf
    refine Len.map ?_
    conv => whnf
    refine Ask.o h fun p15 h => ?_
    conv => whnf
    refine Elem.o (by first | omega | (simp only [mulN] at *; omega) | (simp [mulN] at *; omega)) ?_
    conv => whnf
    refine Kid.lit rfl rfl ?_
    conv => whnf
    refine Kid.wide (by exact fun _ => ⟨rfl, rfl⟩) (by first | omega | (simp only [mulN] at *; omega) | (simp [mulN] at *; omega)) (by rfl) ?_
    conv => whnf
    refine Len.map ?_
    conv => whnf
    refine Ask.o h fun p16 h => ?_
    conv => whnf
    refine Kid.lit rfl rfl ?_
    conv => whnf
    refine Kid.wide (by exact fun _ => ⟨rfl, rfl⟩) (by first | omega | (simp only [mulN] at *; omega) | (simp [mulN] at *; omega)) (by rfl) ?_
    conv => whnf
    refine SetKids.one (fun _ => ⟨rfl, rfl⟩) (nth names0 (nth (nth a0.Ops x18.toNat).Table x26.toNat).toNat) (by first | rfl | simp only [mulN_one, V.fz, fzL, V.up, upL, fzL_map, fz_slr, fz_at, slr, List.cons_append, List.nil_append] | simp [mulN_one, V.fz, fzL, V.up, upL, fzL_map, fz_slr, fz_at, slr]) (by first | omega | (simp only [mulN] at *; omega) | (simp [mulN] at *; omega)) ?_
    conv => whnf
    refine Kid.lit rfl rfl ?_
    conv => whnf
    refine Kid.wide (by exact fun _ => ⟨rfl, rfl⟩) (by first | omega | (simp only [mulN] at *; omega) | (simp [mulN] at *; omega)) (by rfl) ?_
    conv => whnf
    refine SetKids.wide (by exact fun _ => ⟨rfl, rfl⟩) ({ Arity := (nth x5'.Ops x18.toNat).Arity, Table := (nth x5'.Ops x18.toNat).Table.set r14.toNat (nth names0 (nth (nth a0.Ops x18.toNat).Table x26.toNat).toNat) }) (by first | omega | (simp only [mulN] at *; omega) | (simp [mulN] at *; omega)) (by rfl) (by decide) ?_
    conv => whnf
    refine SetKids.lit rfl ?_
    conv => whnf
    refine Ask.o h fun p17 h => ?_
    conv => whnf
    cases h; exact ⟨rfl, rfl⟩
  · conv => whnf
    cases h; exact ⟨rfl, rfl⟩

noncomputable def F_impl_rename_l3 (a0 : SAlgebra) (names0 : List Int) : (Int × SAlgebra) → Option ((Int × SAlgebra) ⊕ SAlgebra) := fun (x18, x5) =>
   if x18 < (↑a0.Ops.length : Int) then
    ask ((0 : Int) ≤ x18 ∧ x18 < (↑a0.Ops.length : Int)) <|
    (loopO (F_impl_rename_l2 a0 names0 x18) ((0 : Int), x5)).bind fun q18_5 =>
    ask (InI (x18 + (1 : Int))) <|
    some (.inl (x18 + (1 : Int), q18_5))
   else
    some (.inr x5)
def S_impl_rename_l3 (a0 : SAlgebra) (names0 : List Int) : (Int × SAlgebra) → St := fun s => [(18, A.val (vint s.1)), (17, A.val (vint ((↑a0.Ops.length : Int)))), (16, A.val ((slr false 2 (rS_Op false)) (a0.Ops))), (5, A.val ((rP true (rS_Algebra true)) s.2)), (4, A.val ((rP true (rS_Algebra true)) ({ Size := (0 : Int), Ops := nilL SOp }))), (2, A.val ((rP true (rS_Algebra false)) (a0))), (1, A.val ((slr false 1 vint) (names0)))]
def T_impl_rename_l3 (_a0 : SAlgebra) (_names0 : List Int) : SAlgebra → Tgt
  | s => ((Ex.exit 0), [5, 4], [(5, A.val ((rP true (rS_Algebra true)) s)), (4, A.val ((rP true (rS_Algebra true)) ({ Size := (0 : Int), Ops := nilL SOp })))])
theorem b_impl_rename_l3 {a0 : SAlgebra} {names0 : List Int} (s : (Int × SAlgebra)) (o : (Int × SAlgebra) ⊕ SAlgebra) (h : F_impl_rename_l3 a0 names0 s = some o) : vc Try.prog c_impl_rename_l3 (outQ [18, 17, 16, 5, 4, 2, 1] (S_impl_rename_l3 a0 names0) (T_impl_rename_l3 a0 names0) o) (S_impl_rename_l3 a0 names0 s) := by
  obtain ⟨x18, x5⟩ := s
  unfold F_impl_rename_l3 at h
  try dsimp only at h
  conv => whnf
  refine Br.od h (fun p2 h => ?_) (fun p2 h => ?_)
  · conv => whnf
    refine Len.map ?_
    conv => whnf
    refine Ask.o h fun p3 h => ?_
    conv => whnf
    refine Elem.o (by first | omega | (simp only [mulN] at *; omega) | (simp [mulN] at *; omega)) ?_
    conv => whnf
    refine SetKids.lit rfl ?_
    conv => whnf
    refine Cells.lit rfl rfl ?_
    conv => whnf
    refine Len.map ?_
    conv => whnf
    refine LoopQ.o [26, 25, 24, 6, 7, 18, 17, 16, 5, 4, 2, 1] (S_impl_rename_l2 a0 names0 x18) (T_impl_rename_l2 a0 names0 x18) h (fun s o h => b_impl_rename_l2 s o h) (by first | rfl | simp [restrict, look, mulN_one, V.fz, fzL, V.up, upL, fzL_map, fz_slr, fz_at, slr]) (fun _ => rfl) ?_
    rintro q18_5 h
    try dsimp only at h
    conv => whnf
    refine Ask.o h fun p19 h => ?_
    conv => whnf
    cases h; exact ⟨rfl, rfl⟩
  · conv => whnf
    cases h; exact ⟨rfl, rfl⟩

noncomputable def F_impl_rename (a0 : SAlgebra) (names0 : (List Int)) : Option SAlgebra :=
  (F_impl_cloneAlgebra (a0)).bind fun r1 =>
  (loopO (F_impl_rename_l3 a0 names0) ((0 : Int), r1)).bind fun q20_5 =>
  some q20_5
theorem t_impl_rename {a0 : SAlgebra} {names0 : (List Int)} {v : SAlgebra} (h : F_impl_rename a0 names0 = some v) : Ret Try.prog f_impl_rename [(rS_Algebra false) a0, (slr false 1 vint) names0] ((rS_Algebra true) v) := by
  refine ret_vc k_impl_rename (Nat.le_of_ble_eq_true rfl) ?_
  unfold F_impl_rename at h
  conv => whnf
  refine Cells.lit rfl rfl ?_
  conv => whnf
  refine CallQ.o (rS_Algebra true) (by first | rfl | simp only [mulN_one, V.fz, fzL, V.up, upL, fzL_map, fz_slr, fz_at, slr, List.cons_append, List.nil_append] | simp [mulN_one, V.fz, fzL, V.up, upL, fzL_map, fz_slr, fz_at, slr]) h (fun r h => t_impl_cloneAlgebra h) (fun r1 h => ?_)
  conv => whnf
  refine SetKids.lit rfl ?_
  conv => whnf
  refine Cells.lit rfl rfl ?_
  conv => whnf
  refine Len.map ?_
  conv => whnf
  refine LoopQ.o [18, 17, 16, 5, 4, 2, 1] (S_impl_rename_l3 a0 names0) (T_impl_rename_l3 a0 names0) h (fun s o h => b_impl_rename_l3 s o h) (by first | rfl | simp [restrict, look, mulN_one, V.fz, fzL, V.up, upL, fzL_map, fz_slr, fz_at, slr]) (fun _ => rfl) ?_
  rintro q20_5 h
  try dsimp only at h
  conv => whnf
  refine Cells.lit rfl rfl ?_
  conv => whnf
  refine SetKids.lit rfl ?_
  conv => whnf
  cases h; exact (by first | rfl | simp [resV, mulN_one, V.fz, fzL, V.up, upL, fzL_map, fz_slr, fz_at, slr])

noncomputable def F_impl_listOf (p0 : SPoset) (list0 : (Slattice → Option (List Int))) : Option ((List Int) × Bool) :=
  (F_impl_latticeOf (p0)).bind fun t => match t with
  | (none, r1_2) => (if (r1_2) = true then
     none
    else
     some (nilL Int, false))
  | ((some r1_1), r1_2) => (if (r1_2) = true then
     (list0 (r1_1)).bind fun r4 =>
     some (r4, true)
    else
     some (nilL Int, false))
theorem t_impl_listOf {p0 : SPoset} {list0 : (Slattice → Option (List Int))} {f_list0 : Nat} {c_list0 : List V} (h_list0 : ∀ w_0 v, list0 w_0 = some v → Ret Try.prog f_list0 ([(rP false (rS_lattice false)) w_0] ++ fzL c_list0) ((slr true 1 vint) v)) {v : ((List Int) × Bool)} (h : F_impl_listOf p0 list0 = some v) : Ret Try.prog f_impl_listOf [(rS_Poset false) p0, V.fclo f_list0 c_list0] ((fun r => V.tup [(slr true 1 vint) r.1, V.bool r.2]) v) := by
  refine ret_vc k_impl_listOf (Nat.le_of_ble_eq_true rfl) ?_
  unfold F_impl_listOf at h
  conv => whnf
  refine Cells.lit rfl rfl ?_
  conv => whnf
  refine CallQ.o (fun r => V.tup [(rO true (rS_lattice true)) r.1, V.bool r.2]) (by first | rfl | simp only [mulN_one, V.fz, fzL, V.up, upL, fzL_map, fz_slr, fz_at, slr, List.cons_append, List.nil_append] | simp [mulN_one, V.fz, fzL, V.up, upL, fzL_map, fz_slr, fz_at, slr]) h (fun r h => t_impl_latticeOf h) (fun r1 h => ?_)
  rcases r1 with ⟨(_ | r1_1), r1_2⟩
  · try dsimp only at h
    conv => whnf
    refine Br.flip ?_
    conv => whnf
    refine Br.ob h (fun p2 h => ?_) (fun p2 h => ?_)
    · conv => whnf
      cases h
    · conv => whnf
      refine BslQ.o vint (nilL Int) (by exact fun _ => ⟨rfl, rfl⟩) (by first | rfl | simp only [mulN_one, V.fz, fzL, V.up, upL, fzL_map, fz_slr, fz_at, slr, List.cons_append, List.nil_append] | simp [mulN_one, V.fz, fzL, V.up, upL, fzL_map, fz_slr, fz_at, slr]) ?_
      conv => whnf
      cases h; exact (by first | rfl | simp [resV, mulN_one, V.fz, fzL, V.up, upL, fzL_map, fz_slr, fz_at, slr])
  · try dsimp only at h
    conv => whnf
    refine Br.flip ?_
    conv => whnf
    refine Br.ob h (fun p3 h => ?_) (fun p3 h => ?_)
    · conv => whnf
      refine CloQ.o (slr true 1 vint) (by first | rfl | simp only [V.fz, fzL, fzL_map, List.cons_append, List.nil_append] | simp [mulN_one, V.fz, fzL, V.up, upL, fzL_map, fz_slr, fz_at, slr]) (fun _ => by first | rfl | simp [resOk, V.noFz, noFzL_map]) h (fun r h => h_list0 _ _ h) (fun r4 h => ?_)
      conv => whnf
      cases h; exact (by first | rfl | simp [resV, mulN_one, V.fz, fzL, V.up, upL, fzL_map, fz_slr, fz_at, slr])
    · conv => whnf
      refine BslQ.o vint (nilL Int) (by exact fun _ => ⟨rfl, rfl⟩) (by first | rfl | simp only [mulN_one, V.fz, fzL, V.up, upL, fzL_map, fz_slr, fz_at, slr, List.cons_append, List.nil_append] | simp [mulN_one, V.fz, fzL, V.up, upL, fzL_map, fz_slr, fz_at, slr]) ?_
      conv => whnf
      cases h; exact (by first | rfl | simp [resV, mulN_one, V.fz, fzL, V.up, upL, fzL_map, fz_slr, fz_at, slr])

noncomputable def F_impl_order_upperCovers (o0 : (List (List Bool))) (x0 : Int) : Option (List Int) :=
  (F_impl_order_those (o0) (fun w_0 => F_impl_order_upperCovers_1 w_0 (o0) (x0))).bind fun r1 =>
  some r1
theorem t_impl_order_upperCovers {o0 : (List (List Bool))} {x0 : Int} {v : (List Int)} (h : F_impl_order_upperCovers o0 x0 = some v) : Ret Try.prog f_impl_order_upperCovers [(slr false 1 (slr false 1 V.bool)) o0, vint x0] ((slr true 1 vint) v) := by
  refine ret_vc k_impl_order_upperCovers (Nat.le_of_ble_eq_true rfl) ?_
  unfold F_impl_order_upperCovers at h
  conv => whnf
  refine Cells.lit rfl rfl ?_
  conv => whnf
  refine CallQ.rd (slr true 1 vint) (by first | rfl | simp only [mulN_one, V.fz, fzL, V.up, upL, fzL_map, fz_slr, fz_at, slr, List.cons_append, List.nil_append] | simp [mulN_one, V.fz, fzL, V.up, upL, fzL_map, fz_slr, fz_at, slr]) (fun _ => by simp [V.noFz, noFzL_map]) h (fun r h => t_impl_order_those (f_so0 := f_impl_order_upperCovers_1) (c_so0 := [(rP false (slr false 1 (slr false 1 V.bool))) (o0), (rP false vint) (x0)]) (fun w_0 v h => Ret.cast (by first | rfl | simp only [mulN_one, V.fz, fzL, V.up, upL, fzL_map, fz_slr, fz_at, slr, List.cons_append, List.nil_append] | simp [mulN_one, V.fz, fzL, V.up, upL, fzL_map, fz_slr, fz_at, slr]) (t_impl_order_upperCovers_1 h)) h) (fun r1 h => ?_)
  conv => whnf
  cases h; exact (by first | rfl | simp [resV, mulN_one, V.fz, fzL, V.up, upL, fzL_map, fz_slr, fz_at, slr])

noncomputable def F_spec_l23Covers_l1 (p0 : SPoset) (x0 : Int) (y0 : Int) : Int → Option (Int ⊕ (Unit ⊕ Unit)) := fun x7 =>
   if x7 < (↑p0.Below.length : Int) then
    (F_spec_l23Less (p0) (x0) (x7)).bind fun r4 =>
    if (r4) = true then
     (F_spec_l23Less (p0) (x7) (y0)).bind fun r6 =>
     if (r6) = true then
      some (.inr (.inl ()))
     else
      ask (InI (x7 + (1 : Int))) <|
      some (.inl (x7 + (1 : Int)))
    else
     ask (InI (x7 + (1 : Int))) <|
     some (.inl (x7 + (1 : Int)))
   else
    some (.inr (.inr ()))
def S_spec_l23Covers_l1 (p0 : SPoset) (x0 : Int) (y0 : Int) : Int → St := fun s => [(7, A.val (vint s)), (3, A.val ((rP true (rS_Poset false)) (p0))), (1, A.val (vint (x0))), (2, A.val (vint (y0)))]
def T_spec_l23Covers_l1 (_p0 : SPoset) (_x0 : Int) (_y0 : Int) : (Unit ⊕ Unit) → Tgt
  | (.inl _s) => (Ex.ret, [6], [(6, A.val (V.bool (false)))])
  | (.inr _s) => ((Ex.exit 0), [], [])
theorem b_spec_l23Covers_l1 {p0 : SPoset} {x0 : Int} {y0 : Int} (x7 : Int) (o : Int ⊕ (Unit ⊕ Unit)) (h : F_spec_l23Covers_l1 p0 x0 y0 x7 = some o) : vc Try.prog c_spec_l23Covers_l1 (outQ [7, 3, 1, 2] (S_spec_l23Covers_l1 p0 x0 y0) (T_spec_l23Covers_l1 p0 x0 y0) o) (S_spec_l23Covers_l1 p0 x0 y0 x7) := by
  unfold F_spec_l23Covers_l1 at h
  try dsimp only at h
  conv => whnf
  refine Cells.lit rfl rfl ?_
  conv => whnf
  refine Len.map ?_
  conv => whnf
  refine Br.od h (fun p3 h => ?_) (fun p3 h => ?_)
  · conv => whnf
    refine Cells.lit rfl rfl ?_
    conv => whnf
    refine CallQ.o V.bool (by first | rfl | simp only [mulN_one, V.fz, fzL, V.up, upL, fzL_map, fz_slr, fz_at, slr, List.cons_append, List.nil_append] | simp [mulN_one, V.fz, fzL, V.up, upL, fzL_map, fz_slr, fz_at, slr]) h (fun r h => t_spec_l23Less h) (fun r4 h => ?_)
    conv => whnf
    refine Br.ob h (fun p5 h => ?_) (fun p5 h => ?_)
    · conv => whnf
      refine Cells.lit rfl rfl ?_
      conv => whnf
      refine Br.yes ?_
      conv => whnf
      refine Br.yes ?_
      conv => whnf
      refine Br.yes ?_
      conv => whnf
      refine CallQ.o V.bool (by first | rfl | simp only [mulN_one, V.fz, fzL, V.up, upL, fzL_map, fz_slr, fz_at, slr, List.cons_append, List.nil_append] | simp [mulN_one, V.fz, fzL, V.up, upL, fzL_map, fz_slr, fz_at, slr]) h (fun r h => t_spec_l23Less h) (fun r6 h => ?_)
      conv => whnf
      refine Br.yes ?_
      conv => whnf
      refine Br.ob h (fun p7 h => ?_) (fun p7 h => ?_)
      · conv => whnf
        cases h; exact ⟨rfl, rfl⟩
      · conv => whnf
        refine Ask.o h fun p8 h => ?_
        conv => whnf
        cases h; exact ⟨rfl, rfl⟩
    · conv => whnf
      refine Br.no ?_
      conv => whnf
      refine Br.no ?_
      conv => whnf
      refine Br.no ?_
      conv => whnf
      refine Br.no ?_
      conv => whnf
      refine Br.no ?_
      conv => whnf
      refine Ask.o h fun p9 h => ?_
      conv => whnf
      cases h; exact ⟨rfl, rfl⟩
  · conv => whnf
    cases h; exact ⟨rfl, rfl⟩

noncomputable def F_spec_l23Covers (p0 : SPoset) (x0 : Int) (y0 : Int) : Option Bool :=
  (F_spec_l23Less (p0) (x0) (y0)).bind fun r1 =>
  if (r1) = true then
   (loopO (F_spec_l23Covers_l1 p0 x0 y0) (0 : Int)).bind fun t => match t with
   | (.inl _) => (some false)
   | (.inr _) => (some true)
  else
   some false
theorem t_spec_l23Covers {p0 : SPoset} {x0 : Int} {y0 : Int} {v : Bool} (h : F_spec_l23Covers p0 x0 y0 = some v) : Ret Try.prog f_spec_l23Covers [(rS_Poset false) p0, vint x0, vint y0] (V.bool v) := by
  refine ret_vc k_spec_l23Covers (Nat.le_of_ble_eq_true rfl) ?_
  unfold F_spec_l23Covers at h
  conv => whnf
  refine Cells.lit rfl rfl ?_
  conv => whnf
  refine CallQ.o V.bool (by first | rfl | simp only [mulN_one, V.fz, fzL, V.up, upL, fzL_map, fz_slr, fz_at, slr, List.cons_append, List.nil_append] | simp [mulN_one, V.fz, fzL, V.up, upL, fzL_map, fz_slr, fz_at, slr]) h (fun r h => t_spec_l23Less h) (fun r1 h => ?_)
  conv => whnf
  refine Br.flip ?_
  conv => whnf
  refine Br.ob h (fun p2 h => ?_) (fun p2 h => ?_)
  · conv => whnf
    refine LoopQ.o [7, 3, 1, 2] (S_spec_l23Covers_l1 p0 x0 y0) (T_spec_l23Covers_l1 p0 x0 y0) h (fun s o h => b_spec_l23Covers_l1 s o h) (by first | rfl | simp [restrict, look, mulN_one, V.fz, fzL, V.up, upL, fzL_map, fz_slr, fz_at, slr]) (by rintro (_ | _) <;> rfl) ?_
    rintro (⟨⟩ | ⟨⟩) h
    · try dsimp only at h
      conv => whnf
      cases h; exact (by first | rfl | simp [resV, mulN_one, V.fz, fzL, V.up, upL, fzL_map, fz_slr, fz_at, slr])
    · try dsimp only at h
      conv => whnf
      cases h; exact (by first | rfl | simp [resV, mulN_one, V.fz, fzL, V.up, upL, fzL_map, fz_slr, fz_at, slr])
  · conv => whnf
    cases h; exact (by first | rfl | simp [resV, mulN_one, V.fz, fzL, V.up, upL, fzL_map, fz_slr, fz_at, slr])

noncomputable def F_impl_order_lowerCovers (o0 : (List (List Bool))) (x0 : Int) : Option (List Int) :=
  (F_impl_order_those (o0) (fun w_0 => F_impl_order_lowerCovers_1 w_0 (o0) (x0))).bind fun r1 =>
  some r1
theorem t_impl_order_lowerCovers {o0 : (List (List Bool))} {x0 : Int} {v : (List Int)} (h : F_impl_order_lowerCovers o0 x0 = some v) : Ret Try.prog f_impl_order_lowerCovers [(slr false 1 (slr false 1 V.bool)) o0, vint x0] ((slr true 1 vint) v) := by
  refine ret_vc k_impl_order_lowerCovers (Nat.le_of_ble_eq_true rfl) ?_
  unfold F_impl_order_lowerCovers at h
  conv => whnf
  refine Cells.lit rfl rfl ?_
  conv => whnf
  refine CallQ.rd (slr true 1 vint) (by first | rfl | simp only [mulN_one, V.fz, fzL, V.up, upL, fzL_map, fz_slr, fz_at, slr, List.cons_append, List.nil_append] | simp [mulN_one, V.fz, fzL, V.up, upL, fzL_map, fz_slr, fz_at, slr]) (fun _ => by simp [V.noFz, noFzL_map]) h (fun r h => t_impl_order_those (f_so0 := f_impl_order_lowerCovers_1) (c_so0 := [(rP false (slr false 1 (slr false 1 V.bool))) (o0), (rP false vint) (x0)]) (fun w_0 v h => Ret.cast (by first | rfl | simp only [mulN_one, V.fz, fzL, V.up, upL, fzL_map, fz_slr, fz_at, slr, List.cons_append, List.nil_append] | simp [mulN_one, V.fz, fzL, V.up, upL, fzL_map, fz_slr, fz_at, slr]) (t_impl_order_lowerCovers_1 h)) h) (fun r1 h => ?_)
  conv => whnf
  cases h; exact (by first | rfl | simp [resV, mulN_one, V.fz, fzL, V.up, upL, fzL_map, fz_slr, fz_at, slr])

noncomputable def F_spec_LargestAntichain (p0 : SPoset) : Option ((List Int) × Bool) :=
  (F_spec_l23Good (p0)).bind fun r1 =>
  if (r1) = true then
   (F_spec_l23Largest (p0)).bind fun r3 =>
   some (r3, true)
  else
   some (nilL Int, false)
theorem t_spec_LargestAntichain {p0 : SPoset} {v : ((List Int) × Bool)} (h : F_spec_LargestAntichain p0 = some v) : Ret Try.prog f_spec_LargestAntichain [(rS_Poset false) p0] ((fun r => V.tup [(slr true 1 vint) r.1, V.bool r.2]) v) := by
  refine ret_vc k_spec_LargestAntichain (Nat.le_of_ble_eq_true rfl) ?_
  unfold F_spec_LargestAntichain at h
  conv => whnf
  refine Cells.lit rfl rfl ?_
  conv => whnf
  refine CallQ.o V.bool (by first | rfl | simp only [mulN_one, V.fz, fzL, V.up, upL, fzL_map, fz_slr, fz_at, slr, List.cons_append, List.nil_append] | simp [mulN_one, V.fz, fzL, V.up, upL, fzL_map, fz_slr, fz_at, slr]) h (fun r h => t_spec_l23Good h) (fun r1 h => ?_)
  conv => whnf
  refine Br.flip ?_
  conv => whnf
  refine Br.ob h (fun p2 h => ?_) (fun p2 h => ?_)
  · conv => whnf
    refine Cells.lit rfl rfl ?_
    conv => whnf
    refine CallQ.o (slr true 1 vint) (by first | rfl | simp only [mulN_one, V.fz, fzL, V.up, upL, fzL_map, fz_slr, fz_at, slr, List.cons_append, List.nil_append] | simp [mulN_one, V.fz, fzL, V.up, upL, fzL_map, fz_slr, fz_at, slr]) h (fun r h => t_spec_l23Largest h) (fun r3 h => ?_)
    conv => whnf
    cases h; exact (by first | rfl | simp [resV, mulN_one, V.fz, fzL, V.up, upL, fzL_map, fz_slr, fz_at, slr])
  · conv => whnf
    refine BslQ.o vint (nilL Int) (by exact fun _ => ⟨rfl, rfl⟩) (by first | rfl | simp only [mulN_one, V.fz, fzL, V.up, upL, fzL_map, fz_slr, fz_at, slr, List.cons_append, List.nil_append] | simp [mulN_one, V.fz, fzL, V.up, upL, fzL_map, fz_slr, fz_at, slr]) ?_
    conv => whnf
    cases h; exact (by first | rfl | simp [resV, mulN_one, V.fz, fzL, V.up, upL, fzL_map, fz_slr, fz_at, slr])

noncomputable def F_spec_EndsOf (p0 : SPoset) : Option (Int × Int × Bool) :=
  (F_spec_l24Good (p0)).bind fun r1 =>
  if (r1) = true then
   (F_spec_l24Bottom (p0)).bind fun r3 =>
   (F_spec_l24Top (p0)).bind fun r4 =>
   some (r3, r4, true)
  else
   some ((0 : Int), (0 : Int), false)
theorem t_spec_EndsOf {p0 : SPoset} {v : (Int × Int × Bool)} (h : F_spec_EndsOf p0 = some v) : Ret Try.prog f_spec_EndsOf [(rS_Poset false) p0] ((fun r => V.tup [vint r.1, vint r.2.1, V.bool r.2.2]) v) := by
  refine ret_vc k_spec_EndsOf (Nat.le_of_ble_eq_true rfl) ?_
  unfold F_spec_EndsOf at h
  conv => whnf
  refine Cells.lit rfl rfl ?_
  conv => whnf
  refine CallQ.o V.bool (by first | rfl | simp only [mulN_one, V.fz, fzL, V.up, upL, fzL_map, fz_slr, fz_at, slr, List.cons_append, List.nil_append] | simp [mulN_one, V.fz, fzL, V.up, upL, fzL_map, fz_slr, fz_at, slr]) h (fun r h => t_spec_l24Good h) (fun r1 h => ?_)
  conv => whnf
  refine Br.flip ?_
  conv => whnf
  refine Br.ob h (fun p2 h => ?_) (fun p2 h => ?_)
  · conv => whnf
    refine Cells.lit rfl rfl ?_
    conv => whnf
    refine CallP.o vint (by first | rfl | simp only [mulN_one, V.fz, fzL, V.up, upL, fzL_map, fz_slr, fz_at, slr, List.cons_append, List.nil_append] | simp [mulN_one, V.fz, fzL, V.up, upL, fzL_map, fz_slr, fz_at, slr]) h (fun r h => t_spec_l24Bottom h) (fun r3 h => ?_)
    conv => whnf
    refine Cells.lit rfl rfl ?_
    conv => whnf
    refine CallQ.o vint (by first | rfl | simp only [mulN_one, V.fz, fzL, V.up, upL, fzL_map, fz_slr, fz_at, slr, List.cons_append, List.nil_append] | simp [mulN_one, V.fz, fzL, V.up, upL, fzL_map, fz_slr, fz_at, slr]) h (fun r h => t_spec_l24Top h) (fun r4 h => ?_)
    conv => whnf
    cases h; exact (by first | rfl | simp [resV, mulN_one, V.fz, fzL, V.up, upL, fzL_map, fz_slr, fz_at, slr])
  · conv => whnf
    cases h; exact (by first | rfl | simp [resV, mulN_one, V.fz, fzL, V.up, upL, fzL_map, fz_slr, fz_at, slr])

noncomputable def F_impl_RenameElements (a0 : SAlgebra) (names0 : (List Int)) : Option (SAlgebra × Bool) :=
  (F_impl_IsAlgebra (a0)).bind fun r1 =>
  if (r1) = true then
   (F_impl_isOrder (names0) (a0.Size)).bind fun r3 =>
   if (r3) = true then
    (F_impl_rename (a0) (names0)).bind fun r5 =>
    some (r5, true)
   else
    some ({ Size := (0 : Int), Ops := nilL SOp }, false)
  else
   some ({ Size := (0 : Int), Ops := nilL SOp }, false)
theorem t_impl_RenameElements {a0 : SAlgebra} {names0 : (List Int)} {v : (SAlgebra × Bool)} (h : F_impl_RenameElements a0 names0 = some v) : Ret Try.prog f_impl_RenameElements [(rS_Algebra false) a0, (slr false 1 vint) names0] ((fun r => V.tup [(rS_Algebra true) r.1, V.bool r.2]) v) := by
  refine ret_vc k_impl_RenameElements (Nat.le_of_ble_eq_true rfl) ?_
  unfold F_impl_RenameElements at h
  conv => whnf
  refine Cells.lit rfl rfl ?_
  conv => whnf
  refine CallQ.o V.bool (by first | rfl | simp only [mulN_one, V.fz, fzL, V.up, upL, fzL_map, fz_slr, fz_at, slr, List.cons_append, List.nil_append] | simp [mulN_one, V.fz, fzL, V.up, upL, fzL_map, fz_slr, fz_at, slr]) h (fun r h => t_impl_IsAlgebra h) (fun r1 h => ?_)
  conv => whnf
  refine Br.flip ?_
  conv => whnf
  refine Br.ob h (fun p2 h => ?_) (fun p2 h => ?_)
  · conv => whnf
    refine Br.no ?_
    conv => whnf
    refine Br.no ?_
    conv => whnf
    refine Cells.lit rfl rfl ?_
    conv => whnf
    refine Br.no ?_
    conv => whnf
    refine CallQ.o V.bool (by first | rfl | simp only [mulN_one, V.fz, fzL, V.up, upL, fzL_map, fz_slr, fz_at, slr, List.cons_append, List.nil_append] | simp [mulN_one, V.fz, fzL, V.up, upL, fzL_map, fz_slr, fz_at, slr]) h (fun r h => t_impl_isOrder h) (fun r3 h => ?_)
    conv => whnf
    refine Br.no ?_
    conv => whnf
    refine Br.no ?_
    conv => whnf
    refine Br.flip ?_
    conv => whnf
    refine Br.ob h (fun p4 h => ?_) (fun p4 h => ?_)
    · conv => whnf
      refine Cells.lit rfl rfl ?_
      conv => whnf
      refine CallQ.o (rS_Algebra true) (by first | rfl | simp only [mulN_one, V.fz, fzL, V.up, upL, fzL_map, fz_slr, fz_at, slr, List.cons_append, List.nil_append] | simp [mulN_one, V.fz, fzL, V.up, upL, fzL_map, fz_slr, fz_at, slr]) h (fun r h => t_impl_rename h) (fun r5 h => ?_)
      conv => whnf
      refine SetKids.lit rfl ?_
      conv => whnf
      cases h; exact (by first | rfl | simp [resV, mulN_one, V.fz, fzL, V.up, upL, fzL_map, fz_slr, fz_at, slr])
    · conv => whnf
      refine SetKids.lit rfl ?_
      conv => whnf
      cases h; exact (by first | rfl | simp [resV, mulN_one, V.fz, fzL, V.up, upL, fzL_map, fz_slr, fz_at, slr])
  · conv => whnf
    refine Br.yes ?_
    conv => whnf
    refine Br.yes ?_
    conv => whnf
    refine Br.yes ?_
    conv => whnf
    refine Br.yes ?_
    conv => whnf
    refine Br.yes ?_
    conv => whnf
    refine Br.yes ?_
    conv => whnf
    refine SetKids.lit rfl ?_
    conv => whnf
    cases h; exact (by first | rfl | simp [resV, mulN_one, V.fz, fzL, V.up, upL, fzL_map, fz_slr, fz_at, slr])

noncomputable def F_spec_l23Pairs_l1 (p0 : SPoset) (x4 : Int) : (Int × (List (Int × Int))) → Option ((Int × (List (Int × Int))) ⊕ (List (Int × Int))) := fun (x5, x3') =>
   if x5 < (↑p0.Below.length : Int) then
    (F_spec_l23Covers (p0) (x4) (x5)).bind fun r3 =>
    if (r3) = true then
     ask ((x3').length + ([(x4, x5)]).length ≤ LIM) <|
     ask (InI (x5 + (1 : Int))) <|
     some (.inl (x5 + (1 : Int), x3' ++ [(x4, x5)]))
    else
     ask (InI (x5 + (1 : Int))) <|
     some (.inl (x5 + (1 : Int), x3'))
   else
    some (.inr x3')
def S_spec_l23Pairs_l1 (p0 : SPoset) (x4 : Int) : (Int × (List (Int × Int))) → St := fun s => [(5, A.val (vint s.1)), (4, A.val (vint (x4))), (3, A.val ((slr true 2 (rA2 vint)) s.2)), (1, A.val ((rP true (rS_Poset false)) (p0)))]
def T_spec_l23Pairs_l1 (p0 : SPoset) (x4 : Int) : (List (Int × Int)) → Tgt
  | s => ((Ex.exit 2), [4, 3, 1], [(4, A.val (vint (x4))), (3, A.val ((slr true 2 (rA2 vint)) s)), (1, A.val ((rP true (rS_Poset false)) (p0)))])
theorem b_spec_l23Pairs_l1 {p0 : SPoset} {x4 : Int} (s : (Int × (List (Int × Int)))) (o : (Int × (List (Int × Int))) ⊕ (List (Int × Int))) (h : F_spec_l23Pairs_l1 p0 x4 s = some o) : vc Try.prog c_spec_l23Pairs_l1 (outQ [5, 4, 3, 1] (S_spec_l23Pairs_l1 p0 x4) (T_spec_l23Pairs_l1 p0 x4) o) (S_spec_l23Pairs_l1 p0 x4 s) := by
  obtain ⟨x5, x3'⟩ := s
  unfold F_spec_l23Pairs_l1 at h
  try dsimp only at h
  conv => whnf
  refine Cells.lit rfl rfl ?_
  conv => whnf
  refine Len.map ?_
  conv => whnf
  refine Br.od h (fun p2 h => ?_) (fun p2 h => ?_)
  · conv => whnf
    refine Cells.lit rfl rfl ?_
    conv => whnf
    refine CallQ.o V.bool (by first | rfl | simp only [mulN_one, V.fz, fzL, V.up, upL, fzL_map, fz_slr, fz_at, slr, List.cons_append, List.nil_append] | simp [mulN_one, V.fz, fzL, V.up, upL, fzL_map, fz_slr, fz_at, slr]) h (fun r h => t_spec_l23Covers h) (fun r3 h => ?_)
    conv => whnf
    refine Br.ob h (fun p4 h => ?_) (fun p4 h => ?_)
    · conv => whnf
      refine BslQ.o (rA2 vint) ([(x4, x5)]) (by exact fun _ => ⟨rfl, rfl⟩) (by first | rfl | simp only [mulN_one, V.fz, fzL, V.up, upL, fzL_map, fz_slr, fz_at, slr, List.cons_append, List.nil_append] | simp [mulN_one, V.fz, fzL, V.up, upL, fzL_map, fz_slr, fz_at, slr]) ?_
      conv => whnf
      refine NoOwn.o (fun _ => rfl) ?_
      conv => whnf
      refine AppQ.o (m := 2) (rA2 vint) (by exact fun _ => ⟨rfl, rfl⟩) (x3') ([(x4, x5)]) (by first | rfl | simp only [mulN_one, V.fz, fzL, V.up, upL, fzL_map, fz_slr, fz_at, slr, List.cons_append, List.nil_append] | simp [mulN_one, V.fz, fzL, V.up, upL, fzL_map, fz_slr, fz_at, slr]) (by first | rfl | simp only [mulN_one, V.fz, fzL, V.up, upL, fzL_map, fz_slr, fz_at, slr, List.cons_append, List.nil_append] | simp [mulN_one, V.fz, fzL, V.up, upL, fzL_map, fz_slr, fz_at, slr]) h fun h => ?_
      conv => whnf
      refine Ask.o h fun p5 h => ?_
      conv => whnf
      cases h; exact ⟨rfl, rfl⟩
    · conv => whnf
      refine Ask.o h fun p6 h => ?_
      conv => whnf
      cases h; exact ⟨rfl, rfl⟩
  · conv => whnf
    cases h; exact ⟨rfl, rfl⟩

noncomputable def F_spec_l23Pairs_l2 (p0 : SPoset) : (Int × (List (Int × Int))) → Option ((Int × (List (Int × Int))) ⊕ (List (Int × Int))) := fun (x4, x3) =>
   if x4 < (↑p0.Below.length : Int) then
    (loopO (F_spec_l23Pairs_l1 p0 x4) ((0 : Int), x3)).bind fun q7_3 =>
    ask (InI (x4 + (1 : Int))) <|
    some (.inl (x4 + (1 : Int), q7_3))
   else
    some (.inr x3)
def S_spec_l23Pairs_l2 (p0 : SPoset) : (Int × (List (Int × Int))) → St := fun s => [(4, A.val (vint s.1)), (3, A.val ((slr true 2 (rA2 vint)) s.2)), (1, A.val ((rP true (rS_Poset false)) (p0)))]
def T_spec_l23Pairs_l2 (_p0 : SPoset) : (List (Int × Int)) → Tgt
  | s => ((Ex.exit 0), [3], [(3, A.val ((slr true 2 (rA2 vint)) s))])
theorem b_spec_l23Pairs_l2 {p0 : SPoset} (s : (Int × (List (Int × Int)))) (o : (Int × (List (Int × Int))) ⊕ (List (Int × Int))) (h : F_spec_l23Pairs_l2 p0 s = some o) : vc Try.prog c_spec_l23Pairs_l2 (outQ [4, 3, 1] (S_spec_l23Pairs_l2 p0) (T_spec_l23Pairs_l2 p0) o) (S_spec_l23Pairs_l2 p0 s) := by
  obtain ⟨x4, x3⟩ := s
  unfold F_spec_l23Pairs_l2 at h
  try dsimp only at h
  conv => whnf
  refine Cells.lit rfl rfl ?_
  conv => whnf
  refine Len.map ?_
  conv => whnf
  refine Br.od h (fun p1 h => ?_) (fun p1 h => ?_)
  · conv => whnf
    refine LoopQ.o [5, 4, 3, 1] (S_spec_l23Pairs_l1 p0 x4) (T_spec_l23Pairs_l1 p0 x4) h (fun s o h => b_spec_l23Pairs_l1 s o h) (by first | rfl | simp [restrict, look, mulN_one, V.fz, fzL, V.up, upL, fzL_map, fz_slr, fz_at, slr]) (fun _ => rfl) ?_
    rintro q7_3 h
    try dsimp only at h
    conv => whnf
    refine Ask.o h fun p8 h => ?_
    conv => whnf
    cases h; exact ⟨rfl, rfl⟩
  · conv => whnf
    cases h; exact ⟨rfl, rfl⟩

noncomputable def F_spec_l23Pairs (p0 : SPoset) : Option (List (Int × Int)) :=
  (loopO (F_spec_l23Pairs_l2 p0) ((0 : Int), nilL (Int × Int))).bind fun q9_3 =>
  some q9_3
theorem t_spec_l23Pairs {p0 : SPoset} {v : (List (Int × Int))} (h : F_spec_l23Pairs p0 = some v) : Ret Try.prog f_spec_l23Pairs [(rS_Poset false) p0] ((slr true 2 (rA2 vint)) v) := by
  refine ret_vc k_spec_l23Pairs (Nat.le_of_ble_eq_true rfl) ?_
  unfold F_spec_l23Pairs at h
  conv => whnf
  refine BslQ.o (rA2 vint) (nilL (Int × Int)) (by exact fun _ => ⟨rfl, rfl⟩) (by first | rfl | simp only [mulN_one, V.fz, fzL, V.up, upL, fzL_map, fz_slr, fz_at, slr, List.cons_append, List.nil_append] | simp [mulN_one, V.fz, fzL, V.up, upL, fzL_map, fz_slr, fz_at, slr]) ?_
  conv => whnf
  refine LoopQ.o [4, 3, 1] (S_spec_l23Pairs_l2 p0) (T_spec_l23Pairs_l2 p0) h (fun s o h => b_spec_l23Pairs_l2 s o h) (by first | rfl | simp [restrict, look, mulN_one, V.fz, fzL, V.up, upL, fzL_map, fz_slr, fz_at, slr]) (fun _ => rfl) ?_
  rintro q9_3 h
  try dsimp only at h
  conv => whnf
  cases h; exact (by first | rfl | simp [resV, mulN_one, V.fz, fzL, V.up, upL, fzL_map, fz_slr, fz_at, slr])

noncomputable def F_spec_l24Two (p0 : SPoset) (x0 : Int) (y0 : Int) : Option Bool :=
  (F_spec_l24Good (p0)).bind fun r1 =>
  if (r1) = true then
   (F_spec_l23Is (p0) (x0)).bind fun r3 =>
   if (r3) = true then
    (F_spec_l23Is (p0) (y0)).bind fun r5 =>
    some r5
   else
    some false
  else
   some false
theorem t_spec_l24Two {p0 : SPoset} {x0 : Int} {y0 : Int} {v : Bool} (h : F_spec_l24Two p0 x0 y0 = some v) : Ret Try.prog f_spec_l24Two [(rS_Poset false) p0, vint x0, vint y0] (V.bool v) := by
  refine ret_vc k_spec_l24Two (Nat.le_of_ble_eq_true rfl) ?_
  unfold F_spec_l24Two at h
  conv => whnf
  refine Cells.lit rfl rfl ?_
  conv => whnf
  refine CallQ.o V.bool (by first | rfl | simp only [mulN_one, V.fz, fzL, V.up, upL, fzL_map, fz_slr, fz_at, slr, List.cons_append, List.nil_append] | simp [mulN_one, V.fz, fzL, V.up, upL, fzL_map, fz_slr, fz_at, slr]) h (fun r h => t_spec_l24Good h) (fun r1 h => ?_)
  conv => whnf
  refine Br.ob h (fun p2 h => ?_) (fun p2 h => ?_)
  · conv => whnf
    refine Cells.lit rfl rfl ?_
    conv => whnf
    refine Br.yes ?_
    conv => whnf
    refine Br.yes ?_
    conv => whnf
    refine CallQ.o V.bool (by first | rfl | simp only [mulN_one, V.fz, fzL, V.up, upL, fzL_map, fz_slr, fz_at, slr, List.cons_append, List.nil_append] | simp [mulN_one, V.fz, fzL, V.up, upL, fzL_map, fz_slr, fz_at, slr]) h (fun r h => t_spec_l23Is h) (fun r3 h => ?_)
    conv => whnf
    refine Br.yes ?_
    conv => whnf
    refine Br.ob h (fun p4 h => ?_) (fun p4 h => ?_)
    · conv => whnf
      refine Cells.lit rfl rfl ?_
      conv => whnf
      refine Br.yes ?_
      conv => whnf
      refine Br.yes ?_
      conv => whnf
      refine CallQ.o V.bool (by first | rfl | simp only [mulN_one, V.fz, fzL, V.up, upL, fzL_map, fz_slr, fz_at, slr, List.cons_append, List.nil_append] | simp [mulN_one, V.fz, fzL, V.up, upL, fzL_map, fz_slr, fz_at, slr]) h (fun r h => t_spec_l23Is h) (fun r5 h => ?_)
      conv => whnf
      refine Br.yes ?_
      conv => whnf
      cases h; exact (by first | rfl | simp [resV, mulN_one, V.fz, fzL, V.up, upL, fzL_map, fz_slr, fz_at, slr])
    · conv => whnf
      refine Br.no ?_
      conv => whnf
      refine Br.no ?_
      conv => whnf
      refine Br.no ?_
      conv => whnf
      cases h; exact (by first | rfl | simp [resV, mulN_one, V.fz, fzL, V.up, upL, fzL_map, fz_slr, fz_at, slr])
  · conv => whnf
    refine Br.no ?_
    conv => whnf
    refine Br.no ?_
    conv => whnf
    refine Br.no ?_
    conv => whnf
    refine Br.no ?_
    conv => whnf
    refine Br.no ?_
    conv => whnf
    refine Br.no ?_
    conv => whnf
    refine Br.no ?_
    conv => whnf
    cases h; exact (by first | rfl | simp [resV, mulN_one, V.fz, fzL, V.up, upL, fzL_map, fz_slr, fz_at, slr])

noncomputable def F_spec_l24Some (p0 : SPoset) (some0 : (List Int)) : Option Bool :=
  (F_spec_l24Good (p0)).bind fun r1 =>
  if (r1) = true then
   if (↑some0.length : Int) ≤ (20 : Int) then
    (F_spec_l2Elements ((↑p0.Below.length : Int)) (some0)).bind fun r4 =>
    some r4
   else
    some false
  else
   some false
theorem t_spec_l24Some {p0 : SPoset} {some0 : (List Int)} {v : Bool} (h : F_spec_l24Some p0 some0 = some v) : Ret Try.prog f_spec_l24Some [(rS_Poset false) p0, (slr false 1 vint) some0] (V.bool v) := by
  refine ret_vc k_spec_l24Some (Nat.le_of_ble_eq_true rfl) ?_
  unfold F_spec_l24Some at h
  conv => whnf
  refine Cells.lit rfl rfl ?_
  conv => whnf
  refine CallQ.o V.bool (by first | rfl | simp only [mulN_one, V.fz, fzL, V.up, upL, fzL_map, fz_slr, fz_at, slr, List.cons_append, List.nil_append] | simp [mulN_one, V.fz, fzL, V.up, upL, fzL_map, fz_slr, fz_at, slr]) h (fun r h => t_spec_l24Good h) (fun r1 h => ?_)
  conv => whnf
  refine Br.ob h (fun p2 h => ?_) (fun p2 h => ?_)
  · conv => whnf
    refine Br.yes ?_
    conv => whnf
    refine Len.map ?_
    conv => whnf
    refine Br.yes ?_
    conv => whnf
    refine Br.yes ?_
    conv => whnf
    refine Br.od h (fun p3 h => ?_) (fun p3 h => ?_)
    · conv => whnf
      refine Br.yes ?_
      conv => whnf
      refine Cells.lit rfl rfl ?_
      conv => whnf
      refine Br.yes ?_
      conv => whnf
      refine Len.map ?_
      conv => whnf
      refine Br.yes ?_
      conv => whnf
      refine Br.yes ?_
      conv => whnf
      refine CallQ.o V.bool (by first | rfl | simp only [mulN_one, V.fz, fzL, V.up, upL, fzL_map, fz_slr, fz_at, slr, List.cons_append, List.nil_append] | simp [mulN_one, V.fz, fzL, V.up, upL, fzL_map, fz_slr, fz_at, slr]) h (fun r h => t_spec_l2Elements h) (fun r4 h => ?_)
      conv => whnf
      refine Br.yes ?_
      conv => whnf
      cases h; exact (by first | rfl | simp [resV, mulN_one, V.fz, fzL, V.up, upL, fzL_map, fz_slr, fz_at, slr])
    · conv => whnf
      refine Br.no ?_
      conv => whnf
      refine Br.no ?_
      conv => whnf
      refine Br.no ?_
      conv => whnf
      refine Br.no ?_
      conv => whnf
      refine Br.no ?_
      conv => whnf
      cases h; exact (by first | rfl | simp [resV, mulN_one, V.fz, fzL, V.up, upL, fzL_map, fz_slr, fz_at, slr])
  · conv => whnf
    refine Br.no ?_
    conv => whnf
    refine Br.no ?_
    conv => whnf
    refine Br.no ?_
    conv => whnf
    refine Br.no ?_
    conv => whnf
    refine Br.no ?_
    conv => whnf
    refine Br.no ?_
    conv => whnf
    refine Br.no ?_
    conv => whnf
    refine Br.no ?_
    conv => whnf
    refine Br.no ?_
    conv => whnf
    cases h; exact (by first | rfl | simp [resV, mulN_one, V.fz, fzL, V.up, upL, fzL_map, fz_slr, fz_at, slr])

end Go.Proofs.Ythcnmahjhahafab.Ax
