/-
  What the functions compute, as functions on plain data, and that the program does compute it; written by program.
-/
import Derived.Test.YtdodfnbbfkcgnaaCode
import Derived.Test.YtdodfnbbfkcgnaaG1
import Derived.Test.YtdodfnbbfkcgnaaG2
import Derived.Test.YtdodfnbbfkcgnaaG3
import Derived.Test.YtdodfnbbfkcgnaaG4
namespace Go.Proofs.Ytdodfnbbfkcgnaa.Ax
open Go
set_option maxRecDepth 100000
set_option maxHeartbeats 4000000

noncomputable def F_impl_cloneAlgebra_l1 (a0 : SAlgebra) : (Int × SAlgebra) → Option ((Int × SAlgebra) ⊕ SAlgebra) := fun (x12, x3) =>
   if x12 < (↑a0.Ops.length : Int) then
    ask ((0 : Int) ≤ x12 ∧ x12 < (↑a0.Ops.length : Int)) <|
    (F_impl_cloneOp (nth a0.Ops x12.toNat)).bind fun r3 =>
    ask ((x3.Ops).length + ([r3]).length ≤ LIM) <|
    ask (InI (x12 + (1 : Int))) <|
    some (.inl (x12 + (1 : Int), { Size := x3.Size, Ops := x3.Ops ++ [r3] }))
   else
    some (.inr x3)
def S_impl_cloneAlgebra_l1 (a0 : SAlgebra) : (Int × SAlgebra) → St := fun s => [(12, A.val (vint s.1)), (11, A.val (vint ((↑a0.Ops.length : Int)))), (10, A.val ((slr false 2 (rS_Op false)) (a0.Ops))), (3, A.val ((rP true (rS_Algebra true)) s.2)), (2, A.val ((rP true (rS_Algebra true)) ({ Size := (0 : Int), Ops := nilL SOp })))]
def T_impl_cloneAlgebra_l1 (_a0 : SAlgebra) : SAlgebra → Tgt
  | s => ((Ex.exit 0), [3, 2], [(3, A.val ((rP true (rS_Algebra true)) s)), (2, A.val ((rP true (rS_Algebra true)) ({ Size := (0 : Int), Ops := nilL SOp })))])
theorem b_impl_cloneAlgebra_l1 {a0 : SAlgebra} (s : (Int × SAlgebra)) (o : (Int × SAlgebra) ⊕ SAlgebra) (h : F_impl_cloneAlgebra_l1 a0 s = some o) : vc Try.prog c_impl_cloneAlgebra_l1 (outQ [12, 11, 10, 3, 2] (S_impl_cloneAlgebra_l1 a0) (T_impl_cloneAlgebra_l1 a0) o) (S_impl_cloneAlgebra_l1 a0 s) := by
  obtain ⟨x12, x3⟩ := s
  unfold F_impl_cloneAlgebra_l1 at h
  try dsimp only at h
  conv => whnf
  refine Br.od h (fun p1 h => ?_) (fun p1 h => ?_)
  · conv => whnf
    refine Len.map ?_
    conv => whnf
    refine Ask.o h fun p2 h => ?_
    conv => whnf
    refine Elem.o (by first | omega | (simp only [mulN] at *; omega) | (simp [mulN] at *; omega)) ?_
    conv => whnf
    refine SetKids.lit rfl ?_
    conv => whnf
    refine Cells.lit rfl rfl ?_
    conv => whnf
    refine Cells.lit rfl rfl ?_
    conv => whnf
    refine CallP.o (rS_Op true) (by first | rfl | simp only [mulN_one, V.fz, fzL, V.up, upL, fzL_map, fz_slr, fz_at, slr, List.cons_append, List.nil_append] | simp [mulN_one, V.fz, fzL, V.up, upL, fzL_map, fz_slr, fz_at, slr]) h (fun r h => t_impl_cloneOp h) (fun r3 h => ?_)
    conv => whnf
    refine BslQ.o (rS_Op true) [r3] (by exact fun _ => ⟨rfl, rfl⟩) (by first | rfl | simp only [mulN_one, V.fz, fzL, V.up, upL, fzL_map, fz_slr, fz_at, slr, List.cons_append, List.nil_append] | simp [mulN_one, V.fz, fzL, V.up, upL, fzL_map, fz_slr, fz_at, slr]) ?_
    conv => whnf
    refine NoOwn.own rfl ?_
    conv => whnf
    refine AppQ.o (m := 2) (rS_Op true) (by exact fun _ => ⟨rfl, rfl⟩) (x3.Ops) ([r3]) (by first | rfl | simp only [mulN_one, V.fz, fzL, V.up, upL, fzL_map, fz_slr, fz_at, slr, List.cons_append, List.nil_append] | simp [mulN_one, V.fz, fzL, V.up, upL, fzL_map, fz_slr, fz_at, slr]) (by first | rfl | simp only [mulN_one, V.fz, fzL, V.up, upL, fzL_map, fz_slr, fz_at, slr, List.cons_append, List.nil_append] | simp [mulN_one, V.fz, fzL, V.up, upL, fzL_map, fz_slr, fz_at, slr]) h fun h => ?_
    conv => whnf
    refine SetKids.lit rfl ?_
    conv => whnf
    refine Ask.o h fun p4 h => ?_
    conv => whnf
    cases h; exact ⟨rfl, rfl⟩
  · conv => whnf
    cases h; exact ⟨rfl, rfl⟩

noncomputable def F_impl_cloneAlgebra (a0 : SAlgebra) : Option SAlgebra :=
  (loopO (F_impl_cloneAlgebra_l1 a0) ((0 : Int), { Size := a0.Size, Ops := nilL SOp })).bind fun q5_3 =>
  some q5_3
theorem t_impl_cloneAlgebra {a0 : SAlgebra} {v : SAlgebra} (h : F_impl_cloneAlgebra a0 = some v) : Ret Try.prog f_impl_cloneAlgebra [(rS_Algebra false) a0] ((rS_Algebra true) v) := by
  refine ret_vc k_impl_cloneAlgebra (Nat.le_of_ble_eq_true rfl) ?_
  unfold F_impl_cloneAlgebra at h
  conv => whnf
  refine Cells.lit rfl rfl ?_
  conv => whnf
  refine SetKids.lit rfl ?_
  conv => whnf
  refine Cells.lit rfl rfl ?_
  conv => whnf
  refine Len.map ?_
  conv => whnf
  refine LoopQ.o [12, 11, 10, 3, 2] (S_impl_cloneAlgebra_l1 a0) (T_impl_cloneAlgebra_l1 a0) h (fun s o h => b_impl_cloneAlgebra_l1 s o h) (by first | rfl | simp [restrict, look, mulN_one, V.fz, fzL, V.up, upL, fzL_map, fz_slr, fz_at, slr]) (fun _ => rfl) ?_
  rintro q5_3 h
  try dsimp only at h
  conv => whnf
  refine Cells.lit rfl rfl ?_
  conv => whnf
  refine SetKids.lit rfl ?_
  conv => whnf
  cases h; exact (by first | rfl | simp only [resV, mulN_one, V.fz, fzL, V.up, upL, fzL_map, fz_slr, fz_at, slr] | simp [resV, mulN_one, V.fz, fzL, V.up, upL, fzL_map, fz_slr, fz_at, slr])

noncomputable def F_spec_l7Map (a0 : SAlgebra) (b0 : SAlgebra) (f0 : (List Int)) : Option Bool :=
  if (↑f0.length : Int) = a0.Size then
   (F_spec_l2Elements (b0.Size) (f0)).bind fun r2 =>
   some r2
  else
   some false
theorem t_spec_l7Map {a0 : SAlgebra} {b0 : SAlgebra} {f0 : (List Int)} {v : Bool} (h : F_spec_l7Map a0 b0 f0 = some v) : Ret Try.prog f_spec_l7Map [(rS_Algebra false) a0, (rS_Algebra false) b0, (slr false 1 vint) f0] (V.bool v) := by
  refine ret_vc k_spec_l7Map (Nat.le_of_ble_eq_true rfl) ?_
  unfold F_spec_l7Map at h
  conv => whnf
  refine Len.map ?_
  conv => whnf
  refine Cells.lit rfl rfl ?_
  conv => whnf
  refine Br.oe h (fun p1 h => ?_) (fun p1 h => ?_)
  · conv => whnf
    refine Br.yes ?_
    conv => whnf
    refine Cells.lit rfl rfl ?_
    conv => whnf
    refine Br.yes ?_
    conv => whnf
    refine Br.yes ?_
    conv => whnf
    refine CallQ.o V.bool (by first | rfl | simp only [mulN_one, V.fz, fzL, V.up, upL, fzL_map, fz_slr, fz_at, slr, List.cons_append, List.nil_append] | simp [mulN_one, V.fz, fzL, V.up, upL, fzL_map, fz_slr, fz_at, slr]) h (fun r h => t_spec_l2Elements h) (fun r2 h => ?_)
    conv => whnf
    refine Br.yes ?_
    conv => whnf
    cases h; exact (by first | rfl | simp only [resV, mulN_one, V.fz, fzL, V.up, upL, fzL_map, fz_slr, fz_at, slr] | simp [resV, mulN_one, V.fz, fzL, V.up, upL, fzL_map, fz_slr, fz_at, slr])
  · conv => whnf
    refine Br.no ?_
    conv => whnf
    refine Br.no ?_
    conv => whnf
    refine Br.no ?_
    conv => whnf
    refine Br.no ?_
    conv => whnf
    cases h; exact (by first | rfl | simp only [resV, mulN_one, V.fz, fzL, V.up, upL, fzL_map, fz_slr, fz_at, slr] | simp [resV, mulN_one, V.fz, fzL, V.up, upL, fzL_map, fz_slr, fz_at, slr])

noncomputable def F_laws_szAlgebra (a0 : SAlgebra) (left0 : Int) : Option Int :=
  (F_laws_szOpS (a0.Ops) (left0)).bind fun r1 =>
  if r1 < (0 : Int) then
   some (-1 : Int)
  else
   some r1
theorem t_laws_szAlgebra {a0 : SAlgebra} {left0 : Int} {v : Int} (h : F_laws_szAlgebra a0 left0 = some v) : Ret Try.prog f_laws_szAlgebra [(rS_Algebra false) a0, vint left0] (vint v) := by
  refine ret_vc k_laws_szAlgebra (Nat.le_of_ble_eq_true rfl) ?_
  unfold F_laws_szAlgebra at h
  conv => whnf
  refine Cells.lit rfl rfl ?_
  conv => whnf
  refine CallQ.o vint (by first | rfl | simp only [mulN_one, V.fz, fzL, V.up, upL, fzL_map, fz_slr, fz_at, slr, List.cons_append, List.nil_append] | simp [mulN_one, V.fz, fzL, V.up, upL, fzL_map, fz_slr, fz_at, slr]) h (fun r h => t_laws_szOpS h) (fun r1 h => ?_)
  conv => whnf
  refine Br.od h (fun p2 h => ?_) (fun p2 h => ?_)
  · conv => whnf
    cases h; exact (by first | rfl | simp only [resV, mulN_one, V.fz, fzL, V.up, upL, fzL_map, fz_slr, fz_at, slr] | simp [resV, mulN_one, V.fz, fzL, V.up, upL, fzL_map, fz_slr, fz_at, slr])
  · conv => whnf
    cases h; exact (by first | rfl | simp only [resV, mulN_one, V.fz, fzL, V.up, upL, fzL_map, fz_slr, fz_at, slr] | simp [resV, mulN_one, V.fz, fzL, V.up, upL, fzL_map, fz_slr, fz_at, slr])

noncomputable def F_spec_RenameElements (a0 : SAlgebra) (names0 : (List Int)) : Option (SAlgebra × Bool) :=
  (F_spec_l2Good (a0)).bind fun r1 =>
  if (r1) = true then
   (F_spec_l2Perm (names0) (a0.Size)).bind fun r3 =>
   if (r3) = true then
    (F_spec_l2Rename (a0) (names0)).bind fun r5 =>
    some (r5, true)
   else
    some ({ Size := (0 : Int), Ops := nilL SOp }, false)
  else
   some ({ Size := (0 : Int), Ops := nilL SOp }, false)
theorem t_spec_RenameElements {a0 : SAlgebra} {names0 : (List Int)} {v : (SAlgebra × Bool)} (h : F_spec_RenameElements a0 names0 = some v) : Ret Try.prog f_spec_RenameElements [(rS_Algebra false) a0, (slr false 1 vint) names0] ((fun r => V.tup [(rS_Algebra true) r.1, V.bool r.2]) v) := by
  refine ret_vc k_spec_RenameElements (Nat.le_of_ble_eq_true rfl) ?_
  unfold F_spec_RenameElements at h
  conv => whnf
  refine Cells.lit rfl rfl ?_
  conv => whnf
  refine CallQ.o V.bool (by first | rfl | simp only [mulN_one, V.fz, fzL, V.up, upL, fzL_map, fz_slr, fz_at, slr, List.cons_append, List.nil_append] | simp [mulN_one, V.fz, fzL, V.up, upL, fzL_map, fz_slr, fz_at, slr]) h (fun r h => t_spec_l2Good h) (fun r1 h => ?_)
  conv => whnf
  refine Br.flip ?_
  conv => whnf
  refine Br.ob h (fun p2 h => ?_) (fun p2 h => ?_)
  · conv => whnf
    refine Br.no ?_
    conv => whnf
    refine Br.no ?_
    conv => whnf
    refine Cells.lit rfl rfl ?_
    conv => whnf
    refine Br.no ?_
    conv => whnf
    refine CallQ.o V.bool (by first | rfl | simp only [mulN_one, V.fz, fzL, V.up, upL, fzL_map, fz_slr, fz_at, slr, List.cons_append, List.nil_append] | simp [mulN_one, V.fz, fzL, V.up, upL, fzL_map, fz_slr, fz_at, slr]) h (fun r h => t_spec_l2Perm h) (fun r3 h => ?_)
    conv => whnf
    refine Br.no ?_
    conv => whnf
    refine Br.no ?_
    conv => whnf
    refine Br.flip ?_
    conv => whnf
    refine Br.ob h (fun p4 h => ?_) (fun p4 h => ?_)
    · conv => whnf
      refine Cells.lit rfl rfl ?_
      conv => whnf
      refine CallQ.o (rS_Algebra true) (by first | rfl | simp only [mulN_one, V.fz, fzL, V.up, upL, fzL_map, fz_slr, fz_at, slr, List.cons_append, List.nil_append] | simp [mulN_one, V.fz, fzL, V.up, upL, fzL_map, fz_slr, fz_at, slr]) h (fun r h => t_spec_l2Rename h) (fun r5 h => ?_)
      conv => whnf
      refine SetKids.lit rfl ?_
      conv => whnf
      cases h; exact (by first | rfl | simp only [resV, mulN_one, V.fz, fzL, V.up, upL, fzL_map, fz_slr, fz_at, slr] | simp [resV, mulN_one, V.fz, fzL, V.up, upL, fzL_map, fz_slr, fz_at, slr])
    · conv => whnf
      refine SetKids.lit rfl ?_
      conv => whnf
      cases h; exact (by first | rfl | simp only [resV, mulN_one, V.fz, fzL, V.up, upL, fzL_map, fz_slr, fz_at, slr] | simp [resV, mulN_one, V.fz, fzL, V.up, upL, fzL_map, fz_slr, fz_at, slr])
  · conv => whnf
    refine Br.yes ?_
    conv => whnf
    refine Br.yes ?_
    conv => whnf
    refine Br.yes ?_
    conv => whnf
    refine Br.yes ?_
    conv => whnf
    refine Br.yes ?_
    conv => whnf
    refine Br.yes ?_
    conv => whnf
    refine SetKids.lit rfl ?_
    conv => whnf
    cases h; exact (by first | rfl | simp only [resV, mulN_one, V.fz, fzL, V.up, upL, fzL_map, fz_slr, fz_at, slr] | simp [resV, mulN_one, V.fz, fzL, V.up, upL, fzL_map, fz_slr, fz_at, slr])

noncomputable def F_laws_toAlgebra (a0 : SAlgebra) : Option SAlgebra :=
  (F_laws_toOpS (a0.Ops)).bind fun r1 =>
  some ({ Size := a0.Size, Ops := r1 })
theorem t_laws_toAlgebra {a0 : SAlgebra} {v : SAlgebra} (h : F_laws_toAlgebra a0 = some v) : Ret Try.prog f_laws_toAlgebra [(rS_Algebra false) a0] ((rS_Algebra true) v) := by
  refine ret_vc k_laws_toAlgebra (Nat.le_of_ble_eq_true rfl) ?_
  unfold F_laws_toAlgebra at h
  conv => whnf
  refine Cells.lit rfl rfl ?_
  conv => whnf
  refine SetKids.lit rfl ?_
  conv => whnf
  refine Cells.lit rfl rfl ?_
  conv => whnf
  refine CallQ.o (slr true 2 (rS_Op true)) (by first | rfl | simp only [mulN_one, V.fz, fzL, V.up, upL, fzL_map, fz_slr, fz_at, slr, List.cons_append, List.nil_append] | simp [mulN_one, V.fz, fzL, V.up, upL, fzL_map, fz_slr, fz_at, slr]) h (fun r h => t_laws_toOpS h) (fun r1 h => ?_)
  conv => whnf
  refine SetKids.lit rfl ?_
  conv => whnf
  refine Cells.lit rfl rfl ?_
  conv => whnf
  refine SetKids.lit rfl ?_
  conv => whnf
  cases h; exact (by first | rfl | simp only [resV, mulN_one, V.fz, fzL, V.up, upL, fzL_map, fz_slr, fz_at, slr] | simp [resV, mulN_one, V.fz, fzL, V.up, upL, fzL_map, fz_slr, fz_at, slr])

noncomputable def F_laws_eqAlgebra (a0 : SAlgebra) (b0 : SAlgebra) : Option Bool :=
  if a0.Size ≠ b0.Size then
   some false
  else
   (F_laws_eqOpS (a0.Ops) (b0.Ops)).bind fun r2 =>
   if (r2) = true then
    some true
   else
    some false
theorem t_laws_eqAlgebra {a0 : SAlgebra} {b0 : SAlgebra} {v : Bool} (h : F_laws_eqAlgebra a0 b0 = some v) : Ret Try.prog f_laws_eqAlgebra [(rS_Algebra false) a0, (rS_Algebra false) b0] (V.bool v) := by
  refine ret_vc k_laws_eqAlgebra (Nat.le_of_ble_eq_true rfl) ?_
  unfold F_laws_eqAlgebra at h
  conv => whnf
  refine Cells.lit rfl rfl ?_
  conv => whnf
  refine Cells.lit rfl rfl ?_
  conv => whnf
  refine Br.on h (fun p1 h => ?_) (fun p1 h => ?_)
  · conv => whnf
    cases h; exact (by first | rfl | simp only [resV, mulN_one, V.fz, fzL, V.up, upL, fzL_map, fz_slr, fz_at, slr] | simp [resV, mulN_one, V.fz, fzL, V.up, upL, fzL_map, fz_slr, fz_at, slr])
  · conv => whnf
    refine Cells.lit rfl rfl ?_
    conv => whnf
    refine Cells.lit rfl rfl ?_
    conv => whnf
    refine CallQ.o V.bool (by first | rfl | simp only [mulN_one, V.fz, fzL, V.up, upL, fzL_map, fz_slr, fz_at, slr, List.cons_append, List.nil_append] | simp [mulN_one, V.fz, fzL, V.up, upL, fzL_map, fz_slr, fz_at, slr]) h (fun r h => t_laws_eqOpS h) (fun r2 h => ?_)
    conv => whnf
    refine Br.flip ?_
    conv => whnf
    refine Br.ob h (fun p3 h => ?_) (fun p3 h => ?_)
    · conv => whnf
      cases h; exact (by first | rfl | simp only [resV, mulN_one, V.fz, fzL, V.up, upL, fzL_map, fz_slr, fz_at, slr] | simp [resV, mulN_one, V.fz, fzL, V.up, upL, fzL_map, fz_slr, fz_at, slr])
    · conv => whnf
      cases h; exact (by first | rfl | simp only [resV, mulN_one, V.fz, fzL, V.up, upL, fzL_map, fz_slr, fz_at, slr] | simp [resV, mulN_one, V.fz, fzL, V.up, upL, fzL_map, fz_slr, fz_at, slr])

noncomputable def F_impl_rename_l1 (_a0 : SAlgebra) (names0 : List Int) (_x18 : Int) (_x26 : Int) (_x5' : SAlgebra) (r6 : List Int) : (Int × (List Int)) → Option ((Int × (List Int)) ⊕ (List Int)) := fun (x39, x10) =>
   if x39 < (↑r6.length : Int) then
    ask ((0 : Int) ≤ x39 ∧ x39 < (↑x10.length : Int)) <|
    ask ((0 : Int) ≤ nth x10 x39.toNat ∧ nth x10 x39.toNat < (↑names0.length : Int)) <|
    ask ((0 : Int) ≤ x39 ∧ x39 < (↑x10.length : Int)) <|
    ask (InI (x39 + (1 : Int))) <|
    some (.inl (x39 + (1 : Int), x10.set x39.toNat (nth names0 (nth x10 x39.toNat).toNat)))
   else
    some (.inr x10)
def S_impl_rename_l1 (a0 : SAlgebra) (names0 : List Int) (x18 : Int) (x26 : Int) (x5' : SAlgebra) (r6 : List Int) : (Int × (List Int)) → St := fun s => [(39, A.val (vint s.1)), (38, A.val (vint ((↑r6.length : Int)))), (37, A.ref (10 : Nat) []), (10, A.val ((slr true 1 vint) s.2)), (9, A.val (vint (nth (nth a0.Ops x18.toNat).Table x26.toNat))), (26, A.val (vint (x26))), (25, A.val (vint ((↑(nth a0.Ops x18.toNat).Table.length : Int)))), (24, A.val ((slr false 1 vint) ((nth a0.Ops x18.toNat).Table))), (6, A.val (vint (x18))), (7, A.val ((rP true (rS_Op false)) (nth a0.Ops x18.toNat))), (18, A.val (vint (x18))), (17, A.val (vint ((↑a0.Ops.length : Int)))), (16, A.val ((slr false 2 (rS_Op false)) (a0.Ops))), (5, A.val ((rP true (rS_Algebra true)) (x5'))), (4, A.val ((rP true (rS_Algebra true)) ({ Size := (0 : Int), Ops := nilL SOp }))), (2, A.val ((rP true (rS_Algebra false)) (a0))), (1, A.val ((slr false 1 vint) (names0)))]
def T_impl_rename_l1 (a0 : SAlgebra) (names0 : List Int) (x18 : Int) (x26 : Int) (x5' : SAlgebra) (_r6 : List Int) : (List Int) → Tgt
  | s => ((Ex.exit 4), [10, 9, 26, 25, 24, 6, 7, 18, 17, 16, 5, 4, 2, 1], [(10, A.val ((slr true 1 vint) s)), (9, A.val (vint (nth (nth a0.Ops x18.toNat).Table x26.toNat))), (26, A.val (vint (x26))), (25, A.val (vint ((↑(nth a0.Ops x18.toNat).Table.length : Int)))), (24, A.val ((slr false 1 vint) ((nth a0.Ops x18.toNat).Table))), (6, A.val (vint (x18))), (7, A.val ((rP true (rS_Op false)) (nth a0.Ops x18.toNat))), (18, A.val (vint (x18))), (17, A.val (vint ((↑a0.Ops.length : Int)))), (16, A.val ((slr false 2 (rS_Op false)) (a0.Ops))), (5, A.val ((rP true (rS_Algebra true)) (x5'))), (4, A.val ((rP true (rS_Algebra true)) ({ Size := (0 : Int), Ops := nilL SOp }))), (2, A.val ((rP true (rS_Algebra false)) (a0))), (1, A.val ((slr false 1 vint) (names0)))])
theorem b_impl_rename_l1 {a0 : SAlgebra} {names0 : List Int} {x18 : Int} {x26 : Int} {x5' : SAlgebra} {r6 : List Int} (s : (Int × (List Int))) (o : (Int × (List Int)) ⊕ (List Int)) (h : F_impl_rename_l1 a0 names0 x18 x26 x5' r6 s = some o) : vc Try.prog c_impl_rename_l1 (outQ [39, 38, 37, 10, 9, 26, 25, 24, 6, 7, 18, 17, 16, 5, 4, 2, 1] (S_impl_rename_l1 a0 names0 x18 x26 x5' r6) (T_impl_rename_l1 a0 names0 x18 x26 x5' r6) o) (S_impl_rename_l1 a0 names0 x18 x26 x5' r6 s) := by
  obtain ⟨x39, x10⟩ := s
  unfold F_impl_rename_l1 at h
  try dsimp only at h
  conv => whnf
  refine Br.od h (fun p7 h => ?_) (fun p7 h => ?_)
  · conv => whnf
    refine Len.map ?_
    conv => whnf
    refine Ask.o h fun p8 h => ?_
    conv => whnf
    refine Cells.one (fun _ => ⟨rfl, rfl⟩) (by first | omega | (simp only [mulN] at *; omega) | (simp [mulN] at *; omega)) ?_
    conv => whnf
    refine Len.map ?_
    conv => whnf
    refine Ask.o h fun p9 h => ?_
    conv => whnf
    refine Elem.o (by first | omega | (simp only [mulN] at *; omega) | (simp [mulN] at *; omega)) ?_
    conv => whnf
    refine Len.map ?_
    conv => whnf
    refine Ask.o h fun p10 h => ?_
    conv => whnf
    refine SetKids.one (fun _ => ⟨rfl, rfl⟩) (nth names0 (nth x10 x39.toNat).toNat) (by first | rfl | simp only [mulN_one, V.fz, fzL, V.up, upL, fzL_map, fz_slr, fz_at, slr, List.cons_append, List.nil_append] | simp [mulN_one, V.fz, fzL, V.up, upL, fzL_map, fz_slr, fz_at, slr]) (by first | omega | (simp only [mulN] at *; omega) | (simp [mulN] at *; omega)) ?_
    conv => whnf
    refine Ask.o h fun p11 h => ?_
    conv => whnf
    cases h; exact ⟨rfl, rfl⟩
  · conv => whnf
    cases h; exact ⟨rfl, rfl⟩

noncomputable def F_impl_rename_l2 (a0 : SAlgebra) (names0 : List Int) (x18 : Int) : (Int × SAlgebra) → Option ((Int × SAlgebra) ⊕ SAlgebra) := fun (x26, x5') =>
   if x26 < (↑(nth a0.Ops x18.toNat).Table.length : Int) then
    ask ((0 : Int) ≤ x26 ∧ x26 < (↑(nth a0.Ops x18.toNat).Table.length : Int)) <|
    (F_impl_argsAt (x26) ((nth a0.Ops x18.toNat).Arity) (a0.Size)).bind fun r6 =>
    (loopO (F_impl_rename_l1 a0 names0 x18 x26 x5' r6) ((0 : Int), r6)).bind fun q12_10 =>
    ask ((0 : Int) ≤ x18 ∧ x18 < (↑x5'.Ops.length : Int)) <|
    (F_impl_indexOf (q12_10) (a0.Size)).bind fun r14 =>
    ask ((0 : Int) ≤ nth (nth a0.Ops x18.toNat).Table x26.toNat ∧ nth (nth a0.Ops x18.toNat).Table x26.toNat < (↑names0.length : Int)) <|
    ask ((0 : Int) ≤ r14 ∧ r14 < (↑(nth x5'.Ops x18.toNat).Table.length : Int)) <|
    ask (InI (x26 + (1 : Int))) <|
    some (.inl (x26 + (1 : Int), { Size := x5'.Size, Ops := x5'.Ops.set x18.toNat { Arity := (nth x5'.Ops x18.toNat).Arity, Table := (nth x5'.Ops x18.toNat).Table.set r14.toNat (nth names0 (nth (nth a0.Ops x18.toNat).Table x26.toNat).toNat) } }))
   else
    some (.inr x5')
def S_impl_rename_l2 (a0 : SAlgebra) (names0 : List Int) (x18 : Int) : (Int × SAlgebra) → St := fun s => [(26, A.val (vint s.1)), (25, A.val (vint ((↑(nth a0.Ops x18.toNat).Table.length : Int)))), (24, A.val ((slr false 1 vint) ((nth a0.Ops x18.toNat).Table))), (6, A.val (vint (x18))), (7, A.val ((rP true (rS_Op false)) (nth a0.Ops x18.toNat))), (18, A.val (vint (x18))), (17, A.val (vint ((↑a0.Ops.length : Int)))), (16, A.val ((slr false 2 (rS_Op false)) (a0.Ops))), (5, A.val ((rP true (rS_Algebra true)) s.2)), (4, A.val ((rP true (rS_Algebra true)) ({ Size := (0 : Int), Ops := nilL SOp }))), (2, A.val ((rP true (rS_Algebra false)) (a0))), (1, A.val ((slr false 1 vint) (names0)))]
def T_impl_rename_l2 (a0 : SAlgebra) (names0 : List Int) (x18 : Int) : SAlgebra → Tgt
  | s => ((Ex.exit 2), [18, 17, 16, 5, 4, 2, 1], [(18, A.val (vint (x18))), (17, A.val (vint ((↑a0.Ops.length : Int)))), (16, A.val ((slr false 2 (rS_Op false)) (a0.Ops))), (5, A.val ((rP true (rS_Algebra true)) s)), (4, A.val ((rP true (rS_Algebra true)) ({ Size := (0 : Int), Ops := nilL SOp }))), (2, A.val ((rP true (rS_Algebra false)) (a0))), (1, A.val ((slr false 1 vint) (names0)))])
theorem b_impl_rename_l2 {a0 : SAlgebra} {names0 : List Int} {x18 : Int} (s : (Int × SAlgebra)) (o : (Int × SAlgebra) ⊕ SAlgebra) (h : F_impl_rename_l2 a0 names0 x18 s = some o) : vc Try.prog c_impl_rename_l2 (outQ [26, 25, 24, 6, 7, 18, 17, 16, 5, 4, 2, 1] (S_impl_rename_l2 a0 names0 x18) (T_impl_rename_l2 a0 names0 x18) o) (S_impl_rename_l2 a0 names0 x18 s) := by
  obtain ⟨x26, x5'⟩ := s
  unfold F_impl_rename_l2 at h
  try dsimp only at h
  conv => whnf
  refine Br.od h (fun p4 h => ?_) (fun p4 h => ?_)
  · conv => whnf
    refine Len.map ?_
    conv => whnf
    refine Ask.o h fun p5 h => ?_
    conv => whnf
    refine Elem.o (by first | omega | (simp only [mulN] at *; omega) | (simp [mulN] at *; omega)) ?_
    conv => whnf
    refine Cells.lit rfl rfl ?_
    conv => whnf
    refine Cells.lit rfl rfl ?_
    conv => whnf
    refine CallQ.o (slr true 1 vint) (by first | rfl | simp only [mulN_one, V.fz, fzL, V.up, upL, fzL_map, fz_slr, fz_at, slr, List.cons_append, List.nil_append] | simp [mulN_one, V.fz, fzL, V.up, upL, fzL_map, fz_slr, fz_at, slr]) h (fun r h => t_impl_argsAt h) (fun r6 h => ?_)
    conv => whnf
    refine Len.map ?_
    conv => whnf
    refine LoopQ.o [39, 38, 37, 10, 9, 26, 25, 24, 6, 7, 18, 17, 16, 5, 4, 2, 1] (S_impl_rename_l1 a0 names0 x18 x26 x5' r6) (T_impl_rename_l1 a0 names0 x18 x26 x5' r6) h (fun s o h => b_impl_rename_l1 s o h) (by first | rfl | simp [restrict, look, mulN_one, V.fz, fzL, V.up, upL, fzL_map, fz_slr, fz_at, slr]) (fun _ => rfl) ?_
    rintro q12_10 h
    try dsimp only at h
    conv => whnf
    refine Cells.lit rfl rfl ?_
    conv => whnf
    refine Kid.lit rfl rfl ?_
    conv => whnf
    refine Len.map ?_
    conv => whnf
    refine Ask.o h fun p13 h => ?_
    conv => whnf
    refine Kid.lit rfl rfl ?_
    conv => whnf
    refine Cells.wide (by exact fun _ => ⟨rfl, rfl⟩) (by first | omega | (simp only [mulN] at *; omega) | (simp [mulN] at *; omega)) (by decide) ?_
    conv => whnf
    refine Cells.lit rfl rfl ?_
    conv => whnf
    refine CallP.rd vint (by first | rfl | simp only [V.fz, fzL_map, slr] | simp [mulN_one, V.fz, fzL, V.up, upL, fzL_map, fz_slr, fz_at, slr]) (fun _ => rfl) h (fun r h => t_impl_indexOf h) (fun r14 h => ?_)
    conv => whnf
    refine Len.map ?_
    conv => whnf
    refine Ask.o h fun p15 h => ?_
    conv => whnf
    refine Elem.o (by first | omega | (simp only [mulN] at *; omega) | (simp [mulN] at *; omega)) ?_
    conv => whnf
    refine Kid.lit rfl rfl ?_
    conv => whnf
    refine Kid.wide (by exact fun _ => ⟨rfl, rfl⟩) (by first | omega | (simp only [mulN] at *; omega) | (simp [mulN] at *; omega)) (by rfl) ?_
    conv => whnf
    refine Len.map ?_
    conv => whnf
    refine Ask.o h fun p16 h => ?_
    conv => whnf
    refine Kid.lit rfl rfl ?_
    conv => whnf
    refine Kid.wide (by exact fun _ => ⟨rfl, rfl⟩) (by first | omega | (simp only [mulN] at *; omega) | (simp [mulN] at *; omega)) (by rfl) ?_
    conv => whnf
    refine SetKids.one (fun _ => ⟨rfl, rfl⟩) (nth names0 (nth (nth a0.Ops x18.toNat).Table x26.toNat).toNat) (by first | rfl | simp only [mulN_one, V.fz, fzL, V.up, upL, fzL_map, fz_slr, fz_at, slr, List.cons_append, List.nil_append] | simp [mulN_one, V.fz, fzL, V.up, upL, fzL_map, fz_slr, fz_at, slr]) (by first | omega | (simp only [mulN] at *; omega) | (simp [mulN] at *; omega)) ?_
    conv => whnf
    refine Kid.lit rfl rfl ?_
    conv => whnf
    refine Kid.wide (by exact fun _ => ⟨rfl, rfl⟩) (by first | omega | (simp only [mulN] at *; omega) | (simp [mulN] at *; omega)) (by rfl) ?_
    conv => whnf
    refine SetKids.wide (by exact fun _ => ⟨rfl, rfl⟩) ({ Arity := (nth x5'.Ops x18.toNat).Arity, Table := (nth x5'.Ops x18.toNat).Table.set r14.toNat (nth names0 (nth (nth a0.Ops x18.toNat).Table x26.toNat).toNat) }) (by first | omega | (simp only [mulN] at *; omega) | (simp [mulN] at *; omega)) (by rfl) (by decide) ?_
    conv => whnf
    refine SetKids.lit rfl ?_
    conv => whnf
    refine Ask.o h fun p17 h => ?_
    conv => whnf
    cases h; exact ⟨rfl, rfl⟩
  · conv => whnf
    cases h; exact ⟨rfl, rfl⟩

noncomputable def F_impl_rename_l3 (a0 : SAlgebra) (names0 : List Int) : (Int × SAlgebra) → Option ((Int × SAlgebra) ⊕ SAlgebra) := fun (x18, x5) =>
   if x18 < (↑a0.Ops.length : Int) then
    ask ((0 : Int) ≤ x18 ∧ x18 < (↑a0.Ops.length : Int)) <|
    (loopO (F_impl_rename_l2 a0 names0 x18) ((0 : Int), x5)).bind fun q18_5 =>
    ask (InI (x18 + (1 : Int))) <|
    some (.inl (x18 + (1 : Int), q18_5))
   else
    some (.inr x5)
def S_impl_rename_l3 (a0 : SAlgebra) (names0 : List Int) : (Int × SAlgebra) → St := fun s => [(18, A.val (vint s.1)), (17, A.val (vint ((↑a0.Ops.length : Int)))), (16, A.val ((slr false 2 (rS_Op false)) (a0.Ops))), (5, A.val ((rP true (rS_Algebra true)) s.2)), (4, A.val ((rP true (rS_Algebra true)) ({ Size := (0 : Int), Ops := nilL SOp }))), (2, A.val ((rP true (rS_Algebra false)) (a0))), (1, A.val ((slr false 1 vint) (names0)))]
def T_impl_rename_l3 (_a0 : SAlgebra) (_names0 : List Int) : SAlgebra → Tgt
  | s => ((Ex.exit 0), [5, 4], [(5, A.val ((rP true (rS_Algebra true)) s)), (4, A.val ((rP true (rS_Algebra true)) ({ Size := (0 : Int), Ops := nilL SOp })))])
theorem b_impl_rename_l3 {a0 : SAlgebra} {names0 : List Int} (s : (Int × SAlgebra)) (o : (Int × SAlgebra) ⊕ SAlgebra) (h : F_impl_rename_l3 a0 names0 s = some o) : vc Try.prog c_impl_rename_l3 (outQ [18, 17, 16, 5, 4, 2, 1] (S_impl_rename_l3 a0 names0) (T_impl_rename_l3 a0 names0) o) (S_impl_rename_l3 a0 names0 s) := by
  obtain ⟨x18, x5⟩ := s
  unfold F_impl_rename_l3 at h
  try dsimp only at h
  conv => whnf
  refine Br.od h (fun p2 h => ?_) (fun p2 h => ?_)
  · conv => whnf
    refine Len.map ?_
    conv => whnf
    refine Ask.o h fun p3 h => ?_
    conv => whnf
    refine Elem.o (by first | omega | (simp only [mulN] at *; omega) | (simp [mulN] at *; omega)) ?_
    conv => whnf
    refine SetKids.lit rfl ?_
    conv => whnf
    refine Cells.lit rfl rfl ?_
    conv => whnf
    refine Len.map ?_
    conv => whnf
    refine LoopQ.o [26, 25, 24, 6, 7, 18, 17, 16, 5, 4, 2, 1] (S_impl_rename_l2 a0 names0 x18) (T_impl_rename_l2 a0 names0 x18) h (fun s o h => b_impl_rename_l2 s o h) (by first | rfl | simp [restrict, look, mulN_one, V.fz, fzL, V.up, upL, fzL_map, fz_slr, fz_at, slr]) (fun _ => rfl) ?_
    rintro q18_5 h
    try dsimp only at h
    conv => whnf
    refine Ask.o h fun p19 h => ?_
    conv => whnf
    cases h; exact ⟨rfl, rfl⟩
  · conv => whnf
    cases h; exact ⟨rfl, rfl⟩

noncomputable def F_impl_rename (a0 : SAlgebra) (names0 : (List Int)) : Option SAlgebra :=
  (F_impl_cloneAlgebra (a0)).bind fun r1 =>
  (loopO (F_impl_rename_l3 a0 names0) ((0 : Int), r1)).bind fun q20_5 =>
  some q20_5
theorem t_impl_rename {a0 : SAlgebra} {names0 : (List Int)} {v : SAlgebra} (h : F_impl_rename a0 names0 = some v) : Ret Try.prog f_impl_rename [(rS_Algebra false) a0, (slr false 1 vint) names0] ((rS_Algebra true) v) := by
  refine ret_vc k_impl_rename (Nat.le_of_ble_eq_true rfl) ?_
  unfold F_impl_rename at h
  conv => whnf
  refine Cells.lit rfl rfl ?_
  conv => whnf
  refine CallQ.o (rS_Algebra true) (by first | rfl | simp only [mulN_one, V.fz, fzL, V.up, upL, fzL_map, fz_slr, fz_at, slr, List.cons_append, List.nil_append] | simp [mulN_one, V.fz, fzL, V.up, upL, fzL_map, fz_slr, fz_at, slr]) h (fun r h => t_impl_cloneAlgebra h) (fun r1 h => ?_)
  conv => whnf
  refine SetKids.lit rfl ?_
  conv => whnf
  refine Cells.lit rfl rfl ?_
  conv => whnf
  refine Len.map ?_
  conv => whnf
  refine LoopQ.o [18, 17, 16, 5, 4, 2, 1] (S_impl_rename_l3 a0 names0) (T_impl_rename_l3 a0 names0) h (fun s o h => b_impl_rename_l3 s o h) (by first | rfl | simp [restrict, look, mulN_one, V.fz, fzL, V.up, upL, fzL_map, fz_slr, fz_at, slr]) (fun _ => rfl) ?_
  rintro q20_5 h
  try dsimp only at h
  conv => whnf
  refine Cells.lit rfl rfl ?_
  conv => whnf
  refine SetKids.lit rfl ?_
  conv => whnf
  cases h; exact (by first | rfl | simp only [resV, mulN_one, V.fz, fzL, V.up, upL, fzL_map, fz_slr, fz_at, slr] | simp [resV, mulN_one, V.fz, fzL, V.up, upL, fzL_map, fz_slr, fz_at, slr])

noncomputable def F_spec_l7Two (a0 : SAlgebra) (b0 : SAlgebra) : Option Bool :=
  (F_spec_l2Good (a0)).bind fun r1 =>
  if (r1) = true then
   (F_spec_l2Good (b0)).bind fun r3 =>
   if (r3) = true then
    (F_spec_l2Same (a0) (b0)).bind fun r5 =>
    some r5
   else
    some false
  else
   some false
theorem t_spec_l7Two {a0 : SAlgebra} {b0 : SAlgebra} {v : Bool} (h : F_spec_l7Two a0 b0 = some v) : Ret Try.prog f_spec_l7Two [(rS_Algebra false) a0, (rS_Algebra false) b0] (V.bool v) := by
  refine ret_vc k_spec_l7Two (Nat.le_of_ble_eq_true rfl) ?_
  unfold F_spec_l7Two at h
  conv => whnf
  refine Cells.lit rfl rfl ?_
  conv => whnf
  refine CallQ.o V.bool (by first | rfl | simp only [mulN_one, V.fz, fzL, V.up, upL, fzL_map, fz_slr, fz_at, slr, List.cons_append, List.nil_append] | simp [mulN_one, V.fz, fzL, V.up, upL, fzL_map, fz_slr, fz_at, slr]) h (fun r h => t_spec_l2Good h) (fun r1 h => ?_)
  conv => whnf
  refine Br.ob h (fun p2 h => ?_) (fun p2 h => ?_)
  · conv => whnf
    refine Cells.lit rfl rfl ?_
    conv => whnf
    refine Br.yes ?_
    conv => whnf
    refine CallQ.o V.bool (by first | rfl | simp only [mulN_one, V.fz, fzL, V.up, upL, fzL_map, fz_slr, fz_at, slr, List.cons_append, List.nil_append] | simp [mulN_one, V.fz, fzL, V.up, upL, fzL_map, fz_slr, fz_at, slr]) h (fun r h => t_spec_l2Good h) (fun r3 h => ?_)
    conv => whnf
    refine Br.yes ?_
    conv => whnf
    refine Br.ob h (fun p4 h => ?_) (fun p4 h => ?_)
    · conv => whnf
      refine Cells.lit rfl rfl ?_
      conv => whnf
      refine Br.yes ?_
      conv => whnf
      refine Cells.lit rfl rfl ?_
      conv => whnf
      refine Br.yes ?_
      conv => whnf
      refine CallQ.o V.bool (by first | rfl | simp only [mulN_one, V.fz, fzL, V.up, upL, fzL_map, fz_slr, fz_at, slr, List.cons_append, List.nil_append] | simp [mulN_one, V.fz, fzL, V.up, upL, fzL_map, fz_slr, fz_at, slr]) h (fun r h => t_spec_l2Same h) (fun r5 h => ?_)
      conv => whnf
      refine Br.yes ?_
      conv => whnf
      cases h; exact (by first | rfl | simp only [resV, mulN_one, V.fz, fzL, V.up, upL, fzL_map, fz_slr, fz_at, slr] | simp [resV, mulN_one, V.fz, fzL, V.up, upL, fzL_map, fz_slr, fz_at, slr])
    · conv => whnf
      refine Br.no ?_
      conv => whnf
      refine Br.no ?_
      conv => whnf
      refine Br.no ?_
      conv => whnf
      cases h; exact (by first | rfl | simp only [resV, mulN_one, V.fz, fzL, V.up, upL, fzL_map, fz_slr, fz_at, slr] | simp [resV, mulN_one, V.fz, fzL, V.up, upL, fzL_map, fz_slr, fz_at, slr])
  · conv => whnf
    refine Br.no ?_
    conv => whnf
    refine Br.no ?_
    conv => whnf
    refine Br.no ?_
    conv => whnf
    refine Br.no ?_
    conv => whnf
    refine Br.no ?_
    conv => whnf
    refine Br.no ?_
    conv => whnf
    cases h; exact (by first | rfl | simp only [resV, mulN_one, V.fz, fzL, V.up, upL, fzL_map, fz_slr, fz_at, slr] | simp [resV, mulN_one, V.fz, fzL, V.up, upL, fzL_map, fz_slr, fz_at, slr])

noncomputable def F_spec_l7Is (a0 : SAlgebra) (b0 : SAlgebra) (f0 : (List Int)) : Option Bool :=
  (F_spec_l7Map (a0) (b0) (f0)).bind fun r1 =>
  if (r1) = true then
   (F_spec_l7Fault (a0) (b0) (f0)).bind fun r3 =>
   some !r3.snd.snd
  else
   some false
theorem t_spec_l7Is {a0 : SAlgebra} {b0 : SAlgebra} {f0 : (List Int)} {v : Bool} (h : F_spec_l7Is a0 b0 f0 = some v) : Ret Try.prog f_spec_l7Is [(rS_Algebra false) a0, (rS_Algebra false) b0, (slr false 1 vint) f0] (V.bool v) := by
  refine ret_vc k_spec_l7Is (Nat.le_of_ble_eq_true rfl) ?_
  unfold F_spec_l7Is at h
  conv => whnf
  refine Cells.lit rfl rfl ?_
  conv => whnf
  refine Cells.lit rfl rfl ?_
  conv => whnf
  refine CallQ.o V.bool (by first | rfl | simp only [mulN_one, V.fz, fzL, V.up, upL, fzL_map, fz_slr, fz_at, slr, List.cons_append, List.nil_append] | simp [mulN_one, V.fz, fzL, V.up, upL, fzL_map, fz_slr, fz_at, slr]) h (fun r h => t_spec_l7Map h) (fun r1 h => ?_)
  conv => whnf
  refine Br.flip ?_
  conv => whnf
  refine Br.ob h (fun p2 h => ?_) (fun p2 h => ?_)
  · conv => whnf
    refine Cells.lit rfl rfl ?_
    conv => whnf
    refine Cells.lit rfl rfl ?_
    conv => whnf
    refine CallQ.o (fun r => V.tup [vint r.1, (slr true 1 vint) r.2.1, V.bool r.2.2]) (by first | rfl | simp only [mulN_one, V.fz, fzL, V.up, upL, fzL_map, fz_slr, fz_at, slr, List.cons_append, List.nil_append] | simp [mulN_one, V.fz, fzL, V.up, upL, fzL_map, fz_slr, fz_at, slr]) h (fun r h => t_spec_l7Fault h) (fun r3 h => ?_)
    conv => whnf
    cases h; exact (by first | rfl | simp only [resV, mulN_one, V.fz, fzL, V.up, upL, fzL_map, fz_slr, fz_at, slr] | simp [resV, mulN_one, V.fz, fzL, V.up, upL, fzL_map, fz_slr, fz_at, slr])
  · conv => whnf
    cases h; exact (by first | rfl | simp only [resV, mulN_one, V.fz, fzL, V.up, upL, fzL_map, fz_slr, fz_at, slr] | simp [resV, mulN_one, V.fz, fzL, V.up, upL, fzL_map, fz_slr, fz_at, slr])

noncomputable def F_impl_SameType (a0 : SAlgebra) (b0 : SAlgebra) : Option (Bool × Bool) :=
  (F_impl_IsAlgebra (a0)).bind fun r1 =>
  if (r1) = true then
   (F_impl_IsAlgebra (b0)).bind fun r3 =>
   if (r3) = true then
    (F_impl_typeOf (a0)).bind fun r5 =>
    (F_impl_typeOf (b0)).bind fun r6 =>
    (F_impl_sameList (r5) (r6)).bind fun r7 =>
    some (r7, true)
   else
    some (false, false)
  else
   some (false, false)
theorem t_impl_SameType {a0 : SAlgebra} {b0 : SAlgebra} {v : (Bool × Bool)} (h : F_impl_SameType a0 b0 = some v) : Ret Try.prog f_impl_SameType [(rS_Algebra false) a0, (rS_Algebra false) b0] ((fun r => V.tup [V.bool r.1, V.bool r.2]) v) := by
  refine ret_vc k_impl_SameType (Nat.le_of_ble_eq_true rfl) ?_
  unfold F_impl_SameType at h
  conv => whnf
  refine Cells.lit rfl rfl ?_
  conv => whnf
  refine CallQ.o V.bool (by first | rfl | simp only [mulN_one, V.fz, fzL, V.up, upL, fzL_map, fz_slr, fz_at, slr, List.cons_append, List.nil_append] | simp [mulN_one, V.fz, fzL, V.up, upL, fzL_map, fz_slr, fz_at, slr]) h (fun r h => t_impl_IsAlgebra h) (fun r1 h => ?_)
  conv => whnf
  refine Br.flip ?_
  conv => whnf
  refine Br.ob h (fun p2 h => ?_) (fun p2 h => ?_)
  · conv => whnf
    refine Cells.lit rfl rfl ?_
    conv => whnf
    refine Br.no ?_
    conv => whnf
    refine CallQ.o V.bool (by first | rfl | simp only [mulN_one, V.fz, fzL, V.up, upL, fzL_map, fz_slr, fz_at, slr, List.cons_append, List.nil_append] | simp [mulN_one, V.fz, fzL, V.up, upL, fzL_map, fz_slr, fz_at, slr]) h (fun r h => t_impl_IsAlgebra h) (fun r3 h => ?_)
    conv => whnf
    refine Br.no ?_
    conv => whnf
    refine Br.no ?_
    conv => whnf
    refine Br.flip ?_
    conv => whnf
    refine Br.ob h (fun p4 h => ?_) (fun p4 h => ?_)
    · conv => whnf
      refine Cells.lit rfl rfl ?_
      conv => whnf
      refine CallP.o (slr true 1 vint) (by first | rfl | simp only [mulN_one, V.fz, fzL, V.up, upL, fzL_map, fz_slr, fz_at, slr, List.cons_append, List.nil_append] | simp [mulN_one, V.fz, fzL, V.up, upL, fzL_map, fz_slr, fz_at, slr]) h (fun r h => t_impl_typeOf h) (fun r5 h => ?_)
      conv => whnf
      refine Cells.lit rfl rfl ?_
      conv => whnf
      refine CallQ.o (slr true 1 vint) (by first | rfl | simp only [mulN_one, V.fz, fzL, V.up, upL, fzL_map, fz_slr, fz_at, slr, List.cons_append, List.nil_append] | simp [mulN_one, V.fz, fzL, V.up, upL, fzL_map, fz_slr, fz_at, slr]) h (fun r h => t_impl_typeOf h) (fun r6 h => ?_)
      conv => whnf
      refine CallQ.rd V.bool (by first | rfl | simp only [V.fz, fzL_map, slr] | simp [mulN_one, V.fz, fzL, V.up, upL, fzL_map, fz_slr, fz_at, slr]) (fun _ => rfl) h (fun r h => t_impl_sameList h) (fun r7 h => ?_)
      conv => whnf
      cases h; exact (by first | rfl | simp only [resV, mulN_one, V.fz, fzL, V.up, upL, fzL_map, fz_slr, fz_at, slr] | simp [resV, mulN_one, V.fz, fzL, V.up, upL, fzL_map, fz_slr, fz_at, slr])
    · conv => whnf
      cases h; exact (by first | rfl | simp only [resV, mulN_one, V.fz, fzL, V.up, upL, fzL_map, fz_slr, fz_at, slr] | simp [resV, mulN_one, V.fz, fzL, V.up, upL, fzL_map, fz_slr, fz_at, slr])
  · conv => whnf
    refine Br.yes ?_
    conv => whnf
    refine Br.yes ?_
    conv => whnf
    refine Br.yes ?_
    conv => whnf
    refine Br.yes ?_
    conv => whnf
    cases h; exact (by first | rfl | simp only [resV, mulN_one, V.fz, fzL, V.up, upL, fzL_map, fz_slr, fz_at, slr] | simp [resV, mulN_one, V.fz, fzL, V.up, upL, fzL_map, fz_slr, fz_at, slr])

noncomputable def F_impl_RenameElements (a0 : SAlgebra) (names0 : (List Int)) : Option (SAlgebra × Bool) :=
  (F_impl_IsAlgebra (a0)).bind fun r1 =>
  if (r1) = true then
   (F_impl_isOrder (names0) (a0.Size)).bind fun r3 =>
   if (r3) = true then
    (F_impl_rename (a0) (names0)).bind fun r5 =>
    some (r5, true)
   else
    some ({ Size := (0 : Int), Ops := nilL SOp }, false)
  else
   some ({ Size := (0 : Int), Ops := nilL SOp }, false)
theorem t_impl_RenameElements {a0 : SAlgebra} {names0 : (List Int)} {v : (SAlgebra × Bool)} (h : F_impl_RenameElements a0 names0 = some v) : Ret Try.prog f_impl_RenameElements [(rS_Algebra false) a0, (slr false 1 vint) names0] ((fun r => V.tup [(rS_Algebra true) r.1, V.bool r.2]) v) := by
  refine ret_vc k_impl_RenameElements (Nat.le_of_ble_eq_true rfl) ?_
  unfold F_impl_RenameElements at h
  conv => whnf
  refine Cells.lit rfl rfl ?_
  conv => whnf
  refine CallQ.o V.bool (by first | rfl | simp only [mulN_one, V.fz, fzL, V.up, upL, fzL_map, fz_slr, fz_at, slr, List.cons_append, List.nil_append] | simp [mulN_one, V.fz, fzL, V.up, upL, fzL_map, fz_slr, fz_at, slr]) h (fun r h => t_impl_IsAlgebra h) (fun r1 h => ?_)
  conv => whnf
  refine Br.flip ?_
  conv => whnf
  refine Br.ob h (fun p2 h => ?_) (fun p2 h => ?_)
  · conv => whnf
    refine Br.no ?_
    conv => whnf
    refine Br.no ?_
    conv => whnf
    refine Cells.lit rfl rfl ?_
    conv => whnf
    refine Br.no ?_
    conv => whnf
    refine CallQ.o V.bool (by first | rfl | simp only [mulN_one, V.fz, fzL, V.up, upL, fzL_map, fz_slr, fz_at, slr, List.cons_append, List.nil_append] | simp [mulN_one, V.fz, fzL, V.up, upL, fzL_map, fz_slr, fz_at, slr]) h (fun r h => t_impl_isOrder h) (fun r3 h => ?_)
    conv => whnf
    refine Br.no ?_
    conv => whnf
    refine Br.no ?_
    conv => whnf
    refine Br.flip ?_
    conv => whnf
    refine Br.ob h (fun p4 h => ?_) (fun p4 h => ?_)
    · conv => whnf
      refine Cells.lit rfl rfl ?_
      conv => whnf
      refine CallQ.o (rS_Algebra true) (by first | rfl | simp only [mulN_one, V.fz, fzL, V.up, upL, fzL_map, fz_slr, fz_at, slr, List.cons_append, List.nil_append] | simp [mulN_one, V.fz, fzL, V.up, upL, fzL_map, fz_slr, fz_at, slr]) h (fun r h => t_impl_rename h) (fun r5 h => ?_)
      conv => whnf
      refine SetKids.lit rfl ?_
      conv => whnf
      cases h; exact (by first | rfl | simp only [resV, mulN_one, V.fz, fzL, V.up, upL, fzL_map, fz_slr, fz_at, slr] | simp [resV, mulN_one, V.fz, fzL, V.up, upL, fzL_map, fz_slr, fz_at, slr])
    · conv => whnf
      refine SetKids.lit rfl ?_
      conv => whnf
      cases h; exact (by first | rfl | simp only [resV, mulN_one, V.fz, fzL, V.up, upL, fzL_map, fz_slr, fz_at, slr] | simp [resV, mulN_one, V.fz, fzL, V.up, upL, fzL_map, fz_slr, fz_at, slr])
  · conv => whnf
    refine Br.yes ?_
    conv => whnf
    refine Br.yes ?_
    conv => whnf
    refine Br.yes ?_
    conv => whnf
    refine Br.yes ?_
    conv => whnf
    refine Br.yes ?_
    conv => whnf
    refine Br.yes ?_
    conv => whnf
    refine SetKids.lit rfl ?_
    conv => whnf
    cases h; exact (by first | rfl | simp only [resV, mulN_one, V.fz, fzL, V.up, upL, fzL_map, fz_slr, fz_at, slr] | simp [resV, mulN_one, V.fz, fzL, V.up, upL, fzL_map, fz_slr, fz_at, slr])

end Go.Proofs.Ytdodfnbbfkcgnaa.Ax
