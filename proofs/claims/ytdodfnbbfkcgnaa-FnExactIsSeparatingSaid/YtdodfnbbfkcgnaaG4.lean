/-
  What the functions compute, as functions on plain data, and that the program does compute it; written by program.
-/
import Derived.Test.YtdodfnbbfkcgnaaCode
import Derived.Test.YtdodfnbbfkcgnaaG1
import Derived.Test.YtdodfnbbfkcgnaaG2
import Derived.Test.YtdodfnbbfkcgnaaG3
namespace Go.Proofs.Ytdodfnbbfkcgnaa.Ax
open Go
set_option maxRecDepth 100000
set_option maxHeartbeats 4000000

noncomputable def F_spec_l2Good_l1 (a0 : SAlgebra) : Int → Option (Int ⊕ (Unit ⊕ Unit)) := fun x3 =>
   if x3 < (↑a0.Ops.length : Int) then
    ask ((0 : Int) ≤ x3 ∧ x3 < (↑a0.Ops.length : Int)) <|
    (F_spec_l2Op (a0.Size) (nth a0.Ops x3.toNat)).bind fun r7 =>
    if (r7) = true then
     ask (InI (x3 + (1 : Int))) <|
     some (.inl (x3 + (1 : Int)))
    else
     some (.inr (.inl ()))
   else
    some (.inr (.inr ()))
def S_spec_l2Good_l1 (a0 : SAlgebra) : Int → St := fun s => [(3, A.val (vint s)), (1, A.val ((rP true (rS_Algebra false)) (a0)))]
def T_spec_l2Good_l1 (_a0 : SAlgebra) : (Unit ⊕ Unit) → Tgt
  | (.inl _s) => (Ex.ret, [2], [(2, A.val (V.bool (false)))])
  | (.inr _s) => ((Ex.exit 0), [], [])
theorem b_spec_l2Good_l1 {a0 : SAlgebra} (x3 : Int) (o : Int ⊕ (Unit ⊕ Unit)) (h : F_spec_l2Good_l1 a0 x3 = some o) : vc Try.prog c_spec_l2Good_l1 (outQ [3, 1] (S_spec_l2Good_l1 a0) (T_spec_l2Good_l1 a0) o) (S_spec_l2Good_l1 a0 x3) := by
  unfold F_spec_l2Good_l1 at h
  try dsimp only at h
  conv => whnf
  refine Cells.lit rfl rfl ?_
  conv => whnf
  refine Len.map ?_
  conv => whnf
  refine Br.od h (fun p5 h => ?_) (fun p5 h => ?_)
  · conv => whnf
    refine Cells.lit rfl rfl ?_
    conv => whnf
    refine Cells.lit rfl rfl ?_
    conv => whnf
    refine Len.map ?_
    conv => whnf
    refine Ask.o h fun p6 h => ?_
    conv => whnf
    refine Elem.o (by first | omega | (simp only [mulN] at *; omega) | (simp [mulN] at *; omega)) ?_
    conv => whnf
    refine CallQ.o V.bool (by first | rfl | simp only [mulN_one, V.fz, fzL, V.up, upL, fzL_map, fz_slr, fz_at, slr, List.cons_append, List.nil_append] | simp [mulN_one, V.fz, fzL, V.up, upL, fzL_map, fz_slr, fz_at, slr]) h (fun r h => t_spec_l2Op h) (fun r7 h => ?_)
    conv => whnf
    refine Br.flip ?_
    conv => whnf
    refine Br.ob h (fun p8 h => ?_) (fun p8 h => ?_)
    · conv => whnf
      refine Ask.o h fun p9 h => ?_
      conv => whnf
      cases h; exact ⟨rfl, rfl⟩
    · conv => whnf
      cases h; exact ⟨rfl, rfl⟩
  · conv => whnf
    cases h; exact ⟨rfl, rfl⟩

noncomputable def F_spec_l2Good (a0 : SAlgebra) : Option Bool :=
  (((F_spec_l1In (a0.Size) ((1 : Int)) ((8 : Int))).bind fun r1 =>
     if (r1) = true then
      if (↑a0.Ops.length : Int) > (4 : Int) then
       some (.inl ())
      else
       some (.inr ())
     else
      some (.inl ()) : Option (Unit ⊕ Unit))).bind fun t => match t with
  | (.inl _) => (some false)
  | (.inr _) => ((loopO (F_spec_l2Good_l1 a0) (0 : Int)).bind fun t => match t with
    | (.inl _) => (some false)
    | (.inr _) => (some true))
theorem t_spec_l2Good {a0 : SAlgebra} {v : Bool} (h : F_spec_l2Good a0 = some v) : Ret Try.prog f_spec_l2Good [(rS_Algebra false) a0] (V.bool v) := by
  refine ret_vc k_spec_l2Good (Nat.le_of_ble_eq_true rfl) ?_
  unfold F_spec_l2Good at h
  conv => whnf
  refine CutQ.o (fun t : (Unit ⊕ Unit) => match t with | (.inl s) => (Ex.ret, [2], [(2, A.val (V.bool (false)))]) | (.inr s) => (Ex.normal, [1], [(1, A.val ((rP true (rS_Algebra false)) (a0)))])) h ?_ ?_
  · intro t h
    conv => whnf
    refine Cells.lit rfl rfl ?_
    conv => whnf
    refine CallQ.o V.bool (by first | rfl | simp only [mulN_one, V.fz, fzL, V.up, upL, fzL_map, fz_slr, fz_at, slr, List.cons_append, List.nil_append] | simp [mulN_one, V.fz, fzL, V.up, upL, fzL_map, fz_slr, fz_at, slr]) h (fun r h => t_spec_l1In h) (fun r1 h => ?_)
    conv => whnf
    refine Br.flip ?_
    conv => whnf
    refine Br.ob h (fun p2 h => ?_) (fun p2 h => ?_)
    · conv => whnf
      refine Br.no ?_
      conv => whnf
      refine Cells.lit rfl rfl ?_
      conv => whnf
      refine Br.no ?_
      conv => whnf
      refine Len.map ?_
      conv => whnf
      refine Br.no ?_
      conv => whnf
      refine Br.no ?_
      conv => whnf
      refine Br.od h (fun p3 h => ?_) (fun p3 h => ?_)
      · conv => whnf
        cases h; exact ⟨rfl, rfl⟩
      · conv => whnf
        cases h; exact ⟨rfl, rfl⟩
    · conv => whnf
      refine Br.yes ?_
      conv => whnf
      refine Br.yes ?_
      conv => whnf
      refine Br.yes ?_
      conv => whnf
      refine Br.yes ?_
      conv => whnf
      refine Br.yes ?_
      conv => whnf
      cases h; exact ⟨rfl, rfl⟩
  · rintro (⟨⟩ | ⟨⟩) h
    · try dsimp only at h
      conv => whnf
      cases h; exact (by first | rfl | simp only [resV, mulN_one, V.fz, fzL, V.up, upL, fzL_map, fz_slr, fz_at, slr] | simp [resV, mulN_one, V.fz, fzL, V.up, upL, fzL_map, fz_slr, fz_at, slr])
    · try dsimp only at h
      conv => whnf
      refine LoopQ.o [3, 1] (S_spec_l2Good_l1 a0) (T_spec_l2Good_l1 a0) h (fun s o h => b_spec_l2Good_l1 s o h) (by first | rfl | simp [restrict, look, mulN_one, V.fz, fzL, V.up, upL, fzL_map, fz_slr, fz_at, slr]) (by rintro (_ | _) <;> rfl) ?_
      rintro (⟨⟩ | ⟨⟩) h
      · try dsimp only at h
        conv => whnf
        cases h; exact (by first | rfl | simp only [resV, mulN_one, V.fz, fzL, V.up, upL, fzL_map, fz_slr, fz_at, slr] | simp [resV, mulN_one, V.fz, fzL, V.up, upL, fzL_map, fz_slr, fz_at, slr])
      · try dsimp only at h
        conv => whnf
        cases h; exact (by first | rfl | simp only [resV, mulN_one, V.fz, fzL, V.up, upL, fzL_map, fz_slr, fz_at, slr] | simp [resV, mulN_one, V.fz, fzL, V.up, upL, fzL_map, fz_slr, fz_at, slr])

noncomputable def F_laws_toOpS_l1 (a0 : List SOp) : (Int × (List SOp)) → Option ((Int × (List SOp)) ⊕ (List SOp)) := fun (x4, x3) =>
   if x4 < (↑a0.length : Int) then
    ask ((0 : Int) ≤ x4 ∧ x4 < (↑a0.length : Int)) <|
    (F_laws_toOp (nth a0 x4.toNat)).bind fun r4 =>
    ask ((0 : Int) ≤ x4 ∧ x4 < (↑x3.length : Int)) <|
    ask (InI (x4 + (1 : Int))) <|
    some (.inl (x4 + (1 : Int), x3.set x4.toNat r4))
   else
    some (.inr x3)
def S_laws_toOpS_l1 (a0 : List SOp) : (Int × (List SOp)) → St := fun s => [(4, A.val (vint s.1)), (3, A.val ((slr true 2 (rS_Op true)) s.2)), (0, A.val ((slr false 2 (rS_Op false)) (a0)))]
def T_laws_toOpS_l1 (_a0 : List SOp) : (List SOp) → Tgt
  | s => ((Ex.exit 0), [3], [(3, A.val ((slr true 2 (rS_Op true)) s))])
theorem b_laws_toOpS_l1 {a0 : List SOp} (s : (Int × (List SOp))) (o : (Int × (List SOp)) ⊕ (List SOp)) (h : F_laws_toOpS_l1 a0 s = some o) : vc Try.prog c_laws_toOpS_l1 (outQ [4, 3, 0] (S_laws_toOpS_l1 a0) (T_laws_toOpS_l1 a0) o) (S_laws_toOpS_l1 a0 s) := by
  obtain ⟨x4, x3⟩ := s
  unfold F_laws_toOpS_l1 at h
  try dsimp only at h
  conv => whnf
  refine Len.map ?_
  conv => whnf
  refine Br.od h (fun p2 h => ?_) (fun p2 h => ?_)
  · conv => whnf
    refine Len.map ?_
    conv => whnf
    refine Ask.o h fun p3 h => ?_
    conv => whnf
    refine Elem.o (by first | omega | (simp only [mulN] at *; omega) | (simp [mulN] at *; omega)) ?_
    conv => whnf
    refine CallQ.o (rS_Op true) (by first | rfl | simp only [mulN_one, V.fz, fzL, V.up, upL, fzL_map, fz_slr, fz_at, slr, List.cons_append, List.nil_append] | simp [mulN_one, V.fz, fzL, V.up, upL, fzL_map, fz_slr, fz_at, slr]) h (fun r h => t_laws_toOp h) (fun r4 h => ?_)
    conv => whnf
    refine Len.map ?_
    conv => whnf
    refine Ask.o h fun p5 h => ?_
    conv => whnf
    refine SetKids.wide0 (by exact fun _ => ⟨rfl, rfl⟩) (r4) (by first | omega | (simp only [mulN] at *; omega) | (simp [mulN] at *; omega)) (by rfl) (by decide) ?_
    conv => whnf
    refine Ask.o h fun p6 h => ?_
    conv => whnf
    cases h; exact ⟨rfl, rfl⟩
  · conv => whnf
    cases h; exact ⟨rfl, rfl⟩

noncomputable def F_laws_toOpS (a0 : (List SOp)) : Option (List SOp) :=
  ask ((0 : Int) ≤ (↑a0.length : Int) ∧ (↑a0.length : Int) ≤ (↑LIM : Int)) <|
  (loopO (F_laws_toOpS_l1 a0) ((0 : Int), List.replicate (↑a0.length : Int).toNat { Arity := (0 : Int), Table := nilL Int })).bind fun q7_3 =>
  some q7_3
theorem t_laws_toOpS {a0 : (List SOp)} {v : (List SOp)} (h : F_laws_toOpS a0 = some v) : Ret Try.prog f_laws_toOpS [(slr false 2 (rS_Op false)) a0] ((slr true 2 (rS_Op true)) v) := by
  refine ret_vc k_laws_toOpS (Nat.le_of_ble_eq_true rfl) ?_
  unfold F_laws_toOpS at h
  conv => whnf
  refine Len.map ?_
  conv => whnf
  refine Ask.o h fun p1 h => ?_
  conv => whnf
  refine MkQ.o (rS_Op true) ({ Arity := (0 : Int), Table := nilL Int }) rfl ?_
  conv => whnf
  refine LoopQ.o [4, 3, 0] (S_laws_toOpS_l1 a0) (T_laws_toOpS_l1 a0) h (fun s o h => b_laws_toOpS_l1 s o h) (by first | rfl | simp [restrict, look, mulN_one, V.fz, fzL, V.up, upL, fzL_map, fz_slr, fz_at, slr]) (fun _ => rfl) ?_
  rintro q7_3 h
  try dsimp only at h
  conv => whnf
  cases h; exact (by first | rfl | simp only [resV, mulN_one, V.fz, fzL, V.up, upL, fzL_map, fz_slr, fz_at, slr] | simp [resV, mulN_one, V.fz, fzL, V.up, upL, fzL_map, fz_slr, fz_at, slr])

noncomputable def F_impl_IsAlgebra_l1 (a0 : SAlgebra) : Int → Option (Int ⊕ (Unit ⊕ Unit)) := fun x22 =>
   if x22 < (↑a0.Ops.length : Int) then
    ask ((0 : Int) ≤ x22 ∧ x22 < (↑a0.Ops.length : Int)) <|
    (F_impl_isOp (nth a0.Ops x22.toNat) (a0.Size)).bind fun r7 =>
    if (r7) = true then
     ask (InI (x22 + (1 : Int))) <|
     some (.inl (x22 + (1 : Int)))
    else
     some (.inr (.inl ()))
   else
    some (.inr (.inr ()))
def S_impl_IsAlgebra_l1 (a0 : SAlgebra) : Int → St := fun s => [(22, A.val (vint s)), (21, A.val (vint ((↑a0.Ops.length : Int)))), (20, A.val ((slr false 2 (rS_Op false)) (a0.Ops))), (1, A.val ((rP true (rS_Algebra false)) (a0)))]
def T_impl_IsAlgebra_l1 (_a0 : SAlgebra) : (Unit ⊕ Unit) → Tgt
  | (.inl _s) => (Ex.ret, [2], [(2, A.val (V.bool (false)))])
  | (.inr _s) => ((Ex.exit 0), [], [])
theorem b_impl_IsAlgebra_l1 {a0 : SAlgebra} (x22 : Int) (o : Int ⊕ (Unit ⊕ Unit)) (h : F_impl_IsAlgebra_l1 a0 x22 = some o) : vc Try.prog c_impl_IsAlgebra_l1 (outQ [22, 21, 20, 1] (S_impl_IsAlgebra_l1 a0) (T_impl_IsAlgebra_l1 a0) o) (S_impl_IsAlgebra_l1 a0 x22) := by
  unfold F_impl_IsAlgebra_l1 at h
  try dsimp only at h
  conv => whnf
  refine Br.od h (fun p5 h => ?_) (fun p5 h => ?_)
  · conv => whnf
    refine Len.map ?_
    conv => whnf
    refine Ask.o h fun p6 h => ?_
    conv => whnf
    refine Elem.o (by first | omega | (simp only [mulN] at *; omega) | (simp [mulN] at *; omega)) ?_
    conv => whnf
    refine SetKids.lit rfl ?_
    conv => whnf
    refine Cells.lit rfl rfl ?_
    conv => whnf
    refine Cells.lit rfl rfl ?_
    conv => whnf
    refine CallQ.o V.bool (by first | rfl | simp only [mulN_one, V.fz, fzL, V.up, upL, fzL_map, fz_slr, fz_at, slr, List.cons_append, List.nil_append] | simp [mulN_one, V.fz, fzL, V.up, upL, fzL_map, fz_slr, fz_at, slr]) h (fun r h => t_impl_isOp h) (fun r7 h => ?_)
    conv => whnf
    refine Br.flip ?_
    conv => whnf
    refine Br.ob h (fun p8 h => ?_) (fun p8 h => ?_)
    · conv => whnf
      refine Ask.o h fun p9 h => ?_
      conv => whnf
      cases h; exact ⟨rfl, rfl⟩
    · conv => whnf
      cases h; exact ⟨rfl, rfl⟩
  · conv => whnf
    cases h; exact ⟨rfl, rfl⟩

noncomputable def F_impl_IsAlgebra (a0 : SAlgebra) : Option Bool :=
  ((if a0.Size < (1 : Int) then
      some (.inl ())
     else
      if a0.Size > (8 : Int) then
       some (.inl ())
      else
       if (↑a0.Ops.length : Int) > (4 : Int) then
        some (.inl ())
       else
        some (.inr ()) : Option (Unit ⊕ Unit))).bind fun t => match t with
  | (.inl _) => (some false)
  | (.inr _) => ((loopO (F_impl_IsAlgebra_l1 a0) (0 : Int)).bind fun t => match t with
    | (.inl _) => (some false)
    | (.inr _) => (some true))
theorem t_impl_IsAlgebra {a0 : SAlgebra} {v : Bool} (h : F_impl_IsAlgebra a0 = some v) : Ret Try.prog f_impl_IsAlgebra [(rS_Algebra false) a0] (V.bool v) := by
  refine ret_vc k_impl_IsAlgebra (Nat.le_of_ble_eq_true rfl) ?_
  unfold F_impl_IsAlgebra at h
  conv => whnf
  refine CutQ.o (fun t : (Unit ⊕ Unit) => match t with | (.inl s) => (Ex.ret, [2], [(2, A.val (V.bool (false)))]) | (.inr s) => (Ex.normal, [1], [(1, A.val ((rP true (rS_Algebra false)) (a0)))])) h ?_ ?_
  · intro t h
    conv => whnf
    refine Cells.lit rfl rfl ?_
    conv => whnf
    refine Br.od h (fun p1 h => ?_) (fun p1 h => ?_)
    · conv => whnf
      refine Br.yes ?_
      conv => whnf
      refine Br.yes ?_
      conv => whnf
      refine Br.yes ?_
      conv => whnf
      refine Br.yes ?_
      conv => whnf
      refine Br.yes ?_
      conv => whnf
      refine Br.yes ?_
      conv => whnf
      refine Br.yes ?_
      conv => whnf
      refine Br.yes ?_
      conv => whnf
      refine Br.yes ?_
      conv => whnf
      cases h; exact ⟨rfl, rfl⟩
    · conv => whnf
      refine Br.no ?_
      conv => whnf
      refine Cells.lit rfl rfl ?_
      conv => whnf
      refine Br.no ?_
      conv => whnf
      refine Br.no ?_
      conv => whnf
      refine Br.od h (fun p2 h => ?_) (fun p2 h => ?_)
      · conv => whnf
        refine Br.yes ?_
        conv => whnf
        refine Br.yes ?_
        conv => whnf
        refine Br.yes ?_
        conv => whnf
        refine Br.yes ?_
        conv => whnf
        refine Br.yes ?_
        conv => whnf
        cases h; exact ⟨rfl, rfl⟩
      · conv => whnf
        refine Br.no ?_
        conv => whnf
        refine Cells.lit rfl rfl ?_
        conv => whnf
        refine Br.no ?_
        conv => whnf
        refine Len.map ?_
        conv => whnf
        refine Br.no ?_
        conv => whnf
        refine Br.no ?_
        conv => whnf
        refine Br.od h (fun p3 h => ?_) (fun p3 h => ?_)
        · conv => whnf
          cases h; exact ⟨rfl, rfl⟩
        · conv => whnf
          cases h; exact ⟨rfl, rfl⟩
  · rintro (⟨⟩ | ⟨⟩) h
    · try dsimp only at h
      conv => whnf
      cases h; exact (by first | rfl | simp only [resV, mulN_one, V.fz, fzL, V.up, upL, fzL_map, fz_slr, fz_at, slr] | simp [resV, mulN_one, V.fz, fzL, V.up, upL, fzL_map, fz_slr, fz_at, slr])
    · try dsimp only at h
      conv => whnf
      refine Cells.lit rfl rfl ?_
      conv => whnf
      refine Len.map ?_
      conv => whnf
      refine LoopQ.o [22, 21, 20, 1] (S_impl_IsAlgebra_l1 a0) (T_impl_IsAlgebra_l1 a0) h (fun s o h => b_impl_IsAlgebra_l1 s o h) (by first | rfl | simp [restrict, look, mulN_one, V.fz, fzL, V.up, upL, fzL_map, fz_slr, fz_at, slr]) (by rintro (_ | _) <;> rfl) ?_
      rintro (⟨⟩ | ⟨⟩) h
      · try dsimp only at h
        conv => whnf
        cases h; exact (by first | rfl | simp only [resV, mulN_one, V.fz, fzL, V.up, upL, fzL_map, fz_slr, fz_at, slr] | simp [resV, mulN_one, V.fz, fzL, V.up, upL, fzL_map, fz_slr, fz_at, slr])
      · try dsimp only at h
        conv => whnf
        cases h; exact (by first | rfl | simp only [resV, mulN_one, V.fz, fzL, V.up, upL, fzL_map, fz_slr, fz_at, slr] | simp [resV, mulN_one, V.fz, fzL, V.up, upL, fzL_map, fz_slr, fz_at, slr])

noncomputable def F_laws_eqOpS_l1 (a0 : List SOp) (b0 : List SOp) : Int → Option (Int ⊕ (Unit ⊕ Unit)) := fun x5 =>
   if x5 < (↑a0.length : Int) then
    ask ((0 : Int) ≤ x5 ∧ x5 < (↑a0.length : Int)) <|
    ask ((0 : Int) ≤ x5 ∧ x5 < (↑b0.length : Int)) <|
    (F_laws_eqOp (nth a0 x5.toNat) (nth b0 x5.toNat)).bind fun r5 =>
    if (r5) = true then
     ask (InI (x5 + (1 : Int))) <|
     some (.inl (x5 + (1 : Int)))
    else
     some (.inr (.inl ()))
   else
    some (.inr (.inr ()))
def S_laws_eqOpS_l1 (a0 : List SOp) (b0 : List SOp) : Int → St := fun s => [(5, A.val (vint s)), (0, A.val ((slr false 2 (rS_Op false)) (a0))), (1, A.val ((slr false 2 (rS_Op false)) (b0)))]
def T_laws_eqOpS_l1 (_a0 : List SOp) (_b0 : List SOp) : (Unit ⊕ Unit) → Tgt
  | (.inl _s) => (Ex.ret, [4], [(4, A.val (V.bool (false)))])
  | (.inr _s) => ((Ex.exit 0), [], [])
theorem b_laws_eqOpS_l1 {a0 : List SOp} {b0 : List SOp} (x5 : Int) (o : Int ⊕ (Unit ⊕ Unit)) (h : F_laws_eqOpS_l1 a0 b0 x5 = some o) : vc Try.prog c_laws_eqOpS_l1 (outQ [5, 0, 1] (S_laws_eqOpS_l1 a0 b0) (T_laws_eqOpS_l1 a0 b0) o) (S_laws_eqOpS_l1 a0 b0 x5) := by
  unfold F_laws_eqOpS_l1 at h
  try dsimp only at h
  conv => whnf
  refine Len.map ?_
  conv => whnf
  refine Br.od h (fun p2 h => ?_) (fun p2 h => ?_)
  · conv => whnf
    refine Len.map ?_
    conv => whnf
    refine Ask.o h fun p3 h => ?_
    conv => whnf
    refine Elem.o (by first | omega | (simp only [mulN] at *; omega) | (simp [mulN] at *; omega)) ?_
    conv => whnf
    refine Len.map ?_
    conv => whnf
    refine Ask.o h fun p4 h => ?_
    conv => whnf
    refine Elem.o (by first | omega | (simp only [mulN] at *; omega) | (simp [mulN] at *; omega)) ?_
    conv => whnf
    refine CallQ.o V.bool (by first | rfl | simp only [mulN_one, V.fz, fzL, V.up, upL, fzL_map, fz_slr, fz_at, slr, List.cons_append, List.nil_append] | simp [mulN_one, V.fz, fzL, V.up, upL, fzL_map, fz_slr, fz_at, slr]) h (fun r h => t_laws_eqOp h) (fun r5 h => ?_)
    conv => whnf
    refine Br.flip ?_
    conv => whnf
    refine Br.ob h (fun p6 h => ?_) (fun p6 h => ?_)
    · conv => whnf
      refine Ask.o h fun p7 h => ?_
      conv => whnf
      cases h; exact ⟨rfl, rfl⟩
    · conv => whnf
      cases h; exact ⟨rfl, rfl⟩
  · conv => whnf
    cases h; exact ⟨rfl, rfl⟩

noncomputable def F_laws_eqOpS (a0 : (List SOp)) (b0 : (List SOp)) : Option Bool :=
  if (↑a0.length : Int) ≠ (↑b0.length : Int) then
   some false
  else
   (loopO (F_laws_eqOpS_l1 a0 b0) (0 : Int)).bind fun t => match t with
   | (.inl _) => (some false)
   | (.inr _) => (some true)
theorem t_laws_eqOpS {a0 : (List SOp)} {b0 : (List SOp)} {v : Bool} (h : F_laws_eqOpS a0 b0 = some v) : Ret Try.prog f_laws_eqOpS [(slr false 2 (rS_Op false)) a0, (slr false 2 (rS_Op false)) b0] (V.bool v) := by
  refine ret_vc k_laws_eqOpS (Nat.le_of_ble_eq_true rfl) ?_
  unfold F_laws_eqOpS at h
  conv => whnf
  refine Len.map ?_
  conv => whnf
  refine Len.map ?_
  conv => whnf
  refine Br.on h (fun p1 h => ?_) (fun p1 h => ?_)
  · conv => whnf
    cases h; exact (by first | rfl | simp only [resV, mulN_one, V.fz, fzL, V.up, upL, fzL_map, fz_slr, fz_at, slr] | simp [resV, mulN_one, V.fz, fzL, V.up, upL, fzL_map, fz_slr, fz_at, slr])
  · conv => whnf
    refine LoopQ.o [5, 0, 1] (S_laws_eqOpS_l1 a0 b0) (T_laws_eqOpS_l1 a0 b0) h (fun s o h => b_laws_eqOpS_l1 s o h) (by first | rfl | simp [restrict, look, mulN_one, V.fz, fzL, V.up, upL, fzL_map, fz_slr, fz_at, slr]) (by rintro (_ | _) <;> rfl) ?_
    rintro (⟨⟩ | ⟨⟩) h
    · try dsimp only at h
      conv => whnf
      cases h; exact (by first | rfl | simp only [resV, mulN_one, V.fz, fzL, V.up, upL, fzL_map, fz_slr, fz_at, slr] | simp [resV, mulN_one, V.fz, fzL, V.up, upL, fzL_map, fz_slr, fz_at, slr])
    · try dsimp only at h
      conv => whnf
      cases h; exact (by first | rfl | simp only [resV, mulN_one, V.fz, fzL, V.up, upL, fzL_map, fz_slr, fz_at, slr] | simp [resV, mulN_one, V.fz, fzL, V.up, upL, fzL_map, fz_slr, fz_at, slr])

noncomputable def F_impl_meetAll_l1 (list0 : List (List Int)) : (Int × (List Int)) → Option ((Int × (List Int)) ⊕ (List Int)) := fun (x12, x5) =>
   if x12 < (↑list0.length : Int) then
    ask ((0 : Int) ≤ x12 ∧ x12 < (↑list0.length : Int)) <|
    (F_impl_meet (x5) (nth list0 x12.toNat)).bind fun r4 =>
    ask (InI (x12 + (1 : Int))) <|
    some (.inl (x12 + (1 : Int), r4))
   else
    some (.inr x5)
def S_impl_meetAll_l1 (list0 : List (List Int)) : (Int × (List Int)) → St := fun s => [(12, A.val (vint s.1)), (11, A.val (vint ((↑list0.length : Int)))), (10, A.val ((slr false 1 (slr false 1 vint)) (list0))), (5, A.val ((slr true 1 vint) s.2))]
def T_impl_meetAll_l1 (_list0 : List (List Int)) : (List Int) → Tgt
  | s => ((Ex.exit 0), [5], [(5, A.val ((slr true 1 vint) s))])
theorem b_impl_meetAll_l1 {list0 : List (List Int)} (s : (Int × (List Int))) (o : (Int × (List Int)) ⊕ (List Int)) (h : F_impl_meetAll_l1 list0 s = some o) : vc Try.prog c_impl_meetAll_l1 (outQ [12, 11, 10, 5] (S_impl_meetAll_l1 list0) (T_impl_meetAll_l1 list0) o) (S_impl_meetAll_l1 list0 s) := by
  obtain ⟨x12, x5⟩ := s
  unfold F_impl_meetAll_l1 at h
  try dsimp only at h
  conv => whnf
  refine Br.od h (fun p2 h => ?_) (fun p2 h => ?_)
  · conv => whnf
    refine Len.map ?_
    conv => whnf
    refine Ask.o h fun p3 h => ?_
    conv => whnf
    refine Elem.o (by first | omega | (simp only [mulN] at *; omega) | (simp [mulN] at *; omega)) ?_
    conv => whnf
    refine CallQ.rd (slr true 1 vint) (by first | rfl | simp only [V.fz, V.up, fzL_map, slr] | simp [mulN_one, V.fz, fzL, V.up, upL, fzL_map, fz_slr, fz_at, slr]) (fun _ => by simp [V.noFz, noFzL_map]) h (fun r h => t_impl_meet h) (fun r4 h => ?_)
    conv => whnf
    refine Ask.o h fun p5 h => ?_
    conv => whnf
    cases h; exact ⟨rfl, rfl⟩
  · conv => whnf
    cases h; exact ⟨rfl, rfl⟩

noncomputable def F_impl_meetAll (n0 : Int) (list0 : (List (List Int))) : Option (List Int) :=
  ask ((0 : Int) ≤ n0 ∧ n0 ≤ (↑LIM : Int)) <|
  (loopO (F_impl_meetAll_l1 list0) ((0 : Int), List.replicate n0.toNat (0 : Int))).bind fun q6_5 =>
  some q6_5
theorem t_impl_meetAll {n0 : Int} {list0 : (List (List Int))} {v : (List Int)} (h : F_impl_meetAll n0 list0 = some v) : Ret Try.prog f_impl_meetAll [vint n0, (slr false 1 (slr false 1 vint)) list0] ((slr true 1 vint) v) := by
  refine ret_vc k_impl_meetAll (Nat.le_of_ble_eq_true rfl) ?_
  unfold F_impl_meetAll at h
  conv => whnf
  refine Ask.o h fun p1 h => ?_
  conv => whnf
  refine MkQ.o vint ((0 : Int)) rfl ?_
  conv => whnf
  refine Len.map ?_
  conv => whnf
  refine LoopQ.o [12, 11, 10, 5] (S_impl_meetAll_l1 list0) (T_impl_meetAll_l1 list0) h (fun s o h => b_impl_meetAll_l1 s o h) (by first | rfl | simp [restrict, look, mulN_one, V.fz, fzL, V.up, upL, fzL_map, fz_slr, fz_at, slr]) (fun _ => rfl) ?_
  rintro q6_5 h
  try dsimp only at h
  conv => whnf
  cases h; exact (by first | rfl | simp only [resV, mulN_one, V.fz, fzL, V.up, upL, fzL_map, fz_slr, fz_at, slr] | simp [resV, mulN_one, V.fz, fzL, V.up, upL, fzL_map, fz_slr, fz_at, slr])

noncomputable def F_impl_isCongruence (a0 : SAlgebra) (p0 : (List Int)) : Option Bool :=
  (F_impl_isPartition (a0.Size) (p0)).bind fun r1 =>
  if (r1) = true then
   (F_impl_clone (p0)).bind fun r3 =>
   (F_impl_closePartition (a0) (r3)).bind fun (r4, _u5) =>
   some !r4
  else
   some false
theorem t_impl_isCongruence {a0 : SAlgebra} {p0 : (List Int)} {v : Bool} (h : F_impl_isCongruence a0 p0 = some v) : Ret Try.prog f_impl_isCongruence [(rS_Algebra false) a0, (slr false 1 vint) p0] (V.bool v) := by
  refine ret_vc k_impl_isCongruence (Nat.le_of_ble_eq_true rfl) ?_
  unfold F_impl_isCongruence at h
  conv => whnf
  refine Cells.lit rfl rfl ?_
  conv => whnf
  refine CallP.o V.bool (by first | rfl | simp only [mulN_one, V.fz, fzL, V.up, upL, fzL_map, fz_slr, fz_at, slr, List.cons_append, List.nil_append] | simp [mulN_one, V.fz, fzL, V.up, upL, fzL_map, fz_slr, fz_at, slr]) h (fun r h => t_impl_isPartition h) (fun r1 h => ?_)
  conv => whnf
  refine Br.ob h (fun p2 h => ?_) (fun p2 h => ?_)
  · conv => whnf
    refine Cells.lit rfl rfl ?_
    conv => whnf
    refine Br.yes ?_
    conv => whnf
    refine Br.yes ?_
    conv => whnf
    refine CallP.o (slr true 1 vint) (by first | rfl | simp only [mulN_one, V.fz, fzL, V.up, upL, fzL_map, fz_slr, fz_at, slr, List.cons_append, List.nil_append] | simp [mulN_one, V.fz, fzL, V.up, upL, fzL_map, fz_slr, fz_at, slr]) h (fun r h => t_impl_clone h) (fun r3 h => ?_)
    conv => whnf
    refine Br.yes ?_
    conv => whnf
    refine CallQ.io V.bool (slr true 1 vint) (by first | rfl | simp only [mulN_one, V.fz, fzL, V.up, upL, fzL_map, fz_slr, fz_at, slr, List.cons_append, List.nil_append] | simp [mulN_one, V.fz, fzL, V.up, upL, fzL_map, fz_slr, fz_at, slr]) rfl (fun _ => rfl) (fun _ => ⟨rfl, rfl⟩) rfl h (fun r h => t_impl_closePartition h) (fun r4 u5 h => ?_)
    conv => whnf
    refine Br.yes ?_
    conv => whnf
    refine Br.yes ?_
    conv => whnf
    cases h; exact (by first | rfl | simp only [resV, mulN_one, V.fz, fzL, V.up, upL, fzL_map, fz_slr, fz_at, slr] | simp [resV, mulN_one, V.fz, fzL, V.up, upL, fzL_map, fz_slr, fz_at, slr])
  · conv => whnf
    refine Br.no ?_
    conv => whnf
    refine Br.no ?_
    conv => whnf
    refine Br.no ?_
    conv => whnf
    refine Br.no ?_
    conv => whnf
    refine Br.no ?_
    conv => whnf
    cases h; exact (by first | rfl | simp only [resV, mulN_one, V.fz, fzL, V.up, upL, fzL_map, fz_slr, fz_at, slr] | simp [resV, mulN_one, V.fz, fzL, V.up, upL, fzL_map, fz_slr, fz_at, slr])

noncomputable def F_spec_l6Push_l1 (a0 : SAlgebra) (p0 : List Int) (x6 : Int) (x7 : Int) (r6 : List Int) : (Int × (List Int)) → Option ((Int × (List Int)) ⊕ (List Int)) := fun (x9, x5'') =>
   if x9 < (↑r6.length : Int) then
    (F_spec_l1Own (r6)).bind fun r8 =>
    ask ((0 : Int) ≤ x9 ∧ x9 < (↑r6.length : Int)) <|
    ask ((0 : Int) ≤ nth r6 x9.toNat ∧ nth r6 x9.toNat < (↑p0.length : Int)) <|
    ask ((0 : Int) ≤ x9 ∧ x9 < (↑r8.length : Int)) <|
    ask ((0 : Int) ≤ x6 ∧ x6 < (↑a0.Ops.length : Int)) <|
    ask ((0 : Int) ≤ x7 ∧ x7 < (↑(nth a0.Ops x6.toNat).Table.length : Int)) <|
    (F_spec_l2Value (a0) (x6) (r8.set x9.toNat (nth p0 (nth r6 x9.toNat).toNat))).bind fun r14 =>
    (F_spec_l6Unite (x5'') (nth (nth a0.Ops x6.toNat).Table x7.toNat) (r14)).bind fun r15 =>
    ask (InI (x9 + (1 : Int))) <|
    some (.inl (x9 + (1 : Int), r15))
   else
    some (.inr x5'')
def S_spec_l6Push_l1 (a0 : SAlgebra) (p0 : List Int) (x6 : Int) (x7 : Int) (r6 : List Int) : (Int × (List Int)) → St := fun s => [(9, A.val (vint s.1)), (8, A.val ((slr true 1 vint) (r6))), (7, A.val (vint (x7))), (6, A.val (vint (x6))), (5, A.val ((slr true 1 vint) s.2)), (2, A.val ((rP true (rS_Algebra false)) (a0))), (1, A.val ((slr false 1 vint) (p0)))]
def T_spec_l6Push_l1 (a0 : SAlgebra) (p0 : List Int) (x6 : Int) (x7 : Int) (_r6 : List Int) : (List Int) → Tgt
  | s => ((Ex.exit 4), [7, 6, 5, 2, 1], [(7, A.val (vint (x7))), (6, A.val (vint (x6))), (5, A.val ((slr true 1 vint) s)), (2, A.val ((rP true (rS_Algebra false)) (a0))), (1, A.val ((slr false 1 vint) (p0)))])
theorem b_spec_l6Push_l1 {a0 : SAlgebra} {p0 : List Int} {x6 : Int} {x7 : Int} {r6 : List Int} (s : (Int × (List Int))) (o : (Int × (List Int)) ⊕ (List Int)) (h : F_spec_l6Push_l1 a0 p0 x6 x7 r6 s = some o) : vc Try.prog c_spec_l6Push_l1 (outQ [9, 8, 7, 6, 5, 2, 1] (S_spec_l6Push_l1 a0 p0 x6 x7 r6) (T_spec_l6Push_l1 a0 p0 x6 x7 r6) o) (S_spec_l6Push_l1 a0 p0 x6 x7 r6 s) := by
  obtain ⟨x9, x5''⟩ := s
  unfold F_spec_l6Push_l1 at h
  try dsimp only at h
  conv => whnf
  refine Len.map ?_
  conv => whnf
  refine Br.od h (fun p7 h => ?_) (fun p7 h => ?_)
  · conv => whnf
    refine CallQ.rd (slr true 1 vint) (by first | rfl | simp only [V.fz, fzL_map, slr] | simp [mulN_one, V.fz, fzL, V.up, upL, fzL_map, fz_slr, fz_at, slr]) (fun _ => by simp [V.noFz, noFzL_map]) h (fun r h => t_spec_l1Own h) (fun r8 h => ?_)
    conv => whnf
    refine Len.map ?_
    conv => whnf
    refine Ask.o h fun p9 h => ?_
    conv => whnf
    refine Cells.one (fun _ => ⟨rfl, rfl⟩) (by first | omega | (simp only [mulN] at *; omega) | (simp [mulN] at *; omega)) ?_
    conv => whnf
    refine Len.map ?_
    conv => whnf
    refine Ask.o h fun p10 h => ?_
    conv => whnf
    refine Elem.o (by first | omega | (simp only [mulN] at *; omega) | (simp [mulN] at *; omega)) ?_
    conv => whnf
    refine Len.map ?_
    conv => whnf
    refine Ask.o h fun p11 h => ?_
    conv => whnf
    refine SetKids.one (fun _ => ⟨rfl, rfl⟩) (nth p0 (nth r6 x9.toNat).toNat) (by first | rfl | simp only [mulN_one, V.fz, fzL, V.up, upL, fzL_map, fz_slr, fz_at, slr, List.cons_append, List.nil_append] | simp [mulN_one, V.fz, fzL, V.up, upL, fzL_map, fz_slr, fz_at, slr]) (by first | omega | (simp only [mulN] at *; omega) | (simp [mulN] at *; omega)) ?_
    conv => whnf
    refine Cells.lit rfl rfl ?_
    conv => whnf
    refine Len.map ?_
    conv => whnf
    refine Ask.o h fun p12 h => ?_
    conv => whnf
    refine Elem.o (by first | omega | (simp only [mulN] at *; omega) | (simp [mulN] at *; omega)) ?_
    conv => whnf
    refine Len.map ?_
    conv => whnf
    refine Ask.o h fun p13 h => ?_
    conv => whnf
    refine Elem.o (by first | omega | (simp only [mulN] at *; omega) | (simp [mulN] at *; omega)) ?_
    conv => whnf
    refine Cells.lit rfl rfl ?_
    conv => whnf
    refine CallP.rd vint (by first | rfl | simp only [mulN_one, V.fz, fzL, V.up, fzL_map, fz_at, slr] | simp [mulN_one, V.fz, fzL, V.up, upL, fzL_map, fz_slr, fz_at, slr]) (fun _ => rfl) h (fun r h => t_spec_l2Value h) (fun r14 h => ?_)
    conv => whnf
    refine CallQ.rd (slr true 1 vint) (by first | rfl | simp only [V.fz, fzL_map, slr] | simp [mulN_one, V.fz, fzL, V.up, upL, fzL_map, fz_slr, fz_at, slr]) (fun _ => by simp [V.noFz, noFzL_map]) h (fun r h => t_spec_l6Unite h) (fun r15 h => ?_)
    conv => whnf
    refine Ask.o h fun p16 h => ?_
    conv => whnf
    cases h; exact ⟨rfl, rfl⟩
  · conv => whnf
    cases h; exact ⟨rfl, rfl⟩

noncomputable def F_spec_l6Push_l2 (a0 : SAlgebra) (p0 : List Int) (x6 : Int) : (Int × (List Int)) → Option ((Int × (List Int)) ⊕ (List Int)) := fun (x7, x5') =>
   ask ((0 : Int) ≤ x6 ∧ x6 < (↑a0.Ops.length : Int)) <|
   if x7 < (↑(nth a0.Ops x6.toNat).Table.length : Int) then
    ask ((0 : Int) ≤ x6 ∧ x6 < (↑a0.Ops.length : Int)) <|
    (F_spec_l2Args (a0.Size) ((nth a0.Ops x6.toNat).Arity) (x7)).bind fun r6 =>
    (loopO (F_spec_l6Push_l1 a0 p0 x6 x7 r6) ((0 : Int), x5')).bind fun q17_5 =>
    ask (InI (x7 + (1 : Int))) <|
    some (.inl (x7 + (1 : Int), q17_5))
   else
    some (.inr x5')
def S_spec_l6Push_l2 (a0 : SAlgebra) (p0 : List Int) (x6 : Int) : (Int × (List Int)) → St := fun s => [(7, A.val (vint s.1)), (6, A.val (vint (x6))), (5, A.val ((slr true 1 vint) s.2)), (2, A.val ((rP true (rS_Algebra false)) (a0))), (1, A.val ((slr false 1 vint) (p0)))]
def T_spec_l6Push_l2 (a0 : SAlgebra) (p0 : List Int) (x6 : Int) : (List Int) → Tgt
  | s => ((Ex.exit 2), [6, 5, 2, 1], [(6, A.val (vint (x6))), (5, A.val ((slr true 1 vint) s)), (2, A.val ((rP true (rS_Algebra false)) (a0))), (1, A.val ((slr false 1 vint) (p0)))])
theorem b_spec_l6Push_l2 {a0 : SAlgebra} {p0 : List Int} {x6 : Int} (s : (Int × (List Int))) (o : (Int × (List Int)) ⊕ (List Int)) (h : F_spec_l6Push_l2 a0 p0 x6 s = some o) : vc Try.prog c_spec_l6Push_l2 (outQ [7, 6, 5, 2, 1] (S_spec_l6Push_l2 a0 p0 x6) (T_spec_l6Push_l2 a0 p0 x6) o) (S_spec_l6Push_l2 a0 p0 x6 s) := by
  obtain ⟨x7, x5'⟩ := s
  unfold F_spec_l6Push_l2 at h
  try dsimp only at h
  conv => whnf
  refine Cells.lit rfl rfl ?_
  conv => whnf
  refine Len.map ?_
  conv => whnf
  refine Ask.o h fun p3 h => ?_
  conv => whnf
  refine Elem.o (by first | omega | (simp only [mulN] at *; omega) | (simp [mulN] at *; omega)) ?_
  conv => whnf
  refine Len.map ?_
  conv => whnf
  refine Br.od h (fun p4 h => ?_) (fun p4 h => ?_)
  · conv => whnf
    refine Cells.lit rfl rfl ?_
    conv => whnf
    refine Cells.lit rfl rfl ?_
    conv => whnf
    refine Len.map ?_
    conv => whnf
    refine Ask.o h fun p5 h => ?_
    conv => whnf
    refine Elem.o (by first | omega | (simp only [mulN] at *; omega) | (simp [mulN] at *; omega)) ?_
    conv => whnf
    refine CallQ.o (slr true 1 vint) (by first | rfl | simp only [mulN_one, V.fz, fzL, V.up, upL, fzL_map, fz_slr, fz_at, slr, List.cons_append, List.nil_append] | simp [mulN_one, V.fz, fzL, V.up, upL, fzL_map, fz_slr, fz_at, slr]) h (fun r h => t_spec_l2Args h) (fun r6 h => ?_)
    conv => whnf
    refine LoopQ.o [9, 8, 7, 6, 5, 2, 1] (S_spec_l6Push_l1 a0 p0 x6 x7 r6) (T_spec_l6Push_l1 a0 p0 x6 x7 r6) h (fun s o h => b_spec_l6Push_l1 s o h) (by first | rfl | simp [restrict, look, mulN_one, V.fz, fzL, V.up, upL, fzL_map, fz_slr, fz_at, slr]) (fun _ => rfl) ?_
    rintro q17_5 h
    try dsimp only at h
    conv => whnf
    refine Ask.o h fun p18 h => ?_
    conv => whnf
    cases h; exact ⟨rfl, rfl⟩
  · conv => whnf
    cases h; exact ⟨rfl, rfl⟩

noncomputable def F_spec_l6Push_l3 (a0 : SAlgebra) (p0 : List Int) : (Int × (List Int)) → Option ((Int × (List Int)) ⊕ (List Int)) := fun (x6, x5) =>
   if x6 < (↑a0.Ops.length : Int) then
    (loopO (F_spec_l6Push_l2 a0 p0 x6) ((0 : Int), x5)).bind fun q19_5 =>
    ask (InI (x6 + (1 : Int))) <|
    some (.inl (x6 + (1 : Int), q19_5))
   else
    some (.inr x5)
def S_spec_l6Push_l3 (a0 : SAlgebra) (p0 : List Int) : (Int × (List Int)) → St := fun s => [(6, A.val (vint s.1)), (5, A.val ((slr true 1 vint) s.2)), (2, A.val ((rP true (rS_Algebra false)) (a0))), (1, A.val ((slr false 1 vint) (p0)))]
def T_spec_l6Push_l3 (_a0 : SAlgebra) (_p0 : List Int) : (List Int) → Tgt
  | s => ((Ex.exit 0), [5], [(5, A.val ((slr true 1 vint) s))])
theorem b_spec_l6Push_l3 {a0 : SAlgebra} {p0 : List Int} (s : (Int × (List Int))) (o : (Int × (List Int)) ⊕ (List Int)) (h : F_spec_l6Push_l3 a0 p0 s = some o) : vc Try.prog c_spec_l6Push_l3 (outQ [6, 5, 2, 1] (S_spec_l6Push_l3 a0 p0) (T_spec_l6Push_l3 a0 p0) o) (S_spec_l6Push_l3 a0 p0 s) := by
  obtain ⟨x6, x5⟩ := s
  unfold F_spec_l6Push_l3 at h
  try dsimp only at h
  conv => whnf
  refine Cells.lit rfl rfl ?_
  conv => whnf
  refine Len.map ?_
  conv => whnf
  refine Br.od h (fun p2 h => ?_) (fun p2 h => ?_)
  · conv => whnf
    refine LoopQ.o [7, 6, 5, 2, 1] (S_spec_l6Push_l2 a0 p0 x6) (T_spec_l6Push_l2 a0 p0 x6) h (fun s o h => b_spec_l6Push_l2 s o h) (by first | rfl | simp [restrict, look, mulN_one, V.fz, fzL, V.up, upL, fzL_map, fz_slr, fz_at, slr]) (fun _ => rfl) ?_
    rintro q19_5 h
    try dsimp only at h
    conv => whnf
    refine Ask.o h fun p20 h => ?_
    conv => whnf
    cases h; exact ⟨rfl, rfl⟩
  · conv => whnf
    cases h; exact ⟨rfl, rfl⟩

noncomputable def F_spec_l6Push (a0 : SAlgebra) (p0 : (List Int)) : Option (List Int) :=
  (F_spec_l1Own (p0)).bind fun r1 =>
  (loopO (F_spec_l6Push_l3 a0 p0) ((0 : Int), r1)).bind fun q21_5 =>
  some q21_5
theorem t_spec_l6Push {a0 : SAlgebra} {p0 : (List Int)} {v : (List Int)} (h : F_spec_l6Push a0 p0 = some v) : Ret Try.prog f_spec_l6Push [(rS_Algebra false) a0, (slr false 1 vint) p0] ((slr true 1 vint) v) := by
  refine ret_vc k_spec_l6Push (Nat.le_of_ble_eq_true rfl) ?_
  unfold F_spec_l6Push at h
  conv => whnf
  refine CallQ.o (slr true 1 vint) (by first | rfl | simp only [mulN_one, V.fz, fzL, V.up, upL, fzL_map, fz_slr, fz_at, slr, List.cons_append, List.nil_append] | simp [mulN_one, V.fz, fzL, V.up, upL, fzL_map, fz_slr, fz_at, slr]) h (fun r h => t_spec_l1Own h) (fun r1 h => ?_)
  conv => whnf
  refine LoopQ.o [6, 5, 2, 1] (S_spec_l6Push_l3 a0 p0) (T_spec_l6Push_l3 a0 p0) h (fun s o h => b_spec_l6Push_l3 s o h) (by first | rfl | simp [restrict, look, mulN_one, V.fz, fzL, V.up, upL, fzL_map, fz_slr, fz_at, slr]) (fun _ => rfl) ?_
  rintro q21_5 h
  try dsimp only at h
  conv => whnf
  cases h; exact (by first | rfl | simp only [resV, mulN_one, V.fz, fzL, V.up, upL, fzL_map, fz_slr, fz_at, slr] | simp [resV, mulN_one, V.fz, fzL, V.up, upL, fzL_map, fz_slr, fz_at, slr])

noncomputable def F_laws_szAlgebra (a0 : SAlgebra) (left0 : Int) : Option Int :=
  (F_laws_szOpS (a0.Ops) (left0)).bind fun r1 =>
  if r1 < (0 : Int) then
   some (-1 : Int)
  else
   some r1
theorem t_laws_szAlgebra {a0 : SAlgebra} {left0 : Int} {v : Int} (h : F_laws_szAlgebra a0 left0 = some v) : Ret Try.prog f_laws_szAlgebra [(rS_Algebra false) a0, vint left0] (vint v) := by
  refine ret_vc k_laws_szAlgebra (Nat.le_of_ble_eq_true rfl) ?_
  unfold F_laws_szAlgebra at h
  conv => whnf
  refine Cells.lit rfl rfl ?_
  conv => whnf
  refine CallQ.o vint (by first | rfl | simp only [mulN_one, V.fz, fzL, V.up, upL, fzL_map, fz_slr, fz_at, slr, List.cons_append, List.nil_append] | simp [mulN_one, V.fz, fzL, V.up, upL, fzL_map, fz_slr, fz_at, slr]) h (fun r h => t_laws_szOpS h) (fun r1 h => ?_)
  conv => whnf
  refine Br.od h (fun p2 h => ?_) (fun p2 h => ?_)
  · conv => whnf
    cases h; exact (by first | rfl | simp only [resV, mulN_one, V.fz, fzL, V.up, upL, fzL_map, fz_slr, fz_at, slr] | simp [resV, mulN_one, V.fz, fzL, V.up, upL, fzL_map, fz_slr, fz_at, slr])
  · conv => whnf
    cases h; exact (by first | rfl | simp only [resV, mulN_one, V.fz, fzL, V.up, upL, fzL_map, fz_slr, fz_at, slr] | simp [resV, mulN_one, V.fz, fzL, V.up, upL, fzL_map, fz_slr, fz_at, slr])

noncomputable def F_laws_toAlgebra (a0 : SAlgebra) : Option SAlgebra :=
  (F_laws_toOpS (a0.Ops)).bind fun r1 =>
  some ({ Size := a0.Size, Ops := r1 })
theorem t_laws_toAlgebra {a0 : SAlgebra} {v : SAlgebra} (h : F_laws_toAlgebra a0 = some v) : Ret Try.prog f_laws_toAlgebra [(rS_Algebra false) a0] ((rS_Algebra true) v) := by
  refine ret_vc k_laws_toAlgebra (Nat.le_of_ble_eq_true rfl) ?_
  unfold F_laws_toAlgebra at h
  conv => whnf
  refine Cells.lit rfl rfl ?_
  conv => whnf
  refine SetKids.lit rfl ?_
  conv => whnf
  refine Cells.lit rfl rfl ?_
  conv => whnf
  refine CallQ.o (slr true 2 (rS_Op true)) (by first | rfl | simp only [mulN_one, V.fz, fzL, V.up, upL, fzL_map, fz_slr, fz_at, slr, List.cons_append, List.nil_append] | simp [mulN_one, V.fz, fzL, V.up, upL, fzL_map, fz_slr, fz_at, slr]) h (fun r h => t_laws_toOpS h) (fun r1 h => ?_)
  conv => whnf
  refine SetKids.lit rfl ?_
  conv => whnf
  refine Cells.lit rfl rfl ?_
  conv => whnf
  refine SetKids.lit rfl ?_
  conv => whnf
  cases h; exact (by first | rfl | simp only [resV, mulN_one, V.fz, fzL, V.up, upL, fzL_map, fz_slr, fz_at, slr] | simp [resV, mulN_one, V.fz, fzL, V.up, upL, fzL_map, fz_slr, fz_at, slr])

noncomputable def F_laws_eqAlgebra (a0 : SAlgebra) (b0 : SAlgebra) : Option Bool :=
  if a0.Size ≠ b0.Size then
   some false
  else
   (F_laws_eqOpS (a0.Ops) (b0.Ops)).bind fun r2 =>
   if (r2) = true then
    some true
   else
    some false
theorem t_laws_eqAlgebra {a0 : SAlgebra} {b0 : SAlgebra} {v : Bool} (h : F_laws_eqAlgebra a0 b0 = some v) : Ret Try.prog f_laws_eqAlgebra [(rS_Algebra false) a0, (rS_Algebra false) b0] (V.bool v) := by
  refine ret_vc k_laws_eqAlgebra (Nat.le_of_ble_eq_true rfl) ?_
  unfold F_laws_eqAlgebra at h
  conv => whnf
  refine Cells.lit rfl rfl ?_
  conv => whnf
  refine Cells.lit rfl rfl ?_
  conv => whnf
  refine Br.on h (fun p1 h => ?_) (fun p1 h => ?_)
  · conv => whnf
    cases h; exact (by first | rfl | simp only [resV, mulN_one, V.fz, fzL, V.up, upL, fzL_map, fz_slr, fz_at, slr] | simp [resV, mulN_one, V.fz, fzL, V.up, upL, fzL_map, fz_slr, fz_at, slr])
  · conv => whnf
    refine Cells.lit rfl rfl ?_
    conv => whnf
    refine Cells.lit rfl rfl ?_
    conv => whnf
    refine CallQ.o V.bool (by first | rfl | simp only [mulN_one, V.fz, fzL, V.up, upL, fzL_map, fz_slr, fz_at, slr, List.cons_append, List.nil_append] | simp [mulN_one, V.fz, fzL, V.up, upL, fzL_map, fz_slr, fz_at, slr]) h (fun r h => t_laws_eqOpS h) (fun r2 h => ?_)
    conv => whnf
    refine Br.flip ?_
    conv => whnf
    refine Br.ob h (fun p3 h => ?_) (fun p3 h => ?_)
    · conv => whnf
      cases h; exact (by first | rfl | simp only [resV, mulN_one, V.fz, fzL, V.up, upL, fzL_map, fz_slr, fz_at, slr] | simp [resV, mulN_one, V.fz, fzL, V.up, upL, fzL_map, fz_slr, fz_at, slr])
    · conv => whnf
      cases h; exact (by first | rfl | simp only [resV, mulN_one, V.fz, fzL, V.up, upL, fzL_map, fz_slr, fz_at, slr] | simp [resV, mulN_one, V.fz, fzL, V.up, upL, fzL_map, fz_slr, fz_at, slr])

noncomputable def F_impl_areCongruences_l1 (a0 : SAlgebra) (list0 : List (List Int)) : Int → Option (Int ⊕ (Unit ⊕ Unit)) := fun x17 =>
   if x17 < (↑list0.length : Int) then
    ask ((0 : Int) ≤ x17 ∧ x17 < (↑list0.length : Int)) <|
    (F_impl_isCongruence (a0) (nth list0 x17.toNat)).bind fun r7 =>
    if (r7) = true then
     ask (InI (x17 + (1 : Int))) <|
     some (.inl (x17 + (1 : Int)))
    else
     some (.inr (.inl ()))
   else
    some (.inr (.inr ()))
def S_impl_areCongruences_l1 (a0 : SAlgebra) (list0 : List (List Int)) : Int → St := fun s => [(17, A.val (vint s)), (16, A.val (vint ((↑list0.length : Int)))), (15, A.val ((slr false 1 (slr false 1 vint)) (list0))), (2, A.val ((rP true (rS_Algebra false)) (a0)))]
def T_impl_areCongruences_l1 (_a0 : SAlgebra) (_list0 : List (List Int)) : (Unit ⊕ Unit) → Tgt
  | (.inl _s) => (Ex.ret, [4], [(4, A.val (V.bool (false)))])
  | (.inr _s) => ((Ex.exit 0), [], [])
theorem b_impl_areCongruences_l1 {a0 : SAlgebra} {list0 : List (List Int)} (x17 : Int) (o : Int ⊕ (Unit ⊕ Unit)) (h : F_impl_areCongruences_l1 a0 list0 x17 = some o) : vc Try.prog c_impl_areCongruences_l1 (outQ [17, 16, 15, 2] (S_impl_areCongruences_l1 a0 list0) (T_impl_areCongruences_l1 a0 list0) o) (S_impl_areCongruences_l1 a0 list0 x17) := by
  unfold F_impl_areCongruences_l1 at h
  try dsimp only at h
  conv => whnf
  refine Br.od h (fun p5 h => ?_) (fun p5 h => ?_)
  · conv => whnf
    refine Len.map ?_
    conv => whnf
    refine Ask.o h fun p6 h => ?_
    conv => whnf
    refine Elem.o (by first | omega | (simp only [mulN] at *; omega) | (simp [mulN] at *; omega)) ?_
    conv => whnf
    refine Cells.lit rfl rfl ?_
    conv => whnf
    refine CallQ.o V.bool (by first | rfl | simp only [mulN_one, V.fz, fzL, V.up, upL, fzL_map, fz_slr, fz_at, slr, List.cons_append, List.nil_append] | simp [mulN_one, V.fz, fzL, V.up, upL, fzL_map, fz_slr, fz_at, slr]) h (fun r h => t_impl_isCongruence h) (fun r7 h => ?_)
    conv => whnf
    refine Br.flip ?_
    conv => whnf
    refine Br.ob h (fun p8 h => ?_) (fun p8 h => ?_)
    · conv => whnf
      refine Ask.o h fun p9 h => ?_
      conv => whnf
      cases h; exact ⟨rfl, rfl⟩
    · conv => whnf
      cases h; exact ⟨rfl, rfl⟩
  · conv => whnf
    cases h; exact ⟨rfl, rfl⟩

noncomputable def F_impl_areCongruences (a0 : SAlgebra) (list0 : (List (List Int))) : Option Bool :=
  (((F_impl_IsAlgebra (a0)).bind fun r1 =>
     if (r1) = true then
      if (↑list0.length : Int) > (20 : Int) then
       some (.inl ())
      else
       some (.inr ())
     else
      some (.inl ()) : Option (Unit ⊕ Unit))).bind fun t => match t with
  | (.inl _) => (some false)
  | (.inr _) => ((loopO (F_impl_areCongruences_l1 a0 list0) (0 : Int)).bind fun t => match t with
    | (.inl _) => (some false)
    | (.inr _) => (some true))
theorem t_impl_areCongruences {a0 : SAlgebra} {list0 : (List (List Int))} {v : Bool} (h : F_impl_areCongruences a0 list0 = some v) : Ret Try.prog f_impl_areCongruences [(rS_Algebra false) a0, (slr false 1 (slr false 1 vint)) list0] (V.bool v) := by
  refine ret_vc k_impl_areCongruences (Nat.le_of_ble_eq_true rfl) ?_
  unfold F_impl_areCongruences at h
  conv => whnf
  refine CutQ.o (fun t : (Unit ⊕ Unit) => match t with | (.inl s) => (Ex.ret, [4], [(4, A.val (V.bool (false)))]) | (.inr s) => (Ex.normal, [2, 1], [(2, A.val ((rP true (rS_Algebra false)) (a0))), (1, A.val ((slr false 1 (slr false 1 vint)) (list0)))])) h ?_ ?_
  · intro t h
    conv => whnf
    refine Cells.lit rfl rfl ?_
    conv => whnf
    refine CallQ.o V.bool (by first | rfl | simp only [mulN_one, V.fz, fzL, V.up, upL, fzL_map, fz_slr, fz_at, slr, List.cons_append, List.nil_append] | simp [mulN_one, V.fz, fzL, V.up, upL, fzL_map, fz_slr, fz_at, slr]) h (fun r h => t_impl_IsAlgebra h) (fun r1 h => ?_)
    conv => whnf
    refine Br.flip ?_
    conv => whnf
    refine Br.ob h (fun p2 h => ?_) (fun p2 h => ?_)
    · conv => whnf
      refine Br.no ?_
      conv => whnf
      refine Len.map ?_
      conv => whnf
      refine Br.no ?_
      conv => whnf
      refine Br.no ?_
      conv => whnf
      refine Br.od h (fun p3 h => ?_) (fun p3 h => ?_)
      · conv => whnf
        cases h; exact ⟨rfl, rfl⟩
      · conv => whnf
        cases h; exact ⟨rfl, rfl⟩
    · conv => whnf
      refine Br.yes ?_
      conv => whnf
      refine Br.yes ?_
      conv => whnf
      refine Br.yes ?_
      conv => whnf
      refine Br.yes ?_
      conv => whnf
      cases h; exact ⟨rfl, rfl⟩
  · rintro (⟨⟩ | ⟨⟩) h
    · try dsimp only at h
      conv => whnf
      cases h; exact (by first | rfl | simp only [resV, mulN_one, V.fz, fzL, V.up, upL, fzL_map, fz_slr, fz_at, slr] | simp [resV, mulN_one, V.fz, fzL, V.up, upL, fzL_map, fz_slr, fz_at, slr])
    · try dsimp only at h
      conv => whnf
      refine Len.map ?_
      conv => whnf
      refine LoopQ.o [17, 16, 15, 2] (S_impl_areCongruences_l1 a0 list0) (T_impl_areCongruences_l1 a0 list0) h (fun s o h => b_impl_areCongruences_l1 s o h) (by first | rfl | simp [restrict, look, mulN_one, V.fz, fzL, V.up, upL, fzL_map, fz_slr, fz_at, slr]) (by rintro (_ | _) <;> rfl) ?_
      rintro (⟨⟩ | ⟨⟩) h
      · try dsimp only at h
        conv => whnf
        cases h; exact (by first | rfl | simp only [resV, mulN_one, V.fz, fzL, V.up, upL, fzL_map, fz_slr, fz_at, slr] | simp [resV, mulN_one, V.fz, fzL, V.up, upL, fzL_map, fz_slr, fz_at, slr])
      · try dsimp only at h
        conv => whnf
        cases h; exact (by first | rfl | simp only [resV, mulN_one, V.fz, fzL, V.up, upL, fzL_map, fz_slr, fz_at, slr] | simp [resV, mulN_one, V.fz, fzL, V.up, upL, fzL_map, fz_slr, fz_at, slr])

end Go.Proofs.Ytdodfnbbfkcgnaa.Ax
