/-
  What the functions compute, as functions on plain data, and that the program does compute it; written by program.
-/
import Derived.Test.YtdodfnbbfkcgnaaCode
import Derived.Test.YtdodfnbbfkcgnaaG1
import Derived.Test.YtdodfnbbfkcgnaaG2
namespace Go.Proofs.Ytdodfnbbfkcgnaa.Ax
open Go
set_option maxRecDepth 100000
set_option maxHeartbeats 4000000

noncomputable def F_impl_isOp (f0 : SOp) (n0 : Int) : Option Bool :=
  if f0.Arity ≥ (0 : Int) then
   if f0.Arity ≤ (3 : Int) then
    (F_impl_power (n0) (f0.Arity)).bind fun r3 =>
    if (↑f0.Table.length : Int) = r3 then
     (F_impl_inSize (f0.Table) (n0)).bind fun r5 =>
     some r5
    else
     some false
   else
    some false
  else
   some false
theorem t_impl_isOp {f0 : SOp} {n0 : Int} {v : Bool} (h : F_impl_isOp f0 n0 = some v) : Ret Try.prog f_impl_isOp [(rS_Op false) f0, vint n0] (V.bool v) := by
  refine ret_vc k_impl_isOp (Nat.le_of_ble_eq_true rfl) ?_
  unfold F_impl_isOp at h
  conv => whnf
  refine Cells.lit rfl rfl ?_
  conv => whnf
  refine Br.od h (fun p1 h => ?_) (fun p1 h => ?_)
  · conv => whnf
    refine Br.yes ?_
    conv => whnf
    refine Cells.lit rfl rfl ?_
    conv => whnf
    refine Br.yes ?_
    conv => whnf
    refine Br.yes ?_
    conv => whnf
    refine Br.od h (fun p2 h => ?_) (fun p2 h => ?_)
    · conv => whnf
      refine Br.yes ?_
      conv => whnf
      refine Cells.lit rfl rfl ?_
      conv => whnf
      refine Br.yes ?_
      conv => whnf
      refine Len.map ?_
      conv => whnf
      refine Br.yes ?_
      conv => whnf
      refine Br.yes ?_
      conv => whnf
      refine Br.yes ?_
      conv => whnf
      refine Cells.lit rfl rfl ?_
      conv => whnf
      refine Br.yes ?_
      conv => whnf
      refine CallP.o vint (by first | rfl | simp only [mulN_one, V.fz, fzL, V.up, upL, fzL_map, fz_slr, fz_at, slr, List.cons_append, List.nil_append] | simp [mulN_one, V.fz, fzL, V.up, upL, fzL_map, fz_slr, fz_at, slr]) h (fun r h => t_impl_power h) (fun r3 h => ?_)
      conv => whnf
      refine Br.yes ?_
      conv => whnf
      refine Br.yes ?_
      conv => whnf
      refine Br.oe h (fun p4 h => ?_) (fun p4 h => ?_)
      · conv => whnf
        refine Br.yes ?_
        conv => whnf
        refine Cells.lit rfl rfl ?_
        conv => whnf
        refine Br.yes ?_
        conv => whnf
        refine Br.yes ?_
        conv => whnf
        refine CallQ.o V.bool (by first | rfl | simp only [mulN_one, V.fz, fzL, V.up, upL, fzL_map, fz_slr, fz_at, slr, List.cons_append, List.nil_append] | simp [mulN_one, V.fz, fzL, V.up, upL, fzL_map, fz_slr, fz_at, slr]) h (fun r h => t_impl_inSize h) (fun r5 h => ?_)
        conv => whnf
        refine Br.yes ?_
        conv => whnf
        cases h; exact (by first | rfl | simp only [resV, mulN_one, V.fz, fzL, V.up, upL, fzL_map, fz_slr, fz_at, slr] | simp [resV, mulN_one, V.fz, fzL, V.up, upL, fzL_map, fz_slr, fz_at, slr])
      · conv => whnf
        refine Br.no ?_
        conv => whnf
        refine Br.no ?_
        conv => whnf
        refine Br.no ?_
        conv => whnf
        refine Br.no ?_
        conv => whnf
        cases h; exact (by first | rfl | simp only [resV, mulN_one, V.fz, fzL, V.up, upL, fzL_map, fz_slr, fz_at, slr] | simp [resV, mulN_one, V.fz, fzL, V.up, upL, fzL_map, fz_slr, fz_at, slr])
    · conv => whnf
      refine Br.no ?_
      conv => whnf
      refine Br.no ?_
      conv => whnf
      refine Br.no ?_
      conv => whnf
      refine Br.no ?_
      conv => whnf
      refine Br.no ?_
      conv => whnf
      refine Br.no ?_
      conv => whnf
      refine Br.no ?_
      conv => whnf
      refine Br.no ?_
      conv => whnf
      refine Br.no ?_
      conv => whnf
      refine Br.no ?_
      conv => whnf
      refine Br.no ?_
      conv => whnf
      refine Br.no ?_
      conv => whnf
      refine Br.no ?_
      conv => whnf
      cases h; exact (by first | rfl | simp only [resV, mulN_one, V.fz, fzL, V.up, upL, fzL_map, fz_slr, fz_at, slr] | simp [resV, mulN_one, V.fz, fzL, V.up, upL, fzL_map, fz_slr, fz_at, slr])
  · conv => whnf
    refine Br.no ?_
    conv => whnf
    refine Br.no ?_
    conv => whnf
    refine Br.no ?_
    conv => whnf
    refine Br.no ?_
    conv => whnf
    refine Br.no ?_
    conv => whnf
    refine Br.no ?_
    conv => whnf
    refine Br.no ?_
    conv => whnf
    refine Br.no ?_
    conv => whnf
    refine Br.no ?_
    conv => whnf
    refine Br.no ?_
    conv => whnf
    refine Br.no ?_
    conv => whnf
    refine Br.no ?_
    conv => whnf
    refine Br.no ?_
    conv => whnf
    refine Br.no ?_
    conv => whnf
    refine Br.no ?_
    conv => whnf
    refine Br.no ?_
    conv => whnf
    refine Br.no ?_
    conv => whnf
    cases h; exact (by first | rfl | simp only [resV, mulN_one, V.fz, fzL, V.up, upL, fzL_map, fz_slr, fz_at, slr] | simp [resV, mulN_one, V.fz, fzL, V.up, upL, fzL_map, fz_slr, fz_at, slr])

noncomputable def F_laws_eqOp (a0 : SOp) (b0 : SOp) : Option Bool :=
  if a0.Arity ≠ b0.Arity then
   some false
  else
   (F_laws_eqIntS (a0.Table) (b0.Table)).bind fun r2 =>
   if (r2) = true then
    some true
   else
    some false
theorem t_laws_eqOp {a0 : SOp} {b0 : SOp} {v : Bool} (h : F_laws_eqOp a0 b0 = some v) : Ret Try.prog f_laws_eqOp [(rS_Op false) a0, (rS_Op false) b0] (V.bool v) := by
  refine ret_vc k_laws_eqOp (Nat.le_of_ble_eq_true rfl) ?_
  unfold F_laws_eqOp at h
  conv => whnf
  refine Cells.lit rfl rfl ?_
  conv => whnf
  refine Cells.lit rfl rfl ?_
  conv => whnf
  refine Br.on h (fun p1 h => ?_) (fun p1 h => ?_)
  · conv => whnf
    cases h; exact (by first | rfl | simp only [resV, mulN_one, V.fz, fzL, V.up, upL, fzL_map, fz_slr, fz_at, slr] | simp [resV, mulN_one, V.fz, fzL, V.up, upL, fzL_map, fz_slr, fz_at, slr])
  · conv => whnf
    refine Cells.lit rfl rfl ?_
    conv => whnf
    refine Cells.lit rfl rfl ?_
    conv => whnf
    refine CallQ.o V.bool (by first | rfl | simp only [mulN_one, V.fz, fzL, V.up, upL, fzL_map, fz_slr, fz_at, slr, List.cons_append, List.nil_append] | simp [mulN_one, V.fz, fzL, V.up, upL, fzL_map, fz_slr, fz_at, slr]) h (fun r h => t_laws_eqIntS h) (fun r2 h => ?_)
    conv => whnf
    refine Br.flip ?_
    conv => whnf
    refine Br.ob h (fun p3 h => ?_) (fun p3 h => ?_)
    · conv => whnf
      cases h; exact (by first | rfl | simp only [resV, mulN_one, V.fz, fzL, V.up, upL, fzL_map, fz_slr, fz_at, slr] | simp [resV, mulN_one, V.fz, fzL, V.up, upL, fzL_map, fz_slr, fz_at, slr])
    · conv => whnf
      cases h; exact (by first | rfl | simp only [resV, mulN_one, V.fz, fzL, V.up, upL, fzL_map, fz_slr, fz_at, slr] | simp [resV, mulN_one, V.fz, fzL, V.up, upL, fzL_map, fz_slr, fz_at, slr])

noncomputable def F_impl_meet_l1 (p0 : List Int) (q0 : List Int) : (Int × (List Int)) → Option ((Int × (List Int)) ⊕ (List Int)) := fun (x12, x5) =>
   if x12 < (↑p0.length : Int) then
    ask ((0 : Int) ≤ x12 ∧ x12 < (↑p0.length : Int)) <|
    ask (InI (nth p0 x12.toNat * (↑p0.length : Int))) <|
    ask ((0 : Int) ≤ x12 ∧ x12 < (↑q0.length : Int)) <|
    ask (InI (nth p0 x12.toNat * (↑p0.length : Int) + nth q0 x12.toNat)) <|
    ask ((0 : Int) ≤ x12 ∧ x12 < (↑x5.length : Int)) <|
    ask (InI (x12 + (1 : Int))) <|
    some (.inl (x12 + (1 : Int), x5.set x12.toNat (nth p0 x12.toNat * (↑p0.length : Int) + nth q0 x12.toNat)))
   else
    some (.inr x5)
def S_impl_meet_l1 (p0 : List Int) (q0 : List Int) : (Int × (List Int)) → St := fun s => [(12, A.val (vint s.1)), (11, A.val (vint ((↑p0.length : Int)))), (5, A.val ((slr true 1 vint) s.2)), (0, A.val ((slr false 1 vint) (p0))), (1, A.val ((slr false 1 vint) (q0)))]
def T_impl_meet_l1 (_p0 : List Int) (_q0 : List Int) : (List Int) → Tgt
  | s => ((Ex.exit 0), [5], [(5, A.val ((slr true 1 vint) s))])
theorem b_impl_meet_l1 {p0 : List Int} {q0 : List Int} (s : (Int × (List Int))) (o : (Int × (List Int)) ⊕ (List Int)) (h : F_impl_meet_l1 p0 q0 s = some o) : vc Try.prog c_impl_meet_l1 (outQ [12, 11, 5, 0, 1] (S_impl_meet_l1 p0 q0) (T_impl_meet_l1 p0 q0) o) (S_impl_meet_l1 p0 q0 s) := by
  obtain ⟨x12, x5⟩ := s
  unfold F_impl_meet_l1 at h
  try dsimp only at h
  conv => whnf
  refine Br.od h (fun p2 h => ?_) (fun p2 h => ?_)
  · conv => whnf
    refine Len.map ?_
    conv => whnf
    refine Ask.o h fun p3 h => ?_
    conv => whnf
    refine Elem.o (by first | omega | (simp only [mulN] at *; omega) | (simp [mulN] at *; omega)) ?_
    conv => whnf
    refine Len.map ?_
    conv => whnf
    refine Ask.o h fun p4 h => ?_
    conv => whnf
    refine Len.map ?_
    conv => whnf
    refine Ask.o h fun p5 h => ?_
    conv => whnf
    refine Elem.o (by first | omega | (simp only [mulN] at *; omega) | (simp [mulN] at *; omega)) ?_
    conv => whnf
    refine Ask.o h fun p6 h => ?_
    conv => whnf
    refine Len.map ?_
    conv => whnf
    refine Ask.o h fun p7 h => ?_
    conv => whnf
    refine SetKids.one (fun _ => ⟨rfl, rfl⟩) (nth p0 x12.toNat * (↑p0.length : Int) + nth q0 x12.toNat) (by first | rfl | simp only [mulN_one, V.fz, fzL, V.up, upL, fzL_map, fz_slr, fz_at, slr, List.cons_append, List.nil_append] | simp [mulN_one, V.fz, fzL, V.up, upL, fzL_map, fz_slr, fz_at, slr]) (by first | omega | (simp only [mulN] at *; omega) | (simp [mulN] at *; omega)) ?_
    conv => whnf
    refine Ask.o h fun p8 h => ?_
    conv => whnf
    cases h; exact ⟨rfl, rfl⟩
  · conv => whnf
    cases h; exact ⟨rfl, rfl⟩

noncomputable def F_impl_meet (p0 : (List Int)) (q0 : (List Int)) : Option (List Int) :=
  ask ((0 : Int) ≤ (↑p0.length : Int) ∧ (↑p0.length : Int) ≤ (↑LIM : Int)) <|
  (loopO (F_impl_meet_l1 p0 q0) ((0 : Int), List.replicate (↑p0.length : Int).toNat (0 : Int))).bind fun q9_5 =>
  (F_impl_kernelOf (q9_5)).bind fun r10 =>
  some r10
theorem t_impl_meet {p0 : (List Int)} {q0 : (List Int)} {v : (List Int)} (h : F_impl_meet p0 q0 = some v) : Ret Try.prog f_impl_meet [(slr false 1 vint) p0, (slr false 1 vint) q0] ((slr true 1 vint) v) := by
  refine ret_vc k_impl_meet (Nat.le_of_ble_eq_true rfl) ?_
  unfold F_impl_meet at h
  conv => whnf
  refine Len.map ?_
  conv => whnf
  refine Ask.o h fun p1 h => ?_
  conv => whnf
  refine MkQ.o vint ((0 : Int)) rfl ?_
  conv => whnf
  refine Len.map ?_
  conv => whnf
  refine LoopQ.o [12, 11, 5, 0, 1] (S_impl_meet_l1 p0 q0) (T_impl_meet_l1 p0 q0) h (fun s o h => b_impl_meet_l1 s o h) (by first | rfl | simp [restrict, look, mulN_one, V.fz, fzL, V.up, upL, fzL_map, fz_slr, fz_at, slr]) (fun _ => rfl) ?_
  rintro q9_5 h
  try dsimp only at h
  conv => whnf
  refine CallQ.rd (slr true 1 vint) (by first | rfl | simp only [V.fz, fzL_map, slr] | simp [mulN_one, V.fz, fzL, V.up, upL, fzL_map, fz_slr, fz_at, slr]) (fun _ => by simp [V.noFz, noFzL_map]) h (fun r h => t_impl_kernelOf h) (fun r10 h => ?_)
  conv => whnf
  cases h; exact (by first | rfl | simp only [resV, mulN_one, V.fz, fzL, V.up, upL, fzL_map, fz_slr, fz_at, slr] | simp [resV, mulN_one, V.fz, fzL, V.up, upL, fzL_map, fz_slr, fz_at, slr])

noncomputable def F_spec_l6Partition_l1 (n0 : Int) (p0 : List Int) : Int → Option (Int ⊕ (Unit ⊕ Unit)) := fun x5 =>
   if x5 < n0 then
    ask ((0 : Int) ≤ x5 ∧ x5 < (↑p0.length : Int)) <|
    (F_spec_l1In (nth p0 x5.toNat) ((0 : Int)) (x5)).bind fun r4 =>
    if (r4) = true then
     ask ((0 : Int) ≤ x5 ∧ x5 < (↑p0.length : Int)) <|
     ask ((0 : Int) ≤ nth p0 x5.toNat ∧ nth p0 x5.toNat < (↑p0.length : Int)) <|
     ask ((0 : Int) ≤ x5 ∧ x5 < (↑p0.length : Int)) <|
     if nth p0 (nth p0 x5.toNat).toNat ≠ nth p0 x5.toNat then
      some (.inr (.inl ()))
     else
      ask (InI (x5 + (1 : Int))) <|
      some (.inl (x5 + (1 : Int)))
    else
     some (.inr (.inl ()))
   else
    some (.inr (.inr ()))
def S_spec_l6Partition_l1 (n0 : Int) (p0 : List Int) : Int → St := fun s => [(5, A.val (vint s)), (0, A.val (vint (n0))), (1, A.val ((slr false 1 vint) (p0)))]
def T_spec_l6Partition_l1 (_n0 : Int) (_p0 : List Int) : (Unit ⊕ Unit) → Tgt
  | (.inl _s) => (Ex.ret, [4], [(4, A.val (V.bool (false)))])
  | (.inr _s) => ((Ex.exit 0), [], [])
theorem b_spec_l6Partition_l1 {n0 : Int} {p0 : List Int} (x5 : Int) (o : Int ⊕ (Unit ⊕ Unit)) (h : F_spec_l6Partition_l1 n0 p0 x5 = some o) : vc Try.prog c_spec_l6Partition_l1 (outQ [5, 0, 1] (S_spec_l6Partition_l1 n0 p0) (T_spec_l6Partition_l1 n0 p0) o) (S_spec_l6Partition_l1 n0 p0 x5) := by
  unfold F_spec_l6Partition_l1 at h
  try dsimp only at h
  conv => whnf
  refine Br.od h (fun p2 h => ?_) (fun p2 h => ?_)
  · conv => whnf
    refine Len.map ?_
    conv => whnf
    refine Ask.o h fun p3 h => ?_
    conv => whnf
    refine Elem.o (by first | omega | (simp only [mulN] at *; omega) | (simp [mulN] at *; omega)) ?_
    conv => whnf
    refine CallP.o V.bool (by first | rfl | simp only [mulN_one, V.fz, fzL, V.up, upL, fzL_map, fz_slr, fz_at, slr, List.cons_append, List.nil_append] | simp [mulN_one, V.fz, fzL, V.up, upL, fzL_map, fz_slr, fz_at, slr]) h (fun r h => t_spec_l1In h) (fun r4 h => ?_)
    conv => whnf
    refine Br.flip ?_
    conv => whnf
    refine Br.ob h (fun p5 h => ?_) (fun p5 h => ?_)
    · conv => whnf
      refine Br.no ?_
      conv => whnf
      refine Br.no ?_
      conv => whnf
      refine Br.no ?_
      conv => whnf
      refine Len.map ?_
      conv => whnf
      refine Ask.o h fun p6 h => ?_
      conv => whnf
      refine Elem.o (by first | omega | (simp only [mulN] at *; omega) | (simp [mulN] at *; omega)) ?_
      conv => whnf
      refine Br.no ?_
      conv => whnf
      refine Br.no ?_
      conv => whnf
      refine Len.map ?_
      conv => whnf
      refine Ask.o h fun p7 h => ?_
      conv => whnf
      refine Elem.o (by first | omega | (simp only [mulN] at *; omega) | (simp [mulN] at *; omega)) ?_
      conv => whnf
      refine Br.no ?_
      conv => whnf
      refine Br.no ?_
      conv => whnf
      refine Br.no ?_
      conv => whnf
      refine Br.no ?_
      conv => whnf
      refine Len.map ?_
      conv => whnf
      refine Ask.o h fun p8 h => ?_
      conv => whnf
      refine Elem.o (by first | omega | (simp only [mulN] at *; omega) | (simp [mulN] at *; omega)) ?_
      conv => whnf
      refine Br.no ?_
      conv => whnf
      refine Br.no ?_
      conv => whnf
      refine Br.no ?_
      conv => whnf
      refine Br.on h (fun p9 h => ?_) (fun p9 h => ?_)
      · conv => whnf
        cases h; exact ⟨rfl, rfl⟩
      · conv => whnf
        refine Ask.o h fun p10 h => ?_
        conv => whnf
        cases h; exact ⟨rfl, rfl⟩
    · conv => whnf
      refine Br.yes ?_
      conv => whnf
      refine Br.yes ?_
      conv => whnf
      refine Br.yes ?_
      conv => whnf
      refine Br.yes ?_
      conv => whnf
      refine Br.yes ?_
      conv => whnf
      refine Br.yes ?_
      conv => whnf
      refine Br.yes ?_
      conv => whnf
      refine Br.yes ?_
      conv => whnf
      refine Br.yes ?_
      conv => whnf
      refine Br.yes ?_
      conv => whnf
      refine Br.yes ?_
      conv => whnf
      refine Br.yes ?_
      conv => whnf
      refine Br.yes ?_
      conv => whnf
      cases h; exact ⟨rfl, rfl⟩
  · conv => whnf
    cases h; exact ⟨rfl, rfl⟩

noncomputable def F_spec_l6Partition (n0 : Int) (p0 : (List Int)) : Option Bool :=
  if (↑p0.length : Int) ≠ n0 then
   some false
  else
   (loopO (F_spec_l6Partition_l1 n0 p0) (0 : Int)).bind fun t => match t with
   | (.inl _) => (some false)
   | (.inr _) => (some true)
theorem t_spec_l6Partition {n0 : Int} {p0 : (List Int)} {v : Bool} (h : F_spec_l6Partition n0 p0 = some v) : Ret Try.prog f_spec_l6Partition [vint n0, (slr false 1 vint) p0] (V.bool v) := by
  refine ret_vc k_spec_l6Partition (Nat.le_of_ble_eq_true rfl) ?_
  unfold F_spec_l6Partition at h
  conv => whnf
  refine Len.map ?_
  conv => whnf
  refine Br.on h (fun p1 h => ?_) (fun p1 h => ?_)
  · conv => whnf
    cases h; exact (by first | rfl | simp only [resV, mulN_one, V.fz, fzL, V.up, upL, fzL_map, fz_slr, fz_at, slr] | simp [resV, mulN_one, V.fz, fzL, V.up, upL, fzL_map, fz_slr, fz_at, slr])
  · conv => whnf
    refine LoopQ.o [5, 0, 1] (S_spec_l6Partition_l1 n0 p0) (T_spec_l6Partition_l1 n0 p0) h (fun s o h => b_spec_l6Partition_l1 s o h) (by first | rfl | simp [restrict, look, mulN_one, V.fz, fzL, V.up, upL, fzL_map, fz_slr, fz_at, slr]) (by rintro (_ | _) <;> rfl) ?_
    rintro (⟨⟩ | ⟨⟩) h
    · try dsimp only at h
      conv => whnf
      cases h; exact (by first | rfl | simp only [resV, mulN_one, V.fz, fzL, V.up, upL, fzL_map, fz_slr, fz_at, slr] | simp [resV, mulN_one, V.fz, fzL, V.up, upL, fzL_map, fz_slr, fz_at, slr])
    · try dsimp only at h
      conv => whnf
      cases h; exact (by first | rfl | simp only [resV, mulN_one, V.fz, fzL, V.up, upL, fzL_map, fz_slr, fz_at, slr] | simp [resV, mulN_one, V.fz, fzL, V.up, upL, fzL_map, fz_slr, fz_at, slr])

noncomputable def F_impl_closePartition_l1 (a0 : SAlgebra) (x18 : Int) (_x10 : Int) (x9 : Int) : (Int × Bool × Bool × (List Int)) → Option ((Int × Bool × Bool × (List Int)) ⊕ (Bool × Bool × (List Int))) := fun (x31, x6''', x5''', x67''') =>
   if x31 < (↑(nth a0.Ops x18.toNat).Table.length : Int) then
    ask ((0 : Int) ≤ x31 ∧ x31 < (↑(nth a0.Ops x18.toNat).Table.length : Int)) <|
    ask (x9 ≠ (0 : Int) ∧ InI (x31.tdiv x9)) <|
    ask (a0.Size ≠ (0 : Int)) <|
    ask ((0 : Int) ≤ (x31.tdiv x9).tmod a0.Size ∧ (x31.tdiv x9).tmod a0.Size < (↑x67'''.length : Int)) <|
    ask (InI (nth x67''' ((x31.tdiv x9).tmod a0.Size).toNat - (x31.tdiv x9).tmod a0.Size)) <|
    ask (InI ((nth x67''' ((x31.tdiv x9).tmod a0.Size).toNat - (x31.tdiv x9).tmod a0.Size) * x9)) <|
    ask (InI (x31 + (nth x67''' ((x31.tdiv x9).tmod a0.Size).toNat - (x31.tdiv x9).tmod a0.Size) * x9)) <|
    ask ((0 : Int) ≤ x31 + (nth x67''' ((x31.tdiv x9).tmod a0.Size).toNat - (x31.tdiv x9).tmod a0.Size) * x9 ∧ x31 + (nth x67''' ((x31.tdiv x9).tmod a0.Size).toNat - (x31.tdiv x9).tmod a0.Size) * x9 < (↑(nth a0.Ops x18.toNat).Table.length : Int)) <|
    (F_impl_unite (x67''') (nth (nth a0.Ops x18.toNat).Table x31.toNat) (nth (nth a0.Ops x18.toNat).Table (x31 + (nth x67''' ((x31.tdiv x9).tmod a0.Size).toNat - (x31.tdiv x9).tmod a0.Size) * x9).toNat)).bind fun (r14, u15) =>
    if (r14) = true then
     ask (InI (x31 + (1 : Int))) <|
     some (.inl (x31 + (1 : Int), true, true, u15))
    else
     ask (InI (x31 + (1 : Int))) <|
     some (.inl (x31 + (1 : Int), x6''', x5''', u15))
   else
    some (.inr (x6''', x5''', x67'''))
def S_impl_closePartition_l1 (a0 : SAlgebra) (x18 : Int) (x10 : Int) (x9 : Int) : (Int × Bool × Bool × (List Int)) → St := fun s => [(31, A.val (vint s.1)), (30, A.val (vint ((↑(nth a0.Ops x18.toNat).Table.length : Int)))), (29, A.val ((slr false 1 vint) ((nth a0.Ops x18.toNat).Table))), (10, A.val (vint (x10))), (9, A.val (vint (x9))), (8, A.val ((rP true (rS_Op false)) (nth a0.Ops x18.toNat))), (18, A.val (vint (x18))), (17, A.val (vint ((↑a0.Ops.length : Int)))), (16, A.val ((slr false 2 (rS_Op false)) (a0.Ops))), (6, A.val (V.bool s.2.1)), (5, A.val (V.bool s.2.2.1)), (2, A.val ((rP true (rS_Algebra false)) (a0))), (1, A.ref ((66 : Nat) + ((0 : Nat) + (1 : Nat))) []), (67, A.val ((slr true 1 vint) s.2.2.2))]
def T_impl_closePartition_l1 (a0 : SAlgebra) (x18 : Int) (x10 : Int) (x9 : Int) : (Bool × Bool × (List Int)) → Tgt
  | s => ((Ex.exit 6), [10, 9, 8, 18, 17, 16, 6, 5, 2, 1, 67], [(10, A.val (vint (x10))), (9, A.val (vint (x9))), (8, A.val ((rP true (rS_Op false)) (nth a0.Ops x18.toNat))), (18, A.val (vint (x18))), (17, A.val (vint ((↑a0.Ops.length : Int)))), (16, A.val ((slr false 2 (rS_Op false)) (a0.Ops))), (6, A.val (V.bool s.1)), (5, A.val (V.bool s.2.1)), (2, A.val ((rP true (rS_Algebra false)) (a0))), (1, A.ref ((66 : Nat) + ((0 : Nat) + (1 : Nat))) []), (67, A.val ((slr true 1 vint) s.2.2))])
theorem b_impl_closePartition_l1 {a0 : SAlgebra} {x18 : Int} {x10 : Int} {x9 : Int} (s : (Int × Bool × Bool × (List Int))) (o : (Int × Bool × Bool × (List Int)) ⊕ (Bool × Bool × (List Int))) (h : F_impl_closePartition_l1 a0 x18 x10 x9 s = some o) : vc Try.prog c_impl_closePartition_l1 (outQ [31, 30, 29, 10, 9, 8, 18, 17, 16, 6, 5, 2, 1, 67] (S_impl_closePartition_l1 a0 x18 x10 x9) (T_impl_closePartition_l1 a0 x18 x10 x9) o) (S_impl_closePartition_l1 a0 x18 x10 x9 s) := by
  obtain ⟨x31, x6''', x5''', x67'''⟩ := s
  unfold F_impl_closePartition_l1 at h
  try dsimp only at h
  conv => whnf
  refine Br.od h (fun p5 h => ?_) (fun p5 h => ?_)
  · conv => whnf
    refine Len.map ?_
    conv => whnf
    refine Ask.o h fun p6 h => ?_
    conv => whnf
    refine Elem.o (by first | omega | (simp only [mulN] at *; omega) | (simp [mulN] at *; omega)) ?_
    conv => whnf
    refine Ask.o h fun p7 h => ?_
    conv => whnf
    refine Cells.lit rfl rfl ?_
    conv => whnf
    refine Ask.o h fun p8 h => ?_
    conv => whnf
    refine Cells.lit rfl rfl ?_
    conv => whnf
    refine Len.map ?_
    conv => whnf
    refine Ask.o h fun p9 h => ?_
    conv => whnf
    refine Cells.one (fun _ => ⟨rfl, rfl⟩) (by first | omega | (simp only [mulN] at *; omega) | (simp [mulN] at *; omega)) ?_
    conv => whnf
    refine Ask.o h fun p10 h => ?_
    conv => whnf
    refine Ask.o h fun p11 h => ?_
    conv => whnf
    refine Ask.o h fun p12 h => ?_
    conv => whnf
    refine Len.map ?_
    conv => whnf
    refine Ask.o h fun p13 h => ?_
    conv => whnf
    refine Elem.o (by first | omega | (simp only [mulN] at *; omega) | (simp [mulN] at *; omega)) ?_
    conv => whnf
    refine CallQ.io V.bool (slr true 1 vint) (by first | rfl | simp only [mulN_one, V.fz, fzL, V.up, upL, fzL_map, fz_slr, fz_at, slr, List.cons_append, List.nil_append] | simp [mulN_one, V.fz, fzL, V.up, upL, fzL_map, fz_slr, fz_at, slr]) rfl (fun _ => rfl) (fun _ => ⟨rfl, rfl⟩) rfl h (fun r h => t_impl_unite h) (fun r14 u15 h => ?_)
    conv => whnf
    refine Br.ob h (fun p16 h => ?_) (fun p16 h => ?_)
    · conv => whnf
      refine Ask.o h fun p17 h => ?_
      conv => whnf
      cases h; exact ⟨rfl, rfl⟩
    · conv => whnf
      refine Ask.o h fun p18 h => ?_
      conv => whnf
      cases h; exact ⟨rfl, rfl⟩
  · conv => whnf
    cases h; exact ⟨rfl, rfl⟩

noncomputable def F_impl_closePartition_l2 (a0 : SAlgebra) (x18 : Int) : (Int × Int × Bool × Bool × (List Int)) → Option ((Int × Int × Bool × Bool × (List Int)) ⊕ (Bool × Bool × (List Int))) := fun (x10, x9, x6'', x5'', x67'') =>
   if x10 < (nth a0.Ops x18.toNat).Arity then
    (loopO (F_impl_closePartition_l1 a0 x18 x10 x9) ((0 : Int), x6'', x5'', x67'')).bind fun (q19_6, q19_5, q19_67) =>
    ask (InI (x9 * a0.Size)) <|
    ask (InI (x10 + (1 : Int))) <|
    some (.inl (x10 + (1 : Int), x9 * a0.Size, q19_6, q19_5, q19_67))
   else
    some (.inr (x6'', x5'', x67''))
def S_impl_closePartition_l2 (a0 : SAlgebra) (x18 : Int) : (Int × Int × Bool × Bool × (List Int)) → St := fun s => [(10, A.val (vint s.1)), (9, A.val (vint s.2.1)), (8, A.val ((rP true (rS_Op false)) (nth a0.Ops x18.toNat))), (18, A.val (vint (x18))), (17, A.val (vint ((↑a0.Ops.length : Int)))), (16, A.val ((slr false 2 (rS_Op false)) (a0.Ops))), (6, A.val (V.bool s.2.2.1)), (5, A.val (V.bool s.2.2.2.1)), (2, A.val ((rP true (rS_Algebra false)) (a0))), (1, A.ref ((66 : Nat) + ((0 : Nat) + (1 : Nat))) []), (67, A.val ((slr true 1 vint) s.2.2.2.2))]
def T_impl_closePartition_l2 (a0 : SAlgebra) (x18 : Int) : (Bool × Bool × (List Int)) → Tgt
  | s => ((Ex.exit 4), [18, 17, 16, 6, 5, 2, 1, 67], [(18, A.val (vint (x18))), (17, A.val (vint ((↑a0.Ops.length : Int)))), (16, A.val ((slr false 2 (rS_Op false)) (a0.Ops))), (6, A.val (V.bool s.1)), (5, A.val (V.bool s.2.1)), (2, A.val ((rP true (rS_Algebra false)) (a0))), (1, A.ref ((66 : Nat) + ((0 : Nat) + (1 : Nat))) []), (67, A.val ((slr true 1 vint) s.2.2))])
theorem b_impl_closePartition_l2 {a0 : SAlgebra} {x18 : Int} (s : (Int × Int × Bool × Bool × (List Int))) (o : (Int × Int × Bool × Bool × (List Int)) ⊕ (Bool × Bool × (List Int))) (h : F_impl_closePartition_l2 a0 x18 s = some o) : vc Try.prog c_impl_closePartition_l2 (outQ [10, 9, 8, 18, 17, 16, 6, 5, 2, 1, 67] (S_impl_closePartition_l2 a0 x18) (T_impl_closePartition_l2 a0 x18) o) (S_impl_closePartition_l2 a0 x18 s) := by
  obtain ⟨x10, x9, x6'', x5'', x67''⟩ := s
  unfold F_impl_closePartition_l2 at h
  try dsimp only at h
  conv => whnf
  refine Cells.lit rfl rfl ?_
  conv => whnf
  refine Br.od h (fun p4 h => ?_) (fun p4 h => ?_)
  · conv => whnf
    refine Cells.lit rfl rfl ?_
    conv => whnf
    refine Len.map ?_
    conv => whnf
    refine LoopQ.o [31, 30, 29, 10, 9, 8, 18, 17, 16, 6, 5, 2, 1, 67] (S_impl_closePartition_l1 a0 x18 x10 x9) (T_impl_closePartition_l1 a0 x18 x10 x9) h (fun s o h => b_impl_closePartition_l1 s o h) (by first | rfl | simp [restrict, look, mulN_one, V.fz, fzL, V.up, upL, fzL_map, fz_slr, fz_at, slr]) (fun _ => rfl) ?_
    rintro ⟨q19_6, q19_5, q19_67⟩ h
    try dsimp only at h
    conv => whnf
    refine Cells.lit rfl rfl ?_
    conv => whnf
    refine Ask.o h fun p20 h => ?_
    conv => whnf
    refine Ask.o h fun p21 h => ?_
    conv => whnf
    cases h; exact ⟨rfl, rfl⟩
  · conv => whnf
    cases h; exact ⟨rfl, rfl⟩

noncomputable def F_impl_closePartition_l3 (a0 : SAlgebra) : (Int × Bool × Bool × (List Int)) → Option ((Int × Bool × Bool × (List Int)) ⊕ (Bool × Bool × (List Int))) := fun (x18, x6', x5', x67') =>
   if x18 < (↑a0.Ops.length : Int) then
    ask ((0 : Int) ≤ x18 ∧ x18 < (↑a0.Ops.length : Int)) <|
    (loopO (F_impl_closePartition_l2 a0 x18) ((0 : Int), (1 : Int), x6', x5', x67')).bind fun (q22_6, q22_5, q22_67) =>
    ask (InI (x18 + (1 : Int))) <|
    some (.inl (x18 + (1 : Int), q22_6, q22_5, q22_67))
   else
    some (.inr (x6', x5', x67'))
def S_impl_closePartition_l3 (a0 : SAlgebra) : (Int × Bool × Bool × (List Int)) → St := fun s => [(18, A.val (vint s.1)), (17, A.val (vint ((↑a0.Ops.length : Int)))), (16, A.val ((slr false 2 (rS_Op false)) (a0.Ops))), (6, A.val (V.bool s.2.1)), (5, A.val (V.bool s.2.2.1)), (2, A.val ((rP true (rS_Algebra false)) (a0))), (1, A.ref ((66 : Nat) + ((0 : Nat) + (1 : Nat))) []), (67, A.val ((slr true 1 vint) s.2.2.2))]
def T_impl_closePartition_l3 (a0 : SAlgebra) : (Bool × Bool × (List Int)) → Tgt
  | s => ((Ex.exit 2), [6, 5, 2, 1, 67], [(6, A.val (V.bool s.1)), (5, A.val (V.bool s.2.1)), (2, A.val ((rP true (rS_Algebra false)) (a0))), (1, A.ref ((66 : Nat) + ((0 : Nat) + (1 : Nat))) []), (67, A.val ((slr true 1 vint) s.2.2))])
theorem b_impl_closePartition_l3 {a0 : SAlgebra} (s : (Int × Bool × Bool × (List Int))) (o : (Int × Bool × Bool × (List Int)) ⊕ (Bool × Bool × (List Int))) (h : F_impl_closePartition_l3 a0 s = some o) : vc Try.prog c_impl_closePartition_l3 (outQ [18, 17, 16, 6, 5, 2, 1, 67] (S_impl_closePartition_l3 a0) (T_impl_closePartition_l3 a0) o) (S_impl_closePartition_l3 a0 s) := by
  obtain ⟨x18, x6', x5', x67'⟩ := s
  unfold F_impl_closePartition_l3 at h
  try dsimp only at h
  conv => whnf
  refine Br.od h (fun p2 h => ?_) (fun p2 h => ?_)
  · conv => whnf
    refine Len.map ?_
    conv => whnf
    refine Ask.o h fun p3 h => ?_
    conv => whnf
    refine Elem.o (by first | omega | (simp only [mulN] at *; omega) | (simp [mulN] at *; omega)) ?_
    conv => whnf
    refine SetKids.lit rfl ?_
    conv => whnf
    refine LoopQ.o [10, 9, 8, 18, 17, 16, 6, 5, 2, 1, 67] (S_impl_closePartition_l2 a0 x18) (T_impl_closePartition_l2 a0 x18) h (fun s o h => b_impl_closePartition_l2 s o h) (by first | rfl | simp [restrict, look, mulN_one, V.fz, fzL, V.up, upL, fzL_map, fz_slr, fz_at, slr]) (fun _ => rfl) ?_
    rintro ⟨q22_6, q22_5, q22_67⟩ h
    try dsimp only at h
    conv => whnf
    refine Ask.o h fun p23 h => ?_
    conv => whnf
    cases h; exact ⟨rfl, rfl⟩
  · conv => whnf
    cases h; exact ⟨rfl, rfl⟩

noncomputable def F_impl_closePartition_l4 (a0 : SAlgebra) : (Bool × Bool × (List Int)) → Option ((Bool × Bool × (List Int)) ⊕ (Bool × (List Int))) := fun (x6, x5, x67) =>
   if (x6) = true then
    (loopO (F_impl_closePartition_l3 a0) ((0 : Int), false, x5, x67)).bind fun (q24_6, q24_5, q24_67) =>
    some (.inl (q24_6, q24_5, q24_67))
   else
    some (.inr (x5, x67))
def S_impl_closePartition_l4 (a0 : SAlgebra) : (Bool × Bool × (List Int)) → St := fun s => [(6, A.val (V.bool s.1)), (5, A.val (V.bool s.2.1)), (2, A.val ((rP true (rS_Algebra false)) (a0))), (1, A.ref ((66 : Nat) + ((0 : Nat) + (1 : Nat))) []), (67, A.val ((slr true 1 vint) s.2.2))]
def T_impl_closePartition_l4 (_a0 : SAlgebra) : (Bool × (List Int)) → Tgt
  | s => ((Ex.exit 0), [5, 67], [(5, A.val (V.bool s.1)), (67, A.val ((slr true 1 vint) s.2))])
theorem b_impl_closePartition_l4 {a0 : SAlgebra} (s : (Bool × Bool × (List Int))) (o : (Bool × Bool × (List Int)) ⊕ (Bool × (List Int))) (h : F_impl_closePartition_l4 a0 s = some o) : vc Try.prog c_impl_closePartition_l4 (outQ [6, 5, 2, 1, 67] (S_impl_closePartition_l4 a0) (T_impl_closePartition_l4 a0) o) (S_impl_closePartition_l4 a0 s) := by
  obtain ⟨x6, x5, x67⟩ := s
  unfold F_impl_closePartition_l4 at h
  try dsimp only at h
  conv => whnf
  refine Br.ob h (fun p1 h => ?_) (fun p1 h => ?_)
  · conv => whnf
    refine Cells.lit rfl rfl ?_
    conv => whnf
    refine Len.map ?_
    conv => whnf
    refine LoopQ.o [18, 17, 16, 6, 5, 2, 1, 67] (S_impl_closePartition_l3 a0) (T_impl_closePartition_l3 a0) h (fun s o h => b_impl_closePartition_l3 s o h) (by first | rfl | simp [restrict, look, mulN_one, V.fz, fzL, V.up, upL, fzL_map, fz_slr, fz_at, slr]) (fun _ => rfl) ?_
    rintro ⟨q24_6, q24_5, q24_67⟩ h
    try dsimp only at h
    conv => whnf
    cases h; exact ⟨rfl, rfl⟩
  · conv => whnf
    cases h; exact ⟨rfl, rfl⟩

noncomputable def F_impl_closePartition (a0 : SAlgebra) (p0 : (List Int)) : Option (Bool × (List Int)) :=
  (loopO (F_impl_closePartition_l4 a0) (true, false, p0)).bind fun (q25_5, q25_67) =>
  some (q25_5, q25_67)
theorem t_impl_closePartition {a0 : SAlgebra} {p0 : (List Int)} {v : (Bool × (List Int))} (h : F_impl_closePartition a0 p0 = some v) : RetO Try.prog f_impl_closePartition [(rS_Algebra false) a0, (slr true 1 vint) p0] (V.bool v.1) 1 ((slr true 1 vint) v.2) := by
  refine reto_vc k_impl_closePartition (Nat.le_of_ble_eq_true rfl) ?_
  unfold F_impl_closePartition at h
  conv => whnf
  refine LoopQ.o [6, 5, 2, 1, 67] (S_impl_closePartition_l4 a0) (T_impl_closePartition_l4 a0) h (fun s o h => b_impl_closePartition_l4 s o h) (by first | rfl | simp [restrict, look, mulN_one, V.fz, fzL, V.up, upL, fzL_map, fz_slr, fz_at, slr]) (fun _ => rfl) ?_
  rintro ⟨q25_5, q25_67⟩ h
  try dsimp only at h
  conv => whnf
  cases h; exact ⟨(by first | rfl | simp only [resV, mulN_one, V.fz, fzL, V.up, upL, fzL_map, fz_slr, fz_at, slr] | simp [resV, mulN_one, V.fz, fzL, V.up, upL, fzL_map, fz_slr, fz_at, slr]), (by first | rfl | simp only [resV, mulN_one, V.fz, fzL, V.up, upL, fzL_map, fz_slr, fz_at, slr] | simp [resV, mulN_one, V.fz, fzL, V.up, upL, fzL_map, fz_slr, fz_at, slr])⟩

noncomputable def F_spec_l6Unite_l1 (p0 : List Int) (r3 : Int) (r6 : Int) : (Int × (List Int)) → Option ((Int × (List Int)) ⊕ (List Int)) := fun (x10, x9) =>
   if x10 < (↑p0.length : Int) then
    ask ((0 : Int) ≤ x10 ∧ x10 < (↑p0.length : Int)) <|
    if nth p0 x10.toNat = r6 then
     ask ((x9).length + ([r3]).length ≤ LIM) <|
     ask (InI (x10 + (1 : Int))) <|
     some (.inl (x10 + (1 : Int), x9 ++ [r3]))
    else
     ask ((0 : Int) ≤ x10 ∧ x10 < (↑p0.length : Int)) <|
     ask ((x9).length + ([nth p0 x10.toNat]).length ≤ LIM) <|
     ask (InI (x10 + (1 : Int))) <|
     some (.inl (x10 + (1 : Int), x9 ++ [nth p0 x10.toNat]))
   else
    some (.inr x9)
def S_spec_l6Unite_l1 (p0 : List Int) (r3 : Int) (r6 : Int) : (Int × (List Int)) → St := fun s => [(10, A.val (vint s.1)), (9, A.val ((slr true 1 vint) s.2)), (8, A.val (vint (r6))), (7, A.val (vint (r3))), (0, A.val ((slr false 1 vint) (p0)))]
def T_spec_l6Unite_l1 (_p0 : List Int) (_r3 : Int) (_r6 : Int) : (List Int) → Tgt
  | s => ((Ex.exit 0), [9], [(9, A.val ((slr true 1 vint) s))])
theorem b_spec_l6Unite_l1 {p0 : List Int} {r3 : Int} {r6 : Int} (s : (Int × (List Int))) (o : (Int × (List Int)) ⊕ (List Int)) (h : F_spec_l6Unite_l1 p0 r3 r6 s = some o) : vc Try.prog c_spec_l6Unite_l1 (outQ [10, 9, 8, 7, 0] (S_spec_l6Unite_l1 p0 r3 r6) (T_spec_l6Unite_l1 p0 r3 r6) o) (S_spec_l6Unite_l1 p0 r3 r6 s) := by
  obtain ⟨x10, x9⟩ := s
  unfold F_spec_l6Unite_l1 at h
  try dsimp only at h
  conv => whnf
  refine Len.map ?_
  conv => whnf
  refine Br.od h (fun p7 h => ?_) (fun p7 h => ?_)
  · conv => whnf
    refine Len.map ?_
    conv => whnf
    refine Ask.o h fun p8 h => ?_
    conv => whnf
    refine Elem.o (by first | omega | (simp only [mulN] at *; omega) | (simp [mulN] at *; omega)) ?_
    conv => whnf
    refine Br.oe h (fun p9 h => ?_) (fun p9 h => ?_)
    · conv => whnf
      refine BslQ.o vint [r3] (by exact fun _ => ⟨rfl, rfl⟩) (by first | rfl | simp only [mulN_one, V.fz, fzL, V.up, upL, fzL_map, fz_slr, fz_at, slr, List.cons_append, List.nil_append] | simp [mulN_one, V.fz, fzL, V.up, upL, fzL_map, fz_slr, fz_at, slr]) ?_
      conv => whnf
      refine NoOwn.o (fun _ => rfl) ?_
      conv => whnf
      refine AppQ.o (m := 1) vint (by exact fun _ => ⟨rfl, rfl⟩) (x9) ([r3]) (by first | rfl | simp only [mulN_one, V.fz, fzL, V.up, upL, fzL_map, fz_slr, fz_at, slr, List.cons_append, List.nil_append] | simp [mulN_one, V.fz, fzL, V.up, upL, fzL_map, fz_slr, fz_at, slr]) (by first | rfl | simp only [mulN_one, V.fz, fzL, V.up, upL, fzL_map, fz_slr, fz_at, slr, List.cons_append, List.nil_append] | simp [mulN_one, V.fz, fzL, V.up, upL, fzL_map, fz_slr, fz_at, slr]) h fun h => ?_
      conv => whnf
      refine Ask.o h fun p10 h => ?_
      conv => whnf
      cases h; exact ⟨rfl, rfl⟩
    · conv => whnf
      refine Len.map ?_
      conv => whnf
      refine Ask.o h fun p11 h => ?_
      conv => whnf
      refine Elem.o (by first | omega | (simp only [mulN] at *; omega) | (simp [mulN] at *; omega)) ?_
      conv => whnf
      refine BslQ.o vint ([nth p0 x10.toNat]) (by exact fun _ => ⟨rfl, rfl⟩) (by first | rfl | simp only [mulN_one, V.fz, fzL, V.up, upL, fzL_map, fz_slr, fz_at, slr, List.cons_append, List.nil_append] | simp [mulN_one, V.fz, fzL, V.up, upL, fzL_map, fz_slr, fz_at, slr]) ?_
      conv => whnf
      refine NoOwn.o (fun _ => rfl) ?_
      conv => whnf
      refine AppQ.o (m := 1) vint (by exact fun _ => ⟨rfl, rfl⟩) (x9) ([nth p0 x10.toNat]) (by first | rfl | simp only [mulN_one, V.fz, fzL, V.up, upL, fzL_map, fz_slr, fz_at, slr, List.cons_append, List.nil_append] | simp [mulN_one, V.fz, fzL, V.up, upL, fzL_map, fz_slr, fz_at, slr]) (by first | rfl | simp only [mulN_one, V.fz, fzL, V.up, upL, fzL_map, fz_slr, fz_at, slr, List.cons_append, List.nil_append] | simp [mulN_one, V.fz, fzL, V.up, upL, fzL_map, fz_slr, fz_at, slr]) h fun h => ?_
      conv => whnf
      refine Ask.o h fun p12 h => ?_
      conv => whnf
      cases h; exact ⟨rfl, rfl⟩
  · conv => whnf
    cases h; exact ⟨rfl, rfl⟩

noncomputable def F_spec_l6Unite (p0 : (List Int)) (x0 : Int) (y0 : Int) : Option (List Int) :=
  ask ((0 : Int) ≤ x0 ∧ x0 < (↑p0.length : Int)) <|
  ask ((0 : Int) ≤ y0 ∧ y0 < (↑p0.length : Int)) <|
  (F_spec_l1Least (nth p0 x0.toNat) (nth p0 y0.toNat)).bind fun r3 =>
  ask ((0 : Int) ≤ x0 ∧ x0 < (↑p0.length : Int)) <|
  ask ((0 : Int) ≤ y0 ∧ y0 < (↑p0.length : Int)) <|
  (F_spec_l1Most (nth p0 x0.toNat) (nth p0 y0.toNat)).bind fun r6 =>
  (loopO (F_spec_l6Unite_l1 p0 r3 r6) ((0 : Int), nilL Int)).bind fun q13_9 =>
  some q13_9
theorem t_spec_l6Unite {p0 : (List Int)} {x0 : Int} {y0 : Int} {v : (List Int)} (h : F_spec_l6Unite p0 x0 y0 = some v) : Ret Try.prog f_spec_l6Unite [(slr false 1 vint) p0, vint x0, vint y0] ((slr true 1 vint) v) := by
  refine ret_vc k_spec_l6Unite (Nat.le_of_ble_eq_true rfl) ?_
  unfold F_spec_l6Unite at h
  conv => whnf
  refine Len.map ?_
  conv => whnf
  refine Ask.o h fun p1 h => ?_
  conv => whnf
  refine Elem.o (by first | omega | (simp only [mulN] at *; omega) | (simp [mulN] at *; omega)) ?_
  conv => whnf
  refine Len.map ?_
  conv => whnf
  refine Ask.o h fun p2 h => ?_
  conv => whnf
  refine Elem.o (by first | omega | (simp only [mulN] at *; omega) | (simp [mulN] at *; omega)) ?_
  conv => whnf
  refine CallP.o vint (by first | rfl | simp only [mulN_one, V.fz, fzL, V.up, upL, fzL_map, fz_slr, fz_at, slr, List.cons_append, List.nil_append] | simp [mulN_one, V.fz, fzL, V.up, upL, fzL_map, fz_slr, fz_at, slr]) h (fun r h => t_spec_l1Least h) (fun r3 h => ?_)
  conv => whnf
  refine Len.map ?_
  conv => whnf
  refine Ask.o h fun p4 h => ?_
  conv => whnf
  refine Elem.o (by first | omega | (simp only [mulN] at *; omega) | (simp [mulN] at *; omega)) ?_
  conv => whnf
  refine Len.map ?_
  conv => whnf
  refine Ask.o h fun p5 h => ?_
  conv => whnf
  refine Elem.o (by first | omega | (simp only [mulN] at *; omega) | (simp [mulN] at *; omega)) ?_
  conv => whnf
  refine CallQ.o vint (by first | rfl | simp only [mulN_one, V.fz, fzL, V.up, upL, fzL_map, fz_slr, fz_at, slr, List.cons_append, List.nil_append] | simp [mulN_one, V.fz, fzL, V.up, upL, fzL_map, fz_slr, fz_at, slr]) h (fun r h => t_spec_l1Most h) (fun r6 h => ?_)
  conv => whnf
  refine BslQ.o vint (nilL Int) (by exact fun _ => ⟨rfl, rfl⟩) (by first | rfl | simp only [mulN_one, V.fz, fzL, V.up, upL, fzL_map, fz_slr, fz_at, slr, List.cons_append, List.nil_append] | simp [mulN_one, V.fz, fzL, V.up, upL, fzL_map, fz_slr, fz_at, slr]) ?_
  conv => whnf
  refine LoopQ.o [10, 9, 8, 7, 0] (S_spec_l6Unite_l1 p0 r3 r6) (T_spec_l6Unite_l1 p0 r3 r6) h (fun s o h => b_spec_l6Unite_l1 s o h) (by first | rfl | simp [restrict, look, mulN_one, V.fz, fzL, V.up, upL, fzL_map, fz_slr, fz_at, slr]) (fun _ => rfl) ?_
  rintro q13_9 h
  try dsimp only at h
  conv => whnf
  cases h; exact (by first | rfl | simp only [resV, mulN_one, V.fz, fzL, V.up, upL, fzL_map, fz_slr, fz_at, slr] | simp [resV, mulN_one, V.fz, fzL, V.up, upL, fzL_map, fz_slr, fz_at, slr])

noncomputable def F_laws_szOpS_l1 (a0 : List SOp) : (Int × Int) → Option ((Int × Int) ⊕ (Unit ⊕ Int)) := fun (x5, x1) =>
   if x5 < (↑a0.length : Int) then
    ask ((0 : Int) ≤ x5 ∧ x5 < (↑a0.length : Int)) <|
    (F_laws_szOp (nth a0 x5.toNat) (x1)).bind fun r5 =>
    if r5 < (0 : Int) then
     some (.inr (.inl ()))
    else
     ask (InI (x5 + (1 : Int))) <|
     some (.inl (x5 + (1 : Int), r5))
   else
    some (.inr (.inr x1))
def S_laws_szOpS_l1 (a0 : List SOp) : (Int × Int) → St := fun s => [(5, A.val (vint s.1)), (1, A.val (vint s.2)), (0, A.val ((slr false 2 (rS_Op false)) (a0)))]
def T_laws_szOpS_l1 (_a0 : List SOp) : (Unit ⊕ Int) → Tgt
  | (.inl _s) => (Ex.ret, [4], [(4, A.val (vint ((-1 : Int))))])
  | (.inr s) => ((Ex.exit 0), [1], [(1, A.val (vint s))])
theorem b_laws_szOpS_l1 {a0 : List SOp} (s : (Int × Int)) (o : (Int × Int) ⊕ (Unit ⊕ Int)) (h : F_laws_szOpS_l1 a0 s = some o) : vc Try.prog c_laws_szOpS_l1 (outQ [5, 1, 0] (S_laws_szOpS_l1 a0) (T_laws_szOpS_l1 a0) o) (S_laws_szOpS_l1 a0 s) := by
  obtain ⟨x5, x1⟩ := s
  unfold F_laws_szOpS_l1 at h
  try dsimp only at h
  conv => whnf
  refine Len.map ?_
  conv => whnf
  refine Br.od h (fun p3 h => ?_) (fun p3 h => ?_)
  · conv => whnf
    refine Len.map ?_
    conv => whnf
    refine Ask.o h fun p4 h => ?_
    conv => whnf
    refine Elem.o (by first | omega | (simp only [mulN] at *; omega) | (simp [mulN] at *; omega)) ?_
    conv => whnf
    refine CallQ.o vint (by first | rfl | simp only [mulN_one, V.fz, fzL, V.up, upL, fzL_map, fz_slr, fz_at, slr, List.cons_append, List.nil_append] | simp [mulN_one, V.fz, fzL, V.up, upL, fzL_map, fz_slr, fz_at, slr]) h (fun r h => t_laws_szOp h) (fun r5 h => ?_)
    conv => whnf
    refine Br.od h (fun p6 h => ?_) (fun p6 h => ?_)
    · conv => whnf
      cases h; exact ⟨rfl, rfl⟩
    · conv => whnf
      refine Ask.o h fun p7 h => ?_
      conv => whnf
      cases h; exact ⟨rfl, rfl⟩
  · conv => whnf
    cases h; exact ⟨rfl, rfl⟩

noncomputable def F_laws_szOpS (a0 : (List SOp)) (left0 : Int) : Option Int :=
  ask (InI (left0 - (↑a0.length : Int))) <|
  if left0 - (↑a0.length : Int) < (0 : Int) then
   some (-1 : Int)
  else
   (loopO (F_laws_szOpS_l1 a0) ((0 : Int), left0 - (↑a0.length : Int))).bind fun t => match t with
   | (.inl _) => (some (-1 : Int))
   | (.inr q8_1) => (some q8_1)
theorem t_laws_szOpS {a0 : (List SOp)} {left0 : Int} {v : Int} (h : F_laws_szOpS a0 left0 = some v) : Ret Try.prog f_laws_szOpS [(slr false 2 (rS_Op false)) a0, vint left0] (vint v) := by
  refine ret_vc k_laws_szOpS (Nat.le_of_ble_eq_true rfl) ?_
  unfold F_laws_szOpS at h
  conv => whnf
  refine Len.map ?_
  conv => whnf
  refine Ask.o h fun p1 h => ?_
  conv => whnf
  refine Br.od h (fun p2 h => ?_) (fun p2 h => ?_)
  · conv => whnf
    cases h; exact (by first | rfl | simp only [resV, mulN_one, V.fz, fzL, V.up, upL, fzL_map, fz_slr, fz_at, slr] | simp [resV, mulN_one, V.fz, fzL, V.up, upL, fzL_map, fz_slr, fz_at, slr])
  · conv => whnf
    refine LoopQ.o [5, 1, 0] (S_laws_szOpS_l1 a0) (T_laws_szOpS_l1 a0) h (fun s o h => b_laws_szOpS_l1 s o h) (by first | rfl | simp [restrict, look, mulN_one, V.fz, fzL, V.up, upL, fzL_map, fz_slr, fz_at, slr]) (by rintro (_ | _) <;> rfl) ?_
    rintro (⟨⟩ | q8_1) h
    · try dsimp only at h
      conv => whnf
      cases h; exact (by first | rfl | simp only [resV, mulN_one, V.fz, fzL, V.up, upL, fzL_map, fz_slr, fz_at, slr] | simp [resV, mulN_one, V.fz, fzL, V.up, upL, fzL_map, fz_slr, fz_at, slr])
    · try dsimp only at h
      conv => whnf
      cases h; exact (by first | rfl | simp only [resV, mulN_one, V.fz, fzL, V.up, upL, fzL_map, fz_slr, fz_at, slr] | simp [resV, mulN_one, V.fz, fzL, V.up, upL, fzL_map, fz_slr, fz_at, slr])

end Go.Proofs.Ytdodfnbbfkcgnaa.Ax
