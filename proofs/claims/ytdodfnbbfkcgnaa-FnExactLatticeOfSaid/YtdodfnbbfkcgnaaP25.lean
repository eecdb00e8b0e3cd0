/-
  GenerateSublattice and LatticeAlgebra: what the program and the reference compute.
-/
import Derived.Test.YtdodfnbbfkcgnaaP24
namespace Go.Proofs.Ytdodfnbbfkcgnaa.Ax
open Go Classical

section
variable {p : SPoset}
/-- the rows of a table one behind the other -/
noncomputable def flatR (n : Nat) (f : Nat → Nat → Bool) (i : Nat) : List Int := (List.range i).flatMap fun x => mrow n f x n
theorem flatR_succ (n : Nat) (f : Nat → Nat → Bool) (i : Nat) : flatR n f (i + 1) = flatR n f i ++ mrow n f i n := by simp [flatR, List.range_succ]
theorem flatR_len (n : Nat) (f : Nat → Nat → Bool) (i : Nat) : (flatR n f i).length = i * n := by
  induction i with
  | zero => simp [flatR]
  | succ i ih => rw [flatR_succ, List.length_append, ih, mrow_len, Nat.succ_mul]
theorem F_flatOp {n : Nat} (hn : n ≤ 10) (f : Nat → Nat → Bool) : F_impl_flatOp (mtab n f) = some ⟨2, flatR n f n⟩ := by
  unfold F_impl_flatOp
  have hml := mtab_len (n := n) (f := f)
  have key := loop_seq (body := F_impl_flatOp_l1 (mtab n f)) (fun i => ((i : Int), (⟨2, flatR n f i⟩ : SOp))) n ⟨2, flatR n f n⟩ (fun i hi => by
    unfold F_impl_flatOp_l1
    dsimp only
    have hl := flatR_len n f i
    have hb : i * n ≤ 10 * 10 := Nat.mul_le_mul (by omega) hn
    have hr : (nth (mtab n f) i).length = n := by rw [mtab_row hi, mrow_len]
    rw [if_pos (by omega), ask_pos (by omega), Int.toNat_natCast, ask_pos (by rw [lim_def]; omega), ask_pos (by unfold InI; omega), flatR_succ, mtab_row hi]
    rfl) (by
    unfold F_impl_flatOp_l1
    dsimp only
    rw [if_neg (by omega)])
  have e0 : flatR n f 0 = nilL Int := rfl
  simp only [e0] at key
  have key' : loopO (F_impl_flatOp_l1 (mtab n f)) (0, { Arity := 2, Table := nilL Int }) = _ := key
  rw [key']; rfl

/-- the algebra of a lattice -/
noncomputable def algOf (p : SPoset) : SAlgebra := ⟨(p.Below.length : Int), [⟨2, flatR p.Below.length (below p.Below) p.Below.length⟩, ⟨2, flatR p.Below.length (opp (below p.Below)) p.Below.length⟩]⟩
theorem F_lattice_algebra (h : isLat p) : F_impl_lattice_algebra (latOf p) = some (algOf p) := by
  have h10 : p.Below.length ≤ 10 := h.1.1
  have htl := tab_len p.Below.length (below p.Below)
  have hlm : (latOf p).meets = mtab p.Below.length (below p.Below) := rfl
  have hlj : (latOf p).joins = mtab p.Below.length (opp (below p.Below)) := rfl
  unfold F_impl_lattice_algebra
  rw [hlm, hlj, F_flatOp h10, F_flatOp h10, latOf_order, htl]
  rfl
theorem F_l24Algebra (hs : small p) (h : isLat p) : F_spec_l24Algebra p = some (algOf p) := by
  have hg := h.1
  have h10 : p.Below.length ≤ 10 := hg.1
  unfold F_spec_l24Algebra
  rw [F_l23Dual hs]
  simp only [Option.bind_some]
  have inner : ∀ x, x < p.Below.length → loopO (F_spec_l24Algebra_l1 p (dualP p) (x : Int)) (0, (⟨2, flatR p.Below.length (opp (below p.Below)) x⟩ : SOp), (⟨2, flatR p.Below.length (below p.Below) x⟩ : SOp)) =
      some ((⟨2, flatR p.Below.length (opp (below p.Below)) (x + 1)⟩ : SOp), (⟨2, flatR p.Below.length (below p.Below) (x + 1)⟩ : SOp)) := by
    intro x hx
    have key := loop_seq (body := F_spec_l24Algebra_l1 p (dualP p) (x : Int)) (fun y => ((y : Int), (⟨2, flatR p.Below.length (opp (below p.Below)) x ++ mrow p.Below.length (opp (below p.Below)) x y⟩ : SOp), (⟨2, flatR p.Below.length (below p.Below) x ++ mrow p.Below.length (below p.Below) x y⟩ : SOp))) p.Below.length
      ((⟨2, flatR p.Below.length (opp (below p.Below)) (x + 1)⟩ : SOp), (⟨2, flatR p.Below.length (below p.Below) (x + 1)⟩ : SOp)) (fun y hy => by
      unfold F_spec_l24Algebra_l1
      dsimp only
      have l1 := flatR_len p.Below.length (below p.Below) x
      have l2 := flatR_len p.Below.length (opp (below p.Below)) x
      have m1 := mrow_len (n := p.Below.length) (f := below p.Below) x y
      have m2 := mrow_len (n := p.Below.length) (f := opp (below p.Below)) x y
      have hb : x * p.Below.length ≤ 10 * 10 := Nat.mul_le_mul (by omega) h10
      rw [if_pos (by omega), F_l24Two hs hg hx hy]
      simp only [Option.bind_some]
      rw [ask_pos (by rw [lim_def, List.length_append]; simp only [List.length_cons, List.length_nil]; omega), F_l24TwoD hs hg hx hy]
      simp only [Option.bind_some]
      rw [ask_pos (by rw [lim_def, List.length_append]; simp only [List.length_cons, List.length_nil]; omega), ask_pos (by unfold InI; omega), mrow_succ, mrow_succ, List.append_assoc, List.append_assoc]
      rfl) (by
      unfold F_spec_l24Algebra_l1
      dsimp only
      rw [if_neg (by omega), flatR_succ, flatR_succ])
    have e0 : ∀ f, mrow p.Below.length f x 0 = [] := fun f => rfl
    simp only [e0, List.append_nil] at key
    exact key
  have key := loop_seq (body := F_spec_l24Algebra_l2 p (dualP p)) (fun x => ((x : Int), (⟨2, flatR p.Below.length (opp (below p.Below)) x⟩ : SOp), (⟨2, flatR p.Below.length (below p.Below) x⟩ : SOp))) p.Below.length
    ((⟨2, flatR p.Below.length (opp (below p.Below)) p.Below.length⟩ : SOp), (⟨2, flatR p.Below.length (below p.Below) p.Below.length⟩ : SOp)) (fun x hx => by
    unfold F_spec_l24Algebra_l2
    dsimp only
    rw [if_pos (by omega), inner x hx]
    simp only [Option.bind_some]
    rw [ask_pos (by unfold InI; omega)]; rfl) (by
    unfold F_spec_l24Algebra_l2
    dsimp only
    rw [if_neg (by omega)])
  have e0 : ∀ f, flatR p.Below.length f 0 = nilL Int := fun f => rfl
  simp only [e0] at key
  have key' : loopO (F_spec_l24Algebra_l2 p (dualP p)) (0, { Arity := 2, Table := nilL Int }, { Arity := 2, Table := nilL Int }) = _ := key
  rw [key']; rfl
theorem algOf_small (h : isLat p) : smallA (algOf p) := by
  have h10 : p.Below.length ≤ 10 := h.1.1
  have hb : p.Below.length * p.Below.length ≤ 10 * 10 := Nat.mul_le_mul h10 h10
  refine ⟨by simp [algOf], fun f hf => ?_⟩
  simp only [algOf, List.mem_cons, List.not_mem_nil, or_false] at hf
  rcases hf with rfl | rfl
  · dsimp only; rw [flatR_len]; omega
  · dsimp only; rw [flatR_len]; omega
theorem noAlg_small : smallA ⟨0, []⟩ := ⟨by simp, fun f hf => by cases hf⟩
end

end Go.Proofs.Ytdodfnbbfkcgnaa.Ax
