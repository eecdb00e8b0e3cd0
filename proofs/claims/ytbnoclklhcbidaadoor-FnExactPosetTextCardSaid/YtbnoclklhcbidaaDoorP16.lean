/-
  Lists of pairs; all pairs of which one is directly above the other.
-/
import Derived.Test.YtbnoclklhcbidaaDoorP15
namespace Go.Proofs.YtbnoclklhcbidaaDoor.Ax
open Go Classical

/-- pairs of marks -/
def prFrom (k : Int) (n : Nat) : List (Int × Int) := (List.range n).map fun i : Nat => (k + 2 * i, k + 2 * i + 1)
theorem prFrom_len (k : Int) (n : Nat) : (prFrom k n).length = n := by simp [prFrom]
theorem nth_prFrom {k : Int} {n i : Nat} (h : i < n) : nth (prFrom k n) i = (k + 2 * i, k + 2 * i + 1) := by
  unfold prFrom; rw [nth_map' _ (by simpa using h), nth_range h]
/-- the pairs with one element below -/
noncomputable def prRow (n : Nat) (f : Nat → Nat → Bool) (x : Nat) (acc : List (Int × Int)) : Nat → List (Int × Int)
  | 0 => acc
  | y + 1 => if cov n f x y then prRow n f x acc y ++ [((x : Int), (y : Int))] else prRow n f x acc y
noncomputable def prAll (n : Nat) (f : Nat → Nat → Bool) : Nat → List (Int × Int)
  | 0 => []
  | x + 1 => prRow n f x (prAll n f x) n
theorem prRow_len (n : Nat) (f : Nat → Nat → Bool) (x : Nat) (acc : List (Int × Int)) : ∀ y, (prRow n f x acc y).length ≤ acc.length + y := by
  intro y
  induction y with
  | zero => simp [prRow]
  | succ y ih =>
    simp only [prRow]
    split
    · simp; omega
    · omega
theorem prAll_len (n : Nat) (f : Nat → Nat → Bool) : ∀ x, (prAll n f x).length ≤ x * n := by
  intro x
  induction x with
  | zero => simp [prAll]
  | succ x ih =>
    have := prRow_len n f x (prAll n f x) n
    simp only [prAll]
    rw [Nat.succ_mul]; omega
section
variable {p : SPoset}
theorem F_specPairs (hs : small p) (h10 : p.Below.length ≤ 10) : F_spec_l23Pairs p = some (prAll p.Below.length (below p.Below) p.Below.length) := by
  unfold F_spec_l23Pairs
  have hrow : ∀ x, x < p.Below.length → loopO (F_spec_l23Pairs_l1 p (x : Int)) (0, prAll p.Below.length (below p.Below) x) = some (prAll p.Below.length (below p.Below) (x + 1)) := by
    intro x hx
    have hal := prAll_len p.Below.length (below p.Below) x
    have hm : x * p.Below.length ≤ 10 * 10 := Nat.mul_le_mul (by omega) h10
    refine loop_seq (body := F_spec_l23Pairs_l1 p (x : Int)) (fun y => ((y : Int), prRow p.Below.length (below p.Below) x (prAll p.Below.length (below p.Below) x) y)) p.Below.length _ (fun y hy => ?_) ?_
    · unfold F_spec_l23Pairs_l1
      dsimp only
      have hl := prRow_len p.Below.length (below p.Below) x (prAll p.Below.length (below p.Below) x) y
      rw [if_pos (by omega), F_specCovers hs x y hx hy]
      simp only [Option.bind_some, prRow]
      by_cases hq : cov p.Below.length (below p.Below) x y = true
      · rw [if_pos hq, if_pos hq, ask_pos (by rw [lim_def]; simp; omega), ask_pos (by unfold InI; omega)]; rfl
      · rw [if_neg hq, if_neg hq, ask_pos (by unfold InI; omega)]; rfl
    · unfold F_spec_l23Pairs_l1
      dsimp only
      rw [if_neg (by omega)]; rfl
  have key : loopO (F_spec_l23Pairs_l2 p) (((0 : Nat) : Int), prAll p.Below.length (below p.Below) 0) = some (prAll p.Below.length (below p.Below) p.Below.length) := loop_seq (body := F_spec_l23Pairs_l2 p) (fun x => ((x : Int), prAll p.Below.length (below p.Below) x)) p.Below.length _ (fun x hx => by
    unfold F_spec_l23Pairs_l2
    dsimp only
    rw [if_pos (by omega), hrow x hx]
    simp only [Option.bind_some]
    rw [ask_pos (by unfold InI; omega)]; rfl) (by
    unfold F_spec_l23Pairs_l2
    dsimp only
    rw [if_neg (by omega)])
  have e0 : ((0 : Int), nilL (Int × Int)) = (((0 : Nat) : Int), prAll p.Below.length (below p.Below) 0) := rfl
  rw [e0, key]; rfl
theorem F_coverPairs {n : Nat} {f : Nat → Nat → Bool} (h10 : n ≤ 10) : F_impl_order_coverPairs (tab n f) = some (prAll n f n) := by
  unfold F_impl_order_coverPairs
  have htl := tab_len n f
  have hL : n ≤ LIM := by rw [lim_def]; omega
  have hrow : ∀ x, x < n → loopO (F_impl_order_coverPairs_l1 (tab n f) (x : Int)) (0, prAll n f x) = some (prAll n f (x + 1)) := by
    intro x hx
    have hal := prAll_len n f x
    have hm : x * n ≤ 10 * 10 := Nat.mul_le_mul (by omega) h10
    refine loop_seq (body := F_impl_order_coverPairs_l1 (tab n f) (x : Int)) (fun y => ((y : Int), prRow n f x (prAll n f x) y)) n _ (fun y hy => ?_) ?_
    · unfold F_impl_order_coverPairs_l1
      dsimp only
      have hl := prRow_len n f x (prAll n f x) y
      rw [if_pos (by omega), F_covers hL x y hx hy]
      simp only [Option.bind_some, prRow]
      by_cases hq : cov n f x y = true
      · rw [if_pos hq, if_pos hq, ask_pos (by rw [lim_def]; simp; omega), ask_pos (by unfold InI; omega)]; rfl
      · rw [if_neg hq, if_neg hq, ask_pos (by unfold InI; omega)]; rfl
    · unfold F_impl_order_coverPairs_l1
      dsimp only
      rw [if_neg (by omega)]; rfl
  have key : loopO (F_impl_order_coverPairs_l2 (tab n f)) (((0 : Nat) : Int), prAll n f 0) = some (prAll n f n) := loop_seq (body := F_impl_order_coverPairs_l2 (tab n f)) (fun x => ((x : Int), prAll n f x)) n _ (fun x hx => by
    unfold F_impl_order_coverPairs_l2
    dsimp only
    rw [if_pos (by omega), hrow x hx]
    simp only [Option.bind_some]
    rw [ask_pos (by unfold InI; omega)]; rfl) (by
    unfold F_impl_order_coverPairs_l2
    dsimp only
    rw [if_neg (by omega)])
  have e0 : ((0 : Int), nilL (Int × Int)) = (((0 : Nat) : Int), prAll n f 0) := rfl
  rw [e0, key]; rfl
end

end Go.Proofs.YtbnoclklhcbidaaDoor.Ax
