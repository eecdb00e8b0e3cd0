/-
  Lists of pairs; all pairs of which one is directly above the other.
-/
import Derived.Test.YtgjmaofgokgdiaaP15
namespace Go.Proofs.Ytgjmaofgokgdiaa.Ax
open Go Classical

/-- pairs of marks -/
def prFrom (k : Int) (n : Nat) : List (Int × Int) := (List.range n).map fun i : Nat => (k + 2 * i, k + 2 * i + 1)
theorem prFrom_len (k : Int) (n : Nat) : (prFrom k n).length = n := by simp [prFrom]
theorem nth_prFrom {k : Int} {n i : Nat} (h : i < n) : nth (prFrom k n) i = (k + 2 * i, k + 2 * i + 1) := by
  unfold prFrom; rw [nth_map' _ (by simpa using h), nth_range h]
/-- the pairs with one element below -/
noncomputable def prRow (n : Nat) (f : Nat → Nat → Bool) (x : Nat) (acc : List (Int × Int)) : Nat → List (Int × Int)
  | 0 => acc
  | y + 1 => if cov n f x y then prRow n f x acc y ++ [((x : Int), (y : Int))] else prRow n f x acc y
noncomputable def prAll (n : Nat) (f : Nat → Nat → Bool) : Nat → List (Int × Int)
  | 0 => []
  | x + 1 => prRow n f x (prAll n f x) n
theorem prRow_len (n : Nat) (f : Nat → Nat → Bool) (x : Nat) (acc : List (Int × Int)) : ∀ y, (prRow n f x acc y).length ≤ acc.length + y := by
  intro y
  induction y with
  | zero => simp [prRow]
  | succ y ih =>
    simp only [prRow]
    split
    · simp; omega
    · omega
theorem prAll_len (n : Nat) (f : Nat → Nat → Bool) : ∀ x, (prAll n f x).length ≤ x * n := by
  intro x
  induction x with
  | zero => simp [prAll]
  | succ x ih =>
    have := prRow_len n f x (prAll n f x) n
    simp only [prAll]
    rw [Nat.succ_mul]; omega
section
variable {p : SPoset}
end

end Go.Proofs.Ytgjmaofgokgdiaa.Ax
