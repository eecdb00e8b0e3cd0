/-
  Closing a set under two operations, round by round.
-/
import Derived.Test.YtoikbcagaanhgaaP20
namespace Go.Proofs.Ytoikbcagaanhgaa.Ax
open Go Classical
theorem rises_pw {xs : List Int} : rises xs ↔ xs.Pairwise (· < ·) := by
  constructor
  · intro h
    refine List.pairwise_iff_getElem.2 fun i j hi hj hij => ?_
    have := rises_lt h hij hj
    rwa [nth_lt hi, nth_lt hj] at this
  · intro h i h1 h2
    have := List.pairwise_iff_getElem.1 h (i - 1) i (by omega) h2 (by omega)
    rwa [nth_lt (by omega), nth_lt h2]
noncomputable def round (n : Nat) (g h : Nat → Nat → Nat) (S : Nat → Bool) : Nat → Bool := fun z => decide (S z = true ∨ ∃ x y, x < n ∧ y < n ∧ S x = true ∧ S y = true ∧ (z = g x y ∨ z = h x y))
noncomputable def rounds (n : Nat) (g h : Nat → Nat → Nat) (S : Nat → Bool) : Nat → Nat → Bool
  | 0 => S
  | k + 1 => round n g h (rounds n g h S k)
section
variable {n : Nat} {g h : Nat → Nat → Nat} {S : Nat → Bool}
def still (n : Nat) (g h : Nat → Nat → Nat) (S : Nat → Bool) (k : Nat) : Prop := ∀ z, z < n → rounds n g h S (k + 1) z = rounds n g h S k z
def members (n : Nat) (S : Nat → Bool) : List Nat := (List.range n).filter S
end
end Go.Proofs.Ytoikbcagaanhgaa.Ax
