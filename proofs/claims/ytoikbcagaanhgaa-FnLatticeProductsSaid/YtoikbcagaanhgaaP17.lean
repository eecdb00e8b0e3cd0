/-
  Sets as bits of a number; the largest antichain.
-/
import Derived.Test.YtoikbcagaanhgaaP16
namespace Go.Proofs.Ytoikbcagaanhgaa.Ax
open Go Classical
def bitB (m i : Nat) : Bool := decide (m / 2 ^ i % 2 = 1)
def anti (f : Nat → Nat → Bool) (ls : List Int) : Prop := ∀ x ∈ ls, ∀ y ∈ ls, ¬ (x.toNat ≠ y.toNat ∧ f x.toNat y.toNat = true)
section
variable {p : SPoset}
end
end Go.Proofs.Ytoikbcagaanhgaa.Ax
