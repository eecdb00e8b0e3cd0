/-
  The laws on posets: sizes, copies; IsPoset, IsAtMost.
-/
import Derived.Test.YtoikbcagaanhgaaP4
namespace Go.Proofs.Ytoikbcagaanhgaa.Ax
open Go Classical
def small (p : SPoset) : Prop := p.Below.length ≤ LIM ∧ ∀ r ∈ p.Below, r.length ≤ LIM
def read (p : SPoset) : Prop := p.Below.length ≤ BIG ∧ ∀ r ∈ p.Below, r.length ≤ BIG
end Go.Proofs.Ytoikbcagaanhgaa.Ax
