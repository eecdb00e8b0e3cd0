/-
  The laws on posets: sizes, copies; IsPoset, IsAtMost.
-/
import Derived.Test.YtdodfnbbfkcgnaaP4
namespace Go.Proofs.Ytdodfnbbfkcgnaa.Ax
open Go Classical

/-- small data -/
def small (p : SPoset) : Prop := p.Below.length ≤ LIM ∧ ∀ r ∈ p.Below, r.length ≤ LIM
/-- as the statements hand it in -/
def read (p : SPoset) : Prop := p.Below.length ≤ BIG ∧ ∀ r ∈ p.Below, r.length ≤ BIG

end Go.Proofs.Ytdodfnbbfkcgnaa.Ax
