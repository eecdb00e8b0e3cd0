/-
  The laws' helpers on lists of numbers and rows: sizes, copies, comparisons, marks.
-/
import Derived.Test.YtoikbcagaanhgaaP1
import Derived.Test.YtoikbcagaanhgaaGALL
namespace Go.Proofs.Ytoikbcagaanhgaa.Ax
open Go Classical
theorem lim_def : LIM = 4294967296 := rfl
theorem find_all {n : Nat} {p : Nat → Prop} : (¬ ∃ i, 0 ≤ i ∧ i < n ∧ ¬ p i) ↔ ∀ i, i < n → p i := by
  constructor
  · intro h i hi; exact Classical.byContradiction fun hc => h ⟨i, by omega, hi, hc⟩
  · rintro h ⟨i, _, hi, hc⟩; exact hc (h i hi)
end Go.Proofs.Ytoikbcagaanhgaa.Ax
