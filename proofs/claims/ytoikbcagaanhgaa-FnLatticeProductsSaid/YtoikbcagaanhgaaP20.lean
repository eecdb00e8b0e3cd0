/-
  The first linear extension.
-/
import Derived.Test.YtoikbcagaanhgaaP19
namespace Go.Proofs.Ytoikbcagaanhgaa.Ax
open Go Classical
theorem F_own (xs : List Int) (h : xs.length ≤ LIM) : F_spec_l1Own xs = some xs := by
  unfold F_spec_l1Own
  rw [ask_pos (by simp [nilL]; exact h)]
  rfl
section
variable {n : Nat} {f : Nat → Nat → Bool}
end
section
variable {p : SPoset}
end
end Go.Proofs.Ytoikbcagaanhgaa.Ax
