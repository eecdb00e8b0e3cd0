/-
  Algebras: sizes, copies, comparisons, marks.
-/
import Derived.Test.YtoikbcagaanhgaaP22
namespace Go.Proofs.Ytoikbcagaanhgaa.Ax
open Go Classical
end Go.Proofs.Ytoikbcagaanhgaa.Ax
