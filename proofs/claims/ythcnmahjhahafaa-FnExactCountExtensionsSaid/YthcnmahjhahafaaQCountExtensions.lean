/-
  The law of CountExtensions, on plain functions.
-/
import Derived.Test.YthcnmahjhahafaaP18
import Derived.Test.YthcnmahjhahafaaLExactCountExtensions
namespace Go.Proofs.Ythcnmahjhahafaa.Ax
open Go Classical

theorem F_FnExactCountExtensions {p : SPoset} (h : read p) : F_laws_FnExactCountExtensions p = some true := by
  unfold F_laws_FnExactCountExtensions
  refine law_frame h fun h3 h4 hs => ?_
  obtain ⟨r, e1, e2⟩ := both_CountExtensions hs
  simp only [F_toPoset hs, e1, e2, Option.bind_some, beq_self_eq_true, if_true, ne_eq, not_true, if_false]
  rw [F_eqPoset hs]; simp

end Go.Proofs.Ythcnmahjhahafaa.Ax
