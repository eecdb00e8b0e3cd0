/-
  The law of EndsOf, on plain functions.
-/
import Derived.Test.YthcnmahjhahafabP14
import Derived.Test.YthcnmahjhahafabLExactEndsOf
namespace Go.Proofs.Ythcnmahjhahafab.Ax
open Go Classical

theorem F_FnExactEndsOf {p : SPoset} (h : read p) : F_laws_FnExactEndsOf p = some true := by
  unfold F_laws_FnExactEndsOf
  refine law_frame h fun h3 h4 hs => ?_
  obtain ⟨r, e1, e2⟩ := both_EndsOf hs
  have b2 : F_laws_eqPoset p p = some true := by rw [F_eqPoset hs]; simp
  simp only [F_toPoset hs, e1, e2, Option.bind_some, b2, if_true, beq_self_eq_true, ne_eq, not_true, if_false]

end Go.Proofs.Ythcnmahjhahafab.Ax
