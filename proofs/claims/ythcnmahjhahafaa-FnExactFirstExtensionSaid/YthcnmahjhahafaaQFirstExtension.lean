/-
  The law of FirstExtension, on plain functions.
-/
import Derived.Test.YthcnmahjhahafaaP20
import Derived.Test.YthcnmahjhahafaaLExactFirstExtension
namespace Go.Proofs.Ythcnmahjhahafaa.Ax
open Go Classical

theorem F_FnExactFirstExtension {p : SPoset} (h : read p) : F_laws_FnExactFirstExtension p = some true := by
  unfold F_laws_FnExactFirstExtension
  refine law_frame h fun h3 h4 hs => ?_
  obtain ⟨r, e1, e2, hr⟩ := both_FirstExtension hs
  obtain ⟨a1, a2, ⟨k, u, a3, a4⟩, a5, a6, a7⟩ := law_list hs h3 h4 hr
  simp only [F_toPoset hs, e1, e2, Option.bind_some, a1, a2, a3, a5, a6, if_true, if_neg a4, if_neg a7, beq_self_eq_true, ne_eq, not_true, if_false]

end Go.Proofs.Ythcnmahjhahafaa.Ax
