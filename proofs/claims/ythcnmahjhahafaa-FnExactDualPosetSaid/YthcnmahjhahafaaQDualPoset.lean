/-
  The law of DualPoset, on plain functions.
-/
import Derived.Test.YthcnmahjhahafaaP13
import Derived.Test.YthcnmahjhahafaaLExactDualPoset
namespace Go.Proofs.Ythcnmahjhahafaa.Ax
open Go Classical

theorem F_FnExactDualPoset {p : SPoset} (h : read p) : F_laws_FnExactDualPoset p = some true := by
  unfold F_laws_FnExactDualPoset
  refine law_frame h fun h3 h4 hs => ?_
  obtain ⟨r, e1, e2, h5, h6⟩ := both_DualPoset hs
  obtain ⟨a1, k, u, a3, a4, a5⟩ := law_res h5 h6
  obtain ⟨k0, u0, b3, b4⟩ := F_markPoset h3 h4
  have b1 : F_laws_eqPoset p p = some true := by rw [F_eqPoset hs]; simp
  simp only [F_toPoset hs, e1, e2, Option.bind_some, a1, b1, b3, a3, a5, if_true, if_neg a4, if_neg b4, beq_self_eq_true, ne_eq, not_true, if_false]

end Go.Proofs.Ythcnmahjhahafaa.Ax
