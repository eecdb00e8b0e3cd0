/-
  The law of PosetText, on plain functions.
-/
import Derived.Test.YtbnoclklhcbidaaDoorP140
import Derived.Test.YtbnoclklhcbidaaDoorLExactPosetText
namespace Go.Proofs.YtbnoclklhcbidaaDoor.Ax
open Go Classical

theorem F_FnExactPosetText {p : SPoset} (h : read p) : F_laws_FnExactPosetText p = some true := by
  unfold F_laws_FnExactPosetText
  refine law_frame h fun h3 h4 hs => ?_
  obtain ⟨r, e1, e2⟩ := both_PosetText hs
  have b1 : F_laws_eqPoset p p = some true := by rw [F_eqPoset hs]; simp
  simp only [F_toPoset hs, e1, e2, Option.bind_some, b1, if_true, beq_self_eq_true]

end Go.Proofs.YtbnoclklhcbidaaDoor.Ax
