/-
  The law of IsLattice, on plain functions.
-/
import Derived.Test.YthcnmahjhahafaaP12
import Derived.Test.YthcnmahjhahafaaLExactIsLattice
namespace Go.Proofs.Ythcnmahjhahafaa.Ax
open Go Classical

theorem F_FnExactIsLattice {p : SPoset} (h : read p) : F_laws_FnExactIsLattice p = some true := by
  unfold F_laws_FnExactIsLattice
  refine law_frame h fun h3 h4 hs => ?_
  obtain ⟨r, e1, e2⟩ := both_IsLattice hs
  simp only [F_toPoset hs, e1, e2, Option.bind_some, beq_self_eq_true, if_true]
  rw [F_eqPoset hs]; simp

end Go.Proofs.Ythcnmahjhahafaa.Ax
