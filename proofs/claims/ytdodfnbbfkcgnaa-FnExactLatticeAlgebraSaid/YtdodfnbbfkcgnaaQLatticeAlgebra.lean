/-
  The law of LatticeAlgebra, on plain functions.
-/
import Derived.Test.YtdodfnbbfkcgnaaP25
import Derived.Test.YtdodfnbbfkcgnaaLExactLatticeAlgebra
namespace Go.Proofs.Ytdodfnbbfkcgnaa.Ax
open Go Classical

theorem F_FnExactLatticeAlgebra {p : SPoset} (h : read p) : F_laws_FnExactLatticeAlgebra p = some true := by
  unfold F_laws_FnExactLatticeAlgebra
  refine law_frame h fun h3 h4 hs => ?_
  obtain ⟨r, e1, e2, h5⟩ := both_LatticeAlgebra hs
  obtain ⟨a1, k, u, a3, a4, a5⟩ := law_alg h5
  obtain ⟨k0, u0, b3, b4⟩ := F_markPoset h3 h4
  have b1 : F_laws_eqPoset p p = some true := by rw [F_eqPoset hs]; simp
  simp only [F_toPoset hs, e1, e2, Option.bind_some, a1, b1, b3, a3, a5, if_true, if_neg a4, if_neg b4, beq_self_eq_true, ne_eq, not_true, if_false]

end Go.Proofs.Ytdodfnbbfkcgnaa.Ax
