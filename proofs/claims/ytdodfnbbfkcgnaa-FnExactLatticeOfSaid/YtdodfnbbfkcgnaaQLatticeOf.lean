/-
  The law of LatticeOf, on plain functions.
-/
import Derived.Test.YtdodfnbbfkcgnaaP28
import Derived.Test.YtdodfnbbfkcgnaaP29
import Derived.Test.YtdodfnbbfkcgnaaLExactLatticeOf
namespace Go.Proofs.Ytdodfnbbfkcgnaa.Ax
open Go Classical

theorem F_FnExactLatticeOf {a : SAlgebra} (h : readA a) : F_laws_FnExactLatticeOf a = some true := by
  unfold F_laws_FnExactLatticeOf
  refine law_frameA h fun hs => ?_
  obtain ⟨r, e1, e2, h5, h6⟩ := both_LatticeOf hs
  obtain ⟨a1, k, u, a3, a4, a5⟩ := law_res h5 h6
  obtain ⟨u0, c1, c2, _, _, _⟩ := F_markAlgebra0 hs (k := 1) (by omega) (by omega)
  have b1 := F_eqAlgebra hs
  have b4 : ¬ offO a.Ops 1 a.Ops.length < 0 := by omega
  simp only [F_toAlgebra hs, e1, e2, Option.bind_some, a1, b1, c1, a3, a5, if_true, if_neg a4, if_neg b4, beq_self_eq_true, ne_eq, not_true, if_false]

end Go.Proofs.Ytdodfnbbfkcgnaa.Ax
