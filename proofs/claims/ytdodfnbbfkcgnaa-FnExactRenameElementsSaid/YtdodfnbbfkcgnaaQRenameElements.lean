/-
  The law of RenameElements, on plain functions.
-/
import Derived.Test.YtdodfnbbfkcgnaaP30
import Derived.Test.YtdodfnbbfkcgnaaLExactRenameElements
namespace Go.Proofs.Ytdodfnbbfkcgnaa.Ax
open Go Classical

theorem F_FnExactRenameElements {a : SAlgebra} (h : readA a) {f : List Int} (_hx : f.length ≤ BIG) : F_laws_FnExactRenameElements a f = some true := by
  unfold F_laws_FnExactRenameElements
  by_cases h20 : (f.length : Int) > 1048576
  · rw [if_pos h20]
  rw [if_neg h20]
  refine law_frameA h fun hs => ?_
  have hl : f.length ≤ LIM := by rw [lim_def]; omega
  obtain ⟨r, e1, e2, h5⟩ := both_RenameElements hs hl
  obtain ⟨a1, k, u, a3, a4, a5⟩ := law_alg h5
  obtain ⟨k0, u0, c1, c2, c3, _⟩ := F_markAlgebra hs (k := 1) (by omega) (by omega)
  have b1 := F_eqAlgebra hs
  have b2 : F_laws_eqIntS f f = some true := by rw [F_eqIntS hl]; simp
  have b3 := F_markIntS (k := k0) hl c2 (by omega)
  have b4 : ¬ k0 + f.length < 0 := by omega
  simp only [F_toAlgebra hs, F_toIntS hl, e1, e2, Option.bind_some, a1, b1, b2, b3, c1, a3, a5, if_true, if_neg a4, if_neg b4, beq_self_eq_true, ne_eq, not_true, if_false]

end Go.Proofs.Ytdodfnbbfkcgnaa.Ax
