/-
  The law of GenerateSublattice, on plain functions.
-/
import Derived.Test.YtdodfnbbfkcgnaaP25
import Derived.Test.YtdodfnbbfkcgnaaLExactGenerateSublattice
namespace Go.Proofs.Ytdodfnbbfkcgnaa.Ax
open Go Classical

theorem F_FnExactGenerateSublattice {p : SPoset} (h : read p) {xs : List Int} (_hx : xs.length ≤ BIG) : F_laws_FnExactGenerateSublattice p xs = some true := by
  unfold F_laws_FnExactGenerateSublattice
  by_cases h20 : (xs.length : Int) > 1048576
  · rw [if_pos h20]
  rw [if_neg h20]
  refine law_frame h fun h3 h4 hs => ?_
  have hl : xs.length ≤ LIM := by rw [lim_def]; omega
  obtain ⟨r, e1, e2, hr⟩ := both_GenerateSublattice hs hl
  obtain ⟨a1, a2, _, a5, a6, a7⟩ := law_list hs h3 h4 hr
  obtain ⟨k, u, a3, a4, a8⟩ := F_markPosetK h3 h4 (k := 1) (by omega) (by omega)
  have b1 : F_laws_eqIntS xs xs = some true := by rw [F_eqIntS hl]; simp
  have b2 := F_markIntS (k := k) hl a4 (by omega)
  have b3 : ¬ k + xs.length < 0 := by omega
  simp only [F_toPoset hs, F_toIntS hl, e1, e2, Option.bind_some, a1, a2, a3, a5, a6, b1, b2, if_true, if_neg b3, if_neg a7, beq_self_eq_true, ne_eq, not_true, if_false]

end Go.Proofs.Ytdodfnbbfkcgnaa.Ax
