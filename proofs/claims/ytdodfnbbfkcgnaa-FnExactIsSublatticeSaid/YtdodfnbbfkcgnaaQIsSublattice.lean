/-
  The law of IsSublattice, on plain functions.
-/
import Derived.Test.YtdodfnbbfkcgnaaP22
import Derived.Test.YtdodfnbbfkcgnaaLExactIsSublattice
namespace Go.Proofs.Ytdodfnbbfkcgnaa.Ax
open Go Classical

theorem F_FnExactIsSublattice {p : SPoset} (h : read p) {xs : List Int} (_hx : xs.length ≤ BIG) : F_laws_FnExactIsSublattice p xs = some true := by
  unfold F_laws_FnExactIsSublattice
  by_cases h20 : (xs.length : Int) > 1048576
  · rw [if_pos h20]
  rw [if_neg h20]
  refine law_frame h fun h3 h4 hs => ?_
  have hl : xs.length ≤ LIM := by rw [lim_def]; omega
  obtain ⟨r, e1, e2⟩ := both_IsSublattice hs hl
  have b1 : F_laws_eqIntS xs xs = some true := by rw [F_eqIntS hl]; simp
  have b2 : F_laws_eqPoset p p = some true := by rw [F_eqPoset hs]; simp
  simp only [F_toPoset hs, F_toIntS hl, e1, e2, Option.bind_some, b1, b2, if_true, beq_self_eq_true]

end Go.Proofs.Ytdodfnbbfkcgnaa.Ax
