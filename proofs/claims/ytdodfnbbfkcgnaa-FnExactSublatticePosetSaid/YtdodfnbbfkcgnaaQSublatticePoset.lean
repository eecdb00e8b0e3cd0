/-
  The law of SublatticePoset, on plain functions.
-/
import Derived.Test.YtdodfnbbfkcgnaaP22
import Derived.Test.YtdodfnbbfkcgnaaLExactSublatticePoset
namespace Go.Proofs.Ytdodfnbbfkcgnaa.Ax
open Go Classical

theorem F_FnExactSublatticePoset {p : SPoset} (h : read p) {xs : List Int} (_hx : xs.length ≤ BIG) : F_laws_FnExactSublatticePoset p xs = some true := by
  unfold F_laws_FnExactSublatticePoset
  by_cases h20 : (xs.length : Int) > 1048576
  · rw [if_pos h20]
  rw [if_neg h20]
  refine law_frame h fun h3 h4 hs => ?_
  have hl : xs.length ≤ LIM := by rw [lim_def]; omega
  obtain ⟨r, e1, e2, h5, h6⟩ := both_SublatticePoset hs hl
  obtain ⟨a1, k, u, a3, a4, a5⟩ := law_res h5 h6
  obtain ⟨k0, u0, c1, c2, c3⟩ := F_markPosetK h3 h4 (k := 1) (by omega) (by omega)
  have b1 : F_laws_eqIntS xs xs = some true := by rw [F_eqIntS hl]; simp
  have b2 : F_laws_eqPoset p p = some true := by rw [F_eqPoset hs]; simp
  have b3 := F_markIntS (k := k0) hl c2 (by omega)
  have b4 : ¬ k0 + xs.length < 0 := by omega
  simp only [F_toPoset hs, F_toIntS hl, e1, e2, Option.bind_some, a1, b1, b2, b3, c1, a3, a5, if_true, if_neg a4, if_neg b4, beq_self_eq_true, ne_eq, not_true, if_false]

end Go.Proofs.Ytdodfnbbfkcgnaa.Ax
