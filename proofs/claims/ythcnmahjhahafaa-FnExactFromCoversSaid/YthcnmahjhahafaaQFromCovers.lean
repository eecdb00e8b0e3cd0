/-
  The law of FromCovers, on plain functions.
-/
import Derived.Test.YthcnmahjhahafaaP19
import Derived.Test.YthcnmahjhahafaaLExactFromCovers
namespace Go.Proofs.Ythcnmahjhahafaa.Ax
open Go Classical

theorem F_FnExactFromCovers (n : Int) {ps : List (Int × Int)} (h : ps.length ≤ BIG) : F_laws_FnExactFromCovers n ps = some true := by
  unfold F_laws_FnExactFromCovers
  rw [F_szIntA2S h]
  simp only [Option.bind_some]
  by_cases h1 : (1048576 : Int) - ps.length < 0
  · rw [if_pos h1, if_pos (by omega)]
  rw [if_neg h1, if_neg h1]
  have hl : ps.length ≤ LIM := by rw [lim_def]; omega
  obtain ⟨r, e1, e2, h5, h6⟩ := both_FromCovers n ps
  obtain ⟨a1, k, u, a3, a4, a5⟩ := law_res h5 h6
  have b1 := F_eqIntA2S hl
  have b3 := F_markIntA2S hl
  have b4 : ¬ (1 + 2 * (ps.length : Int)) < 0 := by omega
  simp only [F_toIntA2S hl, e1, e2, Option.bind_some, a1, b1, b3, a3, a5, if_true, if_neg a4, if_neg b4, beq_self_eq_true, ne_eq, not_true, if_false]

end Go.Proofs.Ythcnmahjhahafaa.Ax
