/-
  The law of CoverPairs, on plain functions.
-/
import Derived.Test.YthcnmahjhahafabP16
import Derived.Test.YthcnmahjhahafabLExactCoverPairs
namespace Go.Proofs.Ythcnmahjhahafab.Ax
open Go Classical

theorem F_FnExactCoverPairs {p : SPoset} (h : read p) : F_laws_FnExactCoverPairs p = some true := by
  unfold F_laws_FnExactCoverPairs
  refine law_frame h fun h3 h4 hs => ?_
  obtain ⟨r, e1, e2, hr⟩ := both_CoverPairs hs
  obtain ⟨k0, u0, b3, b4⟩ := F_markPoset h3 h4
  have b1 : F_laws_eqPoset p p = some true := by rw [F_eqPoset hs]; simp
  have a1 := F_eqIntA2S hr
  have a3 := F_markIntA2S hr
  have a5 := F_heldIntA2S hr
  have a4 : ¬ (1 + 2 * (r.1.length : Int)) < 0 := by omega
  simp only [F_toPoset hs, e1, e2, Option.bind_some, a1, b1, b3, a3, a5, if_true, if_neg a4, if_neg b4, beq_self_eq_true, ne_eq, not_true, if_false]

end Go.Proofs.Ythcnmahjhahafab.Ax
