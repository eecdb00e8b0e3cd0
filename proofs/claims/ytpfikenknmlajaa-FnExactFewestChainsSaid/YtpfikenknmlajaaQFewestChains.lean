/-
  The law of FewestChains, on plain functions.
-/
import Derived.Test.YtpfikenknmlajaaP108
import Derived.Test.YtpfikenknmlajaaLExactFewestChains
namespace Go.Proofs.Ytpfikenknmlajaa.Ax
open Go Classical

theorem F_FnExactFewestChains {p : SPoset} (h : read p) : F_laws_FnExactFewestChains p = some true := by
  unfold F_laws_FnExactFewestChains
  refine law_frame h fun h3 h4 hs => ?_
  obtain ⟨r, e1, e2, hr, hr2⟩ := both_FewestChains hs
  obtain ⟨k0, u0, b3, b4⟩ := F_markPoset h3 h4
  have b1 : F_laws_eqPoset p p = some true := by rw [F_eqPoset hs]; simp
  have a1 : F_laws_eqIntSS r.1 r.1 = some true := by rw [F_eqIntSS (by rw [lim_def]; omega) (fun q hq => by have := hr2 q hq; rw [lim_def]; omega)]; simp
  obtain ⟨k1, u1, a3, a4, _, a5⟩ := F_markHeldIntSS (show r.1.length ≤ 1048576 by omega) (fun q hq => by have := hr2 q hq; omega) (k := 1) (by omega) (by omega)
  simp only [F_toPoset hs, e1, e2, Option.bind_some, a1, b1, b3, a3, a5, if_true, if_neg b4, beq_self_eq_true, ne_eq, not_true, if_false, if_neg (show ¬ k1 < 0 by omega)]

end Go.Proofs.Ytpfikenknmlajaa.Ax
