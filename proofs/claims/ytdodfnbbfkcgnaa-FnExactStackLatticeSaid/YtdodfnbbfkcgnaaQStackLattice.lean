/-
  The law of StackLattice, on plain functions.
-/
import Derived.Test.YtdodfnbbfkcgnaaP26
import Derived.Test.YtdodfnbbfkcgnaaLExactStackLattice
namespace Go.Proofs.Ytdodfnbbfkcgnaa.Ax
open Go Classical

theorem F_FnExactStackLattice {p : SPoset} (h : read p) {q : SPoset} (k : read q) : F_laws_FnExactStackLattice p q = some true := by
  unfold F_laws_FnExactStackLattice
  refine law_frame2 h k fun h1 h2 hs ht => ?_
  obtain ⟨r, e1, e2, h5, h6⟩ := both_StackLattice hs ht
  obtain ⟨a1, m, u, a3, a4, a5⟩ := law_res h5 h6
  obtain ⟨k0, u0, c1, c2, c3⟩ := F_markPosetK h1.1 h1.2 (k := 1) (by omega) (by omega)
  obtain ⟨k1, u1, d1, d2, d3⟩ := F_markPosetK h2.1 h2.2 (k := k0) c2 (by omega)
  have b1 : F_laws_eqPoset p p = some true := by rw [F_eqPoset hs]; simp
  have b2 : F_laws_eqPoset q q = some true := by rw [F_eqPoset ht]; simp
  have b3 : ¬ k1 < 0 := by omega
  simp only [F_toPoset hs, F_toPoset ht, e1, e2, Option.bind_some, a1, b1, b2, c1, d1, a3, a5, if_true, if_neg a4, if_neg b3, beq_self_eq_true, ne_eq, not_true, if_false]

end Go.Proofs.Ytdodfnbbfkcgnaa.Ax
