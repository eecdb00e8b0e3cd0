/-
  The law of InverseIso, on plain functions.
-/
import Derived.Test.YtdodfnbbfkcgnaaP29
import Derived.Test.YtdodfnbbfkcgnaaLExactInverseIso
namespace Go.Proofs.Ytdodfnbbfkcgnaa.Ax
open Go Classical

theorem F_FnExactInverseIso {a : SAlgebra} (h : readA a) {b : SAlgebra} (h' : readA b) {f : List Int} (_hx : f.length ≤ BIG) : F_laws_FnExactInverseIso a b f = some true := by
  unfold F_laws_FnExactInverseIso
  by_cases h20 : (f.length : Int) > 1048576
  · rw [if_pos h20]
  rw [if_neg h20]
  refine law_frameA2 h h' fun hs ht => ?_
  have hl : f.length ≤ LIM := by rw [lim_def]; omega
  obtain ⟨r, e1, e2, hr⟩ := both_InverseIso hs ht (f := f) (by omega)
  obtain ⟨k0, u0, c1, c2, c3, _⟩ := F_markAlgebra hs (k := 1) (by omega) (by omega)
  obtain ⟨k1, u1, d1, d2, d3, _⟩ := F_markAlgebra ht (k := k0) c2 (by omega)
  have g1 := F_markIntS (k := k1) hl d2 (by omega)
  have b1 := F_eqAlgebra hs
  have b2 := F_eqAlgebra ht
  have b3 : F_laws_eqIntS f f = some true := by rw [F_eqIntS hl]; simp
  have b4 : ¬ k1 + f.length < 0 := by omega
  have a1 : F_laws_eqIntS r.1 r.1 = some true := by rw [F_eqIntS hr]; simp
  have a2 := F_markIntS (k := 1) hr (by omega) (by omega)
  have a3 := F_heldIntS (n := r.1.length) (k := 1) hr (by omega) (by omega)
  have a4 : ¬ (1 + (r.1.length : Int)) < 0 := by omega
  simp only [F_toAlgebra hs, F_toAlgebra ht, F_toIntS hl, e1, e2, Option.bind_some, a1, a2, a3, b1, b2, b3, c1, d1, g1, if_true, if_neg a4, if_neg b4, beq_self_eq_true, ne_eq, not_true, if_false]

end Go.Proofs.Ytdodfnbbfkcgnaa.Ax
