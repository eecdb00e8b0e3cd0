/-
  The law of IsSeparating, on plain functions.
-/
import Derived.Test.YtdodfnbbfkcgnaaP32
import Derived.Test.YtdodfnbbfkcgnaaLExactIsSeparating
namespace Go.Proofs.Ytdodfnbbfkcgnaa.Ax
open Go Classical

theorem F_FnExactIsSeparating {a : SAlgebra} (h : readA a) {ps : List (List Int)} (hp : ps.length ≤ BIG ∧ ∀ r ∈ ps, r.length ≤ BIG) : F_laws_FnExactIsSeparating a ps = some true := by
  unfold F_laws_FnExactIsSeparating
  obtain ⟨r, e, h1⟩ := F_szAlgebra h (n := 1048576) (by omega) (by omega)
  rw [e]
  simp only [Option.bind_some]
  rcases h1 with h1 | ⟨h1, h2, h3⟩
  · rw [if_pos h1]
  rw [if_neg h1]
  obtain ⟨s, e2, h4⟩ := F_szIntSS hp.1 hp.2 (n := r) (by omega) (by omega)
  rw [e2]
  simp only [Option.bind_some]
  rcases h4 with h4 | ⟨h4, _, h5, h6⟩
  · rw [if_pos h4]
  rw [if_neg (by omega)]
  have k1 : ps.length ≤ 1048576 := by omega
  have k2 : ∀ r ∈ ps, r.length ≤ 1048576 := fun row hr => by have := h6 row hr; omega
  have t1 := F_toIntSS (xss := ps) (by rw [lim_def]; omega) (fun row hr => by rw [lim_def]; have := k2 row hr; omega)
  have t2 := F_eqIntSS (xss := ps) (yss := ps) (by rw [lim_def]; omega) (fun row hr => by rw [lim_def]; have := k2 row hr; omega)
  obtain ⟨v, e3, e4⟩ := both_IsSeparating h3 k2
  simp only [F_toAlgebra h3, t1, t2, e3, e4, F_eqAlgebra h3, Option.bind_some, beq_self_eq_true, if_true, decide_true]

end Go.Proofs.Ytdodfnbbfkcgnaa.Ax
