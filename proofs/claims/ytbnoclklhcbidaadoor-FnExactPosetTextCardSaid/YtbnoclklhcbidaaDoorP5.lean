/-
  The laws on posets: sizes, copies; IsPoset, IsAtMost.
-/
import Derived.Test.YtbnoclklhcbidaaDoorP4
namespace Go.Proofs.YtbnoclklhcbidaaDoor.Ax
open Go Classical

/-- small data -/
def small (p : SPoset) : Prop := p.Below.length ≤ LIM ∧ ∀ r ∈ p.Below, r.length ≤ LIM
/-- as the statements hand it in -/
def read (p : SPoset) : Prop := p.Below.length ≤ BIG ∧ ∀ r ∈ p.Below, r.length ≤ BIG

theorem F_szPoset {p : SPoset} (h : read p) : ∃ r, F_laws_szPoset p 1048576 = some r ∧ (r < 0 ∨ (¬ r < 0 ∧ p.Below.length ≤ 1048576 ∧ ∀ row ∈ p.Below, row.length ≤ 1048576)) := by
  obtain ⟨r, h1, h2⟩ := F_szIntSS h.1 h.2 (n := 1048576) (by omega) (by omega)
  unfold F_laws_szPoset
  rw [h1]
  simp only [Option.bind_some]
  split
  · exact ⟨_, rfl, .inl (by omega)⟩
  · rename_i hr
    rcases h2 with h2 | ⟨_, _, h3, h4⟩
    · exact absurd h2 hr
    · exact ⟨r, rfl, .inr ⟨hr, by omega, fun row hrow => by have := h4 row hrow; omega⟩⟩

theorem F_toPoset {p : SPoset} (h : small p) : F_laws_toPoset p = some p := by
  unfold F_laws_toPoset
  rw [F_toIntSS h.1 h.2]; rfl
theorem F_eqPoset {p q : SPoset} (h : small p) : F_laws_eqPoset p q = some (decide (p = q)) := by
  unfold F_laws_eqPoset
  rw [F_eqIntSS h.1 h.2]
  simp only [Option.bind_some]
  by_cases hh : p.Below = q.Below
  · have : p = q := by cases p; cases q; simp_all
    simp [this]
  · have : ¬ p = q := by rintro rfl; exact hh rfl
    simp [hh, this]
/-- the frame of a law: what is too large is passed by -/
theorem law_frame {p : SPoset} (h : read p) {k : Option Bool} (hk : p.Below.length ≤ 1048576 → (∀ row ∈ p.Below, row.length ≤ 1048576) → small p → k = some true) :
    ((F_laws_szPoset p 1048576).bind fun r1 => if r1 < 0 then some true else k) = some true := by
  obtain ⟨r, h1, h2⟩ := F_szPoset h
  rw [h1]
  simp only [Option.bind_some]
  rcases h2 with h2 | ⟨h2, h3, h4⟩
  · rw [if_pos h2]
  · rw [if_neg h2]
    exact hk h3 h4 ⟨by rw [lim_def]; omega, fun r hr => by have := h4 r hr; rw [lim_def]; omega⟩

end Go.Proofs.YtbnoclklhcbidaaDoor.Ax
