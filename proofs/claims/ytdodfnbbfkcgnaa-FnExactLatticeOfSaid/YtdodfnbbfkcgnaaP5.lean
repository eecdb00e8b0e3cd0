/-
  The laws on posets: sizes, copies; IsPoset, IsAtMost.
-/
import Derived.Test.YtdodfnbbfkcgnaaP4
namespace Go.Proofs.Ytdodfnbbfkcgnaa.Ax
open Go Classical

/-- small data -/
def small (p : SPoset) : Prop := p.Below.length ≤ LIM ∧ ∀ r ∈ p.Below, r.length ≤ LIM
/-- as the statements hand it in -/
def read (p : SPoset) : Prop := p.Below.length ≤ BIG ∧ ∀ r ∈ p.Below, r.length ≤ BIG

theorem F_eqPoset {p q : SPoset} (h : small p) : F_laws_eqPoset p q = some (decide (p = q)) := by
  unfold F_laws_eqPoset
  rw [F_eqIntSS h.1 h.2]
  simp only [Option.bind_some]
  by_cases hh : p.Below = q.Below
  · have : p = q := by cases p; cases q; simp_all
    simp [this]
  · have : ¬ p = q := by rintro rfl; exact hh rfl
    simp [hh, this]
theorem F_markPosetK {p : SPoset} (h0 : p.Below.length ≤ 1048576) (h1 : ∀ row ∈ p.Below, row.length ≤ 1048576) {k : Int} (hk : 0 ≤ k) (hk2 : k ≤ 4503599627370496) : ∃ r u, F_laws_markPoset p k = some (r, u) ∧ 0 ≤ r ∧ r ≤ k + 1099511627776 := by
  unfold F_laws_markPoset
  obtain ⟨r, u, e, hr, hr2⟩ := F_markIntSS h0 h1 hk hk2
  rw [e]
  exact ⟨r, ⟨u⟩, rfl, hr, by omega⟩
theorem F_markPoset {p : SPoset} (h0 : p.Below.length ≤ 1048576) (h1 : ∀ row ∈ p.Below, row.length ≤ 1048576) : ∃ r u, F_laws_markPoset p 1 = some (r, u) ∧ ¬ r < 0 := by
  obtain ⟨r, u, e, hr, _⟩ := F_markPosetK h0 h1 (k := 1) (by omega) (by omega)
  exact ⟨r, u, e, by omega⟩
/-- marks are held -/
theorem F_markHeldPoset {p : SPoset} (h0 : p.Below.length ≤ 1048576) (h1 : ∀ row ∈ p.Below, row.length ≤ 1048576) : ∃ r u, F_laws_markPoset p 1 = some (r, u) ∧ ¬ r < 0 ∧ F_laws_heldPoset u 1 = some r := by
  unfold F_laws_markPoset F_laws_heldPoset
  obtain ⟨r, u, e, hr, _, hh⟩ := F_markHeldIntSS h0 h1 (k := 1) (by omega) (by omega)
  rw [e]
  refine ⟨r, ⟨u⟩, rfl, by omega, ?_⟩
  rw [hh]
  simp only [Option.bind_some]
  rw [if_neg (by omega)]

end Go.Proofs.Ytdodfnbbfkcgnaa.Ax
