/-
  The poset upside down; MaximalElements and DownsetOf: what the program and the reference compute.
-/
import Derived.Test.YtbnoclklhcbidaaDoorP6
namespace Go.Proofs.YtbnoclklhcbidaaDoor.Ax
open Go Classical

theorem InI_def (n : Int) : InI n ↔ -9223372036854775808 ≤ n ∧ n ≤ 9223372036854775807 := Iff.rfl

section
variable {p : SPoset}
noncomputable def dualP (p : SPoset) : SPoset := ⟨(List.range p.Below.length).map fun x => sieve p.Below.length fun y => below p.Below x y⟩
theorem dual_len : (dualP p).Below.length = p.Below.length := by simp [dualP]
theorem dual_row {x : Nat} (hx : x < p.Below.length) : nth (dualP p).Below x = sieve p.Below.length fun y => below p.Below x y := by
  unfold dualP
  dsimp only
  rw [nth_map' _ (by simpa using hx), nth_range hx]
theorem below_dual {x y : Nat} (hx : x < p.Below.length) (hy : y < p.Below.length) : below (dualP p).Below y x = below p.Below x y := by
  rw [Bool.eq_iff_iff]
  rw [show (below (dualP p).Below y x = true ↔ (y : Int) ∈ nth (dualP p).Below x) from by simp [below], dual_row hx, mem_sieve]
  constructor
  · rintro ⟨i, _, h, e⟩
    have : i = y := by omega
    subst this; exact h
  · intro h; exact ⟨y, hy, h, rfl⟩
theorem small_dual (hs : small p) : small (dualP p) := by
  refine ⟨by rw [dual_len]; exact hs.1, fun r hr => ?_⟩
  obtain ⟨i, hi, rfl⟩ := mem_nth.1 hr
  rw [dual_len] at hi
  rw [dual_row hi]
  exact Nat.le_trans (sieve_len _ _) hs.1
theorem good_dual (hg : good p.Below) : good (dualP p).Below := by
  have hp := (good_iff _).2 hg
  refine (good_iff _).1 ⟨⟨by rw [dual_len]; exact hp.1.1, fun r hr => ?_⟩, fun x hx => ?_⟩
  · obtain ⟨i, hi, rfl⟩ := mem_nth.1 hr
    rw [dual_len] at hi ⊢
    rw [dual_row hi]
    refine ⟨sieve_rises _ _, fun z hz => ?_⟩
    obtain ⟨k, hk, _, rfl⟩ := mem_sieve.1 hz
    omega
  · rw [dual_len] at hx
    refine ⟨by rw [below_dual hx hx]; exact good_refl hg x hx, fun y hy => ?_⟩
    rw [dual_len] at hy
    refine ⟨?_, fun z hz => ?_⟩
    · rw [below_dual hx hy, below_dual hy hx]
      rintro ⟨h1, h2, h3⟩
      exact h1 (good_anti hg x y hx hy h3 h2)
    · rw [dual_len] at hz
      rw [below_dual hy hx, below_dual hz hy, below_dual hz hx]
      intro h1 h2
      exact good_trans hg z y x hz hy hx h2 h1
theorem dual_dual (hg : good p.Below) : dualP (dualP p) = p := by
  refine posets_ext (by rw [dual_len, dual_len]) fun x hx => ?_
  rw [dual_len, dual_len] at hx
  rw [dual_row (by rw [dual_len]; exact hx), dual_len, row_eq hg x hx]
  exact sieve_congr fun i hi => by rw [below_dual hi hx]

end

/-- tables of bools -/
def btab (n : Nat) (f : Nat → Bool) : List Bool := (List.range n).map f
theorem btab_len (n : Nat) (f : Nat → Bool) : (btab n f).length = n := by simp [btab]
theorem btab_at {n : Nat} {f : Nat → Bool} {i : Nat} (h : i < n) : nth (btab n f) i = f i := by
  unfold btab; rw [nth_map' _ (by simpa using h), nth_range h]
theorem btab_set {n : Nat} {f : Nat → Bool} {i : Nat} {v : Bool} (_h : i < n) : (btab n f).set i v = btab n fun j => if j = i then v else f j := by
  refine nth_ext (by simp [btab]) fun j hj => ?_
  have hj' : j < n := by simpa [btab] using hj
  rw [nth_set _ _ _ _ (by rw [btab_len]; exact hj'), btab_at hj', btab_at hj']
  by_cases e : i = j
  · rw [if_pos e, if_pos e.symm]
  · rw [if_neg e, if_neg (Ne.symm e)]
theorem btab_congr {n : Nat} {f g : Nat → Bool} (h : ∀ i, i < n → f i = g i) : btab n f = btab n g := List.map_congr_left fun i hi => h i (List.mem_range.1 hi)
theorem btab_false (n : Nat) : List.replicate n false = btab n fun _ => false := by
  refine nth_ext (by simp [btab]) fun j hj => ?_
  have hj' : j < n := by simpa using hj
  rw [btab_at hj', nth_replicate _ hj']

/-- below one of some -/
noncomputable def downOf (p : SPoset) (xs : List Int) (y : Nat) : Bool := decide (∃ x ∈ xs, (y : Int) ∈ nth p.Below x.toNat)
noncomputable def down2 (p : SPoset) (xs : List Int) (i j : Nat) (y : Nat) : Bool := decide ((∃ x ∈ xs.take i, (y : Int) ∈ nth p.Below x.toNat) ∨ (y : Int) ∈ (nth p.Below (nth xs i).toNat).take j)

end Go.Proofs.YtbnoclklhcbidaaDoor.Ax
