/-
  Posets as results.
-/
import Derived.Test.YtbnoclklhcbidaaDoorP12
namespace Go.Proofs.YtbnoclklhcbidaaDoor.Ax
open Go Classical

/-- the poset of a table -/
def posOf (n : Nat) (f : Nat → Nat → Bool) : SPoset := ⟨(List.range n).map fun x => sieve n fun y => f y x⟩
def rowsOf (n : Nat) (f : Nat → Nat → Bool) (i : Nat) : List (List Int) := (List.range i).map fun x => sieve n fun y => f y x
theorem rowsOf_succ (n : Nat) (f : Nat → Nat → Bool) (i : Nat) : rowsOf n f (i + 1) = rowsOf n f i ++ [sieve n fun y => f y i] := by simp [rowsOf, List.range_succ]
theorem rowsOf_len (n : Nat) (f : Nat → Nat → Bool) (i : Nat) : (rowsOf n f i).length = i := by simp [rowsOf]
section
variable {n : Nat} {f : Nat → Nat → Bool}
theorem posOf_len : (posOf n f).Below.length = n := by simp [posOf]
theorem posOf_row {x : Nat} (hx : x < n) : nth (posOf n f).Below x = sieve n fun y => f y x := by
  unfold posOf
  rw [nth_map' _ (by simpa using hx), nth_range hx]
theorem posOf_rows (r : List Int) (hr : r ∈ (posOf n f).Below) : r.length ≤ n := by
  simp only [posOf, List.mem_map, List.mem_range] at hr
  obtain ⟨x, _, rfl⟩ := hr
  exact sieve_len _ _
theorem posOf_small (hn : n ≤ LIM) : small (posOf n f) := ⟨by rw [posOf_len]; exact hn, fun r hr => Nat.le_trans (posOf_rows r hr) hn⟩
theorem posOf_below {x y : Nat} (hx : x < n) (hy : y < n) : below (posOf n f).Below y x = f y x := by
  unfold below
  rw [posOf_row hx]
  cases h : f y x with
  | true => exact decide_eq_true (mem_sieve.2 ⟨y, hy, h, rfl⟩)
  | false =>
    refine decide_eq_false fun hm => ?_
    obtain ⟨z, _, h2, h3⟩ := mem_sieve.1 hm
    have : z = y := by omega
    subst this
    rw [h] at h2; cases h2
theorem posOf_posOk (hn : n ≤ 10) : posOk (posOf n f).Below := by
  refine ⟨by rw [posOf_len]; exact hn, fun r hr => ?_⟩
  rw [posOf_len]
  simp only [posOf, List.mem_map, List.mem_range] at hr
  obtain ⟨x, _, rfl⟩ := hr
  refine ⟨sieve_rises _ _, fun y hy => ?_⟩
  obtain ⟨z, h1, _, rfl⟩ := mem_sieve.1 hy
  omega
theorem isOrd_congr {g : Nat → Nat → Bool} (h : ∀ x y, x < n → y < n → f x y = g x y) (hf : isOrd n f) : isOrd n g := by
  intro x hx
  obtain ⟨h1, h2⟩ := hf x hx
  refine ⟨by rw [← h x x hx hx]; exact h1, fun y hy => ?_⟩
  obtain ⟨h3, h4⟩ := h2 y hy
  refine ⟨by rw [← h x y hx hy, ← h y x hy hx]; exact h3, fun z hz => ?_⟩
  rw [← h x y hx hy, ← h y z hy hz, ← h x z hx hz]
  exact h4 z hz
theorem posOf_good (hn : n ≤ 10) : good (posOf n f).Below ↔ isOrd n f := by
  rw [← good_iff]
  have hl : (posOf n f).Below.length = n := posOf_len
  constructor
  · rintro ⟨_, h⟩
    rw [hl] at h
    exact isOrd_congr (fun x y hx hy => posOf_below hy hx) h
  · intro h
    refine ⟨posOf_posOk hn, ?_⟩
    rw [hl]
    exact isOrd_congr (fun x y hx hy => (posOf_below hy hx).symm) h

end

end Go.Proofs.YtbnoclklhcbidaaDoor.Ax
