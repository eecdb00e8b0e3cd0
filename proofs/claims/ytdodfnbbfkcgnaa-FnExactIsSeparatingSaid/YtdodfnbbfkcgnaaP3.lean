/-
  Posets: their tables; the program's test and the reference's are one.
-/
import Derived.Test.YtdodfnbbfkcgnaaP2
namespace Go.Proofs.Ytdodfnbbfkcgnaa.Ax
open Go Classical

theorem dec_not {p q : Prop} [Decidable p] [Decidable q] (h : ¬ p ↔ q) : (if p then false else true) = decide q := by
  by_cases hp : p
  · rw [if_pos hp, decide_eq_false]; exact fun hq => h.2 hq hp
  · rw [if_neg hp, decide_eq_true (h.1 hp)]
theorem dec_yes {p q : Prop} [Decidable p] [Decidable q] (h : p ↔ q) : (if p then true else false) = decide q := by
  by_cases hp : p
  · rw [if_pos hp, decide_eq_true (h.1 hp)]
  · rw [if_neg hp, decide_eq_false]; exact fun hq => hp (h.2 hq)

theorem F_l1In (x a b : Int) : F_spec_l1In x a b = some (decide (a ≤ x ∧ x ≤ b)) := by
  unfold F_spec_l1In
  split
  · rename_i h; congr 1; rw [decide_eq_decide]; constructor
    · intro h2; exact ⟨h, h2⟩
    · exact fun h2 => h2.2
  · rename_i h; rw [decide_eq_false]; exact fun h2 => h h2.1

def rising (xs : List Int) (lo hi : Int) : Prop := ∀ i, i < xs.length → (lo ≤ nth xs i ∧ nth xs i ≤ hi) ∧ (0 < i → nth xs (i - 1) < nth xs i)
def rises (xs : List Int) : Prop := ∀ i, 0 < i → i < xs.length → nth xs (i - 1) < nth xs i
def inSize (xs : List Int) (n : Int) : Prop := ∀ x ∈ xs, 0 ≤ x ∧ x < n

theorem F_inSize (xs : List Int) (n : Int) (h : xs.length ≤ LIM) : F_impl_inSize xs n = some (decide (inSize xs n)) := by
  unfold F_impl_inSize
  rw [lim_def] at h
  have := loop_find (body := F_impl_inSize_l1 xs n) (fun i => (i : Int)) xs.length (fun i => ¬ (0 ≤ nth xs i ∧ nth xs i < n)) () () (fun i hi hb => by
    unfold F_impl_inSize_l1
    have hb := Classical.not_not.1 hb
    rw [if_pos (by omega), ask_pos (by omega)]
    simp only [Int.toNat_natCast]
    rw [if_neg (by omega), if_neg (by omega), ask_pos (by unfold InI; omega)]; rfl) (fun i hi hb => by
    unfold F_impl_inSize_l1
    rw [if_pos (by omega), ask_pos (by omega)]
    simp only [Int.toNat_natCast]
    by_cases h0 : nth xs i < 0
    · rw [if_pos h0]
    · rw [if_neg h0, if_pos (by omega)]) (by unfold F_impl_inSize_l1; rw [if_neg (by omega)]) 0 (by omega)
  refine (find_bool this false true).trans (congrArg some (dec_not ?_))
  rw [find_all]
  constructor
  · intro h x hx; obtain ⟨i, hi, rfl⟩ := mem_nth.1 hx; exact h i hi
  · intro h i hi; exact h _ (nth_mem hi)

def okAt (n : Nat) (f : Nat → Nat → Bool) (x y : Nat) : Prop := ¬ (x ≠ y ∧ f x y = true ∧ f y x = true) ∧ ∀ z, z < n → f x y = true → f y z = true → f x z = true
def isOrd (n : Nat) (f : Nat → Nat → Bool) : Prop := ∀ x, x < n → f x x = true ∧ ∀ y, y < n → okAt n f x y

end Go.Proofs.Ytdodfnbbfkcgnaa.Ax
