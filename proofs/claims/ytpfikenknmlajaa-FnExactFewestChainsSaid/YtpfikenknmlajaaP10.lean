/-
  LongestChain: what the program and the reference compute.
-/
import Derived.Test.YtpfikenknmlajaaP9
namespace Go.Proofs.Ytpfikenknmlajaa.Ax
open Go Classical

theorem htn_congr {n : Nat} {r s : Nat → Nat → Bool} (h : ∀ y x, y < n → x < n → r y x = s y x) (k : Nat) : ∀ x, x < n → htn n r k x = htn n s k x := by
  induction k with
  | zero => intro x _; rfl
  | succ k ih =>
    intro x hx
    show mx n _ = mx n _
    refine mx_congr fun y hy => ?_
    rw [h y x hy hx, ih y hy]
theorem ht_congr {n : Nat} {r s : Nat → Nat → Bool} (h : ∀ y x, y < n → x < n → r y x = s y x) {x : Nat} (hx : x < n) : ht n r x = ht n s x := htn_congr h n x hx
theorem mx_at {n : Nat} {f : Nat → Nat} (h : 0 < mx n f) : ∃ i, i < n ∧ f i = mx n f := by
  induction n with
  | zero => simp [mx] at h
  | succ n ih =>
    simp only [mx] at h ⊢
    by_cases e : mx n f ≤ f n
    · exact ⟨n, by omega, by omega⟩
    · obtain ⟨i, h1, h2⟩ := ih (by omega)
      exact ⟨i, by omega, by omega⟩
/-- the first one -/
theorem first_of {n : Nat} {q : Nat → Prop} (h : ∃ x, x < n ∧ q x) : ∃ x, x < n ∧ q x ∧ ∀ y, y < x → ¬ q y := by
  obtain ⟨x, hx, hq⟩ := h
  induction x using Nat.strongRecOn with
  | ind x ih =>
    by_cases hy : ∃ y, y < x ∧ q y
    · obtain ⟨y, h1, h2⟩ := hy
      exact ih y h1 (by omega) h2
    · exact ⟨x, hx, hq, fun y h1 h2 => hy ⟨y, h1, h2⟩⟩

section
variable {p : SPoset}
theorem F_l23Less (hs : small p) (x y : Nat) (hy : y < p.Below.length) : F_spec_l23Less p x y = some (decide (x ≠ y) && below p.Below x y) := by
  unfold F_spec_l23Less
  by_cases h : x = y
  · subst h; simp
  · have : (x : Int) ≠ y := by omega
    simp only [ne_eq, this, not_false_iff, if_true, F_l23Leq hs x y hy, h, decide_true, Bool.true_and, Option.bind_some]
/-- how far it leads up -/
noncomputable def hup (p : SPoset) (x : Nat) : Nat := ht p.Below.length (rel (below p.Below) false) x
/-- what may come next -/
def fits (p : SPoset) (c : List Int) (x : Nat) : Prop := c = [] ∨ ∃ l : Nat, l < p.Below.length ∧ nth c (c.length - 1) = (l : Int) ∧ l ≠ x ∧ below p.Below l x = true
def chainOk (p : SPoset) (c : List Int) (j : Nat) : Prop := (c = [] ∧ (∀ x, x < p.Below.length → hup p x + 1 ≤ j) ∧ (0 < j → ∃ x, x < p.Below.length ∧ hup p x + 1 = j)) ∨ (c ≠ [] ∧ ∃ l : Nat, l < p.Below.length ∧ nth c (c.length - 1) = (l : Int) ∧ hup p l = j)

theorem chain_next (hg : good p.Below) {c : List Int} {j : Nat} (h : chainOk p c (j + 1)) :
    (∀ x, x < p.Below.length → fits p c x → hup p x ≤ j) ∧ ∃ x, x < p.Below.length ∧ hup p x = j ∧ fits p c x := by
  have hs := strict_up hg
  rcases h with ⟨rfl, h1, h2⟩ | ⟨hne, l, hl, hc, hj⟩
  · refine ⟨fun x hx _ => by have := h1 x hx; omega, ?_⟩
    obtain ⟨x, hx, he⟩ := h2 (by omega)
    exact ⟨x, hx, by omega, .inl rfl⟩
  · have rl : ∀ x, rel (below p.Below) false x l = true ↔ (l ≠ x ∧ below p.Below l x = true) := fun x => by simp [rel]
    constructor
    · intro x hx hf
      rcases hf with hf | ⟨l', hl', hc', h1, h2⟩
      · exact absurd hf hne
      · have : l' = l := by omega
        subst this
        have := ht_lt hs hl hx ((rl x).2 ⟨h1, h2⟩)
        unfold hup at *; omega
    · have e := ht_eq hs hl
      unfold hup at hj
      rw [hj] at e
      obtain ⟨x, hx, he⟩ := mx_at (n := p.Below.length) (f := fun y => if rel (below p.Below) false y l then ht p.Below.length (rel (below p.Below) false) y + 1 else 0) (by omega)
      rw [← e] at he
      by_cases hr : rel (below p.Below) false x l = true
      · rw [if_pos hr] at he
        exact ⟨x, hx, by unfold hup; omega, .inr ⟨l, hl, hc, (rl x).1 hr⟩⟩
      · rw [if_neg hr] at he; omega

end

end Go.Proofs.Ytpfikenknmlajaa.Ax
