/-
  The first linear extension.
-/
import Derived.Test.YtgjmaofgokgdiaaP19
namespace Go.Proofs.Ytgjmaofgokgdiaa.Ax
open Go Classical

theorem sieve_le {q q' : Nat → Bool} : ∀ (n : Nat), (∀ i, i < n → q i = true → q' i = true) → (sieve n q).length ≤ (sieve n q').length := by
  intro n
  induction n with
  | zero => intro _; simp [sieve]
  | succ n ih =>
    intro h
    have := ih fun i hi => h i (by omega)
    rw [sieve_succ, sieve_succ]
    by_cases hq : q n = true
    · rw [if_pos hq, if_pos (h n (by omega) hq), List.length_append, List.length_append]; simp; omega
    · rw [if_neg hq]
      split
      · rw [List.length_append]; omega
      · exact this
theorem sieve_lt {q q' : Nat → Bool} {x : Nat} (hx : q x = false) (hx' : q' x = true) : ∀ (n : Nat), x < n → (∀ i, i < n → q i = true → q' i = true) → (sieve n q).length < (sieve n q').length := by
  intro n
  induction n with
  | zero => intro h _; omega
  | succ n ih =>
    intro hn h
    rw [sieve_succ, sieve_succ]
    by_cases hxn : x = n
    · subst hxn
      have := sieve_le x fun i hi => h i (by omega)
      rw [hx, hx', if_neg (by simp), if_pos rfl, List.length_append]; simp; omega
    · have := ih (by omega) fun i hi => h i (by omega)
      by_cases hq : q n = true
      · rw [if_pos hq, if_pos (h n (by omega) hq), List.length_append, List.length_append]; simp; omega
      · rw [if_neg hq]
        split
        · rw [List.length_append]; omega
        · exact this
theorem sieve_all (n : Nat) : (sieve n fun _ => true).length = n := by
  induction n with
  | zero => rfl
  | succ n ih => rw [sieve_succ, if_pos rfl, List.length_append, ih]; rfl

section
variable {n : Nat} {f : Nat → Nat → Bool}
/-- whether x may come next -/
def pick (n : Nat) (f : Nat → Nat → Bool) (ls : List Int) (x : Nat) : Prop := (x : Int) ∉ ls ∧ ∀ y, y < n → y ≠ x → f y x = true → (y : Int) ∈ ls
theorem pick_ex (ho : Ord n f) (ls : List Int) (h : ∃ x, x < n ∧ (x : Int) ∉ ls) : ∃ x, x < n ∧ pick n f ls x := by
  have key : ∀ c x, x < n → (x : Int) ∉ ls → (sieve n fun y => f y x).length ≤ c → ∃ x, x < n ∧ pick n f ls x := by
    intro c
    induction c with
    | zero =>
      intro x hx _ hc
      have : (x : Int) ∈ sieve n fun y => f y x := mem_sieve.2 ⟨x, hx, ho.refl x hx, rfl⟩
      rw [List.length_eq_zero_iff.1 (Nat.le_zero.1 hc)] at this; cases this
    | succ c ih =>
      intro x hx hl hc
      by_cases hp : pick n f ls x
      · exact ⟨x, hx, hp⟩
      · have : ∃ y, y < n ∧ y ≠ x ∧ f y x = true ∧ (y : Int) ∉ ls := by
          apply Classical.byContradiction
          intro hno
          exact hp ⟨hl, fun y hy hyx hf => Classical.byContradiction fun hm => hno ⟨y, hy, hyx, hf, hm⟩⟩
        obtain ⟨y, hy, hyx, hf, hm⟩ := this
        have hlt : (sieve n fun z => f z y).length < (sieve n fun z => f z x).length := by
          refine sieve_lt (q := fun z => f z y) (q' := fun z => f z x) (x := x) ?_ (ho.refl x hx) n hx fun z hz hzy => ho.trans z y x hz hy hx hzy hf
          cases hxy : f x y with
          | false => rfl
          | true => exact absurd (ho.anti y x hy hx hf hxy) hyx
        exact ih y hy hm (by omega)
  obtain ⟨x, hx, hl⟩ := h
  exact key _ x hx hl (Nat.le_refl _)
theorem first_ex {p : Nat → Prop} (h : ∃ x, x < n ∧ p x) : ∃ x, x < n ∧ p x ∧ ∀ j, j < x → ¬ p j := by
  obtain ⟨x, hx, hp⟩ := h
  have key : ∀ m x, x ≤ m → x < n → p x → ∃ x, x < n ∧ p x ∧ ∀ j, j < x → ¬ p j := by
    intro m
    induction m with
    | zero => intro x h1 h2 h3; exact ⟨x, h2, h3, fun j hj => by omega⟩
    | succ m ih =>
      intro x h1 h2 h3
      by_cases hy : ∃ j, j < x ∧ p j
      · obtain ⟨j, h4, h5⟩ := hy
        exact ih j (by omega) (by omega) h5
      · exact ⟨x, h2, h3, fun j hj hh => hy ⟨j, hj, hh⟩⟩
  exact key x x (Nat.le_refl _) hx hp
noncomputable def nextX (n : Nat) (f : Nat → Nat → Bool) (ls : List Int) : Nat := if h : ∃ x, x < n ∧ pick n f ls x ∧ ∀ j, j < x → ¬ pick n f ls j then Classical.choose h else 0
theorem nextX_spec (ho : Ord n f) {ls : List Int} (h : ∃ x, x < n ∧ (x : Int) ∉ ls) : nextX n f ls < n ∧ pick n f ls (nextX n f ls) ∧ ∀ j, j < nextX n f ls → ¬ pick n f ls j := by
  have hx := first_ex (pick_ex ho ls h)
  unfold nextX
  rw [dif_pos hx]
  exact Classical.choose_spec hx
noncomputable def extN (n : Nat) (f : Nat → Nat → Bool) : Nat → List Int
  | 0 => []
  | k + 1 => extN n f k ++ [(nextX n f (extN n f k) : Int)]
theorem extN_len (k : Nat) : (extN n f k).length = k := by
  induction k with
  | zero => rfl
  | succ k ih => simp [extN, ih]
theorem extN_ok (ho : Ord n f) : ∀ k, k ≤ n → inSize (extN n f k) n ∧ (sieve n fun i => decide ((i : Int) ∈ extN n f k)).length = k := by
  intro k
  induction k with
  | zero =>
    intro _
    refine ⟨fun x hx => (by cases hx), ?_⟩
    rw [List.length_eq_zero_iff]
    exact sieve_nil.2 fun i _ => by simp [extN]
  | succ k ih =>
    intro hk
    obtain ⟨h1, h2⟩ := ih (by omega)
    have hex : ∃ x, x < n ∧ (x : Int) ∉ extN n f k := by
      apply Classical.byContradiction
      intro hno
      have : (sieve n fun _ => true).length ≤ (sieve n fun i => decide ((i : Int) ∈ extN n f k)).length := sieve_le n fun i hi _ => decide_eq_true (Classical.byContradiction fun hm => hno ⟨i, hi, hm⟩)
      rw [sieve_all, h2] at this; omega
    obtain ⟨a1, a2, _⟩ := nextX_spec ho hex
    refine ⟨fun x hx => ?_, ?_⟩
    · simp only [extN] at hx
      rcases List.mem_append.1 hx with hx | hx
      · exact h1 x hx
      · simp only [List.mem_singleton] at hx; subst hx; omega
    · have := sieve_one (q := fun i => decide ((i : Int) ∈ extN n f k)) (q' := fun i => decide ((i : Int) ∈ extN n f (k + 1))) (x := nextX n f (extN n f k)) (decide_eq_false a2.1) (fun i => by
        simp only [extN]
        rw [Bool.eq_iff_iff]
        simp only [decide_eq_true_eq, List.mem_append, List.mem_singleton, Bool.or_eq_true]
        constructor
        · rintro (h | h)
          · exact .inl h
          · exact .inr (by omega)
        · rintro (h | h)
          · exact .inl h
          · exact .inr (by omega)) n
      rw [this, h2, if_pos a1]
theorem extN_next (ho : Ord n f) {k : Nat} (hk : k < n) : nextX n f (extN n f k) < n ∧ pick n f (extN n f k) (nextX n f (extN n f k)) ∧ ∀ j, j < nextX n f (extN n f k) → ¬ pick n f (extN n f k) j := by
  obtain ⟨_, h2⟩ := extN_ok ho k (by omega)
  refine nextX_spec ho ?_
  apply Classical.byContradiction
  intro hno
  have : (sieve n fun _ => true).length ≤ (sieve n fun i => decide ((i : Int) ∈ extN n f k)).length := sieve_le n fun i hi _ => decide_eq_true (Classical.byContradiction fun hm => hno ⟨i, hi, hm⟩)
  rw [sieve_all, h2] at this; omega
end

section
variable {p : SPoset}
end

end Go.Proofs.Ytgjmaofgokgdiaa.Ax
