/-
  Closing a set under two operations, round by round.
-/
import Derived.Test.YtgjmaofgokgdiaaP20
namespace Go.Proofs.Ytgjmaofgokgdiaa.Ax
open Go Classical

theorem rises_pw {xs : List Int} : rises xs ↔ xs.Pairwise (· < ·) := by
  constructor
  · intro h
    refine List.pairwise_iff_getElem.2 fun i j hi hj hij => ?_
    have := rises_lt h hij hj
    rwa [nth_lt hi, nth_lt hj] at this
  · intro h i h1 h2
    have := List.pairwise_iff_getElem.1 h (i - 1) i (by omega) h2 (by omega)
    rwa [nth_lt (by omega), nth_lt h2]
/-- a set with some more -/
noncomputable def addS (S : Nat → Bool) (zs : List Nat) : Nat → Bool := fun z => decide (S z = true ∨ z ∈ zs)
theorem addS_nil (S : Nat → Bool) : addS S [] = S := by
  funext z; simp [addS]
theorem addS_one (S : Nat → Bool) (zs : List Nat) (z : Nat) : (fun a => decide (addS S zs a = true ∨ a = z)) = addS S (zs ++ [z]) := by
  funext a
  simp only [addS, decide_eq_true_eq, List.mem_append, List.mem_singleton]
  rw [decide_eq_decide]
  exact or_assoc
/-- one round -/
noncomputable def round (n : Nat) (g h : Nat → Nat → Nat) (S : Nat → Bool) : Nat → Bool := fun z => decide (S z = true ∨ ∃ x y, x < n ∧ y < n ∧ S x = true ∧ S y = true ∧ (z = g x y ∨ z = h x y))
noncomputable def rounds (n : Nat) (g h : Nat → Nat → Nat) (S : Nat → Bool) : Nat → Nat → Bool
  | 0 => S
  | k + 1 => round n g h (rounds n g h S k)
section
variable {n : Nat} {g h : Nat → Nat → Nat} {S : Nat → Bool}
theorem round_congr {S' : Nat → Bool} (e : ∀ z, z < n → S z = S' z) : ∀ z, z < n → round n g h S z = round n g h S' z := by
  intro z hz
  unfold round
  rw [decide_eq_decide, e z hz]
  constructor
  · rintro (a | ⟨x, y, hx, hy, a, b, c⟩)
    · exact .inl a
    · exact .inr ⟨x, y, hx, hy, by rw [← e x hx]; exact a, by rw [← e y hy]; exact b, c⟩
  · rintro (a | ⟨x, y, hx, hy, a, b, c⟩)
    · exact .inl a
    · exact .inr ⟨x, y, hx, hy, by rw [e x hx]; exact a, by rw [e y hy]; exact b, c⟩
theorem round_more (z : Nat) (hz : S z = true) : round n g h S z = true := decide_eq_true (.inl hz)
/-- nothing new comes -/
def still (n : Nat) (g h : Nat → Nat → Nat) (S : Nat → Bool) (k : Nat) : Prop := ∀ z, z < n → rounds n g h S (k + 1) z = rounds n g h S k z
theorem still_on {k : Nat} (hk : still n g h S k) : ∀ m, k ≤ m → ∀ z, z < n → rounds n g h S m z = rounds n g h S k z := by
  intro m hm
  induction m with
  | zero => intro z _; rw [show k = 0 by omega]
  | succ m ih =>
    by_cases e : k = m + 1
    · intro z _; rw [e]
    · intro z hz
      have := ih (by omega)
      rw [← hk z hz]
      exact round_congr this z hz
theorem still_ex : ∃ k, k < n + 1 ∧ still n g h S k := by
  have key : ∀ k, (∃ j, j < k ∧ still n g h S j) ∨ k ≤ (sieve n (rounds n g h S k)).length := by
    intro k
    induction k with
    | zero => exact .inr (Nat.zero_le _)
    | succ k ih =>
      rcases ih with ⟨j, h1, h2⟩ | h1
      · exact .inl ⟨j, by omega, h2⟩
      · by_cases hs : still n g h S k
        · exact .inl ⟨k, by omega, hs⟩
        · right
          have : ∃ z, z < n ∧ rounds n g h S k z = false ∧ rounds n g h S (k + 1) z = true := by
            apply Classical.byContradiction
            intro hno
            refine hs fun z hz => ?_
            cases h2 : rounds n g h S k z with
            | true => exact round_more z h2
            | false =>
              cases h3 : rounds n g h S (k + 1) z with
              | false => rfl
              | true => exact absurd ⟨z, hz, h2, h3⟩ hno
          obtain ⟨z, hz, h2, h3⟩ := this
          have := sieve_lt h2 h3 n hz fun i _ hi => round_more i hi
          omega
  rcases key (n + 1) with ⟨j, h1, h2⟩ | h1
  · exact ⟨j, h1, h2⟩
  · have := sieve_len n (rounds n g h S (n + 1))
    omega
/-- all that comes in the end -/
noncomputable def closed (n : Nat) (g h : Nat → Nat → Nat) (S : Nat → Bool) : Nat → Bool := rounds n g h S n
theorem closed_of {k : Nat} (hk : still n g h S k) (hkn : k < n + 1) : ∀ z, z < n → closed n g h S z = rounds n g h S k z := still_on hk n (by omega)
theorem closed_more (z : Nat) (hz : S z = true) : closed n g h S z = true := by
  unfold closed
  have key : ∀ k, rounds n g h S k z = true := by
    intro k
    induction k with
    | zero => exact hz
    | succ k ih => exact round_more z ih
  exact key n
/-- the numbers of a list's set -/
theorem sieve_take {xs : List Int} (hx : inSize xs n) (hr : rises xs) : sieve n (fun z => decide ((z : Int) ∈ xs)) = xs := by
  refine rises_ext (sieve_rises _ _) hr fun x => ?_
  rw [mem_sieve]
  constructor
  · rintro ⟨i, _, h1, rfl⟩; simpa using h1
  · intro h1
    have := hx x h1
    exact ⟨x.toNat, by omega, by simpa [show ((x.toNat : Nat) : Int) = x by omega] using h1, by omega⟩
theorem closed_len {xs : List Int} (hx : inSize xs n) (hr : rises xs) : (sieve n (closed n g h fun z => decide ((z : Int) ∈ xs))).length = xs.length ↔ sieve n (closed n g h fun z => decide ((z : Int) ∈ xs)) = xs := by
  constructor
  · intro hl
    rw [← sieve_take hx hr] at hl
    refine Eq.trans (sieve_congr fun z hz => ?_) (sieve_take hx hr)
    cases h1 : closed n g h (fun z => decide ((z : Int) ∈ xs)) z with
    | false =>
      cases h2 : decide ((z : Int) ∈ xs) with
      | false => rfl
      | true => rw [closed_more (S := fun z => decide ((z : Int) ∈ xs)) z h2] at h1; cases h1
    | true =>
      cases h2 : decide ((z : Int) ∈ xs) with
      | true => rfl
      | false =>
        have := sieve_lt (q := fun z => decide ((z : Int) ∈ xs)) h2 h1 n hz fun i _ hi => closed_more i hi
        rw [sieve_take hx hr] at this
        rw [sieve_take hx hr] at hl
        omega
  · intro h1; rw [h1]

/-- pairs of a list, all with all -/
def pairsA (g h : Nat → Nat → Nat) (xs : List Nat) (x : Nat) (j : Nat) : List Nat := (List.range j).flatMap fun b => [g x (nth xs b), h x (nth xs b)]
def allA (g h : Nat → Nat → Nat) (xs : List Nat) (i : Nat) : List Nat := (List.range i).flatMap fun a => pairsA g h xs (nth xs a) xs.length
/-- pairs of a list, each with those before it -/
def allB (g h : Nat → Nat → Nat) (xs : List Nat) (i : Nat) : List Nat := (List.range i).flatMap fun a => pairsA g h xs (nth xs a) a
theorem pairsA_succ (xs : List Nat) (x j : Nat) : pairsA g h xs x (j + 1) = pairsA g h xs x j ++ [g x (nth xs j), h x (nth xs j)] := by
  simp [pairsA, List.range_succ]
theorem allA_succ (xs : List Nat) (i : Nat) : allA g h xs (i + 1) = allA g h xs i ++ pairsA g h xs (nth xs i) xs.length := by
  simp [allA, List.range_succ]
theorem allB_succ (xs : List Nat) (i : Nat) : allB g h xs (i + 1) = allB g h xs i ++ pairsA g h xs (nth xs i) i := by
  simp [allB, List.range_succ]
theorem mem_pairsA {xs : List Nat} {x j z : Nat} : z ∈ pairsA g h xs x j ↔ ∃ b, b < j ∧ (z = g x (nth xs b) ∨ z = h x (nth xs b)) := by
  simp [pairsA]
theorem mem_allA {xs : List Nat} {i z : Nat} : z ∈ allA g h xs i ↔ ∃ a b, a < i ∧ b < xs.length ∧ (z = g (nth xs a) (nth xs b) ∨ z = h (nth xs a) (nth xs b)) := by
  simp only [allA, List.mem_flatMap, List.mem_range, mem_pairsA]
  constructor
  · rintro ⟨a, ha, b, hb, c⟩; exact ⟨a, b, ha, hb, c⟩
  · rintro ⟨a, b, ha, hb, c⟩; exact ⟨a, ha, b, hb, c⟩
theorem mem_allB {xs : List Nat} {i z : Nat} : z ∈ allB g h xs i ↔ ∃ a b, a < i ∧ b < a ∧ (z = g (nth xs a) (nth xs b) ∨ z = h (nth xs a) (nth xs b)) := by
  simp only [allB, List.mem_flatMap, List.mem_range, mem_pairsA]
  constructor
  · rintro ⟨a, ha, b, hb, c⟩; exact ⟨a, b, ha, hb, c⟩
  · rintro ⟨a, b, ha, hb, c⟩; exact ⟨a, ha, b, hb, c⟩
/-- the members -/
def members (n : Nat) (S : Nat → Bool) : List Nat := (List.range n).filter S
theorem members_sieve : sieve n S = (members n S).map fun i : Nat => (i : Int) := rfl
theorem members_len : (members n S).length = (sieve n S).length := by rw [members_sieve, List.length_map]
theorem members_nth {i : Nat} (hi : i < (members n S).length) : nth (sieve n S) i = (nth (members n S) i : Nat) := by
  rw [members_sieve, nth_map' _ hi]
theorem members_lt {i : Nat} (hi : i < (members n S).length) : nth (members n S) i < n ∧ S (nth (members n S) i) = true := by
  have := List.mem_filter.1 (nth_mem hi)
  exact ⟨List.mem_range.1 this.1, this.2⟩
theorem members_ex {x : Nat} (hx : x < n) (hS : S x = true) : ∃ i, i < (members n S).length ∧ nth (members n S) i = x := by
  have : x ∈ members n S := List.mem_filter.2 ⟨List.mem_range.2 hx, hS⟩
  exact mem_nth.1 this
theorem round_allA : addS S (allA g h (members n S) (members n S).length) = round n g h S := by
  funext z
  unfold addS round
  rw [decide_eq_decide, mem_allA]
  constructor
  · rintro (a | ⟨a, b, ha, hb, c⟩)
    · exact .inl a
    · exact .inr ⟨_, _, (members_lt ha).1, (members_lt hb).1, (members_lt ha).2, (members_lt hb).2, c⟩
  · rintro (a | ⟨x, y, hx, hy, a, b, c⟩)
    · exact .inl a
    · obtain ⟨i, hi, rfl⟩ := members_ex hx a
      obtain ⟨j, hj, rfl⟩ := members_ex hy b
      exact .inr ⟨i, j, hi, hj, c⟩
theorem round_allB (hg : ∀ x, x < n → g x x = x) (hh : ∀ x, x < n → h x x = x) (hgc : ∀ x y, x < n → y < n → g x y = g y x) (hhc : ∀ x y, x < n → y < n → h x y = h y x) :
    addS S (allB g h (members n S) (members n S).length) = round n g h S := by
  funext z
  unfold addS round
  rw [decide_eq_decide, mem_allB]
  constructor
  · rintro (a | ⟨a, b, ha, hb, c⟩)
    · exact .inl a
    · have hb2 : b < (members n S).length := by omega
      exact .inr ⟨_, _, (members_lt ha).1, (members_lt hb2).1, (members_lt ha).2, (members_lt hb2).2, c⟩
  · rintro (a | ⟨x, y, hx, hy, a, b, c⟩)
    · exact .inl a
    · obtain ⟨i, hi, rfl⟩ := members_ex hx a
      obtain ⟨j, hj, rfl⟩ := members_ex hy b
      rcases Nat.lt_trichotomy i j with hij | hij | hij
      · refine .inr ⟨j, i, hj, hij, ?_⟩
        rw [hgc _ _ hy hx, hhc _ _ hy hx]; exact c
      · subst hij
        rw [hg _ hx, hh _ hx] at c
        left
        rcases c with c | c <;> (rw [c]; exact a)
      · exact .inr ⟨i, j, hi, hij, c⟩
end

end Go.Proofs.Ytgjmaofgokgdiaa.Ax
