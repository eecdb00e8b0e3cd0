/-
  IsAtMost, MinimalElements, MaximalElements: what the program and the reference compute.
-/
import Derived.Test.YtbnoclklhcbidaaDoorP5
namespace Go.Proofs.YtbnoclklhcbidaaDoor.Ax
open Go Classical

/-- the numbers below n that something holds of -/
def sieve (n : Nat) (p : Nat → Bool) : List Int := ((List.range n).filter p).map fun i : Nat => (i : Int)
theorem sieve_congr {n : Nat} {p q : Nat → Bool} (h : ∀ i, i < n → p i = q i) : sieve n p = sieve n q := by
  unfold sieve
  congr 1
  exact List.filter_congr fun i hi => h i (List.mem_range.1 hi)
theorem sieve_succ (n : Nat) (p : Nat → Bool) : sieve (n + 1) p = if p n then sieve n p ++ [(n : Int)] else sieve n p := by
  unfold sieve
  rw [List.range_succ, List.filter_append, List.map_append]
  by_cases h : p n <;> simp [h]
theorem sieve_len (n : Nat) (p : Nat → Bool) : (sieve n p).length ≤ n := by
  unfold sieve
  rw [List.length_map]
  exact Nat.le_trans (List.length_filter_le _ _) (by simp)
theorem mem_sieve {n : Nat} {p : Nat → Bool} {x : Int} : x ∈ sieve n p ↔ ∃ i : Nat, i < n ∧ p i = true ∧ x = i := by
  unfold sieve
  rw [List.mem_map]
  constructor
  · rintro ⟨i, hi, rfl⟩
    have := List.mem_filter.1 hi
    exact ⟨i, List.mem_range.1 this.1, this.2, rfl⟩
  · rintro ⟨i, h1, h2, rfl⟩
    exact ⟨i, List.mem_filter.2 ⟨List.mem_range.2 h1, h2⟩, rfl⟩
theorem sieve_nil {n : Nat} {p : Nat → Bool} : sieve n p = [] ↔ ∀ i, i < n → p i = false := by
  constructor
  · intro h i hi
    cases hp : p i with
    | false => rfl
    | true =>
      have : (i : Int) ∈ sieve n p := mem_sieve.2 ⟨i, hi, hp, rfl⟩
      rw [h] at this; cases this
  · intro h
    refine List.eq_nil_iff_forall_not_mem.2 fun x hx => ?_
    obtain ⟨i, h1, h2, _⟩ := mem_sieve.1 hx
    rw [h i h1] at h2; cases h2

/-- a loop that sifts -/
theorem loop_sieve {body : (Int × List Int) → Option ((Int × List Int) ⊕ List Int)} (n : Nat) (p : Nat → Bool)
    (h : ∀ (i : Nat) acc, i < n → acc.length ≤ i → body ((i : Int), acc) = some (.inl (((i + 1 : Nat) : Int), if p i then acc ++ [(i : Int)] else acc)))
    (he : ∀ acc, body ((n : Int), acc) = some (.inr acc)) : loopO body (0, nilL Int) = some (sieve n p) := by
  have := loop_seq (body := body) (fun i => ((i : Int), sieve i p)) n (sieve n p) (fun i hi => by
    rw [h i _ hi (sieve_len i p), sieve_succ]) (he _)
  have e : sieve 0 p = nilL Int := rfl
  simp only [e] at this
  exact this

theorem F_less (n : Nat) (f : Nat → Nat → Bool) (x y : Nat) (hx : x < n) (hy : y < n) : F_impl_order_less (tab n f) x y = some (decide (x ≠ y) && f x y) := by
  unfold F_impl_order_less
  have tl := tab_len n f
  have rl := tabI_len n f x hx
  by_cases h : x = y
  · subst h; simp
  · rw [if_pos (by omega), ask_pos (by omega), ask_pos (by omega), tabI_at n f x y hx hy]
    simp [h]

section
variable {p : SPoset}
theorem good_row (hg : good p.Below) (x : Nat) (hx : x < p.Below.length) : rises (nth p.Below x) ∧ inSize (nth p.Below x) p.Below.length := by
  have := (good_iff _).2 hg
  exact this.1.2 _ (nth_mem hx)
theorem good_refl (hg : good p.Below) (x : Nat) (hx : x < p.Below.length) : below p.Below x x = true := ((good_iff _).2 hg).2 x hx |>.1
theorem good_anti (hg : good p.Below) (x y : Nat) (hx : x < p.Below.length) (hy : y < p.Below.length) (h1 : below p.Below x y = true) (h2 : below p.Below y x = true) : x = y := by
  have := ((((good_iff _).2 hg).2 x hx).2 y hy).1
  exact Classical.byContradiction fun hc => this ⟨hc, h1, h2⟩
theorem good_trans (hg : good p.Below) (x y z : Nat) (hx : x < p.Below.length) (hy : y < p.Below.length) (hz : z < p.Below.length) (h1 : below p.Below x y = true) (h2 : below p.Below y z = true) : below p.Below x z = true :=
  ((((good_iff _).2 hg).2 x hx).2 y hy).2 z hz h1 h2

theorem rises_lt {xs : List Int} (h : rises xs) : ∀ {j i : Nat}, i < j → j < xs.length → nth xs i < nth xs j := by
  intro j
  induction j with
  | zero => intro i hi; omega
  | succ j ih =>
    intro i hi hj
    have := h (j + 1) (by omega) hj
    rw [Nat.add_sub_cancel] at this
    by_cases hij : i = j
    · subst hij; exact this
    · exact Int.lt_trans (ih (by omega) (by omega)) this

/-- two rising lists with the same members are one -/
theorem rises_ext : ∀ {xs ys : List Int}, rises xs → rises ys → (∀ x, x ∈ xs ↔ x ∈ ys) → xs = ys := by
  have tl : ∀ {x : Int} {xs : List Int}, rises (x :: xs) → rises xs := by
    intro x xs h i h1 h2
    have := h (i + 1) (by omega) (by simpa using h2)
    rw [Nat.add_sub_cancel] at this
    have e1 : nth (x :: xs) (i + 1) = nth xs i := rfl
    have e2 : nth (x :: xs) i = nth xs (i - 1) := by
      cases i with
      | zero => omega
      | succ i => rfl
    rw [e1, e2] at this; exact this
  have hd : ∀ {x : Int} {xs : List Int}, rises (x :: xs) → ∀ y ∈ xs, x < y := by
    intro x xs h y hy
    obtain ⟨i, hi, rfl⟩ := mem_nth.1 hy
    exact rises_lt h (i := 0) (j := i + 1) (by omega) (by simpa using hi)
  intro xs
  induction xs with
  | nil =>
    intro ys _ _ h
    cases ys with
    | nil => rfl
    | cons y r => have := (h y).2 (by simp); cases this
  | cons x r ih =>
    intro ys h1 h2 h
    cases ys with
    | nil => have := (h x).1 (by simp); cases this
    | cons y s =>
      have e : x = y := by
        have a := (h x).1 (by simp)
        have b := (h y).2 (by simp)
        rcases List.mem_cons.1 a with a | a
        · exact a
        · rcases List.mem_cons.1 b with b | b
          · exact b.symm
          · have := hd h2 _ a; have := hd h1 _ b; omega
      subst e
      congr 1
      refine ih (tl h1) (tl h2) fun z => ?_
      constructor
      · intro hz
        rcases List.mem_cons.1 ((h z).1 (by simp [hz])) with e | e
        · subst e; have := hd h1 _ hz; omega
        · exact e
      · intro hz
        rcases List.mem_cons.1 ((h z).2 (by simp [hz])) with e | e
        · subst e; have := hd h2 _ hz; omega
        · exact e
theorem sieve_rises (n : Nat) (q : Nat → Bool) : rises (sieve n q) := by
  induction n with
  | zero => intro i h1 h2; simp [sieve] at h2
  | succ n ih =>
    rw [sieve_succ]
    split
    · intro i h1 h2
      by_cases hi : i < (sieve n q).length
      · rw [nth_append_left hi, nth_append_left (by omega)]; exact ih i h1 hi
      · have hi2 : i = (sieve n q).length := by simp at h2; omega
        subst hi2
        rw [nth_append_len, nth_append_left (by omega)]
        obtain ⟨k, hk, _, e⟩ := mem_sieve.1 (nth_mem (xs := sieve n q) (i := (sieve n q).length - 1) (by omega))
        rw [e]; omega
    · exact ih
/-- a row, by the order -/
theorem row_eq (hg : good p.Below) (x : Nat) (hx : x < p.Below.length) : nth p.Below x = sieve p.Below.length fun y => below p.Below y x := by
  obtain ⟨h1, h2⟩ := good_row hg x hx
  refine rises_ext h1 (sieve_rises _ _) fun z => ?_
  rw [mem_sieve]
  constructor
  · intro hz
    obtain ⟨k, hk⟩ := Int.eq_ofNat_of_zero_le (h2 z hz).1
    have := (h2 z hz).2
    exact ⟨k, by omega, by rw [hk] at hz; simpa [below] using hz, hk⟩
  · rintro ⟨k, _, hb, rfl⟩
    simpa [below] using hb
theorem posets_ext {q : SPoset} (hl : p.Below.length = q.Below.length) (h : ∀ x, x < p.Below.length → nth p.Below x = nth q.Below x) : p = q := by
  have : p.Below = q.Below := nth_ext hl h
  cases p; cases q; simp_all
end

theorem F_l23Leq {p : SPoset} (hs : small p) (x y : Nat) (hy : y < p.Below.length) : F_spec_l23Leq p x y = some (below p.Below x y) := by
  unfold F_spec_l23Leq
  rw [ask_pos (by omega)]
  simp only [Int.toNat_natCast]
  rw [F_l1Has _ _ (hs.2 _ (nth_mem hy))]
  simp only [Option.bind_some, below]
/-- only itself is below -/
theorem least_iff {p : SPoset} (hg : good p.Below) (x : Nat) (hx : x < p.Below.length) : (nth p.Below x).length = 1 ↔ ∀ y, y < p.Below.length → ¬ (y ≠ x ∧ below p.Below y x = true) := by
  have hr := good_refl hg x hx
  have hm : (x : Int) ∈ nth p.Below x := by simpa [below] using hr
  constructor
  · intro h1 y hy hc
    have hmy : (y : Int) ∈ nth p.Below x := by simpa [below] using hc.2
    obtain ⟨z, hz⟩ := List.length_eq_one_iff.1 h1
    rw [hz] at hm hmy
    simp at hm hmy
    omega
  · intro h
    have e : nth p.Below x = [(x : Int)] := by
      refine rises_ext (good_row hg x hx).1 (by intro i h1 h2; simp at h2; omega) fun z => ?_
      rw [List.mem_singleton]
      constructor
      · intro hz
        obtain ⟨h1, h2⟩ := (good_row hg x hx).2 z hz
        obtain ⟨k, rfl⟩ := Int.eq_ofNat_of_zero_le h1
        have := h k (by omega)
        have hb : below p.Below k x = true := by simpa [below] using hz
        have : k = x := Classical.byContradiction fun hc => this ⟨hc, hb⟩
        rw [this]
      · rintro rfl; exact hm
    rw [e]; rfl

end Go.Proofs.YtbnoclklhcbidaaDoor.Ax
