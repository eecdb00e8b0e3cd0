/-
  Plain lemmas on functions that may give nothing: loops that count, loops that search, lists as tables.
-/
import Derived.Test.YtbnoclklhcbidaaDoorAx4
namespace Go.Proofs.YtbnoclklhcbidaaDoor.Ax
open Go

abbrev BIG : Nat := 9223372036854775807

theorem nth_def {α : Type} [Inhabited α] (xs : List α) (i : Nat) : nth xs i = xs.getD i default := rfl
theorem nth_lt {α : Type} [Inhabited α] {xs : List α} {i : Nat} (h : i < xs.length) : nth xs i = xs[i] := by simp [nth, List.getD_eq_getElem?_getD, h]
theorem nth_mem {α : Type} [Inhabited α] {xs : List α} {i : Nat} (h : i < xs.length) : nth xs i ∈ xs := by rw [nth_lt h]; exact List.getElem_mem h
theorem nth_map' {α β : Type} [Inhabited α] [Inhabited β] (f : α → β) {xs : List α} {i : Nat} (h : i < xs.length) : nth (xs.map f) i = f (nth xs i) := by
  rw [nth_lt h, nth_lt (by simpa using h)]; simp
theorem nth_range {i n : Nat} (h : i < n) : nth (List.range n) i = i := by rw [nth_lt (by simpa using h)]; simp
theorem nth_replicate {α : Type} [Inhabited α] {n i : Nat} (x : α) (h : i < n) : nth (List.replicate n x) i = x := by rw [nth_lt (by simpa using h)]; simp
theorem nth_set {α : Type} [Inhabited α] (xs : List α) (i j : Nat) (v : α) (h : j < xs.length) : nth (xs.set i v) j = if i = j then v else nth xs j := by
  rw [nth_lt (by simpa using h), nth_lt h, List.getElem_set]
theorem nth_append_left {α : Type} [Inhabited α] {xs ys : List α} {i : Nat} (h : i < xs.length) : nth (xs ++ ys) i = nth xs i := by
  rw [nth_lt (by simp; omega), nth_lt h, List.getElem_append_left h]
theorem nth_append_len {α : Type} [Inhabited α] {xs : List α} {y : α} : nth (xs ++ [y]) xs.length = y := by
  rw [nth_lt (by simp)]; simp
theorem nth_ext {α : Type} [Inhabited α] {xs ys : List α} (hl : xs.length = ys.length) (h : ∀ i, i < xs.length → nth xs i = nth ys i) : xs = ys := by
  refine List.ext_getElem hl fun i h1 h2 => ?_
  have := h i h1
  rwa [nth_lt h1, nth_lt h2] at this
theorem mem_nth {α : Type} [Inhabited α] {xs : List α} {x : α} : x ∈ xs ↔ ∃ i, i < xs.length ∧ nth xs i = x := by
  constructor
  · intro h
    obtain ⟨i, h1, h2⟩ := List.mem_iff_getElem.1 h
    exact ⟨i, h1, by rw [nth_lt h1, h2]⟩
  · rintro ⟨i, h1, rfl⟩; exact nth_mem h1
theorem take_nth {α : Type} [Inhabited α] {xs : List α} {i : Nat} (h : i < xs.length) : xs.take (i + 1) = xs.take i ++ [nth xs i] := by
  rw [List.take_add_one, nth_lt h]; simp [h]
theorem drop_nth' {α : Type} [Inhabited α] {xs : List α} {i : Nat} (h : i < xs.length) : xs.drop i = nth xs i :: xs.drop (i + 1) := by
  rw [List.drop_eq_getElem_cons h, nth_lt h]

/-- put one by one -/
theorem set_put {α : Type} (xs : List α) (z v : α) {i n : Nat} (hi : i < n) (hl : xs.length = i) : (xs ++ List.replicate (n - i) z).set i v = (xs ++ [v]) ++ List.replicate (n - (i + 1)) z := by
  subst hl
  rw [List.set_append_right _ _ (Nat.le_refl _), Nat.sub_self]
  have : n - xs.length = (n - (xs.length + 1)) + 1 := by omega
  rw [this, List.replicate_succ, List.set_cons_zero]
  simp

section
variable {σ τ : Type} {body : σ → Option (σ ⊕ τ)}
theorem loopO_next {s s' : σ} (h : body s = some (.inl s')) : loopO body s = loopO body s' := by rw [loopO_eq, h]
theorem loopO_stop {s : σ} {t : τ} (h : body s = some (.inr t)) : loopO body s = some t := by rw [loopO_eq, h]
/-- a loop whose states are known -/
theorem loop_seq (s : Nat → σ) (n : Nat) (t : τ) (h : ∀ i, i < n → body (s i) = some (.inl (s (i + 1)))) (he : body (s n) = some (.inr t)) : loopO body (s 0) = some t := by
  have key : ∀ k, k ≤ n → loopO body (s 0) = loopO body (s k) := by
    intro k
    induction k with
    | zero => intro _; rfl
    | succ k ih => intro hk; rw [ih (by omega), loopO_next (h k (by omega))]
  rw [key n (Nat.le_refl _), loopO_stop he]
/-- the same, from a state on -/
theorem loop_from (s : Nat → σ) (i0 n : Nat) (t : τ) (h0 : i0 ≤ n) (h : ∀ i, i0 ≤ i → i < n → body (s i) = some (.inl (s (i + 1)))) (he : body (s n) = some (.inr t)) : loopO body (s i0) = some t := by
  have := loop_seq (body := body) (fun k => s (i0 + k)) (n - i0) t (fun i hi => by simpa [Nat.add_assoc] using h (i0 + i) (by omega) (by omega)) (by
    show body (s (i0 + (n - i0))) = _
    rw [show i0 + (n - i0) = n by omega]; exact he)
  simpa using this
/-- a loop by a relation and a measure -/
theorem loop_inv (inv : σ → Prop) (μ : σ → Nat) (post : τ → Prop) (h : ∀ s, inv s → (∃ s', body s = some (.inl s') ∧ inv s' ∧ μ s' < μ s) ∨ (∃ t, body s = some (.inr t) ∧ post t)) : ∀ {s : σ}, inv s → ∃ t, loopO body s = some t ∧ post t := by
  have key : ∀ k s, μ s ≤ k → inv s → ∃ t, loopO body s = some t ∧ post t := by
    intro k
    induction k with
    | zero =>
      intro s hk hs
      rcases h s hs with ⟨s', h1, h2, h3⟩ | ⟨t, h1, h2⟩
      · omega
      · exact ⟨t, loopO_stop h1, h2⟩
    | succ k ih =>
      intro s hk hs
      rcases h s hs with ⟨s', h1, h2, h3⟩ | ⟨t, h1, h2⟩
      · rw [loopO_next h1]; exact ih s' (by omega) h2
      · exact ⟨t, loopO_stop h1, h2⟩
  intro s hs
  exact key (μ s) s (Nat.le_refl _) hs
end

open Classical in
/-- a loop that searches: the states are known, each place is looked at -/
theorem loop_find1 {σ α β : Type} {body : σ → Option (σ ⊕ (α ⊕ β))} (s : Nat → σ) (i0 n : Nat) (bad : Nat → Prop) (a : α) (b : β) (hi0 : i0 ≤ n)
    (h : ∀ i, i0 ≤ i → i < n → ¬ bad i → body (s i) = some (.inl (s (i + 1)))) (hb : ∀ i, i0 ≤ i → i < n → bad i → body (s i) = some (.inr (.inl a))) (he : body (s n) = some (.inr (.inr b))) :
    loopO body (s i0) = some (if ∃ i, i0 ≤ i ∧ i < n ∧ bad i then .inl a else .inr b) := by
  by_cases hx : ∃ i, i0 ≤ i ∧ i < n ∧ bad i
  · rw [if_pos hx]
    -- the first one
    obtain ⟨i, h1, h2, h3, h4⟩ : ∃ i, i0 ≤ i ∧ i < n ∧ bad i ∧ ∀ j, i0 ≤ j → j < i → ¬ bad j := by
      have key : ∀ k i, i ≤ k → i0 ≤ i → i < n → bad i → ∃ i, i0 ≤ i ∧ i < n ∧ bad i ∧ ∀ j, i0 ≤ j → j < i → ¬ bad j := by
        intro k
        induction k with
        | zero => intro i hk h1 h2 h3; exact ⟨i, h1, h2, h3, fun j _ hj => by omega⟩
        | succ k ih =>
          intro i hk h1 h2 h3
          by_cases hy : ∃ j, i0 ≤ j ∧ j < i ∧ bad j
          · obtain ⟨j, k1, k2, k3⟩ := hy
            exact ih j (by omega) k1 (by omega) k3
          · exact ⟨i, h1, h2, h3, fun j k1 k2 k3 => hy ⟨j, k1, k2, k3⟩⟩
      obtain ⟨i, h1, h2, h3⟩ := hx
      exact key i i (Nat.le_refl _) h1 h2 h3
    exact loop_from s i0 i (.inl a) h1 (fun j k1 k2 => h j k1 (by omega) (h4 j k1 k2)) (hb i h1 h2 h3)
  · rw [if_neg hx]
    exact loop_from s i0 n (.inr b) hi0 (fun j k1 k2 => h j k1 k2 fun hc => hx ⟨j, k1, k2, hc⟩) he
open Classical in
theorem loop_find {σ α β : Type} {body : σ → Option (σ ⊕ (α ⊕ β))} (s : Nat → σ) (n : Nat) (bad : Nat → Prop) (a : α) (b : β)
    (h : ∀ i, i < n → ¬ bad i → body (s i) = some (.inl (s (i + 1)))) (hb : ∀ i, i < n → bad i → body (s i) = some (.inr (.inl a))) (he : body (s n) = some (.inr (.inr b))) (i0 : Nat) (hi0 : i0 ≤ n) :
    loopO body (s i0) = some (if ∃ i, i0 ≤ i ∧ i < n ∧ bad i then .inl a else .inr b) :=
  loop_find1 s i0 n bad a b hi0 (fun i _ => h i) (fun i _ => hb i) he
open Classical in
/-- .. answered by a bool -/
theorem find_bool {σ : Type} {body : σ → Option (σ ⊕ (Unit ⊕ Unit))} {s0 : σ} {p : Prop} (h : loopO body s0 = some (if p then .inl () else .inr ())) (x y : Bool) :
    ((loopO body s0).bind fun t => match t with | .inl _ => some x | .inr _ => some y) = some (if p then x else y) := by
  rw [h]
  by_cases hp : p <;> simp [hp]

/-- tables -/
def tab (n : Nat) (f : Nat → Nat → Bool) : List (List Bool) := (List.range n).map fun y => (List.range n).map fun x => f y x
theorem tab_len (n : Nat) (f : Nat → Nat → Bool) : (tab n f).length = n := by simp [tab]
theorem tab_row (n : Nat) (f : Nat → Nat → Bool) (y : Nat) (h : y < n) : nth (tab n f) y = (List.range n).map fun x => f y x := by
  rw [nth_lt (by simp [tab]; exact h)]; simp [tab]
theorem tab_row_len (n : Nat) (f : Nat → Nat → Bool) (y : Nat) (h : y < n) : (nth (tab n f) y).length = n := by rw [tab_row n f y h]; simp
theorem tab_at (n : Nat) (f : Nat → Nat → Bool) (y x : Nat) (h : y < n) (h2 : x < n) : nth (nth (tab n f) y) x = f y x := by
  rw [tab_row n f y h, nth_lt (by simpa using h2)]; simp
theorem tabI_len (n : Nat) (f : Nat → Nat → Bool) (y : Nat) (h : y < n) : (nth (tab n f) ((y : Int)).toNat).length = n := tab_row_len n f y h
theorem tabI_at (n : Nat) (f : Nat → Nat → Bool) (y x : Nat) (h : y < n) (h2 : x < n) : nth (nth (tab n f) ((y : Int)).toNat) ((x : Int)).toNat = f y x := tab_at n f y x h h2
theorem tab_congr {n : Nat} {f g : Nat → Nat → Bool} (h : ∀ y x, y < n → x < n → f y x = g y x) : tab n f = tab n g := by
  unfold tab
  refine List.map_congr_left fun y hy => List.map_congr_left fun x hx => h y x (List.mem_range.1 hy) (List.mem_range.1 hx)
theorem tab_false (n : Nat) : tab n (fun _ _ => false) = List.replicate n (List.replicate n false) := by
  refine List.ext_getElem (by simp [tab]) fun a ha hb => ?_
  simp only [tab, List.getElem_map, List.getElem_replicate]
  refine List.ext_getElem (by simp) fun b hb1 hb2 => ?_
  simp
theorem tab_set (n : Nat) (f : Nat → Nat → Bool) (y x : Nat) (v : Bool) (h : y < n) (_h2 : x < n) : (tab n f).set y ((nth (tab n f) y).set x v) = tab n (fun a b => if a = y ∧ b = x then v else f a b) := by
  rw [tab_row n f y h]
  refine List.ext_getElem (by simp [tab]) fun a ha hb => ?_
  have ha' : a < n := by simpa [tab] using ha
  simp only [tab, List.getElem_set, List.getElem_map, List.getElem_range]
  refine List.ext_getElem (by split <;> simp) fun b hb1 hb2 => ?_
  have hb' : b < n := by simpa using hb2
  by_cases hay : y = a
  · subst hay
    simp only [if_true, List.getElem_set, List.getElem_map, List.getElem_range, true_and]
    by_cases hbx : x = b
    · subst hbx; simp
    · rw [if_neg hbx, if_neg (Ne.symm hbx)]
  · simp [hay, Ne.symm hay]

end Go.Proofs.YtbnoclklhcbidaaDoor.Ax
