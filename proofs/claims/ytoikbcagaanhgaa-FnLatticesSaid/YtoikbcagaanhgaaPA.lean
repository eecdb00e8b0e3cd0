/-
  Plain facts, joined.
-/
import Derived.Test.YtoikbcagaanhgaaAx4
import Derived.Test.YtoikbcagaanhgaaGALL
namespace Go.Proofs.Ytoikbcagaanhgaa.Ax
open Go
abbrev BIG : Nat := 9223372036854775807
theorem nth_lt {α : Type} [Inhabited α] {xs : List α} {i : Nat} (h : i < xs.length) : nth xs i = xs[i] := by simp [nth, List.getD_eq_getElem?_getD, h]
theorem nth_mem {α : Type} [Inhabited α] {xs : List α} {i : Nat} (h : i < xs.length) : nth xs i ∈ xs := by rw [nth_lt h]; exact List.getElem_mem h
theorem nth_map' {α β : Type} [Inhabited α] [Inhabited β] (f : α → β) {xs : List α} {i : Nat} (h : i < xs.length) : nth (xs.map f) i = f (nth xs i) := by
  rw [nth_lt h, nth_lt (by simpa using h)]; simp
theorem nth_range {i n : Nat} (h : i < n) : nth (List.range n) i = i := by rw [nth_lt (by simpa using h)]; simp
theorem nth_replicate {α : Type} [Inhabited α] {n i : Nat} (x : α) (h : i < n) : nth (List.replicate n x) i = x := by rw [nth_lt (by simpa using h)]; simp
theorem nth_set {α : Type} [Inhabited α] (xs : List α) (i j : Nat) (v : α) (h : j < xs.length) : nth (xs.set i v) j = if i = j then v else nth xs j := by
  rw [nth_lt (by simpa using h), nth_lt h, List.getElem_set]
theorem nth_append_left {α : Type} [Inhabited α] {xs ys : List α} {i : Nat} (h : i < xs.length) : nth (xs ++ ys) i = nth xs i := by
  rw [nth_lt (by simp; omega), nth_lt h, List.getElem_append_left h]
theorem nth_append_len {α : Type} [Inhabited α] {xs : List α} {y : α} : nth (xs ++ [y]) xs.length = y := by
  rw [nth_lt (by simp)]; simp
theorem nth_ext {α : Type} [Inhabited α] {xs ys : List α} (hl : xs.length = ys.length) (h : ∀ i, i < xs.length → nth xs i = nth ys i) : xs = ys := by
  refine List.ext_getElem hl fun i h1 h2 => ?_
  have := h i h1
  rwa [nth_lt h1, nth_lt h2] at this
theorem mem_nth {α : Type} [Inhabited α] {xs : List α} {x : α} : x ∈ xs ↔ ∃ i, i < xs.length ∧ nth xs i = x := by
  constructor
  · intro h
    obtain ⟨i, h1, h2⟩ := List.mem_iff_getElem.1 h
    exact ⟨i, h1, by rw [nth_lt h1, h2]⟩
  · rintro ⟨i, h1, rfl⟩; exact nth_mem h1
theorem take_nth {α : Type} [Inhabited α] {xs : List α} {i : Nat} (h : i < xs.length) : xs.take (i + 1) = xs.take i ++ [nth xs i] := by
  rw [List.take_add_one, nth_lt h]; simp [h]
theorem set_put {α : Type} (xs : List α) (z v : α) {i n : Nat} (hi : i < n) (hl : xs.length = i) : (xs ++ List.replicate (n - i) z).set i v = (xs ++ [v]) ++ List.replicate (n - (i + 1)) z := by
  subst hl
  rw [List.set_append_right _ _ (Nat.le_refl _), Nat.sub_self]
  have : n - xs.length = (n - (xs.length + 1)) + 1 := by omega
  rw [this, List.replicate_succ, List.set_cons_zero]
  simp
section
variable {σ τ : Type} {body : σ → Option (σ ⊕ τ)}
theorem loopO_next {s s' : σ} (h : body s = some (.inl s')) : loopO body s = loopO body s' := by rw [loopO_eq, h]
theorem loopO_stop {s : σ} {t : τ} (h : body s = some (.inr t)) : loopO body s = some t := by rw [loopO_eq, h]
theorem loop_seq (s : Nat → σ) (n : Nat) (t : τ) (h : ∀ i, i < n → body (s i) = some (.inl (s (i + 1)))) (he : body (s n) = some (.inr t)) : loopO body (s 0) = some t := by
  have key : ∀ k, k ≤ n → loopO body (s 0) = loopO body (s k) := by
    intro k
    induction k with
    | zero => intro _; rfl
    | succ k ih => intro hk; rw [ih (by omega), loopO_next (h k (by omega))]
  rw [key n (Nat.le_refl _), loopO_stop he]
theorem loop_from (s : Nat → σ) (i0 n : Nat) (t : τ) (h0 : i0 ≤ n) (h : ∀ i, i0 ≤ i → i < n → body (s i) = some (.inl (s (i + 1)))) (he : body (s n) = some (.inr t)) : loopO body (s i0) = some t := by
  have := loop_seq (body := body) (fun k => s (i0 + k)) (n - i0) t (fun i hi => by simpa [Nat.add_assoc] using h (i0 + i) (by omega) (by omega)) (by
    show body (s (i0 + (n - i0))) = _
    rw [show i0 + (n - i0) = n by omega]; exact he)
  simpa using this
theorem loop_inv (inv : σ → Prop) (μ : σ → Nat) (post : τ → Prop) (h : ∀ s, inv s → (∃ s', body s = some (.inl s') ∧ inv s' ∧ μ s' < μ s) ∨ (∃ t, body s = some (.inr t) ∧ post t)) : ∀ {s : σ}, inv s → ∃ t, loopO body s = some t ∧ post t := by
  have key : ∀ k s, μ s ≤ k → inv s → ∃ t, loopO body s = some t ∧ post t := by
    intro k
    induction k with
    | zero =>
      intro s hk hs
      rcases h s hs with ⟨s', h1, h2, h3⟩ | ⟨t, h1, h2⟩
      · omega
      · exact ⟨t, loopO_stop h1, h2⟩
    | succ k ih =>
      intro s hk hs
      rcases h s hs with ⟨s', h1, h2, h3⟩ | ⟨t, h1, h2⟩
      · rw [loopO_next h1]; exact ih s' (by omega) h2
      · exact ⟨t, loopO_stop h1, h2⟩
  intro s hs
  exact key (μ s) s (Nat.le_refl _) hs
end
open Classical in
theorem loop_find1 {σ α β : Type} {body : σ → Option (σ ⊕ (α ⊕ β))} (s : Nat → σ) (i0 n : Nat) (bad : Nat → Prop) (a : α) (b : β) (hi0 : i0 ≤ n)
    (h : ∀ i, i0 ≤ i → i < n → ¬ bad i → body (s i) = some (.inl (s (i + 1)))) (hb : ∀ i, i0 ≤ i → i < n → bad i → body (s i) = some (.inr (.inl a))) (he : body (s n) = some (.inr (.inr b))) :
    loopO body (s i0) = some (if ∃ i, i0 ≤ i ∧ i < n ∧ bad i then .inl a else .inr b) := by
  by_cases hx : ∃ i, i0 ≤ i ∧ i < n ∧ bad i
  · rw [if_pos hx]
    obtain ⟨i, h1, h2, h3, h4⟩ : ∃ i, i0 ≤ i ∧ i < n ∧ bad i ∧ ∀ j, i0 ≤ j → j < i → ¬ bad j := by
      have key : ∀ k i, i ≤ k → i0 ≤ i → i < n → bad i → ∃ i, i0 ≤ i ∧ i < n ∧ bad i ∧ ∀ j, i0 ≤ j → j < i → ¬ bad j := by
        intro k
        induction k with
        | zero => intro i hk h1 h2 h3; exact ⟨i, h1, h2, h3, fun j _ hj => by omega⟩
        | succ k ih =>
          intro i hk h1 h2 h3
          by_cases hy : ∃ j, i0 ≤ j ∧ j < i ∧ bad j
          · obtain ⟨j, k1, k2, k3⟩ := hy
            exact ih j (by omega) k1 (by omega) k3
          · exact ⟨i, h1, h2, h3, fun j k1 k2 k3 => hy ⟨j, k1, k2, k3⟩⟩
      obtain ⟨i, h1, h2, h3⟩ := hx
      exact key i i (Nat.le_refl _) h1 h2 h3
    exact loop_from s i0 i (.inl a) h1 (fun j k1 k2 => h j k1 (by omega) (h4 j k1 k2)) (hb i h1 h2 h3)
  · rw [if_neg hx]
    exact loop_from s i0 n (.inr b) hi0 (fun j k1 k2 => h j k1 k2 fun hc => hx ⟨j, k1, k2, hc⟩) he
open Classical in
theorem loop_find {σ α β : Type} {body : σ → Option (σ ⊕ (α ⊕ β))} (s : Nat → σ) (n : Nat) (bad : Nat → Prop) (a : α) (b : β)
    (h : ∀ i, i < n → ¬ bad i → body (s i) = some (.inl (s (i + 1)))) (hb : ∀ i, i < n → bad i → body (s i) = some (.inr (.inl a))) (he : body (s n) = some (.inr (.inr b))) (i0 : Nat) (hi0 : i0 ≤ n) :
    loopO body (s i0) = some (if ∃ i, i0 ≤ i ∧ i < n ∧ bad i then .inl a else .inr b) :=
  loop_find1 s i0 n bad a b hi0 (fun i _ => h i) (fun i _ => hb i) he
open Classical in
theorem find_bool {σ : Type} {body : σ → Option (σ ⊕ (Unit ⊕ Unit))} {s0 : σ} {p : Prop} (h : loopO body s0 = some (if p then .inl () else .inr ())) (x y : Bool) :
    ((loopO body s0).bind fun t => match t with | .inl _ => some x | .inr _ => some y) = some (if p then x else y) := by
  rw [h]
  by_cases hp : p <;> simp [hp]
def tab (n : Nat) (f : Nat → Nat → Bool) : List (List Bool) := (List.range n).map fun y => (List.range n).map fun x => f y x
theorem tab_len (n : Nat) (f : Nat → Nat → Bool) : (tab n f).length = n := by simp [tab]
theorem tab_row (n : Nat) (f : Nat → Nat → Bool) (y : Nat) (h : y < n) : nth (tab n f) y = (List.range n).map fun x => f y x := by
  rw [nth_lt (by simp [tab]; exact h)]; simp [tab]
theorem tab_row_len (n : Nat) (f : Nat → Nat → Bool) (y : Nat) (h : y < n) : (nth (tab n f) y).length = n := by rw [tab_row n f y h]; simp
theorem tab_at (n : Nat) (f : Nat → Nat → Bool) (y x : Nat) (h : y < n) (h2 : x < n) : nth (nth (tab n f) y) x = f y x := by
  rw [tab_row n f y h, nth_lt (by simpa using h2)]; simp
theorem tabI_len (n : Nat) (f : Nat → Nat → Bool) (y : Nat) (h : y < n) : (nth (tab n f) ((y : Int)).toNat).length = n := tab_row_len n f y h
theorem tabI_at (n : Nat) (f : Nat → Nat → Bool) (y x : Nat) (h : y < n) (h2 : x < n) : nth (nth (tab n f) ((y : Int)).toNat) ((x : Int)).toNat = f y x := tab_at n f y x h h2
theorem tab_congr {n : Nat} {f g : Nat → Nat → Bool} (h : ∀ y x, y < n → x < n → f y x = g y x) : tab n f = tab n g := by
  unfold tab
  refine List.map_congr_left fun y hy => List.map_congr_left fun x hx => h y x (List.mem_range.1 hy) (List.mem_range.1 hx)
theorem tab_false (n : Nat) : tab n (fun _ _ => false) = List.replicate n (List.replicate n false) := by
  refine List.ext_getElem (by simp [tab]) fun a ha hb => ?_
  simp only [tab, List.getElem_map, List.getElem_replicate]
  refine List.ext_getElem (by simp) fun b hb1 hb2 => ?_
  simp
theorem tab_set (n : Nat) (f : Nat → Nat → Bool) (y x : Nat) (v : Bool) (h : y < n) (_h2 : x < n) : (tab n f).set y ((nth (tab n f) y).set x v) = tab n (fun a b => if a = y ∧ b = x then v else f a b) := by
  rw [tab_row n f y h]
  refine List.ext_getElem (by simp [tab]) fun a ha hb => ?_
  have ha' : a < n := by simpa [tab] using ha
  simp only [tab, List.getElem_set, List.getElem_map, List.getElem_range]
  refine List.ext_getElem (by split <;> simp) fun b hb1 hb2 => ?_
  have hb' : b < n := by simpa using hb2
  by_cases hay : y = a
  · subst hay
    simp only [if_true, List.getElem_set, List.getElem_map, List.getElem_range, true_and]
    by_cases hbx : x = b
    · subst hbx; simp
    · rw [if_neg hbx, if_neg (Ne.symm hbx)]
  · simp [hay, Ne.symm hay]
end Go.Proofs.Ytoikbcagaanhgaa.Ax
namespace Go.Proofs.Ytoikbcagaanhgaa.Ax
open Go Classical
theorem lim_def : LIM = 4294967296 := rfl
theorem find_all {n : Nat} {p : Nat → Prop} : (¬ ∃ i, 0 ≤ i ∧ i < n ∧ ¬ p i) ↔ ∀ i, i < n → p i := by
  constructor
  · intro h i hi; exact Classical.byContradiction fun hc => h ⟨i, by omega, hi, hc⟩
  · rintro h ⟨i, _, hi, hc⟩; exact hc (h i hi)
end Go.Proofs.Ytoikbcagaanhgaa.Ax
namespace Go.Proofs.Ytoikbcagaanhgaa.Ax
open Go Classical
theorem dec_not {p q : Prop} [Decidable p] [Decidable q] (h : ¬ p ↔ q) : (if p then false else true) = decide q := by
  by_cases hp : p
  · rw [if_pos hp, decide_eq_false]; exact fun hq => h.2 hq hp
  · rw [if_neg hp, decide_eq_true (h.1 hp)]
theorem dec_yes {p q : Prop} [Decidable p] [Decidable q] (h : p ↔ q) : (if p then true else false) = decide q := by
  by_cases hp : p
  · rw [if_pos hp, decide_eq_true (h.1 hp)]
  · rw [if_neg hp, decide_eq_false]; exact fun hq => hp (h.2 hq)
theorem F_l1In (x a b : Int) : F_spec_l1In x a b = some (decide (a ≤ x ∧ x ≤ b)) := by
  unfold F_spec_l1In
  split
  · rename_i h; congr 1; rw [decide_eq_decide]; constructor
    · intro h2; exact ⟨h, h2⟩
    · exact fun h2 => h2.2
  · rename_i h; rw [decide_eq_false]; exact fun h2 => h h2.1
def rising (xs : List Int) (lo hi : Int) : Prop := ∀ i, i < xs.length → (lo ≤ nth xs i ∧ nth xs i ≤ hi) ∧ (0 < i → nth xs (i - 1) < nth xs i)
theorem F_l1Rising (xs : List Int) (lo hi : Int) (h : xs.length ≤ LIM) : F_spec_l1Rising xs lo hi = some (decide (rising xs lo hi)) := by
  unfold F_spec_l1Rising
  rw [lim_def] at h
  have := loop_find (body := F_spec_l1Rising_l1 xs lo hi) (fun i => (i : Int)) xs.length (fun i => ¬ ((lo ≤ nth xs i ∧ nth xs i ≤ hi) ∧ (0 < i → nth xs (i - 1) < nth xs i))) () () (fun i hi' hb => by
    have hb := Classical.not_not.1 hb
    unfold F_spec_l1Rising_l1
    rw [if_pos (by omega), ask_pos (by omega), F_l1In]
    simp only [Int.toNat_natCast, Option.bind_some]
    rw [if_pos (by simpa using hb.1)]
    by_cases h0 : 0 < i
    · rw [if_pos (by omega), ask_pos (by unfold InI; omega), ask_pos (by omega), ask_pos (by omega)]
      rw [show ((i : Int) - 1).toNat = i - 1 by omega, if_neg (by have := hb.2 h0; omega), ask_pos (by unfold InI; omega)]; rfl
    · rw [if_neg (by omega), ask_pos (by unfold InI; omega)]; rfl) (fun i hi' hb => by
    unfold F_spec_l1Rising_l1
    rw [if_pos (by omega), ask_pos (by omega), F_l1In]
    simp only [Int.toNat_natCast, Option.bind_some]
    by_cases h1 : lo ≤ nth xs i ∧ nth xs i ≤ hi
    · have h2 : 0 < i ∧ ¬ nth xs (i - 1) < nth xs i := by
        by_cases h0 : 0 < i
        · exact ⟨h0, fun hc => hb ⟨h1, fun _ => hc⟩⟩
        · exact absurd ⟨h1, fun hc => absurd hc h0⟩ hb
      rw [if_pos (by simpa using h1), if_pos (by omega), ask_pos (by unfold InI; omega), ask_pos (by omega), ask_pos (by omega)]
      rw [show ((i : Int) - 1).toNat = i - 1 by omega, if_pos (by omega)]
    · rw [if_neg (by simpa using h1)]) (by unfold F_spec_l1Rising_l1; rw [if_neg (by omega)]) 0 (by omega)
  exact (find_bool this false true).trans (congrArg some (dec_not find_all))
theorem F_l1Has (xs : List Int) (n : Int) (h : xs.length ≤ LIM) : F_spec_l1Has xs n = some (decide (n ∈ xs)) := by
  unfold F_spec_l1Has
  rw [lim_def] at h
  have := loop_find (body := F_spec_l1Has_l1 xs n) (fun i => (i : Int)) xs.length (fun i => nth xs i = n) () () (fun i hi hb => by
    unfold F_spec_l1Has_l1
    rw [if_pos (by omega), ask_pos (by omega)]
    simp only [Int.toNat_natCast]
    rw [if_neg hb, ask_pos (by unfold InI; omega)]; rfl) (fun i hi hb => by
    unfold F_spec_l1Has_l1
    rw [if_pos (by omega), ask_pos (by omega)]
    simp only [Int.toNat_natCast]
    rw [if_pos hb]) (by unfold F_spec_l1Has_l1; rw [if_neg (by omega)]) 0 (by omega)
  refine (find_bool this true false).trans (congrArg some (dec_yes ?_))
  rw [mem_nth]
  constructor
  · rintro ⟨i, _, h1, h2⟩; exact ⟨i, h1, h2⟩
  · rintro ⟨i, h1, h2⟩; exact ⟨i, by omega, h1, h2⟩
theorem F_l5Within (xs ys : List Int) (h1 : xs.length ≤ LIM) (h2 : ys.length ≤ LIM) : F_spec_l5Within xs ys = some (decide (∀ x ∈ xs, x ∈ ys)) := by
  unfold F_spec_l5Within
  rw [lim_def] at h1
  have := loop_find (body := F_spec_l5Within_l1 xs ys) (fun i => (i : Int)) xs.length (fun i => ¬ nth xs i ∈ ys) () () (fun i hi hb => by
    unfold F_spec_l5Within_l1
    rw [if_pos (by omega), ask_pos (by omega), F_l1Has _ _ h2]
    simp only [Int.toNat_natCast, Option.bind_some]
    rw [if_pos (by simpa using hb), ask_pos (by unfold InI; omega)]; rfl) (fun i hi hb => by
    unfold F_spec_l5Within_l1
    rw [if_pos (by omega), ask_pos (by omega), F_l1Has _ _ h2]
    simp only [Int.toNat_natCast, Option.bind_some]
    rw [if_neg (by simpa using hb)]) (by unfold F_spec_l5Within_l1; rw [if_neg (by omega)]) 0 (by omega)
  refine (find_bool this false true).trans (congrArg some (dec_not ?_))
  rw [find_all]
  constructor
  · intro h x hx; obtain ⟨i, hi, rfl⟩ := mem_nth.1 hx; exact h i hi
  · intro h i hi; exact h _ (nth_mem hi)
def rises (xs : List Int) : Prop := ∀ i, 0 < i → i < xs.length → nth xs (i - 1) < nth xs i
def inSize (xs : List Int) (n : Int) : Prop := ∀ x ∈ xs, 0 ≤ x ∧ x < n
theorem F_rises (xs : List Int) (h : xs.length ≤ LIM) : F_impl_rises xs = some (decide (rises xs)) := by
  unfold F_impl_rises
  rw [lim_def] at h
  by_cases h0 : xs.length = 0
  · have : loopO (F_impl_rises_l1 xs) 1 = some (.inr ()) := loopO_stop (by unfold F_impl_rises_l1; rw [if_neg (by omega)])
    rw [this, decide_eq_true]
    · rfl
    · intro i _ hi; omega
  have := loop_find1 (body := F_impl_rises_l1 xs) (fun i => (i : Int)) 1 xs.length (fun i => ¬ nth xs (i - 1) < nth xs i) () () (by omega) (fun i hi0 hi hb => by
    unfold F_impl_rises_l1
    rw [if_pos (by omega), ask_pos (by unfold InI; omega), ask_pos (by omega), ask_pos (by omega)]
    simp only [Int.toNat_natCast]
    rw [show ((i : Int) - 1).toNat = i - 1 by omega, if_neg (by have := Classical.not_not.1 hb; omega), ask_pos (by unfold InI; omega)]; rfl) (fun i hi0 hi hb => by
    unfold F_impl_rises_l1
    rw [if_pos (by omega), ask_pos (by unfold InI; omega), ask_pos (by omega), ask_pos (by omega)]
    simp only [Int.toNat_natCast]
    rw [show ((i : Int) - 1).toNat = i - 1 by omega, if_pos (by omega)]) (by unfold F_impl_rises_l1; rw [if_neg (by omega)])
  refine (find_bool this false true).trans (congrArg some (dec_not ?_))
  constructor
  · intro h2 i h3 h4; exact Classical.byContradiction fun hc => h2 ⟨i, h3, h4, hc⟩
  · rintro h2 ⟨i, h3, h4, hc⟩; exact hc (h2 i h3 h4)
theorem F_inSize (xs : List Int) (n : Int) (h : xs.length ≤ LIM) : F_impl_inSize xs n = some (decide (inSize xs n)) := by
  unfold F_impl_inSize
  rw [lim_def] at h
  have := loop_find (body := F_impl_inSize_l1 xs n) (fun i => (i : Int)) xs.length (fun i => ¬ (0 ≤ nth xs i ∧ nth xs i < n)) () () (fun i hi hb => by
    unfold F_impl_inSize_l1
    have hb := Classical.not_not.1 hb
    rw [if_pos (by omega), ask_pos (by omega)]
    simp only [Int.toNat_natCast]
    rw [if_neg (by omega), if_neg (by omega), ask_pos (by unfold InI; omega)]; rfl) (fun i hi hb => by
    unfold F_impl_inSize_l1
    rw [if_pos (by omega), ask_pos (by omega)]
    simp only [Int.toNat_natCast]
    by_cases h0 : nth xs i < 0
    · rw [if_pos h0]
    · rw [if_neg h0, if_pos (by omega)]) (by unfold F_impl_inSize_l1; rw [if_neg (by omega)]) 0 (by omega)
  refine (find_bool this false true).trans (congrArg some (dec_not ?_))
  rw [find_all]
  constructor
  · intro h x hx; obtain ⟨i, hi, rfl⟩ := mem_nth.1 hx; exact h i hi
  · intro h i hi; exact h _ (nth_mem hi)
theorem F_newOrder (n : Nat) (h : n ≤ LIM) : F_impl_newOrder n = some (tab n fun _ _ => false) := by
  unfold F_impl_newOrder
  have h' := h
  rw [lim_def] at h'
  rw [ask_pos (by rw [lim_def]; omega)]
  have := loop_seq (body := F_impl_newOrder_l1 n) (fun i => ((i : Int), List.replicate i (List.replicate n false) ++ List.replicate (n - i) [])) n (tab n fun _ _ => false) (fun i hi => by
    unfold F_impl_newOrder_l1
    dsimp only
    rw [if_pos (by omega), ask_pos (by rw [lim_def]; omega), ask_pos (by simp; omega), ask_pos (by unfold InI; omega)]
    simp only [Int.toNat_natCast]
    rw [set_put _ _ _ hi (by simp), ← List.replicate_succ']
    rfl) (by
    unfold F_impl_newOrder_l1
    dsimp only
    rw [if_neg (by omega), tab_false]
    simp)
  simp only [List.replicate_zero, List.nil_append, Nat.sub_zero] at this
  simp only [Int.toNat_natCast]
  show (loopO _ (((0 : Nat) : Int), _)).bind _ = _
  rw [this]; rfl
def okAt (n : Nat) (f : Nat → Nat → Bool) (x y : Nat) : Prop := ¬ (x ≠ y ∧ f x y = true ∧ f y x = true) ∧ ∀ z, z < n → f x y = true → f y z = true → f x z = true
def isOrd (n : Nat) (f : Nat → Nat → Bool) : Prop := ∀ x, x < n → f x x = true ∧ ∀ y, y < n → okAt n f x y
theorem isOrder1 (n : Nat) (f : Nat → Nat → Bool) (h : n ≤ LIM) : ∀ x y, x < n → y < n → loopO (F_impl_order_isOrder_l1 (tab n f) x y) 0 = some (if ∃ z, 0 ≤ z ∧ z < n ∧ ¬ (f x y = true → f y z = true → f x z = true) then .inl () else .inr ()) := by
  rw [lim_def] at h
  have tl := tab_len n f
  have rl := tabI_len n f
  have at_ := tabI_at n f
  intro x y hx hy
  have rx := rl x hx
  have ry := rl y hy
  have step : ∀ z, z < n → F_impl_order_isOrder_l1 (tab n f) x y z = some (if f x y = true → f y z = true → f x z = true then .inl ((z + 1 : Nat) : Int) else .inr (.inl ())) := by
    intro z hz
    unfold F_impl_order_isOrder_l1
    rw [if_pos (by omega), ask_pos (by omega)]
    rw [ask_pos (by omega)]
    by_cases h1 : f x y = true
    · rw [if_pos ((at_ x y hx hy).trans h1), ask_pos (by omega), ask_pos (by omega)]
      by_cases h2 : f y z = true
      · rw [if_pos ((at_ y z hy hz).trans h2), ask_pos (by omega), ask_pos (by omega)]
        by_cases h3 : f x z = true
        · rw [if_pos ((at_ x z hx hz).trans h3), ask_pos (by unfold InI; omega), if_pos (fun _ _ => h3)]; rfl
        · rw [if_neg (by rw [at_ x z hx hz]; exact h3), if_neg (fun hc => h3 (hc h1 h2))]
      · rw [if_neg (by rw [at_ y z hy hz]; exact h2), ask_pos (by unfold InI; omega), if_pos (fun _ hc => absurd hc h2)]; rfl
    · rw [if_neg (by rw [at_ x y hx hy]; exact h1), ask_pos (by unfold InI; omega), if_pos (fun hc => absurd hc h1)]; rfl
  refine loop_find (body := F_impl_order_isOrder_l1 (tab n f) x y) (fun i => (i : Int)) n (fun z => ¬ (f x y = true → f y z = true → f x z = true)) () () (fun z hz hb => ?_) (fun z hz hb => ?_) ?_ 0 (by omega)
  · rw [step z hz, if_pos (Classical.not_not.1 hb)]
  · rw [step z hz, if_neg hb]
  · unfold F_impl_order_isOrder_l1
    rw [if_neg (by omega)]
theorem isOrder2 (n : Nat) (f : Nat → Nat → Bool) (h : n ≤ LIM) : ∀ x, x < n → loopO (F_impl_order_isOrder_l2 (tab n f) x) 0 = some (if ∃ y, 0 ≤ y ∧ y < n ∧ ¬ okAt n f x y then .inl () else .inr ()) := by
  have l1 := isOrder1 n f h
  rw [lim_def] at h
  have tl := tab_len n f
  have rl := tabI_len n f
  have at_ := tabI_at n f
  intro x hx
  have rx := rl x hx
  have step : ∀ y, y < n → F_impl_order_isOrder_l2 (tab n f) x y = some (if okAt n f x y then .inl ((y + 1 : Nat) : Int) else .inr (.inl ())) := by
    intro y hy
    have ry := rl y hy
    unfold F_impl_order_isOrder_l2
    rw [if_pos (by omega)]
    by_cases h1 : x ≠ y ∧ f x y = true ∧ f y x = true
    · rw [if_pos (by omega), ask_pos (by omega), ask_pos (by omega), if_pos ((at_ x y hx hy).trans h1.2.1), ask_pos (by omega), ask_pos (by omega), if_pos ((at_ y x hy hx).trans h1.2.2), if_neg (fun hc => hc.1 h1)]
      rfl
    · have piece : ∀ {α : Type} (A B : Option α) (h4 : x ≠ y → ¬ f x y = true → A = B) (h5 : x = y → A = B) (h6 : x ≠ y → f x y = true → ¬ f y x = true → A = B), A = B := by
        intro α A B h4 h5 h6
        by_cases hxy : x = y
        · exact h5 hxy
        · by_cases h2 : f x y = true
          · by_cases h3 : f y x = true
            · exact absurd ⟨hxy, h2, h3⟩ h1
            · exact h6 hxy h2 h3
          · exact h4 hxy h2
      have tail : ((loopO (F_impl_order_isOrder_l1 (tab n f) (x : Int) (y : Int)) 0).bind fun t => match t with
          | (.inl _) => (some (.inr (.inl ())))
          | (.inr _) => (ask (InI ((y : Int) + 1)) <| some (.inl ((y : Int) + 1)) : Option (Int ⊕ (Unit ⊕ Unit)))) = some (if okAt n f x y then .inl ((y + 1 : Nat) : Int) else .inr (.inl ())) := by
        rw [l1 x y hx hy]
        by_cases h2 : ∃ z, 0 ≤ z ∧ z < n ∧ ¬ (f x y = true → f y z = true → f x z = true)
        · rw [if_pos h2, if_neg]
          · rfl
          · intro hc; obtain ⟨z, _, hz, hd⟩ := h2; exact hd (hc.2 z hz)
        · rw [if_neg h2, if_pos ⟨h1, find_all.1 h2⟩]
          simp only [Option.bind_some]
          rw [ask_pos (by unfold InI; omega)]; rfl
      refine piece _ _ (fun h2 h3 => ?_) (fun h2 => ?_) (fun h2 h3 h4 => ?_)
      · rw [if_pos (by omega), ask_pos (by omega), ask_pos (by omega), if_neg (by rw [at_ x y hx hy]; exact h3)]
        exact tail
      · rw [if_neg (by omega)]
        exact tail
      · rw [if_pos (by omega), ask_pos (by omega), ask_pos (by omega), if_pos ((at_ x y hx hy).trans h3), ask_pos (by omega), ask_pos (by omega), if_neg (by rw [at_ y x hy hx]; exact h4)]
        exact tail
  refine loop_find (body := F_impl_order_isOrder_l2 (tab n f) x) (fun i => (i : Int)) n (fun y => ¬ okAt n f x y) () () (fun y hy hb => ?_) (fun y hy hb => ?_) ?_ 0 (by omega)
  · rw [step y hy, if_pos (Classical.not_not.1 hb)]
  · rw [step y hy, if_neg hb]
  · unfold F_impl_order_isOrder_l2
    rw [if_neg (by omega)]
theorem F_isOrder (n : Nat) (f : Nat → Nat → Bool) (h : n ≤ LIM) : F_impl_order_isOrder (tab n f) = some (decide (isOrd n f)) := by
  unfold F_impl_order_isOrder
  have l2 := isOrder2 n f h
  rw [lim_def] at h
  have tl := tab_len n f
  have rl := tabI_len n f
  have at_ := tabI_at n f
  have step : ∀ x, x < n → F_impl_order_isOrder_l3 (tab n f) x = some (if f x x = true ∧ ∀ y, y < n → okAt n f x y then .inl ((x + 1 : Nat) : Int) else .inr (.inl ())) := by
    intro x hx
    have rx := rl x hx
    unfold F_impl_order_isOrder_l3
    rw [if_pos (by omega), ask_pos (by omega)]
    rw [ask_pos (by omega)]
    by_cases h1 : f x x = true
    · rw [if_pos ((at_ x x hx hx).trans h1), l2 x hx]
      by_cases h2 : ∃ y, 0 ≤ y ∧ y < n ∧ ¬ okAt n f x y
      · rw [if_pos h2, if_neg]
        · rfl
        · intro hc; obtain ⟨y, _, hy, hd⟩ := h2; exact hd (hc.2 y hy)
      · rw [if_neg h2, if_pos ⟨h1, find_all.1 h2⟩]
        simp only [Option.bind_some]
        rw [ask_pos (by unfold InI; omega)]; rfl
    · rw [if_neg (by rw [at_ x x hx hx]; exact h1), if_neg (fun hc => h1 hc.1)]
  have l3 := loop_find (body := F_impl_order_isOrder_l3 (tab n f)) (fun i => (i : Int)) n (fun x => ¬ (f x x = true ∧ ∀ y, y < n → okAt n f x y)) () () (fun x hx hb => by
    rw [step x hx, if_pos (Classical.not_not.1 hb)]) (fun x hx hb => by rw [step x hx, if_neg hb]) (by unfold F_impl_order_isOrder_l3; rw [if_neg (by omega)]) 0 (by omega)
  exact (find_bool l3 false true).trans (congrArg some (dec_not find_all))
end Go.Proofs.Ytoikbcagaanhgaa.Ax
namespace Go.Proofs.Ytoikbcagaanhgaa.Ax
open Go Classical
def posOk (xss : List (List Int)) : Prop := xss.length ≤ 10 ∧ ∀ r ∈ xss, rises r ∧ inSize r xss.length
noncomputable def below (xss : List (List Int)) (y x : Nat) : Bool := decide ((y : Int) ∈ nth xss x)
noncomputable def below1 (xss : List (List Int)) (i : Nat) (y x : Nat) : Bool := decide (x < i ∧ (y : Int) ∈ nth xss x)
noncomputable def below2 (xss : List (List Int)) (i j : Nat) (y x : Nat) : Bool := decide ((x < i ∧ (y : Int) ∈ nth xss x) ∨ (x = i ∧ (y : Int) ∈ (nth xss i).take j))
theorem below2_0 (xss : List (List Int)) (i : Nat) : below2 xss i 0 = below1 xss i := by
  funext y x; simp [below2, below1]
theorem below2_end (xss : List (List Int)) (i j : Nat) (h : (nth xss i).length ≤ j) : below2 xss i j = below1 xss (i + 1) := by
  funext y x
  simp only [below2, below1, List.take_of_length_le h, decide_eq_decide]
  constructor
  · rintro (⟨h1, h2⟩ | ⟨rfl, h2⟩)
    · exact ⟨by omega, h2⟩
    · exact ⟨by omega, h2⟩
  · rintro ⟨h1, h2⟩
    rcases Nat.lt_succ_iff_lt_or_eq.1 h1 with h | rfl
    · exact .inl ⟨h, h2⟩
    · exact .inr ⟨rfl, h2⟩
theorem below2_succ (xss : List (List Int)) (i j c : Nat) (h : j < (nth xss i).length) (hc : nth (nth xss i) j = (c : Int)) :
    (fun a b => if a = c ∧ b = i then true else below2 xss i j a b) = below2 xss i (j + 1) := by
  funext a b
  simp only [below2]
  rw [take_nth h, hc]
  by_cases hab : a = c ∧ b = i
  · obtain ⟨rfl, rfl⟩ := hab
    simp
  · rw [if_neg hab, decide_eq_decide]
    simp only [List.mem_append, List.mem_singleton]
    constructor
    · rintro (h1 | ⟨h1, h2⟩)
      · exact .inl h1
      · exact .inr ⟨h1, .inl h2⟩
    · rintro (h1 | ⟨h1, h2 | h2⟩)
      · exact .inl h1
      · exact .inr ⟨h1, h2⟩
      · exact absurd ⟨by omega, h1⟩ hab
theorem below1_end (xss : List (List Int)) (n : Nat) (_h : n = xss.length) : tab n (below1 xss n) = tab n (below xss) := by
  refine tab_congr fun y x _ hx => ?_
  simp [below1, below, hx]
theorem orderOf1 (p : SPoset) (i : Nat) (hi : i < p.Below.length) (hl : (nth p.Below i).length ≤ LIM) (hs : inSize (nth p.Below i) p.Below.length) :
    loopO (F_impl_orderOf_l1 p i) (0, tab p.Below.length (below1 p.Below i)) = some (tab p.Below.length (below1 p.Below (i + 1))) := by
  rw [lim_def] at hl
  have := loop_seq (body := F_impl_orderOf_l1 p i) (fun j => ((j : Int), tab p.Below.length (below2 p.Below i j))) (nth p.Below i).length (tab p.Below.length (below1 p.Below (i + 1))) (fun j hj => by
    unfold F_impl_orderOf_l1
    dsimp only
    obtain ⟨c, hc⟩ := Int.eq_ofNat_of_zero_le (hs _ (nth_mem hj)).1
    have hcn : c < p.Below.length := by have := (hs _ (nth_mem hj)).2; omega
    have tl := tab_len p.Below.length (below2 p.Below i j)
    have tr := tab_row_len p.Below.length (below2 p.Below i j) c hcn
    simp only [Int.toNat_natCast, hc]
    rw [if_pos (by omega), ask_pos (by omega), ask_pos (by omega), ask_pos (by omega), ask_pos (by unfold InI; omega), tab_set _ _ _ _ _ hcn hi, below2_succ _ _ _ _ hj hc]
    rfl) (by
    unfold F_impl_orderOf_l1
    dsimp only
    simp only [Int.toNat_natCast]
    rw [if_neg (by omega), below2_end _ _ _ (Nat.le_refl _)])
  simp only [below2_0] at this
  exact this
theorem F_orderOf (p : SPoset) (h0 : p.Below.length ≤ LIM) (h1 : ∀ r ∈ p.Below, r.length ≤ LIM) :
    F_impl_orderOf p = some (if posOk p.Below then (tab p.Below.length (below p.Below), decide (isOrd p.Below.length (below p.Below))) else ([], false)) := by
  unfold F_impl_orderOf
  have h0' := h0
  rw [lim_def] at h0'
  split
  · rename_i h
    rw [if_neg (by rintro ⟨h2, _⟩; omega)]
  rename_i h
  have hn : p.Below.length ≤ 10 := by omega
  rw [F_newOrder _ h0]
  simp only [Option.bind_some]
  have := loop_find (body := F_impl_orderOf_l2 p) (fun i => ((i : Int), tab p.Below.length (below1 p.Below i))) p.Below.length (fun i => ¬ (rises (nth p.Below i) ∧ inSize (nth p.Below i) p.Below.length)) () (tab p.Below.length (below p.Below)) (fun i hi hb => by
    have hb := Classical.not_not.1 hb
    have hl := h1 _ (nth_mem hi)
    unfold F_impl_orderOf_l2
    dsimp only
    rw [if_pos (by omega), ask_pos (by omega)]
    simp only [Int.toNat_natCast]
    rw [F_rises _ hl, F_inSize _ _ hl]
    simp only [Option.bind_some, hb.1, hb.2, decide_true, if_true]
    rw [orderOf1 p i hi hl hb.2]
    simp only [Option.bind_some]
    rw [ask_pos (by unfold InI; omega)]; rfl) (fun i hi hb => by
    have hl := h1 _ (nth_mem hi)
    unfold F_impl_orderOf_l2
    dsimp only
    rw [if_pos (by omega), ask_pos (by omega)]
    simp only [Int.toNat_natCast]
    rw [F_rises _ hl, F_inSize _ _ hl]
    by_cases h2 : rises (nth p.Below i)
    · have h3 : ¬ inSize (nth p.Below i) p.Below.length := fun hc => hb ⟨h2, hc⟩
      simp [h2, h3]
    · simp [h2]) (by
    unfold F_impl_orderOf_l2
    dsimp only
    rw [if_neg (by omega), below1_end _ _ rfl]) 0 (by omega)
  have e0 : below1 p.Below 0 = fun _ _ => false := by funext y x; simp [below1]
  simp only [e0] at this
  rw [show (((0 : Nat) : Int)) = 0 from rfl] at this
  rw [this]
  by_cases hx : ∃ i, 0 ≤ i ∧ i < p.Below.length ∧ ¬ (rises (nth p.Below i) ∧ inSize (nth p.Below i) p.Below.length)
  · rw [if_pos hx, if_neg]
    · rfl
    · rintro ⟨_, hp⟩; obtain ⟨i, _, hi, hc⟩ := hx; exact hc (hp _ (nth_mem hi))
  · have hall := find_all.1 hx
    rw [if_neg hx, if_pos ⟨hn, fun r hr => by obtain ⟨i, hi, rfl⟩ := mem_nth.1 hr; exact hall i hi⟩]
    simp only [Option.bind_some]
    rw [F_isOrder _ _ h0]; rfl
def good (xss : List (List Int)) : Prop := xss.length ≤ 10 ∧ (∀ x, x < xss.length → rising (nth xss x) 0 (xss.length - 1) ∧ (x : Int) ∈ nth xss x) ∧
  ∀ x, x < xss.length → ∀ i, i < (nth xss x).length → ¬ (nth (nth xss x) i ≠ x ∧ (x : Int) ∈ nth xss (nth (nth xss x) i).toNat) ∧
    ∀ z ∈ nth xss (nth (nth xss x) i).toNat, z ∈ nth xss x
theorem l23Good2 (p : SPoset) (h1 : ∀ r ∈ p.Below, r.length ≤ LIM) (x : Nat) (hx : x < p.Below.length) (hb : rising (nth p.Below x) 0 (p.Below.length - 1)) :
    loopO (F_spec_l23Good_l2 p x) 0 = some (if ∃ i, 0 ≤ i ∧ i < (nth p.Below x).length ∧ ¬ (¬ (nth (nth p.Below x) i ≠ x ∧ (x : Int) ∈ nth p.Below (nth (nth p.Below x) i).toNat) ∧ ∀ z ∈ nth p.Below (nth (nth p.Below x) i).toNat, z ∈ nth p.Below x) then .inl () else .inr ()) := by
  have hl := h1 _ (nth_mem hx)
  have hl' := hl
  rw [lim_def] at hl'
  have step : ∀ i, i < (nth p.Below x).length → F_spec_l23Good_l2 p x i = some (if ¬ (nth (nth p.Below x) i ≠ x ∧ (x : Int) ∈ nth p.Below (nth (nth p.Below x) i).toNat) ∧ ∀ z ∈ nth p.Below (nth (nth p.Below x) i).toNat, z ∈ nth p.Below x then .inl ((i + 1 : Nat) : Int) else .inr (.inl ())) := by
    intro i hi
    have hv := (hb i hi).1
    unfold F_spec_l23Good_l2
    rw [ask_pos (by omega)]
    simp only [Int.toNat_natCast]
    rw [if_pos (by omega), ask_pos (by omega), ask_pos (by omega)]
    have hy : (nth (nth p.Below x) i).toNat < p.Below.length := by omega
    have hly := h1 _ (nth_mem hy)
    by_cases h2 : nth (nth p.Below x) i = x
    · rw [if_neg (by simpa using h2), ask_pos (by omega), ask_pos (by omega), F_l5Within _ _ hly hl]
      simp only [Option.bind_some]
      by_cases h3 : ∀ z ∈ nth p.Below (nth (nth p.Below x) i).toNat, z ∈ nth p.Below x
      · rw [if_pos (by simpa using h3), ask_pos (by unfold InI; omega), if_pos ⟨fun hc => hc.1 h2, h3⟩]; rfl
      · rw [if_neg (by simpa using h3), if_neg (fun hc => h3 hc.2)]
    · rw [if_pos (by simpa using h2), ask_pos (by omega), F_l1Has _ _ hly]
      simp only [Option.bind_some]
      by_cases h4 : (x : Int) ∈ nth p.Below (nth (nth p.Below x) i).toNat
      · rw [if_pos (by simpa using h4), if_neg (fun hc => hc.1 ⟨h2, h4⟩)]
      · rw [if_neg (by simpa using h4), ask_pos (by omega), ask_pos (by omega), F_l5Within _ _ hly hl]
        simp only [Option.bind_some]
        by_cases h3 : ∀ z ∈ nth p.Below (nth (nth p.Below x) i).toNat, z ∈ nth p.Below x
        · rw [if_pos (by simpa using h3), ask_pos (by unfold InI; omega), if_pos ⟨fun hc => h4 hc.2, h3⟩]; rfl
        · rw [if_neg (by simpa using h3), if_neg (fun hc => h3 hc.2)]
  refine loop_find (body := F_spec_l23Good_l2 p x) (fun i => (i : Int)) (nth p.Below x).length _ () () (fun i hi hb => ?_) (fun i hi hb => ?_) ?_ 0 (by omega)
  · rw [step i hi, if_pos (Classical.not_not.1 hb)]
  · rw [step i hi, if_neg hb]
  · unfold F_spec_l23Good_l2
    rw [ask_pos (by omega), if_neg (by simp)]
theorem F_l23Good (p : SPoset) (h0 : p.Below.length ≤ LIM) (h1 : ∀ r ∈ p.Below, r.length ≤ LIM) : F_spec_l23Good p = some (decide (good p.Below)) := by
  unfold F_spec_l23Good
  rw [lim_def] at h0
  split
  · rename_i h; rw [decide_eq_false]; rintro ⟨h2, _⟩; omega
  rename_i h
  have hn : p.Below.length ≤ 10 := by omega
  have hA := loop_find (body := F_spec_l23Good_l1 p) (fun i => (i : Int)) p.Below.length (fun x => ¬ (rising (nth p.Below x) 0 (p.Below.length - 1) ∧ (x : Int) ∈ nth p.Below x)) () () (fun x hx hb => by
    have hb := Classical.not_not.1 hb
    have hl := h1 _ (nth_mem hx)
    unfold F_spec_l23Good_l1
    rw [if_pos (by omega), ask_pos (by omega), ask_pos (by unfold InI; omega)]
    simp only [Int.toNat_natCast]
    rw [F_l1Rising _ _ _ hl]
    simp only [Option.bind_some]
    rw [if_pos (by simpa using hb.1), ask_pos (by omega), F_l1Has _ _ hl]
    simp only [Option.bind_some]
    rw [if_pos (by simpa using hb.2), ask_pos (by unfold InI; omega)]; rfl) (fun x hx hb => by
    have hl := h1 _ (nth_mem hx)
    unfold F_spec_l23Good_l1
    rw [if_pos (by omega), ask_pos (by omega), ask_pos (by unfold InI; omega)]
    simp only [Int.toNat_natCast]
    rw [F_l1Rising _ _ _ hl]
    simp only [Option.bind_some]
    by_cases h2 : rising (nth p.Below x) 0 (p.Below.length - 1)
    · rw [if_pos (by simpa using h2), ask_pos (by omega), F_l1Has _ _ hl]
      simp only [Option.bind_some]
      rw [if_neg (by simpa using fun hc => hb ⟨h2, hc⟩)]
    · rw [if_neg (by simpa using h2)]) (by unfold F_spec_l23Good_l1; rw [if_neg (by omega)]) 0 (by omega)
  by_cases hxA : ∃ i, 0 ≤ i ∧ i < p.Below.length ∧ ¬ (rising (nth p.Below i) 0 (p.Below.length - 1) ∧ (i : Int) ∈ nth p.Below i)
  · rw [if_pos hxA] at hA
    rw [show (((0 : Nat) : Int)) = 0 from rfl] at hA
    rw [hA, decide_eq_false]
    · rfl
    · rintro ⟨_, hc, _⟩; obtain ⟨i, _, hi, hd⟩ := hxA; exact hd (hc i hi)
  rw [if_neg hxA, show (((0 : Nat) : Int)) = 0 from rfl] at hA
  have hall := find_all.1 hxA
  rw [hA]
  simp only [Option.bind_some]
  have stepB : ∀ x, x < p.Below.length → F_spec_l23Good_l3 p x = some (if ∀ i, i < (nth p.Below x).length → ¬ (nth (nth p.Below x) i ≠ x ∧ (x : Int) ∈ nth p.Below (nth (nth p.Below x) i).toNat) ∧ ∀ z ∈ nth p.Below (nth (nth p.Below x) i).toNat, z ∈ nth p.Below x then .inl ((x + 1 : Nat) : Int) else .inr (.inl ())) := by
    intro x hx
    unfold F_spec_l23Good_l3
    rw [if_pos (by omega), l23Good2 p h1 x hx (hall x hx).1]
    by_cases h2 : ∃ i, 0 ≤ i ∧ i < (nth p.Below x).length ∧ ¬ (¬ (nth (nth p.Below x) i ≠ x ∧ (x : Int) ∈ nth p.Below (nth (nth p.Below x) i).toNat) ∧ ∀ z ∈ nth p.Below (nth (nth p.Below x) i).toNat, z ∈ nth p.Below x)
    · rw [if_pos h2, if_neg]
      · rfl
      · intro hc; obtain ⟨i, _, hi, hd⟩ := h2; exact hd (hc i hi)
    · rw [if_neg h2, if_pos (find_all.1 h2)]
      simp only [Option.bind_some]
      rw [ask_pos (by unfold InI; omega)]; rfl
  have hB := loop_find (body := F_spec_l23Good_l3 p) (fun i => (i : Int)) p.Below.length (fun x => ¬ ∀ i, i < (nth p.Below x).length → ¬ (nth (nth p.Below x) i ≠ x ∧ (x : Int) ∈ nth p.Below (nth (nth p.Below x) i).toNat) ∧ ∀ z ∈ nth p.Below (nth (nth p.Below x) i).toNat, z ∈ nth p.Below x) () () (fun x hx hb => by
    rw [stepB x hx, if_pos (Classical.not_not.1 hb)]) (fun x hx hb => by rw [stepB x hx, if_neg hb]) (by unfold F_spec_l23Good_l3; rw [if_neg (by omega)]) 0 (by omega)
  refine (find_bool hB false true).trans (congrArg some (dec_not ?_))
  rw [find_all]
  exact ⟨fun hh => ⟨hn, hall, hh⟩, fun hh => hh.2.2⟩
theorem rising_iff (xs : List Int) (n : Nat) : rising xs 0 (n - 1) ↔ rises xs ∧ inSize xs n := by
  constructor
  · intro h
    refine ⟨fun i h1 h2 => (h i h2).2 h1, fun x hx => ?_⟩
    obtain ⟨i, h1, rfl⟩ := mem_nth.1 hx
    have := (h i h1).1
    omega
  · rintro ⟨h1, h2⟩ i hi
    have := h2 _ (nth_mem hi)
    exact ⟨by omega, fun h => h1 i h hi⟩
theorem good_iff (xss : List (List Int)) : (posOk xss ∧ isOrd xss.length (below xss)) ↔ good xss := by
  constructor
  · rintro ⟨⟨h1, h2⟩, h3⟩
    have hs : ∀ x, x < xss.length → rises (nth xss x) ∧ inSize (nth xss x) xss.length := fun x hx => h2 _ (nth_mem hx)
    refine ⟨h1, fun x hx => ⟨(rising_iff _ _).2 (hs x hx), by simpa [below] using (h3 x hx).1⟩, fun x hx i hi => ?_⟩
    have hm := nth_mem hi
    have hb := (hs x hx).2 _ hm
    obtain ⟨y, hy⟩ := Int.eq_ofNat_of_zero_le hb.1
    rw [hy] at hm ⊢
    have hyn : y < xss.length := by omega
    simp only [Int.toNat_natCast]
    refine ⟨fun hc => ?_, fun z hz => ?_⟩
    · refine ((h3 y hyn).2 x hx).1 ⟨fun e => hc.1 (by rw [e]), by simpa [below] using hm, by simpa [below] using hc.2⟩
    · have hzb := (hs y hyn).2 z hz
      obtain ⟨w, rfl⟩ := Int.eq_ofNat_of_zero_le hzb.1
      have := ((h3 w (by omega)).2 y hyn).2 x hx (by simpa [below] using hz) (by simpa [below] using hm)
      simpa [below] using this
  · rintro ⟨h1, h2, h3⟩
    refine ⟨⟨h1, fun r hr => ?_⟩, fun x hx => ⟨by simpa [below] using (h2 x hx).2, fun y hy => ⟨?_, fun z hz a b => ?_⟩⟩⟩
    · obtain ⟨x, hx, rfl⟩ := mem_nth.1 hr
      exact (rising_iff _ _).1 (h2 x hx).1
    · rintro ⟨a, b, c⟩
      obtain ⟨i, hi, he⟩ := mem_nth.1 (show (x : Int) ∈ nth xss y by simpa [below] using b)
      have := (h3 y hy i hi).1
      rw [he] at this
      exact this ⟨by omega, by simpa [below] using c⟩
    · obtain ⟨i, hi, he⟩ := mem_nth.1 (show (y : Int) ∈ nth xss z by simpa [below] using b)
      have := (h3 z hz i hi).2
      rw [he] at this
      have := this x (by simpa [below] using a)
      simpa [below] using this
theorem order_good (p : SPoset) (h0 : p.Below.length ≤ LIM) (h1 : ∀ r ∈ p.Below, r.length ≤ LIM) (hg : good p.Below) : F_impl_orderOf p = some (tab p.Below.length (below p.Below), true) := by
  have hh := (good_iff _).2 hg
  rw [F_orderOf p h0 h1, if_pos hh.1, decide_eq_true hh.2]
theorem order_bad (p : SPoset) (h0 : p.Below.length ≤ LIM) (h1 : ∀ r ∈ p.Below, r.length ≤ LIM) (hg : ¬ good p.Below) : ∃ o, F_impl_orderOf p = some (o, false) := by
  rw [F_orderOf p h0 h1]
  by_cases hp : posOk p.Below
  · rw [if_pos hp, decide_eq_false]
    · exact ⟨_, rfl⟩
    · exact fun ho => hg ((good_iff _).1 ⟨hp, ho⟩)
  · rw [if_neg hp]; exact ⟨_, rfl⟩
end Go.Proofs.Ytoikbcagaanhgaa.Ax
namespace Go.Proofs.Ytoikbcagaanhgaa.Ax
open Go Classical
def small (p : SPoset) : Prop := p.Below.length ≤ LIM ∧ ∀ r ∈ p.Below, r.length ≤ LIM
def read (p : SPoset) : Prop := p.Below.length ≤ BIG ∧ ∀ r ∈ p.Below, r.length ≤ BIG
end Go.Proofs.Ytoikbcagaanhgaa.Ax
namespace Go.Proofs.Ytoikbcagaanhgaa.Ax
open Go Classical
def sieve (n : Nat) (p : Nat → Bool) : List Int := ((List.range n).filter p).map fun i : Nat => (i : Int)
theorem sieve_congr {n : Nat} {p q : Nat → Bool} (h : ∀ i, i < n → p i = q i) : sieve n p = sieve n q := by
  unfold sieve
  congr 1
  exact List.filter_congr fun i hi => h i (List.mem_range.1 hi)
theorem sieve_succ (n : Nat) (p : Nat → Bool) : sieve (n + 1) p = if p n then sieve n p ++ [(n : Int)] else sieve n p := by
  unfold sieve
  rw [List.range_succ, List.filter_append, List.map_append]
  by_cases h : p n <;> simp [h]
theorem sieve_len (n : Nat) (p : Nat → Bool) : (sieve n p).length ≤ n := by
  unfold sieve
  rw [List.length_map]
  exact Nat.le_trans (List.length_filter_le _ _) (by simp)
theorem mem_sieve {n : Nat} {p : Nat → Bool} {x : Int} : x ∈ sieve n p ↔ ∃ i : Nat, i < n ∧ p i = true ∧ x = i := by
  unfold sieve
  rw [List.mem_map]
  constructor
  · rintro ⟨i, hi, rfl⟩
    have := List.mem_filter.1 hi
    exact ⟨i, List.mem_range.1 this.1, this.2, rfl⟩
  · rintro ⟨i, h1, h2, rfl⟩
    exact ⟨i, List.mem_filter.2 ⟨List.mem_range.2 h1, h2⟩, rfl⟩
theorem sieve_nil {n : Nat} {p : Nat → Bool} : sieve n p = [] ↔ ∀ i, i < n → p i = false := by
  constructor
  · intro h i hi
    cases hp : p i with
    | false => rfl
    | true =>
      have : (i : Int) ∈ sieve n p := mem_sieve.2 ⟨i, hi, hp, rfl⟩
      rw [h] at this; cases this
  · intro h
    refine List.eq_nil_iff_forall_not_mem.2 fun x hx => ?_
    obtain ⟨i, h1, h2, _⟩ := mem_sieve.1 hx
    rw [h i h1] at h2; cases h2
theorem loop_sieve {body : (Int × List Int) → Option ((Int × List Int) ⊕ List Int)} (n : Nat) (p : Nat → Bool)
    (h : ∀ (i : Nat) acc, i < n → acc.length ≤ i → body ((i : Int), acc) = some (.inl (((i + 1 : Nat) : Int), if p i then acc ++ [(i : Int)] else acc)))
    (he : ∀ acc, body ((n : Int), acc) = some (.inr acc)) : loopO body (0, nilL Int) = some (sieve n p) := by
  have := loop_seq (body := body) (fun i => ((i : Int), sieve i p)) n (sieve n p) (fun i hi => by
    rw [h i _ hi (sieve_len i p), sieve_succ]) (he _)
  have e : sieve 0 p = nilL Int := rfl
  simp only [e] at this
  exact this
theorem F_those {o : List (List Bool)} {so : Int → Option Bool} {n : Nat} {p : Nat → Bool} (hn : o.length = n) (hl : n ≤ LIM) (h : ∀ i, i < n → so (i : Int) = some (p i)) : F_impl_order_those o so = some (sieve n p) := by
  unfold F_impl_order_those
  rw [lim_def] at hl
  rw [loop_sieve n p (fun i acc hi ha => by
    unfold F_impl_order_those_l1
    dsimp only
    rw [if_pos (by omega), h i hi]
    simp only [Option.bind_some]
    by_cases hp : p i = true
    · rw [if_pos hp, if_pos hp, ask_pos (by rw [lim_def]; simp; omega), ask_pos (by unfold InI; omega)]; rfl
    · rw [if_neg hp, if_neg hp, ask_pos (by unfold InI; omega)]; rfl) (fun acc => by
    unfold F_impl_order_those_l1
    dsimp only
    rw [if_neg (by omega)])]
  rfl
theorem F_less (n : Nat) (f : Nat → Nat → Bool) (x y : Nat) (hx : x < n) (hy : y < n) : F_impl_order_less (tab n f) x y = some (decide (x ≠ y) && f x y) := by
  unfold F_impl_order_less
  have tl := tab_len n f
  have rl := tabI_len n f x hx
  by_cases h : x = y
  · subst h; simp
  · rw [if_pos (by omega), ask_pos (by omega), ask_pos (by omega), tabI_at n f x y hx hy]
    simp [h]
section
variable {p : SPoset}
theorem good_row (hg : good p.Below) (x : Nat) (hx : x < p.Below.length) : rises (nth p.Below x) ∧ inSize (nth p.Below x) p.Below.length := by
  have := (good_iff _).2 hg
  exact this.1.2 _ (nth_mem hx)
theorem good_refl (hg : good p.Below) (x : Nat) (hx : x < p.Below.length) : below p.Below x x = true := ((good_iff _).2 hg).2 x hx |>.1
theorem good_anti (hg : good p.Below) (x y : Nat) (hx : x < p.Below.length) (hy : y < p.Below.length) (h1 : below p.Below x y = true) (h2 : below p.Below y x = true) : x = y := by
  have := ((((good_iff _).2 hg).2 x hx).2 y hy).1
  exact Classical.byContradiction fun hc => this ⟨hc, h1, h2⟩
theorem good_trans (hg : good p.Below) (x y z : Nat) (hx : x < p.Below.length) (hy : y < p.Below.length) (hz : z < p.Below.length) (h1 : below p.Below x y = true) (h2 : below p.Below y z = true) : below p.Below x z = true :=
  ((((good_iff _).2 hg).2 x hx).2 y hy).2 z hz h1 h2
theorem rises_lt {xs : List Int} (h : rises xs) : ∀ {j i : Nat}, i < j → j < xs.length → nth xs i < nth xs j := by
  intro j
  induction j with
  | zero => intro i hi; omega
  | succ j ih =>
    intro i hi hj
    have := h (j + 1) (by omega) hj
    rw [Nat.add_sub_cancel] at this
    by_cases hij : i = j
    · subst hij; exact this
    · exact Int.lt_trans (ih (by omega) (by omega)) this
theorem rises_ext : ∀ {xs ys : List Int}, rises xs → rises ys → (∀ x, x ∈ xs ↔ x ∈ ys) → xs = ys := by
  have tl : ∀ {x : Int} {xs : List Int}, rises (x :: xs) → rises xs := by
    intro x xs h i h1 h2
    have := h (i + 1) (by omega) (by simpa using h2)
    rw [Nat.add_sub_cancel] at this
    have e1 : nth (x :: xs) (i + 1) = nth xs i := rfl
    have e2 : nth (x :: xs) i = nth xs (i - 1) := by
      cases i with
      | zero => omega
      | succ i => rfl
    rw [e1, e2] at this; exact this
  have hd : ∀ {x : Int} {xs : List Int}, rises (x :: xs) → ∀ y ∈ xs, x < y := by
    intro x xs h y hy
    obtain ⟨i, hi, rfl⟩ := mem_nth.1 hy
    exact rises_lt h (i := 0) (j := i + 1) (by omega) (by simpa using hi)
  intro xs
  induction xs with
  | nil =>
    intro ys _ _ h
    cases ys with
    | nil => rfl
    | cons y r => have := (h y).2 (by simp); cases this
  | cons x r ih =>
    intro ys h1 h2 h
    cases ys with
    | nil => have := (h x).1 (by simp); cases this
    | cons y s =>
      have e : x = y := by
        have a := (h x).1 (by simp)
        have b := (h y).2 (by simp)
        rcases List.mem_cons.1 a with a | a
        · exact a
        · rcases List.mem_cons.1 b with b | b
          · exact b.symm
          · have := hd h2 _ a; have := hd h1 _ b; omega
      subst e
      congr 1
      refine ih (tl h1) (tl h2) fun z => ?_
      constructor
      · intro hz
        rcases List.mem_cons.1 ((h z).1 (by simp [hz])) with e | e
        · subst e; have := hd h1 _ hz; omega
        · exact e
      · intro hz
        rcases List.mem_cons.1 ((h z).2 (by simp [hz])) with e | e
        · subst e; have := hd h2 _ hz; omega
        · exact e
theorem sieve_rises (n : Nat) (q : Nat → Bool) : rises (sieve n q) := by
  induction n with
  | zero => intro i h1 h2; simp [sieve] at h2
  | succ n ih =>
    rw [sieve_succ]
    split
    · intro i h1 h2
      by_cases hi : i < (sieve n q).length
      · rw [nth_append_left hi, nth_append_left (by omega)]; exact ih i h1 hi
      · have hi2 : i = (sieve n q).length := by simp at h2; omega
        subst hi2
        rw [nth_append_len, nth_append_left (by omega)]
        obtain ⟨k, hk, _, e⟩ := mem_sieve.1 (nth_mem (xs := sieve n q) (i := (sieve n q).length - 1) (by omega))
        rw [e]; omega
    · exact ih
theorem row_eq (hg : good p.Below) (x : Nat) (hx : x < p.Below.length) : nth p.Below x = sieve p.Below.length fun y => below p.Below y x := by
  obtain ⟨h1, h2⟩ := good_row hg x hx
  refine rises_ext h1 (sieve_rises _ _) fun z => ?_
  rw [mem_sieve]
  constructor
  · intro hz
    obtain ⟨k, hk⟩ := Int.eq_ofNat_of_zero_le (h2 z hz).1
    have := (h2 z hz).2
    exact ⟨k, by omega, by rw [hk] at hz; simpa [below] using hz, hk⟩
  · rintro ⟨k, _, hb, rfl⟩
    simpa [below] using hb
end
theorem F_l23Leq {p : SPoset} (hs : small p) (x y : Nat) (hy : y < p.Below.length) : F_spec_l23Leq p x y = some (below p.Below x y) := by
  unfold F_spec_l23Leq
  rw [ask_pos (by omega)]
  simp only [Int.toNat_natCast]
  rw [F_l1Has _ _ (hs.2 _ (nth_mem hy))]
  simp only [Option.bind_some, below]
theorem F_has (o : List (List Bool)) (xs : List Int) (h : xs.length ≤ LIM) : F_impl_order_has o xs = some (decide (inSize xs o.length)) := by
  unfold F_impl_order_has
  rw [F_inSize _ _ h]; rfl
end Go.Proofs.Ytoikbcagaanhgaa.Ax
namespace Go.Proofs.Ytoikbcagaanhgaa.Ax
open Go Classical
theorem InI_def (n : Int) : InI n ↔ -9223372036854775808 ≤ n ∧ n ≤ 9223372036854775807 := Iff.rfl
section
variable {p : SPoset}
noncomputable def dualP (p : SPoset) : SPoset := ⟨(List.range p.Below.length).map fun x => sieve p.Below.length fun y => below p.Below x y⟩
theorem dual_len : (dualP p).Below.length = p.Below.length := by simp [dualP]
theorem dual_row {x : Nat} (hx : x < p.Below.length) : nth (dualP p).Below x = sieve p.Below.length fun y => below p.Below x y := by
  unfold dualP
  dsimp only
  rw [nth_map' _ (by simpa using hx), nth_range hx]
theorem below_dual {x y : Nat} (hx : x < p.Below.length) (hy : y < p.Below.length) : below (dualP p).Below y x = below p.Below x y := by
  rw [Bool.eq_iff_iff]
  rw [show (below (dualP p).Below y x = true ↔ (y : Int) ∈ nth (dualP p).Below x) from by simp [below], dual_row hx, mem_sieve]
  constructor
  · rintro ⟨i, _, h, e⟩
    have : i = y := by omega
    subst this; exact h
  · intro h; exact ⟨y, hy, h, rfl⟩
theorem small_dual (hs : small p) : small (dualP p) := by
  refine ⟨by rw [dual_len]; exact hs.1, fun r hr => ?_⟩
  obtain ⟨i, hi, rfl⟩ := mem_nth.1 hr
  rw [dual_len] at hi
  rw [dual_row hi]
  exact Nat.le_trans (sieve_len _ _) hs.1
theorem good_dual (hg : good p.Below) : good (dualP p).Below := by
  have hp := (good_iff _).2 hg
  refine (good_iff _).1 ⟨⟨by rw [dual_len]; exact hp.1.1, fun r hr => ?_⟩, fun x hx => ?_⟩
  · obtain ⟨i, hi, rfl⟩ := mem_nth.1 hr
    rw [dual_len] at hi ⊢
    rw [dual_row hi]
    refine ⟨sieve_rises _ _, fun z hz => ?_⟩
    obtain ⟨k, hk, _, rfl⟩ := mem_sieve.1 hz
    omega
  · rw [dual_len] at hx
    refine ⟨by rw [below_dual hx hx]; exact good_refl hg x hx, fun y hy => ?_⟩
    rw [dual_len] at hy
    refine ⟨?_, fun z hz => ?_⟩
    · rw [below_dual hx hy, below_dual hy hx]
      rintro ⟨h1, h2, h3⟩
      exact h1 (good_anti hg x y hx hy h3 h2)
    · rw [dual_len] at hz
      rw [below_dual hy hx, below_dual hz hy, below_dual hz hx]
      intro h1 h2
      exact good_trans hg z y x hz hy hx h2 h1
theorem F_l23Dual (hs : small p) : F_spec_l23Dual p = some (dualP p) := by
  have h0 := hs.1
  rw [lim_def] at h0
  unfold F_spec_l23Dual
  have := loop_seq (body := F_spec_l23Dual_l2 p) (fun i => ((i : Int), (⟨(List.range i).map fun x => sieve p.Below.length fun y => below p.Below x y⟩ : SPoset))) p.Below.length (dualP p) (fun i hi => by
    unfold F_spec_l23Dual_l2
    have e := loop_sieve (body := F_spec_l23Dual_l1 p (i : Int) ⟨(List.range i).map fun x => sieve p.Below.length fun y => below p.Below x y⟩) p.Below.length (fun y => below p.Below i y) (fun j acc hj ha => by
      unfold F_spec_l23Dual_l1
      by_cases hb : below p.Below i j = true <;> simp (disch := omega) only [ask_pos, if_pos, if_true, if_false, InI_def, lim_def, List.length_cons, List.length_nil, Int.natCast_add, Int.natCast_one, Option.bind_some, Bool.false_eq_true, F_l23Leq hs i j hj, hb] <;> rfl) (fun acc => by
      unfold F_spec_l23Dual_l1
      simp (disch := omega) only [ask_pos, if_pos, if_neg, InI_def, lim_def, List.length_cons, List.length_nil])
    simp (disch := omega) only [ask_pos, if_pos, InI_def, lim_def, List.length_cons, List.length_nil, Int.natCast_add, Int.natCast_one, Option.bind_some, e, List.length_map, List.length_range, List.range_succ, List.map_append, List.map_cons, List.map_nil]) (by
    unfold F_spec_l23Dual_l2
    simp (disch := omega) only [ask_pos, if_neg, InI_def, lim_def, List.length_cons, List.length_nil]
    rfl)
  have e0 : (((0 : Nat) : Int), (⟨(List.range 0).map fun x => sieve p.Below.length fun y => below p.Below x y⟩ : SPoset)) = (0, { Below := nilL (List Int) }) := rfl
  simp only [e0] at this
  rw [this]
  rfl
end
def btab (n : Nat) (f : Nat → Bool) : List Bool := (List.range n).map f
theorem btab_len (n : Nat) (f : Nat → Bool) : (btab n f).length = n := by simp [btab]
theorem btab_at {n : Nat} {f : Nat → Bool} {i : Nat} (h : i < n) : nth (btab n f) i = f i := by
  unfold btab; rw [nth_map' _ (by simpa using h), nth_range h]
theorem btab_set {n : Nat} {f : Nat → Bool} {i : Nat} {v : Bool} (_h : i < n) : (btab n f).set i v = btab n fun j => if j = i then v else f j := by
  refine nth_ext (by simp [btab]) fun j hj => ?_
  have hj' : j < n := by simpa [btab] using hj
  rw [nth_set _ _ _ _ (by rw [btab_len]; exact hj'), btab_at hj', btab_at hj']
  by_cases e : i = j
  · rw [if_pos e, if_pos e.symm]
  · rw [if_neg e, if_neg (Ne.symm e)]
theorem btab_congr {n : Nat} {f g : Nat → Bool} (h : ∀ i, i < n → f i = g i) : btab n f = btab n g := List.map_congr_left fun i hi => h i (List.mem_range.1 hi)
theorem btab_false (n : Nat) : List.replicate n false = btab n fun _ => false := by
  refine nth_ext (by simp [btab]) fun j hj => ?_
  have hj' : j < n := by simpa using hj
  rw [btab_at hj', nth_replicate _ hj']
theorem F_l2Elements (n : Nat) (xs : List Int) (h : xs.length ≤ LIM) (hn : n ≤ LIM) : F_spec_l2Elements n xs = some (decide (inSize xs n)) := by
  unfold F_spec_l2Elements
  rw [lim_def] at h hn
  have e := loop_find (body := F_spec_l2Elements_l1 n xs) (fun i => (i : Int)) xs.length (fun i => ¬ (0 ≤ nth xs i ∧ nth xs i < n)) () () (fun i hi hb => by
    have hc : 0 ≤ nth xs i ∧ nth xs i ≤ n - 1 := by have := Classical.not_not.1 hb; omega
    unfold F_spec_l2Elements_l1
    simp (disch := omega) only [ask_pos, if_pos, if_true, InI_def, Int.toNat_natCast, Int.natCast_add, Int.natCast_one, Option.bind_some, F_l1In, hc, and_self, decide_true]) (fun i hi hb => by
    have hc : ¬ (0 ≤ nth xs i ∧ nth xs i ≤ n - 1) := fun hh => hb (by omega)
    unfold F_spec_l2Elements_l1
    simp (disch := omega) only [ask_pos, if_pos, if_false, InI_def, Int.toNat_natCast, Option.bind_some, Bool.false_eq_true, F_l1In, hc, decide_false]) (by
    unfold F_spec_l2Elements_l1
    simp (disch := omega) only [ask_pos, if_pos, if_neg, InI_def, Int.toNat_natCast]) 0 (Nat.zero_le _)
  refine (find_bool e false true).trans ?_
  congr 1
  refine dec_not ?_
  rw [find_all]
  constructor
  · intro hh x hx
    obtain ⟨i, hi, rfl⟩ := mem_nth.1 hx
    exact hh i hi
  · intro hh i hi
    exact hh _ (nth_mem hi)
end Go.Proofs.Ytoikbcagaanhgaa.Ax
namespace Go.Proofs.Ytoikbcagaanhgaa.Ax
open Go Classical
theorem loop_pick {σ τ : Type} {body : σ → Option (σ ⊕ τ)} (s : Nat → σ) (n : Nat) (hit : Nat → Prop) (res : Nat → τ) (no : τ)
    (h : ∀ i, i < n → ¬ hit i → body (s i) = some (.inl (s (i + 1)))) (h2 : ∀ i, i < n → hit i → body (s i) = some (.inr (res i))) (he : body (s n) = some (.inr no)) :
    (∃ i, i < n ∧ hit i ∧ (∀ j, j < i → ¬ hit j) ∧ loopO body (s 0) = some (res i)) ∨ ((∀ i, i < n → ¬ hit i) ∧ loopO body (s 0) = some no) := by
  by_cases hx : ∃ i, i < n ∧ hit i
  · have key : ∀ m i, i ≤ m → i < n → hit i → ∃ i, i < n ∧ hit i ∧ ∀ j, j < i → ¬ hit j := by
      intro m
      induction m with
      | zero => intro i h1 h2 h3; exact ⟨i, h2, h3, fun j hj => by omega⟩
      | succ m ih =>
        intro i h1 h2 h3
        by_cases hy : ∃ j, j < i ∧ hit j
        · obtain ⟨j, h4, h5⟩ := hy
          exact ih j (by omega) (by omega) h5
        · exact ⟨i, h2, h3, fun j hj hh => hy ⟨j, hj, hh⟩⟩
    obtain ⟨i0, h1, h3⟩ := hx
    obtain ⟨i, h4, h5, h6⟩ := key i0 i0 (Nat.le_refl _) h1 h3
    exact .inl ⟨i, h4, h5, h6, loop_seq s i (res i) (fun j hj => h j (by omega) (h6 j hj)) (h2 i h4 h5)⟩
  · have hn : ∀ i, i < n → ¬ hit i := fun i hi hh => hx ⟨i, hi, hh⟩
    exact .inr ⟨hn, loop_seq s n no (fun j hj => h j hj (hn j hj)) he⟩
structure Ord (n : Nat) (f : Nat → Nat → Bool) : Prop where
  refl : ∀ x, x < n → f x x = true
  anti : ∀ x y, x < n → y < n → f x y = true → f y x = true → x = y
  trans : ∀ x y z, x < n → y < n → z < n → f x y = true → f y z = true → f x z = true
def opp (f : Nat → Nat → Bool) : Nat → Nat → Bool := fun x y => f y x
theorem Ord.opp {n : Nat} {f : Nat → Nat → Bool} (h : Ord n f) : Ord n (opp f) :=
  ⟨h.refl, fun x y hx hy h1 h2 => h.anti x y hx hy h2 h1, fun x y z hx hy hz h1 h2 => h.trans z y x hz hy hx h2 h1⟩
theorem good_ord {p : SPoset} (hg : good p.Below) : Ord p.Below.length (below p.Below) := ⟨good_refl hg, good_anti hg, good_trans hg⟩
def isBnd (n : Nat) (f : Nat → Nat → Bool) (L : Nat → Bool) (m : Nat) : Prop := m < n ∧ L m = true ∧ ∀ z, z < n → L z = true → f z m = true
noncomputable def bnd (n : Nat) (f : Nat → Nat → Bool) (L : Nat → Bool) : Int := if h : ∃ m, isBnd n f L m then ((Classical.choose h : Nat) : Int) else -1
section
variable {n : Nat} {f : Nat → Nat → Bool} {L : Nat → Bool}
theorem isBnd_uniq (ho : Ord n f) {m m' : Nat} (h : isBnd n f L m) (h' : isBnd n f L m') : m = m' :=
  ho.anti m m' h.1 h'.1 (h'.2.2 m h.1 h.2.1) (h.2.2 m' h'.1 h'.2.1)
theorem bnd_eq (ho : Ord n f) {m : Nat} (h : isBnd n f L m) : bnd n f L = m := by
  unfold bnd
  have hx : ∃ m, isBnd n f L m := ⟨m, h⟩
  rw [dif_pos hx, isBnd_uniq ho (Classical.choose_spec hx) h]
theorem bnd_none (h : ¬ ∃ m, isBnd n f L m) : bnd n f L = -1 := by
  unfold bnd; rw [dif_neg h]
theorem bnd_cases (n : Nat) (f : Nat → Nat → Bool) (L : Nat → Bool) : (∃ m : Nat, bnd n f L = m ∧ isBnd n f L m) ∨ (bnd n f L = -1 ∧ ¬ ∃ m, isBnd n f L m) := by
  by_cases h : ∃ m, isBnd n f L m
  · refine .inl ⟨Classical.choose h, ?_, Classical.choose_spec h⟩
    unfold bnd; rw [dif_pos h]
  · exact .inr ⟨bnd_none h, h⟩
theorem isBnd_congr {g : Nat → Nat → Bool} {L' : Nat → Bool} (hf : ∀ x y, x < n → y < n → f x y = g x y) (hL : ∀ z, z < n → L z = L' z) (m : Nat) : isBnd n f L m ↔ isBnd n g L' m := by
  constructor
  · rintro ⟨h1, h2, h3⟩
    exact ⟨h1, by rw [← hL m h1]; exact h2, fun z hz hl => by rw [← hf z m hz h1]; exact h3 z hz (by rw [hL z hz]; exact hl)⟩
  · rintro ⟨h1, h2, h3⟩
    exact ⟨h1, by rw [hL m h1]; exact h2, fun z hz hl => by rw [hf z m hz h1]; exact h3 z hz (by rw [← hL z hz]; exact hl)⟩
theorem bnd_congr {g : Nat → Nat → Bool} {L' : Nat → Bool} (hg : Ord n g) (hf : ∀ x y, x < n → y < n → f x y = g x y) (hL : ∀ z, z < n → L z = L' z) : bnd n f L = bnd n g L' := by
  rcases bnd_cases n f L with ⟨m, h1, h2⟩ | ⟨h1, h2⟩
  · rw [h1, bnd_eq hg ((isBnd_congr hf hL m).1 h2)]
  · rw [h1, bnd_none fun ⟨m, hm⟩ => h2 ⟨m, (isBnd_congr hf hL m).2 hm⟩]
theorem bnd_hit (ho : Ord n f) {i : Nat} (hi : i < (sieve n L).length) (hh : ∀ x ∈ sieve n L, f x.toNat (nth (sieve n L) i).toNat = true) : bnd n f L = nth (sieve n L) i := by
  obtain ⟨m, h1, h2, h3⟩ := mem_sieve.1 (nth_mem hi)
  rw [h3]
  refine bnd_eq ho ⟨h1, h2, fun z hz hl => ?_⟩
  have := hh z (mem_sieve.2 ⟨z, hz, hl, rfl⟩)
  rw [h3] at this
  simpa using this
theorem bnd_nohit (hh : ∀ i, i < (sieve n L).length → ¬ ∀ x ∈ sieve n L, f x.toNat (nth (sieve n L) i).toNat = true) : bnd n f L = -1 := by
  refine bnd_none ?_
  rintro ⟨m, h1, h2, h3⟩
  obtain ⟨i, h4, h5⟩ := mem_nth.1 (mem_sieve.2 ⟨m, h1, h2, rfl⟩ : (m : Int) ∈ sieve n L)
  refine hh i h4 fun x hx => ?_
  obtain ⟨z, h6, h7, rfl⟩ := mem_sieve.1 hx
  rw [h5]
  simpa using h3 z h6 h7
def lo2 (f : Nat → Nat → Bool) (x y : Nat) : Nat → Bool := fun z => f z x && f z y
noncomputable def loA (f : Nat → Nat → Bool) (xs : List Int) : Nat → Bool := fun z => decide (∀ x ∈ xs, f z x.toNat = true)
theorem loA_two (x y : Nat) : loA f [(x : Int), (y : Int)] = lo2 f x y := by
  funext z
  unfold loA lo2
  cases h1 : f z x <;> cases h2 : f z y <;> simp [h1, h2]
def meets (n : Nat) (f : Nat → Nat → Bool) : Prop := ∀ x y, x < n → y < n → 0 ≤ bnd n f (lo2 f x y)
theorem lo2_comm (x y : Nat) : lo2 f x y = lo2 f y x := by
  funext z; simp [lo2, Bool.and_comm]
theorem bnd_self (ho : Ord n f) {x : Nat} (hx : x < n) : bnd n f (lo2 f x x) = x :=
  bnd_eq ho ⟨hx, by simp [lo2, ho.refl x hx], fun z _ h => by simpa [lo2] using h⟩
theorem meets_iff (ho : Ord n f) : meets n f ↔ ∀ x, x < n → ∀ y, y < x → ¬ bnd n f (lo2 f x y) < 0 := by
  constructor
  · intro h x hx y hy
    have := h x y hx (by omega); omega
  · intro h x y hx hy
    rcases Nat.lt_trichotomy x y with h1 | h1 | h1
    · have := h y hy x h1
      rw [lo2_comm]; omega
    · subst h1; rw [bnd_self ho hx]; omega
    · have := h x hx y h1; omega
noncomputable def inf (n : Nat) (f : Nat → Nat → Bool) (x y : Nat) : Nat := (bnd n f (lo2 f x y)).toNat
theorem inf_spec (hm : meets n f) {x y : Nat} (hx : x < n) (hy : y < n) : isBnd n f (lo2 f x y) (inf n f x y) := by
  have h := hm x y hx hy
  rcases bnd_cases n f (lo2 f x y) with ⟨m, h1, h2⟩ | ⟨h1, _⟩
  · unfold inf; rw [h1]; exact h2
  · omega
theorem bnd_inf (hm : meets n f) {x y : Nat} (hx : x < n) (hy : y < n) : bnd n f (lo2 f x y) = inf n f x y := by
  have h := hm x y hx hy
  unfold inf; omega
theorem inf_lt (hm : meets n f) {x y : Nat} (hx : x < n) (hy : y < n) : inf n f x y < n := (inf_spec hm hx hy).1
theorem inf_left (hm : meets n f) {x y : Nat} (hx : x < n) (hy : y < n) : f (inf n f x y) x = true := by
  have := (inf_spec hm hx hy).2.1
  simp only [lo2, Bool.and_eq_true] at this; exact this.1
theorem inf_right (hm : meets n f) {x y : Nat} (hx : x < n) (hy : y < n) : f (inf n f x y) y = true := by
  have := (inf_spec hm hx hy).2.1
  simp only [lo2, Bool.and_eq_true] at this; exact this.2
theorem inf_max (hm : meets n f) {x y z : Nat} (hx : x < n) (hy : y < n) (hz : z < n) (h1 : f z x = true) (h2 : f z y = true) : f z (inf n f x y) = true :=
  (inf_spec hm hx hy).2.2 z hz (by simp [lo2, h1, h2])
theorem inf_fold (ho : Ord n f) (hm : meets n f) : ∀ (xs : List Int) (t : Nat) (S : Nat → Bool), t < n → (∀ x ∈ xs, 0 ≤ x ∧ x < (n : Int)) → (∀ y z, y < n → z < n → f y z = true → S z = true → S y = true) → isBnd n f S t →
    isBnd n f (fun z => S z && loA f xs z) (xs.foldl (fun m x => inf n f m x.toNat) t) := by
  intro xs
  induction xs with
  | nil =>
    intro t S ht _ _ hS
    refine (isBnd_congr (fun _ _ _ _ => rfl) (fun z _ => ?_) t).1 hS
    simp [loA]
  | cons x r ih =>
    intro t S ht hx hd hS
    have hx0 := hx x (by simp)
    have hxn : x.toNat < n := by omega
    have := ih (inf n f t x.toNat) (fun z => S z && f z x.toNat) (inf_lt hm ht hxn) (fun y hy => hx y (by simp [hy])) ?_ ?_
    · refine (isBnd_congr (fun _ _ _ _ => rfl) (fun z _ => ?_) _).1 this
      simp only [loA, List.mem_cons, forall_eq_or_imp]
      cases f z x.toNat <;> simp
    · intro y z hy hz h1 h2
      simp only [Bool.and_eq_true] at h2 ⊢
      exact ⟨hd y z hy hz h1 h2.1, ho.trans y z x.toNat hy hz hxn h1 h2.2⟩
    · refine ⟨inf_lt hm ht hxn, ?_, ?_⟩
      · have h1 := inf_left hm ht hxn
        have h2 := inf_right hm ht hxn
        have h3 : S (inf n f t x.toNat) = true := hd _ _ (inf_lt hm ht hxn) ht h1 hS.2.1
        simp [h2, h3]
      · intro z hz hl
        simp only [Bool.and_eq_true] at hl
        exact inf_max hm ht hxn hz (hS.2.2 z hz hl.1) hl.2
end
noncomputable def cov (n : Nat) (f : Nat → Nat → Bool) (x y : Nat) : Bool := decide ((x ≠ y ∧ f x y = true) ∧ ∀ z, z < n → ¬ ((x ≠ z ∧ f x z = true) ∧ (z ≠ y ∧ f z y = true)))
theorem cov_opp (n : Nat) (f : Nat → Nat → Bool) (x y : Nat) : cov n (opp f) x y = cov n f y x := by
  unfold cov opp
  rw [decide_eq_decide]
  constructor
  · rintro ⟨⟨h1, h2⟩, h3⟩
    exact ⟨⟨fun h => h1 h.symm, h2⟩, fun z hz h => h3 z hz ⟨⟨fun e => h.2.1 e.symm, h.2.2⟩, ⟨fun e => h.1.1 e.symm, h.1.2⟩⟩⟩
  · rintro ⟨⟨h1, h2⟩, h3⟩
    exact ⟨⟨fun h => h1 h.symm, h2⟩, fun z hz h => h3 z hz ⟨⟨fun e => h.2.1 e.symm, h.2.2⟩, ⟨fun e => h.1.1 e.symm, h.1.2⟩⟩⟩
end Go.Proofs.Ytoikbcagaanhgaa.Ax
namespace Go.Proofs.Ytoikbcagaanhgaa.Ax
open Go Classical
theorem take_all {xs : List Int} {P : Int → Prop} {i : Nat} (hi : i < xs.length) : (∀ x ∈ xs.take (i + 1), P x) ↔ (∀ x ∈ xs.take i, P x) ∧ P (nth xs i) := by
  rw [take_nth hi]
  constructor
  · intro h
    exact ⟨fun x hx => h x (by simp [hx]), h _ (by simp)⟩
  · rintro ⟨h1, h2⟩ x hx
    rcases List.mem_append.1 hx with hx | hx
    · exact h1 x hx
    · simp only [List.mem_singleton] at hx; subst hx; exact h2
section
variable {p : SPoset}
theorem F_l24Bound1 (hs : small p) (xs : List Int) (hx : inSize xs p.Below.length) (hl : xs.length ≤ LIM) (z : Nat) (acc : List Int) :
    loopO (F_spec_l24Bound_l1 p xs (z : Int) acc) (0, true) = some (loA (below p.Below) xs z) := by
  have e : loA (below p.Below) xs z = decide (∀ x ∈ xs.take xs.length, below p.Below z x.toNat = true) := by rw [List.take_length]; rfl
  rw [e]
  have key : loopO (F_spec_l24Bound_l1 p xs (z : Int) acc) (((0 : Nat) : Int), decide (∀ x ∈ xs.take 0, below p.Below z x.toNat = true)) = some (decide (∀ x ∈ xs.take xs.length, below p.Below z x.toNat = true)) :=
    loop_seq (body := F_spec_l24Bound_l1 p xs (z : Int) acc) (fun i => ((i : Int), decide (∀ x ∈ xs.take i, below p.Below z x.toNat = true))) xs.length _ (fun i hi => by
    unfold F_spec_l24Bound_l1
    dsimp only
    rw [lim_def] at hl
    have hr := hx _ (nth_mem hi)
    have hc : nth xs i = (((nth xs i).toNat : Nat) : Int) := by omega
    by_cases ha : ∀ x ∈ xs.take i, below p.Below z x.toNat = true
    · rw [decide_eq_true ha]
      simp (disch := omega) only [ask_pos, if_pos, if_true, InI_def, Int.toNat_natCast, Int.natCast_add, Int.natCast_one]
      rw [hc, F_l23Leq hs z _ (by omega)]
      simp (disch := omega) only [Option.bind_some]
      have : (∀ x ∈ xs.take (i + 1), below p.Below z x.toNat = true) ↔ below p.Below z (nth xs i).toNat = true := by
        rw [take_all hi]; exact ⟨fun h => h.2, fun h => ⟨ha, h⟩⟩
      simp only [this, Bool.decide_eq_true]
    · have hb : ¬ ∀ x ∈ xs.take (i + 1), below p.Below z x.toNat = true := fun h => ha ((take_all hi).1 h).1
      rw [decide_eq_false ha, decide_eq_false hb]
      simp (disch := omega) only [ask_pos, if_pos, if_false, InI_def, Int.toNat_natCast, Int.natCast_add, Int.natCast_one, Bool.false_eq_true]) (by
    unfold F_spec_l24Bound_l1
    dsimp only
    rw [if_neg (by omega)])
  have e0 : decide (∀ x ∈ xs.take 0, below p.Below z x.toNat = true) = true := by simp
  rw [e0] at key
  exact key
theorem mem_below (y x : Nat) : (y : Int) ∈ nth p.Below x ↔ below p.Below y x = true := by simp [below]
theorem F_l24Bound (hs : small p) (hg : good p.Below) (xs : List Int) (hx : inSize xs p.Below.length) (hl : xs.length ≤ LIM) :
    F_spec_l24Bound p xs = some (bnd p.Below.length (below p.Below) (loA (below p.Below) xs)) := by
  unfold F_spec_l24Bound
  have h0 := hs.1
  have h10 : p.Below.length ≤ 10 := hg.1
  rw [loop_sieve (body := F_spec_l24Bound_l2 p xs) p.Below.length (loA (below p.Below) xs) (fun i acc hi ha => by
    unfold F_spec_l24Bound_l2
    dsimp only
    rw [if_pos (by omega), F_l24Bound1 hs xs hx hl i acc]
    simp only [Option.bind_some]
    by_cases hp : loA (below p.Below) xs i = true
    · rw [if_pos hp, if_pos hp]
      simp (disch := omega) only [ask_pos, InI_def, lim_def, List.length_cons, List.length_nil, Int.natCast_add, Int.natCast_one]
    · rw [if_neg hp, if_neg hp]
      simp (disch := omega) only [ask_pos, InI_def, Int.natCast_add, Int.natCast_one]) (fun acc => by
    unfold F_spec_l24Bound_l2
    dsimp only
    rw [if_neg (by omega)])]
  simp only [Option.bind_some]
  have hsl := sieve_len p.Below.length (loA (below p.Below) xs)
  have hin : ∀ i, i < (sieve p.Below.length (loA (below p.Below) xs)).length → ∃ m : Nat, nth (sieve p.Below.length (loA (below p.Below) xs)) i = m ∧ m < p.Below.length := by
    intro i hi
    obtain ⟨m, h1, _, h3⟩ := mem_sieve.1 (nth_mem hi)
    exact ⟨m, h3, h1⟩
  generalize hLs : sieve p.Below.length (loA (below p.Below) xs) = ls at hsl hin
  rcases loop_pick (body := F_spec_l24Bound_l3 p ls) (fun i => (i : Int)) ls.length (fun i => ∀ x ∈ ls, x ∈ nth p.Below (nth ls i).toNat) (fun i => .inl (nth ls i)) (.inr ()) (fun i hi hh => by
      unfold F_spec_l24Bound_l3
      obtain ⟨m, hm, hm2⟩ := hin i hi
      rw [if_pos (by omega), ask_pos (by omega), ask_pos (by rw [Int.toNat_natCast, hm]; omega), F_l5Within _ _ (by rw [lim_def]; omega) (hs.2 _ (nth_mem (by rw [Int.toNat_natCast, hm]; omega))), Int.toNat_natCast]
      simp only [Option.bind_some]
      rw [if_neg (by simpa using hh), ask_pos (by unfold InI; omega)]
      rfl) (fun i hi hh => by
      unfold F_spec_l24Bound_l3
      obtain ⟨m, hm, hm2⟩ := hin i hi
      rw [if_pos (by omega), ask_pos (by omega), ask_pos (by rw [Int.toNat_natCast, hm]; omega), F_l5Within _ _ (by rw [lim_def]; omega) (hs.2 _ (nth_mem (by rw [Int.toNat_natCast, hm]; omega))), Int.toNat_natCast]
      simp only [Option.bind_some]
      rw [if_pos (by simpa using hh), ask_pos (by omega)]) (by
      unfold F_spec_l24Bound_l3
      rw [if_neg (by omega)]) with ⟨i, hi, hh, _, e⟩ | ⟨hn, e⟩
  · rw [show ((0 : Int)) = (((0 : Nat)) : Int) from rfl, e]
    simp only [Option.bind_some]
    subst hLs
    rw [bnd_hit (good_ord hg) hi fun x hx => ?_]
    obtain ⟨z, _, _, rfl⟩ := mem_sieve.1 hx
    rw [Int.toNat_natCast]
    exact (mem_below _ _).1 (hh _ hx)
  · rw [show ((0 : Int)) = (((0 : Nat)) : Int) from rfl, e]
    simp only [Option.bind_some]
    subst hLs
    rw [bnd_nohit fun i hi hc => hn i hi fun x hx => ?_]
    obtain ⟨z, _, _, rfl⟩ := mem_sieve.1 hx
    have := hc _ hx
    rw [Int.toNat_natCast] at this
    exact (mem_below _ _).2 this
theorem dual_opp (hg : good p.Below) (L : (Nat → Nat → Bool) → Nat → Bool) (hL : ∀ z, z < p.Below.length → L (below (dualP p).Below) z = L (opp (below p.Below)) z) :
    bnd (dualP p).Below.length (below (dualP p).Below) (L (below (dualP p).Below)) = bnd p.Below.length (opp (below p.Below)) (L (opp (below p.Below))) := by
  have ho := good_ord (good_dual hg)
  rw [dual_len] at ho ⊢
  exact bnd_congr (good_ord hg).opp (fun x y hx hy => below_dual hy hx) hL
theorem F_l24BoundD (hs : small p) (hg : good p.Below) (xs : List Int) (hx : inSize xs p.Below.length) (hl : xs.length ≤ LIM) :
    F_spec_l24Bound (dualP p) xs = some (bnd p.Below.length (opp (below p.Below)) (loA (opp (below p.Below)) xs)) := by
  rw [F_l24Bound (small_dual hs) (good_dual hg) xs (by rw [dual_len]; exact hx) hl, dual_opp hg (fun g => loA g xs) fun z hz => ?_]
  unfold loA
  rw [decide_eq_decide]
  constructor
  · intro h x hxx
    have := hx x hxx
    have h2 := h x hxx
    rw [below_dual (by omega) hz] at h2; exact h2
  · intro h x hxx
    have := hx x hxx
    rw [below_dual (by omega) hz]; exact h x hxx
end
section
variable {n : Nat} {f : Nat → Nat → Bool}
theorem F_greatest1 (hn : n ≤ LIM) (ls : List Int) (hx : inSize ls n) (hl : ls.length ≤ n) (k : Nat) (hk : k < ls.length) :
    loopO (F_impl_order_greatest_l1 (tab n f) ls (k : Int)) (0, true) = some (decide (∀ x ∈ ls, f x.toNat (nth ls k).toNat = true)) := by
  have key : loopO (F_impl_order_greatest_l1 (tab n f) ls (k : Int)) (((0 : Nat) : Int), decide (∀ x ∈ ls.take 0, f x.toNat (nth ls k).toNat = true)) = some (decide (∀ x ∈ ls.take ls.length, f x.toNat (nth ls k).toNat = true)) :=
    loop_seq (body := F_impl_order_greatest_l1 (tab n f) ls (k : Int)) (fun i => ((i : Int), decide (∀ x ∈ ls.take i, f x.toNat (nth ls k).toNat = true))) ls.length _ (fun i hi => by
    unfold F_impl_order_greatest_l1
    dsimp only
    rw [lim_def] at hn
    have hr := hx _ (nth_mem hi)
    have hr2 := hx _ (nth_mem hk)
    have hlen := tab_row_len n f (nth ls i).toNat (by omega)
    have htl := tab_len n f
    by_cases ha : ∀ x ∈ ls.take i, f x.toNat (nth ls k).toNat = true
    · rw [decide_eq_true ha]
      simp (disch := omega) only [ask_pos, if_pos, if_true, InI_def, Int.toNat_natCast, Int.natCast_add, Int.natCast_one, htl, hlen]
      have : (∀ x ∈ ls.take (i + 1), f x.toNat (nth ls k).toNat = true) ↔ f (nth ls i).toNat (nth ls k).toNat = true := by
        rw [take_all hi]; exact ⟨fun h => h.2, fun h => ⟨ha, h⟩⟩
      simp only [this, Bool.decide_eq_true]
      rw [tab_at n f _ _ (by omega) (by omega)]
    · have hb : ¬ ∀ x ∈ ls.take (i + 1), f x.toNat (nth ls k).toNat = true := fun h => ha ((take_all hi).1 h).1
      rw [decide_eq_false ha, decide_eq_false hb]
      simp (disch := omega) only [ask_pos, if_pos, if_false, InI_def, Int.toNat_natCast, Int.natCast_add, Int.natCast_one, Bool.false_eq_true]) (by
    unfold F_impl_order_greatest_l1
    dsimp only
    rw [if_neg (by omega)])
  have e0 : decide (∀ x ∈ ls.take 0, f x.toNat (nth ls k).toNat = true) = true := by simp
  rw [e0, List.take_length] at key
  exact key
theorem F_greatest (ho : Ord n f) (hn : n ≤ LIM) (L : Nat → Bool) : F_impl_order_greatest (tab n f) (sieve n L) = some (bnd n f L) := by
  unfold F_impl_order_greatest
  have hsl := sieve_len n L
  have hin : inSize (sieve n L) n := by
    intro x hx
    obtain ⟨m, h1, _, rfl⟩ := mem_sieve.1 hx
    omega
  rw [lim_def] at hn
  rcases loop_pick (body := F_impl_order_greatest_l2 (tab n f) (sieve n L)) (fun i => (i : Int)) (sieve n L).length (fun i => ∀ x ∈ sieve n L, f x.toNat (nth (sieve n L) i).toNat = true) (fun i => .inl (nth (sieve n L) i)) (.inr ()) (fun i hi hh => by
      unfold F_impl_order_greatest_l2
      rw [if_pos (by omega), ask_pos (by omega), F_greatest1 hn _ hin hsl i hi, decide_eq_false hh]
      simp (disch := omega) only [ask_pos, if_false, InI_def, Int.toNat_natCast, Int.natCast_add, Int.natCast_one, Option.bind_some, Bool.false_eq_true]) (fun i hi hh => by
      unfold F_impl_order_greatest_l2
      rw [if_pos (by omega), ask_pos (by omega), F_greatest1 hn _ hin hsl i hi, decide_eq_true hh]
      simp (disch := omega) only [ask_pos, if_true, InI_def, Int.toNat_natCast, Option.bind_some]) (by
      unfold F_impl_order_greatest_l2
      rw [if_neg (by omega)]) with ⟨i, hi, hh, _, e⟩ | ⟨hnn, e⟩
  · rw [show ((0 : Int)) = (((0 : Nat)) : Int) from rfl, e, bnd_hit ho hi hh]; rfl
  · rw [show ((0 : Int)) = (((0 : Nat)) : Int) from rfl, e, bnd_nohit hnn]; rfl
theorem F_meetTable1 (x y z : Nat) (hx : x < n) (hy : y < n) (hz : z < n) : F_impl_order_meetTable_1 (z : Int) (tab n f) (x : Int) (y : Int) = some (lo2 f x y z) := by
  unfold F_impl_order_meetTable_1
  have htl := tab_len n f
  have hlen := tab_row_len n f z hz
  rw [ask_pos (by omega), Int.toNat_natCast, ask_pos (by omega), Int.toNat_natCast, tab_at n f z x hz hx]
  unfold lo2
  cases h : f z x
  · simp
  · rw [if_pos rfl, ask_pos (by omega), ask_pos (by omega), Int.toNat_natCast, tab_at n f z y hz hy]; simp
noncomputable def mtab (n : Nat) (f : Nat → Nat → Bool) : List (List Int) := (List.range n).map fun x => (List.range n).map fun y => bnd n f (lo2 f x y)
noncomputable def mrow (n : Nat) (f : Nat → Nat → Bool) (x i : Nat) : List Int := (List.range i).map fun y => bnd n f (lo2 f x y)
noncomputable def mrows (n : Nat) (f : Nat → Nat → Bool) (i : Nat) : List (List Int) := (List.range i).map fun x => mrow n f x n
theorem mrow_succ (x i : Nat) : mrow n f x (i + 1) = mrow n f x i ++ [bnd n f (lo2 f x i)] := by simp [mrow, List.range_succ]
theorem mrows_succ (i : Nat) : mrows n f (i + 1) = mrows n f i ++ [mrow n f i n] := by simp [mrows, List.range_succ]
theorem mrow_len (x i : Nat) : (mrow n f x i).length = i := by simp [mrow]
theorem mrows_len (i : Nat) : (mrows n f i).length = i := by simp [mrows]
theorem mtab_len : (mtab n f).length = n := by simp [mtab]
theorem mtab_row {x : Nat} (hx : x < n) : nth (mtab n f) x = mrow n f x n := by
  unfold mtab
  rw [nth_map' _ (by simpa using hx), nth_range hx]; rfl
theorem mtab_at {x y : Nat} (hx : x < n) (hy : y < n) : nth (nth (mtab n f) x) y = bnd n f (lo2 f x y) := by
  rw [mtab_row hx]
  unfold mrow
  rw [nth_map' _ (by simpa using hy), nth_range hy]
theorem F_meetRow (ho : Ord n f) (hn : n ≤ LIM) (x : Nat) (hx : x < n) (acc : List (List Int)) : (loopO (F_impl_order_meetTable_l1 (tab n f) (x : Int) acc) (0, nilL Int) = some (.inl ()) ∧ ∃ y, y < n ∧ bnd n f (lo2 f x y) < 0) ∨
    (loopO (F_impl_order_meetTable_l1 (tab n f) (x : Int) acc) (0, nilL Int) = some (.inr (mrow n f x n)) ∧ ∀ y, y < n → ¬ bnd n f (lo2 f x y) < 0) := by
  have htl := tab_len n f
  have hth : ∀ y, y < n → F_impl_order_those (tab n f) (fun w => F_impl_order_meetTable_1 w (tab n f) (x : Int) (y : Int)) = some (sieve n (lo2 f x y)) := fun y hy =>
    F_those (n := n) (p := lo2 f x y) htl hn fun z hz => F_meetTable1 x y z hx hy hz
  have hn' := hn
  rw [lim_def] at hn'
  rcases loop_pick (body := F_impl_order_meetTable_l1 (tab n f) (x : Int) acc) (fun i => ((i : Int), mrow n f x i)) n (fun y => bnd n f (lo2 f x y) < 0) (fun _ => .inl ()) (.inr (mrow n f x n)) (fun y hy hh => by
      unfold F_impl_order_meetTable_l1
      dsimp only
      rw [if_pos (by omega), hth y hy]
      simp only [Option.bind_some]
      rw [F_greatest ho hn]
      have hl := mrow_len (n := n) (f := f) x y
      simp only [Option.bind_some]
      rw [if_neg hh, ask_pos (by rw [lim_def]; simp; omega), ask_pos (by unfold InI; omega), mrow_succ]
      rfl) (fun y hy hh => by
      unfold F_impl_order_meetTable_l1
      dsimp only
      rw [if_pos (by omega), hth y hy]
      simp only [Option.bind_some]
      rw [F_greatest ho hn]
      simp only [Option.bind_some]
      rw [if_pos hh]) (by
      unfold F_impl_order_meetTable_l1
      dsimp only
      rw [if_neg (by omega)]) with ⟨i, hi, hh, _, e⟩ | ⟨hnn, e⟩
  · exact .inl ⟨e, i, hi, hh⟩
  · exact .inr ⟨e, hnn⟩
theorem F_meetTable (ho : Ord n f) (hn : n ≤ LIM) : F_impl_order_meetTable (tab n f) = some (if meets n f then (mtab n f, true) else (nilL (List Int), false)) := by
  unfold F_impl_order_meetTable
  have htl := tab_len n f
  have hn' := hn
  rw [lim_def] at hn'
  rcases loop_pick (body := F_impl_order_meetTable_l2 (tab n f)) (fun i => ((i : Int), mrows n f i)) n (fun x => ∃ y, y < n ∧ bnd n f (lo2 f x y) < 0) (fun _ => .inl ()) (.inr (mrows n f n)) (fun x hx hh => by
      unfold F_impl_order_meetTable_l2
      dsimp only
      have hl := mrows_len (n := n) (f := f) x
      rcases F_meetRow ho hn x hx (mrows n f x) with ⟨_, hc⟩ | ⟨e, _⟩
      · exact absurd hc hh
      · rw [if_pos (by omega), e]
        simp only [Option.bind_some]
        rw [ask_pos (by rw [lim_def]; simp; omega), ask_pos (by unfold InI; omega), mrows_succ]
        rfl) (fun x hx hh => by
      unfold F_impl_order_meetTable_l2
      dsimp only
      rcases F_meetRow ho hn x hx (mrows n f x) with ⟨e, _⟩ | ⟨_, hc⟩
      · rw [if_pos (by omega), e]; rfl
      · obtain ⟨y, hy, hb⟩ := hh
        exact absurd hb (hc y hy)) (by
      unfold F_impl_order_meetTable_l2
      dsimp only
      rw [if_neg (by omega)]) with ⟨i, hi, ⟨y, hy, hb⟩, _, e⟩ | ⟨hnn, e⟩
  · have : ¬ meets n f := fun hm => by have := hm i y hi hy; omega
    rw [if_neg this]
    rw [show (((0 : Int), nilL (List Int))) = ((((0 : Nat)) : Int), mrows n f 0) from rfl, e]; rfl
  · have : meets n f := fun x y hx hy => by
      exact Int.not_lt.1 fun hb => hnn x hx ⟨y, hy, hb⟩
    rw [if_pos this]
    rw [show (((0 : Int), nilL (List Int))) = ((((0 : Nat)) : Int), mrows n f 0) from rfl, e]; rfl
def half (f : Nat → Nat → Bool) (x y : Nat) : Nat → Nat → Bool := fun a b => if a < x ∨ (a = x ∧ b < y) then f b a else false
theorem F_dual1 (hn : n ≤ LIM) (x : Nat) (hx : x < n) : loopO (F_impl_order_dual_l1 (tab n f) (x : Int)) (0, tab n (half f x 0)) = some (tab n (half f (x + 1) 0)) := by
  have htl := tab_len n f
  have hn' := hn
  rw [lim_def] at hn'
  refine loop_seq (body := F_impl_order_dual_l1 (tab n f) (x : Int)) (fun y => ((y : Int), tab n (half f x y))) n _ (fun y hy => ?_) ?_
  · unfold F_impl_order_dual_l1
    dsimp only
    have h1 := tab_len n (half f x y)
    have h2 := tab_row_len n f y hy
    have h3 := tab_row_len n (half f x y) x hx
    simp (disch := omega) only [ask_pos, if_pos, InI_def, Int.toNat_natCast, Int.natCast_add, Int.natCast_one, htl, h1, h2, h3]
    rw [tab_at n f y x hy hx, tab_set n _ x y _ hx hy]
    congr 4
    funext a b
    unfold half
    by_cases hab : a = x ∧ b = y
    · obtain ⟨rfl, rfl⟩ := hab
      simp
    · rw [if_neg hab]
      have : (a < x ∨ a = x ∧ b < y) ↔ (a < x ∨ a = x ∧ b < y + 1) := by omega
      simp only [this]
  · unfold F_impl_order_dual_l1
    dsimp only
    rw [if_neg (by omega)]
    congr 2
    refine tab_congr fun a b ha hb => ?_
    unfold half
    have : (a < x ∨ a = x ∧ b < n) ↔ (a < x + 1 ∨ a = x + 1 ∧ b < 0) := by omega
    simp only [this]
theorem F_order_dual (hn : n ≤ LIM) : F_impl_order_dual (tab n f) = some (tab n (opp f)) := by
  unfold F_impl_order_dual
  have htl := tab_len n f
  rw [htl, F_newOrder n hn]
  simp only [Option.bind_some]
  have hn' := hn
  rw [lim_def] at hn'
  have key : loopO (F_impl_order_dual_l2 (tab n f)) (((0 : Nat) : Int), tab n (half f 0 0)) = some (tab n (half f n 0)) :=
    loop_seq (body := F_impl_order_dual_l2 (tab n f)) (fun x => ((x : Int), tab n (half f x 0))) n _ (fun x hx => by
      unfold F_impl_order_dual_l2
      dsimp only
      rw [if_pos (by omega), F_dual1 hn x hx]
      simp only [Option.bind_some]
      rw [ask_pos (by unfold InI; omega)]; rfl) (by
      unfold F_impl_order_dual_l2
      dsimp only
      rw [if_neg (by omega)])
  have e0 : tab n (half f 0 0) = tab n fun _ _ => false := tab_congr fun a b _ _ => by simp [half]
  have e1 : tab n (half f n 0) = tab n (opp f) := tab_congr fun a b ha _ => by simp [half, opp, ha]
  rw [e0, e1] at key
  rw [show ((0 : Int)) = (((0 : Nat)) : Int) from rfl, key]; rfl
end
def isLat (p : SPoset) : Prop := good p.Below ∧ p.Below.length ≠ 0 ∧ meets p.Below.length (below p.Below) ∧ meets p.Below.length (opp (below p.Below))
noncomputable def latOf (p : SPoset) : Slattice := ⟨tab p.Below.length (below p.Below), mtab p.Below.length (below p.Below), mtab p.Below.length (opp (below p.Below))⟩
section
variable {p : SPoset}
theorem F_latticeOf_yes (hs : small p) (h : isLat p) : F_impl_latticeOf p = some (some (latOf p), true) := by
  obtain ⟨hg, h0, h1, h2⟩ := h
  unfold F_impl_latticeOf
  have htl := tab_len p.Below.length (below p.Below)
  rw [order_good p hs.1 hs.2 hg]
  simp only [Option.bind_some, if_true, htl]
  rw [if_neg (by omega)]
  simp only [Option.bind_some]
  rw [F_meetTable (good_ord hg) hs.1, F_order_dual hs.1]
  simp only [Option.bind_some]
  rw [F_meetTable (good_ord hg).opp hs.1, if_pos h1, if_pos h2]
  rfl
theorem F_latticeOf_no (hs : small p) (h : ¬ isLat p) : ∃ l, F_impl_latticeOf p = some (l, false) := by
  unfold F_impl_latticeOf
  by_cases hg : good p.Below
  · have htl := tab_len p.Below.length (below p.Below)
    rw [order_good p hs.1 hs.2 hg]
    simp only [Option.bind_some, if_true, htl]
    by_cases h0 : p.Below.length = 0
    · rw [if_pos (by omega)]; exact ⟨_, rfl⟩
    rw [if_neg (by omega)]
    simp only [Option.bind_some]
    rw [F_meetTable (good_ord hg) hs.1, F_order_dual hs.1]
    simp only [Option.bind_some]
    rw [F_meetTable (good_ord hg).opp hs.1]
    simp only [Option.bind_some]
    by_cases h1 : meets p.Below.length (below p.Below)
    · have h2 : ¬ meets p.Below.length (opp (below p.Below)) := fun h2 => h ⟨hg, h0, h1, h2⟩
      rw [if_pos h1, if_neg h2]
      exact ⟨_, rfl⟩
    · rw [if_neg h1]
      exact ⟨_, rfl⟩
  · obtain ⟨o, e⟩ := order_bad p hs.1 hs.2 hg
    rw [e]
    exact ⟨none, by simp⟩
theorem two_in {x y n : Nat} (hx : x < n) (hy : y < n) : inSize [(x : Int), (y : Int)] n := by
  intro z hz
  simp only [List.mem_cons, List.not_mem_nil, or_false] at hz
  rcases hz with rfl | rfl <;> omega
theorem F_l24Two (hs : small p) (hg : good p.Below) {x y : Nat} (hx : x < p.Below.length) (hy : y < p.Below.length) : F_spec_l24Bound p [(x : Int), (y : Int)] = some (bnd p.Below.length (below p.Below) (lo2 (below p.Below) x y)) := by
  rw [F_l24Bound hs hg _ (two_in hx hy) (by rw [lim_def]; simp), loA_two]
theorem F_l24TwoD (hs : small p) (hg : good p.Below) {x y : Nat} (hx : x < p.Below.length) (hy : y < p.Below.length) : F_spec_l24Bound (dualP p) [(x : Int), (y : Int)] = some (bnd p.Below.length (opp (below p.Below)) (lo2 (opp (below p.Below)) x y)) := by
  rw [F_l24BoundD hs hg _ (two_in hx hy) (by rw [lim_def]; simp), loA_two]
theorem F_l24Good (hs : small p) : F_spec_l24Good p = some (decide (isLat p)) := by
  unfold F_spec_l24Good
  rw [F_l23Good p hs.1 hs.2]
  simp only [Option.bind_some]
  by_cases hg : good p.Below
  · rw [decide_eq_true hg]
    by_cases h0 : p.Below.length = 0
    · simp only [if_true]
      rw [if_pos (by omega), decide_eq_false (fun h => h.2.1 h0)]; rfl
    simp only [if_true]
    rw [if_neg (by omega)]
    simp only [Option.bind_some]
    rw [F_l23Dual hs]
    simp only [Option.bind_some]
    have h10 : p.Below.length ≤ 10 := hg.1
    let bad : Nat → Nat → Prop := fun x y => bnd p.Below.length (below p.Below) (lo2 (below p.Below) x y) < 0 ∨ bnd p.Below.length (opp (below p.Below)) (lo2 (opp (below p.Below)) x y) < 0
    have inner : ∀ x, x < p.Below.length → (∃ y, y < x ∧ bad x y ∧ loopO (F_spec_l24Good_l1 p (dualP p) (x : Int)) 0 = some (.inl ())) ∨ ((∀ y, y < x → ¬ bad x y) ∧ loopO (F_spec_l24Good_l1 p (dualP p) (x : Int)) 0 = some (.inr ())) := by
      intro x hx
      rcases loop_pick (body := F_spec_l24Good_l1 p (dualP p) (x : Int)) (fun y => (y : Int)) x (bad x) (fun _ => .inl ()) (.inr ()) (fun y hy hh => by
          unfold F_spec_l24Good_l1
          rw [if_pos (by omega), F_l24Two hs hg hx (by omega)]
          simp only [Option.bind_some]
          rw [if_neg (fun h => hh (.inl h)), F_l24TwoD hs hg hx (by omega)]
          simp only [Option.bind_some]
          rw [if_neg (fun h => hh (.inr h)), ask_pos (by unfold InI; omega)]; rfl) (fun y hy hh => by
          unfold F_spec_l24Good_l1
          rw [if_pos (by omega), F_l24Two hs hg hx (by omega)]
          simp only [Option.bind_some]
          by_cases h1 : bnd p.Below.length (below p.Below) (lo2 (below p.Below) x y) < 0
          · rw [if_pos h1]
          · rw [if_neg h1, F_l24TwoD hs hg hx (by omega)]
            simp only [Option.bind_some]
            rw [if_pos (hh.resolve_left h1)]) (by
          unfold F_spec_l24Good_l1
          rw [if_neg (by omega)]) with ⟨y, hy, hh, _, e⟩ | ⟨hn, e⟩
      · exact .inl ⟨y, hy, hh, e⟩
      · exact .inr ⟨hn, e⟩
    rcases loop_pick (body := F_spec_l24Good_l2 p (dualP p)) (fun x => (x : Int)) p.Below.length (fun x => ∃ y, y < x ∧ bad x y) (fun _ => .inl ()) (.inr ()) (fun x hx hh => by
        unfold F_spec_l24Good_l2
        rw [if_pos (by omega)]
        rcases inner x hx with ⟨y, hy, hb, _⟩ | ⟨_, e⟩
        · exact absurd ⟨y, hy, hb⟩ hh
        · rw [e]
          simp only [Option.bind_some]
          rw [ask_pos (by unfold InI; omega)]; rfl) (fun x hx hh => by
        unfold F_spec_l24Good_l2
        rw [if_pos (by omega)]
        rcases inner x hx with ⟨_, _, _, e⟩ | ⟨hb, _⟩
        · rw [e]; rfl
        · obtain ⟨y, hy, hc⟩ := hh
          exact absurd hc (hb y hy)) (by
        unfold F_spec_l24Good_l2
        rw [if_neg (by omega)]) with ⟨x, hx, ⟨y, hy, hb⟩, _, e⟩ | ⟨hn, e⟩
    · rw [show ((0 : Int)) = (((0 : Nat)) : Int) from rfl, e, decide_eq_false]
      · rfl
      · rintro ⟨_, _, h1, h2⟩
        have := h1 x y hx (by omega)
        have := h2 x y hx (by omega)
        rcases hb with hb | hb <;> omega
    · rw [show ((0 : Int)) = (((0 : Nat)) : Int) from rfl, e, decide_eq_true]
      · rfl
      · refine ⟨hg, h0, (meets_iff (good_ord hg)).2 fun x hx y hy hc => hn x hx ⟨y, hy, .inl hc⟩, (meets_iff (good_ord hg).opp).2 fun x hx y hy hc => hn x hx ⟨y, hy, .inr hc⟩⟩
  · rw [decide_eq_false hg, decide_eq_false (fun h => hg h.1)]
    rfl
end
end Go.Proofs.Ytoikbcagaanhgaa.Ax
namespace Go.Proofs.Ytoikbcagaanhgaa.Ax
open Go Classical
def posOf (n : Nat) (f : Nat → Nat → Bool) : SPoset := ⟨(List.range n).map fun x => sieve n fun y => f y x⟩
def rowsOf (n : Nat) (f : Nat → Nat → Bool) (i : Nat) : List (List Int) := (List.range i).map fun x => sieve n fun y => f y x
theorem rowsOf_succ (n : Nat) (f : Nat → Nat → Bool) (i : Nat) : rowsOf n f (i + 1) = rowsOf n f i ++ [sieve n fun y => f y i] := by simp [rowsOf, List.range_succ]
theorem rowsOf_len (n : Nat) (f : Nat → Nat → Bool) (i : Nat) : (rowsOf n f i).length = i := by simp [rowsOf]
section
variable {n : Nat} {f : Nat → Nat → Bool}
theorem posOf_len : (posOf n f).Below.length = n := by simp [posOf]
theorem posOf_row {x : Nat} (hx : x < n) : nth (posOf n f).Below x = sieve n fun y => f y x := by
  unfold posOf
  rw [nth_map' _ (by simpa using hx), nth_range hx]
theorem posOf_rows (r : List Int) (hr : r ∈ (posOf n f).Below) : r.length ≤ n := by
  simp only [posOf, List.mem_map, List.mem_range] at hr
  obtain ⟨x, _, rfl⟩ := hr
  exact sieve_len _ _
theorem posOf_below {x y : Nat} (hx : x < n) (hy : y < n) : below (posOf n f).Below y x = f y x := by
  unfold below
  rw [posOf_row hx]
  cases h : f y x with
  | true => exact decide_eq_true (mem_sieve.2 ⟨y, hy, h, rfl⟩)
  | false =>
    refine decide_eq_false fun hm => ?_
    obtain ⟨z, _, h2, h3⟩ := mem_sieve.1 hm
    have : z = y := by omega
    subst this
    rw [h] at h2; cases h2
theorem posOf_posOk (hn : n ≤ 10) : posOk (posOf n f).Below := by
  refine ⟨by rw [posOf_len]; exact hn, fun r hr => ?_⟩
  rw [posOf_len]
  simp only [posOf, List.mem_map, List.mem_range] at hr
  obtain ⟨x, _, rfl⟩ := hr
  refine ⟨sieve_rises _ _, fun y hy => ?_⟩
  obtain ⟨z, h1, _, rfl⟩ := mem_sieve.1 hy
  omega
theorem isOrd_congr {g : Nat → Nat → Bool} (h : ∀ x y, x < n → y < n → f x y = g x y) (hf : isOrd n f) : isOrd n g := by
  intro x hx
  obtain ⟨h1, h2⟩ := hf x hx
  refine ⟨by rw [← h x x hx hx]; exact h1, fun y hy => ?_⟩
  obtain ⟨h3, h4⟩ := h2 y hy
  refine ⟨by rw [← h x y hx hy, ← h y x hy hx]; exact h3, fun z hz => ?_⟩
  rw [← h x y hx hy, ← h y z hy hz, ← h x z hx hz]
  exact h4 z hz
theorem posOf_good (hn : n ≤ 10) : good (posOf n f).Below ↔ isOrd n f := by
  rw [← good_iff]
  have hl : (posOf n f).Below.length = n := posOf_len
  constructor
  · rintro ⟨_, h⟩
    rw [hl] at h
    exact isOrd_congr (fun x y hx hy => posOf_below hy hx) h
  · intro h
    refine ⟨posOf_posOk hn, ?_⟩
    rw [hl]
    exact isOrd_congr (fun x y hx hy => (posOf_below hy hx).symm) h
theorem F_order_poset (hn : n ≤ LIM) : F_impl_order_poset (tab n f) = some (posOf n f) := by
  unfold F_impl_order_poset
  have htl := tab_len n f
  have hn' := hn
  rw [lim_def] at hn'
  have inner : ∀ x, x < n → ∀ acc, loopO (F_impl_order_poset_l1 (tab n f) (x : Int) acc) (0, nilL Int) = some (sieve n fun y => f y x) := by
    intro x hx acc
    refine loop_sieve (body := F_impl_order_poset_l1 (tab n f) (x : Int) acc) n (fun y => f y x) (fun y acc2 hy ha => ?_) (fun acc2 => ?_)
    · unfold F_impl_order_poset_l1
      dsimp only
      have h2 := tab_row_len n f y hy
      rw [if_pos (by omega), ask_pos (by omega), Int.toNat_natCast, ask_pos (by omega), Int.toNat_natCast, tab_at n f y x hy hx]
      by_cases hf : f y x = true
      · rw [if_pos hf, if_pos hf]
        simp (disch := omega) only [ask_pos, InI_def, lim_def, List.length_cons, List.length_nil, Int.natCast_add, Int.natCast_one]
      · rw [if_neg hf, if_neg hf]
        simp (disch := omega) only [ask_pos, InI_def, Int.natCast_add, Int.natCast_one]
    · unfold F_impl_order_poset_l1
      dsimp only
      rw [if_neg (by omega)]
  have key : loopO (F_impl_order_poset_l2 (tab n f)) (((0 : Nat) : Int), (⟨rowsOf n f 0⟩ : SPoset)) = some (posOf n f) :=
    loop_seq (body := F_impl_order_poset_l2 (tab n f)) (fun x => ((x : Int), (⟨rowsOf n f x⟩ : SPoset))) n _ (fun x hx => by
      unfold F_impl_order_poset_l2
      dsimp only
      have hl := rowsOf_len n f x
      rw [if_pos (by omega), inner x hx]
      simp only [Option.bind_some]
      rw [ask_pos (by rw [lim_def]; simp; omega), ask_pos (by unfold InI; omega), rowsOf_succ]
      rfl) (by
      unfold F_impl_order_poset_l2
      dsimp only
      rw [if_neg (by omega)]
      rfl)
  rw [show (((0 : Int), (⟨nilL (List Int)⟩ : SPoset))) = ((((0 : Nat)) : Int), (⟨rowsOf n f 0⟩ : SPoset)) from rfl, key]; rfl
end
end Go.Proofs.Ytoikbcagaanhgaa.Ax
namespace Go.Proofs.Ytoikbcagaanhgaa.Ax
open Go Classical
section
variable {p : SPoset}
theorem latOf_order : (latOf p).order = tab p.Below.length (below p.Below) := rfl
theorem has_two (x y : Int) : F_impl_order_has (tab p.Below.length (below p.Below)) [x, y] = some (decide (inSize [x, y] p.Below.length)) := by
  rw [F_has _ _ (by rw [lim_def]; simp), tab_len]
end
noncomputable def botN (n : Nat) (f : Nat → Nat → Bool) : Nat → Nat
  | 0 => 0
  | i + 1 => inf n f (botN n f i) i
section
variable {n : Nat} {f : Nat → Nat → Bool}
theorem botN_lt (hm : meets n f) (h0 : n ≠ 0) : ∀ i, i ≤ n → botN n f i < n := by
  intro i
  induction i with
  | zero => intro _; simp only [botN]; omega
  | succ i ih => intro hi; exact inf_lt hm (ih (by omega)) (by omega)
theorem botN_le (ho : Ord n f) (hm : meets n f) (h0 : n ≠ 0) : ∀ i, i ≤ n → ∀ x, x < i → f (botN n f i) x = true := by
  intro i
  induction i with
  | zero => intro _ x hx; omega
  | succ i ih =>
    intro hi x hx
    have hb := botN_lt hm h0 i (by omega)
    simp only [botN]
    by_cases hxi : x = i
    · subst hxi; exact inf_right hm hb (by omega)
    · exact ho.trans _ _ _ (inf_lt hm hb (by omega)) hb (by omega) (inf_left hm hb (by omega)) (ih (by omega) x (by omega))
theorem botN_bnd (ho : Ord n f) (hm : meets n f) (h0 : n ≠ 0) : isBnd n (opp f) (fun _ => true) (botN n f n) :=
  ⟨botN_lt hm h0 n (Nat.le_refl n), rfl, fun z hz _ => botN_le ho hm h0 n (Nat.le_refl n) z hz⟩
end
section
variable {p : SPoset}
theorem lat_ends (h : isLat p) : isBnd p.Below.length (opp (below p.Below)) (fun _ => true) (botN p.Below.length (below p.Below) p.Below.length) ∧ isBnd p.Below.length (below p.Below) (fun _ => true) (botN p.Below.length (opp (below p.Below)) p.Below.length) := by
  obtain ⟨hg, h0, h1, h2⟩ := h
  exact ⟨botN_bnd (good_ord hg) h1 h0, botN_bnd (f := opp (below p.Below)) (good_ord hg).opp h2 h0⟩
theorem mt_at {g : Nat → Nat → Bool} {n : Nat} (hm : meets n g) {x y : Nat} (hx : x < n) (hy : y < n) : nth (nth (mtab n g) x) y = (inf n g x y : Int) := by
  rw [mtab_at hx hy, bnd_inf hm hx hy]
theorem mt_row {g : Nat → Nat → Bool} {n x : Nat} (hx : x < n) : (nth (mtab n g) x).length = n := by rw [mtab_row hx, mrow_len]
theorem F_bottom (h : isLat p) : F_impl_lattice_bottom (latOf p) = some (botN p.Below.length (below p.Below) p.Below.length : Int) := by
  obtain ⟨hg, h0, h1, h2⟩ := h
  have h10 : p.Below.length ≤ 10 := hg.1
  unfold F_impl_lattice_bottom
  have htl := tab_len p.Below.length (below p.Below)
  have key : loopO (F_impl_lattice_bottom_l1 (latOf p)) (((0 : Nat) : Int), ((botN p.Below.length (below p.Below) 0 : Nat) : Int)) = some ((botN p.Below.length (below p.Below) p.Below.length : Nat) : Int) :=
    loop_seq (body := F_impl_lattice_bottom_l1 (latOf p)) (fun i => ((i : Int), ((botN p.Below.length (below p.Below) i : Nat) : Int))) p.Below.length _ (fun i hi => by
      unfold F_impl_lattice_bottom_l1
      dsimp only
      have hb := botN_lt h1 h0 i (by omega)
      have hl : (latOf p).meets = mtab p.Below.length (below p.Below) := rfl
      have ho : (latOf p).order.length = p.Below.length := htl
      have hml := mtab_len (n := p.Below.length) (f := below p.Below)
      have hmr := mt_row (g := below p.Below) hb
      rw [hl, ho, if_pos (by omega), hml, Int.toNat_natCast, hmr, ask_pos (by omega), ask_pos (by omega), ask_pos (by unfold InI; omega), Int.toNat_natCast, mt_at h1 hb hi]
      rfl) (by
      unfold F_impl_lattice_bottom_l1
      dsimp only
      have ho : (latOf p).order.length = p.Below.length := htl
      rw [ho, if_neg (by omega)])
  have e0 : ((0 : Int), (0 : Int)) = (((0 : Nat) : Int), ((botN p.Below.length (below p.Below) 0 : Nat) : Int)) := rfl
  rw [e0, key]; rfl
theorem F_top (h : isLat p) : F_impl_lattice_top (latOf p) = some (botN p.Below.length (opp (below p.Below)) p.Below.length : Int) := by
  obtain ⟨hg, h0, h1, h2⟩ := h
  have h10 : p.Below.length ≤ 10 := hg.1
  unfold F_impl_lattice_top
  have htl := tab_len p.Below.length (below p.Below)
  have key : loopO (F_impl_lattice_top_l1 (latOf p)) (((0 : Nat) : Int), ((botN p.Below.length (opp (below p.Below)) 0 : Nat) : Int)) = some ((botN p.Below.length (opp (below p.Below)) p.Below.length : Nat) : Int) :=
    loop_seq (body := F_impl_lattice_top_l1 (latOf p)) (fun i => ((i : Int), ((botN p.Below.length (opp (below p.Below)) i : Nat) : Int))) p.Below.length _ (fun i hi => by
      unfold F_impl_lattice_top_l1
      dsimp only
      have hb := botN_lt h2 h0 i (by omega)
      have hl : (latOf p).joins = mtab p.Below.length (opp (below p.Below)) := rfl
      have ho : (latOf p).order.length = p.Below.length := htl
      have hml := mtab_len (n := p.Below.length) (f := opp (below p.Below))
      have hmr := mt_row (g := opp (below p.Below)) hb
      rw [hl, ho, if_pos (by omega), hml, Int.toNat_natCast, hmr, ask_pos (by omega), ask_pos (by omega), ask_pos (by unfold InI; omega), Int.toNat_natCast, mt_at h2 hb hi]
      rfl) (by
      unfold F_impl_lattice_top_l1
      dsimp only
      have ho : (latOf p).order.length = p.Below.length := htl
      rw [ho, if_neg (by omega)])
  have e0 : ((0 : Int), (0 : Int)) = (((0 : Nat) : Int), ((botN p.Below.length (opp (below p.Below)) 0 : Nat) : Int)) := rfl
  rw [e0, key]; rfl
theorem fold_lt {n : Nat} {f : Nat → Nat → Bool} (hm : meets n f) {t : Nat} (ht : t < n) : ∀ (xs : List Int), inSize xs n → xs.foldl (fun m x => inf n f m x.toNat) t < n := by
  intro xs
  induction xs generalizing t with
  | nil => intro _; exact ht
  | cons x r ih =>
    intro hx
    have := hx x (by simp)
    exact ih (inf_lt hm ht (by omega)) fun y hy => hx y (by simp [hy])
theorem fold_take {n : Nat} {f : Nat → Nat → Bool} (t : Nat) (xs : List Int) {i : Nat} (hi : i < xs.length) : (xs.take (i + 1)).foldl (fun m x => inf n f m x.toNat) t = inf n f ((xs.take i).foldl (fun m x => inf n f m x.toNat) t) (nth xs i).toNat := by
  rw [take_nth hi, List.foldl_append]; rfl
theorem inSize_take {xs : List Int} {n : Nat} (h : inSize xs n) (i : Nat) : inSize (xs.take i) n := fun x hx => h x (List.mem_of_mem_take hx)
theorem F_joinAll (h : isLat p) (xs : List Int) (hx : inSize xs p.Below.length) (hl : xs.length ≤ 20) : F_impl_lattice_joinAll (latOf p) xs = some (bnd p.Below.length (opp (below p.Below)) (loA (opp (below p.Below)) xs)) := by
  unfold F_impl_lattice_joinAll
  rw [F_bottom h]
  simp only [Option.bind_some]
  obtain ⟨hg, h0, h1, h2⟩ := h
  have hb := botN_lt h1 h0 p.Below.length (Nat.le_refl _)
  have h10 : p.Below.length ≤ 10 := hg.1
  generalize hbd : botN p.Below.length (below p.Below) p.Below.length = b at hb
  have key : loopO (F_impl_lattice_joinAll_l1 (latOf p) xs) (((0 : Nat) : Int), (((xs.take 0).foldl (fun m x => inf p.Below.length (opp (below p.Below)) m x.toNat) b : Nat) : Int)) = some (((xs.take xs.length).foldl (fun m x => inf p.Below.length (opp (below p.Below)) m x.toNat) b : Nat) : Int) :=
    loop_seq (body := F_impl_lattice_joinAll_l1 (latOf p) xs) (fun i => ((i : Int), (((xs.take i).foldl (fun m x => inf p.Below.length (opp (below p.Below)) m x.toNat) b : Nat) : Int))) xs.length _ (fun i hi => by
      unfold F_impl_lattice_joinAll_l1
      dsimp only
      have hf := fold_lt h2 hb (xs.take i) (inSize_take hx i)
      have hxi := hx _ (nth_mem hi)
      have hlj : (latOf p).joins = mtab p.Below.length (opp (below p.Below)) := rfl
      have hml := mtab_len (n := p.Below.length) (f := opp (below p.Below))
      have hmr := mt_row (g := opp (below p.Below)) hf
      rw [hlj, if_pos (by omega), hml, Int.toNat_natCast, Int.toNat_natCast, hmr, ask_pos (by omega), ask_pos (by omega), ask_pos (by omega), ask_pos (by unfold InI; omega), mt_at h2 hf (by omega), fold_take _ _ hi]
      rfl) (by
      unfold F_impl_lattice_joinAll_l1
      dsimp only
      rw [if_neg (by omega)])
  have e0 : ((0 : Int), (b : Int)) = (((0 : Nat) : Int), (((xs.take 0).foldl (fun m x => inf p.Below.length (opp (below p.Below)) m x.toNat) b : Nat) : Int)) := rfl
  rw [e0, key, List.take_length]
  have hf := inf_fold (good_ord hg).opp h2 xs b (fun _ => true) hb hx (fun _ _ _ _ _ _ => rfl) (by rw [← hbd]; exact botN_bnd (good_ord hg) h1 h0)
  simp only [Bool.true_and] at hf
  rw [bnd_eq (good_ord hg).opp hf]; rfl
theorem F_meetAll (h : isLat p) (xs : List Int) (hx : inSize xs p.Below.length) (hl : xs.length ≤ 20) : F_impl_lattice_meetAll (latOf p) xs = some (bnd p.Below.length (below p.Below) (loA (below p.Below) xs)) := by
  unfold F_impl_lattice_meetAll
  rw [F_top h]
  simp only [Option.bind_some]
  have hends := (lat_ends h).2
  obtain ⟨hg, h0, h1, h2⟩ := h
  have hb := botN_lt h2 h0 p.Below.length (Nat.le_refl _)
  have h10 : p.Below.length ≤ 10 := hg.1
  generalize hbd : botN p.Below.length (opp (below p.Below)) p.Below.length = b at hb hends
  have key : loopO (F_impl_lattice_meetAll_l1 (latOf p) xs) (((0 : Nat) : Int), (((xs.take 0).foldl (fun m x => inf p.Below.length (below p.Below) m x.toNat) b : Nat) : Int)) = some (((xs.take xs.length).foldl (fun m x => inf p.Below.length (below p.Below) m x.toNat) b : Nat) : Int) :=
    loop_seq (body := F_impl_lattice_meetAll_l1 (latOf p) xs) (fun i => ((i : Int), (((xs.take i).foldl (fun m x => inf p.Below.length (below p.Below) m x.toNat) b : Nat) : Int))) xs.length _ (fun i hi => by
      unfold F_impl_lattice_meetAll_l1
      dsimp only
      have hf := fold_lt h1 hb (xs.take i) (inSize_take hx i)
      have hxi := hx _ (nth_mem hi)
      have hlj : (latOf p).meets = mtab p.Below.length (below p.Below) := rfl
      have hml := mtab_len (n := p.Below.length) (f := below p.Below)
      have hmr := mt_row (g := below p.Below) hf
      rw [hlj, if_pos (by omega), hml, Int.toNat_natCast, Int.toNat_natCast, hmr, ask_pos (by omega), ask_pos (by omega), ask_pos (by omega), ask_pos (by unfold InI; omega), mt_at h1 hf (by omega), fold_take _ _ hi]
      rfl) (by
      unfold F_impl_lattice_meetAll_l1
      dsimp only
      rw [if_neg (by omega)])
  have e0 : ((0 : Int), (b : Int)) = (((0 : Nat) : Int), (((xs.take 0).foldl (fun m x => inf p.Below.length (below p.Below) m x.toNat) b : Nat) : Int)) := rfl
  rw [e0, key, List.take_length]
  have hf := inf_fold (good_ord hg) h1 xs b (fun _ => true) hb hx (fun _ _ _ _ _ _ => rfl) hends
  simp only [Bool.true_and] at hf
  rw [bnd_eq (good_ord hg) hf]; rfl
end
end Go.Proofs.Ytoikbcagaanhgaa.Ax
namespace Go.Proofs.Ytoikbcagaanhgaa.Ax
open Go Classical
section
variable {p : SPoset}
theorem F_specLess (hs : small p) (x y : Nat) (hy : y < p.Below.length) : F_spec_l23Less p x y = some (decide (x ≠ y) && below p.Below x y) := by
  unfold F_spec_l23Less
  by_cases h : x = y
  · subst h; simp
  · have : (x : Int) ≠ y := by omega
    simp only [ne_eq, this, not_false_iff, if_true, F_l23Leq hs x y hy, h, decide_true, Bool.true_and, Option.bind_some]
theorem ltB (f : Nat → Nat → Bool) (x y : Nat) : (decide (x ≠ y) && f x y) = true ↔ (x ≠ y ∧ f x y = true) := by simp
theorem F_specCovers (hs : small p) (x y : Nat) (_hx : x < p.Below.length) (hy : y < p.Below.length) : F_spec_l23Covers p x y = some (cov p.Below.length (below p.Below) x y) := by
  unfold F_spec_l23Covers
  rw [F_specLess hs x y hy]
  simp only [Option.bind_some]
  have hs0 := hs.1
  rw [lim_def] at hs0
  by_cases h : x ≠ y ∧ below p.Below x y = true
  · rw [if_pos ((ltB _ _ _).2 h)]
    rcases loop_pick (body := F_spec_l23Covers_l1 p (x : Int) (y : Int)) (fun z => (z : Int)) p.Below.length (fun z => (x ≠ z ∧ below p.Below x z = true) ∧ (z ≠ y ∧ below p.Below z y = true)) (fun _ => .inl ()) (.inr ()) (fun z hz hh => by
        unfold F_spec_l23Covers_l1
        rw [if_pos (by omega), F_specLess hs x z hz]
        simp only [Option.bind_some]
        by_cases h1 : x ≠ z ∧ below p.Below x z = true
        · rw [if_pos ((ltB _ _ _).2 h1), F_specLess hs z y hy]
          simp only [Option.bind_some]
          rw [if_neg (fun hc => hh ⟨h1, (ltB _ _ _).1 hc⟩), ask_pos (by unfold InI; omega)]; rfl
        · rw [if_neg (fun hc => h1 ((ltB _ _ _).1 hc)), ask_pos (by unfold InI; omega)]; rfl) (fun z hz hh => by
        unfold F_spec_l23Covers_l1
        rw [if_pos (by omega), F_specLess hs x z hz]
        simp only [Option.bind_some]
        rw [if_pos ((ltB _ _ _).2 hh.1), F_specLess hs z y hy]
        simp only [Option.bind_some]
        rw [if_pos ((ltB _ _ _).2 hh.2)]) (by
        unfold F_spec_l23Covers_l1
        rw [if_neg (by omega)]) with ⟨z, hz, hh, _, e⟩ | ⟨hn, e⟩
    · rw [show ((0 : Int)) = (((0 : Nat)) : Int) from rfl, e]
      unfold cov
      rw [decide_eq_false (fun hc => hc.2 z hz hh)]; rfl
    · rw [show ((0 : Int)) = (((0 : Nat)) : Int) from rfl, e]
      unfold cov
      rw [decide_eq_true ⟨h, hn⟩]; rfl
  · rw [if_neg (fun hc => h ((ltB _ _ _).1 hc))]
    unfold cov
    rw [decide_eq_false (fun hc => h hc.1)]
theorem F_covers {n : Nat} {f : Nat → Nat → Bool} (hn : n ≤ LIM) (x y : Nat) (hx : x < n) (hy : y < n) : F_impl_order_covers (tab n f) x y = some (cov n f x y) := by
  unfold F_impl_order_covers
  rw [F_less n f x y hx hy]
  simp only [Option.bind_some]
  rw [lim_def] at hn
  have htl := tab_len n f
  by_cases h : x ≠ y ∧ f x y = true
  · rw [if_pos ((ltB _ _ _).2 h)]
    rcases loop_pick (body := F_impl_order_covers_l1 (tab n f) (x : Int) (y : Int)) (fun z => (z : Int)) n (fun z => (x ≠ z ∧ f x z = true) ∧ (z ≠ y ∧ f z y = true)) (fun _ => .inl ()) (.inr ()) (fun z hz hh => by
        unfold F_impl_order_covers_l1
        rw [if_pos (by omega), F_less n f x z hx hz]
        simp only [Option.bind_some]
        by_cases h1 : x ≠ z ∧ f x z = true
        · rw [if_pos ((ltB _ _ _).2 h1), F_less n f z y hz hy]
          simp only [Option.bind_some]
          rw [if_neg (fun hc => hh ⟨h1, (ltB _ _ _).1 hc⟩), ask_pos (by unfold InI; omega)]; rfl
        · rw [if_neg (fun hc => h1 ((ltB _ _ _).1 hc)), ask_pos (by unfold InI; omega)]; rfl) (fun z hz hh => by
        unfold F_impl_order_covers_l1
        rw [if_pos (by omega), F_less n f x z hx hz]
        simp only [Option.bind_some]
        rw [if_pos ((ltB _ _ _).2 hh.1), F_less n f z y hz hy]
        simp only [Option.bind_some]
        rw [if_pos ((ltB _ _ _).2 hh.2)]) (by
        unfold F_impl_order_covers_l1
        rw [if_neg (by omega)]) with ⟨z, hz, hh, _, e⟩ | ⟨hn, e⟩
    · rw [show ((0 : Int)) = (((0 : Nat)) : Int) from rfl, e]
      unfold cov
      rw [decide_eq_false (fun hc => hc.2 z hz hh)]; rfl
    · rw [show ((0 : Int)) = (((0 : Nat)) : Int) from rfl, e]
      unfold cov
      rw [decide_eq_true ⟨h, hn⟩]; rfl
  · rw [if_neg (fun hc => h ((ltB _ _ _).1 hc))]
    unfold cov
    rw [decide_eq_false (fun hc => h hc.1)]
theorem F_lowerCovers {n : Nat} {f : Nat → Nat → Bool} (hn : n ≤ LIM) (x : Nat) (hx : x < n) : F_impl_order_lowerCovers (tab n f) x = some (sieve n fun y => cov n f y x) := by
  unfold F_impl_order_lowerCovers
  rw [F_those (n := n) (p := fun y => cov n f y x) (tab_len n f) hn (fun y hy => by
    unfold F_impl_order_lowerCovers_1
    rw [F_covers hn y x hy hx]; rfl)]
  rfl
theorem F_upperCovers {n : Nat} {f : Nat → Nat → Bool} (hn : n ≤ LIM) (x : Nat) (hx : x < n) : F_impl_order_upperCovers (tab n f) x = some (sieve n fun y => cov n f x y) := by
  unfold F_impl_order_upperCovers
  rw [F_those (n := n) (p := fun y => cov n f x y) (tab_len n f) hn (fun y hy => by
    unfold F_impl_order_upperCovers_1
    rw [F_covers hn x y hx hy]; rfl)]
  rfl
theorem loop_count {body : (Int × Int) → Option ((Int × Int) ⊕ Int)} (n : Nat) (q : Nat → Bool)
    (h : ∀ (i c : Nat), i < n → c ≤ i → body ((i : Int), (c : Int)) = some (.inl (((i + 1 : Nat) : Int), if q i then ((c + 1 : Nat) : Int) else (c : Int))))
    (he : ∀ c : Nat, body ((n : Int), (c : Int)) = some (.inr (c : Int))) : loopO body (0, 0) = some ((sieve n q).length : Int) := by
  have key : loopO body (((0 : Nat) : Int), ((sieve 0 q).length : Int)) = some ((sieve n q).length : Int) :=
    loop_seq (body := body) (fun i => ((i : Int), ((sieve i q).length : Int))) n _ (fun i hi => by
      rw [h i _ hi (sieve_len i q), sieve_succ]
      by_cases hq : q i = true
      · rw [if_pos hq, if_pos hq]; simp
      · rw [if_neg hq, if_neg hq]) (he _)
  exact key
noncomputable def irr (n : Nat) (f : Nat → Nat → Bool) : List Int := sieve n fun y => decide ((sieve n fun x => cov n f x y).length = 1)
theorem F_specIrr (hs : small p) : F_spec_l24Irreducibles p = some (irr p.Below.length (below p.Below)) := by
  unfold F_spec_l24Irreducibles
  have hs0 := hs.1
  rw [lim_def] at hs0
  rw [loop_sieve (body := F_spec_l24Irreducibles_l2 p) p.Below.length (fun y => decide ((sieve p.Below.length fun x => cov p.Below.length (below p.Below) x y).length = 1)) (fun y acc hy ha => by
    unfold F_spec_l24Irreducibles_l2
    dsimp only
    rw [if_pos (by omega), loop_count (body := F_spec_l24Irreducibles_l1 p (y : Int) acc) p.Below.length (fun x => cov p.Below.length (below p.Below) x y) (fun x c hx hc => by
      unfold F_spec_l24Irreducibles_l1
      dsimp only
      rw [if_pos (by omega), F_specCovers hs x y hx hy]
      simp only [Option.bind_some]
      by_cases hq : cov p.Below.length (below p.Below) x y = true
      · rw [if_pos hq, if_pos hq]
        simp (disch := omega) only [ask_pos, InI_def, Int.natCast_add, Int.natCast_one]
      · rw [if_neg hq, if_neg hq]
        simp (disch := omega) only [ask_pos, InI_def, Int.natCast_add, Int.natCast_one]) (fun c => by
      unfold F_spec_l24Irreducibles_l1
      dsimp only
      rw [if_neg (by omega)])]
    simp only [Option.bind_some]
    by_cases h1 : (sieve p.Below.length fun x => cov p.Below.length (below p.Below) x y).length = 1
    · rw [if_pos (by omega), decide_eq_true h1]
      simp only [if_true]
      simp (disch := omega) only [ask_pos, InI_def, lim_def, List.length_cons, List.length_nil, Int.natCast_add, Int.natCast_one]
    · rw [if_neg (by omega), decide_eq_false h1]
      simp only [Bool.false_eq_true, if_false]
      simp (disch := omega) only [ask_pos, InI_def, Int.natCast_add, Int.natCast_one]) (fun acc => by
    unfold F_spec_l24Irreducibles_l2
    dsimp only
    rw [if_neg (by omega)])]
  rfl
theorem F_irr (hs : small p) : F_impl_lattice_irreducibles (latOf p) = some (irr p.Below.length (below p.Below)) := by
  unfold F_impl_lattice_irreducibles
  rw [latOf_order, F_those (n := p.Below.length) (p := fun y => decide ((sieve p.Below.length fun x => cov p.Below.length (below p.Below) x y).length = 1)) (tab_len _ _) hs.1 (fun y hy => by
    unfold F_impl_lattice_irreducibles_1
    rw [latOf_order, F_lowerCovers hs.1 y hy]
    simp only [Option.bind_some]
    congr 1
    rw [Bool.eq_iff_iff]
    simp only [beq_iff_eq, decide_eq_true_eq]
    omega)]
  rfl
theorem F_mirr (hs : small p) : F_impl_MeetIrreducibles_1 (latOf p) = some (irr p.Below.length (opp (below p.Below))) := by
  unfold F_impl_MeetIrreducibles_1
  rw [latOf_order, F_those (n := p.Below.length) (p := fun y => decide ((sieve p.Below.length fun x => cov p.Below.length (opp (below p.Below)) x y).length = 1)) (tab_len _ _) hs.1 (fun y hy => by
    unfold F_impl_MeetIrreducibles_1_1
    rw [latOf_order, F_upperCovers hs.1 y hy]
    simp only [Option.bind_some, cov_opp]
    congr 1
    rw [Bool.eq_iff_iff]
    simp only [beq_iff_eq, decide_eq_true_eq]
    omega)]
  rfl
theorem cov_congr {n : Nat} {f g : Nat → Nat → Bool} (h : ∀ x y, x < n → y < n → f x y = g x y) {x y : Nat} (hx : x < n) (hy : y < n) : cov n f x y = cov n g x y := by
  unfold cov
  rw [decide_eq_decide, h x y hx hy]
  constructor
  · rintro ⟨h1, h2⟩
    exact ⟨h1, fun z hz hc => h2 z hz (by rw [h x z hx hz, h z y hz hy]; exact hc)⟩
  · rintro ⟨h1, h2⟩
    exact ⟨h1, fun z hz hc => h2 z hz (by rw [← h x z hx hz, ← h z y hz hy]; exact hc)⟩
theorem dual_below (x y : Nat) (hx : x < p.Below.length) (hy : y < p.Below.length) : below (dualP p).Below x y = opp (below p.Below) x y := below_dual hy hx
theorem irr_dual : irr (dualP p).Below.length (below (dualP p).Below) = irr p.Below.length (opp (below p.Below)) := by
  rw [dual_len]
  unfold irr
  refine sieve_congr fun y hy => ?_
  rw [sieve_congr fun x hx => cov_congr dual_below hx hy]
theorem F_listOf {g : Slattice → Option (List Int)} {r : List Int} (hs : small p) (hr : isLat p → g (latOf p) = some r) : F_impl_listOf p g = some (if isLat p then (r, true) else ([], false)) := by
  unfold F_impl_listOf
  by_cases h : isLat p
  · rw [F_latticeOf_yes hs h, if_pos h]
    simp only [Option.bind_some, if_true]
    rw [hr h]; rfl
  · obtain ⟨l, e⟩ := F_latticeOf_no hs h
    rw [e, if_neg h]
    cases l <;> simp <;> rfl
theorem irr_len (n : Nat) (f : Nat → Nat → Bool) : (irr n f).length ≤ n := sieve_len _ _
theorem both_MeetIrreducibles (hs : small p) : ∃ r, F_spec_MeetIrreducibles p = some r ∧ F_impl_MeetIrreducibles p = some r ∧ r.1.length ≤ LIM := by
  unfold F_spec_MeetIrreducibles F_impl_MeetIrreducibles
  rw [F_l24Good hs, F_listOf hs (fun _ => F_mirr hs)]
  by_cases h : isLat p
  · rw [decide_eq_true h, if_pos h]
    simp only [Option.bind_some, if_true]
    rw [F_l23Dual hs]
    simp only [Option.bind_some]
    rw [F_specIrr (small_dual hs), irr_dual]
    exact ⟨_, rfl, rfl, Nat.le_trans (irr_len _ _) hs.1⟩
  · rw [decide_eq_false h, if_neg h]
    exact ⟨([], false), by simp, by simp, by simp⟩
theorem dual_lat (h : isLat p) : isLat (dualP p) := by
  obtain ⟨hg, h0, h1, h2⟩ := h
  have hgd := good_dual hg
  have hod := good_ord hgd
  refine ⟨hgd, by rw [dual_len]; exact h0, ?_, ?_⟩
  · intro x y hx hy
    rw [dual_len] at hx hy hod ⊢
    rw [bnd_congr (good_ord hg).opp dual_below (fun z hz => show lo2 (below (dualP p).Below) x y z = lo2 (opp (below p.Below)) x y z by unfold lo2; rw [dual_below z x hz hx, dual_below z y hz hy])]
    exact h2 x y hx hy
  · intro x y hx hy
    rw [dual_len] at hx hy hod ⊢
    rw [bnd_congr (f := opp (below (dualP p).Below)) (g := below p.Below) (good_ord hg) (fun a b ha hb => dual_below b a hb ha) (fun z hz => show lo2 (opp (below (dualP p).Below)) x y z = lo2 (below p.Below) x y z by unfold lo2 opp; rw [dual_below x z hx hz, dual_below y z hy hz]; rfl)]
    exact h1 x y hx hy
end
end Go.Proofs.Ytoikbcagaanhgaa.Ax
namespace Go.Proofs.Ytoikbcagaanhgaa.Ax
open Go Classical
noncomputable def prRow (n : Nat) (f : Nat → Nat → Bool) (x : Nat) (acc : List (Int × Int)) : Nat → List (Int × Int)
  | 0 => acc
  | y + 1 => if cov n f x y then prRow n f x acc y ++ [((x : Int), (y : Int))] else prRow n f x acc y
noncomputable def prAll (n : Nat) (f : Nat → Nat → Bool) : Nat → List (Int × Int)
  | 0 => []
  | x + 1 => prRow n f x (prAll n f x) n
theorem prRow_len (n : Nat) (f : Nat → Nat → Bool) (x : Nat) (acc : List (Int × Int)) : ∀ y, (prRow n f x acc y).length ≤ acc.length + y := by
  intro y
  induction y with
  | zero => simp [prRow]
  | succ y ih =>
    simp only [prRow]
    split
    · simp; omega
    · omega
theorem prAll_len (n : Nat) (f : Nat → Nat → Bool) : ∀ x, (prAll n f x).length ≤ x * n := by
  intro x
  induction x with
  | zero => simp [prAll]
  | succ x ih =>
    have := prRow_len n f x (prAll n f x) n
    simp only [prAll]
    rw [Nat.succ_mul]; omega
section
variable {p : SPoset}
theorem F_specPairs (hs : small p) (h10 : p.Below.length ≤ 10) : F_spec_l23Pairs p = some (prAll p.Below.length (below p.Below) p.Below.length) := by
  unfold F_spec_l23Pairs
  have hrow : ∀ x, x < p.Below.length → loopO (F_spec_l23Pairs_l1 p (x : Int)) (0, prAll p.Below.length (below p.Below) x) = some (prAll p.Below.length (below p.Below) (x + 1)) := by
    intro x hx
    have hal := prAll_len p.Below.length (below p.Below) x
    have hm : x * p.Below.length ≤ 10 * 10 := Nat.mul_le_mul (by omega) h10
    refine loop_seq (body := F_spec_l23Pairs_l1 p (x : Int)) (fun y => ((y : Int), prRow p.Below.length (below p.Below) x (prAll p.Below.length (below p.Below) x) y)) p.Below.length _ (fun y hy => ?_) ?_
    · unfold F_spec_l23Pairs_l1
      dsimp only
      have hl := prRow_len p.Below.length (below p.Below) x (prAll p.Below.length (below p.Below) x) y
      rw [if_pos (by omega), F_specCovers hs x y hx hy]
      simp only [Option.bind_some, prRow]
      by_cases hq : cov p.Below.length (below p.Below) x y = true
      · rw [if_pos hq, if_pos hq, ask_pos (by rw [lim_def]; simp; omega), ask_pos (by unfold InI; omega)]; rfl
      · rw [if_neg hq, if_neg hq, ask_pos (by unfold InI; omega)]; rfl
    · unfold F_spec_l23Pairs_l1
      dsimp only
      rw [if_neg (by omega)]; rfl
  have key : loopO (F_spec_l23Pairs_l2 p) (((0 : Nat) : Int), prAll p.Below.length (below p.Below) 0) = some (prAll p.Below.length (below p.Below) p.Below.length) := loop_seq (body := F_spec_l23Pairs_l2 p) (fun x => ((x : Int), prAll p.Below.length (below p.Below) x)) p.Below.length _ (fun x hx => by
    unfold F_spec_l23Pairs_l2
    dsimp only
    rw [if_pos (by omega), hrow x hx]
    simp only [Option.bind_some]
    rw [ask_pos (by unfold InI; omega)]; rfl) (by
    unfold F_spec_l23Pairs_l2
    dsimp only
    rw [if_neg (by omega)])
  have e0 : ((0 : Int), nilL (Int × Int)) = (((0 : Nat) : Int), prAll p.Below.length (below p.Below) 0) := rfl
  rw [e0, key]; rfl
end
end Go.Proofs.Ytoikbcagaanhgaa.Ax
