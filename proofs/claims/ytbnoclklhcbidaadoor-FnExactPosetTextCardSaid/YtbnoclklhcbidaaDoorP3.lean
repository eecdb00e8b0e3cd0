/-
  Posets: their tables; the program's test and the reference's are one.
-/
import Derived.Test.YtbnoclklhcbidaaDoorP2
namespace Go.Proofs.YtbnoclklhcbidaaDoor.Ax
open Go Classical

theorem dec_not {p q : Prop} [Decidable p] [Decidable q] (h : ¬ p ↔ q) : (if p then false else true) = decide q := by
  by_cases hp : p
  · rw [if_pos hp, decide_eq_false]; exact fun hq => h.2 hq hp
  · rw [if_neg hp, decide_eq_true (h.1 hp)]
theorem dec_yes {p q : Prop} [Decidable p] [Decidable q] (h : p ↔ q) : (if p then true else false) = decide q := by
  by_cases hp : p
  · rw [if_pos hp, decide_eq_true (h.1 hp)]
  · rw [if_neg hp, decide_eq_false]; exact fun hq => hp (h.2 hq)

theorem F_l1In (x a b : Int) : F_spec_l1In x a b = some (decide (a ≤ x ∧ x ≤ b)) := by
  unfold F_spec_l1In
  split
  · rename_i h; congr 1; rw [decide_eq_decide]; constructor
    · intro h2; exact ⟨h, h2⟩
    · exact fun h2 => h2.2
  · rename_i h; rw [decide_eq_false]; exact fun h2 => h h2.1

def rising (xs : List Int) (lo hi : Int) : Prop := ∀ i, i < xs.length → (lo ≤ nth xs i ∧ nth xs i ≤ hi) ∧ (0 < i → nth xs (i - 1) < nth xs i)
theorem F_l1Rising (xs : List Int) (lo hi : Int) (h : xs.length ≤ LIM) : F_spec_l1Rising xs lo hi = some (decide (rising xs lo hi)) := by
  unfold F_spec_l1Rising
  rw [lim_def] at h
  have := loop_find (body := F_spec_l1Rising_l1 xs lo hi) (fun i => (i : Int)) xs.length (fun i => ¬ ((lo ≤ nth xs i ∧ nth xs i ≤ hi) ∧ (0 < i → nth xs (i - 1) < nth xs i))) () () (fun i hi' hb => by
    have hb := Classical.not_not.1 hb
    unfold F_spec_l1Rising_l1
    rw [if_pos (by omega), ask_pos (by omega), F_l1In]
    simp only [Int.toNat_natCast, Option.bind_some]
    rw [if_pos (by simpa using hb.1)]
    by_cases h0 : 0 < i
    · rw [if_pos (by omega), ask_pos (by unfold InI; omega), ask_pos (by omega), ask_pos (by omega)]
      rw [show ((i : Int) - 1).toNat = i - 1 by omega, if_neg (by have := hb.2 h0; omega), ask_pos (by unfold InI; omega)]; rfl
    · rw [if_neg (by omega), ask_pos (by unfold InI; omega)]; rfl) (fun i hi' hb => by
    unfold F_spec_l1Rising_l1
    rw [if_pos (by omega), ask_pos (by omega), F_l1In]
    simp only [Int.toNat_natCast, Option.bind_some]
    by_cases h1 : lo ≤ nth xs i ∧ nth xs i ≤ hi
    · have h2 : 0 < i ∧ ¬ nth xs (i - 1) < nth xs i := by
        by_cases h0 : 0 < i
        · exact ⟨h0, fun hc => hb ⟨h1, fun _ => hc⟩⟩
        · exact absurd ⟨h1, fun hc => absurd hc h0⟩ hb
      rw [if_pos (by simpa using h1), if_pos (by omega), ask_pos (by unfold InI; omega), ask_pos (by omega), ask_pos (by omega)]
      rw [show ((i : Int) - 1).toNat = i - 1 by omega, if_pos (by omega)]
    · rw [if_neg (by simpa using h1)]) (by unfold F_spec_l1Rising_l1; rw [if_neg (by omega)]) 0 (by omega)
  exact (find_bool this false true).trans (congrArg some (dec_not find_all))

theorem F_l1Has (xs : List Int) (n : Int) (h : xs.length ≤ LIM) : F_spec_l1Has xs n = some (decide (n ∈ xs)) := by
  unfold F_spec_l1Has
  rw [lim_def] at h
  have := loop_find (body := F_spec_l1Has_l1 xs n) (fun i => (i : Int)) xs.length (fun i => nth xs i = n) () () (fun i hi hb => by
    unfold F_spec_l1Has_l1
    rw [if_pos (by omega), ask_pos (by omega)]
    simp only [Int.toNat_natCast]
    rw [if_neg hb, ask_pos (by unfold InI; omega)]; rfl) (fun i hi hb => by
    unfold F_spec_l1Has_l1
    rw [if_pos (by omega), ask_pos (by omega)]
    simp only [Int.toNat_natCast]
    rw [if_pos hb]) (by unfold F_spec_l1Has_l1; rw [if_neg (by omega)]) 0 (by omega)
  refine (find_bool this true false).trans (congrArg some (dec_yes ?_))
  rw [mem_nth]
  constructor
  · rintro ⟨i, _, h1, h2⟩; exact ⟨i, h1, h2⟩
  · rintro ⟨i, h1, h2⟩; exact ⟨i, by omega, h1, h2⟩

theorem F_l5Within (xs ys : List Int) (h1 : xs.length ≤ LIM) (h2 : ys.length ≤ LIM) : F_spec_l5Within xs ys = some (decide (∀ x ∈ xs, x ∈ ys)) := by
  unfold F_spec_l5Within
  rw [lim_def] at h1
  have := loop_find (body := F_spec_l5Within_l1 xs ys) (fun i => (i : Int)) xs.length (fun i => ¬ nth xs i ∈ ys) () () (fun i hi hb => by
    unfold F_spec_l5Within_l1
    rw [if_pos (by omega), ask_pos (by omega), F_l1Has _ _ h2]
    simp only [Int.toNat_natCast, Option.bind_some]
    rw [if_pos (by simpa using hb), ask_pos (by unfold InI; omega)]; rfl) (fun i hi hb => by
    unfold F_spec_l5Within_l1
    rw [if_pos (by omega), ask_pos (by omega), F_l1Has _ _ h2]
    simp only [Int.toNat_natCast, Option.bind_some]
    rw [if_neg (by simpa using hb)]) (by unfold F_spec_l5Within_l1; rw [if_neg (by omega)]) 0 (by omega)
  refine (find_bool this false true).trans (congrArg some (dec_not ?_))
  rw [find_all]
  constructor
  · intro h x hx; obtain ⟨i, hi, rfl⟩ := mem_nth.1 hx; exact h i hi
  · intro h i hi; exact h _ (nth_mem hi)

def rises (xs : List Int) : Prop := ∀ i, 0 < i → i < xs.length → nth xs (i - 1) < nth xs i
def inSize (xs : List Int) (n : Int) : Prop := ∀ x ∈ xs, 0 ≤ x ∧ x < n

theorem F_rises (xs : List Int) (h : xs.length ≤ LIM) : F_impl_rises xs = some (decide (rises xs)) := by
  unfold F_impl_rises
  rw [lim_def] at h
  by_cases h0 : xs.length = 0
  · have : loopO (F_impl_rises_l1 xs) 1 = some (.inr ()) := loopO_stop (by unfold F_impl_rises_l1; rw [if_neg (by omega)])
    rw [this, decide_eq_true]
    · rfl
    · intro i _ hi; omega
  have := loop_find1 (body := F_impl_rises_l1 xs) (fun i => (i : Int)) 1 xs.length (fun i => ¬ nth xs (i - 1) < nth xs i) () () (by omega) (fun i hi0 hi hb => by
    unfold F_impl_rises_l1
    rw [if_pos (by omega), ask_pos (by unfold InI; omega), ask_pos (by omega), ask_pos (by omega)]
    simp only [Int.toNat_natCast]
    rw [show ((i : Int) - 1).toNat = i - 1 by omega, if_neg (by have := Classical.not_not.1 hb; omega), ask_pos (by unfold InI; omega)]; rfl) (fun i hi0 hi hb => by
    unfold F_impl_rises_l1
    rw [if_pos (by omega), ask_pos (by unfold InI; omega), ask_pos (by omega), ask_pos (by omega)]
    simp only [Int.toNat_natCast]
    rw [show ((i : Int) - 1).toNat = i - 1 by omega, if_pos (by omega)]) (by unfold F_impl_rises_l1; rw [if_neg (by omega)])
  refine (find_bool this false true).trans (congrArg some (dec_not ?_))
  constructor
  · intro h2 i h3 h4; exact Classical.byContradiction fun hc => h2 ⟨i, h3, h4, hc⟩
  · rintro h2 ⟨i, h3, h4, hc⟩; exact hc (h2 i h3 h4)

theorem F_inSize (xs : List Int) (n : Int) (h : xs.length ≤ LIM) : F_impl_inSize xs n = some (decide (inSize xs n)) := by
  unfold F_impl_inSize
  rw [lim_def] at h
  have := loop_find (body := F_impl_inSize_l1 xs n) (fun i => (i : Int)) xs.length (fun i => ¬ (0 ≤ nth xs i ∧ nth xs i < n)) () () (fun i hi hb => by
    unfold F_impl_inSize_l1
    have hb := Classical.not_not.1 hb
    rw [if_pos (by omega), ask_pos (by omega)]
    simp only [Int.toNat_natCast]
    rw [if_neg (by omega), if_neg (by omega), ask_pos (by unfold InI; omega)]; rfl) (fun i hi hb => by
    unfold F_impl_inSize_l1
    rw [if_pos (by omega), ask_pos (by omega)]
    simp only [Int.toNat_natCast]
    by_cases h0 : nth xs i < 0
    · rw [if_pos h0]
    · rw [if_neg h0, if_pos (by omega)]) (by unfold F_impl_inSize_l1; rw [if_neg (by omega)]) 0 (by omega)
  refine (find_bool this false true).trans (congrArg some (dec_not ?_))
  rw [find_all]
  constructor
  · intro h x hx; obtain ⟨i, hi, rfl⟩ := mem_nth.1 hx; exact h i hi
  · intro h i hi; exact h _ (nth_mem hi)

theorem F_newOrder (n : Nat) (h : n ≤ LIM) : F_impl_newOrder n = some (tab n fun _ _ => false) := by
  unfold F_impl_newOrder
  have h' := h
  rw [lim_def] at h'
  rw [ask_pos (by rw [lim_def]; omega)]
  have := loop_seq (body := F_impl_newOrder_l1 n) (fun i => ((i : Int), List.replicate i (List.replicate n false) ++ List.replicate (n - i) [])) n (tab n fun _ _ => false) (fun i hi => by
    unfold F_impl_newOrder_l1
    dsimp only
    rw [if_pos (by omega), ask_pos (by rw [lim_def]; omega), ask_pos (by simp; omega), ask_pos (by unfold InI; omega)]
    simp only [Int.toNat_natCast]
    rw [set_put _ _ _ hi (by simp), ← List.replicate_succ']
    rfl) (by
    unfold F_impl_newOrder_l1
    dsimp only
    rw [if_neg (by omega), tab_false]
    simp)
  simp only [List.replicate_zero, List.nil_append, Nat.sub_zero] at this
  simp only [Int.toNat_natCast]
  show (loopO _ (((0 : Nat) : Int), _)).bind _ = _
  rw [this]; rfl

def okAt (n : Nat) (f : Nat → Nat → Bool) (x y : Nat) : Prop := ¬ (x ≠ y ∧ f x y = true ∧ f y x = true) ∧ ∀ z, z < n → f x y = true → f y z = true → f x z = true
def isOrd (n : Nat) (f : Nat → Nat → Bool) : Prop := ∀ x, x < n → f x x = true ∧ ∀ y, y < n → okAt n f x y

theorem isOrder1 (n : Nat) (f : Nat → Nat → Bool) (h : n ≤ LIM) : ∀ x y, x < n → y < n → loopO (F_impl_order_isOrder_l1 (tab n f) x y) 0 = some (if ∃ z, 0 ≤ z ∧ z < n ∧ ¬ (f x y = true → f y z = true → f x z = true) then .inl () else .inr ()) := by
  rw [lim_def] at h
  have tl := tab_len n f
  have rl := tabI_len n f
  have at_ := tabI_at n f
  intro x y hx hy
  have rx := rl x hx
  have ry := rl y hy
  have step : ∀ z, z < n → F_impl_order_isOrder_l1 (tab n f) x y z = some (if f x y = true → f y z = true → f x z = true then .inl ((z + 1 : Nat) : Int) else .inr (.inl ())) := by
    intro z hz
    unfold F_impl_order_isOrder_l1
    rw [if_pos (by omega), ask_pos (by omega)]
    rw [ask_pos (by omega)]
    by_cases h1 : f x y = true
    · rw [if_pos ((at_ x y hx hy).trans h1), ask_pos (by omega), ask_pos (by omega)]
      by_cases h2 : f y z = true
      · rw [if_pos ((at_ y z hy hz).trans h2), ask_pos (by omega), ask_pos (by omega)]
        by_cases h3 : f x z = true
        · rw [if_pos ((at_ x z hx hz).trans h3), ask_pos (by unfold InI; omega), if_pos (fun _ _ => h3)]; rfl
        · rw [if_neg (by rw [at_ x z hx hz]; exact h3), if_neg (fun hc => h3 (hc h1 h2))]
      · rw [if_neg (by rw [at_ y z hy hz]; exact h2), ask_pos (by unfold InI; omega), if_pos (fun _ hc => absurd hc h2)]; rfl
    · rw [if_neg (by rw [at_ x y hx hy]; exact h1), ask_pos (by unfold InI; omega), if_pos (fun hc => absurd hc h1)]; rfl
  refine loop_find (body := F_impl_order_isOrder_l1 (tab n f) x y) (fun i => (i : Int)) n (fun z => ¬ (f x y = true → f y z = true → f x z = true)) () () (fun z hz hb => ?_) (fun z hz hb => ?_) ?_ 0 (by omega)
  · rw [step z hz, if_pos (Classical.not_not.1 hb)]
  · rw [step z hz, if_neg hb]
  · unfold F_impl_order_isOrder_l1
    rw [if_neg (by omega)]
theorem isOrder2 (n : Nat) (f : Nat → Nat → Bool) (h : n ≤ LIM) : ∀ x, x < n → loopO (F_impl_order_isOrder_l2 (tab n f) x) 0 = some (if ∃ y, 0 ≤ y ∧ y < n ∧ ¬ okAt n f x y then .inl () else .inr ()) := by
  have l1 := isOrder1 n f h
  rw [lim_def] at h
  have tl := tab_len n f
  have rl := tabI_len n f
  have at_ := tabI_at n f
  intro x hx
  have rx := rl x hx
  have step : ∀ y, y < n → F_impl_order_isOrder_l2 (tab n f) x y = some (if okAt n f x y then .inl ((y + 1 : Nat) : Int) else .inr (.inl ())) := by
    intro y hy
    have ry := rl y hy
    unfold F_impl_order_isOrder_l2
    rw [if_pos (by omega)]
    by_cases h1 : x ≠ y ∧ f x y = true ∧ f y x = true
    · rw [if_pos (by omega), ask_pos (by omega), ask_pos (by omega), if_pos ((at_ x y hx hy).trans h1.2.1), ask_pos (by omega), ask_pos (by omega), if_pos ((at_ y x hy hx).trans h1.2.2), if_neg (fun hc => hc.1 h1)]
      rfl
    · have piece : ∀ {α : Type} (A B : Option α) (h4 : x ≠ y → ¬ f x y = true → A = B) (h5 : x = y → A = B) (h6 : x ≠ y → f x y = true → ¬ f y x = true → A = B), A = B := by
        intro α A B h4 h5 h6
        by_cases hxy : x = y
        · exact h5 hxy
        · by_cases h2 : f x y = true
          · by_cases h3 : f y x = true
            · exact absurd ⟨hxy, h2, h3⟩ h1
            · exact h6 hxy h2 h3
          · exact h4 hxy h2
      have tail : ((loopO (F_impl_order_isOrder_l1 (tab n f) (x : Int) (y : Int)) 0).bind fun t => match t with
          | (.inl _) => (some (.inr (.inl ())))
          | (.inr _) => (ask (InI ((y : Int) + 1)) <| some (.inl ((y : Int) + 1)) : Option (Int ⊕ (Unit ⊕ Unit)))) = some (if okAt n f x y then .inl ((y + 1 : Nat) : Int) else .inr (.inl ())) := by
        rw [l1 x y hx hy]
        by_cases h2 : ∃ z, 0 ≤ z ∧ z < n ∧ ¬ (f x y = true → f y z = true → f x z = true)
        · rw [if_pos h2, if_neg]
          · rfl
          · intro hc; obtain ⟨z, _, hz, hd⟩ := h2; exact hd (hc.2 z hz)
        · rw [if_neg h2, if_pos ⟨h1, find_all.1 h2⟩]
          simp only [Option.bind_some]
          rw [ask_pos (by unfold InI; omega)]; rfl
      refine piece _ _ (fun h2 h3 => ?_) (fun h2 => ?_) (fun h2 h3 h4 => ?_)
      · rw [if_pos (by omega), ask_pos (by omega), ask_pos (by omega), if_neg (by rw [at_ x y hx hy]; exact h3)]
        exact tail
      · rw [if_neg (by omega)]
        exact tail
      · rw [if_pos (by omega), ask_pos (by omega), ask_pos (by omega), if_pos ((at_ x y hx hy).trans h3), ask_pos (by omega), ask_pos (by omega), if_neg (by rw [at_ y x hy hx]; exact h4)]
        exact tail
  refine loop_find (body := F_impl_order_isOrder_l2 (tab n f) x) (fun i => (i : Int)) n (fun y => ¬ okAt n f x y) () () (fun y hy hb => ?_) (fun y hy hb => ?_) ?_ 0 (by omega)
  · rw [step y hy, if_pos (Classical.not_not.1 hb)]
  · rw [step y hy, if_neg hb]
  · unfold F_impl_order_isOrder_l2
    rw [if_neg (by omega)]
theorem F_isOrder (n : Nat) (f : Nat → Nat → Bool) (h : n ≤ LIM) : F_impl_order_isOrder (tab n f) = some (decide (isOrd n f)) := by
  unfold F_impl_order_isOrder
  have l2 := isOrder2 n f h
  rw [lim_def] at h
  have tl := tab_len n f
  have rl := tabI_len n f
  have at_ := tabI_at n f
  have step : ∀ x, x < n → F_impl_order_isOrder_l3 (tab n f) x = some (if f x x = true ∧ ∀ y, y < n → okAt n f x y then .inl ((x + 1 : Nat) : Int) else .inr (.inl ())) := by
    intro x hx
    have rx := rl x hx
    unfold F_impl_order_isOrder_l3
    rw [if_pos (by omega), ask_pos (by omega)]
    rw [ask_pos (by omega)]
    by_cases h1 : f x x = true
    · rw [if_pos ((at_ x x hx hx).trans h1), l2 x hx]
      by_cases h2 : ∃ y, 0 ≤ y ∧ y < n ∧ ¬ okAt n f x y
      · rw [if_pos h2, if_neg]
        · rfl
        · intro hc; obtain ⟨y, _, hy, hd⟩ := h2; exact hd (hc.2 y hy)
      · rw [if_neg h2, if_pos ⟨h1, find_all.1 h2⟩]
        simp only [Option.bind_some]
        rw [ask_pos (by unfold InI; omega)]; rfl
    · rw [if_neg (by rw [at_ x x hx hx]; exact h1), if_neg (fun hc => h1 hc.1)]
  have l3 := loop_find (body := F_impl_order_isOrder_l3 (tab n f)) (fun i => (i : Int)) n (fun x => ¬ (f x x = true ∧ ∀ y, y < n → okAt n f x y)) () () (fun x hx hb => by
    rw [step x hx, if_pos (Classical.not_not.1 hb)]) (fun x hx hb => by rw [step x hx, if_neg hb]) (by unfold F_impl_order_isOrder_l3; rw [if_neg (by omega)]) 0 (by omega)
  exact (find_bool l3 false true).trans (congrArg some (dec_not find_all))

end Go.Proofs.YtbnoclklhcbidaaDoor.Ax
