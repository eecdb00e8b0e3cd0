/-
  Heights: a fixed point of a loop against a function that calls itself; HeightsOf.
-/
import Derived.Test.YtpfikenknmlajaaP7
namespace Go.Proofs.Ytpfikenknmlajaa.Ax
open Go Classical

/-- where the one gives a value, the other gives it too -/
def LeO {α : Type} (a b : Option α) : Prop := ∀ v, a = some v → b = some v
theorem LeO.refl {α : Type} (a : Option α) : LeO a a := fun _ h => h
theorem LeO.bind {α β : Type} {a b : Option α} {k l : α → Option β} (h : LeO a b) (hk : ∀ x, LeO (k x) (l x)) : LeO (a.bind k) (b.bind l) := by
  intro v e
  obtain ⟨x, h1, h2⟩ := Option.bind_eq_some_iff.1 e
  rw [h x h1]; exact hk x v h2
theorem LeO.ite {α : Type} {p : Prop} [Decidable p] {a b c d : Option α} (h1 : LeO a c) (h2 : LeO b d) : LeO (if p then a else b) (if p then c else d) := by
  by_cases h : p
  · rw [if_pos h, if_pos h]; exact h1
  · rw [if_neg h, if_neg h]; exact h2
theorem LeO.ask {α : Type} {p : Prop} {a b : Option α} (h : LeO a b) : LeO (ask p a) (ask p b) := fun v e => ask_some.2 ⟨(ask_some.1 e).1, h v (ask_some.1 e).2⟩
theorem LeO.loop {σ τ : Type} {f g : σ → Option (σ ⊕ τ)} (h : ∀ s, LeO (f s) (g s)) (s : σ) : LeO (loopO f s) (loopO g s) := by
  intro v e
  obtain ⟨n, hn⟩ := loopO_some.1 e
  refine loopO_some.2 ⟨n, ?_⟩
  clear e
  induction n generalizing s with
  | zero => cases hn
  | succ n ih =>
    simp only [iter] at hn ⊢
    cases hf : f s with
    | none => rw [hf] at hn; cases hn
    | some o =>
      rw [hf] at hn
      rw [h s o hf]
      cases o with
      | inl s' => exact ih s' hn
      | inr t => exact hn

/-- the greatest of some numbers -/
def mx : Nat → (Nat → Nat) → Nat
  | 0, _ => 0
  | n + 1, f => max (mx n f) (f n)
theorem mx_ge {n : Nat} {f : Nat → Nat} {i : Nat} (h : i < n) : f i ≤ mx n f := by
  induction n with
  | zero => omega
  | succ n ih =>
    simp only [mx]
    by_cases e : i = n
    · subst e; omega
    · have := ih (by omega); omega
theorem mx_le {n m : Nat} {f : Nat → Nat} (h : ∀ i, i < n → f i ≤ m) : mx n f ≤ m := by
  induction n with
  | zero => simp [mx]
  | succ n ih =>
    simp only [mx]
    have := ih fun i hi => h i (by omega)
    have := h n (by omega)
    omega
theorem mx_congr {n : Nat} {f g : Nat → Nat} (h : ∀ i, i < n → f i = g i) : mx n f = mx n g := by
  induction n with
  | zero => rfl
  | succ n ih => simp only [mx]; rw [ih fun i hi => h i (by omega), h n (by omega)]
/-- how many -/
def sm : Nat → (Nat → Nat) → Nat
  | 0, _ => 0
  | n + 1, f => sm n f + f n
theorem sm_le {n : Nat} {f g : Nat → Nat} (h : ∀ i, i < n → f i ≤ g i) : sm n f ≤ sm n g := by
  induction n with
  | zero => exact Nat.le_refl _
  | succ n ih => simp only [sm]; have := ih fun i hi => h i (by omega); have := h n (by omega); omega
theorem sm_lt {n : Nat} {f g : Nat → Nat} (h : ∀ i, i < n → f i ≤ g i) {j : Nat} (hj : j < n) (hl : f j < g j) : sm n f < sm n g := by
  induction n with
  | zero => omega
  | succ n ih =>
    simp only [sm]
    by_cases e : j = n
    · subst e; have := sm_le fun i hi => h i (Nat.lt_succ_of_lt hi); omega
    · have := ih (fun i hi => h i (by omega)) (by omega); have := h n (by omega); omega
theorem sm_const (n c : Nat) : sm n (fun _ => c) = n * c := by
  induction n with
  | zero => simp [sm]
  | succ n ih => simp only [sm, ih, Nat.succ_mul]
def many (n : Nat) (p : Nat → Bool) : Nat := sm n fun i => if p i then 1 else 0
theorem many_le (n : Nat) (p : Nat → Bool) : many n p ≤ n := by
  have := sm_le (n := n) (f := fun i => if p i then 1 else 0) (g := fun _ => 1) fun i _ => by (try dsimp only); split <;> omega
  rw [sm_const] at this
  unfold many; omega

structure Strict (n : Nat) (r : Nat → Nat → Bool) : Prop where
  irr : ∀ x, x < n → r x x = false
  tr : ∀ x y z, x < n → y < n → z < n → r x y = true → r y z = true → r x z = true

/-- how far it leads down, by at most k steps -/
def htn (n : Nat) (r : Nat → Nat → Bool) : Nat → Nat → Nat
  | 0, _ => 0
  | k + 1, x => mx n fun y => if r y x then htn n r k y + 1 else 0
def ht (n : Nat) (r : Nat → Nat → Bool) (x : Nat) : Nat := htn n r n x

section
variable {n : Nat} {r : Nat → Nat → Bool}
theorem many_lt (h : Strict n r) {x y : Nat} (hx : x < n) (hy : y < n) (hr : r y x = true) : many n (fun z => r z y) < many n (fun z => r z x) := by
  refine sm_lt (fun i hi => ?_) hy ?_
  · (try dsimp only)
    by_cases e : r i y = true
    · rw [if_pos e, if_pos (h.tr i y x hi hy hx e hr)]; exact Nat.le_refl _
    · rw [if_neg e]; exact Nat.zero_le _
  · (try dsimp only)
    rw [if_pos hr, if_neg (by rw [h.irr y hy]; simp)]; exact Nat.zero_lt_one
theorem htn_le (k x : Nat) : htn n r k x ≤ k := by
  induction k generalizing x with
  | zero => exact Nat.le_refl _
  | succ k ih =>
    refine mx_le fun y _ => ?_
    (try dsimp only)
    split
    · have := ih y; omega
    · omega
theorem htn_stable (h : Strict n r) (k : Nat) : ∀ x, x < n → many n (fun z => r z x) ≤ k → htn n r k x = htn n r (k + 1) x := by
  induction k with
  | zero =>
    intro x hx hc
    have : htn n r 1 x ≤ 0 := mx_le fun y hy => by
      (try dsimp only)
      rw [if_neg]
      · exact Nat.le_refl _
      · intro hr
        have := many_lt h hx hy hr
        omega
    have e : htn n r 0 x = 0 := rfl
    show htn n r 0 x = htn n r 1 x
    omega
  | succ k ih =>
    intro x hx hc
    show mx n _ = mx n _
    refine mx_congr fun y hy => ?_
    (try dsimp only)
    by_cases hr : r y x = true
    · have := many_lt h hx hy hr
      rw [if_pos hr, if_pos hr, ih y hy (by omega)]
    · rw [if_neg hr, if_neg hr]
theorem ht_eq (h : Strict n r) {x : Nat} (hx : x < n) : ht n r x = mx n fun y => if r y x then ht n r y + 1 else 0 := htn_stable h n x hx (many_le _ _)
theorem ht_le (x : Nat) : ht n r x ≤ n := htn_le n x
theorem ht_lt (h : Strict n r) {x y : Nat} (hx : x < n) (hy : y < n) (hr : r y x = true) : ht n r y < ht n r x := by
  rw [ht_eq h hx]
  have := mx_ge (n := n) (f := fun y => if r y x then ht n r y + 1 else 0) hy
  (try dsimp only at this)
  rw [if_pos hr] at this
  omega
theorem ht_max (h : Strict n r) {x m : Nat} (hx : x < n) (hm : ∀ y, y < n → r y x = true → ht n r y + 1 ≤ m) : ht n r x ≤ m := by
  rw [ht_eq h hx]
  refine mx_le fun y hy => ?_
  (try dsimp only)
  split
  · rename_i e; exact hm y hy e
  · exact Nat.zero_le _
/-- by the number of what is below -/
theorem strict_ind (h : Strict n r) {P : Nat → Prop} (hp : ∀ x, x < n → (∀ y, y < n → r y x = true → P y) → P x) : ∀ x, x < n → P x := by
  have key : ∀ k x, x < n → many n (fun z => r z x) ≤ k → P x := by
    intro k
    induction k with
    | zero => intro x hx hc; exact hp x hx fun y hy hr => by have := many_lt h hx hy hr; omega
    | succ k ih => intro x hx hc; exact hp x hx fun y hy hr => ih y hy (by have := many_lt h hx hy hr; omega)
  exact fun x hx => key _ x hx (Nat.le_refl _)
/-- numbers that grow along the order, and no faster than they must, are the heights -/
theorem ht_unique (h : Strict n r) {l : Nat → Nat} (h1 : ∀ x, x < n → l x ≤ ht n r x) (h2 : ∀ x y, x < n → y < n → r y x = true → l y < l x) : ∀ x, x < n → l x = ht n r x := by
  refine strict_ind h fun x hx ih => Nat.le_antisymm (h1 x hx) (ht_max h hx fun y hy hr => ?_)
  rw [← ih y hy hr]
  exact h2 x y hx hy hr
end

/-- the strict order, downward or upward -/
def rel (f : Nat → Nat → Bool) (down : Bool) (y x : Nat) : Bool := if down then (decide (y ≠ x) && f y x) else (decide (x ≠ y) && f x y)

/-- what a list of lengths is bound to -/
structure LInv (n : Nat) (r : Nat → Nat → Bool) (l : List Int) : Prop where
  len : l.length = n
  low : ∀ x, x < n → 0 ≤ nth l x
  high : ∀ x, x < n → nth l x ≤ ht n r x
def tot (n : Nat) (l : List Int) : Nat := sm n fun i => (nth l i).toNat
theorem tot_le {n r l} (h : LInv n r l) : tot n l ≤ n * n := by
  have := sm_le (n := n) (f := fun i => (nth l i).toNat) (g := fun _ => n) fun i hi => by
    have := h.high i hi
    have := ht_le (n := n) (r := r) i
    (try dsimp only); omega
  rw [sm_const] at this; exact this
theorem LInv.set {n r l} (h : LInv n r l) (hs : Strict n r) {x y : Nat} (hx : x < n) (hy : y < n) (hr : r y x = true) (hl : nth l x ≤ nth l y) : LInv n r (l.set x (nth l y + 1)) ∧ tot n l < tot n (l.set x (nth l y + 1)) := by
  have e : ∀ i, i < n → nth (l.set x (nth l y + 1)) i = if x = i then nth l y + 1 else nth l i := fun i hi => nth_set _ _ _ _ (by rw [h.len]; exact hi)
  refine ⟨⟨by rw [List.length_set]; exact h.len, fun i hi => ?_, fun i hi => ?_⟩, ?_⟩
  · rw [e i hi]
    split
    · have := h.low y hy; omega
    · exact h.low i hi
  · rw [e i hi]
    split
    · rename_i e; subst e
      have := h.high y hy
      have := ht_lt hs hx hy hr
      omega
    · exact h.high i hi
  · have hlow := h.low y hy
    refine sm_lt (fun i hi => ?_) hx ?_
    · rw [e i hi]
      split
      · rename_i e; subst e; omega
      · exact Nat.le_refl _
    · rw [e x hx, if_pos rfl]; have := h.low x hx; omega

def heights (n : Nat) (r : Nat → Nat → Bool) : List Int := (List.range n).map fun x => (ht n r x : Int)
end Go.Proofs.Ytpfikenknmlajaa.Ax
