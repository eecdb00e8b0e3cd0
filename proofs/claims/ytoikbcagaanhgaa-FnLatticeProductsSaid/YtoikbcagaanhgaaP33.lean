/-
  Counting in orders: lower covers, products; each element of a lattice is the join of the join irreducibles below it.
-/
import Derived.Test.YtoikbcagaanhgaaP11
import Derived.Test.YtoikbcagaanhgaaP24
namespace Go.Proofs.Ytoikbcagaanhgaa.Ax
open Go Classical
noncomputable def many (n : Nat) (q : Nat → Bool) : Nat := (sieve n q).length
theorem many_zero (q : Nat → Bool) : many 0 q = 0 := rfl
theorem many_succ (n : Nat) (q : Nat → Bool) : many (n + 1) q = many n q + if q n = true then 1 else 0 := by
  unfold many; rw [sieve_succ]
  by_cases h : q n = true
  · rw [if_pos h, if_pos h]; simp
  · rw [if_neg h, if_neg h]; rfl
theorem many_congr {n : Nat} {q r : Nat → Bool} (h : ∀ i, i < n → q i = r i) : many n q = many n r := by
  unfold many; rw [sieve_congr h]
theorem many_le {n : Nat} {q r : Nat → Bool} (h : ∀ i, i < n → q i = true → r i = true) : many n q ≤ many n r := by
  induction n with
  | zero => exact Nat.le_refl _
  | succ n ih =>
    have := ih fun i hi => h i (by omega)
    rw [many_succ, many_succ]
    by_cases hq : q n = true
    · rw [if_pos hq, if_pos (h n (by omega) hq)]; omega
    · rw [if_neg hq]; split <;> omega
theorem many_lt {n : Nat} {q r : Nat → Bool} (h : ∀ i, i < n → q i = true → r i = true) {k : Nat} (hk : k < n) (h1 : q k = false) (h2 : r k = true) : many n q < many n r := by
  induction n with
  | zero => omega
  | succ n ih =>
    rw [many_succ, many_succ]
    by_cases hkn : k = n
    · subst hkn
      have := many_le (n := k) (q := q) (r := r) fun i hi => h i (by omega)
      rw [if_neg (by simp [h1]), if_pos h2]; omega
    · have := ih (fun i hi => h i (by omega)) (by omega)
      by_cases hq : q n = true
      · rw [if_pos hq, if_pos (h n (by omega) hq)]; omega
      · rw [if_neg hq]; split <;> omega
theorem many_none {n : Nat} {q : Nat → Bool} (h : ∀ i, i < n → q i = false) : many n q = 0 := by
  unfold many; rw [sieve_nil.2 h]; rfl
theorem many_one {n b : Nat} (hb : b < n) : many n (fun i => decide (b = i)) = 1 := by
  induction n with
  | zero => omega
  | succ n ih =>
    rw [many_succ]
    by_cases h : b = n
    · subst h
      rw [many_none fun i hi => by simp; omega]; simp
    · rw [ih (by omega)]; simp [h]
theorem many_add (a b : Nat) (q : Nat → Bool) : many (a + b) q = many a q + many b fun i => q (a + i) := by
  induction b with
  | zero => simp [many_zero]
  | succ b ih => rw [show a + (b + 1) = a + b + 1 by omega, many_succ, ih, many_succ]; omega
def sm : Nat → (Nat → Nat) → Nat
  | 0, _ => 0
  | n + 1, F => sm n F + F n
theorem sm_congr {n : Nat} {F G : Nat → Nat} (h : ∀ i, i < n → F i = G i) : sm n F = sm n G := by
  induction n with
  | zero => rfl
  | succ n ih => simp only [sm]; rw [ih fun i hi => h i (by omega), h n (by omega)]
theorem many_mul (n m : Nat) (q : Nat → Bool) : many (n * m) q = sm n fun x => many m fun y => q (x * m + y) := by
  induction n with
  | zero => simp [sm, many_zero]
  | succ n ih => rw [Nat.succ_mul, many_add, ih]; rfl
theorem sm_many (n : Nat) (q : Nat → Bool) : (sm n fun i => if q i = true then 1 else 0) = many n q := by
  induction n with
  | zero => rfl
  | succ n ih => simp only [sm]; rw [ih, many_succ]
theorem sm_add (n : Nat) (F G : Nat → Nat) : (sm n fun i => F i + G i) = sm n F + sm n G := by
  induction n with
  | zero => rfl
  | succ n ih => simp only [sm]; rw [ih]; omega
theorem sm_at {n b : Nat} (hb : b < n) (c : Nat) : (sm n fun i => if b = i then c else 0) = c := by
  have key : ∀ k, (sm k fun i => if b = i then c else 0) = if b < k then c else 0 := by
    intro k
    induction k with
    | zero => rfl
    | succ k ih =>
      simp only [sm]
      rw [ih]
      by_cases h : b < k
      · rw [if_pos h, if_neg (by omega), if_pos (by omega)]; omega
      · by_cases h2 : b = k
        · rw [if_neg h, if_pos h2, if_pos (by omega)]; omega
        · rw [if_neg h, if_neg h2, if_neg (by omega)]
  rw [key, if_pos hb]
section
variable {n : Nat} {f : Nat → Nat → Bool}
theorem cov_iff {x y : Nat} : cov n f x y = true ↔ (x ≠ y ∧ f x y = true) ∧ ∀ z, z < n → ¬ ((x ≠ z ∧ f x z = true) ∧ (z ≠ y ∧ f z y = true)) := by
  unfold cov; rw [decide_eq_true_eq]
theorem cov_self (x : Nat) : cov n f x x = false := by
  unfold cov; exact decide_eq_false fun h => h.1.1 rfl
theorem cov_under (ho : Ord n f) : ∀ k x y, x < n → y < n → x ≠ y → f x y = true → many n (fun z => decide (x ≠ z ∧ f x z = true ∧ z ≠ y ∧ f z y = true)) ≤ k → ∃ c, c < n ∧ f x c = true ∧ cov n f c y = true := by
  intro k
  induction k with
  | zero =>
    intro x y hx hy hne hf hk
    refine ⟨x, hx, ho.refl x hx, cov_iff.2 ⟨⟨hne, hf⟩, fun z hz hh => ?_⟩⟩
    have : 0 < many n (fun z => decide (x ≠ z ∧ f x z = true ∧ z ≠ y ∧ f z y = true)) := by
      have h0 := many_lt (n := n) (q := fun _ => false) (r := fun z => decide (x ≠ z ∧ f x z = true ∧ z ≠ y ∧ f z y = true)) (by simp) hz rfl (decide_eq_true ⟨hh.1.1, hh.1.2, hh.2.1, hh.2.2⟩)
      omega
    omega
  | succ k ih =>
    intro x y hx hy hne hf hk
    by_cases hc : cov n f x y = true
    · exact ⟨x, hx, ho.refl x hx, hc⟩
    · have : ∃ z, z < n ∧ (x ≠ z ∧ f x z = true) ∧ (z ≠ y ∧ f z y = true) := by
        apply Classical.byContradiction
        intro hh
        exact hc (cov_iff.2 ⟨⟨hne, hf⟩, fun z hz h => hh ⟨z, hz, h⟩⟩)
      obtain ⟨z, hz, ⟨h1, h2⟩, h3, h4⟩ := this
      obtain ⟨c, hc1, hc2, hc3⟩ := ih z y hz hy h3 h4 (by
        have := many_lt (n := n) (q := fun w => decide (z ≠ w ∧ f z w = true ∧ w ≠ y ∧ f w y = true)) (r := fun w => decide (x ≠ w ∧ f x w = true ∧ w ≠ y ∧ f w y = true)) (fun w hw hh => by
          obtain ⟨a1, a2, a3, a4⟩ := of_decide_eq_true hh
          refine decide_eq_true ⟨fun e => ?_, ho.trans x z w hx hz hw h2 a2, a3, a4⟩
          subst e
          exact h1 (ho.anti x z hx hz h2 a2)) (k := z) hz (decide_eq_false fun hh => hh.1 rfl) (decide_eq_true ⟨h1, h2, h3, h4⟩)
        omega)
      exact ⟨c, hc1, ho.trans x z c hx hz hc1 h2 hc2, hc3⟩
noncomputable def lc (n : Nat) (f : Nat → Nat → Bool) (y : Nat) : Nat := many n fun x => cov n f x y
noncomputable def isJ (n : Nat) (f : Nat → Nat → Bool) (y : Nat) : Bool := decide (lc n f y = 1)
theorem lc_zero (ho : Ord n f) {b : Nat} (hb : b < n) (hle : ∀ x, x < n → f b x = true) {y : Nat} (hy : y < n) : lc n f y = 0 ↔ b = y := by
  constructor
  · intro h
    apply Classical.byContradiction
    intro hne
    obtain ⟨c, h1, _, h3⟩ := cov_under ho _ b y hb hy hne (hle y hy) (Nat.le_refl _)
    have : 0 < lc n f y := by
      have := many_lt (n := n) (q := fun _ => false) (r := fun x => cov n f x y) (by simp) h1 rfl h3
      unfold lc; omega
    omega
  · rintro rfl
    refine many_none fun x hx => ?_
    cases hc : cov n f x b with
    | false => rfl
    | true =>
      have := (cov_iff.1 hc).1
      exact (this.1 (ho.anti x b hx hb this.2 (hle x hx))).elim
end
theorem prod_at {m x y : Nat} (hy : y < m) : (x * m + y) / m = x ∧ (x * m + y) % m = y := by
  constructor
  · rw [Nat.mul_comm, Nat.mul_add_div (by omega), Nat.div_eq_of_lt hy, Nat.add_zero]
  · rw [Nat.mul_comm, Nat.mul_add_mod, Nat.mod_eq_of_lt hy]
theorem prodF_at {f g : Nat → Nat → Bool} {m x y u v : Nat} (hy : y < m) (hv : v < m) : prodF f g m (x * m + y) (u * m + v) = (f x u && g y v) := by
  unfold prodF
  rw [(prod_at hy).1, (prod_at hy).2, (prod_at hv).1, (prod_at hv).2]
theorem pair_inj {m x y u v : Nat} (hy : y < m) (hv : v < m) : x * m + y = u * m + v ↔ x = u ∧ y = v := by
  constructor
  · intro h
    have h1 := prod_at (x := x) hy
    have h2 := prod_at (x := u) hv
    rw [h] at h1
    exact ⟨h1.1.symm.trans h2.1, h1.2.symm.trans h2.2⟩
  · rintro ⟨rfl, rfl⟩; rfl
theorem pair_lt {n m x y : Nat} (hx : x < n) (hy : y < m) : x * m + y < n * m := by
  have := Nat.mul_le_mul_right m (show x + 1 ≤ n by omega)
  rw [Nat.succ_mul] at this; omega
theorem pair_of {n m z : Nat} (hz : z < n * m) : ∃ x y, x < n ∧ y < m ∧ z = x * m + y := by
  have hm : 0 < m := by
    rcases Nat.eq_zero_or_pos m with h | h
    · subst h; simp at hz
    · exact h
  exact ⟨z / m, z % m, Nat.div_lt_of_lt_mul (by rw [Nat.mul_comm]; exact hz), Nat.mod_lt _ hm, by rw [Nat.mul_comm, Nat.div_add_mod]⟩
section
variable {n m : Nat} {f g : Nat → Nat → Bool}
theorem cov_prod (hf : Ord n f) (hg : Ord m g) {x y u v : Nat} (hx : x < n) (hy : y < m) (hu : u < n) (hv : v < m) :
    cov (n * m) (prodF f g m) (x * m + y) (u * m + v) = ((decide (x = u) && cov m g y v) || (decide (y = v) && cov n f x u)) := by
  rw [Bool.eq_iff_iff, cov_iff]
  simp only [Bool.or_eq_true, Bool.and_eq_true, decide_eq_true_eq, cov_iff]
  constructor
  · rintro ⟨⟨h1, h2⟩, h3⟩
    rw [prodF_at hy hv, Bool.and_eq_true] at h2
    rw [Ne, pair_inj hy hv] at h1
    have hc := h3 (x * m + v) (pair_lt hx hv)
    rw [prodF_at hy hv, prodF_at hv hv, Ne, Ne, pair_inj hy hv, pair_inj hv hv] at hc
    by_cases hxu : x = u
    · subst hxu
      refine .inl ⟨rfl, ⟨fun e => h1 ⟨rfl, e⟩, h2.2⟩, fun z hz hh => ?_⟩
      refine h3 (x * m + z) (pair_lt hx hz) ?_
      rw [prodF_at hy hz, prodF_at hz hv, Ne, Ne, pair_inj hy hz, pair_inj hz hv]
      refine ⟨⟨fun e => hh.1.1 e.2, ?_⟩, fun e => hh.2.1 e.2, ?_⟩
      · rw [hf.refl x hx, hh.1.2]; rfl
      · rw [hf.refl x hx, hh.2.2]; rfl
    · have hyv : y = v := by
        apply Classical.byContradiction
        intro hne
        refine hc ⟨⟨fun e => hne e.2, ?_⟩, fun e => hxu e.1, ?_⟩
        · rw [hf.refl x hx, h2.2]; rfl
        · rw [h2.1, hg.refl v hv]; rfl
      subst hyv
      refine .inr ⟨rfl, ⟨hxu, h2.1⟩, fun z hz hh => ?_⟩
      refine h3 (z * m + y) (pair_lt hz hy) ?_
      rw [prodF_at hy hy, prodF_at hy hy, Ne, Ne, pair_inj hy hy, pair_inj hy hy]
      refine ⟨⟨fun e => hh.1.1 e.1, ?_⟩, fun e => hh.2.1 e.1, ?_⟩
      · rw [hh.1.2, hg.refl y hy]; rfl
      · rw [hh.2.2, hg.refl y hy]; rfl
  · rintro (⟨rfl, ⟨h1, h2⟩, h3⟩ | ⟨rfl, ⟨h1, h2⟩, h3⟩)
    · rw [prodF_at hy hv, Ne, pair_inj hy hv]
      refine ⟨⟨fun e => h1 e.2, by rw [hf.refl x hx, h2]; rfl⟩, fun z hz hh => ?_⟩
      obtain ⟨a, b, ha, hb, rfl⟩ := pair_of hz
      rw [prodF_at hy hb, prodF_at hb hv, Ne, Ne, pair_inj hy hb, pair_inj hb hv, Bool.and_eq_true, Bool.and_eq_true] at hh
      have e := hf.anti x a hx ha hh.1.2.1 hh.2.2.1
      subst e
      exact h3 b hb ⟨⟨fun e => hh.1.1 ⟨rfl, e⟩, hh.1.2.2⟩, fun e => hh.2.1 ⟨rfl, e⟩, hh.2.2.2⟩
    · rw [prodF_at hy hy, Ne, pair_inj hy hy]
      refine ⟨⟨fun e => h1 e.1, by rw [hg.refl y hy, h2]; rfl⟩, fun z hz hh => ?_⟩
      obtain ⟨a, b, ha, hb, rfl⟩ := pair_of hz
      rw [prodF_at hy hb, prodF_at hb hy, Ne, Ne, pair_inj hy hb, pair_inj hb hy, Bool.and_eq_true, Bool.and_eq_true] at hh
      have e := hg.anti y b hy hb hh.1.2.2 hh.2.2.2
      subst e
      exact h3 a ha ⟨⟨fun e => hh.1.1 ⟨e, rfl⟩, hh.1.2.1⟩, fun e => hh.2.1 ⟨e, rfl⟩, hh.2.2.1⟩
theorem many_cross {u v : Nat} (hu : u < n) (hv : v < m) (a b : Nat → Bool) (hb : b u = false) :
    many (n * m) (fun z => (decide (z / m = u) && a (z % m)) || (decide (z % m = v) && b (z / m))) = many m a + many n b := by
  rw [many_mul, ← sm_at hu (many m a), ← sm_many n b, ← sm_add]
  refine sm_congr fun x hx => ?_
  by_cases hxu : u = x
  · subst hxu
    rw [if_pos rfl, hb, if_neg (by simp)]
    refine many_congr fun y hy => ?_
    rw [(prod_at hy).1, (prod_at hy).2, hb]; simp
  · rw [if_neg hxu]
    cases hbx : b x with
    | false =>
      rw [if_neg (by simp)]
      refine many_none fun y hy => ?_
      rw [(prod_at hy).1, (prod_at hy).2, hbx, decide_eq_false fun e => hxu e.symm]; simp
    | true =>
      rw [if_pos rfl, Nat.zero_add, ← many_one hv]
      refine many_congr fun y hy => ?_
      rw [(prod_at hy).1, (prod_at hy).2, hbx, decide_eq_false fun e => hxu e.symm]
      simp [eq_comm]
theorem lc_prod (hf : Ord n f) (hg : Ord m g) {u v : Nat} (hu : u < n) (hv : v < m) : lc (n * m) (prodF f g m) (u * m + v) = lc m g v + lc n f u := by
  unfold lc
  rw [← many_cross hu hv (fun y => cov m g y v) (fun x => cov n f x u) (cov_self u)]
  refine many_congr fun z hz => ?_
  obtain ⟨a, b, ha, hb, rfl⟩ := pair_of hz
  rw [cov_prod hf hg ha hb hu hv, (prod_at hb).1, (prod_at hb).2]
theorem up_prod (hf : Ord n f) (hg : Ord m g) {u v : Nat} (hu : u < n) (hv : v < m) : (many (n * m) fun z => cov (n * m) (prodF f g m) (u * m + v) z) = (many m fun y => cov m g v y) + many n fun x => cov n f u x := by
  rw [← many_cross hu hv (fun y => cov m g v y) (fun x => cov n f u x) (cov_self u)]
  refine many_congr fun z hz => ?_
  obtain ⟨a, b, ha, hb, rfl⟩ := pair_of hz
  rw [cov_prod hf hg hu hv ha hb, (prod_at hb).1, (prod_at hb).2]
  simp [eq_comm]
theorem irr_prod (hf : Ord n f) (hg : Ord m g) {u v : Nat} (hu : u < n) (hv : v < m) (hfu : ∀ x, x < n → f u x = true) (hgv : ∀ y, y < m → g v y = true) :
    many (n * m) (isJ (n * m) (prodF f g m)) = many m (isJ m g) + many n (isJ n f) := by
  rw [← many_cross hu hv (isJ m g) (isJ n f) (by
    unfold isJ
    rw [(lc_zero hf hu hfu hu).2 rfl]; simp)]
  refine many_congr fun z hz => ?_
  obtain ⟨a, b, ha, hb, rfl⟩ := pair_of hz
  rw [(prod_at hb).1, (prod_at hb).2, Bool.eq_iff_iff]
  unfold isJ
  rw [lc_prod hf hg ha hb]
  have h1 := lc_zero hf hu hfu ha
  have h2 := lc_zero hg hv hgv hb
  simp only [Bool.or_eq_true, Bool.and_eq_true, decide_eq_true_eq]
  constructor
  · intro h
    by_cases h0 : lc n f a = 0
    · exact .inl ⟨(h1.1 h0).symm, by omega⟩
    · exact .inr ⟨(h2.1 (by omega)).symm, by omega⟩
  · rintro (⟨e, h⟩ | ⟨e, h⟩)
    · have := h1.2 e.symm; omega
    · have := h2.2 e.symm; omega
end
end Go.Proofs.Ytoikbcagaanhgaa.Ax
