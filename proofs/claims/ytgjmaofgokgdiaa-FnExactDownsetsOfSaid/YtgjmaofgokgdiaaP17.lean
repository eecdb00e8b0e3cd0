/-
  Sets as bits of a number; the largest antichain.
-/
import Derived.Test.YtgjmaofgokgdiaaP16
namespace Go.Proofs.Ytgjmaofgokgdiaa.Ax
open Go Classical

theorem pow_20 {n : Nat} (h : n ≤ 20) : (2 : Nat) ^ n ≤ 1048576 := by
  have : (2 : Nat) ^ n ≤ 2 ^ 20 := Nat.pow_le_pow_right (by omega) h
  omega
theorem shl_one {n : Nat} (h : n ≤ 20) : shlI 1 (n : Int) = ((2 ^ n : Nat) : Int) := by
  have h1 := pow_20 h
  have e : min ((n : Int)).toNat IntKind.i64.bits = n := by
    have : IntKind.i64.bits = 64 := rfl
    rw [this, Int.toNat_natCast]; omega
  unfold shlI
  rw [e, Int.one_mul, show ((2 : Int) ^ n) = ((2 ^ n : Nat) : Int) by simp]
  generalize 2 ^ n = q at h1 ⊢
  exact wrap_in (by omega) (by omega)
theorem shr_nat (m : Nat) {x : Nat} (h : x ≤ 20) : shrI (m : Int) (x : Int) = ((m / 2 ^ x : Nat) : Int) := by
  have e : min ((x : Int)).toNat IntKind.i64.bits = x := by
    have : IntKind.i64.bits = 64 := rfl
    rw [this, Int.toNat_natCast]; omega
  unfold shrI
  rw [e, Int.fdiv_eq_ediv_of_nonneg _ (Int.pow_nonneg (by omega)), show ((2 : Int) ^ x) = ((2 ^ x : Nat) : Int) by simp]
  rfl
theorem and_one {m : Nat} (h : m ≤ 1048576) : andI (m : Int) 1 = ((m % 2 : Nat) : Int) := by
  unfold andI
  have e : (BitVec.ofInt IntKind.i64.bits (m : Int) &&& BitVec.ofInt IntKind.i64.bits 1).toNat = m % 2 := by
    have hb : IntKind.i64.bits = 64 := rfl
    rw [hb, BitVec.toNat_and, BitVec.toNat_ofInt, BitVec.toNat_ofInt]
    have e1 : ((m : Int) % ((2 ^ 64 : Nat) : Int)).toNat = m := by omega
    have e2 : ((1 : Int) % ((2 ^ 64 : Nat) : Int)).toNat = 1 := by decide
    rw [e1, e2, Nat.and_one_is_mod]
  rw [e]
  exact wrap_in (by omega) (by omega)

/-- whether a bit is set -/
def bitB (m i : Nat) : Bool := decide (m / 2 ^ i % 2 = 1)
theorem sieve_stop {q : Nat → Bool} {i : Nat} : ∀ {n : Nat}, i ≤ n → (∀ j, i ≤ j → j < n → q j = false) → sieve n q = sieve i q := by
  intro n
  induction n with
  | zero => intro h _; have : i = 0 := by omega
            subst this; rfl
  | succ n ih =>
    intro h hq
    by_cases hi : i = n + 1
    · subst hi; rfl
    · rw [sieve_succ, hq n (by omega) (by omega), if_neg (by simp)]
      exact ih (by omega) fun j h1 h2 => hq j h1 (by omega)
theorem bit_zero {m i j : Nat} (h : m / 2 ^ i = 0) (hj : i ≤ j) : bitB m j = false := by
  have h1 : m < 2 ^ i := by
    rcases Nat.lt_or_ge m (2 ^ i) with h1 | h1
    · exact h1
    · have := Nat.div_pos h1 (Nat.pow_pos (by omega)); omega
  have h2 : (2 : Nat) ^ i ≤ 2 ^ j := Nat.pow_le_pow_right (by omega) hj
  unfold bitB
  rw [Nat.div_eq_of_lt (by omega)]; simp

theorem loop_bits {body : (Int × List Int) → Option ((Int × List Int) ⊕ List Int)} {m n : Nat} (hm : m < 2 ^ n)
    (h0 : ∀ (i : Nat) acc, i ≤ n → m / 2 ^ i = 0 → body ((i : Int), acc) = some (.inr acc))
    (h1 : ∀ (i : Nat) acc, i < n → acc.length ≤ i → ¬ m / 2 ^ i = 0 → body ((i : Int), acc) = some (.inl (((i + 1 : Nat) : Int), if bitB m i then acc ++ [(i : Int)] else acc))) : loopO body (0, nilL Int) = some (sieve n (bitB m)) := by
  have e0 : ((0 : Int), nilL Int) = (((0 : Nat) : Int), sieve 0 (bitB m)) := rfl
  rw [e0]
  rcases loop_pick (body := body) (fun i => ((i : Int), sieve i (bitB m))) n (fun i => m / 2 ^ i = 0) (fun i => sieve i (bitB m)) (sieve n (bitB m)) (fun i hi hh => by
      rw [h1 i _ hi (sieve_len _ _) hh, sieve_succ]) (fun i hi hh => h0 i _ (by omega) hh) (h0 n _ (Nat.le_refl _) (Nat.div_eq_of_lt hm)) with ⟨i, hi, hh, _, e⟩ | ⟨_, e⟩
  · rw [e, sieve_stop (q := bitB m) (n := n) (by omega) fun j hj _ => bit_zero hh hj]
  · exact e
theorem div_le (m i : Nat) : m / 2 ^ i ≤ m := Nat.div_le_self _ _
theorem F_l5Bits {m n : Nat} (hn : n ≤ 20) (hm : m < 2 ^ n) : F_spec_l5Bits (m : Int) = some (sieve n (bitB m)) := by
  unfold F_spec_l5Bits
  have hp := pow_20 hn
  rw [loop_bits (body := F_spec_l5Bits_l1 (m : Int)) hm (fun i acc hi hh => by
    unfold F_spec_l5Bits_l1
    dsimp only
    rw [ask_pos (by omega), shr_nat m (by omega), hh, if_neg (by omega)]) (fun i acc hi ha hh => by
    unfold F_spec_l5Bits_l1 bitB
    dsimp only
    have hd := div_le m i
    rw [ask_pos (by omega), shr_nat m (by omega)]
    generalize m / 2 ^ i = q at *
    rw [if_pos (by omega), ask_pos (by omega), and_one (by omega)]
    by_cases hb : q % 2 = 1
    · rw [if_pos (by omega), ask_pos (by rw [lim_def]; simp; omega), ask_pos (by unfold InI; omega), decide_eq_true hb, if_pos rfl]; rfl
    · rw [if_neg (by omega), ask_pos (by unfold InI; omega), decide_eq_false hb, if_neg (by simp)]; rfl)]
  rfl
theorem F_bitsOf {m n : Nat} (hn : n ≤ 20) (hm : m < 2 ^ n) : F_impl_bitsOf (m : Int) = some (sieve n (bitB m)) := by
  unfold F_impl_bitsOf
  have hp := pow_20 hn
  rw [loop_bits (body := F_impl_bitsOf_l1 (m : Int)) hm (fun i acc hi hh => by
    unfold F_impl_bitsOf_l1
    dsimp only
    rw [ask_pos (by omega), shr_nat m (by omega), hh, if_neg (by omega)]) (fun i acc hi ha hh => by
    unfold F_impl_bitsOf_l1 bitB
    dsimp only
    have hd := div_le m i
    rw [ask_pos (by omega), shr_nat m (by omega)]
    generalize m / 2 ^ i = q at *
    rw [if_pos (by omega), ask_pos (by omega), and_one (by omega)]
    by_cases hb : q % 2 = 1
    · rw [if_pos (by omega), ask_pos (by rw [lim_def]; simp; omega), ask_pos (by unfold InI; omega), decide_eq_true hb, if_pos rfl]; rfl
    · rw [if_neg (by omega), ask_pos (by unfold InI; omega), decide_eq_false hb, if_neg (by simp)]; rfl)]
  rfl

/-- the first list is less at the first place where they differ -/
def lexLt (a b : List Int) : Prop := ∃ i, i < a.length ∧ (∀ j, j < i → nth a j = nth b j) ∧ nth a i < nth b i
theorem F_l5Less {a b : List Int} (hl : a.length = b.length) (h : a.length ≤ LIM) : F_spec_l5Less a b = some (decide (lexLt a b)) := by
  unfold F_spec_l5Less
  rw [lim_def] at h
  rw [show ((0 : Int)) = (((0 : Nat)) : Int) from rfl]
  rcases loop_pick (body := F_spec_l5Less_l1 a b) (fun i => (i : Int)) a.length (fun i => nth a i ≠ nth b i) (fun i => .inl (decide (nth a i < nth b i))) (.inr ()) (fun i hi hh => by
      unfold F_spec_l5Less_l1
      rw [if_pos (by omega), ask_pos (by omega), ask_pos (by omega), Int.toNat_natCast, if_neg hh, ask_pos (by unfold InI; omega)]; rfl) (fun i hi hh => by
      unfold F_spec_l5Less_l1
      rw [if_pos (by omega), ask_pos (by omega), ask_pos (by omega), Int.toNat_natCast, if_pos hh, ask_pos (by omega), ask_pos (by omega)]) (by
      unfold F_spec_l5Less_l1
      rw [if_neg (by omega)]) with ⟨i, hi, hh, hf, e⟩ | ⟨hn, e⟩
  · rw [e]
    simp only [Option.bind_some]
    congr 1
    rw [decide_eq_decide]
    constructor
    · intro hlt
      exact ⟨i, hi, fun j hj => Classical.not_not.1 (hf j hj), hlt⟩
    · rintro ⟨k, hk, h1, h2⟩
      rcases Nat.lt_trichotomy k i with hki | hki | hki
      · have := Classical.not_not.1 (hf k hki); omega
      · subst hki; exact h2
      · exact absurd (h1 i hki) hh
  · rw [e, decide_eq_false]
    · rfl
    · rintro ⟨k, hk, _, h2⟩
      have := Classical.not_not.1 (hn k hk); omega
theorem F_compareLists {a b : List Int} (hl : a.length = b.length) (h : a.length ≤ LIM) : ∃ c, F_impl_compareLists a b = some c ∧ (¬ c ≥ 0 ↔ lexLt a b) := by
  unfold F_impl_compareLists
  rw [lim_def] at h
  rw [show ((0 : Int)) = (((0 : Nat)) : Int) from rfl]
  rcases loop_pick (body := F_impl_compareLists_l1 a b) (fun i => (i : Int)) a.length (fun i => nth a i ≠ nth b i) (fun i => .inl (if nth a i < nth b i then -1 else 1)) (.inr ()) (fun i hi hh => by
      unfold F_impl_compareLists_l1
      rw [if_pos (by omega), if_pos (by omega)]
      simp only [Option.bind_some]
      rw [ask_pos (by omega), ask_pos (by omega), Int.toNat_natCast, if_neg hh, ask_pos (by unfold InI; omega)]; rfl) (fun i hi hh => by
      unfold F_impl_compareLists_l1
      rw [if_pos (by omega), if_pos (by omega)]
      simp only [Option.bind_some]
      rw [ask_pos (by omega), ask_pos (by omega), Int.toNat_natCast, if_pos hh, ask_pos (by omega), ask_pos (by omega)]
      split <;> rfl) (by
      unfold F_impl_compareLists_l1
      rw [if_neg (by omega)]; rfl) with ⟨i, hi, hh, hf, e⟩ | ⟨hn, e⟩
  · rw [e]
    refine ⟨_, rfl, ?_⟩
    constructor
    · intro hlt
      refine ⟨i, hi, fun j hj => Classical.not_not.1 (hf j hj), ?_⟩
      by_cases hc : nth a i < nth b i
      · exact hc
      · rw [if_neg hc] at hlt; omega
    · rintro ⟨k, hk, h1, h2⟩
      have hki : k = i := by
        rcases Nat.lt_trichotomy k i with hki | hki | hki
        · have := Classical.not_not.1 (hf k hki); omega
        · exact hki
        · exact absurd (h1 i hki) hh
      subst hki
      rw [if_pos h2]; omega
  · rw [e]
    simp only [Option.bind_some]
    rw [if_neg (by omega), if_neg (by omega)]
    refine ⟨_, rfl, ?_⟩
    constructor
    · intro hc; omega
    · rintro ⟨k, hk, _, h2⟩
      have := Classical.not_not.1 (hn k hk); omega

/-- no two are comparable -/
def anti (f : Nat → Nat → Bool) (ls : List Int) : Prop := ∀ x ∈ ls, ∀ y ∈ ls, ¬ (x.toNat ≠ y.toNat ∧ f x.toNat y.toNat = true)
theorem sieve_in (n : Nat) (q : Nat → Bool) : inSize (sieve n q) n := by
  intro x hx
  obtain ⟨z, h1, _, rfl⟩ := mem_sieve.1 hx
  omega
theorem anti_iff (f : Nat → Nat → Bool) (n : Nat) (q : Nat → Bool) : anti f (sieve n q) ↔ ∀ i, i < (sieve n q).length → ∀ k, k < i → ¬ (f (nth (sieve n q) k).toNat (nth (sieve n q) i).toNat = true ∨ f (nth (sieve n q) i).toNat (nth (sieve n q) k).toNat = true) := by
  have hr := sieve_rises n q
  have hin := sieve_in n q
  generalize sieve n q = ls at hr hin
  constructor
  · intro h i hi k hk hc
    have hlt := rises_lt hr hk hi
    have h1 := hin _ (nth_mem hi)
    have h2 := hin _ (nth_mem (show k < ls.length by omega))
    rcases hc with hc | hc
    · exact h _ (nth_mem (show k < ls.length by omega)) _ (nth_mem hi) ⟨by omega, hc⟩
    · exact h _ (nth_mem hi) _ (nth_mem (show k < ls.length by omega)) ⟨by omega, hc⟩
  · intro h x hx y hy hc
    obtain ⟨a, ha, rfl⟩ := mem_nth.1 hx
    obtain ⟨b, hb, rfl⟩ := mem_nth.1 hy
    rcases Nat.lt_trichotomy a b with hab | hab | hab
    · exact h b hb a hab (.inl hc.2)
    · subst hab; exact hc.1 rfl
    · exact h a ha b hab (.inr hc.2)
section
variable {p : SPoset}
def antiL (f : Nat → Nat → Bool) (ls : List Int) : Prop := ∀ i, i < ls.length → ∀ k, k < i → ¬ (f (nth ls k).toNat (nth ls i).toNat = true ∨ f (nth ls i).toNat (nth ls k).toNat = true)
/-- the best antichain among the first sets -/
noncomputable def bst (n : Nat) (f : Nat → Nat → Bool) : Nat → List Int
  | 0 => []
  | m + 1 => if ((sieve n (bitB m)).length > (bst n f m).length ∨ ((sieve n (bitB m)).length = (bst n f m).length ∧ lexLt (sieve n (bitB m)) (bst n f m))) ∧ anti f (sieve n (bitB m)) then sieve n (bitB m) else bst n f m
theorem bst_len (n : Nat) (f : Nat → Nat → Bool) : ∀ m, (bst n f m).length ≤ n := by
  intro m
  induction m with
  | zero => simp [bst]
  | succ m ih =>
    simp only [bst]
    split
    · exact sieve_len _ _
    · exact ih
end

end Go.Proofs.Ytgjmaofgokgdiaa.Ax
