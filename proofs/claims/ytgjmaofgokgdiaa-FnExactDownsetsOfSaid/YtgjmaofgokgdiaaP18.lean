/-
  How many linear extensions: sets as bits, one after the other.
-/
import Derived.Test.YtgjmaofgokgdiaaP17
namespace Go.Proofs.Ytgjmaofgokgdiaa.Ax
open Go Classical

theorem bit_test (m i : Nat) : bitB m i = m.testBit i := by
  unfold bitB
  rw [Nat.testBit_eq_decide_div_mod_eq]
theorem and_shr {m i n : Nat} (hn : n ≤ 20) (hm : m < 2 ^ n) (hi : i ≤ 20) : andI (shrI (m : Int) (i : Int)) 1 = if bitB m i then 1 else 0 := by
  have hp := pow_20 hn
  have hd := div_le m i
  rw [shr_nat m hi]
  unfold bitB
  generalize m / 2 ^ i = q at *
  rw [and_one (by omega)]
  by_cases h : q % 2 = 1
  · rw [decide_eq_true h, if_pos rfl]; omega
  · rw [decide_eq_false h, if_neg (by simp)]; omega
/-- with one more element -/
def add1 (m x : Nat) : Nat := m ||| 2 ^ x
theorem or_shl {m x n : Nat} (hn : n ≤ 20) (hm : m < 2 ^ n) (hx : x < n) : orI (m : Int) (shlI 1 (x : Int)) = (add1 m x : Int) := by
  have hp := pow_20 hn
  have h2 : (2 : Nat) ^ x < 2 ^ n := Nat.pow_lt_pow_right (by omega) hx
  have h3 : m ||| 2 ^ x < 2 ^ n := Nat.or_lt_two_pow hm h2
  rw [shl_one (by omega)]
  unfold orI add1
  have hb : IntKind.i64.bits = 64 := rfl
  have e : (BitVec.ofInt IntKind.i64.bits (m : Int) ||| BitVec.ofInt IntKind.i64.bits ((2 ^ x : Nat) : Int)).toNat = m ||| 2 ^ x := by
    rw [hb, BitVec.toNat_or, BitVec.toNat_ofInt, BitVec.toNat_ofInt]
    generalize 2 ^ x = q at *
    have e1 : ((m : Int) % ((2 ^ 64 : Nat) : Int)).toNat = m := by omega
    have e2 : ((q : Int) % ((2 ^ 64 : Nat) : Int)).toNat = q := by omega
    rw [e1, e2]
  rw [e]
  generalize m ||| 2 ^ x = q at *
  exact wrap_in (by omega) (by omega)
theorem add1_lt {m x n : Nat} (hm : m < 2 ^ n) (hx : x < n) : add1 m x < 2 ^ n := Nat.or_lt_two_pow hm (Nat.pow_lt_pow_right (by omega) hx)
theorem add1_bit (m x i : Nat) : bitB (add1 m x) i = (bitB m i || decide (x = i)) := by
  rw [bit_test, bit_test]
  unfold add1
  rw [Nat.testBit_or, Nat.testBit_two_pow]
theorem add1_gt {m x : Nat} (h : bitB m x = false) : m < add1 m x := by
  have h1 : m ≤ add1 m x := Nat.left_le_or
  rcases Nat.lt_or_ge m (add1 m x) with h2 | h2
  · exact h2
  · have h3 : add1 m x = m := Nat.le_antisymm h2 h1
    have := add1_bit m x x
    rw [h3, h] at this
    simp at this
/-- how many elements -/
def pc (n m : Nat) : Nat := (sieve n (bitB m)).length
theorem sieve_one {q q' : Nat → Bool} {x : Nat} (hq : q x = false) (h : ∀ i, q' i = (q i || decide (x = i))) : ∀ n, (sieve n q').length = (sieve n q).length + if x < n then 1 else 0 := by
  intro n
  induction n with
  | zero => simp [sieve]
  | succ n ih =>
    rw [sieve_succ, sieve_succ, h n]
    by_cases hxn : x = n
    · subst hxn
      rw [hq]
      simp only [decide_true, Bool.or_true, if_true, Bool.false_eq_true, if_false]
      rw [List.length_append, ih, if_neg (by omega), if_pos (by omega)]; rfl
    · rw [decide_eq_false hxn, Bool.or_false]
      by_cases hqn : q n = true
      · rw [if_pos hqn, if_pos hqn, List.length_append, List.length_append, ih]
        by_cases hx : x < n
        · rw [if_pos hx, if_pos (by omega)]; simp
        · rw [if_neg hx, if_neg (by omega)]; rfl
      · rw [if_neg hqn, if_neg hqn, ih]
        by_cases hx : x < n
        · rw [if_pos hx, if_pos (by omega)]
        · rw [if_neg hx, if_neg (by omega)]
theorem pc_add {n m x : Nat} (hx : x < n) (h : bitB m x = false) : pc n (add1 m x) = pc n m + 1 := by
  unfold pc
  rw [sieve_one h (add1_bit m x) n, if_pos hx]
theorem pc_le (n m : Nat) : pc n m ≤ n := sieve_len _ _

/-- weights -/
def wt (n m : Nat) : Nat := 10 ^ (10 - pc n m)
theorem wt_pos (n m : Nat) : 1 ≤ wt n m := Nat.pow_pos (by omega)
theorem wt_add {n m x : Nat} (h10 : n ≤ 10) (hx : x < n) (h : bitB m x = false) : 10 * wt n (add1 m x) = wt n m := by
  have h1 := pc_le n (add1 m x)
  rw [pc_add hx h] at h1
  unfold wt
  rw [pc_add hx h, show 10 - pc n m = (10 - (pc n m + 1)) + 1 by omega, Nat.pow_succ, Nat.mul_comm]
/-- the weight of what is still to be done: the k sets from the M-th on -/
def phi (n : Nat) (ws : List Int) : Nat → Nat → Int
  | _, 0 => 0
  | M, k + 1 => nth ws M * wt n M + phi n ws (M + 1) k
theorem phi_set_out {n : Nat} {ws : List Int} {j : Nat} {v : Int} : ∀ k M, M + k ≤ ws.length → (j < M ∨ M + k ≤ j) → phi n (ws.set j v) M k = phi n ws M k := by
  intro k
  induction k with
  | zero => intro M _ _; rfl
  | succ k ih =>
    intro M h1 h2
    simp only [phi]
    rw [nth_set _ _ _ _ (by omega), if_neg (by omega), ih (M + 1) (by omega) (by omega)]
theorem phi_set_in {n : Nat} {ws : List Int} {j : Nat} {v : Int} : ∀ k M, M + k ≤ ws.length → M ≤ j → j < M + k → phi n (ws.set j v) M k = phi n ws M k + (v - nth ws j) * wt n j := by
  intro k
  induction k with
  | zero => intro M _ _ _; omega
  | succ k ih =>
    intro M h1 h2 h3
    simp only [phi]
    rw [nth_set _ _ _ _ (by omega)]
    by_cases hj : j = M
    · subst hj
      rw [if_pos rfl, phi_set_out k (j + 1) (by omega) (by omega), Int.sub_mul]; omega
    · rw [if_neg hj, ih (M + 1) (by omega) (by omega) (by omega)]; omega
theorem phi_nonneg {n : Nat} {ws : List Int} (h : ∀ i, i < ws.length → 0 ≤ nth ws i) : ∀ k M, M + k ≤ ws.length → 0 ≤ phi n ws M k := by
  intro k
  induction k with
  | zero => intro M _; exact Int.le_refl _
  | succ k ih =>
    intro M hM
    simp only [phi]
    have h1 := ih (M + 1) (by omega)
    have h2 : 0 ≤ nth ws M * (wt n M : Int) := Int.mul_nonneg (h M (by omega)) (by omega)
    omega
theorem phi_mem {n : Nat} {ws : List Int} (h : ∀ i, i < ws.length → 0 ≤ nth ws i) : ∀ k M j, M + k ≤ ws.length → M ≤ j → j < M + k → nth ws j ≤ phi n ws M k := by
  intro k
  induction k with
  | zero => intro M j _ _ _; omega
  | succ k ih =>
    intro M j h1 h2 h3
    simp only [phi]
    have hw := wt_pos n M
    have h0 := h M (by omega)
    have hp := phi_nonneg (n := n) h k (M + 1) (by omega)
    have hm : nth ws M * 1 ≤ nth ws M * (wt n M : Int) := Int.mul_le_mul_of_nonneg_left (by omega) h0
    by_cases hj : j = M
    · subst hj; omega
    · have := ih (M + 1) j (by omega) (by omega) (by omega); omega

section
variable {n : Nat} {f : Nat → Nat → Bool}
/-- whether x may come behind the elements of m -/
noncomputable def freeB (n : Nat) (f : Nat → Nat → Bool) (m x : Nat) : Bool := decide (bitB m x = false ∧ ∀ y, y < n → y ≠ x → f y x = true → bitB m y = true)
noncomputable def addx (n : Nat) (f : Nat → Nat → Bool) (m x : Nat) (ws : List Int) : List Int := if ¬ nth ws m = 0 ∧ freeB n f m x = true then ws.set (add1 m x) (nth ws (add1 m x) + nth ws m) else ws
noncomputable def inn (n : Nat) (f : Nat → Nat → Bool) (m : Nat) (ws : List Int) : Nat → List Int
  | 0 => ws
  | x + 1 => addx n f m x (inn n f m ws x)
noncomputable def outw (n : Nat) (f : Nat → Nat → Bool) : Nat → List Int
  | 0 => (List.replicate (2 ^ n) (0 : Int)).set 0 1
  | m + 1 => inn n f m (outw n f m) n
theorem freeB_bit {m x : Nat} (h : freeB n f m x = true) : bitB m x = false := (of_decide_eq_true h).1
theorem addx_len (m x : Nat) (ws : List Int) : (addx n f m x ws).length = ws.length := by
  unfold addx; split <;> simp
theorem inn_len (m : Nat) (ws : List Int) : ∀ x, (inn n f m ws x).length = ws.length := by
  intro x
  induction x with
  | zero => rfl
  | succ x ih => simp only [inn]; rw [addx_len, ih]
theorem inn_at (m : Nat) (ws : List Int) (hm : m < ws.length) : ∀ x, nth (inn n f m ws x) m = nth ws m := by
  intro x
  induction x with
  | zero => rfl
  | succ x ih =>
    simp only [inn]
    unfold addx
    split
    · rename_i hc
      have := add1_gt (freeB_bit hc.2)
      rw [nth_set _ _ _ _ (by rw [inn_len]; exact hm), if_neg (by omega)]; exact ih
    · exact ih
theorem inn_zero (m : Nat) (ws : List Int) (_hm : m < ws.length) (h0 : nth ws m = 0) : ∀ x, inn n f m ws x = ws := by
  intro x
  induction x with
  | zero => rfl
  | succ x ih =>
    simp only [inn]
    rw [ih]
    unfold addx
    rw [if_neg (fun hc => hc.1 h0)]

/-- what holds of the table before the m-th set -/
structure okW (n m : Nat) (ws : List Int) : Prop where
  len : ws.length = 2 ^ n
  pos : ∀ i, i < ws.length → 0 ≤ nth ws i
  sum : phi n ws m (2 ^ n - m) ≤ 10000000000
theorem inn_ok (h10 : n ≤ 10) {m : Nat} (hm : m < 2 ^ n) {ws : List Int} (h : okW n m ws) : ∀ x, x ≤ n → (inn n f m ws x).length = 2 ^ n ∧ (∀ i, i < (inn n f m ws x).length → 0 ≤ nth (inn n f m ws x) i) ∧
    phi n (inn n f m ws x) (m + 1) (2 ^ n - m - 1) + (10 - x : Int) * (nth ws m * ((wt n m / 10 : Nat) : Int)) ≤ 10000000000 := by
  have hlen := h.len
  have hsum := h.sum
  have h0 := h.pos m (by omega)
  have hms : 2 ^ n - m = (2 ^ n - m - 1) + 1 := by omega
  rw [hms] at hsum
  simp only [phi] at hsum
  intro x
  induction x with
  | zero =>
    intro _
    refine ⟨hlen, h.pos, ?_⟩
    show phi n ws (m + 1) (2 ^ n - m - 1) + (10 - ((0 : Nat) : Int)) * (nth ws m * ((wt n m / 10 : Nat) : Int)) ≤ 10000000000
    have h1 : nth ws m * ((10 * (wt n m / 10) : Nat) : Int) ≤ nth ws m * (wt n m : Int) := Int.mul_le_mul_of_nonneg_left (by have := Nat.mul_div_le (wt n m) 10; omega) h0
    rw [Int.natCast_mul, Int.mul_left_comm] at h1
    simp only [Int.natCast_zero, Int.sub_zero]
    have h2 : ((10 : Nat) : Int) = 10 := rfl
    rw [h2] at h1
    omega
  | succ x ih =>
    intro hx
    obtain ⟨i1, i2, i3⟩ := ih (by omega)
    have hat := inn_at (n := n) (f := f) m ws (by omega) x
    have hb : 0 ≤ nth ws m * ((wt n m / 10 : Nat) : Int) := Int.mul_nonneg h0 (by omega)
    have hsplit : (10 - (x : Int)) * (nth ws m * ((wt n m / 10 : Nat) : Int)) = (10 - ((x + 1 : Nat) : Int)) * (nth ws m * ((wt n m / 10 : Nat) : Int)) + nth ws m * ((wt n m / 10 : Nat) : Int) := by
      rw [show (10 - (x : Int)) = (10 - ((x + 1 : Nat) : Int)) + 1 by omega, Int.add_mul, Int.one_mul]
    rw [hsplit] at i3
    simp only [inn]
    unfold addx
    split
    · rename_i hc
      have hbit := freeB_bit hc.2
      have hgt := add1_gt hbit
      have hlt := add1_lt hm (show x < n by omega)
      have hw := wt_add h10 (show x < n by omega) hbit
      have hdiv : wt n m / 10 = wt n (add1 m x) := by omega
      refine ⟨by rw [List.length_set]; exact i1, fun i hi => ?_, ?_⟩
      · rw [List.length_set] at hi
        rw [nth_set _ _ _ _ hi]
        split
        · have := i2 (add1 m x) (by omega)
          rw [hat]; omega
        · exact i2 i hi
      · have e : nth (inn n f m ws x) (add1 m x) + nth ws m - nth (inn n f m ws x) (add1 m x) = nth ws m := by omega
        rw [phi_set_in _ _ (by omega) (by omega) (by omega), hat, e, ← hdiv]
        omega
    · exact ⟨i1, i2, by omega⟩
theorem out_ok (h10 : n ≤ 10) : ∀ m, m ≤ 2 ^ n → okW n m (outw n f m) := by
  intro m
  induction m with
  | zero =>
    intro _
    have hpos : 0 < 2 ^ n := Nat.pow_pos (by omega)
    have hl : (outw n f 0).length = 2 ^ n := by simp [outw]
    have hz : ∀ i, i < 2 ^ n → nth (outw n f 0) i = if 0 = i then 1 else 0 := fun i hi => by
      simp only [outw]
      rw [nth_set _ _ _ _ (by simpa using hi), nth_replicate _ hi]
    refine ⟨hl, fun i hi => ?_, ?_⟩
    · rw [hz i (by omega)]; split <;> omega
    · have hrest : ∀ k M, 0 < M → M + k ≤ 2 ^ n → phi n (outw n f 0) M k = 0 := by
        intro k
        induction k with
        | zero => intro M _ _; rfl
        | succ k ih =>
          intro M h1 h2
          simp only [phi]
          rw [hz M (by omega), if_neg (by omega), ih (M + 1) (by omega) (by omega)]; simp
      rw [show 2 ^ n - 0 = (2 ^ n - 1) + 1 by omega]
      simp only [phi]
      rw [hz 0 hpos, if_pos rfl, hrest _ 1 (by omega) (by omega)]
      have : wt n 0 ≤ 10 ^ 10 := Nat.pow_le_pow_right (by omega) (by omega)
      omega
  | succ m ih =>
    intro hm
    have h := ih (by omega)
    obtain ⟨i1, i2, i3⟩ := inn_ok (f := f) h10 (show m < 2 ^ n by omega) h n (Nat.le_refl _)
    refine ⟨i1, i2, ?_⟩
    have hb : 0 ≤ nth (outw n f m) m * ((wt n m / 10 : Nat) : Int) := Int.mul_nonneg (h.pos m (by rw [h.len]; omega)) (by omega)
    have hc : 0 ≤ (10 - (n : Int)) * (nth (outw n f m) m * ((wt n m / 10 : Nat) : Int)) := Int.mul_nonneg (by omega) hb
    have : 2 ^ n - (m + 1) = 2 ^ n - m - 1 := by omega
    rw [this]
    show phi n (inn n f m (outw n f m) n) (m + 1) (2 ^ n - m - 1) ≤ 10000000000
    omega
/-- no sum is too large -/
theorem sum_ok (h10 : n ≤ 10) {m x : Nat} (hm : m < 2 ^ n) (hx : x < n) (hf : freeB n f m x = true) :
    add1 m x < (inn n f m (outw n f m) x).length ∧ m < (inn n f m (outw n f m) x).length ∧ nth (inn n f m (outw n f m) x) m = nth (outw n f m) m ∧ 0 ≤ nth (inn n f m (outw n f m) x) (add1 m x) + nth (outw n f m) m ∧ nth (inn n f m (outw n f m) x) (add1 m x) + nth (outw n f m) m ≤ 20000000000 := by
  have h := out_ok (f := f) h10 m (by omega)
  obtain ⟨i1, i2, i3⟩ := inn_ok (f := f) h10 hm h x (by omega)
  have hgt := add1_gt (freeB_bit hf)
  have hlt := add1_lt hm hx
  have h0 := h.pos m (by rw [h.len]; omega)
  have hb : 0 ≤ nth (outw n f m) m * ((wt n m / 10 : Nat) : Int) := Int.mul_nonneg h0 (by omega)
  have hc : 0 ≤ (10 - (x : Int)) * (nth (outw n f m) m * ((wt n m / 10 : Nat) : Int)) := Int.mul_nonneg (by omega) hb
  have h1 := phi_mem (n := n) i2 (2 ^ n - m - 1) (m + 1) (add1 m x) (by omega) (by omega) (by omega)
  have h2 := phi_mem (n := n) h.pos (2 ^ n - m) m m (by rw [h.len]; omega) (Nat.le_refl _) (by omega)
  have h3 := h.sum
  have h4 := i2 (add1 m x) (by omega)
  exact ⟨by omega, by omega, inn_at m _ (by rw [h.len]; exact hm) x, by omega, by omega⟩
end

section
variable {p : SPoset}
end

end Go.Proofs.Ytgjmaofgokgdiaa.Ax
