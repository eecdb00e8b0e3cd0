/-
  How many linear extensions: sets as bits, one after the other.
-/
import Derived.Test.YthcnmahjhahafaaP17
namespace Go.Proofs.Ythcnmahjhahafaa.Ax
open Go Classical

theorem bit_test (m i : Nat) : bitB m i = m.testBit i := by
  unfold bitB
  rw [Nat.testBit_eq_decide_div_mod_eq]
theorem and_shr {m i n : Nat} (hn : n ≤ 20) (hm : m < 2 ^ n) (hi : i ≤ 20) : andI (shrI (m : Int) (i : Int)) 1 = if bitB m i then 1 else 0 := by
  have hp := pow_20 hn
  have hd := div_le m i
  rw [shr_nat m hi]
  unfold bitB
  generalize m / 2 ^ i = q at *
  rw [and_one (by omega)]
  by_cases h : q % 2 = 1
  · rw [decide_eq_true h, if_pos rfl]; omega
  · rw [decide_eq_false h, if_neg (by simp)]; omega
/-- with one more element -/
def add1 (m x : Nat) : Nat := m ||| 2 ^ x
theorem or_shl {m x n : Nat} (hn : n ≤ 20) (hm : m < 2 ^ n) (hx : x < n) : orI (m : Int) (shlI 1 (x : Int)) = (add1 m x : Int) := by
  have hp := pow_20 hn
  have h2 : (2 : Nat) ^ x < 2 ^ n := Nat.pow_lt_pow_right (by omega) hx
  have h3 : m ||| 2 ^ x < 2 ^ n := Nat.or_lt_two_pow hm h2
  rw [shl_one (by omega)]
  unfold orI add1
  have hb : IntKind.i64.bits = 64 := rfl
  have e : (BitVec.ofInt IntKind.i64.bits (m : Int) ||| BitVec.ofInt IntKind.i64.bits ((2 ^ x : Nat) : Int)).toNat = m ||| 2 ^ x := by
    rw [hb, BitVec.toNat_or, BitVec.toNat_ofInt, BitVec.toNat_ofInt]
    generalize 2 ^ x = q at *
    have e1 : ((m : Int) % ((2 ^ 64 : Nat) : Int)).toNat = m := by omega
    have e2 : ((q : Int) % ((2 ^ 64 : Nat) : Int)).toNat = q := by omega
    rw [e1, e2]
  rw [e]
  generalize m ||| 2 ^ x = q at *
  exact wrap_in (by omega) (by omega)
theorem add1_lt {m x n : Nat} (hm : m < 2 ^ n) (hx : x < n) : add1 m x < 2 ^ n := Nat.or_lt_two_pow hm (Nat.pow_lt_pow_right (by omega) hx)
theorem add1_bit (m x i : Nat) : bitB (add1 m x) i = (bitB m i || decide (x = i)) := by
  rw [bit_test, bit_test]
  unfold add1
  rw [Nat.testBit_or, Nat.testBit_two_pow]
theorem add1_gt {m x : Nat} (h : bitB m x = false) : m < add1 m x := by
  have h1 : m ≤ add1 m x := Nat.left_le_or
  rcases Nat.lt_or_ge m (add1 m x) with h2 | h2
  · exact h2
  · have h3 : add1 m x = m := Nat.le_antisymm h2 h1
    have := add1_bit m x x
    rw [h3, h] at this
    simp at this
/-- how many elements -/
def pc (n m : Nat) : Nat := (sieve n (bitB m)).length
theorem sieve_one {q q' : Nat → Bool} {x : Nat} (hq : q x = false) (h : ∀ i, q' i = (q i || decide (x = i))) : ∀ n, (sieve n q').length = (sieve n q).length + if x < n then 1 else 0 := by
  intro n
  induction n with
  | zero => simp [sieve]
  | succ n ih =>
    rw [sieve_succ, sieve_succ, h n]
    by_cases hxn : x = n
    · subst hxn
      rw [hq]
      simp only [decide_true, Bool.or_true, if_true, Bool.false_eq_true, if_false]
      rw [List.length_append, ih, if_neg (by omega), if_pos (by omega)]; rfl
    · rw [decide_eq_false hxn, Bool.or_false]
      by_cases hqn : q n = true
      · rw [if_pos hqn, if_pos hqn, List.length_append, List.length_append, ih]
        by_cases hx : x < n
        · rw [if_pos hx, if_pos (by omega)]; simp
        · rw [if_neg hx, if_neg (by omega)]; rfl
      · rw [if_neg hqn, if_neg hqn, ih]
        by_cases hx : x < n
        · rw [if_pos hx, if_pos (by omega)]
        · rw [if_neg hx, if_neg (by omega)]
theorem pc_add {n m x : Nat} (hx : x < n) (h : bitB m x = false) : pc n (add1 m x) = pc n m + 1 := by
  unfold pc
  rw [sieve_one h (add1_bit m x) n, if_pos hx]
theorem pc_le (n m : Nat) : pc n m ≤ n := sieve_len _ _

/-- weights -/
def wt (n m : Nat) : Nat := 10 ^ (10 - pc n m)
theorem wt_pos (n m : Nat) : 1 ≤ wt n m := Nat.pow_pos (by omega)
theorem wt_add {n m x : Nat} (h10 : n ≤ 10) (hx : x < n) (h : bitB m x = false) : 10 * wt n (add1 m x) = wt n m := by
  have h1 := pc_le n (add1 m x)
  rw [pc_add hx h] at h1
  unfold wt
  rw [pc_add hx h, show 10 - pc n m = (10 - (pc n m + 1)) + 1 by omega, Nat.pow_succ, Nat.mul_comm]
/-- the weight of what is still to be done: the k sets from the M-th on -/
def phi (n : Nat) (ws : List Int) : Nat → Nat → Int
  | _, 0 => 0
  | M, k + 1 => nth ws M * wt n M + phi n ws (M + 1) k
theorem phi_set_out {n : Nat} {ws : List Int} {j : Nat} {v : Int} : ∀ k M, M + k ≤ ws.length → (j < M ∨ M + k ≤ j) → phi n (ws.set j v) M k = phi n ws M k := by
  intro k
  induction k with
  | zero => intro M _ _; rfl
  | succ k ih =>
    intro M h1 h2
    simp only [phi]
    rw [nth_set _ _ _ _ (by omega), if_neg (by omega), ih (M + 1) (by omega) (by omega)]
theorem phi_set_in {n : Nat} {ws : List Int} {j : Nat} {v : Int} : ∀ k M, M + k ≤ ws.length → M ≤ j → j < M + k → phi n (ws.set j v) M k = phi n ws M k + (v - nth ws j) * wt n j := by
  intro k
  induction k with
  | zero => intro M _ _ _; omega
  | succ k ih =>
    intro M h1 h2 h3
    simp only [phi]
    rw [nth_set _ _ _ _ (by omega)]
    by_cases hj : j = M
    · subst hj
      rw [if_pos rfl, phi_set_out k (j + 1) (by omega) (by omega), Int.sub_mul]; omega
    · rw [if_neg hj, ih (M + 1) (by omega) (by omega) (by omega)]; omega
theorem phi_nonneg {n : Nat} {ws : List Int} (h : ∀ i, i < ws.length → 0 ≤ nth ws i) : ∀ k M, M + k ≤ ws.length → 0 ≤ phi n ws M k := by
  intro k
  induction k with
  | zero => intro M _; exact Int.le_refl _
  | succ k ih =>
    intro M hM
    simp only [phi]
    have h1 := ih (M + 1) (by omega)
    have h2 : 0 ≤ nth ws M * (wt n M : Int) := Int.mul_nonneg (h M (by omega)) (by omega)
    omega
theorem phi_mem {n : Nat} {ws : List Int} (h : ∀ i, i < ws.length → 0 ≤ nth ws i) : ∀ k M j, M + k ≤ ws.length → M ≤ j → j < M + k → nth ws j ≤ phi n ws M k := by
  intro k
  induction k with
  | zero => intro M j _ _ _; omega
  | succ k ih =>
    intro M j h1 h2 h3
    simp only [phi]
    have hw := wt_pos n M
    have h0 := h M (by omega)
    have hp := phi_nonneg (n := n) h k (M + 1) (by omega)
    have hm : nth ws M * 1 ≤ nth ws M * (wt n M : Int) := Int.mul_le_mul_of_nonneg_left (by omega) h0
    by_cases hj : j = M
    · subst hj; omega
    · have := ih (M + 1) j (by omega) (by omega) (by omega); omega

section
variable {n : Nat} {f : Nat → Nat → Bool}
/-- whether x may come behind the elements of m -/
noncomputable def freeB (n : Nat) (f : Nat → Nat → Bool) (m x : Nat) : Bool := decide (bitB m x = false ∧ ∀ y, y < n → y ≠ x → f y x = true → bitB m y = true)
noncomputable def addx (n : Nat) (f : Nat → Nat → Bool) (m x : Nat) (ws : List Int) : List Int := if ¬ nth ws m = 0 ∧ freeB n f m x = true then ws.set (add1 m x) (nth ws (add1 m x) + nth ws m) else ws
noncomputable def inn (n : Nat) (f : Nat → Nat → Bool) (m : Nat) (ws : List Int) : Nat → List Int
  | 0 => ws
  | x + 1 => addx n f m x (inn n f m ws x)
noncomputable def outw (n : Nat) (f : Nat → Nat → Bool) : Nat → List Int
  | 0 => (List.replicate (2 ^ n) (0 : Int)).set 0 1
  | m + 1 => inn n f m (outw n f m) n
theorem freeB_bit {m x : Nat} (h : freeB n f m x = true) : bitB m x = false := (of_decide_eq_true h).1
theorem addx_len (m x : Nat) (ws : List Int) : (addx n f m x ws).length = ws.length := by
  unfold addx; split <;> simp
theorem inn_len (m : Nat) (ws : List Int) : ∀ x, (inn n f m ws x).length = ws.length := by
  intro x
  induction x with
  | zero => rfl
  | succ x ih => simp only [inn]; rw [addx_len, ih]
theorem inn_at (m : Nat) (ws : List Int) (hm : m < ws.length) : ∀ x, nth (inn n f m ws x) m = nth ws m := by
  intro x
  induction x with
  | zero => rfl
  | succ x ih =>
    simp only [inn]
    unfold addx
    split
    · rename_i hc
      have := add1_gt (freeB_bit hc.2)
      rw [nth_set _ _ _ _ (by rw [inn_len]; exact hm), if_neg (by omega)]; exact ih
    · exact ih
theorem inn_zero (m : Nat) (ws : List Int) (_hm : m < ws.length) (h0 : nth ws m = 0) : ∀ x, inn n f m ws x = ws := by
  intro x
  induction x with
  | zero => rfl
  | succ x ih =>
    simp only [inn]
    rw [ih]
    unfold addx
    rw [if_neg (fun hc => hc.1 h0)]

/-- what holds of the table before the m-th set -/
structure okW (n m : Nat) (ws : List Int) : Prop where
  len : ws.length = 2 ^ n
  pos : ∀ i, i < ws.length → 0 ≤ nth ws i
  sum : phi n ws m (2 ^ n - m) ≤ 10000000000
theorem inn_ok (h10 : n ≤ 10) {m : Nat} (hm : m < 2 ^ n) {ws : List Int} (h : okW n m ws) : ∀ x, x ≤ n → (inn n f m ws x).length = 2 ^ n ∧ (∀ i, i < (inn n f m ws x).length → 0 ≤ nth (inn n f m ws x) i) ∧
    phi n (inn n f m ws x) (m + 1) (2 ^ n - m - 1) + (10 - x : Int) * (nth ws m * ((wt n m / 10 : Nat) : Int)) ≤ 10000000000 := by
  have hlen := h.len
  have hsum := h.sum
  have h0 := h.pos m (by omega)
  have hms : 2 ^ n - m = (2 ^ n - m - 1) + 1 := by omega
  rw [hms] at hsum
  simp only [phi] at hsum
  intro x
  induction x with
  | zero =>
    intro _
    refine ⟨hlen, h.pos, ?_⟩
    show phi n ws (m + 1) (2 ^ n - m - 1) + (10 - ((0 : Nat) : Int)) * (nth ws m * ((wt n m / 10 : Nat) : Int)) ≤ 10000000000
    have h1 : nth ws m * ((10 * (wt n m / 10) : Nat) : Int) ≤ nth ws m * (wt n m : Int) := Int.mul_le_mul_of_nonneg_left (by have := Nat.mul_div_le (wt n m) 10; omega) h0
    rw [Int.natCast_mul, Int.mul_left_comm] at h1
    simp only [Int.natCast_zero, Int.sub_zero]
    have h2 : ((10 : Nat) : Int) = 10 := rfl
    rw [h2] at h1
    omega
  | succ x ih =>
    intro hx
    obtain ⟨i1, i2, i3⟩ := ih (by omega)
    have hat := inn_at (n := n) (f := f) m ws (by omega) x
    have hb : 0 ≤ nth ws m * ((wt n m / 10 : Nat) : Int) := Int.mul_nonneg h0 (by omega)
    have hsplit : (10 - (x : Int)) * (nth ws m * ((wt n m / 10 : Nat) : Int)) = (10 - ((x + 1 : Nat) : Int)) * (nth ws m * ((wt n m / 10 : Nat) : Int)) + nth ws m * ((wt n m / 10 : Nat) : Int) := by
      rw [show (10 - (x : Int)) = (10 - ((x + 1 : Nat) : Int)) + 1 by omega, Int.add_mul, Int.one_mul]
    rw [hsplit] at i3
    simp only [inn]
    unfold addx
    split
    · rename_i hc
      have hbit := freeB_bit hc.2
      have hgt := add1_gt hbit
      have hlt := add1_lt hm (show x < n by omega)
      have hw := wt_add h10 (show x < n by omega) hbit
      have hdiv : wt n m / 10 = wt n (add1 m x) := by omega
      refine ⟨by rw [List.length_set]; exact i1, fun i hi => ?_, ?_⟩
      · rw [List.length_set] at hi
        rw [nth_set _ _ _ _ hi]
        split
        · have := i2 (add1 m x) (by omega)
          rw [hat]; omega
        · exact i2 i hi
      · have e : nth (inn n f m ws x) (add1 m x) + nth ws m - nth (inn n f m ws x) (add1 m x) = nth ws m := by omega
        rw [phi_set_in _ _ (by omega) (by omega) (by omega), hat, e, ← hdiv]
        omega
    · exact ⟨i1, i2, by omega⟩
theorem out_ok (h10 : n ≤ 10) : ∀ m, m ≤ 2 ^ n → okW n m (outw n f m) := by
  intro m
  induction m with
  | zero =>
    intro _
    have hpos : 0 < 2 ^ n := Nat.pow_pos (by omega)
    have hl : (outw n f 0).length = 2 ^ n := by simp [outw]
    have hz : ∀ i, i < 2 ^ n → nth (outw n f 0) i = if 0 = i then 1 else 0 := fun i hi => by
      simp only [outw]
      rw [nth_set _ _ _ _ (by simpa using hi), nth_replicate _ hi]
    refine ⟨hl, fun i hi => ?_, ?_⟩
    · rw [hz i (by omega)]; split <;> omega
    · have hrest : ∀ k M, 0 < M → M + k ≤ 2 ^ n → phi n (outw n f 0) M k = 0 := by
        intro k
        induction k with
        | zero => intro M _ _; rfl
        | succ k ih =>
          intro M h1 h2
          simp only [phi]
          rw [hz M (by omega), if_neg (by omega), ih (M + 1) (by omega) (by omega)]; simp
      rw [show 2 ^ n - 0 = (2 ^ n - 1) + 1 by omega]
      simp only [phi]
      rw [hz 0 hpos, if_pos rfl, hrest _ 1 (by omega) (by omega)]
      have : wt n 0 ≤ 10 ^ 10 := Nat.pow_le_pow_right (by omega) (by omega)
      omega
  | succ m ih =>
    intro hm
    have h := ih (by omega)
    obtain ⟨i1, i2, i3⟩ := inn_ok (f := f) h10 (show m < 2 ^ n by omega) h n (Nat.le_refl _)
    refine ⟨i1, i2, ?_⟩
    have hb : 0 ≤ nth (outw n f m) m * ((wt n m / 10 : Nat) : Int) := Int.mul_nonneg (h.pos m (by rw [h.len]; omega)) (by omega)
    have hc : 0 ≤ (10 - (n : Int)) * (nth (outw n f m) m * ((wt n m / 10 : Nat) : Int)) := Int.mul_nonneg (by omega) hb
    have : 2 ^ n - (m + 1) = 2 ^ n - m - 1 := by omega
    rw [this]
    show phi n (inn n f m (outw n f m) n) (m + 1) (2 ^ n - m - 1) ≤ 10000000000
    omega
/-- no sum is too large -/
theorem sum_ok (h10 : n ≤ 10) {m x : Nat} (hm : m < 2 ^ n) (hx : x < n) (hf : freeB n f m x = true) :
    add1 m x < (inn n f m (outw n f m) x).length ∧ m < (inn n f m (outw n f m) x).length ∧ nth (inn n f m (outw n f m) x) m = nth (outw n f m) m ∧ 0 ≤ nth (inn n f m (outw n f m) x) (add1 m x) + nth (outw n f m) m ∧ nth (inn n f m (outw n f m) x) (add1 m x) + nth (outw n f m) m ≤ 20000000000 := by
  have h := out_ok (f := f) h10 m (by omega)
  obtain ⟨i1, i2, i3⟩ := inn_ok (f := f) h10 hm h x (by omega)
  have hgt := add1_gt (freeB_bit hf)
  have hlt := add1_lt hm hx
  have h0 := h.pos m (by rw [h.len]; omega)
  have hb : 0 ≤ nth (outw n f m) m * ((wt n m / 10 : Nat) : Int) := Int.mul_nonneg h0 (by omega)
  have hc : 0 ≤ (10 - (x : Int)) * (nth (outw n f m) m * ((wt n m / 10 : Nat) : Int)) := Int.mul_nonneg (by omega) hb
  have h1 := phi_mem (n := n) i2 (2 ^ n - m - 1) (m + 1) (add1 m x) (by omega) (by omega) (by omega)
  have h2 := phi_mem (n := n) h.pos (2 ^ n - m) m m (by rw [h.len]; omega) (Nat.le_refl _) (by omega)
  have h3 := h.sum
  have h4 := i2 (add1 m x) (by omega)
  exact ⟨by omega, by omega, inn_at m _ (by rw [h.len]; exact hm) x, by omega, by omega⟩
end

section
variable {p : SPoset}
theorem F_specFree (hs : small p) (hg : good p.Below) {m x : Nat} (hm : m < 2 ^ p.Below.length) (hx : x < p.Below.length) (ws : List Int) :
    loopO (F_spec_CountExtensions_l1 p (m : Int) (x : Int) ws) (0, andI (shrI (m : Int) (x : Int)) 1 == 0) = some (freeB p.Below.length (below p.Below) m x) := by
  have h10 : p.Below.length ≤ 10 := hg.1
  have hrow := (good_row hg x hx).2
  have hlen := hs.2 _ (nth_mem hx)
  rw [lim_def] at hlen
  let acc : Nat → Prop := fun k => bitB m x = false ∧ ∀ y ∈ (nth p.Below x).take k, y = (x : Int) ∨ bitB m y.toNat = true
  have e0 : (andI (shrI (m : Int) (x : Int)) 1 == 0) = decide (acc 0) := by
    rw [and_shr (by omega) hm (by omega)]
    by_cases h : bitB m x = true
    · rw [if_pos h]
      exact (decide_eq_false (fun hc : acc 0 => by have := hc.1; rw [h] at this; cases this)).symm
    · rw [if_neg h]
      exact (decide_eq_true (show acc 0 from ⟨by simpa using h, fun y hy => by simp at hy⟩)).symm
  rw [e0, show ((0 : Int)) = (((0 : Nat)) : Int) from rfl]
  have hend : freeB p.Below.length (below p.Below) m x = decide (acc (nth p.Below x).length) := by
    unfold freeB
    rw [decide_eq_decide]
    simp only [acc, List.take_length]
    constructor
    · rintro ⟨h1, h2⟩
      refine ⟨h1, fun y hy => ?_⟩
      have := hrow y hy
      by_cases hyx : y = (x : Int)
      · exact .inl hyx
      · exact .inr (h2 y.toNat (by omega) (by omega) ((mem_below _ _).1 (by rw [show ((y.toNat : Nat) : Int) = y by omega]; exact hy)))
    · rintro ⟨h1, h2⟩
      refine ⟨h1, fun y hy hyx hf => ?_⟩
      rcases h2 (y : Int) ((mem_below _ _).2 hf) with h | h
      · omega
      · simpa using h
  have hmono : ∀ k k', k ≤ k' → acc k' → acc k := fun k k' hk hc => ⟨hc.1, fun y hy => hc.2 y (by
    have e : (nth p.Below x).take k = ((nth p.Below x).take k').take k := by rw [List.take_take, Nat.min_eq_left hk]
    rw [e] at hy
    exact List.mem_of_mem_take hy)⟩
  rcases loop_pick (body := F_spec_CountExtensions_l1 p (m : Int) (x : Int) ws) (fun k => ((k : Int), decide (acc k))) (nth p.Below x).length (fun k => ¬ acc k) (fun _ => false) (decide (acc (nth p.Below x).length)) (fun k hk hh => by
      have ha : acc k := Classical.not_not.1 hh
      unfold F_spec_CountExtensions_l1
      dsimp only
      have hyr := hrow _ (nth_mem hk)
      rw [ask_pos (by omega), Int.toNat_natCast, Int.toNat_natCast, if_pos (by omega), decide_eq_true ha, if_pos rfl]
      simp only [Option.bind_some]
      rw [ask_pos (by omega), ask_pos (by omega)]
      have hst : acc (k + 1) ↔ (nth (nth p.Below x) k = (x : Int) ∨ bitB m (nth (nth p.Below x) k).toNat = true) := by
        constructor
        · intro hc; exact ((take_all (P := fun y => y = (x : Int) ∨ bitB m y.toNat = true) hk).1 hc.2).2
        · intro hc; exact ⟨ha.1, (take_all (P := fun y => y = (x : Int) ∨ bitB m y.toNat = true) hk).2 ⟨ha.2, hc⟩⟩
      by_cases hyx : nth (nth p.Below x) k = (x : Int)
      · rw [if_pos hyx, ask_pos (by unfold InI; omega), decide_eq_true (hst.2 (.inl hyx))]; rfl
      · rw [if_neg hyx, ask_pos (by omega), ask_pos (by omega), ask_pos (by omega), ask_pos (by unfold InI; omega)]
        have hc : nth (nth p.Below x) k = (((nth (nth p.Below x) k).toNat : Nat) : Int) := by omega
        have ha2 := and_shr (m := m) (i := (nth (nth p.Below x) k).toNat) (n := p.Below.length) (by omega) hm (by omega)
        rw [← hc] at ha2
        rw [ha2, decide_eq_decide.2 hst]
        by_cases hbb : bitB m (nth (nth p.Below x) k).toNat = true
        · rw [if_pos hbb, decide_eq_true (Or.inr hbb)]; rfl
        · rw [if_neg hbb, decide_eq_false (fun hc2 => Or.elim hc2 hyx hbb)]; rfl) (fun k hk hh => by
      unfold F_spec_CountExtensions_l1
      dsimp only
      rw [ask_pos (by omega), Int.toNat_natCast, if_pos (by omega), decide_eq_false hh, if_neg (by simp)]
      rfl) (by
      unfold F_spec_CountExtensions_l1
      dsimp only
      rw [ask_pos (by omega), Int.toNat_natCast, if_neg (by omega)]
      rfl) with ⟨k, hk, hh, _, e⟩ | ⟨hn, e⟩
  · rw [e, hend, decide_eq_false (fun hc => hh (hmono k _ (by omega) hc))]
  · rw [e, hend]

theorem F_specInner (hs : small p) (hg : good p.Below) {m : Nat} (hm : m < 2 ^ p.Below.length) :
    loopO (F_spec_CountExtensions_l2 p (m : Int)) (0, outw p.Below.length (below p.Below) m) = some (inn p.Below.length (below p.Below) m (outw p.Below.length (below p.Below) m) p.Below.length) := by
  have h10 : p.Below.length ≤ 10 := hg.1
  have hok := out_ok (f := below p.Below) h10 m (by omega)
  have hlen := hok.len
  have hpw := pow_20 (show p.Below.length ≤ 20 by omega)
  have e0 : ((0 : Int), outw p.Below.length (below p.Below) m) = (((0 : Nat) : Int), inn p.Below.length (below p.Below) m (outw p.Below.length (below p.Below) m) 0) := rfl
  rw [e0]
  by_cases hz : nth (outw p.Below.length (below p.Below) m) m = 0
  · rw [inn_zero m _ (by omega) hz, inn_zero m _ (by omega) hz]
    refine loopO_stop ?_
    unfold F_spec_CountExtensions_l2
    dsimp only
    by_cases hn : p.Below.length = 0
    · rw [if_neg (by omega)]; rfl
    · rw [if_pos (by omega), ask_pos (by omega), Int.toNat_natCast, hz, if_neg (by omega)]; rfl
  · have hpos := hok.pos m (by omega)
    refine loop_seq (body := F_spec_CountExtensions_l2 p (m : Int)) (fun x => ((x : Int), inn p.Below.length (below p.Below) m (outw p.Below.length (below p.Below) m) x)) p.Below.length _ (fun x hx => ?_) ?_
    · unfold F_spec_CountExtensions_l2
      dsimp only
      have hil := inn_len (n := p.Below.length) (f := below p.Below) m (outw p.Below.length (below p.Below) m) x
      have hia := inn_at (n := p.Below.length) (f := below p.Below) m (outw p.Below.length (below p.Below) m) (by omega) x
      rw [if_pos (by omega), ask_pos (by omega), Int.toNat_natCast, hia, if_pos (by omega)]
      simp only [Option.bind_some]
      rw [ask_pos (by omega), F_specFree hs hg hm hx]
      simp only [Option.bind_some]
      by_cases hf : freeB p.Below.length (below p.Below) m x = true
      · obtain ⟨s1, s2, s3, s4, s5⟩ := sum_ok h10 hm hx hf
        rw [if_pos hf, or_shl (by omega) hm hx, Int.toNat_natCast]
        rw [ask_pos (by omega), ask_pos (by omega), ask_pos (by omega), ask_pos (by omega), ask_pos (by unfold InI; omega), ask_pos (by omega), ask_pos (by unfold InI; omega)]
        simp only [inn]
        unfold addx
        rw [hia, if_pos ⟨hz, hf⟩]
        rfl
      · rw [if_neg hf, ask_pos (by unfold InI; omega)]
        simp only [inn]
        unfold addx
        rw [if_neg (fun hc => hf hc.2)]
        rfl
    · unfold F_spec_CountExtensions_l2
      dsimp only
      rw [if_neg (by omega)]; rfl

theorem F_implInner (hg : good p.Below) {m : Nat} (hm : m < 2 ^ p.Below.length) (b : Bool) :
    loopO (F_impl_CountExtensions_l1 (tab p.Below.length (below p.Below), b) (m : Int) (outw p.Below.length (below p.Below) m)) (0, outw p.Below.length (below p.Below) m) = some (inn p.Below.length (below p.Below) m (outw p.Below.length (below p.Below) m) p.Below.length) := by
  have h10 : p.Below.length ≤ 10 := hg.1
  have hL : p.Below.length ≤ LIM := by rw [lim_def]; omega
  have hok := out_ok (f := below p.Below) h10 m (by omega)
  have hlen := hok.len
  have htl := tab_len p.Below.length (below p.Below)
  have hpw := pow_20 (show p.Below.length ≤ 20 by omega)
  have e0 : ((0 : Int), outw p.Below.length (below p.Below) m) = (((0 : Nat) : Int), inn p.Below.length (below p.Below) m (outw p.Below.length (below p.Below) m) 0) := rfl
  rw [e0]
  refine loop_seq (body := F_impl_CountExtensions_l1 (tab p.Below.length (below p.Below), b) (m : Int) (outw p.Below.length (below p.Below) m)) (fun x => ((x : Int), inn p.Below.length (below p.Below) m (outw p.Below.length (below p.Below) m) x)) p.Below.length _ (fun x hx => ?_) ?_
  · unfold F_impl_CountExtensions_l1
    dsimp only
    have hil := inn_len (n := p.Below.length) (f := below p.Below) m (outw p.Below.length (below p.Below) m) x
    have hia := inn_at (n := p.Below.length) (f := below p.Below) m (outw p.Below.length (below p.Below) m) (by omega) x
    rw [if_pos (by omega), ask_pos (by omega), and_shr (by omega) hm (by omega), Int.toNat_natCast]
    simp only [inn]
    unfold addx
    rw [hia]
    by_cases hb : bitB m x = true
    · rw [hb, if_pos rfl, if_pos rfl]
      simp only [Option.bind_some]
      rw [ask_pos (by unfold InI; omega), if_neg (fun hc => by have := freeB_bit hc.2; rw [hb] at this; cases this)]
      rfl
    · have hb' : bitB m x = false := by simpa using hb
      rw [hb', if_neg (by simp)]
      by_cases hz : nth (outw p.Below.length (below p.Below) m) m = 0
      · rw [if_pos hz]
        simp only [Option.bind_some]
        rw [ask_pos (by unfold InI; omega), if_neg (fun hc => hc.1 hz)]
        rfl
      · rw [if_neg hz]
        simp only [Option.bind_some]
        rw [F_none (n := p.Below.length) (p := fun y => (decide (y ≠ x) && below p.Below y x) && !bitB m y) htl hL (fun y hy => by
          unfold F_impl_CountExtensions_1
          rw [F_less _ _ y x hy hx]
          simp only [Option.bind_some]
          by_cases hl : (decide (y ≠ x) && below p.Below y x) = true
          · rw [if_pos hl, ask_pos (by omega), and_shr (by omega) hm (by omega), hl]
            cases bitB m y <;> simp
          · rw [if_neg hl]
            have : (decide (y ≠ x) && below p.Below y x) = false := by simpa using hl
            rw [this]; rfl)]
        simp only [Option.bind_some]
        have hfr : (∀ i, i < p.Below.length → ((decide (i ≠ x) && below p.Below i x) && !bitB m i) = false) ↔ freeB p.Below.length (below p.Below) m x = true := by
          unfold freeB
          rw [decide_eq_true_eq]
          constructor
          · intro h
            refine ⟨hb', fun y hy hyx hf => ?_⟩
            have := h y hy
            rw [decide_eq_true hyx, hf] at this
            simpa using this
          · rintro ⟨_, h⟩ y hy
            by_cases hyx : y ≠ x
            · cases hf : below p.Below y x
              · simp
              · rw [h y hy hyx hf]; simp
            · simp [hyx]
        by_cases hf : freeB p.Below.length (below p.Below) m x = true
        · obtain ⟨s1, s2, s3, s4, s5⟩ := sum_ok h10 hm hx hf
          rw [decide_eq_true (hfr.2 hf), if_pos rfl, or_shl (by omega) hm hx, Int.toNat_natCast]
          rw [ask_pos (by omega), ask_pos (by omega), ask_pos (by omega), ask_pos (by unfold InI; omega), ask_pos (by omega), ask_pos (by unfold InI; omega), if_pos ⟨hz, hf⟩]
          rfl
        · rw [decide_eq_false (fun hc => hf (hfr.1 hc)), if_neg (by simp), ask_pos (by unfold InI; omega), if_neg (fun hc => hf hc.2)]
          rfl
  · unfold F_impl_CountExtensions_l1
    dsimp only
    rw [if_neg (by omega)]

theorem both_CountExtensions (hs : small p) : ∃ r, F_spec_CountExtensions p = some r ∧ F_impl_CountExtensions p = some r := by
  unfold F_spec_CountExtensions F_impl_CountExtensions
  rw [F_l23Good p hs.1 hs.2]
  simp only [Option.bind_some]
  by_cases hg : good p.Below
  · have h10 : p.Below.length ≤ 10 := hg.1
    have htl := tab_len p.Below.length (below p.Below)
    have hpw := pow_20 (show p.Below.length ≤ 20 by omega)
    have hpos : 0 < 2 ^ p.Below.length := Nat.pow_pos (by omega)
    have hend := (out_ok (f := below p.Below) h10 (2 ^ p.Below.length) (Nat.le_refl _)).len
    rw [order_good p hs.1 hs.2 hg, decide_eq_true hg]
    simp only [Option.bind_some, if_true, htl, shl_one (show p.Below.length ≤ 20 by omega), Int.toNat_natCast]
    have k1 : loopO (F_spec_CountExtensions_l3 p) (0, (List.replicate (2 ^ p.Below.length) (0 : Int)).set (Int.toNat 0) 1) = some (outw p.Below.length (below p.Below) (2 ^ p.Below.length)) :=
      loop_seq (body := F_spec_CountExtensions_l3 p) (fun m => ((m : Int), outw p.Below.length (below p.Below) m)) (2 ^ p.Below.length) _ (fun m hm => by
        unfold F_spec_CountExtensions_l3
        dsimp only
        rw [ask_pos (by omega), shl_one (by omega), if_pos (by omega), F_specInner hs hg hm]
        simp only [Option.bind_some]
        rw [ask_pos (by unfold InI; omega)]; rfl) (by
        unfold F_spec_CountExtensions_l3
        dsimp only
        rw [ask_pos (by omega), shl_one (by omega), if_neg (by omega)])
    have k2 : loopO (F_impl_CountExtensions_l2 (tab p.Below.length (below p.Below), true)) (0, (List.replicate (2 ^ p.Below.length) (0 : Int)).set (Int.toNat 0) 1) = some (outw p.Below.length (below p.Below) (2 ^ p.Below.length)) :=
      loop_seq (body := F_impl_CountExtensions_l2 (tab p.Below.length (below p.Below), true)) (fun m => ((m : Int), outw p.Below.length (below p.Below) m)) (2 ^ p.Below.length) _ (fun m hm => by
        unfold F_impl_CountExtensions_l2
        dsimp only
        have hl := (out_ok (f := below p.Below) h10 m (by omega)).len
        rw [htl, shl_one (by omega), Int.toNat_natCast, List.length_set, List.length_replicate, if_pos (by omega), ask_pos (by omega), F_implInner hg hm true]
        simp only [Option.bind_some]
        rw [ask_pos (by unfold InI; omega)]; rfl) (by
        unfold F_impl_CountExtensions_l2
        dsimp only
        rw [htl, shl_one (by omega), Int.toNat_natCast, List.length_set, List.length_replicate, if_neg (by omega)])
    rw [k1, k2]
    simp only [Option.bind_some, hend]
    generalize 2 ^ p.Below.length = N at *
    repeat rw [ask_pos (by first | omega | (rw [lim_def]; omega) | (unfold InI; omega))]
    exact ⟨_, rfl, rfl⟩
  · obtain ⟨o, e⟩ := order_bad p hs.1 hs.2 hg
    rw [e, decide_eq_false hg]
    exact ⟨(0, false), by simp, by simp⟩
end

end Go.Proofs.Ythcnmahjhahafaa.Ax
