/-
  The poset upside down; MaximalElements and DownsetOf: what the program and the reference compute.
-/
import Derived.Test.YtoikbcagaanhgaaP6
namespace Go.Proofs.Ytoikbcagaanhgaa.Ax
open Go Classical
theorem InI_def (n : Int) : InI n ↔ -9223372036854775808 ≤ n ∧ n ≤ 9223372036854775807 := Iff.rfl
section
variable {p : SPoset}
noncomputable def dualP (p : SPoset) : SPoset := ⟨(List.range p.Below.length).map fun x => sieve p.Below.length fun y => below p.Below x y⟩
theorem dual_len : (dualP p).Below.length = p.Below.length := by simp [dualP]
theorem dual_row {x : Nat} (hx : x < p.Below.length) : nth (dualP p).Below x = sieve p.Below.length fun y => below p.Below x y := by
  unfold dualP
  dsimp only
  rw [nth_map' _ (by simpa using hx), nth_range hx]
theorem below_dual {x y : Nat} (hx : x < p.Below.length) (hy : y < p.Below.length) : below (dualP p).Below y x = below p.Below x y := by
  rw [Bool.eq_iff_iff]
  rw [show (below (dualP p).Below y x = true ↔ (y : Int) ∈ nth (dualP p).Below x) from by simp [below], dual_row hx, mem_sieve]
  constructor
  · rintro ⟨i, _, h, e⟩
    have : i = y := by omega
    subst this; exact h
  · intro h; exact ⟨y, hy, h, rfl⟩
theorem small_dual (hs : small p) : small (dualP p) := by
  refine ⟨by rw [dual_len]; exact hs.1, fun r hr => ?_⟩
  obtain ⟨i, hi, rfl⟩ := mem_nth.1 hr
  rw [dual_len] at hi
  rw [dual_row hi]
  exact Nat.le_trans (sieve_len _ _) hs.1
theorem good_dual (hg : good p.Below) : good (dualP p).Below := by
  have hp := (good_iff _).2 hg
  refine (good_iff _).1 ⟨⟨by rw [dual_len]; exact hp.1.1, fun r hr => ?_⟩, fun x hx => ?_⟩
  · obtain ⟨i, hi, rfl⟩ := mem_nth.1 hr
    rw [dual_len] at hi ⊢
    rw [dual_row hi]
    refine ⟨sieve_rises _ _, fun z hz => ?_⟩
    obtain ⟨k, hk, _, rfl⟩ := mem_sieve.1 hz
    omega
  · rw [dual_len] at hx
    refine ⟨by rw [below_dual hx hx]; exact good_refl hg x hx, fun y hy => ?_⟩
    rw [dual_len] at hy
    refine ⟨?_, fun z hz => ?_⟩
    · rw [below_dual hx hy, below_dual hy hx]
      rintro ⟨h1, h2, h3⟩
      exact h1 (good_anti hg x y hx hy h3 h2)
    · rw [dual_len] at hz
      rw [below_dual hy hx, below_dual hz hy, below_dual hz hx]
      intro h1 h2
      exact good_trans hg z y x hz hy hx h2 h1
theorem F_l23Dual (hs : small p) : F_spec_l23Dual p = some (dualP p) := by
  have h0 := hs.1
  rw [lim_def] at h0
  unfold F_spec_l23Dual
  have := loop_seq (body := F_spec_l23Dual_l2 p) (fun i => ((i : Int), (⟨(List.range i).map fun x => sieve p.Below.length fun y => below p.Below x y⟩ : SPoset))) p.Below.length (dualP p) (fun i hi => by
    unfold F_spec_l23Dual_l2
    have e := loop_sieve (body := F_spec_l23Dual_l1 p (i : Int) ⟨(List.range i).map fun x => sieve p.Below.length fun y => below p.Below x y⟩) p.Below.length (fun y => below p.Below i y) (fun j acc hj ha => by
      unfold F_spec_l23Dual_l1
      by_cases hb : below p.Below i j = true <;> simp (disch := omega) only [ask_pos, if_pos, if_true, if_false, InI_def, lim_def, List.length_cons, List.length_nil, Int.natCast_add, Int.natCast_one, Option.bind_some, Bool.false_eq_true, F_l23Leq hs i j hj, hb] <;> rfl) (fun acc => by
      unfold F_spec_l23Dual_l1
      simp (disch := omega) only [ask_pos, if_pos, if_neg, InI_def, lim_def, List.length_cons, List.length_nil])
    simp (disch := omega) only [ask_pos, if_pos, InI_def, lim_def, List.length_cons, List.length_nil, Int.natCast_add, Int.natCast_one, Option.bind_some, e, List.length_map, List.length_range, List.range_succ, List.map_append, List.map_cons, List.map_nil]) (by
    unfold F_spec_l23Dual_l2
    simp (disch := omega) only [ask_pos, if_neg, InI_def, lim_def, List.length_cons, List.length_nil]
    rfl)
  have e0 : (((0 : Nat) : Int), (⟨(List.range 0).map fun x => sieve p.Below.length fun y => below p.Below x y⟩ : SPoset)) = (0, { Below := nilL (List Int) }) := rfl
  simp only [e0] at this
  rw [this]
  rfl
end
def btab (n : Nat) (f : Nat → Bool) : List Bool := (List.range n).map f
theorem btab_len (n : Nat) (f : Nat → Bool) : (btab n f).length = n := by simp [btab]
theorem btab_at {n : Nat} {f : Nat → Bool} {i : Nat} (h : i < n) : nth (btab n f) i = f i := by
  unfold btab; rw [nth_map' _ (by simpa using h), nth_range h]
theorem btab_set {n : Nat} {f : Nat → Bool} {i : Nat} {v : Bool} (_h : i < n) : (btab n f).set i v = btab n fun j => if j = i then v else f j := by
  refine nth_ext (by simp [btab]) fun j hj => ?_
  have hj' : j < n := by simpa [btab] using hj
  rw [nth_set _ _ _ _ (by rw [btab_len]; exact hj'), btab_at hj', btab_at hj']
  by_cases e : i = j
  · rw [if_pos e, if_pos e.symm]
  · rw [if_neg e, if_neg (Ne.symm e)]
theorem btab_congr {n : Nat} {f g : Nat → Bool} (h : ∀ i, i < n → f i = g i) : btab n f = btab n g := List.map_congr_left fun i hi => h i (List.mem_range.1 hi)
theorem btab_false (n : Nat) : List.replicate n false = btab n fun _ => false := by
  refine nth_ext (by simp [btab]) fun j hj => ?_
  have hj' : j < n := by simpa using hj
  rw [btab_at hj', nth_replicate _ hj']
theorem F_l2Elements (n : Nat) (xs : List Int) (h : xs.length ≤ LIM) (hn : n ≤ LIM) : F_spec_l2Elements n xs = some (decide (inSize xs n)) := by
  unfold F_spec_l2Elements
  rw [lim_def] at h hn
  have e := loop_find (body := F_spec_l2Elements_l1 n xs) (fun i => (i : Int)) xs.length (fun i => ¬ (0 ≤ nth xs i ∧ nth xs i < n)) () () (fun i hi hb => by
    have hc : 0 ≤ nth xs i ∧ nth xs i ≤ n - 1 := by have := Classical.not_not.1 hb; omega
    unfold F_spec_l2Elements_l1
    simp (disch := omega) only [ask_pos, if_pos, if_true, InI_def, Int.toNat_natCast, Int.natCast_add, Int.natCast_one, Option.bind_some, F_l1In, hc, and_self, decide_true]) (fun i hi hb => by
    have hc : ¬ (0 ≤ nth xs i ∧ nth xs i ≤ n - 1) := fun hh => hb (by omega)
    unfold F_spec_l2Elements_l1
    simp (disch := omega) only [ask_pos, if_pos, if_false, InI_def, Int.toNat_natCast, Option.bind_some, Bool.false_eq_true, F_l1In, hc, decide_false]) (by
    unfold F_spec_l2Elements_l1
    simp (disch := omega) only [ask_pos, if_pos, if_neg, InI_def, Int.toNat_natCast]) 0 (Nat.zero_le _)
  refine (find_bool e false true).trans ?_
  congr 1
  refine dec_not ?_
  rw [find_all]
  constructor
  · intro hh x hx
    obtain ⟨i, hi, rfl⟩ := mem_nth.1 hx
    exact hh i hi
  · intro hh i hi
    exact hh _ (nth_mem hi)
end Go.Proofs.Ytoikbcagaanhgaa.Ax
