/-
  Products and stacks of lattices are lattices; their ends, atoms and join irreducibles.
-/
import Derived.Test.YtoikbcagaanhgaaP26
import Derived.Test.YtoikbcagaanhgaaP33
namespace Go.Proofs.Ytoikbcagaanhgaa.Ax
open Go Classical
section
variable {n m : Nat} {f g : Nat → Nat → Bool}
theorem ord_prod (hf : Ord n f) (hg : Ord m g) : Ord (n * m) (prodF f g m) := by
  refine ⟨fun x hx => ?_, fun x y hx hy h1 h2 => ?_, fun x y z hx hy hz h1 h2 => ?_⟩
  · obtain ⟨a, b, ha, hb, rfl⟩ := pair_of hx
    rw [prodF_at hb hb, hf.refl a ha, hg.refl b hb]; rfl
  · obtain ⟨a, b, ha, hb, rfl⟩ := pair_of hx
    obtain ⟨c, d, hc, hd, rfl⟩ := pair_of hy
    rw [prodF_at hb hd, Bool.and_eq_true] at h1
    rw [prodF_at hd hb, Bool.and_eq_true] at h2
    rw [hf.anti a c ha hc h1.1 h2.1, hg.anti b d hb hd h1.2 h2.2]
  · obtain ⟨a, b, ha, hb, rfl⟩ := pair_of hx
    obtain ⟨c, d, hc, hd, rfl⟩ := pair_of hy
    obtain ⟨e, k, he, hk, rfl⟩ := pair_of hz
    rw [prodF_at hb hd, Bool.and_eq_true] at h1
    rw [prodF_at hd hk, Bool.and_eq_true] at h2
    rw [prodF_at hb hk, hf.trans a c e ha hc he h1.1 h2.1, hg.trans b d k hb hd hk h1.2 h2.2]; rfl
theorem meets_of {N : Nat} {F : Nat → Nat → Bool} (ho : Ord N F) (w : Nat → Nat → Nat) (h : ∀ x y, x < N → y < N → w x y < N ∧ F (w x y) x = true ∧ F (w x y) y = true ∧ ∀ z, z < N → F z x = true → F z y = true → F z (w x y) = true) : meets N F := by
  intro x y hx hy
  obtain ⟨h1, h2, h3, h4⟩ := h x y hx hy
  have : isBnd N F (lo2 F x y) (w x y) := ⟨h1, by unfold lo2; rw [h2, h3]; rfl, fun z hz hl => by
    unfold lo2 at hl
    rw [Bool.and_eq_true] at hl
    exact h4 z hz hl.1 hl.2⟩
  rw [bnd_eq ho this]; omega
theorem meets_prod (hf : Ord n f) (hg : Ord m g) (mf : meets n f) (mg : meets m g) : meets (n * m) (prodF f g m) := by
  refine meets_of (ord_prod hf hg) (fun x y => inf n f (x / m) (y / m) * m + inf m g (x % m) (y % m)) fun x y hx hy => ?_
  obtain ⟨a, b, ha, hb, rfl⟩ := pair_of hx
  obtain ⟨c, d, hc, hd, rfl⟩ := pair_of hy
  rw [(prod_at hb).1, (prod_at hb).2, (prod_at hd).1, (prod_at hd).2]
  have i1 := inf_lt mf ha hc
  have i2 := inf_lt mg hb hd
  refine ⟨pair_lt i1 i2, ?_, ?_, fun z hz h1 h2 => ?_⟩
  · rw [prodF_at i2 hb, inf_left mf ha hc, inf_left mg hb hd]; rfl
  · rw [prodF_at i2 hd, inf_right mf ha hc, inf_right mg hb hd]; rfl
  · obtain ⟨e, k, he, hk, rfl⟩ := pair_of hz
    rw [prodF_at hk hb, Bool.and_eq_true] at h1
    rw [prodF_at hk hd, Bool.and_eq_true] at h2
    rw [prodF_at hk i2, inf_max mf ha hc he h1.1 h2.1, inf_max mg hb hd hk h1.2 h2.2]; rfl
theorem opp_prod (f g : Nat → Nat → Bool) (m : Nat) : opp (prodF f g m) = prodF (opp f) (opp g) m := rfl
theorem ord_stack (hf : Ord n f) (hg : Ord m g) : Ord (n + m) (stackF f g n) := by
  refine ⟨fun x hx => ?_, fun x y hx hy h1 h2 => ?_, fun x y z hx hy hz h1 h2 => ?_⟩
  · unfold stackF
    by_cases h : x < n
    · rw [if_pos h, if_pos h]; exact hf.refl x h
    · rw [if_neg h, if_neg h]; exact hg.refl _ (by omega)
  · unfold stackF at h1 h2
    by_cases h : x < n
    · by_cases k : y < n
      · rw [if_pos h, if_pos k] at h1
        rw [if_pos k, if_pos h] at h2
        exact hf.anti x y h k h1 h2
      · rw [if_neg k, if_pos h] at h2; cases h2
    · by_cases k : y < n
      · rw [if_neg h, if_pos k] at h1; cases h1
      · rw [if_neg h, if_neg k] at h1
        rw [if_neg k, if_neg h] at h2
        have := hg.anti (x - n) (y - n) (by omega) (by omega) h1 h2
        omega
  · unfold stackF at h1 h2 ⊢
    by_cases h : x < n
    · rw [if_pos h] at h1 ⊢
      by_cases k : z < n
      · rw [if_pos k]
        by_cases l : y < n
        · rw [if_pos l] at h1 h2
          rw [if_pos k] at h2
          exact hf.trans x y z h l k h1 h2
        · rw [if_neg l, if_pos k] at h2; cases h2
      · rw [if_neg k]
    · rw [if_neg h] at h1 ⊢
      by_cases l : y < n
      · rw [if_pos l] at h1; cases h1
      · rw [if_neg l] at h1 h2
        by_cases k : z < n
        · rw [if_pos k] at h2; cases h2
        · rw [if_neg k] at h2 ⊢
          exact hg.trans (x - n) (y - n) (z - n) (by omega) (by omega) (by omega) h1 h2
theorem stack_ll {x y : Nat} (hx : x < n) (hy : y < n) : stackF f g n x y = f x y := by unfold stackF; rw [if_pos hx, if_pos hy]
theorem stack_lh {x y : Nat} (hx : x < n) (hy : ¬ y < n) : stackF f g n x y = true := by unfold stackF; rw [if_pos hx, if_neg hy]
theorem stack_hl {x y : Nat} (hx : ¬ x < n) (hy : y < n) : stackF f g n x y = false := by unfold stackF; rw [if_neg hx, if_pos hy]
theorem stack_hh {x y : Nat} (hx : ¬ x < n) (hy : ¬ y < n) : stackF f g n x y = g (x - n) (y - n) := by unfold stackF; rw [if_neg hx, if_neg hy]
theorem meets_stack (hf : Ord n f) (hg : Ord m g) (mf : meets n f) (mg : meets m g) : meets (n + m) (stackF f g n) := by
  refine meets_of (ord_stack hf hg) (fun x y => if x < n then (if y < n then inf n f x y else x) else if y < n then y else n + inf m g (x - n) (y - n)) fun x y hx hy => ?_
  by_cases h : x < n
  · simp only [if_pos h]
    by_cases k : y < n
    · simp only [if_pos k]
      have i1 := inf_lt mf h k
      refine ⟨by omega, by rw [stack_ll i1 h]; exact inf_left mf h k, by rw [stack_ll i1 k]; exact inf_right mf h k, fun z hz h1 h2 => ?_⟩
      by_cases l : z < n
      · rw [stack_ll l h] at h1
        rw [stack_ll l k] at h2
        rw [stack_ll l i1]; exact inf_max mf h k l h1 h2
      · rw [stack_hl l h] at h1; cases h1
    · simp only [if_neg k]
      exact ⟨hx, by rw [stack_ll h h]; exact hf.refl x h, stack_lh h k, fun z hz h1 h2 => h1⟩
  · simp only [if_neg h]
    by_cases k : y < n
    · simp only [if_pos k]
      exact ⟨hy, stack_lh k h, by rw [stack_ll k k]; exact hf.refl y k, fun z hz h1 h2 => h2⟩
    · simp only [if_neg k]
      have i1 := inf_lt mg (x := x - n) (y := y - n) (by omega) (by omega)
      have hn : ¬ n + inf m g (x - n) (y - n) < n := by omega
      refine ⟨by omega, ?_, ?_, fun z hz h1 h2 => ?_⟩
      · rw [stack_hh hn h, Nat.add_sub_cancel_left]; exact inf_left mg (by omega) (by omega)
      · rw [stack_hh hn k, Nat.add_sub_cancel_left]; exact inf_right mg (by omega) (by omega)
      · by_cases l : z < n
        · exact stack_lh l hn
        · rw [stack_hh l h] at h1
          rw [stack_hh l k] at h2
          rw [stack_hh l hn, Nat.add_sub_cancel_left]; exact inf_max mg (by omega) (by omega) (by omega) h1 h2
theorem meets_stackO (hf : Ord n f) (hg : Ord m g) (mf : meets n (opp f)) (mg : meets m (opp g)) : meets (n + m) (opp (stackF f g n)) := by
  refine meets_of (ord_stack hf hg).opp (fun x y => if x < n then (if y < n then inf n (opp f) x y else y) else if y < n then x else n + inf m (opp g) (x - n) (y - n)) fun x y hx hy => ?_
  unfold opp
  by_cases h : x < n
  · simp only [if_pos h]
    by_cases k : y < n
    · simp only [if_pos k]
      have i1 := inf_lt mf h k
      refine ⟨by unfold opp at i1; omega, by unfold opp at i1; rw [stack_ll h i1]; exact inf_left mf h k, by unfold opp at i1; rw [stack_ll k i1]; exact inf_right mf h k, fun z hz h1 h2 => ?_⟩
      by_cases l : z < n
      · rw [stack_ll h l] at h1
        rw [stack_ll k l] at h2
        unfold opp at i1
        rw [stack_ll i1 l]; exact inf_max mf h k l h1 h2
      · unfold opp at i1
        exact stack_lh i1 l
    · simp only [if_neg k]
      exact ⟨hy, stack_lh h k, by rw [stack_hh k k]; exact hg.refl _ (by omega), fun z hz h1 h2 => h2⟩
  · simp only [if_neg h]
    by_cases k : y < n
    · simp only [if_pos k]
      exact ⟨hx, by rw [stack_hh h h]; exact hg.refl _ (by omega), stack_lh k h, fun z hz h1 h2 => h1⟩
    · simp only [if_neg k]
      have i1 := inf_lt mg (x := x - n) (y := y - n) (by omega) (by omega)
      unfold opp at i1
      have hn : ¬ n + inf m (fun x y => g y x) (x - n) (y - n) < n := by omega
      refine ⟨by omega, ?_, ?_, fun z hz h1 h2 => ?_⟩
      · rw [stack_hh h hn, Nat.add_sub_cancel_left]; exact inf_left mg (by omega) (by omega)
      · rw [stack_hh k hn, Nat.add_sub_cancel_left]; exact inf_right mg (by omega) (by omega)
      · by_cases l : z < n
        · rw [stack_hl h l] at h1; cases h1
        · rw [stack_hh h l] at h1
          rw [stack_hh k l] at h2
          rw [stack_hh hn l, Nat.add_sub_cancel_left]
          exact inf_max mg (x := x - n) (y := y - n) (z := z - n) (by omega) (by omega) (by omega) h1 h2
end
theorem meets_congr {n : Nat} {f g : Nat → Nat → Bool} (hg : Ord n g) (h : ∀ x y, x < n → y < n → f x y = g x y) (mf : meets n f) : meets n g := by
  refine meets_of hg (fun x y => inf n f x y) fun x y hx hy => ?_
  have i := inf_lt mf hx hy
  refine ⟨i, ?_, ?_, fun z hz h1 h2 => ?_⟩
  · rw [← h _ _ i hx]; exact inf_left mf hx hy
  · rw [← h _ _ i hy]; exact inf_right mf hx hy
  · rw [← h _ _ hz i]; exact inf_max mf hx hy hz (by rw [h _ _ hz hx]; exact h1) (by rw [h _ _ hz hy]; exact h2)
theorem isOrd_of {n : Nat} {f : Nat → Nat → Bool} (h : Ord n f) : isOrd n f := by
  intro x hx
  refine ⟨h.refl x hx, fun y hy => ?_⟩
  unfold okAt
  refine ⟨fun hh => ?_, fun z hz hxy hyz => h.trans x y z hx hy hz hxy hyz⟩
  exact hh.1 (h.anti x y hx hy hh.2.1 hh.2.2)
theorem lat_pos {N : Nat} {F : Nat → Nat → Bool} (hN : N ≤ 10) (h0 : N ≠ 0) (ho : Ord N F) (h1 : meets N F) (h2 : meets N (opp F)) : isLat (posOf N F) := by
  have hg : good (posOf N F).Below := (posOf_good hN).2 (isOrd_of ho)
  have hob := good_ord hg
  rw [posOf_len] at hob
  refine ⟨hg, by rw [posOf_len]; exact h0, ?_, ?_⟩
  · rw [posOf_len]
    exact meets_congr hob (fun x y hx hy => (posOf_below hy hx).symm) h1
  · rw [posOf_len]
    exact meets_congr hob.opp (fun x y hx hy => (posOf_below hx hy).symm) h2
end Go.Proofs.Ytoikbcagaanhgaa.Ax
