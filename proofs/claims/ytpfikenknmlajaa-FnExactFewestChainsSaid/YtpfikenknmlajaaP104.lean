/-
  Largest matchings: with some places given away, and one after the other.
-/
import Derived.Test.YtpfikenknmlajaaP102
namespace Go.Proofs.Ytpfikenknmlajaa.Ax
open Go Classical

/-- the size of a largest matching -/
def isNu (n : Nat) (E : Nat → Nat → Bool) (v : Nat) : Prop := (∃ m, MtOne n E m ∧ sizeN n m = v) ∧ ∀ m, MtOne n E m → sizeN n m ≤ v
section
variable {n : Nat} {E : Nat → Nat → Bool}
theorem isNu.uniq {v w : Nat} (h : isNu n E v) (h' : isNu n E w) : v = w := by
  obtain ⟨⟨m, h1, h2⟩, h3⟩ := h
  obtain ⟨⟨m', h1', h2'⟩, h3'⟩ := h'
  have := h3 m' h1'
  have := h3' m h1
  omega
theorem MtInv.nu {m : List Int} {S D : Nat → Bool} (h : MtInv n E n m S D) : isNu n E (cntN n S) := ⟨⟨m, h.one, h.size⟩, fun _ hμ => h.most hμ⟩
theorem max_exN (P : Nat → Prop) : ∀ (b v : Nat), P v → (∀ u, P u → u ≤ v + b) → ∃ v, P v ∧ ∀ u, P u → u ≤ v
  | 0, v, h, hb => ⟨v, h, hb⟩
  | b + 1, v, h, hb => by
    by_cases hx : ∃ u, P u ∧ v < u
    · obtain ⟨u, hu, hlt⟩ := hx
      exact max_exN P b u hu fun w hw => by have := hb w hw; omega
    · exact ⟨v, h, fun u hu => Classical.byContradiction fun hc => hx ⟨u, hu, by omega⟩⟩
theorem mt_none (n : Nat) (E : Nat → Nat → Bool) : MtOne n E (List.replicate n (-1)) ∧ sizeN n (List.replicate n (-1)) = 0 := by
  refine ⟨⟨⟨by simp, fun k hk => .inl (nth_replicate _ hk)⟩, fun j => ?_⟩, ?_⟩
  · unfold ownN
    rw [cntN_congr (q := fun _ => false) fun k hk => by rw [nth_replicate _ hk]; exact decide_eq_false (by omega), cntN_none]
    omega
  · unfold sizeN
    rw [cntN_congr (q := fun _ => false) fun k hk => by rw [nth_replicate _ hk]; rfl, cntN_none]
theorem nu_ex (n : Nat) (E : Nat → Nat → Bool) : ∃ v, isNu n E v := by
  obtain ⟨h1, h2⟩ := mt_none n E
  obtain ⟨v, ⟨m, hm, e⟩, hv⟩ := max_exN (fun v => ∃ m, MtOne n E m ∧ sizeN n m = v) n 0 ⟨_, h1, h2⟩ (fun u ⟨m, _, e⟩ => by
    have := cntN_le n fun k => decide (nth m k ≠ -1)
    unfold sizeN at e
    omega)
  exact ⟨v, ⟨m, hm, e⟩, fun m hm => hv _ ⟨m, hm, rfl⟩⟩
theorem isNu.congr {E' : Nat → Nat → Bool} (h : ∀ j k, j < n → k < n → E j k = E' j k) {v : Nat} (hv : isNu n E v) : isNu n E' v := by
  have key : ∀ {E E' : Nat → Nat → Bool}, (∀ j k, j < n → k < n → E j k = E' j k) → ∀ m, MtOne n E m → MtOne n E' m := fun h m hm => ⟨⟨hm.len, fun k hk => by
    rcases hm.own k hk with h1 | ⟨j, h1, h2, h3⟩
    · exact .inl h1
    · exact .inr ⟨j, h1, h2, by rw [← h j k h1 hk]; exact h3⟩⟩, hm.one⟩
  obtain ⟨⟨m, h1, h2⟩, h3⟩ := hv
  exact ⟨⟨m, key h m h1, h2⟩, fun m hm => h3 m (key (fun j k hj hk => (h j k hj hk).symm) m hm)⟩
/-- one matching from its owners: injective -/
theorem mt_one {m : List Int} (h : MtOk n E m) (hi : ∀ k l j : Nat, k < n → l < n → nth m k = (j : Int) → nth m l = (j : Int) → k = l) : MtOne n E m := by
  refine ⟨h, fun j => ?_⟩
  refine Classical.byContradiction fun hc => ?_
  obtain ⟨k, hk, ek⟩ := cntN_get (n := n) (p := fun k => decide (nth m k = (j : Int))) (by unfold ownN at hc; omega)
  have hsplit := cntN_split n (fun k => decide (nth m k = (j : Int))) fun l => decide (l = k)
  have h1 : cntN n (fun l => decide (nth m l = (j : Int)) && decide (l = k)) ≤ 1 := by
    have := cntN_one (n := n) (k := k) (p := fun _ => false) (q := fun l => decide (l = k)) hk rfl (by simp) fun i _ hne => by simp [hne]
    rw [cntN_none] at this
    have h2 := cntN_mono (n := n) (p := fun l => decide (nth m l = (j : Int)) && decide (l = k)) (q := fun l => decide (l = k)) fun i _ hh => by
      rw [Bool.and_eq_true] at hh; exact hh.2
    omega
  have h2 : 0 < cntN n fun l => decide (nth m l = (j : Int)) && !decide (l = k) := by unfold ownN at hc; omega
  obtain ⟨l, hl, el⟩ := cntN_get h2
  rw [Bool.and_eq_true] at el
  have := hi k l j hk hl (of_decide_eq_true ek) (of_decide_eq_true el.1)
  simp [this] at el
end
section
variable {n : Nat} {L : Nat → Nat → Bool}
/-- who comes from a number on, and the places not given away -/
def frG (L : Nat → Nat → Bool) (i : Nat) (φ : List Int) (j k : Nat) : Bool := (decide (i ≤ j) && decide (nth φ k = -1)) && L j k
/-- those below a number have the place given to them -/
def fxG (L : Nat → Nat → Bool) (i : Nat) (φ : List Int) (j k : Nat) : Bool := if j < i then decide (nth φ k = (j : Int)) else L j k
/-- places given away to those below a number -/
structure Gave (n : Nat) (L : Nat → Nat → Bool) (i : Nat) (φ : List Int) : Prop where
  one : MtOne n L φ
  low : ∀ k, k < n → nth φ k < (i : Int)
theorem frG_true {i : Nat} {φ : List Int} {j k : Nat} : frG L i φ j k = true ↔ i ≤ j ∧ nth φ k = -1 ∧ L j k = true := by
  unfold frG
  rw [Bool.and_eq_true, Bool.and_eq_true, decide_eq_true_eq, decide_eq_true_eq, and_assoc]
theorem gave_size {i : Nat} {φ : List Int} (_hi : i ≤ n) (h : Gave n L i φ) {v : Nat} (hv : isNu n (frG L i φ) v) : isNu n (fxG L i φ) (sizeN n φ + v) := by
  obtain ⟨⟨μ, hμ, e⟩, hmax⟩ := hv
  have hφl := h.one.len
  constructor
  · -- both together
    have hat : ∀ k, k < n → nth ((List.range n).map fun k => if nth φ k = -1 then nth μ k else nth φ k) k = if nth φ k = -1 then nth μ k else nth φ k := fun k hk => by
      rw [nth_map' _ (by simpa using hk), nth_range hk]
    refine ⟨(List.range n).map fun k => if nth φ k = -1 then nth μ k else nth φ k, mt_one ⟨by simp, fun k hk => ?_⟩ fun k l j hk hl ek el => ?_, ?_⟩
    · rw [hat k hk]
      by_cases h1 : nth φ k = -1
      · rw [if_pos h1]
        rcases hμ.own k hk with h2 | ⟨j, h2, h3, h4⟩
        · exact .inl h2
        · obtain ⟨g1, g2, g3⟩ := frG_true.1 h4
          refine .inr ⟨j, h2, h3, ?_⟩
          unfold fxG
          rw [if_neg (by omega)]; exact g3
      · rw [if_neg h1]
        rcases h.one.own k hk with h2 | ⟨j, h2, h3, _⟩
        · exact absurd h2 h1
        · have := h.low k hk
          refine .inr ⟨j, h2, h3, ?_⟩
          unfold fxG
          rw [if_pos (by omega)]; exact decide_eq_true h3
    · rw [hat k hk] at ek
      rw [hat l hl] at el
      have low : ∀ k, k < n → nth φ k ≠ -1 → ∀ j : Nat, nth φ k = (j : Int) → j < i := fun k hk _ j e => by have := h.low k hk; omega
      have high : ∀ k, k < n → ∀ j : Nat, nth μ k = (j : Int) → i ≤ j := fun k hk j e => by
        rcases hμ.own k hk with h2 | ⟨j', h2, h3, h4⟩
        · omega
        · have := (frG_true.1 h4).1; omega
      by_cases h1 : nth φ k = -1
      · rw [if_pos h1] at ek
        by_cases h2 : nth φ l = -1
        · rw [if_pos h2] at el
          exact hμ.inj hk hl ek el
        · rw [if_neg h2] at el
          have := low l hl h2 j el
          have := high k hk j ek
          omega
      · rw [if_neg h1] at ek
        by_cases h2 : nth φ l = -1
        · rw [if_pos h2] at el
          have := low k hk h1 j ek
          have := high l hl j el
          omega
        · rw [if_neg h2] at el
          exact h.one.inj hk hl ek el
    · rw [← e]
      unfold sizeN
      rw [cntN_split n _ fun k => decide (nth φ k ≠ -1)]
      congr 1
      · refine cntN_congr fun k hk => ?_
        rw [hat k hk]
        by_cases h1 : nth φ k = -1
        · rw [if_pos h1, h1]; simp
        · rw [if_neg h1, decide_eq_true h1]; rfl
      · refine cntN_congr fun k hk => ?_
        rw [hat k hk]
        by_cases h1 : nth φ k = -1
        · rw [if_pos h1, h1]; simp
        · rw [if_neg h1, decide_eq_true h1]
          rcases hμ.own k hk with h2 | ⟨j, h2, h3, h4⟩
          · rw [h2]; rfl
          · exact absurd (frG_true.1 h4).2.1 h1
  · intro ν hν
    have hat : ∀ k, k < n → nth ((List.range n).map fun k => if nth φ k = -1 then nth ν k else -1) k = if nth φ k = -1 then nth ν k else -1 := fun k hk => by
      rw [nth_map' _ (by simpa using hk), nth_range hk]
    have hG : MtOne n (frG L i φ) ((List.range n).map fun k => if nth φ k = -1 then nth ν k else -1) := by
      refine mt_one ⟨by simp, fun k hk => ?_⟩ fun k l j hk hl ek el => ?_
      · rw [hat k hk]
        by_cases h1 : nth φ k = -1
        · rw [if_pos h1]
          rcases hν.own k hk with h2 | ⟨j, h2, h3, h4⟩
          · exact .inl h2
          · unfold fxG at h4
            by_cases hj : j < i
            · rw [if_pos hj] at h4
              have := of_decide_eq_true h4
              omega
            · rw [if_neg hj] at h4
              exact .inr ⟨j, h2, h3, frG_true.2 ⟨by omega, h1, h4⟩⟩
        · rw [if_neg h1]; exact .inl rfl
      · rw [hat k hk] at ek
        rw [hat l hl] at el
        by_cases h1 : nth φ k = -1
        · rw [if_pos h1] at ek
          by_cases h2 : nth φ l = -1
          · rw [if_pos h2] at el; exact hν.inj hk hl ek el
          · rw [if_neg h2] at el; omega
        · rw [if_neg h1] at ek; omega
    have hle := hmax _ hG
    have hsp := cntN_split n (fun k => decide (nth ν k ≠ -1)) fun k => decide (nth φ k ≠ -1)
    have h1 : (cntN n fun k => decide (nth ν k ≠ -1) && decide (nth φ k ≠ -1)) ≤ sizeN n φ := cntN_mono fun k _ hh => by
      rw [Bool.and_eq_true] at hh; exact hh.2
    have h2 : (cntN n fun k => decide (nth ν k ≠ -1) && !decide (nth φ k ≠ -1)) = sizeN n ((List.range n).map fun k => if nth φ k = -1 then nth ν k else -1) := by
      unfold sizeN
      refine cntN_congr fun k hk => ?_
      rw [hat k hk]
      by_cases h1 : nth φ k = -1
      · rw [if_pos h1, h1]; simp
      · rw [if_neg h1]; simp [h1]
    unfold sizeN at h1 h2 hle ⊢
    omega
theorem gave_start (n : Nat) (L : Nat → Nat → Bool) : Gave n L 0 (List.replicate n (-1)) ∧ sizeN n (List.replicate n (-1)) = 0 := by
  obtain ⟨h1, h2⟩ := mt_none n L
  exact ⟨⟨h1, fun k hk => by rw [nth_replicate _ hk]; omega⟩, h2⟩
theorem frG_start {v : Nat} : isNu n (frG L 0 (List.replicate n (-1))) v ↔ isNu n L v := by
  have e : ∀ j k, j < n → k < n → frG L 0 (List.replicate n (-1)) j k = L j k := fun j k _ hk => by
    unfold frG
    rw [nth_replicate _ hk]; simp
  exact ⟨fun h => h.congr e, fun h => h.congr fun j k hj hk => (e j k hj hk).symm⟩
section
variable {i : Nat} {φ : List Int} (hi : i < n) (h : Gave n L i φ)
include hi h
theorem gave_put {y : Nat} (hy : y < n) (hf : nth φ y = -1) (hL : L i y = true) : Gave n L (i + 1) (φ.set y (i : Int)) ∧ sizeN n (φ.set y (i : Int)) = sizeN n φ + 1 := by
  have hl := h.one.len
  have hat : ∀ k, k < n → nth (φ.set y (i : Int)) k = if y = k then (i : Int) else nth φ k := fun k hk => nth_set _ _ _ _ (by omega)
  refine ⟨⟨mt_one (h.one.toMtOk.set hy hi hL) fun k l j hk hl' ek el => ?_, fun k hk => ?_⟩, ?_⟩
  · rw [hat k hk] at ek
    rw [hat l hl'] at el
    have low : ∀ k, k < n → nth φ k < (i : Int) := h.low
    by_cases h1 : y = k
    · rw [if_pos h1] at ek
      by_cases h2 : y = l
      · omega
      · rw [if_neg h2] at el
        have := low l hl'; omega
    · rw [if_neg h1] at ek
      by_cases h2 : y = l
      · rw [if_pos h2] at el
        have := low k hk; omega
      · rw [if_neg h2] at el
        exact h.one.inj hk hl' ek el
  · rw [hat k hk]
    have := h.low k hk
    split <;> omega
  · unfold sizeN
    refine cntN_one hy (by rw [hf]; rfl) (by rw [hat y hy, if_pos rfl]; exact decide_eq_true (by omega)) fun k hk hne => ?_
    rw [hat k hk, if_neg (Ne.symm hne)]
omit hi in
theorem gave_next : Gave n L (i + 1) φ := ⟨h.one, fun k hk => by have := h.low k hk; omega⟩
/-- the place that is given away costs one at most -/
theorem nu_put_le {y v v' : Nat} (hy : y < n) (hf : nth φ y = -1) (hL : L i y = true) (hv : isNu n (frG L i φ) v) (hv' : isNu n (frG L (i + 1) (φ.set y (i : Int))) v') : v' + 1 ≤ v := by
  obtain ⟨⟨μ, hμ, e⟩, _⟩ := hv'
  have hl := h.one.len
  have hat : ∀ k, k < n → nth (φ.set y (i : Int)) k = if y = k then (i : Int) else nth φ k := fun k hk => nth_set _ _ _ _ (by omega)
  have hμl := hμ.len
  have hμy : nth μ y = -1 := by
    rcases hμ.own y hy with h1 | ⟨j, _, _, h3⟩
    · exact h1
    · have := (frG_true.1 h3).2.1
      rw [hat y hy, if_pos rfl] at this
      omega
  have hat' : ∀ k, k < n → nth (μ.set y (i : Int)) k = if y = k then (i : Int) else nth μ k := fun k hk => nth_set _ _ _ _ (by omega)
  have key : MtOne n (frG L i φ) (μ.set y (i : Int)) := by
    refine mt_one ⟨by rw [List.length_set]; exact hμl, fun k hk => ?_⟩ fun k l j hk hl' ek el => ?_
    · rw [hat' k hk]
      by_cases h1 : y = k
      · rw [if_pos h1, ← h1]
        exact .inr ⟨i, hi, rfl, frG_true.2 ⟨Nat.le_refl _, hf, hL⟩⟩
      · rw [if_neg h1]
        rcases hμ.own k hk with h2 | ⟨j, h2, h3, h4⟩
        · exact .inl h2
        · obtain ⟨g1, g2, g3⟩ := frG_true.1 h4
          rw [hat k hk, if_neg h1] at g2
          exact .inr ⟨j, h2, h3, frG_true.2 ⟨by omega, g2, g3⟩⟩
    · rw [hat' k hk] at ek
      rw [hat' l hl'] at el
      have high : ∀ k, k < n → ∀ j : Nat, nth μ k = (j : Int) → i + 1 ≤ j := fun k hk j e => by
        rcases hμ.own k hk with h2 | ⟨j', h2, h3, h4⟩
        · omega
        · have := (frG_true.1 h4).1; omega
      by_cases h1 : y = k
      · rw [if_pos h1] at ek
        by_cases h2 : y = l
        · omega
        · rw [if_neg h2] at el
          have := high l hl' j el; omega
      · rw [if_neg h1] at ek
        by_cases h2 : y = l
        · rw [if_pos h2] at el
          have := high k hk j ek; omega
        · rw [if_neg h2] at el
          exact hμ.inj hk hl' ek el
  have := hv.2 _ key
  have hsz : sizeN n (μ.set y (i : Int)) = sizeN n μ + 1 := by
    unfold sizeN
    refine cntN_one hy (by rw [hμy]; rfl) (by rw [hat' y hy, if_pos rfl]; exact decide_eq_true (by omega)) fun k hk hne => ?_
    rw [hat' k hk, if_neg (Ne.symm hne)]
  omega
/-- either some place can be given away at no cost, or nothing is lost without one -/
theorem nu_step {v w : Nat} (hv : isNu n (frG L i φ) v) (hw : isNu n (frG L (i + 1) φ) w) : w ≤ v ∧ (w = v ∨ ∃ y, y < n ∧ nth φ y = -1 ∧ L i y = true ∧ ∀ v', isNu n (frG L (i + 1) (φ.set y (i : Int))) v' → v' + 1 = v) := by
  have hl := h.one.len
  have up : ∀ μ, MtOne n (frG L (i + 1) φ) μ → MtOne n (frG L i φ) μ := fun μ hμ => ⟨⟨hμ.len, fun k hk => by
    rcases hμ.own k hk with h1 | ⟨j, h1, h2, h3⟩
    · exact .inl h1
    · obtain ⟨g1, g2, g3⟩ := frG_true.1 h3
      exact .inr ⟨j, h1, h2, frG_true.2 ⟨by omega, g2, g3⟩⟩⟩, hμ.one⟩
  have hle : w ≤ v := by
    obtain ⟨⟨μ, hμ, e⟩, _⟩ := hw
    rw [← e]; exact hv.2 _ (up μ hμ)
  refine ⟨hle, ?_⟩
  have hv0 := hv
  obtain ⟨⟨μ, hμ, e⟩, hmax⟩ := hv
  have hμl := hμ.len
  by_cases hown : ∃ y, y < n ∧ nth μ y = (i : Int)
  · obtain ⟨y, hy, ey⟩ := hown
    right
    have hyE : nth φ y = -1 ∧ L i y = true := by
      rcases hμ.own y hy with h1 | ⟨j, _, h2, h3⟩
      · omega
      · have : j = i := by omega
        subst this
        exact (frG_true.1 h3).2
    refine ⟨y, hy, hyE.1, hyE.2, fun v' hv' => ?_⟩
    have hup := nu_put_le hi h hy hyE.1 hyE.2 hv0 hv'
    have hat : ∀ k, k < n → nth (φ.set y (i : Int)) k = if y = k then (i : Int) else nth φ k := fun k hk => nth_set _ _ _ _ (by omega)
    have hat' : ∀ k, k < n → nth (μ.set y (-1)) k = if y = k then -1 else nth μ k := fun k hk => nth_set _ _ _ _ (by omega)
    have key : MtOne n (frG L (i + 1) (φ.set y (i : Int))) (μ.set y (-1)) := by
      refine mt_one ⟨by rw [List.length_set]; exact hμl, fun k hk => ?_⟩ fun k l j hk hl' ek el => ?_
      · rw [hat' k hk]
        by_cases h1 : y = k
        · rw [if_pos h1]; exact .inl rfl
        · rw [if_neg h1]
          rcases hμ.own k hk with h2 | ⟨j, h2, h3, h4⟩
          · exact .inl h2
          · obtain ⟨g1, g2, g3⟩ := frG_true.1 h4
            refine .inr ⟨j, h2, h3, frG_true.2 ⟨?_, by rw [hat k hk, if_neg h1]; exact g2, g3⟩⟩
            rcases Nat.lt_or_ge i j with h5 | h5
            · exact h5
            · have : j = i := by omega
              subst this
              exact absurd (hμ.inj hy hk ey h3) h1
      · rw [hat' k hk] at ek
        rw [hat' l hl'] at el
        by_cases h1 : y = k
        · rw [if_pos h1] at ek; omega
        · rw [if_neg h1] at ek
          by_cases h2 : y = l
          · rw [if_pos h2] at el; omega
          · rw [if_neg h2] at el
            exact hμ.inj hk hl' ek el
    have hle' := hv'.2 _ key
    have hsz : sizeN n μ = sizeN n (μ.set y (-1)) + 1 := by
      unfold sizeN
      refine cntN_one hy (by rw [hat' y hy, if_pos rfl]; rfl) (by rw [ey]; exact decide_eq_true (by omega)) fun k hk hne => ?_
      rw [hat' k hk, if_neg (Ne.symm hne)]
    omega
  · left
    have key : MtOne n (frG L (i + 1) φ) μ := ⟨⟨hμl, fun k hk => by
      rcases hμ.own k hk with h1 | ⟨j, h1, h2, h3⟩
      · exact .inl h1
      · obtain ⟨g1, g2, g3⟩ := frG_true.1 h3
        refine .inr ⟨j, h1, h2, frG_true.2 ⟨?_, g2, g3⟩⟩
        rcases Nat.lt_or_ge i j with h5 | h5
        · exact h5
        · have : j = i := by omega
          subst this
          exact absurd ⟨k, hk, h2⟩ hown⟩, hμ.one⟩
    have := hw.2 _ key
    omega
end
theorem frG_end {φ : List Int} {v : Nat} (hv : isNu n (frG L n φ) v) : v = 0 := by
  obtain ⟨⟨μ, hμ, e⟩, _⟩ := hv
  rw [← e]
  unfold sizeN
  rw [cntN_congr (q := fun _ => false) fun k hk => by
    rcases hμ.own k hk with h1 | ⟨j, h1, _, h3⟩
    · rw [h1]; rfl
    · have := (frG_true.1 h3).1
      omega, cntN_none]
end

end Go.Proofs.Ytpfikenknmlajaa.Ax
