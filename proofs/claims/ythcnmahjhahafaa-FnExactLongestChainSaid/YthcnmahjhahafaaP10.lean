/-
  LongestChain: what the program and the reference compute.
-/
import Derived.Test.YthcnmahjhahafaaP9
namespace Go.Proofs.Ythcnmahjhahafaa.Ax
open Go Classical

theorem htn_congr {n : Nat} {r s : Nat → Nat → Bool} (h : ∀ y x, y < n → x < n → r y x = s y x) (k : Nat) : ∀ x, x < n → htn n r k x = htn n s k x := by
  induction k with
  | zero => intro x _; rfl
  | succ k ih =>
    intro x hx
    show mx n _ = mx n _
    refine mx_congr fun y hy => ?_
    rw [h y x hy hx, ih y hy]
theorem ht_congr {n : Nat} {r s : Nat → Nat → Bool} (h : ∀ y x, y < n → x < n → r y x = s y x) {x : Nat} (hx : x < n) : ht n r x = ht n s x := htn_congr h n x hx
theorem mx_at {n : Nat} {f : Nat → Nat} (h : 0 < mx n f) : ∃ i, i < n ∧ f i = mx n f := by
  induction n with
  | zero => simp [mx] at h
  | succ n ih =>
    simp only [mx] at h ⊢
    by_cases e : mx n f ≤ f n
    · exact ⟨n, by omega, by omega⟩
    · obtain ⟨i, h1, h2⟩ := ih (by omega)
      exact ⟨i, by omega, by omega⟩
/-- the first one -/
theorem first_of {n : Nat} {q : Nat → Prop} (h : ∃ x, x < n ∧ q x) : ∃ x, x < n ∧ q x ∧ ∀ y, y < x → ¬ q y := by
  obtain ⟨x, hx, hq⟩ := h
  induction x using Nat.strongRecOn with
  | ind x ih =>
    by_cases hy : ∃ y, y < x ∧ q y
    · obtain ⟨y, h1, h2⟩ := hy
      exact ih y h1 (by omega) h2
    · exact ⟨x, hx, hq, fun y h1 h2 => hy ⟨y, h1, h2⟩⟩

section
variable {p : SPoset}
theorem F_l23Less (hs : small p) (x y : Nat) (hy : y < p.Below.length) : F_spec_l23Less p x y = some (decide (x ≠ y) && below p.Below x y) := by
  unfold F_spec_l23Less
  by_cases h : x = y
  · subst h; simp
  · have : (x : Int) ≠ y := by omega
    simp only [ne_eq, this, not_false_iff, if_true, F_l23Leq hs x y hy, h, decide_true, Bool.true_and, Option.bind_some]
/-- how far it leads up -/
noncomputable def hup (p : SPoset) (x : Nat) : Nat := ht p.Below.length (rel (below p.Below) false) x
theorem hup_dual (hg : good p.Below) {x : Nat} (hx : x < p.Below.length) : (limO fun n => F_spec_l23Height n (dualP p) x) = some (hup p x : Int) := by
  rw [lim_l23Height (good_dual hg) (by rw [dual_len]; exact hx)]
  congr 2
  rw [dual_len]
  refine ht_congr (fun y z hy hz => ?_) hx
  simp only [rel, if_true, Bool.false_eq_true, if_false]
  rw [below_dual hz hy]
  by_cases e : y = z
  · subst e; rfl
  · simp [e, Ne.symm e]

/-- what may come next -/
def fits (p : SPoset) (c : List Int) (x : Nat) : Prop := c = [] ∨ ∃ l : Nat, l < p.Below.length ∧ nth c (c.length - 1) = (l : Int) ∧ l ≠ x ∧ below p.Below l x = true
def chainOk (p : SPoset) (c : List Int) (j : Nat) : Prop := (c = [] ∧ (∀ x, x < p.Below.length → hup p x + 1 ≤ j) ∧ (0 < j → ∃ x, x < p.Below.length ∧ hup p x + 1 = j)) ∨ (c ≠ [] ∧ ∃ l : Nat, l < p.Below.length ∧ nth c (c.length - 1) = (l : Int) ∧ hup p l = j)

theorem chain_next (hg : good p.Below) {c : List Int} {j : Nat} (h : chainOk p c (j + 1)) :
    (∀ x, x < p.Below.length → fits p c x → hup p x ≤ j) ∧ ∃ x, x < p.Below.length ∧ hup p x = j ∧ fits p c x := by
  have hs := strict_up hg
  rcases h with ⟨rfl, h1, h2⟩ | ⟨hne, l, hl, hc, hj⟩
  · refine ⟨fun x hx _ => by have := h1 x hx; omega, ?_⟩
    obtain ⟨x, hx, he⟩ := h2 (by omega)
    exact ⟨x, hx, by omega, .inl rfl⟩
  · have rl : ∀ x, rel (below p.Below) false x l = true ↔ (l ≠ x ∧ below p.Below l x = true) := fun x => by simp [rel]
    constructor
    · intro x hx hf
      rcases hf with hf | ⟨l', hl', hc', h1, h2⟩
      · exact absurd hf hne
      · have : l' = l := by omega
        subst this
        have := ht_lt hs hl hx ((rl x).2 ⟨h1, h2⟩)
        unfold hup at *; omega
    · have e := ht_eq hs hl
      unfold hup at hj
      rw [hj] at e
      obtain ⟨x, hx, he⟩ := mx_at (n := p.Below.length) (f := fun y => if rel (below p.Below) false y l then ht p.Below.length (rel (below p.Below) false) y + 1 else 0) (by omega)
      rw [← e] at he
      by_cases hr : rel (below p.Below) false x l = true
      · rw [if_pos hr] at he
        exact ⟨x, hx, by unfold hup; omega, .inr ⟨l, hl, hc, (rl x).1 hr⟩⟩
      · rw [if_neg hr] at he; omega

theorem chains (hs : small p) (hg : good p.Below) : ∀ (j : Nat) (c : List Int), chainOk p c j → j ≤ 20 → c.length ≤ 20 - j → ∃ out : List Int, out.length ≤ 20 ∧
    loopO (F_impl_LongestChain_l3 (tab p.Below.length (below p.Below), true) (heights p.Below.length (rel (below p.Below) false))) (c, (j : Int) - 1) = some out ∧
    loopO (F_spec_LongestChain_l3 p (dualP p)) ((j : Int), c) = some out := by
  have h10 := hg.1
  have tl := tab_len p.Below.length (below p.Below)
  have hl : (heights p.Below.length (rel (below p.Below) false)).length = p.Below.length := by simp [heights]
  have hat : ∀ x, x < p.Below.length → nth (heights p.Below.length (rel (below p.Below) false)) x = (hup p x : Int) := fun x hx => by
    unfold heights; rw [nth_map' _ (by simpa using hx), nth_range hx]; rfl
  intro j
  induction j with
  | zero =>
    intro c _ _ hc
    refine ⟨c, by omega, loopO_stop ?_, loopO_stop ?_⟩
    · unfold F_impl_LongestChain_l3; simp (disch := omega) only [ask_pos, if_neg, InI_def]
    · unfold F_spec_LongestChain_l3; simp (disch := omega) only [ask_pos, if_neg, InI_def, lim_def, List.length_cons, List.length_nil]
  | succ j ih =>
    intro c hk hj hc
    obtain ⟨hle, hex⟩ := chain_next hg hk
    obtain ⟨x, hx, ⟨hxj, hxf⟩, hxn⟩ := first_of (n := p.Below.length) (q := fun x => hup p x = j ∧ fits p c x) hex
    -- what the last one tells
    have lastI : c ≠ [] → ∃ l : Nat, l < p.Below.length ∧ nth c (c.length - 1) = (l : Int) ∧ ∀ y, y < p.Below.length → (fits p c y ↔ (decide (l ≠ y) && below p.Below l y) = true) := fun hne => by
      rcases hk with ⟨h0, _⟩ | ⟨_, l, h1, h2, _⟩
      · exact absurd h0 hne
      · refine ⟨l, h1, h2, fun y hy => ?_⟩
        simp only [Bool.and_eq_true, decide_eq_true_eq]
        constructor
        · rintro (h | ⟨l', h3, h4, h5⟩)
          · exact absurd h hne
          · have : l' = l := by omega
            subst this; exact h5
        · intro h; exact .inr ⟨l, h1, h2, h⟩
    have step : ∀ y, y < x → ¬ (hup p y = j ∧ fits p c y) := hxn
    have inner1 : loopO (F_impl_LongestChain_l2 (tab p.Below.length (below p.Below), true) (heights p.Below.length (rel (below p.Below) false)) c (((j + 1 : Nat) : Int) - 1)) 0 = some (c ++ [(x : Int)]) := by
      refine loop_seq (body := F_impl_LongestChain_l2 (tab p.Below.length (below p.Below), true) (heights p.Below.length (rel (below p.Below) false)) c (((j + 1 : Nat) : Int) - 1)) (fun i => (i : Int)) x _ (fun y hy => ?_) ?_
      · have hyn : y < p.Below.length := by omega
        unfold F_impl_LongestChain_l2
        by_cases hh : hup p y = j
        · have hnf : ¬ fits p c y := fun h => step y hy ⟨hh, h⟩
          have hne : c ≠ [] := fun h => hnf (.inl h)
          obtain ⟨l, h1, h2, h3⟩ := lastI hne
          have hlen : 0 < c.length := List.length_pos_iff.2 hne
          have h4 : (decide (l ≠ y) && below p.Below l y) = false := Bool.eq_false_iff.2 fun h => hnf ((h3 y hyn).2 h)
          have e1 : ((c.length : Int) - 1).toNat = c.length - 1 := by omega
          simp (disch := omega) only [ask_pos, if_pos, if_neg, if_false, InI_def, lim_def, List.length_cons, List.length_nil, Int.toNat_natCast, Int.natCast_add, Int.natCast_one, Option.bind_some, Bool.false_eq_true, hat y hyn, hh, e1, h2, F_less _ _ _ _ h1 hyn, h4]
        · simp (disch := omega) only [ask_pos, if_pos, if_neg, InI_def, lim_def, List.length_cons, List.length_nil, Int.toNat_natCast, Int.natCast_add, Int.natCast_one, hat y hyn]
      · unfold F_impl_LongestChain_l2
        by_cases hce : c = []
        · subst hce
          simp (disch := omega) only [ask_pos, if_pos, InI_def, lim_def, List.length_cons, List.length_nil, Int.toNat_natCast, Int.natCast_add, Int.natCast_one, hat x hx, hxj]
        · obtain ⟨l, h1, h2, h3⟩ := lastI hce
          have hlen : 0 < c.length := List.length_pos_iff.2 hce
          have h4 := (h3 x hx).1 hxf
          have e1 : ((c.length : Int) - 1).toNat = c.length - 1 := by omega
          simp (disch := omega) only [ask_pos, if_pos, if_neg, if_true, InI_def, lim_def, List.length_cons, List.length_nil, Int.toNat_natCast, Int.natCast_add, Int.natCast_one, Option.bind_some, hat x hx, hxj, e1, h2, F_less _ _ _ _ h1 hx, h4]
    have inner2 : loopO (F_spec_LongestChain_l2 p (dualP p) ((j + 1 : Nat) : Int) c) 0 = some (x : Int) := by
      refine loop_seq (body := F_spec_LongestChain_l2 p (dualP p) ((j + 1 : Nat) : Int) c) (fun i => (i : Int)) x _ (fun y hy => ?_) ?_
      · have hyn : y < p.Below.length := by omega
        have hb := ht_le (n := p.Below.length) (r := rel (below p.Below) false) y
        have hb' : hup p y ≤ p.Below.length := hb
        unfold F_spec_LongestChain_l2
        by_cases hh : hup p y < j
        · simp (disch := omega) only [ask_pos, if_pos, InI_def, Int.natCast_add, Int.natCast_one, Option.bind_some, hup_dual hg hyn]
        · have hnf : ¬ fits p c y := fun h => step y hy ⟨by have := hle y hyn h; omega, h⟩
          have hne : c ≠ [] := fun h => hnf (.inl h)
          obtain ⟨l, h1, h2, h3⟩ := lastI hne
          have hlen : 0 < c.length := List.length_pos_iff.2 hne
          have h4 : (decide (l ≠ y) && below p.Below l y) = false := Bool.eq_false_iff.2 fun h => hnf ((h3 y hyn).2 h)
          have e1 : ((c.length : Int) - 1).toNat = c.length - 1 := by omega
          simp (disch := omega) only [ask_pos, if_pos, if_neg, if_false, InI_def, Int.natCast_add, Int.natCast_one, Option.bind_some, Bool.false_eq_true, hup_dual hg hyn, e1, h2, F_l23Less hs _ _ hyn, h4]
      · unfold F_spec_LongestChain_l2
        by_cases hce : c = []
        · subst hce
          simp (disch := omega) only [ask_pos, if_pos, if_neg, InI_def, List.length_nil, Int.natCast_add, Int.natCast_one, Option.bind_some, hup_dual hg hx, hxj]
        · obtain ⟨l, h1, h2, h3⟩ := lastI hce
          have hlen : 0 < c.length := List.length_pos_iff.2 hce
          have h4 := (h3 x hx).1 hxf
          have e1 : ((c.length : Int) - 1).toNat = c.length - 1 := by omega
          simp (disch := omega) only [ask_pos, if_pos, if_neg, if_true, InI_def, Int.natCast_add, Int.natCast_one, Option.bind_some, hup_dual hg hx, hxj, e1, h2, F_l23Less hs _ _ hx, h4]
    obtain ⟨out, o1, o2, o3⟩ := ih (c ++ [(x : Int)]) (.inr ⟨by simp, x, hx, by simp [nth], hxj⟩) (by omega) (by simp; omega)
    refine ⟨out, o1, ?_, ?_⟩
    · rw [← o2]
      refine loopO_next ?_
      unfold F_impl_LongestChain_l3
      dsimp only
      rw [if_pos (by omega), inner1]
      simp only [Option.bind_some]
      rw [ask_pos (by unfold InI; omega)]
      congr 4
      omega
    · rw [← o3]
      refine loopO_next ?_
      unfold F_spec_LongestChain_l3
      dsimp only
      rw [if_pos (by omega), inner2]
      simp (disch := omega) only [ask_pos, InI_def, lim_def, List.length_cons, List.length_nil, Int.natCast_add, Int.natCast_one, Option.bind_some]
      congr 4
      omega
end

theorem both_LongestChain {p : SPoset} (hs : small p) : ∃ r, F_spec_LongestChain p = some r ∧ F_impl_LongestChain p = some r ∧ r.1.length ≤ LIM := by
  unfold F_spec_LongestChain F_impl_LongestChain
  rw [F_l23Good p hs.1 hs.2]
  simp only [Option.bind_some]
  by_cases hg : good p.Below
  · rw [order_good p hs.1 hs.2 hg]
    have h10 := hg.1
    simp only [Option.bind_some, hg, decide_true, if_true]
    rw [F_lengths (strict_up hg) (by omega), F_l23Dual hs]
    simp only [Option.bind_some]
    have hb : ∀ x, hup p x ≤ p.Below.length := fun x => ht_le (n := p.Below.length) (r := rel (below p.Below) false) x
    have hl : (heights p.Below.length (rel (below p.Below) false)).length = p.Below.length := by simp [heights]
    have m1 := loop_seq (body := F_impl_LongestChain_l1 (tab p.Below.length (below p.Below), true) (heights p.Below.length (rel (below p.Below) false))) (fun i => ((i : Int), ((mx i fun x => hup p x + 1 : Nat) : Int) - 1)) p.Below.length (((mx p.Below.length fun x => hup p x + 1 : Nat) : Int) - 1) (fun i hi => by
      have hat : nth (heights p.Below.length (rel (below p.Below) false)) i = (hup p i : Int) := by
        unfold heights; rw [nth_map' _ (by simpa using hi), nth_range hi]; rfl
      unfold F_impl_LongestChain_l1
      simp (disch := omega) only [ask_pos, if_pos, InI_def, Int.toNat_natCast, Int.natCast_add, Int.natCast_one, hat, mx]
      congr 4
      split <;> omega) (by
      unfold F_impl_LongestChain_l1
      simp (disch := omega) only [ask_pos, if_pos, if_neg, InI_def, Int.toNat_natCast])
    have m2 := loop_seq (body := F_spec_LongestChain_l1 p (dualP p)) (fun i => ((i : Int), ((mx i fun x => hup p x + 1 : Nat) : Int))) p.Below.length ((mx p.Below.length fun x => hup p x + 1 : Nat) : Int) (fun i hi => by
      have := hb i
      unfold F_spec_LongestChain_l1
      simp (disch := omega) only [ask_pos, if_pos, InI_def, Int.natCast_add, Int.natCast_one, Option.bind_some, hup_dual hg hi, F_l1Most, mx]
      congr 4
      split <;> omega) (by
      unfold F_spec_LongestChain_l1
      simp (disch := omega) only [ask_pos, if_neg, InI_def])
    have hm : mx p.Below.length (fun x => hup p x + 1) ≤ 11 := mx_le fun x _ => by have := hb x; omega
    obtain ⟨out, o1, o2, o3⟩ := chains hs hg (mx p.Below.length fun x => hup p x + 1) [] (.inl ⟨rfl, fun x hx => mx_ge (f := fun x => hup p x + 1) hx, fun h => mx_at h⟩) (by omega) (by simp)
    refine ⟨(out, true), ?_, ?_, by dsimp only; rw [lim_def]; omega⟩
    · refine (congrArg (Option.bind · _) (show loopO (F_spec_LongestChain_l1 p (dualP p)) (0, 0) = _ from m2)).trans ?_
      simp only [Option.bind_some]
      rw [o3]; rfl
    · refine (congrArg (Option.bind · _) (show loopO (F_impl_LongestChain_l1 _ _) (0, -1) = _ from m1)).trans ?_
      simp only [Option.bind_some]
      rw [o2]; rfl
  · obtain ⟨o, e⟩ := order_bad p hs.1 hs.2 hg
    rw [e]
    exact ⟨([], false), by simp [hg], by simp, by simp⟩

end Go.Proofs.Ythcnmahjhahafaa.Ax
