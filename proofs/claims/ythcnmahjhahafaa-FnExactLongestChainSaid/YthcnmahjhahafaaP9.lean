/-
  Heights of the reference; HeightsOf.
-/
import Derived.Test.YthcnmahjhahafaaP8
namespace Go.Proofs.Ythcnmahjhahafaa.Ax
open Go Classical

theorem up_of {α β : Type} {F : Nat → α → β → Option Int} (h0 : ∀ a b, F 0 a b = none) (h : ∀ n, (∀ a b, LeO (F n a b) (F (n + 1) a b)) → ∀ a b, LeO (F (n + 1) a b) (F (n + 2) a b)) (a : α) (b : β) : upO fun n => F n a b := by
  have step : ∀ n, ∀ a b, LeO (F n a b) (F (n + 1) a b) := by
    intro n
    induction n with
    | zero => intro a b v e; rw [h0] at e; cases e
    | succ n ih => exact h n ih
  have key : ∀ n k v, F n a b = some v → F (n + k) a b = some v := by
    intro n k v e
    induction k with
    | zero => exact e
    | succ k ih => exact step (n + k) a b v ih
  intro n m v hnm e
  have := key n (m - n) v e
  rwa [show n + (m - n) = m by omega] at this

section
variable {p : SPoset}
theorem strict_down (hg : good p.Below) : Strict p.Below.length (rel (below p.Below) true) := by
  refine ⟨fun x _ => by simp [rel], fun x y z hx hy hz h1 h2 => ?_⟩
  simp only [rel, if_true, Bool.and_eq_true, decide_eq_true_eq] at h1 h2 ⊢
  refine ⟨?_, good_trans hg x y z hx hy hz h1.2 h2.2⟩
  rintro rfl
  exact h1.1 (good_anti hg x y hx hy h1.2 h2.2)
theorem strict_up (hg : good p.Below) : Strict p.Below.length (rel (below p.Below) false) := by
  refine ⟨fun x _ => by simp [rel], fun x y z hx hy hz h1 h2 => ?_⟩
  simp only [rel, Bool.false_eq_true, if_false, Bool.and_eq_true, decide_eq_true_eq] at h1 h2 ⊢
  refine ⟨?_, good_trans hg z y x hz hy hx h2.2 h1.2⟩
  rintro rfl
  exact h1.1 (good_anti hg y z hy hx h1.2 h2.2)

theorem l23Height_mono {s1 s2 : SPoset → Int → Option Int} (h : ∀ p x, LeO (s1 p x) (s2 p x)) (p : SPoset) (x : Int) : LeO (F_spec_l23Height_s s1 p x) (F_spec_l23Height_s s2 p x) := by
  unfold F_spec_l23Height_s
  refine LeO.bind (LeO.loop (fun s => ?_) _) fun _ => LeO.refl _
  obtain ⟨a, b⟩ := s
  unfold F_spec_l23Height_l1
  dsimp only
  exact LeO.ask (LeO.ite (LeO.ask (LeO.ask (LeO.ite (LeO.bind (h _ _) fun _ => LeO.refl _) (LeO.refl _)))) (LeO.refl _))
theorem l23Height_up (p : SPoset) (x : Int) : upO fun n => F_spec_l23Height n p x := up_of (F := F_spec_l23Height) (fun _ _ => rfl) (fun _ h a b => l23Height_mono h a b) p x

theorem F_l1Most (a b : Int) : F_spec_l1Most a b = some (if a > b then a else b) := by
  unfold F_spec_l1Most; split <;> rfl

theorem F_l23Height (hg : good p.Below) : ∀ k x : Nat, x < p.Below.length → many p.Below.length (fun z => rel (below p.Below) true z x) < k → F_spec_l23Height k p x = some (ht p.Below.length (rel (below p.Below) true) x : Int) := by
  have hs := strict_down hg
  have h10 := hg.1
  intro k
  induction k with
  | zero => intro x _ h; omega
  | succ k ih =>
    intro x hx hc
    show F_spec_l23Height_s (F_spec_l23Height k) p x = _
    unfold F_spec_l23Height_s
    have hrow := good_row hg x hx
    have hrl : (nth p.Below x).length ≤ p.Below.length := by rw [row_eq hg x hx]; exact sieve_len _ _
    obtain ⟨t, t1, t2⟩ := loop_inv (body := F_spec_l23Height_l1 (F_spec_l23Height k) p x) (fun s => 0 ≤ s.1 ∧ s.1 ≤ (nth p.Below x).length ∧ 0 ≤ s.2 ∧
        (∀ y, y < p.Below.length → (∃ j : Nat, (j : Int) < s.1 ∧ nth (nth p.Below x) j = (y : Int)) → y ≠ x → (ht p.Below.length (rel (below p.Below) true) y : Int) + 1 ≤ s.2) ∧
        s.2 ≤ ht p.Below.length (rel (below p.Below) true) x) (fun s => (nth p.Below x).length - s.1.toNat) (fun t => t = (ht p.Below.length (rel (below p.Below) true) x : Int)) (by
      rintro ⟨ii, m⟩ ⟨a, b, c, d, e⟩
      dsimp only at a b c d e
      obtain ⟨i, rfl⟩ := Int.eq_ofNat_of_zero_le a
      by_cases hi : i < (nth p.Below x).length
      · obtain ⟨y, hy⟩ := Int.eq_ofNat_of_zero_le (hrow.2 _ (nth_mem hi)).1
        have hyn : y < p.Below.length := by have := (hrow.2 _ (nth_mem hi)).2; omega
        have hyb : below p.Below y x = true := by simp only [below, decide_eq_true_eq]; rw [← hy]; exact nth_mem hi
        by_cases hyx : y = x
        · subst hyx
          refine .inl ⟨((i : Int) + 1, m), ?_, ⟨by dsimp only; omega, by dsimp only; omega, c, fun z hz hj hzy => ?_, e⟩, by dsimp only; omega⟩
          · unfold F_spec_l23Height_l1
            simp (disch := omega) only [ask_pos, if_pos, if_false, InI_def, Int.toNat_natCast, hy, ne_eq, not_true]
          · obtain ⟨j, hj1, hj2⟩ := hj
            dsimp only at hj1
            by_cases hji : j = i
            · subst hji; omega
            · exact d z hz ⟨j, by omega, hj2⟩ hzy
        · have hr : rel (below p.Below) true y x = true := by simp [rel, hyx, hyb]
          have hlt := ht_lt hs hx hyn hr
          have hle := ht_le (n := p.Below.length) (r := rel (below p.Below) true) x
          have hm := many_lt hs hx hyn hr
          have hyx' : ¬ (y : Int) = (x : Int) := by omega
          refine .inl ⟨((i : Int) + 1, if m > (ht p.Below.length (rel (below p.Below) true) y : Int) + 1 then m else (ht p.Below.length (rel (below p.Below) true) y : Int) + 1), ?_, ⟨by dsimp only; omega, by dsimp only; omega, by dsimp only; split <;> omega, fun z hz hj hzy => ?_, by dsimp only; split <;> omega⟩, by dsimp only; omega⟩
          · unfold F_spec_l23Height_l1
            simp (disch := omega) only [ask_pos, if_pos, if_true, InI_def, Int.toNat_natCast, Option.bind_some, hy, ne_eq, hyx', not_false_iff, ih y hyn (by omega), F_l1Most]
          · obtain ⟨j, hj1, hj2⟩ := hj
            dsimp only at hj1 ⊢
            by_cases hji : j = i
            · subst hji
              have : z = y := by omega
              subst this
              split <;> omega
            · have := d z hz ⟨j, by omega, hj2⟩ hzy
              split <;> omega
      · refine .inr ⟨m, ?_, ?_⟩
        · unfold F_spec_l23Height_l1
          simp (disch := omega) only [ask_pos, if_pos, if_neg, InI_def, Int.toNat_natCast]
        · have := ht_max hs (m := m.toNat) hx (fun y hy hr => by
            have hb : below p.Below y x = true := by simp only [rel, if_true, Bool.and_eq_true] at hr; exact hr.2
            have hyx : y ≠ x := by simp only [rel, if_true, Bool.and_eq_true, decide_eq_true_eq] at hr; exact hr.1
            have hmem : (y : Int) ∈ nth p.Below x := by simpa [below] using hb
            obtain ⟨j, hj, hj2⟩ := mem_nth.1 hmem
            have := d y hy ⟨j, by omega, hj2⟩ hyx
            omega)
          omega) (s := (0, 0)) ⟨by simp, by simp, by simp, (fun y _ hj => by obtain ⟨j, hj, _⟩ := hj; dsimp only at hj; omega), by simp⟩
    rw [t1, t2]
    rfl
theorem lim_l23Height (hg : good p.Below) {x : Nat} (hx : x < p.Below.length) : (limO fun n => F_spec_l23Height n p x) = some (ht p.Below.length (rel (below p.Below) true) x : Int) :=
  limO_of (l23Height_up p x) (F_l23Height hg (p.Below.length + 1) x hx (by have := many_le p.Below.length (fun z => rel (below p.Below) true z x); omega))
end

noncomputable def heights' (p : SPoset) (i : Nat) : List Int := (List.range i).map fun x => (ht p.Below.length (rel (below p.Below) true) x : Int)
theorem heights'_len (p : SPoset) (i : Nat) : (heights' p i).length = i := by simp [heights']
theorem heights'_succ (p : SPoset) (i : Nat) : heights' p (i + 1) = heights' p i ++ [(ht p.Below.length (rel (below p.Below) true) i : Int)] := by simp [heights', List.range_succ]

theorem both_HeightsOf {p : SPoset} (hs : small p) : ∃ r, F_spec_HeightsOf p = some r ∧ F_impl_HeightsOf p = some r ∧ r.1.length ≤ LIM := by
  unfold F_spec_HeightsOf F_impl_HeightsOf
  rw [F_l23Good p hs.1 hs.2]
  simp only [Option.bind_some]
  by_cases hg : good p.Below
  · rw [order_good p hs.1 hs.2 hg]
    have h10 := hg.1
    simp only [Option.bind_some, hg, decide_true, if_true]
    rw [F_lengths (strict_down hg) (by omega)]
    refine ⟨(heights p.Below.length (rel (below p.Below) true), true), ?_, rfl, by simp [heights]; rw [lim_def]; omega⟩
    have := loop_seq (body := F_spec_HeightsOf_l1 p) (fun i => ((i : Int), heights' p i)) p.Below.length (heights p.Below.length (rel (below p.Below) true)) (fun i hi => by
      unfold F_spec_HeightsOf_l1
      simp (disch := omega) only [ask_pos, if_pos, InI_def, lim_def, List.length_cons, List.length_nil, Int.natCast_add, Int.natCast_one, Option.bind_some, lim_l23Height hg hi, heights'_len, heights'_succ]) (by
      unfold F_spec_HeightsOf_l1
      simp (disch := omega) only [ask_pos, if_neg, InI_def, lim_def, List.length_cons, List.length_nil]
      rfl)
    have e0 : (((0 : Nat) : Int), heights' p 0) = (0, nilL Int) := rfl
    simp only [e0] at this
    rw [this]; rfl
  · obtain ⟨o, e⟩ := order_bad p hs.1 hs.2 hg
    rw [e]
    exact ⟨([], false), by simp [hg], by simp, by simp⟩

end Go.Proofs.Ythcnmahjhahafaa.Ax
