/-
  Downsets, in order.
-/
import Derived.Test.YtgjmaofgokgdiaaP7
import Derived.Test.YtgjmaofgokgdiaaP22
import Derived.Test.YtgjmaofgokgdiaaP41
namespace Go.Proofs.Ytgjmaofgokgdiaa.Ax
open Go Classical

section
variable {p : SPoset}
/-- with each element all that are at most it -/
def isDown (p : SPoset) (S : Nat → Bool) : Prop := ∀ x y, x < p.Below.length → y < p.Below.length → S x = true → below p.Below y x = true → S y = true
theorem down_same (hg : good p.Below) (S : Nat → Bool) : sieve p.Below.length (downOf p (sieve p.Below.length S)) = sieve p.Below.length S ↔ isDown p S := by
  have ho := good_ord hg
  have key : ∀ y, y < p.Below.length → (downOf p (sieve p.Below.length S) y = true ↔ ∃ x, x < p.Below.length ∧ S x = true ∧ below p.Below y x = true) := fun y hy => by
    unfold downOf
    rw [decide_eq_true_eq]
    constructor
    · rintro ⟨x, hx, hm⟩
      obtain ⟨i, hi, hS, rfl⟩ := mem_sieve.1 hx
      exact ⟨i, hi, hS, decide_eq_true hm⟩
    · rintro ⟨x, hx, hS, hb⟩
      exact ⟨_, mem_sieve.2 ⟨x, hx, hS, rfl⟩, of_decide_eq_true hb⟩
  have memS : ∀ (q : Nat → Bool) (y : Nat), (((y : Nat) : Int) ∈ sieve p.Below.length q) ↔ y < p.Below.length ∧ q y = true := fun q y => by
    rw [mem_sieve]
    constructor
    · rintro ⟨i, h1, h2, e⟩
      have : y = i := by omega
      subst this; exact ⟨h1, h2⟩
    · rintro ⟨h1, h2⟩; exact ⟨y, h1, h2, rfl⟩
  constructor
  · intro e x y hx hy hS hb
    have : (y : Int) ∈ sieve p.Below.length (downOf p (sieve p.Below.length S)) := (memS _ y).2 ⟨hy, (key y hy).2 ⟨x, hx, hS, hb⟩⟩
    rw [e] at this
    exact ((memS _ y).1 this).2
  · intro hd
    refine sieve_congr fun y hy => ?_
    rw [Bool.eq_iff_iff, key y hy]
    exact ⟨fun ⟨x, hx, hS, hb⟩ => hd x y hx hy hS hb, fun hS => ⟨y, hy, hS, ho.refl y hy⟩⟩
theorem F_isDownset (hg : good p.Below) (S : Nat → Bool) : F_impl_order_isDownset (tab p.Below.length (below p.Below)) (sieve p.Below.length S) = some (decide (isDown p S)) := by
  have hL := lim_def
  have h10 : p.Below.length ≤ 10 := hg.1
  have htl := tab_len p.Below.length (below p.Below)
  have hsl := sieve_len p.Below.length S
  unfold F_impl_order_isDownset
  rw [htl, F_marks (by omega) (sieve_in _ _) (by omega)]
  simp only [Option.bind_some]
  have hmem : ∀ y, y < p.Below.length → (decide ((y : Int) ∈ sieve p.Below.length S) = S y) := fun y hy => by
    rw [Bool.eq_iff_iff, decide_eq_true_eq, mem_sieve]
    constructor
    · rintro ⟨i, h1, h2, e⟩
      have : y = i := by omega
      subst this; exact h2
    · intro h; exact ⟨y, hy, h, rfl⟩
  have hbm : (btab p.Below.length fun z => decide ((z : Int) ∈ sieve p.Below.length S)) = btab p.Below.length S := btab_congr hmem
  rw [hbm]
  have hbl := btab_len p.Below.length S
  have inner : ∀ i, i < (sieve p.Below.length S).length → ∃ x, x < p.Below.length ∧ S x = true ∧ nth (sieve p.Below.length S) i = (x : Int) ∧
      loopO (F_impl_order_isDownset_l1 (tab p.Below.length (below p.Below)) (sieve p.Below.length S) (btab p.Below.length S) (i : Int)) 0 = some (if ∃ y, 0 ≤ y ∧ y < p.Below.length ∧ ¬ (below p.Below y x = true → S y = true) then .inl () else .inr ()) := fun i hi => by
    obtain ⟨x, hx, hS, e⟩ := mem_sieve.1 (nth_mem hi)
    refine ⟨x, hx, hS, e, ?_⟩
    refine loop_find1 (body := F_impl_order_isDownset_l1 (tab p.Below.length (below p.Below)) (sieve p.Below.length S) (btab p.Below.length S) (i : Int)) (fun y => (y : Int)) 0 p.Below.length (fun y => ¬ (below p.Below y x = true → S y = true)) () () (Nat.zero_le _) (fun y _ hy hb => ?_) (fun y _ hy hb => ?_) ?_
    · have hb := Classical.not_not.1 hb
      have hrl := tab_row_len p.Below.length (below p.Below) y hy
      unfold F_impl_order_isDownset_l1
      rw [htl, if_pos (by omega), ask_pos (by omega), Int.toNat_natCast, Int.toNat_natCast, e, ask_pos (by rw [hrl]; omega), Int.toNat_natCast, tab_at _ _ y x hy hx]
      cases hc : below p.Below y x with
      | true =>
        rw [if_pos rfl, ask_pos (by omega), btab_at hy, hb hc, if_pos rfl, ask_pos (by unfold InI; omega)]; rfl
      | false =>
        rw [if_neg (by simp), ask_pos (by unfold InI; omega)]; rfl
    · have hc : below p.Below y x = true := Classical.byContradiction fun h => hb fun h' => absurd h' h
      have hs : S y = false := by
        cases h : S y with
        | false => rfl
        | true => exact absurd (fun _ => h) hb
      have hrl := tab_row_len p.Below.length (below p.Below) y hy
      unfold F_impl_order_isDownset_l1
      rw [htl, if_pos (by omega), ask_pos (by omega), Int.toNat_natCast, Int.toNat_natCast, e, ask_pos (by rw [hrl]; omega), Int.toNat_natCast, tab_at _ _ y x hy hx, hc, if_pos rfl, ask_pos (by omega), btab_at hy, hs, if_neg (by simp)]
    · unfold F_impl_order_isDownset_l1
      rw [htl, if_neg (by omega)]
  have hout := loop_find (body := F_impl_order_isDownset_l2 (tab p.Below.length (below p.Below)) (sieve p.Below.length S) (btab p.Below.length S)) (fun i => (i : Int)) (sieve p.Below.length S).length (fun i => ∃ y, y < p.Below.length ∧ ¬ (below p.Below y (nth (sieve p.Below.length S) i).toNat = true → S y = true)) () () (fun i hi hb => by
    obtain ⟨x, hx, hS, e, h⟩ := inner i hi
    rw [e, Int.toNat_natCast] at hb
    unfold F_impl_order_isDownset_l2
    rw [if_pos (by omega), ask_pos (by omega), h, if_neg (fun ⟨y, _, h1, h2⟩ => hb ⟨y, h1, h2⟩)]
    simp only [Option.bind_some]
    rw [ask_pos (by unfold InI; omega)]; rfl) (fun i hi hb => by
    obtain ⟨x, hx, hS, e, h⟩ := inner i hi
    rw [e, Int.toNat_natCast] at hb
    obtain ⟨y, h1, h2⟩ := hb
    unfold F_impl_order_isDownset_l2
    rw [if_pos (by omega), ask_pos (by omega), h, if_pos ⟨y, Nat.zero_le _, h1, h2⟩]
    simp only [Option.bind_some]) (by
    unfold F_impl_order_isDownset_l2
    rw [if_neg (by omega)]) 0 (by omega)
  have hout0 : loopO (F_impl_order_isDownset_l2 (tab p.Below.length (below p.Below)) (sieve p.Below.length S) (btab p.Below.length S)) 0 = _ := hout
  rw [hout0]
  by_cases hd : isDown p S
  · rw [if_neg, decide_eq_true hd]
    · rfl
    · rintro ⟨i, _, hi, y, hy, hn⟩
      obtain ⟨x, hx, hS, e, _⟩ := inner i hi
      rw [e, Int.toNat_natCast] at hn
      exact hn fun hb => hd x y hx hy hS hb
  · rw [if_pos, decide_eq_false hd]
    · rfl
    · apply Classical.byContradiction
      intro hc
      refine hd fun x y hx hy hS hb => Classical.byContradiction fun hn => hc ?_
      obtain ⟨i, hi, e⟩ := mem_nth.1 (mem_sieve.2 ⟨x, hx, hS, rfl⟩ : (x : Int) ∈ sieve p.Below.length S)
      exact ⟨i, Nat.zero_le _, hi, y, hy, by rw [e, Int.toNat_natCast]; exact fun h => hn (h hb)⟩
noncomputable def downM (p : SPoset) (m : Nat) : List (List Int) := pickM p.Below.length (fun k => decide (isDown p (bitB k))) m
theorem F_downsets (hg : good p.Below) : F_impl_order_downsets (tab p.Below.length (below p.Below)) = some (inOrder (downM p (2 ^ p.Below.length))) := by
  have hL := lim_def
  have h10 : p.Below.length ≤ 10 := hg.1
  have hp : 2 ^ p.Below.length ≤ 1048576 := pow_20 (by omega)
  have htl := tab_len p.Below.length (below p.Below)
  unfold F_impl_order_downsets
  have key := loop_seq (body := F_impl_order_downsets_l1 (tab p.Below.length (below p.Below))) (fun i => ((i : Int), downM p i)) (2 ^ p.Below.length) (downM p (2 ^ p.Below.length)) (fun i hi => by
    have hlen := pickM_len p.Below.length (fun k => decide (isDown p (bitB k))) i
    unfold F_impl_order_downsets_l1
    dsimp only
    rw [htl, ask_pos (by omega), shl_one (by omega), if_pos (by omega), F_bitsOf (by omega) hi]
    simp only [Option.bind_some]
    rw [F_isDownset hg]
    simp only [Option.bind_some]
    unfold downM
    rw [pickM_succ]
    by_cases hd : isDown p (bitB i)
    · rw [decide_eq_true hd, if_pos rfl, ask_pos (by simp; omega), ask_pos (by unfold InI; omega), if_pos rfl]; rfl
    · rw [decide_eq_false hd, if_neg (by simp), ask_pos (by unfold InI; omega), if_neg (by simp)]; rfl) (by
    unfold F_impl_order_downsets_l1
    dsimp only
    rw [htl, ask_pos (by omega), shl_one (by omega), if_neg (by omega)])
  have e0 : ((0 : Int), nilL (List Int)) = (((0 : Nat) : Int), downM p 0) := rfl
  rw [e0, key]
  simp only [Option.bind_some]
  have hlen := pickM_len p.Below.length (fun k => decide (isDown p (bitB k))) (2 ^ p.Below.length)
  rw [F_sortTerms (ys := inOrder (downM p (2 ^ p.Below.length))) (by unfold downM; omega) (fun r hr => by
    obtain ⟨k, _, _, rfl⟩ := pickM_row hr
    have := sieve_len p.Below.length (bitB k); omega) (inOrder_perm _) (inOrder_row _)]
  rfl
theorem F_l23Downsets (hs : small p) (hg : good p.Below) : F_spec_l23Downsets p = some (inOrder (downM p (2 ^ p.Below.length))) := by
  have hL := lim_def
  have h10 : p.Below.length ≤ 10 := hg.1
  have hp : 2 ^ p.Below.length ≤ 1048576 := pow_20 (by omega)
  unfold F_spec_l23Downsets
  obtain ⟨ys, e, h1, h2⟩ := loop_inv (body := F_spec_l23Downsets_l1 p) (fun s => ∃ i : Nat, s.1 = (i : Int) ∧ i ≤ 2 ^ p.Below.length ∧ inRow s.2 ∧ s.2.Perm (downM p i)) (fun s => 2 ^ p.Below.length - s.1.toNat) (fun ys => inRow ys ∧ ys.Perm (downM p (2 ^ p.Below.length))) (fun s hs' => by
    obtain ⟨x, xs⟩ := s
    obtain ⟨i, hi, hil, hr, hpm⟩ := hs'
    simp only at hi hil hr hpm
    subst hi
    have hlen := pickM_len p.Below.length (fun k => decide (isDown p (bitB k))) i
    have hxl : xs.length ≤ i := by rw [hpm.length_eq]; exact hlen
    have hrow : ∀ r ∈ xs, r.length ≤ LIM := fun r hr => by
      obtain ⟨k, _, _, rfl⟩ := pickM_row (hpm.mem_iff.1 hr)
      have := sieve_len p.Below.length (bitB k); omega
    have hsl := sieve_len p.Below.length (bitB i)
    unfold F_spec_l23Downsets_l1
    dsimp only
    by_cases hlt : i < 2 ^ p.Below.length
    · left
      rw [ask_pos (by omega), shl_one (by omega), if_pos (by omega), F_l5Bits (by omega) hlt]
      simp only [Option.bind_some]
      rw [F_l23Down hs (fun r hr => by obtain ⟨k, hk, rfl⟩ := mem_nth.1 hr; exact (good_row hg k hk).2) _ (sieve_in _ _) (by omega)]
      simp only [Option.bind_some]
      have hdl := sieve_len p.Below.length (downOf p (sieve p.Below.length (bitB i)))
      rw [F_l1Same (by omega)]
      simp only [Option.bind_some]
      by_cases hd : isDown p (bitB i)
      · rw [decide_eq_true ((down_same hg _).2 hd), if_pos rfl]
        obtain ⟨ys, e, g1, g2⟩ := F_l5Sort hr (by omega) hrow (l := sieve p.Below.length (bitB i)) (by omega)
        rw [e]
        simp only [Option.bind_some]
        rw [ask_pos (by unfold InI; omega)]
        refine ⟨_, rfl, ⟨i + 1, rfl, hlt, g1, ?_⟩, by simp only; omega⟩
        unfold downM
        rw [pickM_succ, if_pos (decide_eq_true hd)]
        refine g2.trans (List.Perm.trans (hpm.cons _) ?_)
        exact (List.perm_append_singleton _ _).symm
      · rw [decide_eq_false (fun h => hd ((down_same hg _).1 h)), if_neg (by simp), ask_pos (by unfold InI; omega)]
        refine ⟨_, rfl, ⟨i + 1, rfl, hlt, hr, ?_⟩, by simp only; omega⟩
        unfold downM
        rw [pickM_succ, if_neg (by simp [hd])]
        exact hpm
    · right
      have e : i = 2 ^ p.Below.length := by omega
      subst e
      rw [ask_pos (by omega), shl_one (by omega), if_neg (by omega)]
      exact ⟨_, rfl, hr, hpm⟩) (s := ((0 : Int), nilL (List Int))) ⟨0, rfl, Nat.zero_le _, List.Pairwise.nil, List.Perm.refl _⟩
  rw [e]
  simp only [Option.bind_some]
  rw [inOrder_is h1 h2]
theorem both_DownsetsOf (hs : small p) : ∃ r, F_spec_DownsetsOf p = some r ∧ F_impl_DownsetsOf p = some r ∧ r.1.length ≤ 1048576 ∧ ∀ q ∈ r.1, q.length ≤ 1048576 := by
  unfold F_spec_DownsetsOf F_impl_DownsetsOf
  rw [F_l23Good p hs.1 hs.2]
  simp only [Option.bind_some]
  by_cases hg : good p.Below
  · have h10 : p.Below.length ≤ 10 := hg.1
    have hp : 2 ^ p.Below.length ≤ 1048576 := pow_20 (by omega)
    rw [order_good p hs.1 hs.2 hg]
    simp only [Option.bind_some, hg, decide_true, if_true]
    rw [F_downsets hg, F_l23Downsets hs hg]
    refine ⟨_, rfl, rfl, ?_, fun q hq => ?_⟩
    · rw [(inOrder_perm _).length_eq]
      exact Nat.le_trans (pickM_len _ _ _) hp
    · obtain ⟨k, _, _, rfl⟩ := pickM_row ((inOrder_perm _).mem_iff.1 hq)
      have := sieve_len p.Below.length (bitB k); omega
  · obtain ⟨o, e⟩ := order_bad p hs.1 hs.2 hg
    rw [e]
    simp only [Option.bind_some, hg, decide_false, if_false, Bool.false_eq_true]
    exact ⟨_, rfl, rfl, by simp [nilL], by simp [nilL]⟩
end

end Go.Proofs.Ytgjmaofgokgdiaa.Ax
