/-
  The searches of the program and the reference for a follower; the width.
-/
import Derived.Test.YtpfikenknmlajaaP9
import Derived.Test.YtpfikenknmlajaaP100
namespace Go.Proofs.Ytpfikenknmlajaa.Ax
open Go Classical

theorem upO_stepW {α : Type} {f : Nat → Option α} (h : ∀ n, LeO (f n) (f (n + 1))) : upO f := by
  have key : ∀ n k v, f n = some v → f (n + k) = some v := by
    intro n k v e
    induction k with
    | zero => exact e
    | succ k ih => exact h (n + k) v ih
  intro n m v hnm e
  have := key n (m - n) v e
  rwa [show n + (m - n) = m by omega] at this
/-- how many places have not been seen -/
def unseen (n : Nat) (s : List Bool) : Nat := cntN n fun k => !nth s k
theorem unseen_set {n k : Nat} {s : List Bool} (hs : s.length = n) (hk : k < n) (h : nth s k = false) : unseen n s = unseen n (s.set k true) + 1 := by
  refine cntN_one hk ?_ (by simp [h]) fun i hi hne => ?_
  · rw [nth_set _ _ _ _ (by omega), if_pos rfl]; rfl
  · rw [nth_set _ _ _ _ (by omega), if_neg (Ne.symm hne)]
theorem unseen_mono {n : Nat} {s s' : List Bool} (h : ∀ k, k < n → nth s k = true → nth s' k = true) : unseen n s' ≤ unseen n s := cntN_mono fun k hk hh => by
  cases hb : nth s k with
  | false => rfl
  | true => rw [h k hk hb] at hh; cases hh
theorem widthOf1_mono {less : Int → Int → Option Bool} {s1 s2 : Int → Int → List Bool → List Int → Option (Bool × List Bool × List Int)} (h : ∀ i a s m, LeO (s1 i a s m) (s2 i a s m)) (i a : Int) (s : List Bool) (m : List Int) : LeO (F_impl_widthOf_1_s s1 i a s less m) (F_impl_widthOf_1_s s2 i a s less m) := by
  unfold F_impl_widthOf_1_s
  refine LeO.bind (LeO.loop (fun q => ?_) _) fun _ => LeO.refl _
  obtain ⟨x, y, z⟩ := q
  unfold F_impl_widthOf_1_l1
  dsimp only
  refine LeO.ite (LeO.bind (LeO.refl _) fun t => ?_) (LeO.refl _)
  cases t with
  | inl _ => exact LeO.refl _
  | inr _ => exact LeO.ask (LeO.ask (LeO.ite (LeO.refl _) (LeO.ask (LeO.bind (h _ _ _ _) fun _ => LeO.refl _))))
theorem widthOf1_up (less : Int → Int → Option Bool) (i a : Int) (s : List Bool) (m : List Int) : upO fun k => F_impl_widthOf_1 less k i a s m := by
  have step : ∀ k i a s m, LeO (F_impl_widthOf_1 less k i a s m) (F_impl_widthOf_1 less (k + 1) i a s m) := by
    intro k
    induction k with
    | zero => intro i a s m v e; cases e
    | succ k ih => intro i a s m; exact widthOf1_mono ih i a s m
  exact upO_stepW fun k => step k i a s m
section
variable {n : Nat} {E : Nat → Nat → Bool} (hn : n ≤ 1000000)
include hn
theorem widthOf1_try {less : Int → Int → Option Bool} (hl : ∀ i k : Nat, i < n → k < n → less i k = some (E i k)) : ∀ (u : Nat) (i : Nat) (s : List Bool) (m : List Int), i < n → s.length = n → MtOk n E m → unseen n s ≤ u →
    ∃ o s' m', F_impl_widthOf_1 less (u + 1) i n s m = some (o, s', m') ∧ TryL n E 0 i s m o s' m' := by
  intro u
  induction u with
  | zero =>
    intro i s m hi hs hm hu
    have inner : ∀ d k, k + d = n → loopO (F_impl_widthOf_1_l1 (F_impl_widthOf_1 less 0) i n less) ((k : Int), s, m) = some (.inr (s, m)) ∧ TryL n E k i s m false s m := by
      intro d
      induction d with
      | zero =>
        intro k hk
        have : k = n := by omega
        subst this
        refine ⟨loopO_stop ?_, .done i s m⟩
        unfold F_impl_widthOf_1_l1
        dsimp only
        rw [if_neg (by omega)]
      | succ d ih =>
        intro k hk
        have hs1 : nth s k = true := by
          cases hb : nth s k with
          | true => rfl
          | false =>
            have := cntN_pos (p := fun k => !nth s k) (show k < n by omega) (by simp [hb])
            unfold unseen at hu
            omega
        obtain ⟨e, t⟩ := ih (k + 1) (by omega)
        refine ⟨?_, .skip (by omega) (.inl hs1) t⟩
        rw [loopO_next (s' := (((k + 1 : Nat) : Int), s, m)) ?_]
        · exact e
        · unfold F_impl_widthOf_1_l1
          dsimp only
          rw [if_pos (by omega), ask_pos (by omega), Int.toNat_natCast, if_pos hs1]
          simp only [Option.bind_some]
          rw [ask_pos (by unfold InI; omega)]
          rfl
    obtain ⟨e, t⟩ := inner n 0 (by omega)
    refine ⟨false, s, m, ?_, t⟩
    show F_impl_widthOf_1_s (F_impl_widthOf_1 less 0) i n s less m = _
    unfold F_impl_widthOf_1_s
    have e' : loopO (F_impl_widthOf_1_l1 (F_impl_widthOf_1 less 0) i n less) (0, s, m) = _ := e
    rw [e']
    rfl
  | succ u ihu =>
    intro i s m hi hs hm hu
    have inner : ∀ d k (s : List Bool), k + d = n → s.length = n → unseen n s ≤ u + 1 → ∃ o s' m', loopO (F_impl_widthOf_1_l1 (F_impl_widthOf_1 less (u + 1)) i n less) ((k : Int), s, m) = some (if o = true then .inl (s', m') else .inr (s', m')) ∧ TryL n E k i s m o s' m' := by
      intro d
      induction d with
      | zero =>
        intro k s hk hs hu
        have : k = n := by omega
        subst this
        refine ⟨false, s, m, loopO_stop ?_, .done i s m⟩
        unfold F_impl_widthOf_1_l1
        dsimp only
        rw [if_neg (by omega)]
        rfl
      | succ d ih =>
        intro k s hk hs hu
        have hml := hm.len
        have skip : (nth s k = true ∨ E i k = false) → ∃ o s' m', loopO (F_impl_widthOf_1_l1 (F_impl_widthOf_1 less (u + 1)) i n less) ((k : Int), s, m) = some (if o = true then .inl (s', m') else .inr (s', m')) ∧ TryL n E k i s m o s' m' := by
          intro hsk
          obtain ⟨o, s', m', e, t⟩ := ih (k + 1) s (by omega) hs hu
          refine ⟨o, s', m', ?_, .skip (by omega) hsk t⟩
          rw [loopO_next (s' := (((k + 1 : Nat) : Int), s, m)) ?_]
          · exact e
          · unfold F_impl_widthOf_1_l1
            dsimp only
            rw [if_pos (by omega), ask_pos (by omega), Int.toNat_natCast]
            by_cases hb : nth s k = true
            · rw [if_pos hb]
              simp only [Option.bind_some]
              rw [ask_pos (by unfold InI; omega)]
              rfl
            · rw [if_neg hb, hl i k hi (by omega)]
              rcases hsk with h | h
              · exact absurd h hb
              · rw [h]
                simp only [Option.bind_some, Bool.false_eq_true, if_false]
                rw [ask_pos (by unfold InI; omega)]
                rfl
        cases hb : nth s k with
        | true => exact skip (.inl hb)
        | false =>
          cases he : E i k with
          | false => exact skip (.inr he)
          | true =>
            have hset : (s.set k true).length = n := by rw [List.length_set]; exact hs
            have hun := unseen_set hs (show k < n by omega) hb
            rcases hm.own k (by omega) with hf | ⟨j, hj, hf, _⟩
            · refine ⟨true, s.set k true, m.set k (i : Int), loopO_stop ?_, .free (by omega) hb he hf⟩
              unfold F_impl_widthOf_1_l1
              dsimp only
              rw [if_pos (by omega), ask_pos (by omega), Int.toNat_natCast, if_neg (by simp [hb]), hl i k hi (by omega), he]
              simp only [Option.bind_some, if_true]
              rw [ask_pos (by omega), ask_pos (by omega), if_pos (by omega), ask_pos (by omega)]
            · obtain ⟨o1, s1, m1, e1, t1⟩ := ihu j (s.set k true) m hj hset hm (by omega)
              have q := t1.out hset hm hj
              cases o1 with
              | true =>
                refine ⟨true, s1, m1.set k (i : Int), loopO_stop ?_, .push (by omega) hb he hf t1⟩
                have hm1 := q.2.2.1.len
                unfold F_impl_widthOf_1_l1
                dsimp only
                rw [if_pos (by omega), ask_pos (by omega), Int.toNat_natCast, if_neg (by simp [hb]), hl i k hi (by omega), he]
                simp only [Option.bind_some, if_true]
                rw [ask_pos (by omega), ask_pos (by omega), if_neg (by omega), ask_pos (by omega), hf, e1]
                simp only [Option.bind_some, if_true]
                rw [ask_pos (by omega)]
              | false =>
                have em := q.2.2.2.2.2 rfl
                subst em
                have hu1 : unseen n s1 ≤ u + 1 := by
                  have := unseen_mono (n := n) (s := s.set k true) (s' := s1) q.2.1
                  omega
                obtain ⟨o, s', m', e, t⟩ := ih (k + 1) s1 (by omega) q.1 hu1
                refine ⟨o, s', m', ?_, .back (by omega) hb he hf t1 t⟩
                rw [loopO_next (s' := (((k + 1 : Nat) : Int), s1, m1)) ?_]
                · exact e
                · unfold F_impl_widthOf_1_l1
                  dsimp only
                  rw [if_pos (by omega), ask_pos (by omega), Int.toNat_natCast, if_neg (by simp [hb]), hl i k hi (by omega), he]
                  simp only [Option.bind_some, if_true]
                  rw [ask_pos (by omega), ask_pos (by omega), if_neg (by omega), ask_pos (by omega), hf, e1]
                  simp only [Option.bind_some, Bool.false_eq_true, if_false]
                  rw [ask_pos (by unfold InI; omega)]
                  rfl
    obtain ⟨o, s', m', e, t⟩ := inner n 0 s (by omega) hs hu
    refine ⟨o, s', m', ?_, t⟩
    show F_impl_widthOf_1_s (F_impl_widthOf_1 less (u + 1)) i n s less m = _
    unfold F_impl_widthOf_1_s
    have e' : loopO (F_impl_widthOf_1_l1 (F_impl_widthOf_1 less (u + 1)) i n less) (0, s, m) = _ := e
    rw [e']
    cases o <;> rfl
/-- the width: all but as many as a largest matching has -/
theorem F_widthOfM {less : Int → Int → Option Bool} (hl : ∀ i k : Nat, i < n → k < n → less i k = some (E i k)) : ∃ m S D, F_impl_widthOf n less = some ((n : Int) - (cntN n S : Nat)) ∧ MtInv n E n m S D := by
  have hL := lim_def
  unfold F_impl_widthOf
  rw [ask_pos (by omega), Int.toNat_natCast]
  have k1 := loop_seq (body := F_impl_widthOf_l1 n) (fun i => ((i : Int), List.replicate i (-1 : Int) ++ List.replicate (n - i) 0)) n (List.replicate n (-1)) (fun i hi => by
    unfold F_impl_widthOf_l1
    dsimp only
    rw [Int.toNat_natCast, if_pos (by omega), ask_pos (by simp; omega), ask_pos (by unfold InI; omega), Int.toNat_natCast, set_put _ _ _ hi (by simp), List.replicate_succ']
    rfl) (by
    unfold F_impl_widthOf_l1
    dsimp only
    rw [Int.toNat_natCast, if_neg (by omega), Nat.sub_self]
    simp)
  have k1' : loopO (F_impl_widthOf_l1 n) (0, List.replicate n 0) = some (List.replicate n (-1)) := by simpa using k1
  rw [k1']
  simp only [Option.bind_some]
  obtain ⟨t, e, m, S, D, h1, h2⟩ := loop_inv (body := F_impl_widthOf_l2 n less) (fun s => ∃ (i : Nat) (S D : Nat → Bool), s.1 = (i : Int) ∧ i ≤ n ∧ MtInv n E i s.2.2.2 S D ∧ (∀ j, i ≤ j → S j = false) ∧ s.2.1 = (n : Int) - (cntN n S : Nat)) (fun s => n - s.1.toNat) (fun t => ∃ m S D, t = (n : Int) - (cntN n S : Nat) ∧ MtInv n E n m S D) (by
    rintro ⟨x, w, sn, m⟩ ⟨i, S, D, rfl, hi, hM, hS, hw⟩
    dsimp only at hM hw
    have hcn := cntN_le n S
    unfold F_impl_widthOf_l2
    dsimp only
    by_cases hin : i < n
    · obtain ⟨o, s', m', e, t⟩ := widthOf1_try hn hl (unseen n (List.replicate n false)) i (List.replicate n false) m hin (by simp) hM.ok (Nat.le_refl _)
      have e2 : (limO fun k => F_impl_widthOf_1 less k i n (List.replicate n false) m) = some (o, s', m') := limO_of (widthOf1_up less i n (List.replicate n false) m) e
      obtain ⟨D', hM'⟩ := hM.step hin t
      rw [if_pos (by omega), ask_pos (by omega), Int.toNat_natCast, e2]
      simp only [Option.bind_some]
      have hS' : ∀ j, i + 1 ≤ j → (if j = i then o else S j) = false := fun j hj => by rw [if_neg (by omega)]; exact hS j (by omega)
      cases o with
      | true =>
        have hc : cntN n (fun j => if j = i then true else S j) = cntN n S + 1 := cntN_one hin (hS i (Nat.le_refl _)) (by simp) fun j hj hne => by rw [if_neg hne]
        rw [if_pos rfl, ask_pos (by unfold InI; omega), ask_pos (by unfold InI; omega)]
        exact .inl ⟨_, rfl, ⟨i + 1, _, D', rfl, hin, hM', hS', by dsimp only; omega⟩, by dsimp only; omega⟩
      | false =>
        have hc : cntN n (fun j => if j = i then false else S j) = cntN n S := cntN_congr fun j hj => by
          by_cases h : j = i
          · rw [if_pos h, h]; exact (hS i (Nat.le_refl _)).symm
          · rw [if_neg h]
        rw [if_neg (by simp), ask_pos (by unfold InI; omega)]
        exact .inl ⟨_, rfl, ⟨i + 1, _, D', rfl, hin, hM', hS', by dsimp only; omega⟩, by dsimp only; omega⟩
    · have : i = n := by omega
      subst this
      rw [if_neg (by omega)]
      exact .inr ⟨_, rfl, m, S, D, hw, hM⟩) (s := ((0 : Int), (n : Int), nilL Bool, List.replicate n (-1))) ⟨0, fun _ => false, fun _ => false, rfl, Nat.zero_le _, MtInv.start n E, fun _ _ => rfl, by rw [cntN_none]; dsimp only; omega⟩
  rw [e]
  exact ⟨m, S, D, congrArg some h1, h2⟩
end
/-- two searches over the same edges find as many -/
theorem mt_same {n : Nat} {E : Nat → Nat → Bool} {m m' : List Int} {S S' D D' : Nat → Bool} (h : MtInv n E n m S D) (h' : MtInv n E n m' S' D') : cntN n S = cntN n S' := by
  have h1 := h'.most h.one
  have h2 := h.most h'.one
  rw [h.size] at h1
  rw [h'.size] at h2
  omega

end Go.Proofs.Ytpfikenknmlajaa.Ax
