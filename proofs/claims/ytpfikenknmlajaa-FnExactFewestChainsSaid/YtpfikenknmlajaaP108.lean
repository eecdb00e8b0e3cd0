/-
  FewestChains: what the program and the reference compute.
-/
import Derived.Test.YtpfikenknmlajaaP10
import Derived.Test.YtpfikenknmlajaaP11
import Derived.Test.YtpfikenknmlajaaP106
namespace Go.Proofs.Ytpfikenknmlajaa.Ax
open Go Classical

/-- less, of an order -/
def lessB (f : Nat → Nat → Bool) (x y : Nat) : Bool := decide (x ≠ y) && f x y
theorem less_str {n : Nat} {f : Nat → Nat → Bool} (h : Ord n f) : StrO n (lessB f) := by
  refine ⟨fun x _ => by simp [lessB], fun x y z hx hy hz h1 h2 => ?_⟩
  unfold lessB at h1 h2 ⊢
  rw [Bool.and_eq_true, decide_eq_true_eq] at h1 h2 ⊢
  refine ⟨fun e => ?_, h.trans x y z hx hy hz h1.2 h2.2⟩
  subst e
  exact h1.1 (h.anti x y hx hy h1.2 h2.2)
/-- the places given away, as marks -/
def Led (n : Nat) (φ : List Int) (led : List Bool) : Prop := led.length = n ∧ ∀ k, k < n → (nth led k = true ↔ nth φ k ≠ -1)
theorem Led.no {n : Nat} {φ : List Int} {led : List Bool} (h : Led n φ led) {k : Nat} (hk : k < n) : nth led k = false ↔ nth φ k = -1 := by
  cases hb : nth led k with
  | true => exact ⟨fun hh => (by cases hh), fun hh => absurd hh ((h.2 k hk).1 hb)⟩
  | false =>
    refine ⟨fun _ => Classical.byContradiction fun hc => ?_, fun _ => rfl⟩
    rw [(h.2 k hk).2 hc] at hb; cases hb
theorem Led.put {n : Nat} {φ : List Int} {led : List Bool} (h : Led n φ led) (hφ : φ.length = n) {y i : Nat} : Led n (φ.set y (i : Int)) (led.set y true) := by
  refine ⟨by rw [List.length_set]; exact h.1, fun k hk => ?_⟩
  have := h.1
  rw [nth_set _ _ _ _ (by omega), nth_set _ _ _ _ (by omega)]
  by_cases e : y = k
  · rw [if_pos e, if_pos e]
    exact ⟨fun _ => by omega, fun _ => rfl⟩
  · rw [if_neg e, if_neg e]; exact h.2 k hk
theorem match_mono {s1 s2 : SPoset → Int → List Bool → List Bool → List Int → Option (Bool × List Bool × List Int)} (h : ∀ p x t s m, LeO (s1 p x t s m) (s2 p x t s m)) (p : SPoset) (x : Int) (t s : List Bool) (m : List Int) : LeO (F_spec_l23Match_s s1 p x t s m) (F_spec_l23Match_s s2 p x t s m) := by
  unfold F_spec_l23Match_s
  refine LeO.bind (LeO.loop (fun q => ?_) _) fun _ => LeO.refl _
  obtain ⟨a, b, c⟩ := q
  unfold F_spec_l23Match_l1
  dsimp only
  refine LeO.ite (LeO.bind (LeO.refl _) fun t => ?_) (LeO.refl _)
  cases t with
  | inl _ => exact LeO.refl _
  | inr _ => exact LeO.ask (LeO.ask (LeO.ite (LeO.refl _) (LeO.ask (LeO.bind (h _ _ _ _ _) fun _ => LeO.refl _))))
theorem match_up (p : SPoset) (x : Int) (t s : List Bool) (m : List Int) : upO fun k => F_spec_l23Match k p x t s m := by
  have step : ∀ k p x t s m, LeO (F_spec_l23Match k p x t s m) (F_spec_l23Match (k + 1) p x t s m) := by
    intro k
    induction k with
    | zero => intro p x t s m v e; cases e
    | succ k ih => intro p x t s m; exact match_mono ih p x t s m
  exact upO_stepW fun k => step k p x t s m
section
variable {p : SPoset} {n i0 : Nat} {φ : List Int} {tk : List Bool} (hs : small p) (hn : n ≤ 1000) (hP : p.Below.length = n) (ht : Led n φ tk)
include hs hn hP ht
theorem match_skip {g : Nat} {j k : Nat} {s : List Bool} {m : List Int} (_hj : j < n) (hij : i0 ≤ j) (hk : k < n) (hsl : s.length = n) (h : nth s k = true ∨ frG (lessB (below p.Below)) i0 φ j k = false) : F_spec_l23Match_l1 (F_spec_l23Match g) p j tk ((k : Int), s, m) = some (.inl (((k + 1 : Nat) : Int), s, m)) := by
  have htl := ht.1
  unfold F_spec_l23Match_l1
  dsimp only
  rw [if_pos (by omega), F_l23Less hs j k (by omega)]
  simp only [Option.bind_some]
  by_cases hl : lessB (below p.Below) j k = true
  · have hl' : (decide (j ≠ k) && below p.Below j k) = true := hl
    rw [hl', if_pos rfl, ask_pos (by omega), Int.toNat_natCast]
    by_cases htk : nth tk k = true
    · rw [if_pos htk]
      simp only [Option.bind_some]
      rw [ask_pos (by unfold InI; omega)]
      rfl
    · rw [if_neg htk, ask_pos (by omega)]
      have hf : frG (lessB (below p.Below)) i0 φ j k = true := frG_true.2 ⟨hij, (ht.no hk).1 (by simpa using htk), hl⟩
      rcases h with h | h
      · rw [if_pos h]
        simp only [Option.bind_some]
        rw [ask_pos (by unfold InI; omega)]
        rfl
      · rw [hf] at h; cases h
  · have hl' : ¬ (decide (j ≠ k) && below p.Below j k) = true := hl
    rw [if_neg hl']
    simp only [Option.bind_some]
    rw [ask_pos (by unfold InI; omega)]
    rfl
theorem match_go {g : Nat} {j k : Nat} {s : List Bool} {m : List Int} (hk : k < n) (hsl : s.length = n) (hml : m.length = n) (hb : nth s k = false) (he : frG (lessB (below p.Below)) i0 φ j k = true) : F_spec_l23Match_l1 (F_spec_l23Match g) p j tk ((k : Int), s, m) = (if nth m k < 0 then some (.inr (.inl (s.set k true, m.set k (j : Int)))) else (F_spec_l23Match g p (nth m k) tk (s.set k true) m).bind fun (r, u, v) => if r = true then ask (0 ≤ (k : Int) ∧ (k : Int) < (v.length : Int)) <| some (.inr (.inl (u, v.set k (j : Int)))) else some (.inl (((k + 1 : Nat) : Int), u, v))) := by
  have htl := ht.1
  obtain ⟨e1, e2, e3⟩ := frG_true.1 he
  have e3' : (decide (j ≠ k) && below p.Below j k) = true := e3
  have htk := (ht.no hk).2 e2
  unfold F_spec_l23Match_l1
  dsimp only
  rw [if_pos (by omega), F_l23Less hs j k (by omega)]
  simp only [Option.bind_some]
  rw [e3', if_pos rfl, ask_pos (by omega), Int.toNat_natCast, if_neg (by simp [htk]), ask_pos (by omega), if_neg (by simp [hb])]
  simp only [Option.bind_some]
  rw [ask_pos (by omega), ask_pos (by omega), ask_pos (by omega), ask_pos (by omega)]
  by_cases h0 : nth m k < 0
  · rw [if_pos h0, if_pos h0]
  · rw [if_neg h0, if_neg h0]
    congr 1
    funext q
    obtain ⟨r, u, v⟩ := q
    dsimp only
    by_cases hr : r = true
    · rw [if_pos hr, if_pos hr]
    · rw [if_neg hr, if_neg hr, ask_pos (by unfold InI; omega)]
      rfl
theorem match_try : ∀ (u : Nat) (j : Nat) (s : List Bool) (m : List Int), i0 ≤ j → j < n → s.length = n → MtOk n (frG (lessB (below p.Below)) i0 φ) m → unseen n s ≤ u →
    ∃ o s' m', F_spec_l23Match (u + 1) p j tk s m = some (o, s', m') ∧ TryL n (frG (lessB (below p.Below)) i0 φ) 0 j s m o s' m' := by
  intro u
  induction u using Nat.strongRecOn with
  | ind u ihu =>
    intro i s m hi0 hi hs' hm hu
    have inner : ∀ d k (s : List Bool), k + d = n → s.length = n → unseen n s ≤ u → ∃ o s' m', loopO (F_spec_l23Match_l1 (F_spec_l23Match u) p i tk) ((k : Int), s, m) = some (if o = true then .inl (s', m') else .inr (s', m')) ∧ TryL n (frG (lessB (below p.Below)) i0 φ) k i s m o s' m' := by
      intro d
      induction d with
      | zero =>
        intro k s hk hsl hu
        have : k = n := by omega
        subst this
        refine ⟨false, s, m, loopO_stop ?_, .done i s m⟩
        unfold F_spec_l23Match_l1
        dsimp only
        rw [if_neg (by omega)]
        rfl
      | succ d ih =>
        intro k s hk hsl hu
        have hml := hm.len
        have skip : (nth s k = true ∨ frG (lessB (below p.Below)) i0 φ i k = false) → ∃ o s' m', loopO (F_spec_l23Match_l1 (F_spec_l23Match u) p i tk) ((k : Int), s, m) = some (if o = true then .inl (s', m') else .inr (s', m')) ∧ TryL n (frG (lessB (below p.Below)) i0 φ) k i s m o s' m' := by
          intro hsk
          obtain ⟨o, s', m', e, t⟩ := ih (k + 1) s (by omega) hsl hu
          refine ⟨o, s', m', ?_, .skip (by omega) hsk t⟩
          rw [loopO_next (match_skip hs hn hP ht hi hi0 (by omega) hsl hsk)]
          exact e
        cases hb : nth s k with
        | true => exact skip (.inl hb)
        | false =>
          cases he : frG (lessB (below p.Below)) i0 φ i k with
          | false => exact skip (.inr he)
          | true =>
            have hset : (s.set k true).length = n := by rw [List.length_set]; exact hsl
            have hun := unseen_set hsl (show k < n by omega) hb
            have go := match_go (g := u) hs hn hP ht (show k < n by omega) hsl hml hb he
            rcases hm.own k (by omega) with hf | ⟨j, hj, hf, hjE⟩
            · refine ⟨true, s.set k true, m.set k (i : Int), loopO_stop ?_, .free (by omega) hb he hf⟩
              rw [go, if_pos (by omega)]
              rfl
            · obtain ⟨v, rfl⟩ : ∃ v, u = v + 1 := ⟨u - 1, by omega⟩
              obtain ⟨o1, s1, m1, e1, t1⟩ := ihu v (by omega) j (s.set k true) m (frG_true.1 hjE).1 hj hset hm (by omega)
              have q := t1.out hset hm hj
              rw [if_neg (by omega), hf, e1] at go
              simp only [Option.bind_some] at go
              cases o1 with
              | true =>
                have hm1 := q.2.2.1.len
                rw [if_pos rfl, ask_pos (by omega)] at go
                exact ⟨true, s1, m1.set k (i : Int), loopO_stop go, .push (by omega) hb he hf t1⟩
              | false =>
                have em := q.2.2.2.2.2 rfl
                subst em
                rw [if_neg (by simp)] at go
                have hu1 : unseen n s1 ≤ v + 1 := by
                  have := unseen_mono (n := n) (s := s.set k true) (s' := s1) q.2.1
                  omega
                obtain ⟨o, s', m', e, t⟩ := ih (k + 1) s1 (by omega) q.1 hu1
                refine ⟨o, s', m', ?_, .back (by omega) hb he hf t1 t⟩
                rw [loopO_next go]
                exact e
    obtain ⟨o, s', m', e, t⟩ := inner n 0 s (by omega) hs' hu
    refine ⟨o, s', m', ?_, t⟩
    show F_spec_l23Match_s (F_spec_l23Match u) p i tk s m = _
    unfold F_spec_l23Match_s
    have e' : loopO (F_spec_l23Match_l1 (F_spec_l23Match u) p i tk) (0, s, m) = _ := e
    rw [e']
    cases o <;> rfl
theorem F_followers (hi : i0 ≤ n) : ∃ v : Nat, F_spec_l23Followers p i0 tk = some (v : Int) ∧ isNu n (frG (lessB (below p.Below)) i0 φ) v := by
  have hL := lim_def
  unfold F_spec_l23Followers
  have k1 := loop_seq (body := F_spec_l23Followers_l1 p i0 tk) (fun i => ((i : Int), List.replicate i (-1 : Int))) n (List.replicate n (-1)) (fun i hi => by
    unfold F_spec_l23Followers_l1
    dsimp only
    rw [if_pos (by omega), ask_pos (by simp; omega), ask_pos (by unfold InI; omega), List.replicate_succ']
    rfl) (by
    unfold F_spec_l23Followers_l1
    dsimp only
    rw [if_neg (by omega)])
  have k1' : loopO (F_spec_l23Followers_l1 p i0 tk) (0, nilL Int) = some (List.replicate n (-1)) := k1
  rw [k1']
  simp only [Option.bind_some]
  have st : MtInv n (frG (lessB (below p.Below)) i0 φ) i0 (List.replicate n (-1)) (fun _ => false) fun _ => false := by
    have h0 := MtInv.start n (frG (lessB (below p.Below)) i0 φ)
    refine ⟨h0.ok, fun j => ?_, (fun k _ h => nomatch h), fun j hj _ k hk he => ?_⟩
    · rw [h0.cnt j, if_neg (by omega), if_neg (by simp)]
    · have := (frG_true.1 he).1; omega
  obtain ⟨t, e, v, hv, h2⟩ := loop_inv (body := F_spec_l23Followers_l2 p tk) (fun s => ∃ (i : Nat) (S D : Nat → Bool), s.1 = (i : Int) ∧ i0 ≤ i ∧ i ≤ n ∧ MtInv n (frG (lessB (below p.Below)) i0 φ) i s.2.2 S D ∧ (∀ j, i ≤ j → S j = false) ∧ s.2.1 = ((cntN n S : Nat) : Int)) (fun s => n - s.1.toNat) (fun t => ∃ v : Nat, t = (v : Int) ∧ isNu n (frG (lessB (below p.Below)) i0 φ) v) (by
    rintro ⟨x, c, m⟩ ⟨i, S, D, rfl, hi0, hi, hM, hS, hw⟩
    dsimp only at hM hw
    have hcn := cntN_le n S
    unfold F_spec_l23Followers_l2
    dsimp only
    by_cases hin : i < n
    · obtain ⟨o, s', m', e, t⟩ := match_try hs hn hP ht (unseen n (List.replicate n false)) i (List.replicate n false) m hi0 hin (by simp) hM.ok (Nat.le_refl _)
      have e2 : (limO fun k => F_spec_l23Match k p i tk (List.replicate n false) m) = some (o, s', m') := limO_of (match_up p i tk (List.replicate n false) m) e
      obtain ⟨D', hM'⟩ := hM.step hin t
      rw [if_pos (by omega), ask_pos (by omega), Int.toNat_natCast, hP, e2]
      simp only [Option.bind_some]
      have hS' : ∀ j, i + 1 ≤ j → (if j = i then o else S j) = false := fun j hj => by rw [if_neg (by omega)]; exact hS j (by omega)
      cases o with
      | true =>
        have hc : cntN n (fun j => if j = i then true else S j) = cntN n S + 1 := cntN_one hin (hS i (Nat.le_refl _)) (by simp) fun j hj hne => by rw [if_neg hne]
        rw [if_pos rfl, ask_pos (by unfold InI; omega), ask_pos (by unfold InI; omega)]
        exact .inl ⟨_, rfl, ⟨i + 1, _, D', rfl, by omega, hin, hM', hS', by dsimp only; omega⟩, by dsimp only; omega⟩
      | false =>
        have hc : cntN n (fun j => if j = i then false else S j) = cntN n S := cntN_congr fun j hj => by
          by_cases h : j = i
          · rw [if_pos h, h]; exact (hS i (Nat.le_refl _)).symm
          · rw [if_neg h]
        rw [if_neg (by simp), ask_pos (by unfold InI; omega)]
        exact .inl ⟨_, rfl, ⟨i + 1, _, D', rfl, by omega, hin, hM', hS', by dsimp only; omega⟩, by dsimp only; omega⟩
    · have : i = n := by omega
      subst this
      rw [if_neg (by omega)]
      exact .inr ⟨_, rfl, _, hw, hM.nu⟩) (s := ((i0 : Int), (0 : Int), List.replicate n (-1))) ⟨i0, fun _ => false, fun _ => false, rfl, Nat.le_refl _, hi, st, fun _ _ => rfl, by rw [cntN_none]; rfl⟩
  rw [e]
  exact ⟨v, congrArg some hv, h2⟩
end
/-- the followers chosen so far -/
def NextI (n i : Nat) (φ next : List Int) : Prop := NxR n i φ next ∧ ∀ j, i ≤ j → j < n → nth next j = -2
section
variable {n : Nat} {f : Nat → Nat → Bool} (hn : n ≤ 1000)
include hn
theorem F_fewest {i : Nat} {φ next : List Int} (hi : i ≤ n) (hφ : Gave n (lessB f) i φ) (hN : NextI n i φ next) {v : Nat} (hv : isNu n (frG (lessB f) i φ) v) : F_impl_order_fewest (tab n f) next = some ((n : Int) - ((sizeN n φ + v : Nat) : Int)) := by
  have hnl := hN.1.1
  unfold F_impl_order_fewest
  obtain ⟨m, S, D, e, hM⟩ := F_widthOfM (n := n) (E := fxG (lessB f) i φ) (by omega) (less := fun w_0 w_1 => F_impl_order_fewest_1 w_0 w_1 next (tab n f)) (fun j k hj hk => by
    unfold F_impl_order_fewest_1
    rw [ask_pos (by omega), Int.toNat_natCast]
    unfold fxG
    by_cases hji : j < i
    · have hne : nth next j ≠ -2 := by
        rcases hN.1.2 j hji with ⟨h1, _⟩ | ⟨k', _, h1, _⟩ <;> omega
      rw [if_pos hne, ask_pos (by omega), if_pos hji]
      congr 1
      have hiff : nth next j = (k : Int) ↔ nth φ k = (j : Int) := by
        rcases hN.1.2 j hji with ⟨h1, h2⟩ | ⟨k', h1, h2, h3⟩
        · rw [h1]
          exact ⟨fun h => by omega, fun h => absurd h (h2 k hk)⟩
        · rw [h2]
          constructor
          · intro h
            have : k' = k := by omega
            rw [← this]; exact h3
          · intro h
            rw [hφ.one.inj h1 hk h3 h]
      rw [Bool.eq_iff_iff, decide_eq_true_eq, beq_iff_eq]
      exact hiff
    · rw [if_neg (fun hc => hc (hN.2 j (by omega) hj)), if_neg hji, F_less n f j k hj hk]
      rfl)
  rw [tab_len, e]
  have := hM.nu.uniq (gave_size hi hφ hv)
  rw [this]
  rfl
end
/-- whether a place can be given away at no cost -/
def canP (n : Nat) (L : Nat → Nat → Bool) (i : Nat) (φ : List Int) (y : Nat) : Prop := nth φ y = -1 ∧ L i y = true ∧ ∀ v v', isNu n (frG L i φ) v → isNu n (frG L (i + 1) (φ.set y (i : Int))) v' → v' + 1 = v
/-- what is known when some have got followers -/
structure StepCh (n : Nat) (L : Nat → Nat → Bool) (i : Nat) (φ : List Int) (v0 : Nat) : Prop where
  gv : Gave n L i φ
  nu : ∀ v, isNu n (frG L i φ) v → sizeN n φ + v = v0
section
variable {n : Nat} {L : Nat → Nat → Bool}
theorem stepCh_put {i : Nat} {φ : List Int} {v0 : Nat} (h : StepCh n L i φ v0) (hi : i < n) {y : Nat} (hy : y < n) (hc : canP n L i φ y) : StepCh n L (i + 1) (φ.set y (i : Int)) v0 := by
  obtain ⟨g1, g2⟩ := gave_put hi h.gv hy hc.1 hc.2.1
  refine ⟨g1, fun v' hv' => ?_⟩
  obtain ⟨v, hv⟩ := nu_ex n (frG L i φ)
  have := h.nu v hv
  have := hc.2.2 v v' hv hv'
  omega
theorem stepCh_none {i : Nat} {φ : List Int} {v0 : Nat} (h : StepCh n L i φ v0) (hi : i < n) (hc : ∀ y, y < n → ¬ canP n L i φ y) : StepCh n L (i + 1) φ v0 := by
  refine ⟨gave_next h.gv, fun w hw => ?_⟩
  obtain ⟨v, hv⟩ := nu_ex n (frG L i φ)
  have h1 := h.nu v hv
  rcases (nu_step hi h.gv hv hw).2 with e | ⟨y, hy, y1, y2, y3⟩
  · omega
  · refine absurd ⟨y1, y2, fun v2 v' hv2 hv' => ?_⟩ (hc y hy)
    rw [hv2.uniq hv]
    exact y3 v' hv'
theorem can_of {i : Nat} {φ : List Int} {y v v' : Nat} (h1 : nth φ y = -1) (h2 : L i y = true) (hv : isNu n (frG L i φ) v) (hv' : isNu n (frG L (i + 1) (φ.set y (i : Int))) v') : canP n L i φ y ↔ v' + 1 = v :=
  ⟨fun h => h.2.2 v v' hv hv', fun h => ⟨h1, h2, fun u u' hu hu' => by rw [hu.uniq hv, hu'.uniq hv']; exact h⟩⟩
/-- the first place that can be given away -/
inductive PickR (n : Nat) (L : Nat → Nat → Bool) (i : Nat) (φ : List Int) : Option Nat → Prop
  | one {y : Nat} (hy : y < n) (hc : canP n L i φ y) (hf : ∀ z, z < y → ¬ canP n L i φ z) : PickR n L i φ (some y)
  | none (hc : ∀ y, y < n → ¬ canP n L i φ y) : PickR n L i φ none
theorem PickR.uniq {i : Nat} {φ : List Int} {a b : Option Nat} (h : PickR n L i φ a) (h' : PickR n L i φ b) : a = b := by
  cases h with
  | one hy hc hf =>
    cases h' with
    | one hy' hc' hf' =>
      rename_i y y'
      rcases Nat.lt_trichotomy y y' with h | h | h
      · exact absurd hc (hf' y h)
      · rw [h]
      · exact absurd hc' (hf y' h)
    | none hc' => exact absurd hc (hc' _ hy)
  | none hc =>
    cases h' with
    | one hy' hc' hf' => exact absurd hc' (hc _ hy')
    | none _ => rfl
noncomputable def pickP (n : Nat) (L : Nat → Nat → Bool) (i : Nat) (φ : List Int) : Option Nat := if h : ∃ a, PickR n L i φ a then Classical.choose h else none
theorem pickP_of {i : Nat} {φ : List Int} {a : Option Nat} (h : PickR n L i φ a) : pickP n L i φ = a := by
  unfold pickP
  rw [dif_pos ⟨a, h⟩]
  exact (Classical.choose_spec (⟨a, h⟩ : ∃ a, PickR n L i φ a)).uniq h
/-- one after the other -/
noncomputable def phiP (n : Nat) (L : Nat → Nat → Bool) : Nat → List Int
  | 0 => List.replicate n (-1)
  | i + 1 => match pickP n L i (phiP n L i) with
    | some y => (phiP n L i).set y (i : Int)
    | none => phiP n L i
theorem nx_uniq {φ a b : List Int} (hφ : MtOne n L φ) (ha : NxR n n φ a) (hb : NxR n n φ b) : a = b := by
  refine nth_ext (by rw [ha.1, hb.1]) fun j hj => ?_
  rw [ha.1] at hj
  rcases ha.2 j hj with ⟨h1, h2⟩ | ⟨k, h1, h2, h3⟩
  · rcases hb.2 j hj with ⟨g1, _⟩ | ⟨k', g1, _, g3⟩
    · rw [h1, g1]
    · exact absurd g3 (h2 k' g1)
  · rw [h2]
    exact ((nx_of hφ hb hj h1).2 h3).symm
theorem nx_put {i y : Nat} {φ next : List Int} (hφl : φ.length = n) (_hg : Gave n L i φ) (h : NxR n i φ next) (hi : i < n) (hy : y < n) (hf : nth φ y = -1) : NxR n (i + 1) (φ.set y (i : Int)) (next.set i (y : Int)) := by
  have hl := h.1
  refine ⟨by rw [List.length_set]; exact hl, fun j hj => ?_⟩
  rw [nth_set _ _ _ _ (by omega)]
  have hat : ∀ k, k < n → nth (φ.set y (i : Int)) k = if y = k then (i : Int) else nth φ k := fun k hk => nth_set _ _ _ _ (by omega)
  by_cases e : i = j
  · rw [if_pos e]
    exact .inr ⟨y, hy, rfl, by rw [hat y hy, if_pos rfl, e]⟩
  · rw [if_neg e]
    rcases h.2 j (by omega) with ⟨h1, h2⟩ | ⟨k, h1, h2, h3⟩
    · refine .inl ⟨h1, fun k hk => ?_⟩
      rw [hat k hk]
      by_cases e2 : y = k
      · rw [if_pos e2]; omega
      · rw [if_neg e2]; exact h2 k hk
    · refine .inr ⟨k, h1, h2, ?_⟩
      rw [hat k h1, if_neg (fun e2 => by rw [← e2, hf] at h3; omega)]
      exact h3
theorem nx_skip {i : Nat} {φ next : List Int} (hg : Gave n L i φ) (h : NxR n i φ next) (hi : i < n) : NxR n (i + 1) φ (next.set i (-1)) := by
  have hl := h.1
  refine ⟨by rw [List.length_set]; exact hl, fun j hj => ?_⟩
  rw [nth_set _ _ _ _ (by omega)]
  by_cases e : i = j
  · rw [if_pos e]
    refine .inl ⟨rfl, fun k hk => ?_⟩
    have := hg.low k hk
    omega
  · rw [if_neg e]
    exact h.2 j (by omega)
end
section
variable {p : SPoset} {n : Nat} (hs : small p) (h10 : n ≤ 10) (hP : p.Below.length = n)
include hs h10 hP
/-- one round of the reference -/
theorem spec_round {i : Nat} {φ nx : List Int} {tk : List Bool} {v0 : Nat} (hi : i < n) (hS : StepCh n (lessB (below p.Below)) i φ v0) (ht : Led n φ tk) (hnl : nx.length = n) {v : Nat} (hv : isNu n (frG (lessB (below p.Below)) i φ) v) :
    ∃ a, PickR n (lessB (below p.Below)) i φ a ∧ loopO (F_spec_FewestChains_l1 p i v) (0, nx.set i (-1), tk) = some (match a with | some y => (nx.set i (y : Int), tk.set y true) | none => (nx.set i (-1), tk)) := by
  have hφl := hS.gv.one.len
  have htl := ht.1
  obtain ⟨t, e, a, ha, ht'⟩ := loop_inv (body := F_spec_FewestChains_l1 p i v) (fun s => ∃ y : Nat, s.1 = (y : Int) ∧ y ≤ n ∧ ((s.2 = (nx.set i (-1), tk) ∧ ∀ z, z < y → ¬ canP n (lessB (below p.Below)) i φ z) ∨ ∃ y0, y0 < y ∧ PickR n (lessB (below p.Below)) i φ (some y0) ∧ s.2 = (nx.set i (y0 : Int), tk.set y0 true))) (fun s => n - s.1.toNat) (fun t => ∃ a, PickR n (lessB (below p.Below)) i φ a ∧ t = (match a with | some y => (nx.set i (y : Int), tk.set y true) | none => (nx.set i (-1), tk))) (by
    rintro ⟨x, s⟩ ⟨y, rfl, hy, hc⟩
    dsimp only at hc
    rcases hc with ⟨rfl, hno⟩ | ⟨y0, hy0, hp, rfl⟩
    · unfold F_spec_FewestChains_l1
      dsimp only
      by_cases hyn : y < n
      · have hset : nth (nx.set i (-1)) i = -1 := by rw [nth_set _ _ _ _ (by omega), if_pos rfl]
        rw [if_pos (by omega), ask_pos (by rw [List.length_set]; omega), Int.toNat_natCast, hset, if_pos (by omega)]
        simp only [Option.bind_some]
        rw [F_l23Less hs i y (by omega)]
        simp only [Option.bind_some]
        have next : ¬ canP n (lessB (below p.Below)) i φ y → ∀ z, z < y + 1 → ¬ canP n (lessB (below p.Below)) i φ z := fun hn z hz => by
          by_cases e : z = y
          · subst e; exact hn
          · exact hno z (by omega)
        by_cases hl : lessB (below p.Below) i y = true
        · have hl' : (decide (i ≠ y) && below p.Below i y) = true := hl
          rw [hl', if_pos rfl, ask_pos (by omega), Int.toNat_natCast]
          by_cases htk : nth tk y = true
          · rw [if_pos htk]
            simp only [Option.bind_some]
            rw [ask_pos (by unfold InI; omega)]
            exact .inl ⟨_, rfl, ⟨y + 1, rfl, by omega, .inl ⟨rfl, next fun hcp => (ht.2 y hyn).1 htk hcp.1⟩⟩, by dsimp only; omega⟩
          · have hf := (ht.no hyn).1 (by simpa using htk)
            rw [if_neg htk]
            simp only [Option.bind_some]
            obtain ⟨v', e', hv'⟩ := F_followers hs (by omega) hP (ht.put hφl (y := y) (i := i)) (i0 := i + 1) (by omega)
            have hiff := can_of hf hl hv hv'
            have hvn : v' ≤ n := by
              obtain ⟨⟨m, _, em⟩, _⟩ := hv'
              rw [← em]; exact cntN_le _ _
            rw [ask_pos (by omega), ask_pos (by unfold InI; omega), show ((i : Int) + 1) = ((i + 1 : Nat) : Int) by omega, e']
            simp only [Option.bind_some]
            rw [ask_pos (by unfold InI; omega)]
            by_cases hq : v' + 1 = v
            · rw [if_pos (by omega), ask_pos (by rw [List.length_set]; omega), ask_pos (by unfold InI; omega), List.set_set]
              exact .inl ⟨_, rfl, ⟨y + 1, rfl, by omega, .inr ⟨y, by omega, .one hyn (hiff.2 hq) hno, rfl⟩⟩, by dsimp only; omega⟩
            · rw [if_neg (by omega), ask_pos (by rw [List.length_set]; omega), ask_pos (by unfold InI; omega), List.set_set]
              have eb : tk.set y false = tk := by
                refine nth_ext (by simp) fun k hk => ?_
                rw [List.length_set] at hk
                rw [nth_set _ _ _ _ hk]
                by_cases e : y = k
                · rw [if_pos e, ← e]; simpa using (show nth tk y = false by simpa using htk).symm
                · rw [if_neg e]
              rw [eb]
              exact .inl ⟨_, rfl, ⟨y + 1, rfl, by omega, .inl ⟨rfl, next fun hcp => hq (hiff.1 hcp)⟩⟩, by dsimp only; omega⟩
        · have hl' : ¬ (decide (i ≠ y) && below p.Below i y) = true := hl
          rw [if_neg hl']
          simp only [Option.bind_some]
          rw [ask_pos (by unfold InI; omega)]
          exact .inl ⟨_, rfl, ⟨y + 1, rfl, by omega, .inl ⟨rfl, next fun hcp => hl hcp.2.1⟩⟩, by dsimp only; omega⟩
      · rw [if_neg (by omega)]
        simp only [Option.bind_some]
        exact .inr ⟨_, rfl, none, .none fun z hz => hno z (by omega), rfl⟩
    · unfold F_spec_FewestChains_l1
      dsimp only
      by_cases hyn : y < n
      · have hset : nth (nx.set i (y0 : Int)) i = (y0 : Int) := by rw [nth_set _ _ _ _ (by omega), if_pos rfl]
        rw [if_pos (by omega), ask_pos (by rw [List.length_set]; omega), Int.toNat_natCast, hset, if_neg (by omega)]
        simp only [Option.bind_some]
        exact .inr ⟨_, rfl, some y0, hp, rfl⟩
      · rw [if_neg (by omega)]
        simp only [Option.bind_some]
        exact .inr ⟨_, rfl, some y0, hp, rfl⟩) (s := ((0 : Int), nx.set i (-1), tk)) ⟨0, rfl, Nat.zero_le _, .inl ⟨rfl, fun z hz => by omega⟩⟩
  exact ⟨a, ha, by rw [e, ht']⟩
end
section
variable {f : Nat → Nat → Bool} {n : Nat} (h10 : n ≤ 10) (b : Bool)
include h10
/-- one round of the program -/
theorem impl_round {i : Nat} {φ nx : List Int} {tk : List Bool} {v0 : Nat} (hi : i < n) (hS : StepCh n (lessB f) i φ v0) (ht : Led n φ tk) (hN : NextI n i φ nx) :
    ∃ a w, PickR n (lessB f) i φ a ∧ loopO (F_impl_FewestChains_l2 (tab n f, b) ((n : Int) - (v0 : Int)) i) (0, -1, tk, nx) = some (match a with | some y => ((y : Int), tk.set y true, nx.set i (y : Int)) | none => (-1, tk, nx.set i w)) := by
  have hφl := hS.gv.one.len
  have htl := ht.1
  have hnl := hN.1.1
  have htb := tab_len n f
  obtain ⟨t, e, a, w, ha, ht'⟩ := loop_inv (body := F_impl_FewestChains_l2 (tab n f, b) ((n : Int) - (v0 : Int)) i) (fun s => ∃ y : Nat, s.1 = (y : Int) ∧ y ≤ n ∧ ((∃ w, s.2 = (-1, tk, nx.set i w) ∧ ∀ z, z < y → ¬ canP n (lessB f) i φ z) ∨ ∃ y0, y0 < y ∧ PickR n (lessB f) i φ (some y0) ∧ s.2 = ((y0 : Int), tk.set y0 true, nx.set i (y0 : Int)))) (fun s => n - s.1.toNat) (fun t => ∃ a w, PickR n (lessB f) i φ a ∧ t = (match a with | some y => ((y : Int), tk.set y true, nx.set i (y : Int)) | none => (-1, tk, nx.set i w))) (by
    rintro ⟨x, s⟩ ⟨y, rfl, hy, hc⟩
    dsimp only at hc
    rcases hc with ⟨w, rfl, hno⟩ | ⟨y0, hy0, hp, rfl⟩
    · unfold F_impl_FewestChains_l2
      dsimp only
      rw [htb]
      by_cases hyn : y < n
      · rw [if_pos (by omega), if_pos (by omega)]
        simp only [Option.bind_some]
        rw [F_less n f i y hi hyn]
        simp only [Option.bind_some]
        have next : ¬ canP n (lessB f) i φ y → ∀ z, z < y + 1 → ¬ canP n (lessB f) i φ z := fun hn z hz => by
          by_cases e : z = y
          · subst e; exact hn
          · exact hno z (by omega)
        by_cases hl : lessB f i y = true
        · have hl' : (decide (i ≠ y) && f i y) = true := hl
          rw [hl', if_pos rfl, ask_pos (by omega), Int.toNat_natCast]
          by_cases htk : nth tk y = true
          · rw [if_pos htk]
            simp only [Option.bind_some]
            rw [ask_pos (by unfold InI; omega)]
            exact .inl ⟨_, rfl, ⟨y + 1, rfl, by omega, .inl ⟨w, rfl, next fun hcp => (ht.2 y hyn).1 htk hcp.1⟩⟩, by dsimp only; omega⟩
          · have hf := (ht.no hyn).1 (by simpa using htk)
            rw [if_neg htk]
            simp only [Option.bind_some]
            obtain ⟨g1, g2⟩ := gave_put hi hS.gv hyn hf hl
            obtain ⟨v', hv'⟩ := nu_ex n (frG (lessB f) (i + 1) (φ.set y (i : Int)))
            obtain ⟨v, hv⟩ := nu_ex n (frG (lessB f) i φ)
            have hsum := hS.nu v hv
            have hiff := can_of hf hl hv hv'
            have hN' : NextI n (i + 1) (φ.set y (i : Int)) (nx.set i (y : Int)) := ⟨nx_put hφl hS.gv hN.1 hi hyn hf, fun j hj hjn => by
              rw [nth_set _ _ _ _ (by omega), if_neg (by omega)]
              exact hN.2 j (by omega) hjn⟩
            have eF := F_fewest (f := f) (by omega) (show i + 1 ≤ n by omega) g1 hN' hv'
            rw [ask_pos (by rw [List.length_set]; omega), Int.toNat_natCast, List.set_set, eF]
            simp only [Option.bind_some]
            have hszn : sizeN n φ ≤ n := cntN_le _ _
            by_cases hq : v' + 1 = v
            · rw [if_pos (by omega), ask_pos (by omega), ask_pos (by unfold InI; omega)]
              exact .inl ⟨_, rfl, ⟨y + 1, rfl, by omega, .inr ⟨y, by omega, .one hyn (hiff.2 hq) hno, rfl⟩⟩, by dsimp only; omega⟩
            · rw [if_neg (by omega), ask_pos (by unfold InI; omega)]
              exact .inl ⟨_, rfl, ⟨y + 1, rfl, by omega, .inl ⟨(y : Int), rfl, next fun hcp => hq (hiff.1 hcp)⟩⟩, by dsimp only; omega⟩
        · have hl' : ¬ (decide (i ≠ y) && f i y) = true := hl
          rw [if_neg hl']
          simp only [Option.bind_some]
          rw [ask_pos (by unfold InI; omega)]
          exact .inl ⟨_, rfl, ⟨y + 1, rfl, by omega, .inl ⟨w, rfl, next fun hcp => hl hcp.2.1⟩⟩, by dsimp only; omega⟩
      · rw [if_neg (by omega)]
        simp only [Option.bind_some]
        exact .inr ⟨_, rfl, none, w, .none fun z hz => hno z (by omega), rfl⟩
    · unfold F_impl_FewestChains_l2
      dsimp only
      rw [htb]
      by_cases hyn : y < n
      · rw [if_pos (by omega), if_neg (by omega)]
        simp only [Option.bind_some]
        exact .inr ⟨_, rfl, some y0, 0, hp, rfl⟩
      · rw [if_neg (by omega)]
        simp only [Option.bind_some]
        exact .inr ⟨_, rfl, some y0, 0, hp, rfl⟩) (s := ((0 : Int), (-1 : Int), tk, nx)) ⟨0, rfl, Nat.zero_le _, .inl ⟨nth nx i, by
      have : nx.set i (nth nx i) = nx := by
        refine nth_ext (by simp) fun k hk => ?_
        rw [List.length_set] at hk
        rw [nth_set _ _ _ _ hk]
        by_cases e : i = k
        · rw [if_pos e, e]
        · rw [if_neg e]
      rw [this], fun z hz => by omega⟩⟩
  exact ⟨a, w, ha, by rw [e, ht']⟩
end
/-- the chains -/
noncomputable def chsP (n : Nat) (φ next : List Int) (k : Nat) : List (List Int) := ((List.range k).filter fun y => decide (nth φ y = -1)).map fun y : Nat => chainF next (n + 1) (y : Int)
theorem chsP_succ (n : Nat) (φ next : List Int) (k : Nat) : chsP n φ next (k + 1) = if nth φ k = -1 then chsP n φ next k ++ [chainF next (n + 1) (k : Int)] else chsP n φ next k := by
  unfold chsP
  rw [List.range_succ, List.filter_append, List.map_append]
  by_cases h : nth φ k = -1
  · rw [if_pos h, List.filter_cons_of_pos (by simpa using h)]; rfl
  · rw [if_neg h, List.filter_cons_of_neg (by simpa using h)]; simp
theorem chsP_len (n : Nat) (φ next : List Int) (k : Nat) : (chsP n φ next k).length ≤ k := by
  unfold chsP
  rw [List.length_map]
  exact Nat.le_trans (List.length_filter_le _ _) (by simp)
section
variable {n : Nat} {L : Nat → Nat → Bool} {φ next : List Int} (h10 : n ≤ 10) (hL : StrO n L) (hφ : MtOne n L φ) (hN : NxR n n φ next)
include h10 hL hφ hN
omit h10 in
theorem impl_chain (r1 : List (List Bool) × Bool) (led : List Bool) (x : Int) (acc0 : List (List Int)) : ∀ y, y < n → ∀ acc : List Int, acc.length + (chainF next (n + 1) (y : Int)).length ≤ 1000 → loopO (F_impl_FewestChains_l4 r1 led next x acc0) ((y : Int), acc) = some (acc ++ chainF next (n + 1) (y : Int)) := by
  have hLm := lim_def
  have hnl := hN.1
  have stop : ∀ z : Int, z < 0 → ∀ acc : List Int, loopO (F_impl_FewestChains_l4 r1 led next x acc0) (z, acc) = some acc := fun z hz acc => by
    refine loopO_stop ?_
    unfold F_impl_FewestChains_l4
    dsimp only
    rw [if_neg (by omega)]
  have step : ∀ (y : Nat), y < n → ∀ acc : List Int, acc.length + 1 ≤ 1000 → F_impl_FewestChains_l4 r1 led next x acc0 ((y : Int), acc) = some (.inl (nth next y, acc ++ [(y : Int)])) := fun y hy acc ha => by
    unfold F_impl_FewestChains_l4
    dsimp only
    rw [if_pos (by omega), ask_pos (by simp; omega), ask_pos (by omega), Int.toNat_natCast]
  refine chain_ind hL hφ hN (fun y hy h acc ha => ?_) fun y z hy hz e hl ih acc ha => ?_
  · rw [chain_cons hL hφ hN hy, if_pos h] at ha ⊢
    rw [loopO_next (step y hy acc (by simpa using ha)), stop _ h]
  · rw [chain_cons hL hφ hN hy, e, if_neg (by omega)] at ha ⊢
    simp only [List.length_cons] at ha
    rw [loopO_next (step y hy acc (by omega)), e, ih (acc ++ [(y : Int)]) (by simp; omega)]
    simp
omit h10 in
theorem spec_chain (p : SPoset) (led : List Bool) (x : Int) (acc0 : List (List Int)) : ∀ y, y < n → ∀ acc : List Int, acc.length + (chainF next (n + 1) (y : Int)).length ≤ 1000 → loopO (F_spec_FewestChains_l3 p next led x acc0) ((y : Int), acc) = some (acc ++ chainF next (n + 1) (y : Int)) := by
  have hLm := lim_def
  have hnl := hN.1
  have stop : ∀ z : Int, z < 0 → ∀ acc : List Int, loopO (F_spec_FewestChains_l3 p next led x acc0) (z, acc) = some acc := fun z hz acc => by
    refine loopO_stop ?_
    unfold F_spec_FewestChains_l3
    dsimp only
    rw [if_neg (by omega)]
  have step : ∀ (y : Nat), y < n → ∀ acc : List Int, acc.length + 1 ≤ 1000 → F_spec_FewestChains_l3 p next led x acc0 ((y : Int), acc) = some (.inl (nth next y, acc ++ [(y : Int)])) := fun y hy acc ha => by
    unfold F_spec_FewestChains_l3
    dsimp only
    rw [if_pos (by omega), ask_pos (by simp; omega), ask_pos (by omega), Int.toNat_natCast]
  refine chain_ind hL hφ hN (fun y hy h acc ha => ?_) fun y z hy hz e hl ih acc ha => ?_
  · rw [chain_cons hL hφ hN hy, if_pos h] at ha ⊢
    rw [loopO_next (step y hy acc (by simpa using ha)), stop _ h]
  · rw [chain_cons hL hφ hN hy, e, if_neg (by omega)] at ha ⊢
    simp only [List.length_cons] at ha
    rw [loopO_next (step y hy acc (by omega)), e, ih (acc ++ [(y : Int)]) (by simp; omega)]
    simp
theorem impl_chains (f : Nat → Nat → Bool) (b : Bool) {led : List Bool} (ht : Led n φ led) : loopO (F_impl_FewestChains_l5 (tab n f, b) led next) (0, nilL (List Int)) = some (chsP n φ next n) := by
  have hLm := lim_def
  have htl := ht.1
  have htb := tab_len n f
  have key := loop_seq (body := F_impl_FewestChains_l5 (tab n f, b) led next) (fun i => ((i : Int), chsP n φ next i)) n (chsP n φ next n) (fun i hi => by
    have hcl := chain_len hL hφ hN hi
    have hln := chsP_len n φ next i
    unfold F_impl_FewestChains_l5
    dsimp only
    rw [htb, if_pos (by omega), ask_pos (by omega), Int.toNat_natCast, chsP_succ]
    by_cases h : nth led i = true
    · rw [if_pos h, if_neg ((ht.2 i hi).1 h), ask_pos (by unfold InI; omega)]; rfl
    · rw [if_neg h, if_pos ((ht.no hi).1 (by simpa using h)), impl_chain hL hφ hN (tab n f, b) led (i : Int) (chsP n φ next i) i hi (nilL Int) (by simp [nilL]; omega)]
      simp only [Option.bind_some]
      rw [ask_pos (by simp only [List.length_cons, List.length_nil]; omega), ask_pos (by unfold InI; omega)]; rfl) (by
    unfold F_impl_FewestChains_l5
    dsimp only
    rw [htb, if_neg (by omega)])
  exact key
theorem spec_chains (p : SPoset) (hP : p.Below.length = n) {led : List Bool} (ht : Led n φ led) : loopO (F_spec_FewestChains_l4 p next led) (0, nilL (List Int)) = some (chsP n φ next n) := by
  have hLm := lim_def
  have htl := ht.1
  have key := loop_seq (body := F_spec_FewestChains_l4 p next led) (fun i => ((i : Int), chsP n φ next i)) n (chsP n φ next n) (fun i hi => by
    have hcl := chain_len hL hφ hN hi
    have hln := chsP_len n φ next i
    unfold F_spec_FewestChains_l4
    dsimp only
    rw [if_pos (by omega), ask_pos (by omega), Int.toNat_natCast, chsP_succ]
    by_cases h : nth led i = true
    · rw [if_pos h, if_neg ((ht.2 i hi).1 h), ask_pos (by unfold InI; omega)]; rfl
    · rw [if_neg h, if_pos ((ht.no hi).1 (by simpa using h)), spec_chain hL hφ hN p led (i : Int) (chsP n φ next i) i hi (nilL Int) (by simp [nilL]; omega)]
      simp only [Option.bind_some]
      rw [ask_pos (by simp only [List.length_cons, List.length_nil]; omega), ask_pos (by unfold InI; omega)]; rfl) (by
    unfold F_spec_FewestChains_l4
    dsimp only
    rw [if_neg (by omega)])
  exact key
end
/-- both, with what is known of the chains -/
theorem chains_full {p : SPoset} (hs : small p) (hg : good p.Below) : ∃ φ next, F_spec_FewestChains p = some (chsP p.Below.length φ next p.Below.length, true) ∧ F_impl_FewestChains p = some (chsP p.Below.length φ next p.Below.length, true) ∧ MtOne p.Below.length (lessB (below p.Below)) φ ∧ NxR p.Below.length p.Below.length φ next ∧ isNu p.Below.length (lessB (below p.Below)) (sizeN p.Below.length φ) := by
  have hLm := lim_def
  have h10 : p.Below.length ≤ 10 := hg.1
  have hO := good_ord hg
  have hL := less_str hO
  obtain ⟨n, hP⟩ : ∃ n, p.Below.length = n := ⟨_, rfl⟩
  obtain ⟨v0, hv0⟩ := nu_ex n (lessB (below p.Below))
  rw [hP] at h10 hL
  have s0 : StepCh n (lessB (below p.Below)) 0 (List.replicate n (-1)) v0 := by
    obtain ⟨g1, g2⟩ := gave_start n (lessB (below p.Below))
    refine ⟨g1, fun v hv => ?_⟩
    rw [g2, (frG_start.1 hv).uniq hv0]; omega
  have led0 : Led n (List.replicate n (-1)) (List.replicate n false) := ⟨by simp, fun k hk => by rw [nth_replicate _ hk, nth_replicate _ hk]; simp⟩
  -- the reference
  obtain ⟨⟨nx, tk⟩, e1, a1, a2, a3⟩ := loop_inv (body := F_spec_FewestChains_l2 p) (fun s => ∃ i : Nat, s.1 = (i : Int) ∧ i ≤ n ∧ StepCh n (lessB (below p.Below)) i (phiP n (lessB (below p.Below)) i) v0 ∧ Led n (phiP n (lessB (below p.Below)) i) s.2.2 ∧ NxR n i (phiP n (lessB (below p.Below)) i) s.2.1) (fun s => n - s.1.toNat) (fun t => StepCh n (lessB (below p.Below)) n (phiP n (lessB (below p.Below)) n) v0 ∧ Led n (phiP n (lessB (below p.Below)) n) t.2 ∧ NxR n n (phiP n (lessB (below p.Below)) n) t.1) (by
    rintro ⟨x, nx, tk⟩ ⟨i, rfl, hi, hS, ht, hN⟩
    dsimp only at ht hN
    have hnl := hN.1
    unfold F_spec_FewestChains_l2
    dsimp only
    by_cases hin : i < n
    · obtain ⟨v, ev, hv⟩ := F_followers hs (by omega) hP ht (i0 := i) (by omega)
      obtain ⟨a, ha, e⟩ := spec_round hs h10 hP hin hS ht hnl hv
      have hφl := hS.gv.one.len
      rw [if_pos (by omega), ask_pos (by omega), ev]
      simp only [Option.bind_some]
      rw [Int.toNat_natCast, e]
      have ep := pickP_of ha
      cases ha with
      | one hy hc hf =>
        rename_i y
        simp only [Option.bind_some]
        rw [ask_pos (by unfold InI; omega)]
        have ee : phiP n (lessB (below p.Below)) (i + 1) = (phiP n (lessB (below p.Below)) i).set y (i : Int) := by simp only [phiP]; rw [ep]
        refine .inl ⟨_, rfl, ⟨i + 1, rfl, hin, ?_, ?_, ?_⟩, by dsimp only; omega⟩
        · rw [ee]; exact stepCh_put hS hin hy hc
        · rw [ee]; exact ht.put hφl
        · rw [ee]; exact nx_put hφl hS.gv hN hin hy hc.1
      | none hc =>
        simp only [Option.bind_some]
        rw [ask_pos (by unfold InI; omega)]
        have ee : phiP n (lessB (below p.Below)) (i + 1) = phiP n (lessB (below p.Below)) i := by simp only [phiP]; rw [ep]
        refine .inl ⟨_, rfl, ⟨i + 1, rfl, hin, ?_, ?_, ?_⟩, by dsimp only; omega⟩
        · rw [ee]; exact stepCh_none hS hin hc
        · rw [ee]; exact ht
        · rw [ee]; exact nx_skip hS.gv hN hin
    · have : i = n := by omega
      subst this
      rw [if_neg (by omega)]
      exact .inr ⟨_, rfl, hS, ht, hN⟩) (s := ((0 : Int), List.replicate n 0, List.replicate n false)) ⟨0, rfl, Nat.zero_le _, s0, led0, by simp, fun j hj => by omega⟩
  dsimp only at a2 a3
  -- the program
  obtain ⟨⟨tk', nx'⟩, e2, b2, b3⟩ := loop_inv (body := F_impl_FewestChains_l3 (tab n (below p.Below), true) ((n : Int) - (v0 : Int))) (fun s => ∃ i : Nat, s.1 = (i : Int) ∧ i ≤ n ∧ StepCh n (lessB (below p.Below)) i (phiP n (lessB (below p.Below)) i) v0 ∧ Led n (phiP n (lessB (below p.Below)) i) s.2.1 ∧ NextI n i (phiP n (lessB (below p.Below)) i) s.2.2) (fun s => n - s.1.toNat) (fun t => Led n (phiP n (lessB (below p.Below)) n) t.1 ∧ NxR n n (phiP n (lessB (below p.Below)) n) t.2) (by
    rintro ⟨x, tk, nx⟩ ⟨i, rfl, hi, hS, ht, hN⟩
    dsimp only at ht hN
    have hnl := hN.1.1
    have htb := tab_len n (below p.Below)
    unfold F_impl_FewestChains_l3
    dsimp only
    rw [htb]
    by_cases hin : i < n
    · obtain ⟨a, w, ha, e⟩ := impl_round h10 true hin hS ht hN
      have hφl := hS.gv.one.len
      rw [if_pos (by omega), e]
      have ep := pickP_of ha
      cases ha with
      | one hy hc hf =>
        rename_i y
        simp only [Option.bind_some]
        rw [ask_pos (by rw [List.length_set]; omega), ask_pos (by unfold InI; omega), Int.toNat_natCast, List.set_set]
        have ee : phiP n (lessB (below p.Below)) (i + 1) = (phiP n (lessB (below p.Below)) i).set y (i : Int) := by simp only [phiP]; rw [ep]
        refine .inl ⟨_, rfl, ⟨i + 1, rfl, hin, ?_, ?_, ?_⟩, by dsimp only; omega⟩
        · rw [ee]; exact stepCh_put hS hin hy hc
        · rw [ee]; exact ht.put hφl
        · rw [ee]
          exact ⟨nx_put hφl hS.gv hN.1 hin hy hc.1, fun j hj hjn => by
            dsimp only
            rw [nth_set _ _ _ _ (by omega), if_neg (by omega)]
            exact hN.2 j (by omega) hjn⟩
      | none hc =>
        simp only [Option.bind_some]
        rw [ask_pos (by rw [List.length_set]; omega), ask_pos (by unfold InI; omega), Int.toNat_natCast, List.set_set]
        have ee : phiP n (lessB (below p.Below)) (i + 1) = phiP n (lessB (below p.Below)) i := by simp only [phiP]; rw [ep]
        refine .inl ⟨_, rfl, ⟨i + 1, rfl, hin, ?_, ?_, ?_⟩, by dsimp only; omega⟩
        · rw [ee]; exact stepCh_none hS hin hc
        · rw [ee]; exact ht
        · rw [ee]
          exact ⟨nx_skip hS.gv hN.1 hin, fun j hj hjn => by
            dsimp only
            rw [nth_set _ _ _ _ (by omega), if_neg (by omega)]
            exact hN.2 j (by omega) hjn⟩
    · have : i = n := by omega
      subst this
      rw [if_neg (by omega)]
      exact .inr ⟨_, rfl, ht, hN.1⟩) (s := ((0 : Int), List.replicate n false, List.replicate n (-2))) ⟨0, rfl, Nat.zero_le _, s0, led0, ⟨by simp, fun j hj => by omega⟩, fun j _ hjn => nth_replicate _ hjn⟩
  dsimp only at b2 b3
  have hφ := a1.gv.one
  have enx : nx' = nx := nx_uniq hφ b3 a3
  subst enx
  have hsz : isNu n (lessB (below p.Below)) (sizeN n (phiP n (lessB (below p.Below)) n)) := by
    obtain ⟨v, hv⟩ := nu_ex n (frG (lessB (below p.Below)) n (phiP n (lessB (below p.Below)) n))
    have h1 := a1.nu v hv
    rw [frG_end hv] at h1
    have : sizeN n (phiP n (lessB (below p.Below)) n) = v0 := by omega
    rw [this]; exact hv0
  refine ⟨phiP n (lessB (below p.Below)) n, nx', ?_, ?_, by rw [hP]; exact hφ, by rw [hP]; exact a3, by rw [hP]; exact hsz⟩
  · unfold F_spec_FewestChains
    rw [F_l23Good p hs.1 hs.2, decide_eq_true hg]
    simp only [Option.bind_some, if_true]
    rw [ask_pos (by omega), ask_pos (by omega), Int.toNat_natCast, hP, e1]
    simp only [Option.bind_some]
    rw [spec_chains h10 hL hφ a3 p hP a2]
    rfl
  · unfold F_impl_FewestChains
    rw [order_good p hs.1 hs.2 hg, hP]
    simp only [Option.bind_some, if_true]
    rw [tab_len, ask_pos (by omega), Int.toNat_natCast]
    have k0 := loop_seq (body := F_impl_FewestChains_l1 (tab n (below p.Below), true)) (fun i => ((i : Int), List.replicate i (-2 : Int) ++ List.replicate (n - i) 0)) n (List.replicate n (-2)) (fun i hi => by
      unfold F_impl_FewestChains_l1
      dsimp only
      rw [tab_len, Int.toNat_natCast, if_pos (by omega), ask_pos (by simp; omega), ask_pos (by unfold InI; omega), Int.toNat_natCast, set_put _ _ _ hi (by simp), List.replicate_succ']
      rfl) (by
      unfold F_impl_FewestChains_l1
      dsimp only
      rw [tab_len, Int.toNat_natCast, if_neg (by omega), Nat.sub_self]
      simp)
    have k0' : loopO (F_impl_FewestChains_l1 (tab n (below p.Below), true)) (0, List.replicate n 0) = some (List.replicate n (-2)) := by simpa using k0
    rw [k0']
    simp only [Option.bind_some]
    rw [F_fewest (f := below p.Below) (i := 0) (φ := List.replicate n (-1)) (by omega) (by omega) s0.gv ⟨⟨by simp, fun j hj => by omega⟩, fun j _ hjn => nth_replicate _ hjn⟩ (frG_start.2 hv0), (gave_start n (lessB (below p.Below))).2, Nat.zero_add]
    simp only [Option.bind_some]
    rw [ask_pos (by omega), e2]
    simp only [Option.bind_some]
    rw [impl_chains h10 hL hφ b3 (below p.Below) true b2]
    rfl
theorem chsP_rows {n : Nat} {L : Nat → Nat → Bool} {φ next : List Int} (hL : StrO n L) (hφ : MtOne n L φ) (hN : NxR n n φ next) : (chsP n φ next n).length ≤ n ∧ ∀ r ∈ chsP n φ next n, r.length ≤ n := by
  refine ⟨chsP_len n φ next n, fun r hr => ?_⟩
  obtain ⟨y, hy, rfl⟩ := List.mem_map.1 hr
  exact chain_len hL hφ hN (List.mem_range.1 (List.mem_filter.1 hy).1)
theorem both_FewestChains {p : SPoset} (hs : small p) : ∃ r, F_spec_FewestChains p = some r ∧ F_impl_FewestChains p = some r ∧ r.1.length ≤ 1000 ∧ ∀ q ∈ r.1, q.length ≤ 1000 := by
  by_cases hg : good p.Below
  · obtain ⟨φ, next, e1, e2, h1, h2, _⟩ := chains_full hs hg
    obtain ⟨r1, r2⟩ := chsP_rows (less_str (good_ord hg)) h1 h2
    have h10 := hg.1
    exact ⟨_, e1, e2, by dsimp only; omega, fun q hq => by have := r2 q hq; omega⟩
  · obtain ⟨o, e⟩ := order_bad p hs.1 hs.2 hg
    refine ⟨(nilL (List Int), false), ?_, ?_, by simp [nilL], fun q hq => by simp [nilL] at hq⟩
    · unfold F_spec_FewestChains
      rw [F_l23Good p hs.1 hs.2, decide_eq_false hg]
      rfl
    · unfold F_impl_FewestChains
      rw [e]
      rfl

end Go.Proofs.Ytpfikenknmlajaa.Ax
