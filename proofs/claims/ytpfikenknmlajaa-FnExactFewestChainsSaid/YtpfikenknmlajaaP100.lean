/-
  Matchings: what the search for a follower gives, and that no matching is larger.
-/
import Derived.Test.YtpfikenknmlajaaP1
namespace Go.Proofs.Ytpfikenknmlajaa.Ax
open Go Classical

theorem nodup_subG {α : Type} [DecidableEq α] : ∀ {L M : List α}, L.Nodup → (∀ r ∈ L, r ∈ M) → L.length ≤ M.length
  | [], _, _, _ => Nat.zero_le _
  | x :: L, M, h, hs => by
    obtain ⟨h1, h2⟩ := List.nodup_cons.1 h
    have hx := hs x (by simp)
    have := nodup_subG (L := L) (M := M.erase x) h2 fun r hr => by
      have hne : r ≠ x := fun hh => h1 (hh ▸ hr)
      exact (List.mem_erase_of_ne hne).2 (hs r (by simp [hr]))
    rw [List.length_erase_of_mem hx] at this
    have := List.length_pos_of_mem hx
    simp only [List.length_cons]; omega
/-- how many numbers below n have a property -/
def cntN (n : Nat) (p : Nat → Bool) : Nat := ((List.range n).filter p).length
theorem cntN_zero (p : Nat → Bool) : cntN 0 p = 0 := rfl
theorem cntN_succ (n : Nat) (p : Nat → Bool) : cntN (n + 1) p = cntN n p + if p n = true then 1 else 0 := by
  unfold cntN
  rw [List.range_succ, List.filter_append, List.length_append]
  cases h : p n <;> simp [h]
theorem cntN_congr {n : Nat} {p q : Nat → Bool} (h : ∀ i, i < n → p i = q i) : cntN n p = cntN n q := by
  unfold cntN
  congr 1
  exact List.filter_congr fun i hi => h i (List.mem_range.1 hi)
theorem cntN_le (n : Nat) (p : Nat → Bool) : cntN n p ≤ n := by
  unfold cntN
  exact Nat.le_trans (List.length_filter_le _ _) (by simp)
theorem cntN_mono {n : Nat} {p q : Nat → Bool} (h : ∀ i, i < n → p i = true → q i = true) : cntN n p ≤ cntN n q := by
  induction n with
  | zero => simp [cntN_zero]
  | succ n ih =>
    have := ih fun i hi => h i (by omega)
    rw [cntN_succ, cntN_succ]
    by_cases hp : p n = true
    · rw [if_pos hp, if_pos (h n (by omega) hp)]; omega
    · rw [if_neg hp]; split <;> omega
theorem cntN_split (n : Nat) (p q : Nat → Bool) : cntN n p = cntN n (fun i => p i && q i) + cntN n fun i => p i && !q i := by
  induction n with
  | zero => rfl
  | succ n ih =>
    rw [cntN_succ, cntN_succ, cntN_succ, ih]
    cases hp : p n <;> cases hq : q n <;> simp <;> omega
theorem cntN_all (n : Nat) : cntN n (fun _ => true) = n := by
  induction n with
  | zero => rfl
  | succ n ih => rw [cntN_succ, ih]; rfl
theorem cntN_none (n : Nat) : cntN n (fun _ => false) = 0 := by
  induction n with
  | zero => rfl
  | succ n ih => rw [cntN_succ, ih]; rfl
theorem cntN_not (n : Nat) (p : Nat → Bool) : cntN n p + cntN n (fun i => !p i) = n := by
  have := cntN_split n (fun _ => true) p
  rw [cntN_all] at this
  simp only [Bool.true_and] at this
  have e : cntN n p = cntN n fun i => p i := rfl
  omega
theorem cntN_inj {n m : Nat} {p q : Nat → Bool} (f : Nat → Nat) (h : ∀ i, i < n → p i = true → f i < m ∧ q (f i) = true) (hi : ∀ i j, i < n → j < n → p i = true → p j = true → f i = f j → i = j) : cntN n p ≤ cntN m q := by
  have h1 : (((List.range n).filter p).map f).Nodup := by
    rw [List.Nodup, List.pairwise_map]
    refine List.Pairwise.imp_of_mem ?_ (List.nodup_range.filter p)
    intro a b ha hb hne e
    have ha := List.mem_filter.1 ha
    have hb := List.mem_filter.1 hb
    exact hne (hi a b (List.mem_range.1 ha.1) (List.mem_range.1 hb.1) ha.2 hb.2 e)
  have := nodup_subG h1 (M := (List.range m).filter q) fun r hr => by
    obtain ⟨i, hi, rfl⟩ := List.mem_map.1 hr
    have hi := List.mem_filter.1 hi
    obtain ⟨a, b⟩ := h i (List.mem_range.1 hi.1) hi.2
    exact List.mem_filter.2 ⟨List.mem_range.2 a, b⟩
  rw [List.length_map] at this
  exact this
theorem cntN_one {n k : Nat} {p q : Nat → Bool} (hk : k < n) (hp : p k = false) (hq : q k = true) (h : ∀ i, i < n → i ≠ k → p i = q i) : cntN n q = cntN n p + 1 := by
  induction n with
  | zero => omega
  | succ n ih =>
    rw [cntN_succ, cntN_succ]
    by_cases e : k = n
    · subst e
      rw [cntN_congr (p := p) (q := q) fun i hi => h i (by omega) (by omega)]
      simp [hp, hq]
    · rw [ih (by omega) fun i hi hne => h i (by omega) hne, h n (by omega) (fun hh => e hh.symm)]; omega
theorem cntN_pos {n k : Nat} {p : Nat → Bool} (hk : k < n) (hp : p k = true) : 0 < cntN n p := by
  unfold cntN
  exact List.length_pos_of_mem (List.mem_filter.2 ⟨List.mem_range.2 hk, hp⟩)
theorem cntN_get {n : Nat} {p : Nat → Bool} (h : 0 < cntN n p) : ∃ k, k < n ∧ p k = true := by
  unfold cntN at h
  obtain ⟨k, hk⟩ := List.exists_mem_of_length_pos h
  have := List.mem_filter.1 hk
  exact ⟨k, List.mem_range.1 this.1, this.2⟩
theorem cntN_two {n i j : Nat} {p : Nat → Bool} (hi : i < n) (hj : j < n) (hne : i ≠ j) (pi : p i = true) (pj : p j = true) : 2 ≤ cntN n p := by
  have h1 := cntN_one (n := n) (k := i) (p := fun k => p k && !decide (k = i)) (q := p) hi (by simp) pi fun k _ hk => by simp [hk]
  have h2 := cntN_pos (n := n) (k := j) (p := fun k => p k && !decide (k = i)) hj (by simp [pj]; omega)
  omega

/-- places with their owners -/
structure MtOk (n : Nat) (E : Nat → Nat → Bool) (m : List Int) : Prop where
  len : m.length = n
  own : ∀ k, k < n → nth m k = -1 ∨ ∃ j : Nat, j < n ∧ nth m k = (j : Int) ∧ E j k = true
def ownN (n : Nat) (m : List Int) (j : Nat) : Nat := cntN n fun k => decide (nth m k = (j : Int))
/-- the search for a place, from a number on -/
inductive TryL (n : Nat) (E : Nat → Nat → Bool) : Nat → Nat → List Bool → List Int → Bool → List Bool → List Int → Prop
  | done (i : Nat) (s : List Bool) (m : List Int) : TryL n E n i s m false s m
  | skip {k i : Nat} {s s' : List Bool} {m m' : List Int} {o : Bool} (hk : k < n) (h : nth s k = true ∨ E i k = false) (t : TryL n E (k + 1) i s m o s' m') : TryL n E k i s m o s' m'
  | free {k i : Nat} {s : List Bool} {m : List Int} (hk : k < n) (hs : nth s k = false) (he : E i k = true) (hm : nth m k = -1) : TryL n E k i s m true (s.set k true) (m.set k (i : Int))
  | push {k i j : Nat} {s s' : List Bool} {m m' : List Int} (hk : k < n) (hs : nth s k = false) (he : E i k = true) (hm : nth m k = (j : Int)) (t : TryL n E 0 j (s.set k true) m true s' m') : TryL n E k i s m true s' (m'.set k (i : Int))
  | back {k i j : Nat} {s s1 s' : List Bool} {m m1 m' : List Int} {o : Bool} (hk : k < n) (hs : nth s k = false) (he : E i k = true) (hm : nth m k = (j : Int)) (t : TryL n E 0 j (s.set k true) m false s1 m1) (t2 : TryL n E (k + 1) i s1 m1 o s' m') : TryL n E k i s m o s' m'
section
variable {n : Nat} {E : Nat → Nat → Bool}
theorem MtOk.set {m : List Int} (h : MtOk n E m) {k i : Nat} (_hk : k < n) (hi : i < n) (he : E i k = true) : MtOk n E (m.set k (i : Int)) := by
  refine ⟨by rw [List.length_set]; exact h.len, fun k' hk' => ?_⟩
  rw [nth_set _ _ _ _ (by rw [h.len]; exact hk')]
  by_cases e : k = k'
  · rw [if_pos e, ← e]; exact .inr ⟨i, hi, rfl, he⟩
  · rw [if_neg e]; exact h.own k' hk'
theorem nth_setMt {s : List Bool} {k k' : Nat} (hk : k' < s.length) : nth (s.set k true) k' = true ↔ k = k' ∨ nth s k' = true := by
  rw [nth_set _ _ _ _ hk]
  by_cases e : k = k' <;> simp [e]
theorem TryL.out {k i : Nat} {s s' : List Bool} {m m' : List Int} {o : Bool} (t : TryL n E k i s m o s' m') : s.length = n → MtOk n E m → i < n →
    s'.length = n ∧ (∀ k, k < n → nth s k = true → nth s' k = true) ∧ MtOk n E m' ∧ (∀ k, k < n → nth s k = true → nth m' k = nth m k) ∧ (o = true → ∀ j, ownN n m' j = ownN n m j + if j = i then 1 else 0) ∧ (o = false → m' = m) := by
  induction t with
  | done i s m => exact fun hs hm _ => ⟨hs, fun _ _ h => h, hm, fun _ _ _ => rfl, fun h => absurd h Bool.false_ne_true, fun _ => rfl⟩
  | skip hk h t ih => exact ih
  | @free k i s m hk hs he hf =>
    intro hsl hm hi
    refine ⟨by rw [List.length_set]; exact hsl, fun k' hk' h => (nth_setMt (by omega)).2 (.inr h), hm.set hk hi he, fun k' hk' h => ?_, fun _ j => ?_, fun h => absurd h (by simp)⟩
    · rw [nth_set _ _ _ _ (by rw [hm.len]; exact hk'), if_neg (fun e => by rw [e, h] at hs; exact absurd hs (by simp))]
    · unfold ownN
      by_cases e : j = i
      · subst e
        rw [if_pos rfl]
        refine cntN_one hk (by rw [hf]; exact decide_eq_false (by omega)) (by rw [nth_set _ _ _ _ (by rw [hm.len]; exact hk), if_pos rfl]; exact decide_eq_true rfl) fun k' hk' hne => ?_
        rw [nth_set _ _ _ _ (by rw [hm.len]; exact hk'), if_neg (Ne.symm hne)]
      · rw [if_neg e, Nat.add_zero]
        refine cntN_congr fun k' hk' => ?_
        rw [nth_set _ _ _ _ (by rw [hm.len]; exact hk')]
        by_cases e' : k = k'
        · subst e'
          rw [if_pos rfl, hf, decide_eq_false (by omega), decide_eq_false (by omega)]
        · rw [if_neg e']
  | @push k i j s s' m m' hk hs he hf t ih =>
    intro hsl hm hi
    have hj : j < n := by
      rcases hm.own k hk with h | ⟨j', h1, h2, _⟩ <;> omega
    obtain ⟨a1, a2, a3, a4, a5, _⟩ := ih (by rw [List.length_set]; exact hsl) hm hj
    have hkj : nth m' k = (j : Int) := by rw [a4 k hk ((nth_setMt (by omega)).2 (.inl rfl)), hf]
    refine ⟨a1, fun k' hk' h => a2 k' hk' ((nth_setMt (by omega)).2 (.inr h)), a3.set hk hi he, fun k' hk' h => ?_, fun _ l => ?_, fun h => absurd h (by simp)⟩
    · rw [nth_set _ _ _ _ (by rw [a3.len]; exact hk'), if_neg (fun e => by rw [e, h] at hs; exact absurd hs (by simp))]
      exact a4 k' hk' ((nth_setMt (by omega)).2 (.inr h))
    · have h5 := a5 rfl l
      have hset : ∀ k', k' < n → nth (m'.set k (i : Int)) k' = if k = k' then (i : Int) else nth m' k' := fun k' hk' => nth_set _ _ _ _ (by rw [a3.len]; exact hk')
      have key : ownN n (m'.set k (i : Int)) l + (if l = j then 1 else 0) = ownN n m' l + if l = i then 1 else 0 := by
        unfold ownN
        by_cases e1 : l = i
        · by_cases e2 : l = j
          · rw [if_pos e1, if_pos e2]
            congr 1
            refine cntN_congr fun k' hk' => ?_
            rw [hset k' hk']
            by_cases e' : k = k'
            · subst e'; rw [if_pos rfl, hkj, ← e1, ← e2]
            · rw [if_neg e']
          · rw [if_pos e1, if_neg e2, Nat.add_zero]
            refine cntN_one hk (by rw [hkj]; exact decide_eq_false (by omega)) (by rw [hset k hk, if_pos rfl]; exact decide_eq_true (by omega)) fun k' hk' hne => ?_
            rw [hset k' hk', if_neg (Ne.symm hne)]
        · by_cases e2 : l = j
          · rw [if_neg e1, if_pos e2, Nat.add_zero]
            refine (cntN_one hk (by rw [hset k hk, if_pos rfl]; exact decide_eq_false (by omega)) (by rw [hkj]; exact decide_eq_true (by omega)) fun k' hk' hne => ?_).symm
            rw [hset k' hk', if_neg (Ne.symm hne)]
          · rw [if_neg e1, if_neg e2]
            congr 1
            refine cntN_congr fun k' hk' => ?_
            rw [hset k' hk']
            by_cases e' : k = k'
            · subst e'; rw [if_pos rfl, hkj, decide_eq_false (by omega), decide_eq_false (by omega)]
            · rw [if_neg e']
      omega
  | @back k i j s s1 s' m m1 m' o hk hs he hf t t2 ih ih2 =>
    intro hsl hm hi
    have hj : j < n := by
      rcases hm.own k hk with h | ⟨j', h1, h2, _⟩ <;> omega
    obtain ⟨a1, a2, a3, a4, _, a6⟩ := ih (by rw [List.length_set]; exact hsl) hm hj
    have e := a6 rfl
    subst e
    obtain ⟨b1, b2, b3, b4, b5, b6⟩ := ih2 a1 hm hi
    have mo : ∀ k', k' < n → nth s k' = true → nth s1 k' = true := fun k' hk' h => a2 k' hk' ((nth_setMt (by omega)).2 (.inr h))
    exact ⟨b1, fun k' hk' h => b2 k' hk' (mo k' hk' h), b3, fun k' hk' h => b4 k' hk' (mo k' hk' h), b5, b6⟩
/-- a search that fails has seen all that can be reached -/
theorem TryL.closed {k i : Nat} {s s' : List Bool} {m m' : List Int} {o : Bool} (t : TryL n E k i s m o s' m') : s.length = n → MtOk n E m → i < n → o = false →
    (∀ k', k ≤ k' → k' < n → E i k' = true → nth s' k' = true) ∧ ∀ k', k' < n → nth s' k' = true → nth s k' = false → ∃ j : Nat, nth m k' = (j : Int) ∧ ∀ l, l < n → E j l = true → nth s' l = true := by
  induction t with
  | done i s m => exact fun _ _ _ _ => ⟨fun k' h1 h2 => by omega, fun k' _ h1 h2 => by rw [h1] at h2; cases h2⟩
  | @skip k i s s' m m' o hk h t ih =>
    intro hsl hm hi ho
    obtain ⟨a1, a2⟩ := ih hsl hm hi ho
    refine ⟨fun k' h1 h2 h3 => ?_, a2⟩
    by_cases e : k' = k
    · subst e
      rcases h with h | h
      · exact (t.out hsl hm hi).2.1 _ h2 h
      · rw [h] at h3; cases h3
    · exact a1 k' (by omega) h2 h3
  | free => exact fun _ _ _ h => absurd h (by simp)
  | push => exact fun _ _ _ h => absurd h (by simp)
  | @back k i j s s1 s' m m1 m' o hk hs he hf t t2 ih ih2 =>
    intro hsl hm hi ho
    have hj : j < n := by
      rcases hm.own k hk with h | ⟨j', h1, h2, _⟩ <;> omega
    have hsl' : (s.set k true).length = n := by rw [List.length_set]; exact hsl
    obtain ⟨q1, q2, _, _, _, q6⟩ := t.out hsl' hm hj
    have e := q6 rfl
    subst e
    obtain ⟨r1, r2, _⟩ := t2.out q1 hm hi
    obtain ⟨a1, a2⟩ := ih hsl' hm hj rfl
    obtain ⟨b1, b2⟩ := ih2 q1 hm hi ho
    refine ⟨fun k' h1 h2 h3 => ?_, fun k' hk' h1 h2 => ?_⟩
    · by_cases e : k' = k
      · subst e
        exact r2 _ h2 (q2 _ h2 ((nth_setMt (by omega)).2 (.inl rfl)))
      · exact b1 k' (by omega) h2 h3
    · cases h3 : nth s1 k' with
      | false => exact b2 k' hk' h1 h3
      | true =>
        by_cases e : k = k'
        · subst e
          exact ⟨j, hf, fun l hl h => r2 l hl (a1 l (Nat.zero_le _) hl h)⟩
        · obtain ⟨j', j1, j2⟩ := a2 k' hk' h3 (by rw [nth_set _ _ _ _ (by omega), if_neg e]; exact h2)
          exact ⟨j', j1, fun l hl h => r2 l hl (j2 l hl h)⟩
/-- places from which no free place is reached -/
def Dead (n : Nat) (E : Nat → Nat → Bool) (m : List Int) (D : Nat → Bool) : Prop := ∀ k, k < n → D k = true → ∃ j : Nat, nth m k = (j : Int) ∧ ∀ l, l < n → E j l = true → D l = true
theorem TryL.dead {k i : Nat} {s s' : List Bool} {m m' : List Int} {o : Bool} (t : TryL n E k i s m o s' m') (D : Nat → Bool) : s.length = n → MtOk n E m → i < n → Dead n E m D →
    (∀ k', k' < n → D k' = true → nth m' k' = nth m k') ∧ (o = true → ∃ k', k' < n ∧ E i k' = true ∧ D k' = false) := by
  induction t with
  | done i s m => exact fun _ _ _ _ => ⟨fun _ _ _ => rfl, fun h => absurd h (by simp)⟩
  | skip hk h t ih => exact ih
  | @free k i s m hk hs he hf =>
    intro hsl hm hi hd
    have hD : D k = false := by
      cases h : D k with
      | false => rfl
      | true => obtain ⟨j, h1, _⟩ := hd k hk h; omega
    refine ⟨fun k' hk' h => ?_, fun _ => ⟨k, hk, he, hD⟩⟩
    rw [nth_set _ _ _ _ (by rw [hm.len]; exact hk'), if_neg (fun e => by rw [e, h] at hD; cases hD)]
  | @push k i j s s' m m' hk hs he hf t ih =>
    intro hsl hm hi hd
    have hj : j < n := by
      rcases hm.own k hk with h | ⟨j', h1, h2, _⟩ <;> omega
    obtain ⟨a1, a2⟩ := ih (by rw [List.length_set]; exact hsl) hm hj hd
    have ml := (t.out (by rw [List.length_set]; exact hsl) hm hj).2.2.1.len
    obtain ⟨l, l1, l2, l3⟩ := a2 rfl
    have hD : D k = false := by
      cases h : D k with
      | false => rfl
      | true =>
        obtain ⟨j', h1, h2⟩ := hd k hk h
        have : j' = j := by omega
        subst this
        rw [h2 l l1 l2] at l3; cases l3
    refine ⟨fun k' hk' h => ?_, fun _ => ⟨k, hk, he, hD⟩⟩
    rw [nth_set _ _ _ _ (by rw [ml]; exact hk'), if_neg (fun e => by rw [e, h] at hD; cases hD)]
    exact a1 k' hk' h
  | @back k i j s s1 s' m m1 m' o hk hs he hf t t2 ih ih2 =>
    intro hsl hm hi hd
    have hj : j < n := by
      rcases hm.own k hk with h | ⟨j', h1, h2, _⟩ <;> omega
    have q := t.out (by rw [List.length_set]; exact hsl) hm hj
    have e := q.2.2.2.2.2 rfl
    subst e
    exact ih2 q.1 hm hi hd

/-- a matching: no owner has two places -/
structure MtOne (n : Nat) (E : Nat → Nat → Bool) (m : List Int) : Prop extends MtOk n E m where
  one : ∀ j, ownN n m j ≤ 1
def sizeN (n : Nat) (m : List Int) : Nat := cntN n fun k => decide (nth m k ≠ -1)
theorem MtOne.inj {m : List Int} (h : MtOne n E m) {k l : Nat} (hk : k < n) (hl : l < n) {j : Nat} (ek : nth m k = (j : Int)) (el : nth m l = (j : Int)) : k = l := by
  refine Classical.byContradiction fun hne => ?_
  have := cntN_two (p := fun k => decide (nth m k = (j : Int))) hk hl hne (decide_eq_true ek) (decide_eq_true el)
  have := h.one j
  unfold ownN at this
  omega
/-- what is known after some searches: who got a place, and the places that are dead -/
structure MtInv (n : Nat) (E : Nat → Nat → Bool) (i0 : Nat) (m : List Int) (S D : Nat → Bool) : Prop where
  ok : MtOk n E m
  cnt : ∀ j, ownN n m j = if j < i0 ∧ S j = true then 1 else 0
  dead : Dead n E m D
  no : ∀ j, j < i0 → S j = false → ∀ k, k < n → E j k = true → D k = true
theorem MtInv.start (n : Nat) (E : Nat → Nat → Bool) : MtInv n E 0 (List.replicate n (-1)) (fun _ => false) fun _ => false where
  ok := ⟨by simp, fun k hk => .inl (nth_replicate _ hk)⟩
  cnt j := by
    rw [if_neg (by omega)]
    unfold ownN
    rw [cntN_congr (q := fun _ => false) fun k hk => by rw [nth_replicate _ hk]; exact decide_eq_false (by omega)]
    simp [cntN]
  dead k _ h := by cases h
  no j h := by omega
theorem MtInv.step {i : Nat} {m m' : List Int} {S D : Nat → Bool} {s' : List Bool} {o : Bool} (h : MtInv n E i m S D) (hi : i < n) (t : TryL n E 0 i (List.replicate n false) m o s' m') :
    ∃ D', MtInv n E (i + 1) m' (fun j => if j = i then o else S j) D' := by
  have hsl : (List.replicate n false).length = n := by simp
  obtain ⟨a1, a2, a3, a4, a5, a6⟩ := t.out hsl h.ok hi
  cases o with
  | true =>
    obtain ⟨d1, d2⟩ := t.dead D hsl h.ok hi h.dead
    refine ⟨D, a3, fun j => ?_, fun k hk hD => ?_, fun j hj hS k hk he => ?_⟩
    · rw [a5 rfl j, h.cnt j]
      by_cases e : j = i
      · subst e
        rw [if_neg (by omega), if_pos rfl, if_pos rfl, if_pos ⟨by omega, rfl⟩]
      · rw [if_neg e, if_neg e]
        by_cases hc : j < i ∧ S j = true
        · rw [if_pos hc, if_pos ⟨by omega, hc.2⟩]
        · rw [if_neg hc, if_neg (fun hh => hc ⟨by omega, hh.2⟩)]
    · obtain ⟨j, j1, j2⟩ := h.dead k hk hD
      exact ⟨j, by rw [d1 k hk hD]; exact j1, j2⟩
    · by_cases e : j = i
      · rw [if_pos e] at hS; cases hS
      · rw [if_neg e] at hS
        exact h.no j (by omega) hS k hk he
  | false =>
    have e := a6 rfl
    subst e
    obtain ⟨c1, c2⟩ := t.closed hsl h.ok hi rfl
    refine ⟨fun k => D k || nth s' k, h.ok, fun j => ?_, fun k hk hD => ?_, fun j hj hS k hk he => ?_⟩
    · rw [h.cnt j]
      by_cases e : j = i
      · subst e
        rw [if_neg (by omega), if_neg (by simp)]
      · rw [if_neg e]
        by_cases hc : j < i ∧ S j = true
        · rw [if_pos hc, if_pos ⟨by omega, hc.2⟩]
        · rw [if_neg hc, if_neg (fun hh => hc ⟨by omega, hh.2⟩)]
    · cases hd : D k with
      | true =>
        obtain ⟨j, j1, j2⟩ := h.dead k hk hd
        exact ⟨j, j1, fun l hl he => by rw [j2 l hl he]; rfl⟩
      | false =>
        rw [hd, Bool.false_or] at hD
        obtain ⟨j, j1, j2⟩ := c2 k hk hD (nth_replicate _ hk)
        exact ⟨j, j1, fun l hl he => by rw [j2 l hl he]; simp⟩
    · by_cases e : j = i
      · subst e
        rw [c1 k (Nat.zero_le _) hk he]; simp
      · rw [if_neg e] at hS
        rw [h.no j (by omega) hS k hk he]; rfl
section
variable {m : List Int} {S D : Nat → Bool}
theorem MtInv.one (h : MtInv n E n m S D) : MtOne n E m := ⟨h.ok, fun j => by rw [h.cnt j]; split <;> omega⟩
theorem MtInv.got (h : MtInv n E n m S D) {j : Nat} (hj : j < n) : (∃ k, k < n ∧ nth m k = (j : Int)) ↔ S j = true := by
  have hc := h.cnt j
  constructor
  · rintro ⟨k, hk, e⟩
    have := cntN_pos (p := fun k => decide (nth m k = (j : Int))) hk (decide_eq_true e)
    unfold ownN at hc
    by_cases hs : j < n ∧ S j = true
    · exact hs.2
    · rw [if_neg hs] at hc; omega
  · intro hs
    rw [if_pos ⟨hj, hs⟩] at hc
    obtain ⟨k, hk, e⟩ := cntN_get (p := fun k => decide (nth m k = (j : Int))) (n := n) (by unfold ownN at hc; omega)
    exact ⟨k, hk, of_decide_eq_true e⟩
theorem MtInv.size (h : MtInv n E n m S D) : sizeN n m = cntN n S := by
  refine Nat.le_antisymm ?_ ?_
  · refine cntN_inj (fun k => (nth m k).toNat) (fun k hk hm => ?_) fun k l hk hl hm hm' e => ?_
    · rcases h.ok.own k hk with h1 | ⟨j, h1, h2, _⟩
      · exact absurd h1 (of_decide_eq_true hm)
      · rw [h2, Int.toNat_natCast]
        exact ⟨h1, (h.got h1).1 ⟨k, hk, h2⟩⟩
    · rcases h.ok.own k hk with h1 | ⟨j, h1, h2, _⟩
      · exact absurd h1 (of_decide_eq_true hm)
      rcases h.ok.own l hl with h1' | ⟨j', h1', h2', _⟩
      · exact absurd h1' (of_decide_eq_true hm')
      exact h.one.inj hk hl h2 (by omega)
  · have hch : ∀ j, ∃ k, j < n → S j = true → k < n ∧ nth m k = (j : Int) := fun j => by
      by_cases hj : j < n ∧ S j = true
      · obtain ⟨k, h1, h2⟩ := (h.got hj.1).2 hj.2
        exact ⟨k, fun _ _ => ⟨h1, h2⟩⟩
      · exact ⟨0, fun h1 h2 => absurd ⟨h1, h2⟩ hj⟩
    obtain ⟨f, hf⟩ := Classical.axiomOfChoice hch
    refine cntN_inj f (fun j hj hs => ?_) fun i j hi hj hsi hsj e => ?_
    · obtain ⟨h1, h2⟩ := hf j hj hs
      exact ⟨h1, decide_eq_true (by omega)⟩
    · have h1 := (hf i hi hsi).2
      have h2 := (hf j hj hsj).2
      rw [e] at h1
      omega
/-- an owner of a dead place -/
noncomputable def dOwn (n : Nat) (m : List Int) (D : Nat → Bool) (j : Nat) : Bool := decide (∃ k, k < n ∧ D k = true ∧ nth m k = (j : Int))
theorem MtInv.dle (h : MtInv n E n m S D) : cntN n D ≤ cntN n fun j => S j && dOwn n m D j := by
  refine cntN_inj (fun k => (nth m k).toNat) (fun k hk hD => ?_) fun k l hk hl hD hD' e => ?_
  · obtain ⟨j, h1, _⟩ := h.dead k hk hD
    have hj : j < n := by
      rcases h.ok.own k hk with h2 | ⟨j', h2, h3, _⟩ <;> omega
    rw [h1, Int.toNat_natCast]
    refine ⟨hj, ?_⟩
    rw [(h.got hj).1 ⟨k, hk, h1⟩, Bool.true_and]
    exact decide_eq_true ⟨k, hk, hD, h1⟩
  · obtain ⟨j, h1, _⟩ := h.dead k hk hD
    obtain ⟨j', h1', _⟩ := h.dead l hl hD'
    exact h.one.inj hk hl h1 (by omega)
/-- no matching is larger -/
theorem MtInv.most (h : MtInv n E n m S D) {μ : List Int} (hμ : MtOne n E μ) : sizeN n μ ≤ cntN n S := by
  have h1 := cntN_split n (fun k => decide (nth μ k ≠ -1)) D
  have h2 := cntN_split n S fun j => dOwn n m D j
  have h3 := h.dle
  have h4 : (cntN n fun k => decide (nth μ k ≠ -1) && D k) ≤ cntN n D := cntN_mono fun k _ hk => by
    rw [Bool.and_eq_true] at hk; exact hk.2
  have h5 : (cntN n fun k => decide (nth μ k ≠ -1) && !D k) ≤ cntN n fun j => S j && !dOwn n m D j := by
    refine cntN_inj (fun k => (nth μ k).toNat) (fun k hk hp => ?_) fun k l hk hl hp hp' e => ?_
    · rw [Bool.and_eq_true] at hp
      rcases hμ.own k hk with h6 | ⟨j, h6, h7, h8⟩
      · exact absurd h6 (of_decide_eq_true hp.1)
      · rw [h7, Int.toNat_natCast]
        have hD : D k = false := by simpa using hp.2
        refine ⟨h6, ?_⟩
        rw [Bool.and_eq_true]
        constructor
        · cases hs : S j with
          | true => rfl
          | false => rw [h.no j h6 hs k hk h8] at hD; cases hD
        · rw [Bool.not_eq_true']
          refine decide_eq_false ?_
          rintro ⟨l, hl, hDl, el⟩
          obtain ⟨j', j1, j2⟩ := h.dead l hl hDl
          have : j' = j := by omega
          subst this
          rw [j2 k hk h8] at hD; cases hD
    · rw [Bool.and_eq_true] at hp hp'
      rcases hμ.own k hk with h6 | ⟨j, h6, h7, _⟩
      · exact absurd h6 (of_decide_eq_true hp.1)
      rcases hμ.own l hl with h6' | ⟨j', h6', h7', _⟩
      · exact absurd h6' (of_decide_eq_true hp'.1)
      exact hμ.inj hk hl h7 (by omega)
  unfold sizeN
  omega
/-- as many as got no place, no two of them on an edge -/
theorem MtInv.apart (h : MtInv n E n m S D) : ∃ A : Nat → Bool, n ≤ cntN n A + cntN n S ∧ ∀ i j, i < n → j < n → A i = true → A j = true → E i j = false := by
  refine ⟨fun v => (!S v || dOwn n m D v) && !D v, ?_, fun i j hi hj hA hB => ?_⟩
  · have h1 := cntN_split n (fun v => !S v || dOwn n m D v) D
    have h2 : (cntN n fun v => (!S v || dOwn n m D v) && D v) ≤ cntN n D := cntN_mono fun k _ hk => by
      rw [Bool.and_eq_true] at hk; exact hk.2
    have h3 := cntN_split n (fun v => !S v || dOwn n m D v) S
    have h4 : (cntN n fun j => S j && dOwn n m D j) ≤ cntN n fun v => (!S v || dOwn n m D v) && S v := cntN_mono fun k _ hk => by
      rw [Bool.and_eq_true] at hk
      simp [hk.1, hk.2]
    have h5 : cntN n (fun v => !S v) ≤ cntN n fun v => (!S v || dOwn n m D v) && !S v := cntN_mono fun k _ hk => by
      simp only [Bool.not_eq_true'] at hk
      simp [hk]
    have h6 := cntN_not n S
    have h7 := h.dle
    omega
  · simp only [Bool.and_eq_true, Bool.or_eq_true, Bool.not_eq_true'] at hA hB
    cases he : E i j with
    | false => rfl
    | true =>
      have hD : D j = true := by
        rcases hA.1 with hs | hd
        · exact h.no i hi hs j hj he
        · obtain ⟨k, hk, hDk, ek⟩ := of_decide_eq_true hd
          obtain ⟨j', j1, j2⟩ := h.dead k hk hDk
          have : j' = i := by omega
          subst this
          exact j2 j hj he
      rw [hD] at hB
      exact absurd hB.2 (by simp)
end
end

end Go.Proofs.Ytpfikenknmlajaa.Ax
