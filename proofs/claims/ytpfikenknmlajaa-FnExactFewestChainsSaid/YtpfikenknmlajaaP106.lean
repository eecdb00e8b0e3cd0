/-
  Chains out of a matching: each element is in one of them.
-/
import Derived.Test.YtpfikenknmlajaaP104
namespace Go.Proofs.Ytpfikenknmlajaa.Ax
open Go Classical

/-- who follows whom below a number -/
def NxR (n i : Nat) (φ next : List Int) : Prop := next.length = n ∧ ∀ j, j < i → (nth next j = -1 ∧ ∀ k, k < n → nth φ k ≠ (j : Int)) ∨ ∃ k : Nat, k < n ∧ nth next j = (k : Int) ∧ nth φ k = (j : Int)
/-- from one on, as far as it goes -/
def chainF (next : List Int) : Nat → Int → List Int
  | 0, _ => []
  | k + 1, y => if y < 0 then [] else y :: chainF next k (nth next y.toNat)
theorem cast_beq {a b : Nat} (h : a ≠ b) : ¬ ((a : Int) == (b : Int)) = true := fun hh => h (by have := eq_of_beq hh; omega)
/-- above an element -/
def upC (n : Nat) (L : Nat → Nat → Bool) (y : Nat) : Nat := cntN n fun z => L y z
structure StrO (n : Nat) (L : Nat → Nat → Bool) : Prop where
  irr : ∀ x, x < n → L x x = false
  tr : ∀ x y z, x < n → y < n → z < n → L x y = true → L y z = true → L x z = true
section
variable {n : Nat} {L : Nat → Nat → Bool}
theorem StrO.up_lt (h : StrO n L) {x y : Nat} (hx : x < n) (hy : y < n) (hL : L x y = true) : upC n L y < upC n L x := by
  have h1 := cntN_split n (fun z => L x z) fun z => L y z
  have h2 : cntN n (fun z => L y z) ≤ cntN n fun z => L x z && L y z := cntN_mono fun z hz hl => by
    rw [h.tr x y z hx hy hz hL hl, hl]; rfl
  have h3 := cntN_pos (n := n) (p := fun z => L x z && !L y z) hy (by rw [hL, h.irr y hy]; rfl)
  unfold upC
  omega
theorem StrO.dn_lt (h : StrO n L) {x y : Nat} (hx : x < n) (hy : y < n) (hL : L x y = true) : cntN n (fun z => L z x) < cntN n fun z => L z y := by
  have h1 := cntN_split n (fun z => L z y) fun z => L z x
  have h2 : cntN n (fun z => L z x) ≤ cntN n fun z => L z y && L z x := cntN_mono fun z hz hl => by
    rw [h.tr z x y hz hx hy hl hL, hl]; rfl
  have h3 := cntN_pos (n := n) (p := fun z => L z y && !L z x) hx (by rw [hL, h.irr x hx]; rfl)
  omega
variable {φ next : List Int} (hL : StrO n L) (hφ : MtOne n L φ) (hN : NxR n n φ next)
include hφ hN
theorem nx_of {j k : Nat} (hj : j < n) (hk : k < n) : nth next j = (k : Int) ↔ nth φ k = (j : Int) := by
  rcases hN.2 j hj with ⟨h1, h2⟩ | ⟨k', h1, h2, h3⟩
  · rw [h1]
    exact ⟨fun h => by omega, fun h => absurd h (h2 k hk)⟩
  · rw [h2]
    constructor
    · intro h
      have : k' = k := by omega
      rw [← this]; exact h3
    · intro h
      rw [hφ.inj h1 hk h3 h]
theorem nx_val {j : Nat} (hj : j < n) : nth next j = -1 ∨ ∃ k : Nat, k < n ∧ nth next j = (k : Int) ∧ L j k = true := by
  rcases hN.2 j hj with ⟨h1, _⟩ | ⟨k, h1, h2, h3⟩
  · exact .inl h1
  · rcases hφ.own k h1 with h4 | ⟨j', _, h5, h6⟩
    · omega
    · have : j' = j := by omega
      subst this
      exact .inr ⟨k, h1, h2, h6⟩
include hL
/-- the chain from an element: it, and the chain from its follower -/
theorem chain_more : ∀ (k : Nat) (y : Nat), y < n → upC n L y < k → ∀ m, k ≤ m → chainF next m (y : Int) = chainF next k (y : Int) := by
  intro k
  induction k with
  | zero => intro y _ h; omega
  | succ k ih =>
    intro y hy hu m hm
    obtain ⟨m', rfl⟩ : ∃ m', m = m' + 1 := ⟨m - 1, by omega⟩
    simp only [chainF]
    rw [if_neg (by omega), if_neg (by omega), Int.toNat_natCast]
    congr 1
    rcases nx_val hφ hN hy with h1 | ⟨z, hz, h1, h2⟩
    · rw [h1]
      have e : ∀ j, chainF next j (-1) = [] := fun j => by cases j with
        | zero => rfl
        | succ j => simp [chainF]
      rw [e, e]
    · rw [h1]
      have := hL.up_lt hy hz h2
      exact ih z hz (by omega) m' (by omega)
/-- the whole chain from an element -/
theorem chain_cons {y : Nat} (hy : y < n) : chainF next (n + 1) (y : Int) = (y : Int) :: (if nth next y < 0 then [] else chainF next (n + 1) (nth next y)) := by
  show (if (y : Int) < 0 then [] else (y : Int) :: chainF next n (nth next (y : Int).toNat)) = _
  rw [if_neg (by omega), Int.toNat_natCast]
  congr 1
  rcases nx_val hφ hN hy with h1 | ⟨z, hz, h1, h2⟩
  · rw [h1, if_pos (by omega)]
    cases n with
    | zero => rfl
    | succ n => simp [chainF]
  · rw [h1, if_neg (by omega)]
    have h3 := hL.up_lt hy hz h2
    have h4 : upC n L y ≤ n := cntN_le _ _
    exact (chain_more hL hφ hN n z hz (by omega) (n + 1) (by omega)).symm
/-- induction along a chain -/
theorem chain_ind {P : Nat → Prop} (h1 : ∀ y, y < n → nth next y < 0 → P y) (h2 : ∀ y z, y < n → z < n → nth next y = (z : Int) → L y z = true → P z → P y) : ∀ y, y < n → P y := by
  have key : ∀ k y, y < n → upC n L y < k → P y := by
    intro k
    induction k with
    | zero => intro y _ h; omega
    | succ k ih =>
      intro y hy hu
      rcases nx_val hφ hN hy with e | ⟨z, hz, e, hl⟩
      · exact h1 y hy (by omega)
      · exact h2 y z hy hz e hl (ih z hz (by have := hL.up_lt hy hz hl; omega))
  exact fun y hy => key (upC n L y + 1) y hy (by omega)
/-- a chain's members, and each two of them -/
theorem chain_ok : ∀ y, y < n → (∀ v ∈ chainF next (n + 1) (y : Int), ∃ z : Nat, z < n ∧ v = (z : Int) ∧ (z = y ∨ L y z = true)) ∧ (chainF next (n + 1) (y : Int)).Pairwise (fun u v => L u.toNat v.toNat = true) := by
  refine chain_ind hL hφ hN (fun y hy h => ?_) fun y z hy hz e hl ih => ?_
  · rw [chain_cons hL hφ hN hy, if_pos h]
    refine ⟨fun v hv => ⟨y, hy, List.mem_singleton.1 hv, .inl rfl⟩, by simp⟩
  · rw [chain_cons hL hφ hN hy, e, if_neg (by omega)]
    have hm : ∀ v ∈ chainF next (n + 1) (z : Int), ∃ w : Nat, w < n ∧ v = (w : Int) ∧ L y w = true := fun v hv => by
      obtain ⟨w, hw, ev, hc⟩ := ih.1 v hv
      refine ⟨w, hw, ev, ?_⟩
      rcases hc with hc | hc
      · rw [hc]; exact hl
      · exact hL.tr y z w hy hz hw hl hc
    refine ⟨fun v hv => ?_, List.pairwise_cons.2 ⟨fun v hv => ?_, ih.2⟩⟩
    · rcases List.mem_cons.1 hv with hv | hv
      · exact ⟨y, hy, hv, .inl rfl⟩
      · obtain ⟨w, hw, ev, hc⟩ := hm v hv
        exact ⟨w, hw, ev, .inr hc⟩
    · obtain ⟨w, hw, ev, hc⟩ := hm v hv
      rw [ev, Int.toNat_natCast, Int.toNat_natCast]; exact hc
theorem chain_len {y : Nat} (hy : y < n) : (chainF next (n + 1) (y : Int)).length ≤ n := by
  have key : ∀ k y, y < n → upC n L y < k → (chainF next (n + 1) (y : Int)).length ≤ upC n L y + 1 := by
    intro k
    induction k with
    | zero => intro y _ h; omega
    | succ k ih =>
      intro y hy hu
      rw [chain_cons hL hφ hN hy]
      rcases nx_val hφ hN hy with e | ⟨z, hz, e, hl⟩
      · rw [if_pos (by omega)]; simp
      · rw [e, if_neg (by omega)]
        have h1 := hL.up_lt hy hz hl
        have := ih z hz (by omega)
        simp only [List.length_cons]; omega
  have h1 := key (upC n L y + 1) y hy (by omega)
  have h2 : upC n L y < n := by
    unfold upC
    have := cntN_not n fun z => L y z
    have := cntN_pos (n := n) (p := fun z => !L y z) hy (by rw [hL.irr y hy]; rfl)
    omega
  omega
/-- who has nobody ahead is at the beginning of chains alone -/
theorem count_root {x : Nat} (_hx : x < n) (hr : nth φ x = -1) : ∀ y, y < n → (chainF next (n + 1) (y : Int)).count (x : Int) = if y = x then 1 else 0 := by
  refine chain_ind hL hφ hN (fun y hy h => ?_) fun y z hy hz e hl ih => ?_
  · rw [chain_cons hL hφ hN hy, if_pos h, List.count_cons]
    by_cases hyx : y = x
    · rw [if_pos hyx, hyx]; simp
    · rw [if_neg hyx]
      rw [if_neg (cast_beq hyx)]; rfl
  · rw [chain_cons hL hφ hN hy, e, if_neg (by omega), List.count_cons, ih]
    have hzx : z ≠ x := fun hh => by
      have := (nx_of hφ hN hy hz).1 e
      rw [hh, hr] at this
      omega
    rw [if_neg hzx]
    by_cases hyx : y = x
    · rw [if_pos hyx, hyx]; simp
    · rw [if_neg hyx, if_neg (cast_beq hyx)]
/-- who follows another one is where that one is -/
theorem count_next {x j : Nat} (hx : x < n) (hj : j < n) (hr : nth φ x = (j : Int)) : ∀ y, y < n → (chainF next (n + 1) (y : Int)).count (x : Int) = (if y = x then 1 else 0) + (chainF next (n + 1) (y : Int)).count (j : Int) := by
  have hjx : j ≠ x := fun hh => by
    rcases hφ.own x hx with h | ⟨j', _, h2, h3⟩
    · omega
    · have : j' = x := by omega
      rw [this, hL.irr x hx] at h3; cases h3
  refine chain_ind hL hφ hN (fun y hy h => ?_) fun y z hy hz e hl ih => ?_
  · have hyj : y ≠ j := fun hh => by
      have := (nx_of hφ hN hj hx).2 hr
      rw [← hh] at this
      omega
    rw [chain_cons hL hφ hN hy, if_pos h, List.count_cons, List.count_cons]
    rw [if_neg (cast_beq hyj)]
    by_cases hyx : y = x
    · rw [if_pos hyx, hyx]; simp
    · rw [if_neg hyx, if_neg (cast_beq hyx)]; rfl
  · rw [chain_cons hL hφ hN hy, e, if_neg (by omega), List.count_cons, List.count_cons, ih]
    have hiff : z = x ↔ y = j := by
      constructor
      · intro h
        rw [h] at e
        have := (nx_of hφ hN hy hx).1 e
        omega
      · intro h
        rw [h] at e
        have := (nx_of hφ hN hj hx).2 hr
        omega
    by_cases hyj : y = j
    · rw [if_pos (hiff.2 hyj), hyj, if_neg hjx, if_neg (cast_beq hjx)]; simp; omega
    · rw [if_neg (fun h => hyj (hiff.1 h)), if_neg (cast_beq hyj)]
      by_cases hyx : y = x
      · rw [if_pos hyx, hyx]; simp; omega
      · rw [if_neg hyx, if_neg (cast_beq hyx)]; omega
omit hL hN in
theorem root_dec (x : Nat) (hx : x < n) : nth φ x = -1 ∨ ∃ j : Nat, j < n ∧ nth φ x = (j : Int) ∧ L j x = true := by
  rcases hφ.own x hx with h | ⟨j, h1, h2, h3⟩
  · exact .inl h
  · exact .inr ⟨j, h1, h2, h3⟩
/-- the chains -/
theorem chains_one {x : Nat} (hx : x < n) : ((((List.range n).filter fun y => decide (nth φ y = -1)).map fun y : Nat => chainF next (n + 1) (y : Int)).flatten).count (x : Int) = 1 := by
  have cnt : ∀ (R : List Nat) (x : Nat), ((R.map fun y : Nat => chainF next (n + 1) (y : Int)).flatten).count (x : Int) = (R.map fun y : Nat => (chainF next (n + 1) (y : Int)).count (x : Int)).sum := by
    intro R x
    induction R with
    | nil => rfl
    | cons r R ih => simp only [List.map_cons, List.flatten_cons, List.count_append, List.sum_cons, ih]
  have key : ∀ k x, x < n → cntN n (fun z => L z x) < k → ((((List.range n).filter fun y => decide (nth φ y = -1)).map fun y : Nat => chainF next (n + 1) (y : Int)).flatten).count (x : Int) = 1 := by
    intro k
    induction k with
    | zero => intro x _ h; omega
    | succ k ih =>
      intro x hx hk
      rw [cnt]
      rcases root_dec hφ x hx with hr | ⟨j, hj, hr, hl⟩
      · have e : (((List.range n).filter fun y => decide (nth φ y = -1)).map fun y : Nat => (chainF next (n + 1) (y : Int)).count (x : Int)) = ((List.range n).filter fun y => decide (nth φ y = -1)).map fun y : Nat => if y = x then 1 else 0 := by
          refine List.map_congr_left fun y hy => ?_
          exact count_root hL hφ hN hx hr y (List.mem_range.1 (List.mem_filter.1 hy).1)
        rw [e]
        have key2 : ∀ (R : List Nat), R.Nodup → x ∈ R → (R.map fun y : Nat => if y = x then 1 else 0).sum = 1 := by
          intro R
          induction R with
          | nil => intro _ h; cases h
          | cons r R ih2 =>
            intro hd hm
            obtain ⟨d1, d2⟩ := List.nodup_cons.1 hd
            simp only [List.map_cons, List.sum_cons]
            by_cases hrx : r = x
            · have h0 : ∀ (R : List Nat), x ∉ R → (R.map fun y : Nat => if y = x then 1 else 0).sum = 0 := by
                intro R
                induction R with
                | nil => intro _; rfl
                | cons r R ih3 =>
                  intro hn
                  simp only [List.map_cons, List.sum_cons]
                  rw [if_neg (fun hh => hn (by rw [hh]; simp)), ih3 (fun hh => hn (by simp [hh]))]
              rw [if_pos hrx, h0 R (by rw [← hrx]; exact d1)]
            · rw [if_neg hrx, ih2 d2 (by
                rcases List.mem_cons.1 hm with h | h
                · exact absurd h.symm hrx
                · exact h)]
        exact key2 _ (List.nodup_range.filter _) (List.mem_filter.2 ⟨List.mem_range.2 hx, decide_eq_true hr⟩)
      · have e : (((List.range n).filter fun y => decide (nth φ y = -1)).map fun y : Nat => (chainF next (n + 1) (y : Int)).count (x : Int)) = ((List.range n).filter fun y => decide (nth φ y = -1)).map fun y : Nat => (chainF next (n + 1) (y : Int)).count (j : Int) := by
          refine List.map_congr_left fun y hy => ?_
          obtain ⟨y1, y2⟩ := List.mem_filter.1 hy
          rw [count_next hL hφ hN hx hj hr y (List.mem_range.1 y1), if_neg (fun hh => by
            have := of_decide_eq_true y2
            rw [hh, hr] at this
            omega), Nat.zero_add]
        rw [e, ← cnt]
        exact ih j hj (by have := hL.dn_lt hj hx hl; omega)
  exact key _ x hx (Nat.lt_succ_self _)
end

end Go.Proofs.Ytpfikenknmlajaa.Ax
