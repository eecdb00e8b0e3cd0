/-
  Draws: they return, and what they give is small.
-/
import Derived.Test.YtoikbcagaanhgaaP19
import Derived.Test.YtoikbcagaanhgaaP26
import Derived.Test.YtoikbcagaanhgaaP30
import Derived.Test.YtoikbcagaanhgaaP22
namespace Go.Proofs.Ytoikbcagaanhgaa.Ax
open Go
def Cur (k : Nat) (c : Sl1Cur) : Prop := (∀ x ∈ c.code, 0 ≤ x ∧ x ≤ 255) ∧ c.code.length ≤ 65536 ∧ 0 ≤ c.at_ ∧ c.at_ ≤ k
theorem Cur.mono {k l : Nat} {c : Sl1Cur} (h : Cur k c) (hl : k ≤ l) : Cur l c := ⟨h.1, h.2.1, h.2.2.1, by have := h.2.2.2; omega⟩
theorem wrapU_in {n : Int} (h0 : 0 ≤ n) (h1 : n ≤ 255) : IntKind.u64.wrap n = n := by
  simp [IntKind.wrap, IntKind.bits, IntKind.signed]
  omega
theorem draw_next {c : Sl1Cur} {k : Nat} (h : Cur k c) (hk : k ≤ 1000000000) : ∃ r d, F_spec_l1Cur_next c = some (r, d) ∧ Cur (k + 1) d ∧ 0 ≤ r ∧ r ≤ 255 := by
  obtain ⟨h1, h2, h3, h4⟩ := h
  unfold F_spec_l1Cur_next
  have fin : ∀ q : Int, 0 ≤ q → q ≤ 255 → ∃ r d, (ask (InI (c.at_ + 1)) <|
      if c.at_ + 1 ≤ (c.code.length : Int) then
        some (q, ({ code := c.code, at_ := c.at_ + 1, seed := IntKind.u64.wrap (IntKind.u64.wrap (IntKind.u64.wrap (c.seed * 6364136223846793005) + IntKind.u64.wrap q) + 550289) } : Sl1Cur))
      else some (IntKind.i64.wrap (IntKind.u64.wrap (((BitVec.ofInt IntKind.u64.bits ((IntKind.u64.wrap (IntKind.u64.wrap (IntKind.u64.wrap (c.seed * 6364136223846793005) + IntKind.u64.wrap q) + 550289)).fdiv (2 ^ min (Int.toNat 40) IntKind.u64.bits)) &&& BitVec.ofInt IntKind.u64.bits 255).toNat : Nat) : Int)),
        ({ code := c.code, at_ := c.at_ + 1, seed := IntKind.u64.wrap (IntKind.u64.wrap (IntKind.u64.wrap (c.seed * 6364136223846793005) + IntKind.u64.wrap q) + 550289) } : Sl1Cur))) = some (r, d) ∧ Cur (k + 1) d ∧ 0 ≤ r ∧ r ≤ 255 := by
    intro q hq0 hq1
    rw [ask_pos (by unfold InI; omega)]
    split
    · exact ⟨_, _, rfl, ⟨h1, h2, by show 0 ≤ c.at_ + 1; omega, by show c.at_ + 1 ≤ ((k + 1 : Nat) : Int); omega⟩, hq0, hq1⟩
    · refine ⟨_, _, rfl, ⟨h1, h2, by show 0 ≤ c.at_ + 1; omega, by show c.at_ + 1 ≤ ((k + 1 : Nat) : Int); omega⟩, ?_⟩
      generalize BitVec.ofInt IntKind.u64.bits ((IntKind.u64.wrap (IntKind.u64.wrap (IntKind.u64.wrap (c.seed * 6364136223846793005) + IntKind.u64.wrap q) + 550289)).fdiv (2 ^ min (Int.toNat 40) IntKind.u64.bits)) = b
      have hb : (b &&& BitVec.ofInt IntKind.u64.bits 255).toNat ≤ 255 := by
        rw [BitVec.toNat_and]
        have : (BitVec.ofInt IntKind.u64.bits 255).toNat = 255 := by decide
        rw [this]
        exact Nat.and_le_right
      generalize (b &&& BitVec.ofInt IntKind.u64.bits 255).toNat = z at hb
      rw [wrapU_in (by omega) (by omega), wrap_in (by omega) (by omega)]
      omega
  by_cases hc : c.at_ < (c.code.length : Int)
  · rw [if_pos hc, ask_pos ⟨h3, hc⟩]
    have hm := h1 _ (nth_mem (xs := c.code) (i := c.at_.toNat) (by omega))
    rw [wrap_in (by omega) (by omega)]
    simp only [Option.bind_some]
    exact fin _ hm.1 hm.2
  · rw [if_neg hc]
    simp only [Option.bind_some]
    exact fin 0 (by omega) (by omega)
theorem draw_pick {c : Sl1Cur} {k : Nat} (h : Cur k c) (hk : k ≤ 900000000) (n : Int) : ∃ r d, F_spec_l1Cur_pick c n = some (r, d) ∧ Cur (k + 2) d ∧ 0 ≤ r ∧ (r < n ∨ (n ≤ 1 ∧ r = 0)) := by
  unfold F_spec_l1Cur_pick
  by_cases h1 : n ≤ 1
  · rw [if_pos h1]; exact ⟨0, c, rfl, h.mono (by omega), by omega, .inr ⟨h1, rfl⟩⟩
  · rw [if_neg h1]
    obtain ⟨r, d, e, hd, a1, a2⟩ := draw_next h (by omega)
    simp only [e, Option.bind_some]
    by_cases h2 : n > 200
    · rw [if_pos h2, ask_pos (by unfold InI; omega)]
      obtain ⟨r2, d2, e2, hd2, b1, b2⟩ := draw_next hd (by omega)
      simp only [e2, Option.bind_some]
      rw [ask_pos (by unfold InI; omega), ask_pos (by omega)]
      refine ⟨_, _, rfl, hd2, Int.tmod_nonneg _ (by omega), .inl ?_⟩
      exact Int.tmod_lt_of_pos _ (by omega)
    · rw [if_neg h2, ask_pos (by omega)]
      refine ⟨_, _, rfl, hd.mono (by omega), Int.tmod_nonneg _ (by omega), .inl ?_⟩
      exact Int.tmod_lt_of_pos _ (by omega)
theorem draw_one {c : Sl1Cur} {k : Nat} (h : Cur k c) (hk : k ≤ 900000000) (n : Int) : ∃ b d, F_spec_l1Cur_one c n = some (b, d) ∧ Cur (k + 2) d := by
  unfold F_spec_l1Cur_one
  obtain ⟨r, d, e, hd, _, _⟩ := draw_pick h hk n
  simp only [e, Option.bind_some]
  exact ⟨_, _, rfl, hd⟩
theorem draw_among {c : Sl1Cur} {k : Nat} (h : Cur k c) (hk : k ≤ 900000000) (l : List Int) (h0 : 0 < l.length) : ∃ r d, F_spec_l1Cur_among c l = some (r, d) ∧ Cur (k + 2) d ∧ r ∈ l := by
  unfold F_spec_l1Cur_among
  obtain ⟨r, d, e, hd, a1, a2⟩ := draw_pick h hk (l.length : Int)
  simp only [e, Option.bind_some]
  rw [ask_pos (by omega)]
  exact ⟨_, _, rfl, hd, nth_mem (by omega)⟩
theorem draw_names {c : Sl1Cur} {k : Nat} (h : Cur k c) (hk : k ≤ 800000000) (n : Nat) (hn : n ≤ 10) : ∃ l d, F_spec_l1Cur_names2 c (n : Int) = some (l, d) ∧ Cur (k + 40) d ∧ l.length ≤ 11 := by
  unfold F_spec_l1Cur_names2
  obtain ⟨⟨l, d⟩, e, hl, hd⟩ := loop_inv (body := F_spec_l1Cur_names2_l1 (n : Int)) (fun s => ∃ i : Nat, s.1 = (i : Int) ∧ i ≤ n ∧ s.2.1.length = i ∧ Cur (k + 2 * i) s.2.2) (fun s => n - s.1.toNat)
    (fun t => t.1.length = n ∧ Cur (k + 2 * n) t.2) (fun s hs => by
      obtain ⟨x6, x5, x53⟩ := s
      obtain ⟨i, e1, e2, e3, e4⟩ := hs
      simp only at e1 e3 e4
      subst e1
      unfold F_spec_l1Cur_names2_l1
      dsimp only
      by_cases hi : i < n
      · left
        rw [if_pos (by omega), ask_pos (by unfold InI; omega)]
        obtain ⟨r, d, e5, hd, a1, a2⟩ := draw_pick e4 (by omega) ((x5.length : Int) + 1)
        simp only [e5, Option.bind_some]
        have hr : r ≤ (x5.length : Int) := by omega
        have ht : (List.take (r.toNat - Int.toNat 0) (List.drop (Int.toNat 0) x5)).length = r.toNat := by simp; omega
        have hd2 : (List.take ((x5.length : Int).toNat - r.toNat) (List.drop r.toNat x5)).length = x5.length - r.toNat := by simp
        have hL := lim_def
        have h0 : (nilL Int).length = 0 := rfl
        rw [ask_pos ⟨by omega, a1, hr⟩, ask_pos (by rw [h0, ht]; omega), ask_pos (by rw [List.length_append, h0, ht]; simp; omega), ask_pos ⟨a1, hr, by omega⟩, ask_pos (by rw [List.length_append, List.length_append, h0, ht, hd2]; simp; omega),
          ask_pos (by unfold InI; omega)]
        refine ⟨_, rfl, ⟨i + 1, by simp, by omega, ?_, hd.mono (by omega)⟩, ?_⟩
        · simp only [List.length_append, h0, ht, hd2]; simp; omega
        · simp only; omega
      · right
        rw [if_neg (by omega)]
        have : i = n := by omega
        subst this
        exact ⟨_, rfl, e3, e4⟩) (s := (0, nilL Int, c)) ⟨0, by simp, by omega, rfl, h⟩
  simp only at hl hd
  rw [e]
  simp only [Option.bind_some]
  obtain ⟨r, d2, e2, hd2, a1, a2⟩ := draw_pick hd (by omega) 24
  simp only [e2, Option.bind_some]
  have hL := lim_def
  by_cases h0 : r = 0
  · rw [if_pos h0, ask_pos (by simp; omega)]
    exact ⟨_, _, rfl, hd2.mono (by omega), by simp; omega⟩
  · rw [if_neg h0]
    by_cases h1 : r = 1
    · rw [if_pos h1]
      by_cases h3 : (n : Int) > 0
      · rw [if_pos h3]
        obtain ⟨r3, d3, e3, hd3, b1, b2⟩ := draw_pick hd2 (by omega) (n : Int)
        simp only [e3, Option.bind_some]
        obtain ⟨r4, d4, e4, hd4, b3⟩ := draw_among hd3 (by omega) [0, -1, (n : Int)] (by simp)
        simp only [e4, Option.bind_some]
        rw [ask_pos (by omega)]
        exact ⟨_, _, rfl, hd4.mono (by omega), by simp; omega⟩
      · rw [if_neg h3]; exact ⟨_, _, rfl, hd2.mono (by omega), by omega⟩
    · rw [if_neg h1]; exact ⟨_, _, rfl, hd2.mono (by omega), by omega⟩
def allPairs (n : Nat) (ps : List (Int × Int)) : Prop := ∀ z ∈ ps, okPair n z
theorem allPairs_nth {n : Nat} {ps : List (Int × Int)} (h : allPairs n ps) : ∀ i, i < ps.length → okPair n (nth ps i) := fun _ hi => h _ (nth_mem hi)
theorem perm_pair {n : Nat} {f : List Int} (hf : (f.length : Int) = n ∧ inSize f n ∧ uniq f) {z : Int × Int} (hz : okPair n z) : okPair n (nth f z.1.toNat, nth f z.2.toNat) := by
  obtain ⟨h1, h2, h3⟩ := hf
  obtain ⟨⟨⟨a1, a2⟩, b1, b2⟩, hne⟩ := hz
  have m1 := h2 _ (nth_mem (xs := f) (i := z.1.toNat) (by omega))
  have m2 := h2 _ (nth_mem (xs := f) (i := z.2.toNat) (by omega))
  refine ⟨⟨m1, m2⟩, fun e => ?_⟩
  have key : ∀ i j, i < j → j < f.length → nth f i ≠ nth f j := by
    intro i j hij hj he
    refine h3 j hj ?_
    rw [← he]
    exact List.mem_take_iff_getElem.2 ⟨i, by omega, by rw [nth_lt (by omega)]⟩
  have hne2 : z.1.toNat ≠ z.2.toNat := by omega
  rcases Nat.lt_or_gt_of_ne hne2 with h4 | h4
  · exact key _ _ h4 (by omega) e
  · exact key _ _ h4 (by omega) e.symm
theorem turn_pairs {n : Nat} {f : List Int} (hf : (f.length : Int) = n ∧ inSize f n ∧ uniq f) {body : (Int × List (Int × Int)) → Option ((Int × List (Int × Int)) ⊕ List (Int × Int))} (L : Nat) (hL : L ≤ 1000000)
    (hb : ∀ (i : Nat) (ps : List (Int × Int)), ps.length = L → allPairs n ps → body ((i : Int), ps) = if i < L then some (.inl (((i + 1 : Nat) : Int), ps.set i (nth f (nth ps i).1.toNat, nth f (nth ps i).2.toNat))) else some (.inr ps))
    {ps : List (Int × Int)} (h0 : ps.length = L) (hp : allPairs n ps) : ∃ t, loopO body (0, ps) = some t ∧ t.length = L ∧ allPairs n t := by
  refine loop_inv (body := body) (fun s => ∃ i : Nat, s.1 = (i : Int) ∧ i ≤ L ∧ s.2.length = L ∧ allPairs n s.2) (fun s => L - s.1.toNat) (fun t => t.length = L ∧ allPairs n t) (fun s hs => ?_) ⟨0, by simp, by omega, h0, hp⟩
  obtain ⟨x, qs⟩ := s
  obtain ⟨i, e1, e2, e3, e4⟩ := hs
  simp only at e1 e3 e4
  subst e1
  rw [hb i qs e3 e4]
  by_cases hi : i < L
  · left
    rw [if_pos hi]
    refine ⟨_, rfl, ⟨i + 1, rfl, by omega, by simpa using e3, ?_⟩, by simp only; omega⟩
    intro z hz
    rcases List.mem_or_eq_of_mem_set hz with h1 | h1
    · exact e4 z h1
    · subst h1; exact perm_pair hf (e4 _ (nth_mem (by omega)))
  · right
    rw [if_neg hi]
    exact ⟨_, rfl, e3, e4⟩
def tiny (p : SPoset) : Prop := p.Below.length ≤ 20 ∧ ∀ r ∈ p.Below, r.length ≤ 20
theorem tiny_small {p : SPoset} (h : tiny p) : small p := ⟨by have := lim_def; have := h.1; omega, fun r hr => by have := lim_def; have := h.2 r hr; omega⟩
theorem tiny_pos {n : Nat} (f : Nat → Nat → Bool) (hn : n ≤ 20) : tiny (posOf n f) := ⟨by rw [posOf_len]; exact hn, fun r hr => Nat.le_trans (posOf_rows r hr) hn⟩
theorem tset_keep {f : Nat → Nat → Bool} {x y a b : Nat} {v : Bool} (h : f a b = true) (hv : v = true ∨ ¬ (a = x ∧ b = y)) : tset f x y v a b = true := by
  unfold tset
  split
  · rename_i hh
    rcases hv with h1 | h1
    · exact h1
    · exact absurd hh h1
  · exact h
theorem pset_keep {f : Nat → Nat → Bool} {ps : List (Int × Int)} {a b : Nat} (h : f a b = true) : ∀ k, pset f ps k a b = true := by
  intro k
  induction k with
  | zero => exact h
  | succ k ih => exact tset_keep ih (.inl rfl)
theorem wy_keep {f : Nat → Nat → Bool} {z x a b : Nat} (h : f a b = true) : ∀ y, wy f z x y a b = true := by
  intro y
  induction y with
  | zero => exact h
  | succ y ih =>
    simp only [wy]
    by_cases hh : a = x ∧ b = y
    · obtain ⟨rfl, rfl⟩ := hh
      exact tset_keep ih (.inl (by rw [ih]; rfl))
    · exact tset_keep ih (.inr hh)
theorem wx_keep {n : Nat} {f : Nat → Nat → Bool} {z a b : Nat} (h : f a b = true) : ∀ x, wx n f z x a b = true := by
  intro x
  induction x with
  | zero => exact h
  | succ x ih => exact wy_keep ih n
theorem wz_keep {n : Nat} {f : Nat → Nat → Bool} {a b : Nat} (h : f a b = true) : ∀ z, wz n f z a b = true := by
  intro z
  induction z with
  | zero => exact h
  | succ z ih => exact wx_keep ih n
theorem ways_refl {n : Nat} {ps : List (Int × Int)} {x : Nat} (hx : x < n) : ways n ps x x = true :=
  wz_keep (pset_keep (by unfold dg; exact decide_eq_true ⟨rfl, hx⟩) _) _
theorem draw_from {n : Nat} {ps : List (Int × Int)} (hn : n ≤ 10) (h60 : ps.length ≤ 1000) (hok : allPairs n ps) : ∃ f, F_spec_l23From (n : Int) ps = some (posOf n f) ∧ ∀ x, x < n → f x x = true :=
  ⟨_, F_from hn h60 (allPairs_nth hok), fun _ hx => ways_refl hx⟩
theorem ok_all {n : Nat} {ps : List (Int × Int)} (h : ps.all (fun z => decide (0 ≤ z.1) && decide (z.1 < (n : Int)) && decide (0 ≤ z.2) && decide (z.2 < (n : Int)) && decide (z.1 ≠ z.2)) = true) : allPairs n ps := by
  intro z hz
  have := List.all_eq_true.1 h z hz
  simp only [Bool.and_eq_true, decide_eq_true_eq] at this
  exact ⟨⟨⟨this.1.1.1.1, this.1.1.1.2⟩, this.1.1.2, this.1.2⟩, this.2⟩
theorem three_ord : isOrd 3 (ways 3 [(0, 1), (1, 2)]) := by
  have : ∀ x, x < 3 → ∀ y, y < 3 → ways 3 [(0, 1), (1, 2)] x y = decide (x ≤ y) := by decide
  refine isOrd_congr (f := fun x y => decide (x ≤ y)) (fun x y hx hy => (this x hx y hy).symm) fun x hx => ⟨by simp, fun y hy => ⟨fun h => ?_, fun z hz h1 h2 => ?_⟩⟩
  · obtain ⟨h1, h2, h3⟩ := h
    have h2 := of_decide_eq_true h2
    have h3 := of_decide_eq_true h3
    omega
  · have h1 := of_decide_eq_true h1
    have h2 := of_decide_eq_true h2
    exact decide_eq_true (by omega)
theorem draw_known {k : Int} (_h0 : 0 ≤ k) (_h1 : k < 12) : ∃ n f, n ≤ 9 ∧ F_spec_l24Known k = some (posOf n f) := by
  have from_ : ∀ (n : Nat) (ps : List (Int × Int)) (g : SPoset → Option SPoset), n ≤ 9 → ps.length ≤ 1000 → ps.all (fun z => decide (0 ≤ z.1) && decide (z.1 < (n : Int)) && decide (0 ≤ z.2) && decide (z.2 < (n : Int)) && decide (z.1 ≠ z.2)) = true → (∀ r, g r = some r) →
      ∃ m f, m ≤ 9 ∧ (F_spec_l23From (n : Int) ps).bind g = some (posOf m f) := by
    intro n ps g hn hl ha hg
    obtain ⟨f, e, _⟩ := draw_from (n := n) (ps := ps) (by omega) hl (ok_all ha)
    exact ⟨n, f, hn, by rw [e]; exact hg _⟩
  unfold F_spec_l24Known
  by_cases a0 : k = 0
  · rw [if_pos a0]; exact from_ 1 [] _ (by omega) (by simp) (by decide) (fun _ => rfl)
  rw [if_neg a0]
  by_cases a1 : k = 1
  · rw [if_pos a1]; exact from_ 2 _ _ (by omega) (by simp) (by decide) (fun _ => rfl)
  rw [if_neg a1]
  by_cases a2 : k = 2
  · rw [if_pos a2]; exact from_ 4 _ _ (by omega) (by simp) (by decide) (fun _ => rfl)
  rw [if_neg a2]
  by_cases a3 : k = 3
  · rw [if_pos a3]; exact from_ 4 _ _ (by omega) (by simp) (by decide) (fun _ => rfl)
  rw [if_neg a3]
  by_cases a4 : k = 4
  · rw [if_pos a4]; exact from_ 5 _ _ (by omega) (by simp) (by decide) (fun _ => rfl)
  rw [if_neg a4]
  by_cases a5 : k = 5
  · rw [if_pos a5]; exact from_ 5 _ _ (by omega) (by simp) (by decide) (fun _ => rfl)
  rw [if_neg a5]
  by_cases a6 : k = 6
  · rw [if_pos a6]; exact from_ 8 _ _ (by omega) (by simp) (by decide) (fun _ => rfl)
  rw [if_neg a6]
  by_cases a7 : k = 7
  · rw [if_pos a7]; exact from_ 6 _ _ (by omega) (by simp) (by decide) (fun _ => rfl)
  rw [if_neg a7]
  by_cases a8 : k = 8
  · rw [if_pos a8]; exact from_ 6 _ _ (by omega) (by simp) (by decide) (fun _ => rfl)
  rw [if_neg a8]
  by_cases a9 : k = 9
  · rw [if_pos a9]; exact from_ 7 _ _ (by omega) (by simp) (by decide) (fun _ => rfl)
  rw [if_neg a9]
  by_cases a10 : k = 10
  · rw [if_pos a10]
    have e : F_spec_l23From 3 [(0, 1), (1, 2)] = some (posOf 3 (ways 3 [(0, 1), (1, 2)])) := F_from (n := 3) (by omega) (by simp) (allPairs_nth (ok_all (by decide)))
    have hg : good (posOf 3 (ways 3 [(0, 1), (1, 2)])).Below := (posOf_good (by omega)).2 three_ord
    rw [e]
    simp only [Option.bind_some]
    rw [F_l24Product hg hg, posOf_len]
    exact ⟨9, _, by omega, rfl⟩
  rw [if_neg a10]
  exact from_ 3 _ _ (by omega) (by simp) (by decide) (fun _ => rfl)
theorem prRow_mem {n : Nat} {f : Nat → Nat → Bool} {x : Nat} (hx : x < n) {acc : List (Int × Int)} (ha : allPairs n acc) : ∀ y, y ≤ n → allPairs n (prRow n f x acc y) := by
  intro y
  induction y with
  | zero => intro _; exact ha
  | succ y ih =>
    intro hy
    simp only [prRow]
    split
    · rename_i hc
      intro z hz
      rcases List.mem_append.1 hz with h1 | h1
      · exact ih (by omega) z h1
      · simp at h1
        subst h1
        refine ⟨⟨⟨by simp, by simpa using hx⟩, by simp, by simp; omega⟩, fun e => ?_⟩
        have exy : x = y := by
          have : (x : Int) = (y : Int) := e
          omega
        subst exy
        unfold cov at hc
        have := (of_decide_eq_true hc).1.1
        exact this rfl
    · exact ih (by omega)
theorem prAll_mem {n : Nat} {f : Nat → Nat → Bool} : ∀ x, x ≤ n → allPairs n (prAll n f x) := by
  intro x
  induction x with
  | zero => intro _ z hz; cases hz
  | succ x ih => intro hx; exact prRow_mem (by omega) (ih (by omega)) n (Nat.le_refl _)
open Classical
theorem draw_poset {c : Sl1Cur} {k : Nat} (h : Cur k c) (hk : k ≤ 700000000) : ∃ p d, F_spec_l1Cur_poset c = some (p, d) ∧ Cur (k + 2000) d ∧ tiny p := by
  have hL := lim_def
  unfold F_spec_l1Cur_poset
  obtain ⟨r1, u2, e1, h2, m1⟩ := draw_among h (by omega) [0, 1, 2, 3, 4, 4, 5, 5, 6, 7] (by simp)
  rw [e1]
  simp only [Option.bind_some]
  obtain ⟨n, hn, rfl⟩ : ∃ n : Nat, n ≤ 7 ∧ r1 = (n : Int) := by
    refine ⟨r1.toNat, ?_, ?_⟩ <;> · simp at m1; omega
  clear m1 e1
  obtain ⟨⟨ps, d1⟩, e3, l3, p3, h3⟩ := loop_inv (body := F_spec_l1Cur_poset_l2 (n : Int)) (fun s => ∃ i : Nat, s.1 = (i : Int) ∧ i ≤ n ∧ s.2.1.length ≤ 10 * i ∧ allPairs n s.2.1 ∧ Cur (k + 2 + 20 * i) s.2.2) (fun s => n - s.1.toNat)
    (fun t => t.1.length ≤ 70 ∧ allPairs n t.1 ∧ Cur (k + 200) t.2) (fun s hs => by
      obtain ⟨x5, x4, x147⟩ := s
      obtain ⟨i, e1, e2, e3, e4, e5⟩ := hs
      simp only at e1 e3 e4 e5
      subst e1
      unfold F_spec_l1Cur_poset_l2
      dsimp only
      by_cases hi : i < n
      · left
        rw [if_pos (by omega), ask_pos (by unfold InI; omega)]
        obtain ⟨⟨qs, d2⟩, f1, f2, f3, f4⟩ := loop_inv (body := F_spec_l1Cur_poset_l1 (n : Int) (i : Int)) (fun s => ∃ j : Nat, s.1 = (j : Int) ∧ i < j ∧ j ≤ n ∧ s.2.1.length ≤ 10 * i + j ∧ allPairs n s.2.1 ∧ Cur (k + 2 + 20 * i + 2 * j) s.2.2) (fun s => n - s.1.toNat)
          (fun t => t.1.length ≤ 10 * i + 10 ∧ allPairs n t.1 ∧ Cur (k + 2 + 20 * i + 20) t.2) (fun s hs => by
            obtain ⟨y6, y4, y147⟩ := s
            obtain ⟨j, g1, g2, g3, g4, g5, g6⟩ := hs
            simp only at g1 g4 g5 g6
            subst g1
            unfold F_spec_l1Cur_poset_l1
            dsimp only
            by_cases hj : j < n
            · left
              rw [if_pos (by omega)]
              obtain ⟨b, d, e6, h6⟩ := draw_one g6 (by omega) 3
              simp only [e6, Option.bind_some]
              by_cases hb : b = true
              · rw [if_pos hb, ask_pos (by simp; omega), ask_pos (by unfold InI; omega)]
                refine ⟨_, rfl, ⟨j + 1, rfl, by omega, by omega, by simp; omega, ?_, h6.mono (by omega)⟩, by simp only; omega⟩
                intro z hz
                rcases List.mem_append.1 hz with h1 | h1
                · exact g5 z h1
                · simp at h1
                  subst h1
                  exact ⟨⟨⟨by omega, by omega⟩, by omega, by omega⟩, by simp only; omega⟩
              · rw [if_neg hb, ask_pos (by unfold InI; omega)]
                exact ⟨_, rfl, ⟨j + 1, rfl, by omega, by omega, by simp only; omega, g5, h6.mono (by omega)⟩, by simp only; omega⟩
            · right
              rw [if_neg (by omega)]
              exact ⟨_, rfl, by simp only; omega, g5, g6.mono (by omega)⟩) (s := ((i : Int) + 1, x4, x147)) ⟨i + 1, by simp, by omega, by omega, by simp only; omega, e4, e5.mono (by omega)⟩
        simp only at f2 f3 f4
        rw [f1]
        simp only [Option.bind_some]
        rw [ask_pos (by unfold InI; omega)]
        exact ⟨_, rfl, ⟨i + 1, rfl, by omega, by simp only; omega, f3, f4.mono (by omega)⟩, by simp only; omega⟩
      · right
        rw [if_neg (by omega)]
        exact ⟨_, rfl, by simp only; omega, e4, e5.mono (by omega)⟩) (s := (0, nilL (Int × Int), u2)) ⟨0, by simp, by omega, by simp [nilL], (by intro z hz; cases hz), h2⟩
  simp only at l3 p3 h3
  rw [e3]
  simp only [Option.bind_some]
  clear e3
  have names : ∃ qs d, (((F_spec_l1Cur_names2 d1 (n : Int)).bind fun (r14, u15) =>
     (((F_spec_l2Perm r14 (n : Int)).bind fun r16 =>
       if r16 = true then
        (F_spec_l1Cur_one u15 2).bind fun (r18, u19) =>
        some (r18, u19)
       else
        some (false, u15) : Option (Bool × Sl1Cur))).bind fun (q20_44, q20_147) =>
     if q20_44 = true then
      (loopO (F_spec_l1Cur_poset_l3 (n : Int) r14 q20_147) (0, ps)).bind fun q29_4 =>
      some (q29_4, q20_147)
     else
      some (ps, q20_147) : Option ((List (Int × Int)) × Sl1Cur))) = some (qs, d) ∧ qs.length ≤ 70 ∧ allPairs n qs ∧ Cur (k + 300) d := by
    obtain ⟨l, d2, e4, h4, hl4⟩ := draw_names h3 (by omega) n (by omega)
    rw [e4]
    simp only [Option.bind_some]
    rw [F_l2Perm (by omega) (by omega)]
    simp only [Option.bind_some]
    by_cases hp : (l.length : Int) = n ∧ inSize l n ∧ uniq l
    · have hpd : (decide ((l.length : Int) = n ∧ inSize l n ∧ uniq l)) = true := decide_eq_true hp
      simp only [hpd, if_true]
      obtain ⟨b, d3, e5, h5⟩ := draw_one h4 (by omega) 2
      rw [e5]
      simp only [Option.bind_some]
      by_cases hb : b = true
      · rw [if_pos hb]
        obtain ⟨t, f1, f2, f3⟩ := turn_pairs hp (body := F_spec_l1Cur_poset_l3 (n : Int) l d3) ps.length (by omega) (fun i qs hq hqs => by
          unfold F_spec_l1Cur_poset_l3
          dsimp only
          by_cases hi : i < ps.length
          · rw [if_pos (by omega), if_pos hi]
            obtain ⟨⟨⟨a1, a2⟩, a3, a4⟩, _⟩ := allPairs_nth hqs i (by omega)
            have hln := hp.1
            repeat rw [ask_pos (by first | omega | (unfold InI; omega) | (refine ⟨?_, ?_⟩ <;> (simp only [Int.toNat_natCast]; omega)))]
            simp
          · rw [if_neg (by omega), if_neg hi]) rfl p3
        rw [f1]
        exact ⟨_, _, rfl, by omega, f3, h5.mono (by omega)⟩
      · rw [if_neg hb]
        exact ⟨_, _, rfl, by omega, p3, h5.mono (by omega)⟩
    · have hpd : (decide ((l.length : Int) = n ∧ inSize l n ∧ uniq l)) = false := decide_eq_false hp
      simp only [hpd, if_false, Option.bind_some, Bool.false_eq_true]
      exact ⟨_, _, rfl, by omega, p3, h4.mono (by omega)⟩
  obtain ⟨qs, d5, e5, l5, p5, h5⟩ := names
  rw [e5]
  simp only [Option.bind_some]
  clear e5
  obtain ⟨f, e6, hrefl⟩ := draw_from (n := n) (ps := qs) (by omega) (by omega) p5
  rw [e6]
  simp only [Option.bind_some]
  have ht : tiny (posOf n f) := tiny_pos f (by omega)
  have hlen : (posOf n f).Below.length = n := posOf_len
  have hrow : ∀ x, x < n → (nth (posOf n f).Below x).length ≤ n ∧ 0 ≤ (nth (posOf n f).Below x).length := fun x hx => ⟨posOf_rows _ (nth_mem (by omega)), by omega⟩
  have spoil : ∃ t, ((if (n : Int) = 0 then
        some (.inl d5)
       else
        (F_spec_l1Cur_one d5 16).bind fun (r33, u34) =>
        if r33 = true then
         some (.inr u34)
        else
         some (.inl u34) : Option (Sl1Cur ⊕ Sl1Cur))) = some t ∧ ((∃ d, t = .inl d ∧ Cur (k + 400) d) ∨ (∃ d, t = .inr d ∧ Cur (k + 400) d ∧ n ≠ 0)) := by
    by_cases h0 : (n : Int) = 0
    · rw [if_pos h0]; exact ⟨_, rfl, .inl ⟨_, rfl, h5.mono (by omega)⟩⟩
    · rw [if_neg h0]
      obtain ⟨b, d6, e7, h6⟩ := draw_one h5 (by omega) 16
      rw [e7]
      simp only [Option.bind_some]
      by_cases hb : b = true
      · rw [if_pos hb]; exact ⟨_, rfl, .inr ⟨_, rfl, h6.mono (by omega), by omega⟩⟩
      · rw [if_neg hb]; exact ⟨_, rfl, .inl ⟨_, rfl, h6.mono (by omega)⟩⟩
  obtain ⟨t, e7, ⟨d6, rfl, h6⟩ | ⟨d6, rfl, h6, hn0⟩⟩ := spoil
  · rw [e7]
    exact ⟨_, _, rfl, h6.mono (by omega), ht⟩
  rw [e7]
  simp only [Option.bind_some]
  obtain ⟨r37, d7, e8, h7, a1, a2⟩ := draw_pick h6 (by omega) (n : Int)
  rw [e8]
  simp only [Option.bind_some]
  obtain ⟨r39, d8, e9, h8, _, _⟩ := draw_pick h7 (by omega) 4
  rw [e9]
  simp only [Option.bind_some]
  have hx : r37.toNat < n := by omega
  have hb37 : 0 ≤ r37 ∧ r37 < ((posOf n f).Below.length : Int) := by omega
  have setTiny : ∀ w : List Int, w.length ≤ 20 → tiny ⟨(posOf n f).Below.set r37.toNat w⟩ := by
    intro w hw
    refine ⟨by simpa using ht.1, fun r hr => ?_⟩
    rcases List.mem_or_eq_of_mem_set hr with h1 | h1
    · exact ht.2 r h1
    · subst h1; exact hw
  obtain ⟨hr1, _⟩ := hrow _ hx
  have hself : 1 ≤ (nth (posOf n f).Below r37.toNat).length := by
    have : ((r37.toNat : Nat) : Int) ∈ nth (posOf n f).Below r37.toNat := by
      rw [posOf_row hx]
      exact mem_sieve.2 ⟨r37.toNat, hx, hrefl _ hx, rfl⟩
    exact List.length_pos_of_mem this
  by_cases c0 : r39 = 0
  · rw [if_pos c0, ask_pos hb37]
    rw [ask_pos (by omega), ask_pos hb37]
    exact ⟨_, _, rfl, h8.mono (by omega), setTiny _ (by simp; omega)⟩
  rw [if_neg c0]
  by_cases c1 : r39 = 1
  · rw [if_pos c1, ask_pos hb37, ask_pos hb37, ask_pos hb37, ask_pos (by simp; omega), ask_pos hb37]
    exact ⟨_, _, rfl, h8.mono (by omega), setTiny _ (by simp; omega)⟩
  rw [if_neg c1]
  by_cases c2 : r39 = 2
  · rw [if_pos c2, ask_pos hb37]
    obtain ⟨r51, d9, e10, h9, b1, b2⟩ := draw_pick h8 (by omega) (n : Int)
    rw [e10]
    simp only [Option.bind_some]
    rw [posOf_row hx]
    have hz : r51.toNat < n := by omega
    have hput := F_l1Put (n := n) (by omega) (fun y => f y r37.toNat) hz
    rw [Int.toNat_of_nonneg b1] at hput
    rw [hput]
    simp only [Option.bind_some]
    rw [ask_pos hb37]
    exact ⟨_, _, rfl, h9.mono (by omega), setTiny _ (Nat.le_trans (sieve_len _ _) (by omega))⟩
  rw [if_neg c2]
  by_cases c3 : r39 = 3
  · rw [if_pos c3]
    obtain ⟨⟨p9, d9⟩, e10, g1, g2⟩ := loop_inv (body := F_spec_l1Cur_poset_l4) (fun s => s.1.Below.length ≤ 11 ∧ (∀ r ∈ s.1.Below, r.length ≤ 20) ∧ Cur (k + 500 + 2 * s.1.Below.length) s.2) (fun s => 20 - s.1.Below.length)
      (fun t => tiny t.1 ∧ Cur (k + 2000) t.2) (fun s hs => by
        obtain ⟨q, dq⟩ := s
        obtain ⟨g1, g2, g3⟩ := hs
        simp only at g1 g2 g3
        unfold F_spec_l1Cur_poset_l4
        dsimp only
        obtain ⟨r, d, e11, h11, b1, b2⟩ := draw_pick g3 (by omega) 2
        rw [e11]
        simp only [Option.bind_some]
        rw [ask_pos (by unfold InI; omega)]
        by_cases hq : (q.Below.length : Int) < 10 + r
        · left
          rw [if_pos hq, ask_pos (by simp; omega)]
          refine ⟨_, rfl, ⟨by simp; omega, ?_, h11.mono (by simp; omega)⟩, by simp; omega⟩
          intro row hr
          rcases List.mem_append.1 hr with h1 | h1
          · exact g2 row h1
          · simp at h1; subst h1; simp
        · right
          rw [if_neg hq]
          exact ⟨_, rfl, ⟨by simp only; omega, g2⟩, h11.mono (by omega)⟩) (s := (posOf n f, d8)) ⟨by simp only; omega, ht.2, h8.mono (by omega)⟩
    rw [e10]
    exact ⟨_, _, rfl, g2, g1⟩
  rw [if_neg c3]
  exact ⟨_, _, rfl, h8.mono (by omega), ht⟩
theorem draw_lattice {c : Sl1Cur} {k : Nat} (h : Cur k c) (hk : k ≤ 600000000) : ∃ p d, F_spec_l1Cur_lattice c = some (p, d) ∧ Cur (k + 3000) d ∧ tiny p := by
  have hL := lim_def
  unfold F_spec_l1Cur_lattice
  obtain ⟨b, d1, e1, h1⟩ := draw_one h (by omega) 10
  rw [e1]
  simp only [Option.bind_some]
  by_cases hb : b = true
  · rw [if_pos hb]
    obtain ⟨p, d2, e2, h2, ht⟩ := draw_poset h1 (by omega)
    rw [e2]
    exact ⟨_, _, rfl, h2.mono (by omega), ht⟩
  rw [if_neg hb]
  obtain ⟨r, d2, e2, h2, a1, a2⟩ := draw_pick h1 (by omega) 12
  rw [e2]
  simp only [Option.bind_some]
  obtain ⟨n, f, hn, e3⟩ := draw_known a1 (by omega)
  rw [e3]
  simp only [Option.bind_some, posOf_len]
  obtain ⟨l, d3, e4, h4, hl4⟩ := draw_names h2 (by omega) n (by omega)
  rw [e4]
  simp only [Option.bind_some]
  have ht : tiny (posOf n f) := tiny_pos f (by omega)
  · rw [F_l2Perm (by omega) (by omega)]
    simp only [Option.bind_some]
    by_cases hp : (l.length : Int) = n ∧ inSize l n ∧ uniq l
    · have hpd : (decide ((l.length : Int) = n ∧ inSize l n ∧ uniq l)) = true := decide_eq_true hp
      simp only [hpd, if_true]
      obtain ⟨b2, d5, e5, h5⟩ := draw_one h4 (by omega) 2
      rw [e5]
      simp only [Option.bind_some]
      by_cases hb2 : b2 = true
      · rw [if_pos hb2, F_specPairs (tiny_small ht) (by rw [posOf_len]; omega)]
        simp only [Option.bind_some, posOf_len]
        have hall := prAll_mem (n := n) (f := below (posOf n f).Below) n (Nat.le_refl _)
        have hlen := prAll_len n (below (posOf n f).Below) n
        have hnn : n * n ≤ 9 * 9 := Nat.mul_le_mul hn hn
        generalize prAll n (below (posOf n f).Below) n = ps at hall hlen
        obtain ⟨t, f1, f2, f3⟩ := turn_pairs hp (body := F_spec_l1Cur_lattice_l1 (posOf n f) l d5) ps.length (by omega) (fun i qs hq hqs => by
          unfold F_spec_l1Cur_lattice_l1
          dsimp only
          by_cases hi : i < ps.length
          · rw [if_pos (by omega), if_pos hi]
            obtain ⟨⟨⟨a1, a2⟩, a3, a4⟩, _⟩ := allPairs_nth hqs i (by omega)
            have hln := hp.1
            repeat rw [ask_pos (by first | omega | (unfold InI; omega) | (refine ⟨?_, ?_⟩ <;> (simp only [Int.toNat_natCast]; omega)))]
            simp
          · rw [if_neg (by omega), if_neg hi]) rfl hall
        rw [f1]
        simp only [Option.bind_some]
        obtain ⟨g, e6, _⟩ := draw_from (n := n) (ps := t) (by omega) (by omega) f3
        rw [e6]
        exact ⟨_, _, rfl, h5.mono (by omega), tiny_pos g (by omega)⟩
      · rw [if_neg hb2]
        exact ⟨_, _, rfl, h5.mono (by omega), ht⟩
    · have hpd : (decide ((l.length : Int) = n ∧ inSize l n ∧ uniq l)) = false := decide_eq_false hp
      simp only [hpd, if_false, Option.bind_some, Bool.false_eq_true]
      exact ⟨_, _, rfl, h4.mono (by omega), ht⟩
theorem draw_ProductLattice {code : List Int} (hc : ∀ x ∈ code, 0 ≤ x ∧ x ≤ 255) (hl : code.length ≤ 65536) : ∃ p q, F_spec_DrawProductLattice code = some (p, q) ∧ tiny p ∧ tiny q := by
  unfold F_spec_DrawProductLattice
  have h0 : Cur 0 ({ code := code, at_ := 0, seed := 0 } : Sl1Cur) := ⟨hc, hl, Int.le_refl _, Int.le_refl _⟩
  obtain ⟨b, d1, e1, h1⟩ := draw_one h0 (by omega) 2
  rw [e1]
  simp only [Option.bind_some]
  by_cases hb : b = true
  · rw [if_pos hb]
    obtain ⟨r, d2, e2, h2, a1, a2⟩ := draw_pick h1 (by omega) 4
    rw [e2]
    simp only [Option.bind_some]
    obtain ⟨n, f, hn, e3⟩ := draw_known a1 (by omega)
    rw [e3]
    simp only [Option.bind_some]
    obtain ⟨r2, d3, e4, h4, b1, b2⟩ := draw_pick h2 (by omega) 6
    rw [e4]
    simp only [Option.bind_some]
    obtain ⟨m, g, hm, e5⟩ := draw_known b1 (by omega)
    rw [e5]
    exact ⟨_, _, rfl, tiny_pos f (by omega), tiny_pos g (by omega)⟩
  · rw [if_neg hb]
    obtain ⟨p, d2, e2, h2, hp⟩ := draw_lattice h1 (by omega)
    rw [e2]
    simp only [Option.bind_some]
    obtain ⟨q, d3, e3, h3, hq⟩ := draw_lattice h2 (by omega)
    rw [e3]
    exact ⟨_, _, rfl, hp, hq⟩
end Go.Proofs.Ytoikbcagaanhgaa.Ax
