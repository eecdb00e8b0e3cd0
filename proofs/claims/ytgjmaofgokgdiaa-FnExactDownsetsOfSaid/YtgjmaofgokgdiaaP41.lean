/-
  Rows in order: by length, then by the first place where they differ; sorted lists are one.
-/
import Derived.Test.YtgjmaofgokgdiaaP18
import Derived.Test.YtgjmaofgokgdiaaSo3
namespace Go.Proofs.Ytgjmaofgokgdiaa.Ax
open Go Classical

theorem lexLt_irrefl (a : List Int) : ¬ lexLt a a := fun ⟨i, _, _, h⟩ => by omega
theorem lexLt_trans {a b c : List Int} (hab : a.length = b.length) (h1 : lexLt a b) (h2 : lexLt b c) : lexLt a c := by
  obtain ⟨i, hi, e1, l1⟩ := h1
  obtain ⟨k, hk, e2, l2⟩ := h2
  rcases Nat.lt_trichotomy i k with h | h | h
  · exact ⟨i, hi, fun j hj => (e1 j hj).trans (e2 j (by omega)), by rw [← e2 i h]; exact l1⟩
  · subst h; exact ⟨i, hi, fun j hj => (e1 j hj).trans (e2 j hj), by omega⟩
  · exact ⟨k, by omega, fun j hj => (e1 j (by omega)).trans (e2 j hj), by rw [e1 k h]; exact l2⟩
theorem lexLt_tri {a b : List Int} (hab : a.length = b.length) : lexLt a b ∨ a = b ∨ lexLt b a := by
  by_cases h : ∃ i, i < a.length ∧ nth a i ≠ nth b i
  · obtain ⟨i, ⟨hi, hne⟩, hmin⟩ : ∃ i, (i < a.length ∧ nth a i ≠ nth b i) ∧ ∀ j, j < i → ¬ (j < a.length ∧ nth a j ≠ nth b j) := by
      obtain ⟨k, hk⟩ := h
      induction k using Nat.strongRecOn with
      | ind k ih =>
        by_cases hx : ∃ j, j < k ∧ (j < a.length ∧ nth a j ≠ nth b j)
        · obtain ⟨j, h1, h2⟩ := hx; exact ih j h1 h2
        · exact ⟨k, hk, fun j hj hc => hx ⟨j, hj, hc⟩⟩
    have heq : ∀ j, j < i → nth a j = nth b j := fun j hj => Classical.byContradiction fun hc => hmin j hj ⟨by omega, hc⟩
    by_cases hl : nth a i < nth b i
    · exact .inl ⟨i, hi, heq, hl⟩
    · exact .inr (.inr ⟨i, by omega, fun j hj => (heq j hj).symm, by omega⟩)
  · exact .inr (.inl (nth_ext hab fun i hi => Classical.byContradiction fun hc => h ⟨i, hi, hc⟩))
/-- before, by length and then by the first place where they differ -/
def tLt (a b : List Int) : Prop := a.length < b.length ∨ (a.length = b.length ∧ lexLt a b)
theorem tLt_irrefl (a : List Int) : ¬ tLt a a := fun h => h.elim (fun h => by omega) fun h => lexLt_irrefl a h.2
theorem tLt_trans {a b c : List Int} (h1 : tLt a b) (h2 : tLt b c) : tLt a c := by
  rcases h1 with h1 | ⟨e1, l1⟩
  · rcases h2 with h2 | ⟨e2, _⟩
    · exact .inl (by omega)
    · exact .inl (by omega)
  · rcases h2 with h2 | ⟨e2, l2⟩
    · exact .inl (by omega)
    · exact .inr ⟨by omega, lexLt_trans e1 l1 l2⟩
theorem tLt_tri (a b : List Int) : tLt a b ∨ a = b ∨ tLt b a := by
  rcases Nat.lt_trichotomy a.length b.length with h | h | h
  · exact .inl (.inl h)
  · rcases lexLt_tri h with h1 | h1 | h1
    · exact .inl (.inr ⟨h, h1⟩)
    · exact .inr (.inl h1)
    · exact .inr (.inr (.inr ⟨h.symm, h1⟩))
  · exact .inr (.inr (.inl h))
noncomputable def ltT (a b : List Int) : Bool := decide (tLt a b)
theorem ltT_order : Go.Sort.SWO ltT where
  irrefl x := decide_eq_false (tLt_irrefl x)
  trans x y z h1 h2 := decide_eq_true (tLt_trans (of_decide_eq_true h1) (of_decide_eq_true h2))
  ntrans x y z h1 h2 := by
    have h1 := of_decide_eq_false h1
    have h2 := of_decide_eq_false h2
    refine decide_eq_false fun h => ?_
    rcases tLt_tri x y with c | c | c
    · exact h1 c
    · subst c; exact h2 h
    · rcases tLt_tri y z with c2 | c2 | c2
      · exact h2 c2
      · subst c2; exact h1 h
      · exact tLt_irrefl _ (tLt_trans (tLt_trans h c2) c)
theorem ltT_one (x y : List Int) (h1 : ltT x y = false) (h2 : ltT y x = false) : x = y := by
  rcases tLt_tri x y with c | c | c
  · exact absurd c (of_decide_eq_false h1)
  · exact c
  · exact absurd c (of_decide_eq_false h2)
/-- in order -/
def inRow (xs : List (List Int)) : Prop := xs.Pairwise fun a b => ¬ tLt b a
theorem inRow_one {xs ys : List (List Int)} (h1 : inRow xs) (h2 : inRow ys) (hp : xs.Perm ys) : xs = ys :=
  List.Perm.eq_of_pairwise (fun a b _ _ h1 h2 => by
    rcases tLt_tri a b with c | c | c
    · exact absurd c h2
    · exact c
    · exact absurd c h1) h1 h2 hp
theorem F_compareLists_all {a b : List Int} (h : a.length ≤ LIM) (_h2 : b.length ≤ LIM) : ∃ c, F_impl_compareLists a b = some c := by
  have hL := lim_def
  unfold F_impl_compareLists
  obtain ⟨t, e, _⟩ := loop_inv (body := F_impl_compareLists_l1 a b) (fun i => 0 ≤ i ∧ i ≤ a.length) (fun i => a.length - i.toNat) (fun _ => True) (fun i hi => by
    unfold F_impl_compareLists_l1
    by_cases h3 : i < (a.length : Int)
    · rw [if_pos h3]
      by_cases h4 : i < (b.length : Int)
      · rw [if_pos h4]
        simp only [Option.bind_some]
        rw [ask_pos (by omega), ask_pos (by omega)]
        by_cases h5 : nth a i.toNat ≠ nth b i.toNat
        · rw [if_pos h5, ask_pos (by omega), ask_pos (by omega)]
          right
          split <;> exact ⟨_, rfl, trivial⟩
        · rw [if_neg h5, ask_pos (by unfold InI; omega)]
          left
          exact ⟨_, rfl, by omega, by omega⟩
      · rw [if_neg h4]
        right
        exact ⟨_, rfl, trivial⟩
    · rw [if_neg h3]
      right
      exact ⟨_, rfl, trivial⟩) (s := (0 : Int)) ⟨by omega, by omega⟩
  rw [e]
  cases t with
  | inl v => exact ⟨_, rfl⟩
  | inr v =>
    simp only [Option.bind_some]
    repeat' split
    all_goals exact ⟨_, rfl⟩
theorem F_compareTerms {a b : List Int} (h : a.length ≤ LIM) (_h2 : b.length ≤ LIM) : ∃ c, F_impl_compareTerms a b = some c ∧ (c < 0 ↔ tLt a b) := by
  unfold F_impl_compareTerms
  by_cases h3 : (a.length : Int) < (b.length : Int)
  · rw [if_pos h3]
    exact ⟨_, rfl, fun _ => .inl (by omega), fun _ => by omega⟩
  · rw [if_neg h3]
    by_cases h4 : (a.length : Int) > (b.length : Int)
    · rw [if_pos h4]
      exact ⟨_, rfl, fun h => by omega, fun h => by rcases h with h | ⟨h, _⟩ <;> omega⟩
    · rw [if_neg h4]
      obtain ⟨c, e, hc⟩ := F_compareLists (a := a) (b := b) (by omega) h
      rw [e]
      refine ⟨c, rfl, ?_⟩
      constructor
      · intro h5; exact .inr ⟨by omega, hc.1 (by omega)⟩
      · rintro (h5 | ⟨_, h5⟩)
        · omega
        · have := hc.2 h5; omega
/-- what sorting by terms gives -/
theorem F_sortTerms {xss ys : List (List Int)} (hn : xss.length ≤ 1048576) (h1 : ∀ r ∈ xss, r.length ≤ LIM) (hp : ys.Perm xss) (hs : inRow ys) : F_impl_sortRows xss (fun a b => F_impl_compareTerms a b) = some ((), ys) := by
  refine sortRows_is ltT ltT_order ltT_one hn (fun x hx y hy => ?_) hp ?_
  · obtain ⟨c, e, hc⟩ := F_compareTerms (h1 x hx) (h1 y hy)
    exact ⟨c, e, decide_eq_decide.2 hc.symm⟩
  · exact hs.imp fun h => decide_eq_false h
/-- a set as a mask -/
def maskOf (S : Nat → Bool) : Nat → Nat
  | 0 => 0
  | n + 1 => if S n then 2 ^ n + maskOf S n else maskOf S n
theorem maskOf_lt (S : Nat → Bool) : ∀ n, maskOf S n < 2 ^ n
  | 0 => by simp [maskOf]
  | n + 1 => by
    have := maskOf_lt S n
    simp only [maskOf, Nat.pow_succ]
    split <;> omega
theorem maskOf_bit (S : Nat → Bool) : ∀ n i, i < n → bitB (maskOf S n) i = S i
  | 0, _, h => by omega
  | n + 1, i, h => by
    have hl := maskOf_lt S n
    rw [bit_test]
    simp only [maskOf]
    by_cases e : i = n
    · subst e
      cases hS : S i with
      | true => rw [if_pos rfl, Nat.testBit_two_pow_add_eq, Nat.testBit_lt_two_pow hl]; rfl
      | false => rw [if_neg (by simp), Nat.testBit_lt_two_pow hl]
    · have ih := maskOf_bit S n i (by omega)
      rw [bit_test] at ih
      cases hS : S n with
      | true => rw [if_pos rfl, Nat.testBit_two_pow_add_gt (by omega), ih]
      | false => rw [if_neg (by simp), ih]
/-- the lists of some masks -/
def pickM (n : Nat) (P : Nat → Bool) (m : Nat) : List (List Int) := ((List.range m).filter P).map fun k => sieve n (bitB k)
theorem pickM_succ (n : Nat) (P : Nat → Bool) (m : Nat) : pickM n P (m + 1) = if P m then pickM n P m ++ [sieve n (bitB m)] else pickM n P m := by
  unfold pickM
  rw [List.range_succ, List.filter_append]
  cases h : P m <;> simp [h]
theorem pickM_len (n : Nat) (P : Nat → Bool) (m : Nat) : (pickM n P m).length ≤ m := by
  unfold pickM
  rw [List.length_map]
  exact Nat.le_trans (List.length_filter_le _ _) (by simp)
theorem pickM_row {n : Nat} {P : Nat → Bool} {m : Nat} {r : List Int} (h : r ∈ pickM n P m) : ∃ k, k < m ∧ P k = true ∧ r = sieve n (bitB k) := by
  unfold pickM at h
  obtain ⟨k, h1, rfl⟩ := List.mem_map.1 h
  obtain ⟨h2, h3⟩ := List.mem_filter.1 h1
  exact ⟨k, List.mem_range.1 h2, h3, rfl⟩
theorem pickM_has {n : Nat} {P : Nat → Bool} {m k : Nat} (hk : k < m) (h : P k = true) : sieve n (bitB k) ∈ pickM n P m :=
  List.mem_map.2 ⟨k, List.mem_filter.2 ⟨List.mem_range.2 hk, h⟩, rfl⟩
theorem mask_one {n m m' : Nat} (hm : m < 2 ^ n) (hm' : m' < 2 ^ n) (h : sieve n (bitB m) = sieve n (bitB m')) : m = m' := by
  refine Nat.eq_of_testBit_eq fun i => ?_
  by_cases hi : i < n
  · have key : ((i : Int) ∈ sieve n (bitB m)) ↔ ((i : Int) ∈ sieve n (bitB m')) := by rw [h]
    rw [mem_sieve, mem_sieve] at key
    have k1 : (∃ j : Nat, j < n ∧ bitB m j = true ∧ (i : Int) = j) ↔ bitB m i = true := ⟨fun ⟨j, _, h2, e⟩ => by
      have : i = j := by omega
      subst this; exact h2, fun h2 => ⟨i, hi, h2, rfl⟩⟩
    have k2 : (∃ j : Nat, j < n ∧ bitB m' j = true ∧ (i : Int) = j) ↔ bitB m' i = true := ⟨fun ⟨j, _, h2, e⟩ => by
      have : i = j := by omega
      subst this; exact h2, fun h2 => ⟨i, hi, h2, rfl⟩⟩
    rw [k1, k2, bit_test, bit_test] at key
    exact Bool.eq_iff_iff.2 key
  · have hp : 2 ^ n ≤ 2 ^ i := Nat.pow_le_pow_right (by omega) (by omega)
    rw [Nat.testBit_lt_two_pow (by omega), Nat.testBit_lt_two_pow (by omega)]
theorem pickM_nodup (n : Nat) (P : Nat → Bool) : (pickM n P (2 ^ n)).Nodup := by
  unfold pickM
  rw [List.Nodup, List.pairwise_map]
  refine List.Pairwise.imp_of_mem ?_ (List.nodup_range.filter P)
  intro a b ha hb hne e
  exact hne (mask_one (List.mem_range.1 (List.mem_filter.1 ha).1) (List.mem_range.1 (List.mem_filter.1 hb).1) e)
/-- in order -/
noncomputable def inOrder (xss : List (List Int)) : List (List Int) := xss.mergeSort fun x y => !ltT y x
theorem inOrder_perm (xss : List (List Int)) : (inOrder xss).Perm xss := List.mergeSort_perm _ _
theorem inOrder_row (xss : List (List Int)) : inRow (inOrder xss) := (Sortable.sorted ltT_order xss).imp fun h => of_decide_eq_false h
theorem inOrder_is {xss ys : List (List Int)} (hs : inRow ys) (hp : ys.Perm xss) : ys = inOrder xss := inRow_one hs (inOrder_row xss) (hp.trans (inOrder_perm xss).symm)
/-- one more, put at its place -/
theorem F_l5Sort {xss : List (List Int)} {l : List Int} (hs : inRow xss) (hn : xss.length ≤ 1048576) (_h1 : ∀ r ∈ xss, r.length ≤ LIM) (hl : l.length ≤ LIM) : ∃ ys, F_spec_l5Sort xss l = some ys ∧ inRow ys ∧ ys.Perm (l :: xss) := by
  have hL := lim_def
  unfold F_spec_l5Sort
  obtain ⟨k, e, m, rfl, hk, hhi, hlo⟩ := loop_inv (body := F_spec_l5Sort_l1 xss l) (fun k => ∃ n : Nat, k = (n : Int) ∧ n ≤ xss.length ∧ ∀ i, n ≤ i → i < xss.length → tLt l (nth xss i)) (fun k => k.toNat)
    (fun k => ∃ n : Nat, k = (n : Int) ∧ n ≤ xss.length ∧ (∀ i, n ≤ i → i < xss.length → tLt l (nth xss i)) ∧ (n = 0 ∨ ¬ tLt l (nth xss (n - 1)))) (fun k hk => by
    obtain ⟨n, rfl, hn1, hn2⟩ := hk
    have go : n ≠ 0 → tLt l (nth xss (n - 1)) → ∃ m : Nat, ((n : Int) - 1) = (m : Int) ∧ m ≤ xss.length ∧ ∀ i, m ≤ i → i < xss.length → tLt l (nth xss i) := fun h0 ht =>
      ⟨n - 1, by omega, by omega, fun i hi hi2 => by
        by_cases e : i = n - 1
        · rw [e]; exact ht
        · exact hn2 i (by omega) hi2⟩
    unfold F_spec_l5Sort_l1
    by_cases h0 : n = 0
    · subst h0
      right
      rw [if_neg (by omega)]
      exact ⟨_, rfl, 0, rfl, by omega, hn2, .inl rfl⟩
    · have et : ((n : Int) - 1).toNat = n - 1 := by omega
      rw [if_pos (by omega), ask_pos (by unfold InI; omega), ask_pos (by omega), et]
      by_cases c1 : (l.length : Int) < ((nth xss (n - 1)).length : Int)
      · left
        rw [if_pos c1, ask_pos (by unfold InI; omega)]
        exact ⟨_, rfl, go h0 (.inl (by omega)), by omega⟩
      · rw [if_neg c1, ask_pos (by unfold InI; omega), ask_pos (by omega)]
        by_cases c2 : (l.length : Int) = ((nth xss (n - 1)).length : Int)
        · rw [if_pos c2, ask_pos (by unfold InI; omega), ask_pos (by omega), F_l5Less (by omega) hl]
          simp only [Option.bind_some]
          by_cases c3 : lexLt l (nth xss (n - 1))
          · left
            rw [decide_eq_true c3, if_pos rfl, ask_pos (by unfold InI; omega)]
            exact ⟨_, rfl, go h0 (.inr ⟨by omega, c3⟩), by omega⟩
          · right
            rw [decide_eq_false c3, if_neg (by simp)]
            exact ⟨_, rfl, n, rfl, hn1, hn2, .inr fun h => by rcases h with h | ⟨_, h⟩; omega; exact c3 h⟩
        · right
          rw [if_neg c2]
          exact ⟨_, rfl, n, rfl, hn1, hn2, .inr fun h => by rcases h with h | ⟨h, _⟩ <;> omega⟩) (s := (xss.length : Int)) ⟨_, rfl, Nat.le_refl _, fun i hi hi2 => by omega⟩
  rw [e]
  simp only [Option.bind_some]
  have e0 : Int.toNat 0 = 0 := rfl
  rw [ask_pos (by omega), ask_pos (by simp [nilL]; omega), ask_pos (by simp [nilL]; omega), ask_pos (by omega), ask_pos (by simp [nilL]; omega)]
  have ez : nilL (List Int) ++ List.take ((m : Int).toNat - Int.toNat 0) (List.drop (Int.toNat 0) xss) ++ [l] ++ List.take ((xss.length : Int).toNat - (m : Int).toNat) (List.drop (m : Int).toNat xss) = xss.take m ++ l :: xss.drop m := by
    have et : List.take (xss.length - m) (List.drop m xss) = List.drop m xss := List.take_of_length_le (by simp)
    simp [nilL, et]
  rw [ez]
  refine ⟨_, rfl, ?_, ?_⟩
  · have hp : inRow (xss.take m ++ xss.drop m) := by rw [List.take_append_drop]; exact hs
    unfold inRow at hp ⊢
    rw [List.pairwise_append] at hp ⊢
    obtain ⟨p1, p2, p3⟩ := hp
    have hgt : ∀ b ∈ xss.drop m, tLt l b := fun b hb => by
      obtain ⟨i, hi, rfl⟩ := mem_nth.1 hb
      simp only [List.length_drop] at hi
      have e2 : nth (xss.drop m) i = nth xss (m + i) := by
        rw [nth_lt (by simpa using hi), nth_lt (by omega), List.getElem_drop]
      rw [e2]; exact hhi _ (by omega) (by omega)
    refine ⟨p1, List.pairwise_cons.2 ⟨fun b hb h => tLt_irrefl l (tLt_trans (hgt b hb) h), p2⟩, fun a ha b hb => ?_⟩
    have hal : ¬ tLt l a := by
      intro h
      obtain ⟨i, hi, rfl⟩ := mem_nth.1 ha
      simp only [List.length_take] at hi
      have e2 : nth (xss.take m) i = nth xss i := by
        rw [nth_lt (by simp; omega), nth_lt (by omega), List.getElem_take]
      rw [e2] at h
      rcases hlo with rfl | hlo
      · omega
      · by_cases e3 : i = m - 1
        · rw [e3] at h; exact hlo h
        · have hpw := List.pairwise_iff_getElem.1 hs i (m - 1) (by omega) (by omega) (by omega)
          rw [← nth_lt, ← nth_lt] at hpw
          rcases tLt_tri (nth xss i) (nth xss (m - 1)) with c | c | c
          · exact hlo (tLt_trans h c)
          · rw [c] at h; exact hlo h
          · exact hpw c
    rcases List.mem_cons.1 hb with rfl | hb
    · exact hal
    · exact p3 a ha b hb
  · have := List.perm_middle (a := l) (l₁ := xss.take m) (l₂ := xss.drop m)
    rwa [List.take_append_drop] at this

end Go.Proofs.Ytgjmaofgokgdiaa.Ax
