/-
  Orders: their tables.
-/
import Derived.Test.YtnpdibedhdlclaaFb
namespace Go.Proofs.Ytnpdibedhdlclaa.Ax
open Go Classical

abbrev btab (t : List (List Bool)) : V := .sl false 1 (t.map bools)
abbrev otab (t : List (List Bool)) : V := .sl true 1 (t.map obools)
noncomputable def tab (n : Nat) (f : Nat → Nat → Bool) : List (List Bool) := (List.range n).map fun y => (List.range n).map fun x => f y x

theorem fzL_bools (xs : List Bool) : fzL (xs.map V.bool) = xs.map V.bool := fzL_map _ _ (fun _ => rfl) xs
theorem fzL_obools (t : List (List Bool)) : fzL (t.map obools) = t.map bools := fzL_map _ _ (fun x => by simp [V.fz, fzL_bools]) t
theorem fz_otab (t : List (List Bool)) : (otab t).fz = btab t := by simp [V.fz, fzL_obools]
theorem tab_len (n : Nat) (f : Nat → Nat → Bool) : (tab n f).length = n := by simp [tab]
theorem tab_row (n : Nat) (f : Nat → Nat → Bool) (y : Nat) (h : y < n) : (tab n f).getD y [] = (List.range n).map fun x => f y x := by
  simp [tab, List.getD_eq_getElem?_getD, h]
theorem tab_row_len (n : Nat) (f : Nat → Nat → Bool) (y : Nat) (h : y < n) : ((tab n f).getD y []).length = n := by rw [tab_row n f y h]; simp
theorem tab_at (n : Nat) (f : Nat → Nat → Bool) (y x : Nat) (h : y < n) (h2 : x < n) : ((tab n f).getD y []).getD x false = f y x := by
  rw [tab_row n f y h]; simp [List.getD_eq_getElem?_getD, h2]
theorem tab_false (n : Nat) : tab n (fun _ _ => false) = List.replicate n (List.replicate n false) := by
  refine List.ext_getElem (by simp [tab]) fun a ha hb => ?_
  simp only [tab, List.getElem_map, List.getElem_replicate]
  refine List.ext_getElem (by simp) fun b hb1 hb2 => ?_
  simp
theorem tab_set (n : Nat) (f : Nat → Nat → Bool) (y x : Nat) (v : Bool) (h : y < n) (h2 : x < n) : (tab n f).set y (((tab n f).getD y []).set x v) = tab n (fun a b => if a = y ∧ b = x then v else f a b) := by
  rw [tab_row n f y h]
  refine List.ext_getElem (by simp [tab]) fun a ha hb => ?_
  have ha' : a < n := by simpa [tab] using ha
  simp only [tab, List.getElem_set, List.getElem_map, List.getElem_range]
  refine List.ext_getElem (by split <;> simp) fun b hb1 hb2 => ?_
  have hb' : b < n := by simpa using hb2
  by_cases hay : y = a
  · subst hay
    simp only [if_true, List.getElem_set, List.getElem_map, List.getElem_range, true_and]
    by_cases hbx : x = b
    · subst hbx; simp
    · rw [if_neg hbx, if_neg (Ne.symm hbx)]
  · simp [hay, Ne.symm hay]

def rises (xs : List Int) : Prop := ∀ i, 0 < i → i < xs.length → xs.getD (i - 1) 0 < xs.getD i 0
def inSize (xs : List Int) (n : Int) : Prop := ∀ x ∈ xs, 0 ≤ x ∧ x < n

theorem t_rises (xs : List Int) (h1 : xs.length ≤ LIM) : Ret Try.prog f_impl_rises [ints xs] (.bool (decide (rises xs))) := by
  refine ret_vc k_impl_rises (by simp) ?_
  unfold LIM at h1
  conv => whnf
  refine LoopQ.by [0, 3] (fun i : Nat => [(0, .val (ints xs)), (3, .val (vint i))])
    (fun i => 0 < i ∧ ∀ j, 0 < j → j < i → j < xs.length → xs.getD (j - 1) 0 < xs.getD j 0) (fun i => xs.length + 1 - i) 1 rfl ⟨by omega, by intro j hj; omega⟩ ?_
  rintro i ⟨hi, hj⟩
  have e1 : ((i : Int) - 1).toNat = i - 1 := by omega
  repeat' ((conv => whnf); first | refine Br.yes ?_ | refine Br.no ?_ | refine Br.prop (fun h => ?_) fun h => ?_ | refine Br.beq (fun h => ?_) fun h => ?_ | refine Br.bne (fun h => ?_) fun h => ?_ | refine Br.not ?_ | refine Len.map ?_ | refine Ask.el 0 (by omega) ?_ | refine Ask.el [] (by omega) ?_ | refine Ask.mk (by omega) ?_ | fail)
  all_goals (conv => whnf)
  all_goals (try simp only [e1, Int.toNat_natCast] at *)
  · rename_i h
    refine fin_false fun hr => ?_
    have := hr i (by omega) (by omega); omega
  · rename_i h
    refine ⟨i + 1, rfl, ⟨by omega, fun j h3 hj2 h4 => ?_⟩, by show _ - _ < _; omega⟩
    rcases Nat.lt_succ_iff_lt_or_eq.1 hj2 with h5 | rfl
    · exact hj j h3 h5 h4
    · omega
  · exact fin_true fun j h3 h4 => hj j h3 (by omega) h4

theorem t_inSize (xs : List Int) (n : Int) (h1 : xs.length ≤ LIM) : Ret Try.prog f_impl_inSize [ints xs, vint n] (.bool (decide (inSize xs n))) := by
  refine ret_vc k_impl_inSize (by simp) ?_
  unfold LIM at h1
  repeat' ((conv => whnf); first | refine Br.yes ?_ | refine Br.no ?_ | refine Br.prop (fun h => ?_) fun h => ?_ | refine Br.beq (fun h => ?_) fun h => ?_ | refine Br.bne (fun h => ?_) fun h => ?_ | refine Br.not ?_ | refine Len.map ?_ | refine Ask.el 0 (by omega) ?_ | refine Ask.el [] (by omega) ?_ | refine Ask.mk (by omega) ?_ | fail)
  conv => whnf
  refine LoopQ.by [0, 1, 7, 8, 9] (fun i : Nat => [(0, .val (ints xs)), (1, .val (vint n)), (7, .val (ints xs)), (8, .val (vint xs.length)), (9, .val (vint i))])
    (fun i => i ≤ xs.length ∧ ∀ j, j < i → 0 ≤ xs.getD j 0 ∧ xs.getD j 0 < n) (fun i => xs.length - i) 0 rfl ⟨by omega, by intro j hj; omega⟩ ?_
  rintro i ⟨hi, hj⟩
  repeat' ((conv => whnf); first | refine Br.yes ?_ | refine Br.no ?_ | refine Br.prop (fun h => ?_) fun h => ?_ | refine Br.beq (fun h => ?_) fun h => ?_ | refine Br.bne (fun h => ?_) fun h => ?_ | refine Br.not ?_ | refine Len.map ?_ | refine Ask.el 0 (by omega) ?_ | refine Ask.el [] (by omega) ?_ | refine Ask.mk (by omega) ?_ | fail)
  all_goals (conv => whnf)
  all_goals (try simp only [Int.toNat_natCast] at *)
  · rename_i h
    refine fin_false fun hr => ?_
    have := hr _ (getD_mem xs 0 (i := i) (by omega)); omega
  · rename_i h
    refine fin_false fun hr => ?_
    have := hr _ (getD_mem xs 0 (i := i) (by omega)); omega
  · rename_i h
    refine ⟨i + 1, rfl, ⟨by omega, fun j hj2 => ?_⟩, by show _ - _ < _; omega⟩
    rcases Nat.lt_succ_iff_lt_or_eq.1 hj2 with h5 | rfl
    · exact hj j h5
    · omega
  · refine fin_true fun x hx => ?_
    obtain ⟨k, h3, rfl⟩ := (mem_iff_at xs x).1 hx
    exact hj k (by omega)

abbrev obrow : Option (List Bool) → V
  | some r => obools r
  | none => .nilsl 1
theorem one_obrow : One obrow := fun x => by cases x <;> exact ⟨rfl, rfl⟩

theorem t_newOrder (n : Nat) (h1 : n ≤ LIM) : Ret Try.prog f_impl_newOrder [vint n] (otab (tab n fun _ _ => false)) := by
  refine ret_vc k_impl_newOrder (by simp) ?_
  unfold LIM at h1
  repeat' ((conv => whnf); first | refine Br.yes ?_ | refine Br.no ?_ | refine Br.prop (fun h => ?_) fun h => ?_ | refine Br.beq (fun h => ?_) fun h => ?_ | refine Br.bne (fun h => ?_) fun h => ?_ | refine Br.not ?_ | refine Len.map ?_ | refine Ask.el 0 (by omega) ?_ | refine Ask.el [] (by omega) ?_ | refine Ask.mk (by omega) ?_ | refine Ask.mk (by unfold LIM; omega) ?_ | refine Len.rep ?_ | fail)
  conv => whnf
  refine LoopQ.by [0, 3, 8, 9] (fun x : Nat × List V => [(0, .val (vint n)), (3, .val (.sl true 1 x.2)), (8, .val (vint n)), (9, .val (vint x.1))])
    (fun x => x.1 ≤ n ∧ x.2 = ((List.replicate x.1 (some (List.replicate n false))) ++ List.replicate (n - x.1) none).map obrow) (fun x => n - x.1) (0, _) rfl ⟨by omega, by simp⟩ ?_
  rintro ⟨i, us⟩ ⟨hi, hu⟩
  dsimp only at hi hu
  subst hu
  have hl : (List.replicate i (some (List.replicate n false)) ++ List.replicate (n - i) none).length = n := by simp; omega
  repeat' ((conv => whnf); first | refine Br.yes ?_ | refine Br.no ?_ | refine Br.prop (fun h => ?_) fun h => ?_ | refine Br.beq (fun h => ?_) fun h => ?_ | refine Br.bne (fun h => ?_) fun h => ?_ | refine Br.not ?_ | refine Len.map ?_ | refine Ask.el 0 (by omega) ?_ | refine Ask.el [] (by omega) ?_ | refine Ask.mk (by omega) ?_ | refine Ask.mk (by unfold LIM; omega) ?_ | refine SetKids.elE one_obrow (some (List.replicate n false)) (by show [V.sl true 1 _] = [V.sl true 1 _]; simp) (by rw [hl]; show _ * 1 < _; omega) ?_ | refine Ask.mk (by rw [List.length_map, hl]; omega) ?_ | fail)
  all_goals (conv => whnf)
  · refine ⟨(i + 1, _), rfl, ⟨by show i + 1 ≤ _; omega, ?_⟩, by show _ - (i + 1) < _ - i; omega⟩
    show List.map obrow _ = List.map obrow _
    congr 1
    simp only [Int.toNat_natCast, Nat.mul_one]
    rw [set_put _ _ _ (by omega) (by simp), ← List.replicate_succ']
  · have : i = n := by omega
    subst this
    rw [tab_false]
    show V.sl true 1 _ = V.sl true 1 _
    simp

def okAt (n : Nat) (f : Nat → Nat → Bool) (x y : Nat) : Prop := ¬ (x ≠ y ∧ f x y = true ∧ f y x = true) ∧ ∀ z, z < n → f x y = true → f y z = true → f x z = true
def isOrd (n : Nat) (f : Nat → Nat → Bool) : Prop := ∀ x, x < n → f x x = true ∧ ∀ y, y < n → okAt n f x y

set_option maxHeartbeats 4000000 in
theorem t_isOrder (n : Nat) (f : Nat → Nat → Bool) (h1 : n ≤ LIM) : Ret Try.prog f_impl_order_isOrder [btab (tab n f)] (.bool (decide (isOrd n f))) := by
  refine ret_vc k_impl_order_isOrder (by simp) ?_
  unfold LIM at h1
  repeat' ((conv => whnf); first | refine Br.yes ?_ | refine Br.no ?_ | refine Br.prop (fun h => ?_) fun h => ?_ | refine Br.beq (fun h => ?_) fun h => ?_ | refine Br.bne (fun h => ?_) fun h => ?_ | refine Br.not ?_ | refine Len.map ?_ | refine Ask.el 0 (by omega) ?_ | refine Ask.el [] (by omega) ?_ | refine Ask.mk (by omega) ?_ | fail)
  conv => whnf
  refine LoopQ.by [0, 7, 8] (fun i : Nat => [(0, .val (btab (tab n f))), (7, .val (vint ((tab n f).length : Nat))), (8, .val (vint i))])
    (fun i => i ≤ n ∧ ∀ x, x < i → f x x = true ∧ ∀ y, y < n → okAt n f x y) (fun i => n - i) 0 rfl ⟨by omega, by intro j hj; omega⟩ ?_
  rintro i ⟨hi, hP⟩
  have tl := tab_len n f
  repeat' ((conv => whnf); first | refine Br.yes ?_ | refine Br.no ?_ | refine Br.prop (fun h => ?_) fun h => ?_ | refine Br.beq (fun h => ?_) fun h => ?_ | refine Br.bne (fun h => ?_) fun h => ?_ | refine Br.not ?_ | refine Len.map ?_ | refine Ask.el 0 (by omega) ?_ | refine Ask.el [] (by omega) ?_ | refine Ask.mk (by omega) ?_ | refine Ask.el [] (by omega) ?_ | refine Ask.el false (by rw [tab_row_len _ _ _ (by omega)]; omega) ?_ | refine Br.mk (fun h => ?_) fun h => ?_ | fail)
  all_goals (conv => whnf)
  all_goals (try simp only [Int.toNat_natCast] at *)
  · -- the second loop
    have hii : f i i = true := by rw [← tab_at n f i i (by omega) (by omega)]; exact h
    have hin : i < n := by omega
    clear h
    refine LoopQ.by [0, 3, 20, 21, 7, 8] (fun j : Nat => [(0, .val (btab (tab n f))), (3, .val (vint i)), (20, .val (vint ((tab n f).length : Nat))), (21, .val (vint j)), (7, .val (vint ((tab n f).length : Nat))), (8, .val (vint i))])
      (fun j => j ≤ n ∧ ∀ y, y < j → okAt n f i y) (fun j => n - j) 0 rfl ⟨by omega, by intro j hj; omega⟩ ?_
    rintro j ⟨hj, hQ⟩
    repeat' ((conv => whnf); first | refine Br.yes ?_ | refine Br.no ?_ | refine Br.prop (fun h => ?_) fun h => ?_ | refine Br.beq (fun h => ?_) fun h => ?_ | refine Br.bne (fun h => ?_) fun h => ?_ | refine Br.not ?_ | refine Len.map ?_ | refine Ask.el 0 (by omega) ?_ | refine Ask.el [] (by omega) ?_ | refine Ask.mk (by omega) ?_ | refine Ask.el [] (by simp only [Int.toNat_natCast]; omega) ?_ | refine Ask.el false (by simp only [Int.toNat_natCast]; rw [tab_row_len _ _ _ (by omega)]; omega) ?_ | refine Br.mk (fun h => ?_) fun h => ?_ | fail)
    all_goals (conv => whnf)
    all_goals (try simp only [Int.toNat_natCast] at *)
    all_goals (try (have hjn : j < n := by omega))
    · refine fin_false fun hr => ?_
      rename_i hne h2
      rw [tab_at _ _ _ _ hin hjn] at h2
      rw [tab_at _ _ _ _ hjn hin] at h
      exact ((hr i hin).2 j hjn).1 ⟨by omega, h2, h⟩
    all_goals
      try
        have hne : ¬ (i ≠ j ∧ f i j = true ∧ f j i = true) := by
          first
          | (rintro ⟨c, _, _⟩; omega)
          | (rw [tab_at n f j i hjn hin] at h; rintro ⟨_, _, c⟩; rw [h] at c; cases c)
          | (rw [tab_at n f i j hin hjn] at h; rintro ⟨_, c, _⟩; rw [h] at c; cases c)
    any_goals
      refine LoopQ.by [0, 3, 4, 46, 47, 20, 21, 7, 8] (fun k : Nat => [(0, .val (btab (tab n f))), (3, .val (vint i)), (4, .val (vint j)), (46, .val (vint ((tab n f).length : Nat))), (47, .val (vint k)), (20, .val (vint ((tab n f).length : Nat))), (21, .val (vint j)), (7, .val (vint ((tab n f).length : Nat))), (8, .val (vint i))])
        (fun k => k ≤ n ∧ ∀ z, z < k → f i j = true → f j z = true → f i z = true) (fun k => n - k) 0 rfl ⟨by omega, by intro z hz; omega⟩ ?_
    any_goals (rintro k ⟨hk, hR⟩)
    any_goals (repeat' ((conv => whnf); first | refine Br.yes ?_ | refine Br.no ?_ | refine Br.prop (fun h => ?_) fun h => ?_ | refine Br.beq (fun h => ?_) fun h => ?_ | refine Br.bne (fun h => ?_) fun h => ?_ | refine Br.not ?_ | refine Len.map ?_ | refine Ask.el 0 (by omega) ?_ | refine Ask.el [] (by omega) ?_ | refine Ask.mk (by omega) ?_ | refine Ask.el [] (by simp only [Int.toNat_natCast]; omega) ?_ | refine Ask.el false (by simp only [Int.toNat_natCast]; rw [tab_row_len _ _ _ (by omega)]; omega) ?_ | refine Br.mk (fun h => ?_) fun h => ?_ | fail))
    all_goals (conv => whnf)
    all_goals (try simp only [Int.toNat_natCast] at *)
    all_goals
      first
      | (have hkn : k < n := by omega
         have t1 := tab_at n f i j hin hjn
         have t2 := tab_at n f j k hjn hkn
         have t3 := tab_at n f i k hin hkn
         refine ⟨k + 1, rfl, ⟨by omega, fun z hz a b => ?_⟩, by show _ - _ < _; omega⟩
         rcases Nat.lt_succ_iff_lt_or_eq.1 hz with h5 | rfl
         · exact hR z h5 a b
         · simp_all)
      | (have hkn : k < n := by omega
         have t1 := tab_at n f i j hin hjn
         have t2 := tab_at n f j k hjn hkn
         have t3 := tab_at n f i k hin hkn
         refine fin_false fun hr => ?_
         have := ((hr i hin).2 j hjn).2 k hkn
         simp_all)
      | (refine ⟨j + 1, rfl, ⟨by omega, fun y hy => ?_⟩, by show _ - _ < _; omega⟩
         rcases Nat.lt_succ_iff_lt_or_eq.1 hy with h5 | rfl
         · exact hQ y h5
         · exact ⟨hne, fun z hz => hR z (by omega)⟩)
      | (refine ⟨i + 1, rfl, ⟨by omega, fun x hx => ?_⟩, by show _ - _ < _; omega⟩
         rcases Nat.lt_succ_iff_lt_or_eq.1 hx with h5 | rfl
         · exact hP x h5
         · exact ⟨hii, fun y hy => hQ y (by omega)⟩)
  · refine fin_false fun hr => ?_
    rw [tab_at _ _ _ _ (by omega) (by omega)] at h
    rw [(hr i (by omega)).1] at h; cases h
  · exact fin_true fun x hx => hP x (by omega)

end Go.Proofs.Ytnpdibedhdlclaa.Ax
