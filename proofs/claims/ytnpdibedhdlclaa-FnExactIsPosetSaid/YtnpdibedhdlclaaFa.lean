/-
  Functions on lists of numbers.
-/
import Derived.Test.YtnpdibedhdlclaaAxX
import Derived.Test.YtnpdibedhdlclaaCode
namespace Go.Proofs.Ytnpdibedhdlclaa.Ax
open Go Classical

abbrev BIG : Nat := 9223372036854775807

theorem t_l1In (x a b : Int) : Ret Try.prog f_spec_l1In [vint x, vint a, vint b] (.bool (decide (a ≤ x ∧ x ≤ b))) := by
  refine ret_vc k_spec_l1In (by simp) ?_
  repeat' ((conv => whnf); first | refine Br.yes ?_ | refine Br.no ?_ | refine Br.prop (fun h => ?_) fun h => ?_ | refine Br.beq (fun h => ?_) fun h => ?_ | refine Br.bne (fun h => ?_) fun h => ?_ | refine Br.not ?_ | refine Len.map ?_ | refine Ask.el 0 (by omega) ?_ | refine Ask.el [] (by omega) ?_ | refine Ask.mk (by omega) ?_ | fail)
  all_goals (conv => whnf)
  · refine fin_bool ?_; simp; omega
  · refine fin_bool ?_; simp; omega

theorem t_szIntS (xs : List Int) (n : Int) (h1 : xs.length ≤ BIG) (h2 : -1 ≤ n) (h3 : n ≤ 1048576) : Ret Try.prog f_laws_szIntS [ints xs, vint n] (.int .i64 (if n - xs.length < 0 then -1 else n - xs.length)) := by
  refine ret_vc k_laws_szIntS (by simp) ?_
  unfold BIG at h1
  repeat' ((conv => whnf); first | refine Br.yes ?_ | refine Br.no ?_ | refine Br.prop (fun h => ?_) fun h => ?_ | refine Br.beq (fun h => ?_) fun h => ?_ | refine Br.bne (fun h => ?_) fun h => ?_ | refine Br.not ?_ | refine Len.map ?_ | refine Ask.el 0 (by omega) ?_ | refine Ask.el [] (by omega) ?_ | refine Ask.mk (by omega) ?_ | fail)
  all_goals (conv => whnf)
  · rw [if_pos (by omega)]; rfl
  · rw [if_neg (by omega)]; rfl

def rising (xs : List Int) (lo hi : Int) : Prop := ∀ i, i < xs.length → (lo ≤ xs.getD i 0 ∧ xs.getD i 0 ≤ hi) ∧ (0 < i → xs.getD (i - 1) 0 < xs.getD i 0)
theorem t_l1Rising (xs : List Int) (lo hi : Int) (h1 : xs.length ≤ LIM) : Ret Try.prog f_spec_l1Rising [ints xs, vint lo, vint hi] (.bool (decide (rising xs lo hi))) := by
  refine ret_vc k_spec_l1Rising (by simp) ?_
  unfold LIM at h1
  conv => whnf
  refine LoopQ.by [0, 1, 2, 7] (fun i : Nat => [(0, .val (ints xs)), (1, .val (vint lo)), (2, .val (vint hi)), (7, .val (vint i))])
    (fun i => i ≤ xs.length ∧ ∀ j, j < i → (lo ≤ xs.getD j 0 ∧ xs.getD j 0 ≤ hi) ∧ (0 < j → xs.getD (j - 1) 0 < xs.getD j 0)) (fun i => xs.length - i) 0 rfl ⟨by omega, by intro j hj; omega⟩ ?_
  rintro i ⟨hi, hj⟩
  have e1 : ((i : Int) - 1).toNat = i - 1 := by omega
  repeat' ((conv => whnf); first | refine Br.yes ?_ | refine Br.no ?_ | refine Br.prop (fun h => ?_) fun h => ?_ | refine Br.beq (fun h => ?_) fun h => ?_ | refine Br.bne (fun h => ?_) fun h => ?_ | refine Br.not ?_ | refine Len.map ?_ | refine Ask.el 0 (by omega) ?_ | refine Ask.el [] (by omega) ?_ | refine Ask.mk (by omega) ?_ | refine CallP.ret (t_l1In _ _ _) ?_ | fail)
  all_goals (conv => whnf)
  all_goals simp only [e1, Int.toNat_natCast] at *
  · refine fin_false fun hr => ?_
    have := hr i (by omega); omega
  · refine ⟨i + 1, rfl, ⟨by omega, fun j hj2 => ?_⟩, by show _ - _ < _; omega⟩
    rcases Nat.lt_succ_iff_lt_or_eq.1 hj2 with h3 | rfl
    · exact hj j h3
    · exact ⟨by assumption, fun _ => by omega⟩
  · refine ⟨i + 1, rfl, ⟨by omega, fun j hj2 => ?_⟩, by show _ - _ < _; omega⟩
    rcases Nat.lt_succ_iff_lt_or_eq.1 hj2 with h3 | rfl
    · exact hj j h3
    · exact ⟨by assumption, fun _ => by omega⟩
  · refine fin_false fun hr => ?_
    rename_i h
    exact h (hr i (by omega)).1
  · refine fin_true fun k hk => hj k (by omega)

/-- a number is in a list -/
theorem mem_iff_at (xs : List Int) (n : Int) : n ∈ xs ↔ ∃ i, i < xs.length ∧ xs.getD i 0 = n := by
  constructor
  · intro h
    obtain ⟨i, hi⟩ := List.mem_iff_getElem?.1 h
    obtain ⟨h1, _⟩ := List.getElem?_eq_some_iff.1 hi
    exact ⟨i, h1, by simp [List.getD_eq_getElem?_getD, hi]⟩
  · rintro ⟨i, h1, rfl⟩
    simp [List.getD_eq_getElem?_getD, h1]

theorem t_l1Has (xs : List Int) (n : Int) (h1 : xs.length ≤ LIM) : Ret Try.prog f_spec_l1Has [ints xs, vint n] (.bool (decide (n ∈ xs))) := by
  refine ret_vc k_spec_l1Has (by simp) ?_
  unfold LIM at h1
  conv => whnf
  refine LoopQ.by [0, 1, 5] (fun i : Nat => [(0, .val (ints xs)), (1, .val (vint n)), (5, .val (vint i))])
    (fun i => i ≤ xs.length ∧ ∀ j, j < i → xs.getD j 0 ≠ n) (fun i => xs.length - i) 0 rfl ⟨by omega, by intro j hj; omega⟩ ?_
  rintro i ⟨hi, hj⟩
  repeat' ((conv => whnf); first | refine Br.yes ?_ | refine Br.no ?_ | refine Br.prop (fun h => ?_) fun h => ?_ | refine Br.beq (fun h => ?_) fun h => ?_ | refine Br.bne (fun h => ?_) fun h => ?_ | refine Br.not ?_ | refine Len.map ?_ | refine Ask.el 0 (by omega) ?_ | refine Ask.el [] (by omega) ?_ | refine Ask.mk (by omega) ?_ | fail)
  all_goals (conv => whnf)
  all_goals (try simp only [Int.toNat_natCast] at *)
  · refine fin_true ((mem_iff_at xs n).2 ⟨i, by omega, by assumption⟩)
  · refine ⟨i + 1, rfl, ⟨by omega, fun j hj2 => ?_⟩, by show _ - _ < _; omega⟩
    rcases Nat.lt_succ_iff_lt_or_eq.1 hj2 with h3 | rfl
    · exact hj j h3
    · assumption
  · refine fin_false fun hm => ?_
    obtain ⟨k, h2, h3⟩ := (mem_iff_at xs n).1 hm
    exact hj k (by omega) h3

theorem t_l5Within (xs ys : List Int) (h1 : xs.length ≤ LIM) (h2 : ys.length ≤ LIM) : Ret Try.prog f_spec_l5Within [ints xs, ints ys] (.bool (decide (∀ x ∈ xs, x ∈ ys))) := by
  refine ret_vc k_spec_l5Within (by simp) ?_
  have h1' := h1
  unfold LIM at h1'
  conv => whnf
  refine LoopQ.by [0, 1, 5] (fun i : Nat => [(0, .val (ints xs)), (1, .val (ints ys)), (5, .val (vint i))])
    (fun i => i ≤ xs.length ∧ ∀ j, j < i → xs.getD j 0 ∈ ys) (fun i => xs.length - i) 0 rfl ⟨by omega, by intro j hj; omega⟩ ?_
  rintro i ⟨hi, hj⟩
  repeat' ((conv => whnf); first | refine Br.yes ?_ | refine Br.no ?_ | refine Br.prop (fun h => ?_) fun h => ?_ | refine Br.beq (fun h => ?_) fun h => ?_ | refine Br.bne (fun h => ?_) fun h => ?_ | refine Br.not ?_ | refine Len.map ?_ | refine Ask.el 0 (by omega) ?_ | refine Ask.el [] (by omega) ?_ | refine Ask.mk (by omega) ?_ | refine CallQ.ret (t_l1Has _ _ h2) ?_ | fail)
  all_goals (conv => whnf)
  all_goals (try simp only [Int.toNat_natCast] at *)
  · refine ⟨i + 1, rfl, ⟨by omega, fun j hj2 => ?_⟩, by show _ - _ < _; omega⟩
    rcases Nat.lt_succ_iff_lt_or_eq.1 hj2 with h3 | rfl
    · exact hj j h3
    · assumption
  · refine fin_false fun hm => ?_
    rename_i h
    exact h (hm _ ((mem_iff_at xs _).2 ⟨i, by omega, rfl⟩))
  · refine fin_true fun x hx => ?_
    obtain ⟨k, h3, rfl⟩ := (mem_iff_at xs x).1 hx
    exact hj k (by omega)

theorem t_toIntS (xs : List Int) (h1 : xs.length ≤ LIM) : Ret Try.prog f_laws_toIntS [ints xs] (oints xs) := by
  refine ret_vc k_laws_toIntS (by simp) ?_
  unfold LIM at h1
  repeat' ((conv => whnf); first | refine Br.yes ?_ | refine Br.no ?_ | refine Br.prop (fun h => ?_) fun h => ?_ | refine Br.beq (fun h => ?_) fun h => ?_ | refine Br.bne (fun h => ?_) fun h => ?_ | refine Br.not ?_ | refine Len.map ?_ | refine Ask.el 0 (by omega) ?_ | refine Ask.el [] (by omega) ?_ | refine Ask.mk (by omega) ?_ | refine Ask.mk (by unfold LIM; omega) ?_ | fail)
  conv => whnf
  refine LoopQ.by [0, 3, 4] (fun x : Nat × List V => [(0, .val (ints xs)), (3, .val (.sl true 1 x.2)), (4, .val (vint x.1))])
    (fun x => x.1 ≤ xs.length ∧ x.2 = (xs.take x.1 ++ List.replicate (xs.length - x.1) 0).map vint) (fun x => xs.length - x.1) (0, _) rfl ⟨by omega, by simp⟩ ?_
  rintro ⟨i, us⟩ ⟨hi, hu⟩
  dsimp only at hi hu
  subst hu
  have hi' : i ≤ xs.length := hi
  have hl : (xs.take i ++ List.replicate (xs.length - i) (0 : Int)).length = xs.length := by simp; omega
  repeat' ((conv => whnf); first | refine Br.yes ?_ | refine Br.no ?_ | refine Br.prop (fun h => ?_) fun h => ?_ | refine Br.beq (fun h => ?_) fun h => ?_ | refine Br.bne (fun h => ?_) fun h => ?_ | refine Br.not ?_ | refine Len.map ?_ | refine Ask.el 0 (by omega) ?_ | refine Ask.el [] (by omega) ?_ | refine Ask.mk (by omega) ?_ | refine SetKids.el one_vint _ (by rw [hl]; omega) ?_ | refine Ask.mk (by rw [List.length_map, hl]; omega) ?_ | fail)
  all_goals (conv => whnf)
  · refine ⟨(i + 1, _), rfl, ⟨by show i + 1 ≤ _; omega, ?_⟩, by show _ - (i + 1) < _ - i; omega⟩
    show List.map vint _ = List.map vint _
    congr 1
    simp only [Int.toNat_natCast, Nat.mul_one]
    rw [set_put _ _ _ (by omega) (by simp; omega), take_put _ _ (by omega)]
  · have : i = xs.length := by omega
    subst this
    simp
    rfl

theorem t_eqIntS (xs ys : List Int) (h1 : xs.length ≤ LIM) : Ret Try.prog f_laws_eqIntS [ints xs, ints ys] (.bool (decide (xs = ys))) := by
  refine ret_vc k_laws_eqIntS (by simp) ?_
  unfold LIM at h1
  repeat' ((conv => whnf); first | refine Br.yes ?_ | refine Br.no ?_ | refine Br.prop (fun h => ?_) fun h => ?_ | refine Br.beq (fun h => ?_) fun h => ?_ | refine Br.bne (fun h => ?_) fun h => ?_ | refine Br.not ?_ | refine Len.map ?_ | refine Ask.el 0 (by omega) ?_ | refine Ask.el [] (by omega) ?_ | refine Ask.mk (by omega) ?_ | fail)
  all_goals (conv => whnf)
  · refine fin_false ?_
    rintro rfl; exact h rfl
  have hl : xs.length = ys.length := by omega
  refine LoopQ.by [0, 1, 5] (fun i : Nat => [(0, .val (ints xs)), (1, .val (ints ys)), (5, .val (vint i))])
    (fun i => i ≤ xs.length ∧ ∀ j, j < i → xs.getD j 0 = ys.getD j 0) (fun i => xs.length - i) 0 rfl ⟨by omega, by intro j hj; omega⟩ ?_
  rintro i ⟨hi, hj⟩
  repeat' ((conv => whnf); first | refine Br.yes ?_ | refine Br.no ?_ | refine Br.prop (fun h => ?_) fun h => ?_ | refine Br.beq (fun h => ?_) fun h => ?_ | refine Br.bne (fun h => ?_) fun h => ?_ | refine Br.not ?_ | refine Len.map ?_ | refine Ask.el 0 (by omega) ?_ | refine Ask.el [] (by omega) ?_ | refine Ask.mk (by omega) ?_ | fail)
  all_goals (conv => whnf)
  all_goals (try simp only [Int.toNat_natCast] at *)
  · refine fin_false ?_
    rintro rfl
    rename_i h
    exact h rfl
  · refine ⟨i + 1, rfl, ⟨by omega, fun j hj2 => ?_⟩, by show _ - _ < _; omega⟩
    rcases Nat.lt_succ_iff_lt_or_eq.1 hj2 with h3 | rfl
    · exact hj j h3
    · assumption
  · refine fin_true ?_
    refine List.ext_getElem hl fun k hk1 hk2 => ?_
    have := hj k (by omega)
    simpa [List.getD_eq_getElem?_getD, hk1, hk2] using this

end Go.Proofs.Ytnpdibedhdlclaa.Ax
