/-
  Lists of pairs; all pairs of which one is directly above the other.
-/
import Derived.Test.YthcnmahjhahafabP15
namespace Go.Proofs.Ythcnmahjhahafab.Ax
open Go Classical

theorem F_eqIntA2 (a : Int × Int) : F_laws_eqIntA2 a a = some true := by
  unfold F_laws_eqIntA2
  rw [loopO_next (s' := 1) (by unfold F_laws_eqIntA2_l1; simp (disch := omega) only [ask_pos, if_pos, if_neg, if_true, if_false, InI_def, lim_def, List.length_cons, List.length_nil, List.length_append, List.length_set, List.length_replicate, Int.toNat_natCast, Int.natCast_add, Int.natCast_one, Option.bind_some, Bool.false_eq_true, ne_eq, not_true]; rfl), loopO_next (s' := 2) (by unfold F_laws_eqIntA2_l1; simp (disch := omega) only [ask_pos, if_pos, if_neg, if_true, if_false, InI_def, lim_def, List.length_cons, List.length_nil, List.length_append, List.length_set, List.length_replicate, Int.toNat_natCast, Int.natCast_add, Int.natCast_one, Option.bind_some, Bool.false_eq_true, ne_eq, not_true]; rfl), loopO_stop (t := .inr ()) (by unfold F_laws_eqIntA2_l1; rw [if_neg (by omega)])]
  rfl
theorem F_eqIntA2S {xs : List (Int × Int)} (h : xs.length ≤ LIM) : F_laws_eqIntA2S xs xs = some true := by
  unfold F_laws_eqIntA2S
  rw [lim_def] at h
  rw [if_neg (by simp)]
  have key : loopO (F_laws_eqIntA2S_l1 xs xs) (((0 : Nat) : Int)) = some (.inr ()) := loop_seq (body := F_laws_eqIntA2S_l1 xs xs) (fun i => (i : Int)) xs.length (.inr ()) (fun i hi => by
    unfold F_laws_eqIntA2S_l1
    rw [if_pos (by omega), ask_pos (by omega), ask_pos (by omega), F_eqIntA2]
    simp only [Option.bind_some, if_true]
    rw [ask_pos (by unfold InI; omega)]; rfl) (by
    unfold F_laws_eqIntA2S_l1
    rw [if_neg (by omega)])
  rw [show ((0 : Int)) = (((0 : Nat)) : Int) from rfl, key]; rfl

theorem F_mark2 (ys : List (Int × Int)) (i : Nat) (hi : i < ys.length) (m : Int) (h1 : 0 ≤ m) (h2 : m ≤ 4611686018427387904) :
    loopO (F_laws_markIntA2S_l1 (i : Int)) (0, ys, m) = some (ys.set i (m, m + 1), m + 2) := by
  rw [loopO_next (s' := (1, ys.set i (m, (nth ys i).2), m + 1)) (by
    unfold F_laws_markIntA2S_l1
    dsimp only
    rw [if_pos (by omega), ask_pos (by omega), ask_pos (by omega), if_pos rfl, ask_pos (by unfold InI; omega), ask_pos (by unfold InI; omega)]; rfl),
    loopO_next (s' := (2, ys.set i (m, m + 1), m + 2)) (by
    unfold F_laws_markIntA2S_l1
    dsimp only
    rw [if_pos (by omega), ask_pos (by rw [List.length_set]; omega), ask_pos (by omega), if_neg (by omega), ask_pos (by unfold InI; omega), ask_pos (by unfold InI; omega), Int.toNat_natCast, nth_set _ _ _ _ hi, if_pos rfl, List.set_set]
    congr 4; omega),
    loopO_stop (t := (ys.set i (m, m + 1), m + 2)) (by
    unfold F_laws_markIntA2S_l1
    dsimp only
    rw [if_neg (by omega)])]
/-- pairs of marks -/
def prFrom (k : Int) (n : Nat) : List (Int × Int) := (List.range n).map fun i : Nat => (k + 2 * i, k + 2 * i + 1)
theorem prFrom_len (k : Int) (n : Nat) : (prFrom k n).length = n := by simp [prFrom]
theorem nth_prFrom {k : Int} {n i : Nat} (h : i < n) : nth (prFrom k n) i = (k + 2 * i, k + 2 * i + 1) := by
  unfold prFrom; rw [nth_map' _ (by simpa using h), nth_range h]
theorem F_markIntA2S {xs : List (Int × Int)} (h : xs.length ≤ LIM) : F_laws_markIntA2S xs 1 = some ((1 : Int) + 2 * xs.length, prFrom 1 xs.length) := by
  unfold F_laws_markIntA2S
  rw [lim_def] at h
  have key : loopO F_laws_markIntA2S_l2 (((0 : Nat) : Int), prFrom 1 0 ++ xs.drop 0, (1 : Int) + 2 * ((0 : Nat) : Int)) = some (prFrom 1 xs.length, (1 : Int) + 2 * xs.length) := loop_seq (body := F_laws_markIntA2S_l2) (fun i => ((i : Int), prFrom 1 i ++ xs.drop i, (1 : Int) + 2 * i)) xs.length _ (fun i hi => by
    unfold F_laws_markIntA2S_l2
    dsimp only
    have hl := prFrom_len 1 i
    have hlen : (prFrom 1 i ++ xs.drop i).length = xs.length := by rw [List.length_append, hl, List.length_drop]; omega
    rw [if_pos (by omega), F_mark2 _ i (by omega) _ (by omega) (by omega)]
    simp only [Option.bind_some]
    rw [ask_pos (by unfold InI; omega)]
    have e : (prFrom 1 i ++ xs.drop i).set i (1 + 2 * (i : Int), 1 + 2 * (i : Int) + 1) = prFrom 1 (i + 1) ++ xs.drop (i + 1) := by
      rw [drop_nth' hi, List.set_append_right _ _ (by omega), hl, Nat.sub_self, List.set_cons_zero]
      simp [prFrom, List.range_succ]
    rw [e]
    congr 4) (by
    unfold F_laws_markIntA2S_l2
    dsimp only
    have hl := prFrom_len 1 xs.length
    rw [if_neg (by rw [List.length_append, hl, List.length_drop]; omega)]
    simp)
  have e0 : ((0 : Int), xs, (1 : Int)) = (((0 : Nat) : Int), prFrom 1 0 ++ xs.drop 0, (1 : Int) + 2 * ((0 : Nat) : Int)) := by simp [prFrom]
  rw [e0, key]; rfl
theorem F_held2 (ys : List (Int × Int)) (i : Nat) (hi : i < ys.length) (m : Int) (h1 : 0 ≤ m) (h2 : m ≤ 4611686018427387904) (hy : nth ys i = (m, m + 1)) :
    loopO (F_laws_heldIntA2S_l1 ys (i : Int)) (0, m) = some (.inr (m + 2)) := by
  rw [loopO_next (s' := (1, m + 1)) (by
    unfold F_laws_heldIntA2S_l1
    dsimp only
    rw [if_pos (by omega), ask_pos (by omega), ask_pos (by omega), if_pos rfl, Int.toNat_natCast, hy, if_neg (by simp), ask_pos (by unfold InI; omega), ask_pos (by unfold InI; omega)]; rfl),
    loopO_next (s' := (2, m + 2)) (by
    unfold F_laws_heldIntA2S_l1
    dsimp only
    rw [if_pos (by omega), ask_pos (by omega), ask_pos (by omega), if_neg (by omega), Int.toNat_natCast, hy, if_neg (by simp), ask_pos (by unfold InI; omega), ask_pos (by unfold InI; omega)]
    congr 3; omega),
    loopO_stop (t := .inr (m + 2)) (by
    unfold F_laws_heldIntA2S_l1
    dsimp only
    rw [if_neg (by omega)])]
theorem F_heldIntA2S {n : Nat} (h : n ≤ LIM) : F_laws_heldIntA2S (prFrom 1 n) 1 = some ((1 : Int) + 2 * n) := by
  unfold F_laws_heldIntA2S
  rw [lim_def] at h
  have hl := prFrom_len 1 n
  have key : loopO (F_laws_heldIntA2S_l2 (prFrom 1 n)) (((0 : Nat) : Int), (1 : Int) + 2 * ((0 : Nat) : Int)) = some (.inr ((1 : Int) + 2 * n)) := loop_seq (body := F_laws_heldIntA2S_l2 (prFrom 1 n)) (fun i => ((i : Int), (1 : Int) + 2 * i)) n _ (fun i hi => by
    unfold F_laws_heldIntA2S_l2
    dsimp only
    rw [if_pos (by omega), F_held2 _ i (by omega) _ (by omega) (by omega) (nth_prFrom hi)]
    simp only [Option.bind_some]
    rw [ask_pos (by unfold InI; omega)]
    congr 3) (by
    unfold F_laws_heldIntA2S_l2
    dsimp only
    rw [if_neg (by omega)])
  have e0 : ((0 : Int), (1 : Int)) = (((0 : Nat) : Int), (1 : Int) + 2 * ((0 : Nat) : Int)) := by simp
  rw [e0, key]; rfl

/-- the pairs with one element below -/
noncomputable def prRow (n : Nat) (f : Nat → Nat → Bool) (x : Nat) (acc : List (Int × Int)) : Nat → List (Int × Int)
  | 0 => acc
  | y + 1 => if cov n f x y then prRow n f x acc y ++ [((x : Int), (y : Int))] else prRow n f x acc y
noncomputable def prAll (n : Nat) (f : Nat → Nat → Bool) : Nat → List (Int × Int)
  | 0 => []
  | x + 1 => prRow n f x (prAll n f x) n
theorem prRow_len (n : Nat) (f : Nat → Nat → Bool) (x : Nat) (acc : List (Int × Int)) : ∀ y, (prRow n f x acc y).length ≤ acc.length + y := by
  intro y
  induction y with
  | zero => simp [prRow]
  | succ y ih =>
    simp only [prRow]
    split
    · simp; omega
    · omega
theorem prAll_len (n : Nat) (f : Nat → Nat → Bool) : ∀ x, (prAll n f x).length ≤ x * n := by
  intro x
  induction x with
  | zero => simp [prAll]
  | succ x ih =>
    have := prRow_len n f x (prAll n f x) n
    simp only [prAll]
    rw [Nat.succ_mul]; omega
section
variable {p : SPoset}
theorem F_specPairs (hs : small p) (h10 : p.Below.length ≤ 10) : F_spec_l23Pairs p = some (prAll p.Below.length (below p.Below) p.Below.length) := by
  unfold F_spec_l23Pairs
  have hrow : ∀ x, x < p.Below.length → loopO (F_spec_l23Pairs_l1 p (x : Int)) (0, prAll p.Below.length (below p.Below) x) = some (prAll p.Below.length (below p.Below) (x + 1)) := by
    intro x hx
    have hal := prAll_len p.Below.length (below p.Below) x
    have hm : x * p.Below.length ≤ 10 * 10 := Nat.mul_le_mul (by omega) h10
    refine loop_seq (body := F_spec_l23Pairs_l1 p (x : Int)) (fun y => ((y : Int), prRow p.Below.length (below p.Below) x (prAll p.Below.length (below p.Below) x) y)) p.Below.length _ (fun y hy => ?_) ?_
    · unfold F_spec_l23Pairs_l1
      dsimp only
      have hl := prRow_len p.Below.length (below p.Below) x (prAll p.Below.length (below p.Below) x) y
      rw [if_pos (by omega), F_specCovers hs x y hx hy]
      simp only [Option.bind_some, prRow]
      by_cases hq : cov p.Below.length (below p.Below) x y = true
      · rw [if_pos hq, if_pos hq, ask_pos (by rw [lim_def]; simp; omega), ask_pos (by unfold InI; omega)]; rfl
      · rw [if_neg hq, if_neg hq, ask_pos (by unfold InI; omega)]; rfl
    · unfold F_spec_l23Pairs_l1
      dsimp only
      rw [if_neg (by omega)]; rfl
  have key : loopO (F_spec_l23Pairs_l2 p) (((0 : Nat) : Int), prAll p.Below.length (below p.Below) 0) = some (prAll p.Below.length (below p.Below) p.Below.length) := loop_seq (body := F_spec_l23Pairs_l2 p) (fun x => ((x : Int), prAll p.Below.length (below p.Below) x)) p.Below.length _ (fun x hx => by
    unfold F_spec_l23Pairs_l2
    dsimp only
    rw [if_pos (by omega), hrow x hx]
    simp only [Option.bind_some]
    rw [ask_pos (by unfold InI; omega)]; rfl) (by
    unfold F_spec_l23Pairs_l2
    dsimp only
    rw [if_neg (by omega)])
  have e0 : ((0 : Int), nilL (Int × Int)) = (((0 : Nat) : Int), prAll p.Below.length (below p.Below) 0) := rfl
  rw [e0, key]; rfl
theorem F_coverPairs {n : Nat} {f : Nat → Nat → Bool} (h10 : n ≤ 10) : F_impl_order_coverPairs (tab n f) = some (prAll n f n) := by
  unfold F_impl_order_coverPairs
  have htl := tab_len n f
  have hL : n ≤ LIM := by rw [lim_def]; omega
  have hrow : ∀ x, x < n → loopO (F_impl_order_coverPairs_l1 (tab n f) (x : Int)) (0, prAll n f x) = some (prAll n f (x + 1)) := by
    intro x hx
    have hal := prAll_len n f x
    have hm : x * n ≤ 10 * 10 := Nat.mul_le_mul (by omega) h10
    refine loop_seq (body := F_impl_order_coverPairs_l1 (tab n f) (x : Int)) (fun y => ((y : Int), prRow n f x (prAll n f x) y)) n _ (fun y hy => ?_) ?_
    · unfold F_impl_order_coverPairs_l1
      dsimp only
      have hl := prRow_len n f x (prAll n f x) y
      rw [if_pos (by omega), F_covers hL x y hx hy]
      simp only [Option.bind_some, prRow]
      by_cases hq : cov n f x y = true
      · rw [if_pos hq, if_pos hq, ask_pos (by rw [lim_def]; simp; omega), ask_pos (by unfold InI; omega)]; rfl
      · rw [if_neg hq, if_neg hq, ask_pos (by unfold InI; omega)]; rfl
    · unfold F_impl_order_coverPairs_l1
      dsimp only
      rw [if_neg (by omega)]; rfl
  have key : loopO (F_impl_order_coverPairs_l2 (tab n f)) (((0 : Nat) : Int), prAll n f 0) = some (prAll n f n) := loop_seq (body := F_impl_order_coverPairs_l2 (tab n f)) (fun x => ((x : Int), prAll n f x)) n _ (fun x hx => by
    unfold F_impl_order_coverPairs_l2
    dsimp only
    rw [if_pos (by omega), hrow x hx]
    simp only [Option.bind_some]
    rw [ask_pos (by unfold InI; omega)]; rfl) (by
    unfold F_impl_order_coverPairs_l2
    dsimp only
    rw [if_neg (by omega)])
  have e0 : ((0 : Int), nilL (Int × Int)) = (((0 : Nat) : Int), prAll n f 0) := rfl
  rw [e0, key]; rfl
theorem both_CoverPairs (hs : small p) : ∃ r, F_spec_CoverPairs p = some r ∧ F_impl_CoverPairs p = some r ∧ r.1.length ≤ LIM := by
  unfold F_spec_CoverPairs F_impl_CoverPairs
  rw [F_l23Good p hs.1 hs.2]
  simp only [Option.bind_some]
  by_cases hg : good p.Below
  · have h10 : p.Below.length ≤ 10 := hg.1
    rw [order_good p hs.1 hs.2 hg, decide_eq_true hg]
    simp only [Option.bind_some, if_true]
    rw [F_specPairs hs h10, F_coverPairs h10]
    have hl := prAll_len p.Below.length (below p.Below) p.Below.length
    have hm : p.Below.length * p.Below.length ≤ 10 * 10 := Nat.mul_le_mul h10 h10
    refine ⟨_, rfl, rfl, ?_⟩
    dsimp only
    rw [lim_def]; omega
  · obtain ⟨o, e⟩ := order_bad p hs.1 hs.2 hg
    rw [e, decide_eq_false hg]
    exact ⟨([], false), by simp, by simp, by simp⟩
end

end Go.Proofs.Ythcnmahjhahafab.Ax
