/-
  Lists of pairs; all pairs of which one is directly above the other.
-/
import Derived.Test.YthcnmahjhahafaaP15
namespace Go.Proofs.Ythcnmahjhahafaa.Ax
open Go Classical

theorem F_eqIntA2 (a : Int × Int) : F_laws_eqIntA2 a a = some true := by
  unfold F_laws_eqIntA2
  rw [loopO_next (s' := 1) (by unfold F_laws_eqIntA2_l1; simp (disch := omega) only [ask_pos, if_pos, if_neg, if_true, if_false, InI_def, lim_def, List.length_cons, List.length_nil, List.length_append, List.length_set, List.length_replicate, Int.toNat_natCast, Int.natCast_add, Int.natCast_one, Option.bind_some, Bool.false_eq_true, ne_eq, not_true]; rfl), loopO_next (s' := 2) (by unfold F_laws_eqIntA2_l1; simp (disch := omega) only [ask_pos, if_pos, if_neg, if_true, if_false, InI_def, lim_def, List.length_cons, List.length_nil, List.length_append, List.length_set, List.length_replicate, Int.toNat_natCast, Int.natCast_add, Int.natCast_one, Option.bind_some, Bool.false_eq_true, ne_eq, not_true]; rfl), loopO_stop (t := .inr ()) (by unfold F_laws_eqIntA2_l1; rw [if_neg (by omega)])]
  rfl
theorem F_eqIntA2S {xs : List (Int × Int)} (h : xs.length ≤ LIM) : F_laws_eqIntA2S xs xs = some true := by
  unfold F_laws_eqIntA2S
  rw [lim_def] at h
  rw [if_neg (by simp)]
  have key : loopO (F_laws_eqIntA2S_l1 xs xs) (((0 : Nat) : Int)) = some (.inr ()) := loop_seq (body := F_laws_eqIntA2S_l1 xs xs) (fun i => (i : Int)) xs.length (.inr ()) (fun i hi => by
    unfold F_laws_eqIntA2S_l1
    rw [if_pos (by omega), ask_pos (by omega), ask_pos (by omega), F_eqIntA2]
    simp only [Option.bind_some, if_true]
    rw [ask_pos (by unfold InI; omega)]; rfl) (by
    unfold F_laws_eqIntA2S_l1
    rw [if_neg (by omega)])
  rw [show ((0 : Int)) = (((0 : Nat)) : Int) from rfl, key]; rfl

theorem F_mark2 (ys : List (Int × Int)) (i : Nat) (hi : i < ys.length) (m : Int) (h1 : 0 ≤ m) (h2 : m ≤ 4611686018427387904) :
    loopO (F_laws_markIntA2S_l1 (i : Int)) (0, ys, m) = some (ys.set i (m, m + 1), m + 2) := by
  rw [loopO_next (s' := (1, ys.set i (m, (nth ys i).2), m + 1)) (by
    unfold F_laws_markIntA2S_l1
    dsimp only
    rw [if_pos (by omega), ask_pos (by omega), ask_pos (by omega), if_pos rfl, ask_pos (by unfold InI; omega), ask_pos (by unfold InI; omega)]; rfl),
    loopO_next (s' := (2, ys.set i (m, m + 1), m + 2)) (by
    unfold F_laws_markIntA2S_l1
    dsimp only
    rw [if_pos (by omega), ask_pos (by rw [List.length_set]; omega), ask_pos (by omega), if_neg (by omega), ask_pos (by unfold InI; omega), ask_pos (by unfold InI; omega), Int.toNat_natCast, nth_set _ _ _ _ hi, if_pos rfl, List.set_set]
    congr 4; omega),
    loopO_stop (t := (ys.set i (m, m + 1), m + 2)) (by
    unfold F_laws_markIntA2S_l1
    dsimp only
    rw [if_neg (by omega)])]
/-- pairs of marks -/
def prFrom (k : Int) (n : Nat) : List (Int × Int) := (List.range n).map fun i : Nat => (k + 2 * i, k + 2 * i + 1)
theorem prFrom_len (k : Int) (n : Nat) : (prFrom k n).length = n := by simp [prFrom]
theorem nth_prFrom {k : Int} {n i : Nat} (h : i < n) : nth (prFrom k n) i = (k + 2 * i, k + 2 * i + 1) := by
  unfold prFrom; rw [nth_map' _ (by simpa using h), nth_range h]
theorem F_markIntA2S {xs : List (Int × Int)} (h : xs.length ≤ LIM) : F_laws_markIntA2S xs 1 = some ((1 : Int) + 2 * xs.length, prFrom 1 xs.length) := by
  unfold F_laws_markIntA2S
  rw [lim_def] at h
  have key : loopO F_laws_markIntA2S_l2 (((0 : Nat) : Int), prFrom 1 0 ++ xs.drop 0, (1 : Int) + 2 * ((0 : Nat) : Int)) = some (prFrom 1 xs.length, (1 : Int) + 2 * xs.length) := loop_seq (body := F_laws_markIntA2S_l2) (fun i => ((i : Int), prFrom 1 i ++ xs.drop i, (1 : Int) + 2 * i)) xs.length _ (fun i hi => by
    unfold F_laws_markIntA2S_l2
    dsimp only
    have hl := prFrom_len 1 i
    have hlen : (prFrom 1 i ++ xs.drop i).length = xs.length := by rw [List.length_append, hl, List.length_drop]; omega
    rw [if_pos (by omega), F_mark2 _ i (by omega) _ (by omega) (by omega)]
    simp only [Option.bind_some]
    rw [ask_pos (by unfold InI; omega)]
    have e : (prFrom 1 i ++ xs.drop i).set i (1 + 2 * (i : Int), 1 + 2 * (i : Int) + 1) = prFrom 1 (i + 1) ++ xs.drop (i + 1) := by
      rw [drop_nth' hi, List.set_append_right _ _ (by omega), hl, Nat.sub_self, List.set_cons_zero]
      simp [prFrom, List.range_succ]
    rw [e]
    congr 4) (by
    unfold F_laws_markIntA2S_l2
    dsimp only
    have hl := prFrom_len 1 xs.length
    rw [if_neg (by rw [List.length_append, hl, List.length_drop]; omega)]
    simp)
  have e0 : ((0 : Int), xs, (1 : Int)) = (((0 : Nat) : Int), prFrom 1 0 ++ xs.drop 0, (1 : Int) + 2 * ((0 : Nat) : Int)) := by simp [prFrom]
  rw [e0, key]; rfl
/-- the pairs with one element below -/
noncomputable def prRow (n : Nat) (f : Nat → Nat → Bool) (x : Nat) (acc : List (Int × Int)) : Nat → List (Int × Int)
  | 0 => acc
  | y + 1 => if cov n f x y then prRow n f x acc y ++ [((x : Int), (y : Int))] else prRow n f x acc y
noncomputable def prAll (n : Nat) (f : Nat → Nat → Bool) : Nat → List (Int × Int)
  | 0 => []
  | x + 1 => prRow n f x (prAll n f x) n
theorem prRow_len (n : Nat) (f : Nat → Nat → Bool) (x : Nat) (acc : List (Int × Int)) : ∀ y, (prRow n f x acc y).length ≤ acc.length + y := by
  intro y
  induction y with
  | zero => simp [prRow]
  | succ y ih =>
    simp only [prRow]
    split
    · simp; omega
    · omega
theorem prAll_len (n : Nat) (f : Nat → Nat → Bool) : ∀ x, (prAll n f x).length ≤ x * n := by
  intro x
  induction x with
  | zero => simp [prAll]
  | succ x ih =>
    have := prRow_len n f x (prAll n f x) n
    simp only [prAll]
    rw [Nat.succ_mul]; omega
section
variable {p : SPoset}
end

end Go.Proofs.Ythcnmahjhahafaa.Ax
