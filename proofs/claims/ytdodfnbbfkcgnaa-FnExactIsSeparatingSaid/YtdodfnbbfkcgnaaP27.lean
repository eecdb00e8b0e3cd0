/-
  Valid algebras: the program's test and the reference's are one.
-/
import Derived.Test.YtdodfnbbfkcgnaaP23
namespace Go.Proofs.Ytdodfnbbfkcgnaa.Ax
open Go Classical

def opOk (n : Nat) (f : SOp) : Prop := 0 ≤ f.Arity ∧ f.Arity ≤ 3 ∧ f.Table.length = n ^ f.Arity.toNat ∧ inSize f.Table n
def goodA (a : SAlgebra) : Prop := 1 ≤ a.Size ∧ a.Size ≤ 8 ∧ a.Ops.length ≤ 4 ∧ ∀ f ∈ a.Ops, opOk a.Size.toNat f
theorem pow_le {n k : Nat} (hn : n ≤ 8) (hk : k ≤ 3) : n ^ k ≤ 512 :=
  Nat.le_trans (Nat.pow_le_pow_left hn k) (Nat.le_trans (Nat.pow_le_pow_right (by omega) hk) (by decide))

theorem F_power {n k : Nat} (hn : n ≤ 8) (hk : k ≤ 3) : F_impl_power n k = some ((n ^ k : Nat) : Int) := by
  unfold F_impl_power
  have key := loop_seq (body := F_impl_power_l1 n) (fun j => (((n ^ j : Nat) : Int), ((k : Int) - (j : Int)))) k ((n ^ k : Nat) : Int) (fun j hj => by
    unfold F_impl_power_l1
    dsimp only
    have hp := pow_le hn (show j + 1 ≤ 3 by omega)
    rw [Nat.pow_succ] at hp
    rw [if_pos (by omega), ← Int.natCast_mul, Nat.pow_succ]
    generalize n ^ j * n = N at hp ⊢
    rw [ask_pos (by unfold InI; omega), ask_pos (by unfold InI; omega), show ((k : Int) - (j : Int) - 1) = (k : Int) - ((j + 1 : Nat) : Int) by omega]) (by
    unfold F_impl_power_l1
    dsimp only
    rw [if_neg (by omega)])
  have key' : loopO (F_impl_power_l1 n) (1, (k : Int)) = some ((n ^ k : Nat) : Int) := by simpa using key
  rw [key']; rfl
theorem F_l2Pow {n k : Nat} (hn : n ≤ 8) (hk : k ≤ 3) : F_spec_l2Pow n k = some ((n ^ k : Nat) : Int) := by
  unfold F_spec_l2Pow
  have key := loop_seq (body := F_spec_l2Pow_l1 n) (fun j => (((n ^ j : Nat) : Int), ((k : Int) - (j : Int)))) k ((n ^ k : Nat) : Int) (fun j hj => by
    unfold F_spec_l2Pow_l1
    dsimp only
    have hp := pow_le hn (show j + 1 ≤ 3 by omega)
    rw [Nat.pow_succ] at hp
    rw [if_pos (by omega), ← Int.natCast_mul, Nat.pow_succ]
    generalize n ^ j * n = N at hp ⊢
    rw [ask_pos (by unfold InI; omega), ask_pos (by unfold InI; omega), show ((k : Int) - (j : Int) - 1) = (k : Int) - ((j + 1 : Nat) : Int) by omega]) (by
    unfold F_spec_l2Pow_l1
    dsimp only
    rw [if_neg (by omega)])
  have key' : loopO (F_spec_l2Pow_l1 n) (1, (k : Int)) = some ((n ^ k : Nat) : Int) := by simpa using key
  rw [key']; rfl

theorem F_isOp {n : Nat} (hn : n ≤ 8) {f : SOp} (hl : f.Table.length ≤ LIM) : F_impl_isOp f n = some (decide (opOk n f)) := by
  unfold F_impl_isOp
  by_cases h0 : 0 ≤ f.Arity
  · rw [if_pos (show f.Arity ≥ 0 from h0)]
    by_cases h3 : f.Arity ≤ 3
    · have e : F_impl_power (n : Int) f.Arity = some ((n ^ f.Arity.toNat : Nat) : Int) := by
        have := F_power hn (k := f.Arity.toNat) (by omega)
        rwa [show ((f.Arity.toNat : Nat) : Int) = f.Arity by omega] at this
      rw [if_pos h3, e]
      simp only [Option.bind_some]
      by_cases hL : f.Table.length = n ^ f.Arity.toNat
      · rw [if_pos (by rw [hL]), F_inSize _ _ hl]
        simp only [Option.bind_some]
        congr 1
        rw [decide_eq_decide]
        exact ⟨fun h => ⟨h0, h3, hL, h⟩, fun h => h.2.2.2⟩
      · rw [if_neg (fun hc => hL (Int.ofNat_inj.1 hc)), decide_eq_false (fun h => hL h.2.2.1)]
    · rw [if_neg h3, decide_eq_false (fun h => h3 h.2.1)]
  · rw [if_neg (by omega), decide_eq_false (fun h => h0 h.1)]
theorem F_l2Op {n : Nat} (hn1 : 1 ≤ n) (hn : n ≤ 8) {f : SOp} (hl : f.Table.length ≤ LIM) : F_spec_l2Op n f = some (decide (opOk n f)) := by
  unfold F_spec_l2Op
  rw [F_l1In]
  simp only [Option.bind_some]
  by_cases h0 : 0 ≤ f.Arity ∧ f.Arity ≤ 3
  · have e : F_spec_l2Pow (n : Int) f.Arity = some ((n ^ f.Arity.toNat : Nat) : Int) := by
      have := F_l2Pow hn (k := f.Arity.toNat) (by omega)
      rwa [show ((f.Arity.toNat : Nat) : Int) = f.Arity by omega] at this
    rw [decide_eq_true h0, if_pos rfl, e]
    simp only [Option.bind_some]
    by_cases hL : f.Table.length = n ^ f.Arity.toNat
    · rw [if_neg (by rw [hL]; simp)]
      simp only [Option.bind_some]
      have hl' := hl
      rw [lim_def] at hl'
      have this := loop_find (body := F_spec_l2Op_l1 n f) (fun i => (i : Int)) f.Table.length (fun i => ¬ (0 ≤ nth f.Table i ∧ nth f.Table i ≤ (n : Int) - 1)) () () (fun i hi hb => by
        unfold F_spec_l2Op_l1
        rw [if_pos (by omega), ask_pos (by omega), ask_pos (by unfold InI; omega), F_l1In]
        simp only [Int.toNat_natCast, Option.bind_some]
        rw [decide_eq_true (Classical.not_not.1 hb), if_pos rfl, ask_pos (by unfold InI; omega)]; rfl) (fun i hi hb => by
        unfold F_spec_l2Op_l1
        rw [if_pos (by omega), ask_pos (by omega), ask_pos (by unfold InI; omega), F_l1In]
        simp only [Int.toNat_natCast, Option.bind_some]
        rw [decide_eq_false hb, if_neg (by simp)]) (by
        unfold F_spec_l2Op_l1
        rw [if_neg (by omega)]) 0 (by omega)
      refine (find_bool this false true).trans (congrArg some (dec_not ?_))
      rw [find_all]
      constructor
      · intro h
        refine ⟨h0.1, h0.2, hL, fun x hx => ?_⟩
        obtain ⟨i, hi, rfl⟩ := mem_nth.1 hx
        have := h i hi; omega
      · intro h i hi
        have := h.2.2.2 _ (nth_mem hi); omega
    · rw [if_pos (fun hc => hL (Int.ofNat_inj.1 hc)), decide_eq_false (fun h => hL h.2.2.1)]; rfl
  · rw [decide_eq_false h0, if_neg (by simp), decide_eq_false (fun h => h0 ⟨h.1, h.2.1⟩)]; rfl

theorem F_IsAlgebra {a : SAlgebra} (h : smallA a) : F_impl_IsAlgebra a = some (decide (goodA a)) := by
  unfold F_impl_IsAlgebra
  by_cases h1 : a.Size < 1
  · rw [if_pos h1, decide_eq_false (fun hg => by have := hg.1; omega)]; rfl
  rw [if_neg h1]
  by_cases h8 : a.Size > 8
  · rw [if_pos h8, decide_eq_false (fun hg => by have := hg.2.1; omega)]; rfl
  rw [if_neg h8]
  by_cases h4 : (a.Ops.length : Int) > 4
  · rw [if_pos h4, decide_eq_false (fun hg => by have := hg.2.2.1; omega)]; rfl
  rw [if_neg h4]
  simp only [Option.bind_some]
  obtain ⟨n, hn⟩ := Int.eq_ofNat_of_zero_le (show 0 ≤ a.Size by omega)
  have this := loop_find (body := F_impl_IsAlgebra_l1 a) (fun i => (i : Int)) a.Ops.length (fun i => ¬ opOk n (nth a.Ops i)) () () (fun i hi hb => by
    have hl := h.2 _ (nth_mem hi)
    unfold F_impl_IsAlgebra_l1
    rw [if_pos (by omega), ask_pos (by omega), Int.toNat_natCast, hn, F_isOp (by omega) (by rw [lim_def]; omega)]
    simp only [Option.bind_some]
    rw [decide_eq_true (Classical.not_not.1 hb), if_pos rfl, ask_pos (by unfold InI; omega)]; rfl) (fun i hi hb => by
    have hl := h.2 _ (nth_mem hi)
    unfold F_impl_IsAlgebra_l1
    rw [if_pos (by omega), ask_pos (by omega), Int.toNat_natCast, hn, F_isOp (by omega) (by rw [lim_def]; omega)]
    simp only [Option.bind_some]
    rw [decide_eq_false hb, if_neg (by simp)]) (by
    unfold F_impl_IsAlgebra_l1
    rw [if_neg (by omega)]) 0 (by omega)
  refine (find_bool this false true).trans (congrArg some (dec_not ?_))
  rw [find_all]
  have hnn : a.Size.toNat = n := by omega
  constructor
  · intro hh
    refine ⟨by omega, by omega, by omega, fun f hf => ?_⟩
    obtain ⟨i, hi, rfl⟩ := mem_nth.1 hf
    rw [hnn]; exact hh i hi
  · intro hg i hi
    have := hg.2.2.2 _ (nth_mem hi)
    rwa [hnn] at this
theorem F_l2Good {a : SAlgebra} (h : smallA a) : F_spec_l2Good a = some (decide (goodA a)) := by
  unfold F_spec_l2Good
  rw [F_l1In]
  simp only [Option.bind_some]
  by_cases h1 : 1 ≤ a.Size ∧ a.Size ≤ 8
  · rw [decide_eq_true h1, if_pos rfl]
    by_cases h4 : (a.Ops.length : Int) > 4
    · rw [if_pos h4, decide_eq_false (fun hg => by have := hg.2.2.1; omega)]; rfl
    rw [if_neg h4]
    simp only [Option.bind_some]
    obtain ⟨n, hn⟩ := Int.eq_ofNat_of_zero_le (show 0 ≤ a.Size by omega)
    have this := loop_find (body := F_spec_l2Good_l1 a) (fun i => (i : Int)) a.Ops.length (fun i => ¬ opOk n (nth a.Ops i)) () () (fun i hi hb => by
      have hl := h.2 _ (nth_mem hi)
      unfold F_spec_l2Good_l1
      rw [if_pos (by omega), ask_pos (by omega), Int.toNat_natCast, hn, F_l2Op (by omega) (by omega) (by rw [lim_def]; omega)]
      simp only [Option.bind_some]
      rw [decide_eq_true (Classical.not_not.1 hb), if_pos rfl, ask_pos (by unfold InI; omega)]; rfl) (fun i hi hb => by
      have hl := h.2 _ (nth_mem hi)
      unfold F_spec_l2Good_l1
      rw [if_pos (by omega), ask_pos (by omega), Int.toNat_natCast, hn, F_l2Op (by omega) (by omega) (by rw [lim_def]; omega)]
      simp only [Option.bind_some]
      rw [decide_eq_false hb, if_neg (by simp)]) (by
      unfold F_spec_l2Good_l1
      rw [if_neg (by omega)]) 0 (by omega)
    refine (find_bool this false true).trans (congrArg some (dec_not ?_))
    rw [find_all]
    have hnn : a.Size.toNat = n := by omega
    constructor
    · intro hh
      refine ⟨by omega, by omega, by omega, fun f hf => ?_⟩
      obtain ⟨i, hi, rfl⟩ := mem_nth.1 hf
      rw [hnn]; exact hh i hi
    · intro hg i hi
      have := hg.2.2.2 _ (nth_mem hi)
      rwa [hnn] at this
  · rw [decide_eq_false h1, if_neg (by simp), decide_eq_false (fun hg => h1 ⟨hg.1, hg.2.1⟩)]; rfl

/-- the arities -/
def typeA (a : SAlgebra) : List Int := a.Ops.map (·.Arity)
theorem typeA_take {a : SAlgebra} {i : Nat} (hi : i < a.Ops.length) : (a.Ops.take (i + 1)).map (·.Arity) = (a.Ops.take i).map (·.Arity) ++ [(nth a.Ops i).Arity] := by
  rw [take_nth hi, List.map_append]; rfl
theorem typeA_len {a : SAlgebra} (h : smallA a) : (typeA a).length ≤ LIM := by
  have := h.1
  unfold typeA; rw [List.length_map, lim_def]; omega
end Go.Proofs.Ytdodfnbbfkcgnaa.Ax
