/-
  Sublattices: what the program and the reference generate.
-/
import Derived.Test.YtoikbcagaanhgaaP21
namespace Go.Proofs.Ytoikbcagaanhgaa.Ax
open Go Classical
theorem put_eq {n : Nat} {S : Nat → Bool} {z k : Nat} (hz : z < n) (hk : k ≤ (sieve n S).length) (h1 : ∀ j, j < k → nth (sieve n S) j < (z : Int)) (h2 : k < (sieve n S).length → (z : Int) < nth (sieve n S) k) :
    (sieve n S).take k ++ [(z : Int)] ++ (sieve n S).drop k = sieve n fun a => decide (S a = true ∨ a = z) := by
  have hr := sieve_rises n S
  have e := List.take_append_drop k (sieve n S)
  refine rises_ext (rises_pw.2 ?_) (sieve_rises _ _) fun x => ?_
  · rw [List.append_assoc, List.pairwise_append]
    have hp := rises_pw.1 hr
    rw [← e, List.pairwise_append] at hp
    have ht : ∀ a ∈ (sieve n S).take k, a < (z : Int) := by
      intro a ha
      obtain ⟨j, hj, rfl⟩ := mem_nth.1 ha
      have hj' : j < k := by rw [List.length_take] at hj; omega
      have := h1 j hj'
      rw [nth_lt hj, List.getElem_take]
      rwa [nth_lt (by omega)] at this
    have hd : ∀ a ∈ (sieve n S).drop k, (z : Int) < a := by
      intro a ha
      obtain ⟨j, hj, rfl⟩ := mem_nth.1 ha
      rw [List.length_drop] at hj
      have h3 := h2 (by omega)
      have h4 : nth ((sieve n S).drop k) j = nth (sieve n S) (k + j) := by
        rw [nth_lt (by rw [List.length_drop]; omega), nth_lt (by omega), List.getElem_drop]
      rw [h4]
      by_cases hj0 : j = 0
      · subst hj0; exact h3
      · have := rises_lt hr (i := k) (j := k + j) (by omega) (by omega); omega
    refine ⟨hp.1, ?_, ?_⟩
    · rw [List.singleton_append, List.pairwise_cons]
      exact ⟨hd, hp.2.1⟩
    · intro a ha b hb
      rcases List.mem_append.1 hb with hb | hb
      · rw [List.mem_singleton.1 hb]; exact ht a ha
      · exact hp.2.2 a ha b hb
  · have hm : x ∈ sieve n S ↔ x ∈ (sieve n S).take k ∨ x ∈ (sieve n S).drop k := by rw [← List.mem_append, e]
    rw [List.mem_append, List.mem_append, List.mem_singleton]
    have : (x ∈ sieve n S ∨ x = (z : Int)) ↔ x ∈ sieve n fun a => decide (S a = true ∨ a = z) := by
      rw [mem_sieve, mem_sieve]
      constructor
      · rintro (⟨i, a, b, rfl⟩ | rfl)
        · exact ⟨i, a, decide_eq_true (.inl b), rfl⟩
        · exact ⟨z, hz, decide_eq_true (.inr rfl), rfl⟩
      · rintro ⟨i, a, b, rfl⟩
        rcases of_decide_eq_true b with c | c
        · exact .inl ⟨i, a, c, rfl⟩
        · exact .inr (by omega)
    rw [← this, hm]
    constructor
    · rintro ((h | h) | h)
      · exact .inl (.inl h)
      · exact .inr h
      · exact .inl (.inr h)
    · rintro ((h | h) | h)
      · exact .inl (.inl h)
      · exact .inr h
      · exact .inl (.inr h)
theorem put_in {n : Nat} {S : Nat → Bool} {z k : Nat} (hk : k < (sieve n S).length) (h : nth (sieve n S) k = (z : Int)) : sieve n S = sieve n fun a => decide (S a = true ∨ a = z) := by
  obtain ⟨i, a, b, c⟩ := mem_sieve.1 (nth_mem hk)
  rw [h] at c
  refine sieve_congr fun j _ => ?_
  by_cases hj : j = z
  · have : j = i := by omega
    subst this
    rw [b]; exact (decide_eq_true (.inl rfl)).symm
  · cases hS : S j <;> simp [hj]
theorem F_l1Put {n : Nat} (hn : n ≤ 1000) (S : Nat → Bool) {z : Nat} (hz : z < n) : F_spec_l1Put (sieve n S) (z : Int) = some (sieve n fun a => decide (S a = true ∨ a = z)) := by
  unfold F_spec_l1Put
  have hl := sieve_len n S
  rw [show ((0 : Int)) = (((0 : Nat)) : Int) from rfl]
  have key : ∃ k : Nat, k ≤ (sieve n S).length ∧ (∀ j, j < k → nth (sieve n S) j < (z : Int)) ∧ (k < (sieve n S).length → ¬ nth (sieve n S) k < (z : Int)) ∧ loopO (F_spec_l1Put_l1 (sieve n S) (z : Int)) (((0 : Nat)) : Int) = some (k : Int) := by
    rcases loop_pick (body := F_spec_l1Put_l1 (sieve n S) (z : Int)) (fun i => (i : Int)) (sieve n S).length (fun i => ¬ nth (sieve n S) i < (z : Int)) (fun i => (i : Int)) ((sieve n S).length : Int) (fun i hi hh => by
        unfold F_spec_l1Put_l1
        rw [if_pos (by omega), ask_pos (by omega), Int.toNat_natCast, if_pos (Classical.not_not.1 hh), ask_pos (by unfold InI; omega)]; rfl) (fun i hi hh => by
        unfold F_spec_l1Put_l1
        rw [if_pos (by omega), ask_pos (by omega), Int.toNat_natCast, if_neg hh]) (by
        unfold F_spec_l1Put_l1
        rw [if_neg (by omega)]) with ⟨i, hi, hh, hj, e⟩ | ⟨hno, e⟩
    · exact ⟨i, by omega, fun j h => Classical.not_not.1 (hj j h), fun _ => hh, e⟩
    · exact ⟨_, Nat.le_refl _, fun j h => Classical.not_not.1 (hno j h), fun h => absurd h (Nat.lt_irrefl _), e⟩
  obtain ⟨k, hk, h1, h2, e⟩ := key
  rw [e]
  simp only [Option.bind_some]
  have tail : (¬ k < (sieve n S).length ∨ nth (sieve n S) k ≠ (z : Int)) → (ask (0 ≤ (((0 : Nat)) : Int) ∧ (((0 : Nat)) : Int) ≤ (k : Int) ∧ (k : Int) ≤ (((sieve n S).length : Nat) : Int)) <|
      ask ((nilL Int).length + (List.take ((k : Int).toNat - Int.toNat ((((0 : Nat)) : Int))) (List.drop (Int.toNat ((((0 : Nat)) : Int))) (sieve n S))).length ≤ LIM) <|
      ask ((nilL Int ++ List.take ((k : Int).toNat - Int.toNat ((((0 : Nat)) : Int))) (List.drop (Int.toNat ((((0 : Nat)) : Int))) (sieve n S))).length + ([(z : Int)]).length ≤ LIM) <|
      ask (0 ≤ (k : Int) ∧ (k : Int) ≤ ((sieve n S).length : Int) ∧ ((sieve n S).length : Int) ≤ (((sieve n S).length : Nat) : Int)) <|
      ask ((nilL Int ++ List.take ((k : Int).toNat - Int.toNat ((((0 : Nat)) : Int))) (List.drop (Int.toNat ((((0 : Nat)) : Int))) (sieve n S)) ++ [(z : Int)]).length + (List.take (((sieve n S).length : Int).toNat - (k : Int).toNat) (List.drop (k : Int).toNat (sieve n S))).length ≤ LIM) <|
      some (nilL Int ++ List.take ((k : Int).toNat - Int.toNat ((((0 : Nat)) : Int))) (List.drop (Int.toNat ((((0 : Nat)) : Int))) (sieve n S)) ++ [(z : Int)] ++ List.take (((sieve n S).length : Int).toNat - (k : Int).toNat) (List.drop (k : Int).toNat (sieve n S)))) = some (sieve n fun a => decide (S a = true ∨ a = z)) := by
    intro h3
    simp only [Int.toNat_natCast, List.drop_zero, Nat.sub_zero, List.nil_append]
    have ed : List.take ((sieve n S).length - k) (List.drop k (sieve n S)) = List.drop k (sieve n S) := List.take_of_length_le (by rw [List.length_drop]; omega)
    rw [ed]
    have ht : (List.take k (sieve n S)).length ≤ 1000 := by rw [List.length_take]; omega
    have hd : (List.drop k (sieve n S)).length ≤ 1000 := by rw [List.length_drop]; omega
    rw [ask_pos (by omega), ask_pos (by rw [lim_def]; simp only [List.length_nil]; omega), ask_pos (by rw [lim_def]; simp only [List.length_cons, List.length_nil]; omega), ask_pos (by omega), ask_pos (by rw [lim_def]; simp only [List.length_append, List.length_cons, List.length_nil]; omega)]
    rw [put_eq hz hk h1 fun h => by have h4 := h2 h; rcases h3 with h3 | h3 <;> omega]
  by_cases hkl : k < (sieve n S).length
  · rw [if_pos (by omega), ask_pos (by omega), Int.toNat_natCast]
    by_cases hv : nth (sieve n S) k = (z : Int)
    · rw [if_pos hv]
      simp only [Option.bind_some]
      rw [← put_in hkl hv]
    · rw [if_neg hv]
      exact tail (.inr hv)
  · rw [if_neg (by omega)]
    exact tail (.inl hkl)
section
variable {p : SPoset}
end
end Go.Proofs.Ytoikbcagaanhgaa.Ax
