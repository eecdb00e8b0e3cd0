/-
  RenameElements: what the program and the reference compute.
-/
import Derived.Test.YtoikbcagaanhgaaP29
namespace Go.Proofs.Ytoikbcagaanhgaa.Ax
open Go Classical
theorem F_l2Perm {f : List Int} (hl : f.length ≤ LIM) {n : Nat} (hn1 : n ≤ 100) : F_spec_l2Perm f n = some (decide ((f.length : Int) = n ∧ inSize f n ∧ uniq f)) := by
  unfold F_spec_l2Perm
  by_cases h1 : (f.length : Int) = n
  · rw [if_neg (by simpa using h1), F_l2Elements n f hl (by rw [lim_def]; omega)]
    simp only [Option.bind_some]
    by_cases h2 : inSize f n
    · rw [decide_eq_true h2, if_pos rfl]
      simp only [Option.bind_some]
      have hn : n = f.length := by omega
      subst hn
      rw [ask_pos (by rw [lim_def]; omega), Int.toNat_natCast]
      have this := loop_find (body := F_spec_l2Perm_l1 f f.length) (fun i => ((i : Int), btab f.length fun z => decide ((z : Int) ∈ f.take i))) f.length (fun i => nth f i ∈ f.take i) () () (fun i hi hb => by
        have hv := h2 _ (nth_mem hi)
        have hc : nth f i = (((nth f i).toNat : Nat) : Int) := by omega
        have hlen := btab_len f.length fun z => decide ((z : Int) ∈ f.take i)
        unfold F_spec_l2Perm_l1
        dsimp only
        rw [if_pos (by omega), ask_pos (by omega), Int.toNat_natCast, ask_pos (by omega), btab_at (by omega), if_neg (by rw [← hc]; simpa using hb), ask_pos (by omega), ask_pos (by omega), ask_pos (by unfold InI; omega), btab_set (by omega)]
        refine congrArg (fun x => some (Sum.inl (_, x))) (btab_congr fun z _ => ?_)
        rw [take_nth hi]
        by_cases hz : z = (nth f i).toNat
        · rw [if_pos hz]
          refine (decide_eq_true ?_).symm
          rw [List.mem_append, List.mem_singleton]; right; omega
        · rw [if_neg hz, decide_eq_decide, List.mem_append, List.mem_singleton]
          exact ⟨.inl, fun h => h.resolve_right (by omega)⟩) (fun i hi hb => by
        have hv := h2 _ (nth_mem hi)
        have hc : nth f i = (((nth f i).toNat : Nat) : Int) := by omega
        have hlen := btab_len f.length fun z => decide ((z : Int) ∈ f.take i)
        unfold F_spec_l2Perm_l1
        dsimp only
        rw [if_pos (by omega), ask_pos (by omega), Int.toNat_natCast, ask_pos (by omega), btab_at (by omega), if_pos (by rw [← hc]; simpa using hb)]) (by
        unfold F_spec_l2Perm_l1
        dsimp only
        rw [if_neg (by omega)]) 0 (by omega)
      have e0 : (btab f.length fun z => decide ((z : Int) ∈ f.take 0)) = List.replicate f.length false := by
        rw [btab_false]; exact btab_congr fun z _ => by simp
      simp only [e0] at this
      refine (find_bool this false true).trans (congrArg some (dec_not ?_))
      constructor
      · intro hno
        exact ⟨rfl, h2, fun i hi hm => hno ⟨i, by omega, hi, hm⟩⟩
      · rintro ⟨_, _, hu⟩ ⟨i, _, hi, hm⟩
        exact hu i hi hm
    · rw [decide_eq_false h2, if_neg (by simp), decide_eq_false (fun h => h2 h.2.1)]; rfl
  · rw [if_pos (by simpa using h1), decide_eq_false (fun h => h1 h.1)]; rfl
structure Perm (f : List Int) (n : Nat) : Prop where
  len : f.length = n
  fin : inSize f n
  un : uniq f
section
variable {a : SAlgebra} {f : List Int} {n : Nat}
end
end Go.Proofs.Ytoikbcagaanhgaa.Ax
