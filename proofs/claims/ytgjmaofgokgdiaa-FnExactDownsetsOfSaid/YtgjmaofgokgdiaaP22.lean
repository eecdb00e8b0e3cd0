/-
  Sublattices: what the program and the reference generate.
-/
import Derived.Test.YtgjmaofgokgdiaaP21
namespace Go.Proofs.Ytgjmaofgokgdiaa.Ax
open Go Classical

theorem F_l1Same {xs ys : List Int} (h : xs.length ≤ LIM) : F_spec_l1Same xs ys = some (decide (xs = ys)) := by
  unfold F_spec_l1Same
  rw [lim_def] at h
  split
  · rename_i hl
    rw [decide_eq_false]
    rintro rfl; exact hl rfl
  rename_i hl
  have hl : xs.length = ys.length := by omega
  have := loop_find (body := F_spec_l1Same_l1 xs ys) (fun i => (i : Int)) xs.length (fun i => ¬ nth xs i = nth ys i) () () (fun i hi hb => by
    unfold F_spec_l1Same_l1
    rw [if_pos (by omega), ask_pos (by omega), ask_pos (by omega)]
    simp only [Int.toNat_natCast]
    rw [if_neg (by simpa using hb), ask_pos (by unfold InI; omega)]; rfl) (fun i hi hb => by
    unfold F_spec_l1Same_l1
    rw [if_pos (by omega), ask_pos (by omega), ask_pos (by omega)]
    simp only [Int.toNat_natCast]
    rw [if_pos hb]) (by unfold F_spec_l1Same_l1; rw [if_neg (by omega)]) 0 (by omega)
  show ((loopO _ ((0 : Nat) : Int)).bind _) = _
  rw [this]
  by_cases hx : ∃ i, 0 ≤ i ∧ i < xs.length ∧ ¬ nth xs i = nth ys i
  · rw [if_pos hx, decide_eq_false]
    · rfl
    · rintro rfl; obtain ⟨i, _, _, hc⟩ := hx; exact hc rfl
  · rw [if_neg hx, decide_eq_true (nth_ext hl (find_all.1 hx))]
    rfl

theorem put_eq {n : Nat} {S : Nat → Bool} {z k : Nat} (hz : z < n) (hk : k ≤ (sieve n S).length) (h1 : ∀ j, j < k → nth (sieve n S) j < (z : Int)) (h2 : k < (sieve n S).length → (z : Int) < nth (sieve n S) k) :
    (sieve n S).take k ++ [(z : Int)] ++ (sieve n S).drop k = sieve n fun a => decide (S a = true ∨ a = z) := by
  have hr := sieve_rises n S
  have e := List.take_append_drop k (sieve n S)
  refine rises_ext (rises_pw.2 ?_) (sieve_rises _ _) fun x => ?_
  · rw [List.append_assoc, List.pairwise_append]
    have hp := rises_pw.1 hr
    rw [← e, List.pairwise_append] at hp
    have ht : ∀ a ∈ (sieve n S).take k, a < (z : Int) := by
      intro a ha
      obtain ⟨j, hj, rfl⟩ := mem_nth.1 ha
      have hj' : j < k := by rw [List.length_take] at hj; omega
      have := h1 j hj'
      rw [nth_lt hj, List.getElem_take]
      rwa [nth_lt (by omega)] at this
    have hd : ∀ a ∈ (sieve n S).drop k, (z : Int) < a := by
      intro a ha
      obtain ⟨j, hj, rfl⟩ := mem_nth.1 ha
      rw [List.length_drop] at hj
      have h3 := h2 (by omega)
      have h4 : nth ((sieve n S).drop k) j = nth (sieve n S) (k + j) := by
        rw [nth_lt (by rw [List.length_drop]; omega), nth_lt (by omega), List.getElem_drop]
      rw [h4]
      by_cases hj0 : j = 0
      · subst hj0; exact h3
      · have := rises_lt hr (i := k) (j := k + j) (by omega) (by omega); omega
    refine ⟨hp.1, ?_, ?_⟩
    · rw [List.singleton_append, List.pairwise_cons]
      exact ⟨hd, hp.2.1⟩
    · intro a ha b hb
      rcases List.mem_append.1 hb with hb | hb
      · rw [List.mem_singleton.1 hb]; exact ht a ha
      · exact hp.2.2 a ha b hb
  · have hm : x ∈ sieve n S ↔ x ∈ (sieve n S).take k ∨ x ∈ (sieve n S).drop k := by rw [← List.mem_append, e]
    rw [List.mem_append, List.mem_append, List.mem_singleton]
    have : (x ∈ sieve n S ∨ x = (z : Int)) ↔ x ∈ sieve n fun a => decide (S a = true ∨ a = z) := by
      rw [mem_sieve, mem_sieve]
      constructor
      · rintro (⟨i, a, b, rfl⟩ | rfl)
        · exact ⟨i, a, decide_eq_true (.inl b), rfl⟩
        · exact ⟨z, hz, decide_eq_true (.inr rfl), rfl⟩
      · rintro ⟨i, a, b, rfl⟩
        rcases of_decide_eq_true b with c | c
        · exact .inl ⟨i, a, c, rfl⟩
        · exact .inr (by omega)
    rw [← this, hm]
    constructor
    · rintro ((h | h) | h)
      · exact .inl (.inl h)
      · exact .inr h
      · exact .inl (.inr h)
    · rintro ((h | h) | h)
      · exact .inl (.inl h)
      · exact .inr h
      · exact .inl (.inr h)
theorem put_in {n : Nat} {S : Nat → Bool} {z k : Nat} (hk : k < (sieve n S).length) (h : nth (sieve n S) k = (z : Int)) : sieve n S = sieve n fun a => decide (S a = true ∨ a = z) := by
  obtain ⟨i, a, b, c⟩ := mem_sieve.1 (nth_mem hk)
  rw [h] at c
  refine sieve_congr fun j _ => ?_
  by_cases hj : j = z
  · have : j = i := by omega
    subst this
    rw [b]; exact (decide_eq_true (.inl rfl)).symm
  · cases hS : S j <;> simp [hj]

theorem F_marks {n : Nat} (hn : n ≤ LIM) {xs : List Int} (hx : inSize xs n) (hl : xs.length ≤ LIM) : F_impl_marks xs n = some (btab n fun z => decide ((z : Int) ∈ xs)) := by
  unfold F_impl_marks
  have hn' := hn
  rw [lim_def] at hl hn'
  rw [ask_pos (by rw [lim_def]; omega)]
  have key := loop_seq (body := F_impl_marks_l1 xs) (fun i => ((i : Int), btab n fun z => decide ((z : Int) ∈ xs.take i))) xs.length (btab n fun z => decide ((z : Int) ∈ xs)) (fun i hi => by
    unfold F_impl_marks_l1
    dsimp only
    have hc := hx _ (nth_mem hi)
    have hlen := btab_len n fun z => decide ((z : Int) ∈ xs.take i)
    rw [if_pos (by omega), ask_pos (by omega), Int.toNat_natCast, ask_pos (by rw [hlen]; omega), ask_pos (by unfold InI; omega), btab_set (by omega)]
    congr 3
    refine btab_congr fun z _ => ?_
    rw [take_nth hi]
    by_cases hz : z = (nth xs i).toNat
    · rw [if_pos hz]
      refine (decide_eq_true ?_).symm
      rw [List.mem_append, List.mem_singleton]; right; omega
    · rw [if_neg hz, decide_eq_decide, List.mem_append, List.mem_singleton]
      exact ⟨.inl, fun h => h.resolve_right (by omega)⟩) (by
    unfold F_impl_marks_l1
    dsimp only
    rw [if_neg (by omega), List.take_length])
  have e0 : (btab n fun z => decide ((z : Int) ∈ xs.take 0)) = List.replicate n false := by
    rw [btab_false]; exact btab_congr fun z _ => by simp
  simp only [e0] at key
  rw [Int.toNat_natCast]
  show (loopO _ (((0 : Nat) : Int), _)).bind _ = _
  rw [key]; rfl
/-- the meet and the join of two -/
noncomputable abbrev mt (p : SPoset) : Nat → Nat → Nat := inf p.Below.length (below p.Below)
noncomputable abbrev jn (p : SPoset) : Nat → Nat → Nat := inf p.Below.length (opp (below p.Below))
/-- what a list generates -/
noncomputable def gen (p : SPoset) (xs : List Int) : Nat → Bool := closed p.Below.length (mt p) (jn p) fun z => decide ((z : Int) ∈ xs)
theorem inf_comm {n : Nat} {f : Nat → Nat → Bool} (x y : Nat) : inf n f x y = inf n f y x := by
  unfold inf; rw [lo2_comm]
theorem inf_self {n : Nat} {f : Nat → Nat → Bool} (ho : Ord n f) {x : Nat} (hx : x < n) : inf n f x x = x := by
  unfold inf; rw [bnd_self ho hx]; rfl

section
variable {p : SPoset}
/-- whether some of these are new -/
noncomputable def news (T : Nat → Bool) (zs : List Nat) : Bool := decide (∃ z ∈ zs, T z = false)
theorem news_one (T : Nat → Bool) (zs : List Nat) (z : Nat) : (if news T zs = true then true else !addS T zs z) = news T (zs ++ [z]) := by
  by_cases h : ∃ a ∈ zs, T a = false
  · have h1 : news T zs = true := decide_eq_true h
    obtain ⟨a, ha, hb⟩ := h
    have h2 : news T (zs ++ [z]) = true := decide_eq_true ⟨a, List.mem_append_left _ ha, hb⟩
    rw [if_pos h1, h2]
  · have h1 : news T zs = false := decide_eq_false h
    rw [if_neg (by rw [h1]; simp)]
    cases hT : T z with
    | false =>
      have hz : z ∉ zs := fun hm => h ⟨z, hm, hT⟩
      have h2 : news T (zs ++ [z]) = true := decide_eq_true ⟨z, by simp, hT⟩
      have h3 : addS T zs z = false := decide_eq_false (by rw [hT]; simp [hz])
      rw [h2, h3]; rfl
    | true =>
      have h2 : news T (zs ++ [z]) = false := decide_eq_false (by
        rintro ⟨a, ha, hb⟩
        rcases List.mem_append.1 ha with ha | ha
        · exact h ⟨a, ha, hb⟩
        · rw [List.mem_singleton.1 ha, hT] at hb; cases hb)
      have h3 : addS T zs z = true := decide_eq_true (.inl hT)
      rw [h2, h3]; rfl
/-- a sublattice's order, by places -/
noncomputable def subF (p : SPoset) (xs : List Int) (a b : Nat) : Bool := below p.Below (nth xs a).toNat (nth xs b).toNat
end

end Go.Proofs.Ytgjmaofgokgdiaa.Ax
