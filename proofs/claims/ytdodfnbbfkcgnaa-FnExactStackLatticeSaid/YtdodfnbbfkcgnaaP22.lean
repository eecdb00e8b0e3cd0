/-
  Sublattices: what the program and the reference generate.
-/
import Derived.Test.YtdodfnbbfkcgnaaP21
namespace Go.Proofs.Ytdodfnbbfkcgnaa.Ax
open Go Classical

theorem put_eq {n : Nat} {S : Nat → Bool} {z k : Nat} (hz : z < n) (hk : k ≤ (sieve n S).length) (h1 : ∀ j, j < k → nth (sieve n S) j < (z : Int)) (h2 : k < (sieve n S).length → (z : Int) < nth (sieve n S) k) :
    (sieve n S).take k ++ [(z : Int)] ++ (sieve n S).drop k = sieve n fun a => decide (S a = true ∨ a = z) := by
  have hr := sieve_rises n S
  have e := List.take_append_drop k (sieve n S)
  refine rises_ext (rises_pw.2 ?_) (sieve_rises _ _) fun x => ?_
  · rw [List.append_assoc, List.pairwise_append]
    have hp := rises_pw.1 hr
    rw [← e, List.pairwise_append] at hp
    have ht : ∀ a ∈ (sieve n S).take k, a < (z : Int) := by
      intro a ha
      obtain ⟨j, hj, rfl⟩ := mem_nth.1 ha
      have hj' : j < k := by rw [List.length_take] at hj; omega
      have := h1 j hj'
      rw [nth_lt hj, List.getElem_take]
      rwa [nth_lt (by omega)] at this
    have hd : ∀ a ∈ (sieve n S).drop k, (z : Int) < a := by
      intro a ha
      obtain ⟨j, hj, rfl⟩ := mem_nth.1 ha
      rw [List.length_drop] at hj
      have h3 := h2 (by omega)
      have h4 : nth ((sieve n S).drop k) j = nth (sieve n S) (k + j) := by
        rw [nth_lt (by rw [List.length_drop]; omega), nth_lt (by omega), List.getElem_drop]
      rw [h4]
      by_cases hj0 : j = 0
      · subst hj0; exact h3
      · have := rises_lt hr (i := k) (j := k + j) (by omega) (by omega); omega
    refine ⟨hp.1, ?_, ?_⟩
    · rw [List.singleton_append, List.pairwise_cons]
      exact ⟨hd, hp.2.1⟩
    · intro a ha b hb
      rcases List.mem_append.1 hb with hb | hb
      · rw [List.mem_singleton.1 hb]; exact ht a ha
      · exact hp.2.2 a ha b hb
  · have hm : x ∈ sieve n S ↔ x ∈ (sieve n S).take k ∨ x ∈ (sieve n S).drop k := by rw [← List.mem_append, e]
    rw [List.mem_append, List.mem_append, List.mem_singleton]
    have : (x ∈ sieve n S ∨ x = (z : Int)) ↔ x ∈ sieve n fun a => decide (S a = true ∨ a = z) := by
      rw [mem_sieve, mem_sieve]
      constructor
      · rintro (⟨i, a, b, rfl⟩ | rfl)
        · exact ⟨i, a, decide_eq_true (.inl b), rfl⟩
        · exact ⟨z, hz, decide_eq_true (.inr rfl), rfl⟩
      · rintro ⟨i, a, b, rfl⟩
        rcases of_decide_eq_true b with c | c
        · exact .inl ⟨i, a, c, rfl⟩
        · exact .inr (by omega)
    rw [← this, hm]
    constructor
    · rintro ((h | h) | h)
      · exact .inl (.inl h)
      · exact .inr h
      · exact .inl (.inr h)
    · rintro ((h | h) | h)
      · exact .inl (.inl h)
      · exact .inr h
      · exact .inl (.inr h)
theorem put_in {n : Nat} {S : Nat → Bool} {z k : Nat} (hk : k < (sieve n S).length) (h : nth (sieve n S) k = (z : Int)) : sieve n S = sieve n fun a => decide (S a = true ∨ a = z) := by
  obtain ⟨i, a, b, c⟩ := mem_sieve.1 (nth_mem hk)
  rw [h] at c
  refine sieve_congr fun j _ => ?_
  by_cases hj : j = z
  · have : j = i := by omega
    subst this
    rw [b]; exact (decide_eq_true (.inl rfl)).symm
  · cases hS : S j <;> simp [hj]

theorem F_l1Put {n : Nat} (hn : n ≤ 1000) (S : Nat → Bool) {z : Nat} (hz : z < n) : F_spec_l1Put (sieve n S) (z : Int) = some (sieve n fun a => decide (S a = true ∨ a = z)) := by
  unfold F_spec_l1Put
  have hl := sieve_len n S
  rw [show ((0 : Int)) = (((0 : Nat)) : Int) from rfl]
  have key : ∃ k : Nat, k ≤ (sieve n S).length ∧ (∀ j, j < k → nth (sieve n S) j < (z : Int)) ∧ (k < (sieve n S).length → ¬ nth (sieve n S) k < (z : Int)) ∧ loopO (F_spec_l1Put_l1 (sieve n S) (z : Int)) (((0 : Nat)) : Int) = some (k : Int) := by
    rcases loop_pick (body := F_spec_l1Put_l1 (sieve n S) (z : Int)) (fun i => (i : Int)) (sieve n S).length (fun i => ¬ nth (sieve n S) i < (z : Int)) (fun i => (i : Int)) ((sieve n S).length : Int) (fun i hi hh => by
        unfold F_spec_l1Put_l1
        rw [if_pos (by omega), ask_pos (by omega), Int.toNat_natCast, if_pos (Classical.not_not.1 hh), ask_pos (by unfold InI; omega)]; rfl) (fun i hi hh => by
        unfold F_spec_l1Put_l1
        rw [if_pos (by omega), ask_pos (by omega), Int.toNat_natCast, if_neg hh]) (by
        unfold F_spec_l1Put_l1
        rw [if_neg (by omega)]) with ⟨i, hi, hh, hj, e⟩ | ⟨hno, e⟩
    · exact ⟨i, by omega, fun j h => Classical.not_not.1 (hj j h), fun _ => hh, e⟩
    · exact ⟨_, Nat.le_refl _, fun j h => Classical.not_not.1 (hno j h), fun h => absurd h (Nat.lt_irrefl _), e⟩
  obtain ⟨k, hk, h1, h2, e⟩ := key
  rw [e]
  simp only [Option.bind_some]
  have tail : (¬ k < (sieve n S).length ∨ nth (sieve n S) k ≠ (z : Int)) → (ask (0 ≤ (((0 : Nat)) : Int) ∧ (((0 : Nat)) : Int) ≤ (k : Int) ∧ (k : Int) ≤ (((sieve n S).length : Nat) : Int)) <|
      ask ((nilL Int).length + (List.take ((k : Int).toNat - Int.toNat ((((0 : Nat)) : Int))) (List.drop (Int.toNat ((((0 : Nat)) : Int))) (sieve n S))).length ≤ LIM) <|
      ask ((nilL Int ++ List.take ((k : Int).toNat - Int.toNat ((((0 : Nat)) : Int))) (List.drop (Int.toNat ((((0 : Nat)) : Int))) (sieve n S))).length + ([(z : Int)]).length ≤ LIM) <|
      ask (0 ≤ (k : Int) ∧ (k : Int) ≤ ((sieve n S).length : Int) ∧ ((sieve n S).length : Int) ≤ (((sieve n S).length : Nat) : Int)) <|
      ask ((nilL Int ++ List.take ((k : Int).toNat - Int.toNat ((((0 : Nat)) : Int))) (List.drop (Int.toNat ((((0 : Nat)) : Int))) (sieve n S)) ++ [(z : Int)]).length + (List.take (((sieve n S).length : Int).toNat - (k : Int).toNat) (List.drop (k : Int).toNat (sieve n S))).length ≤ LIM) <|
      some (nilL Int ++ List.take ((k : Int).toNat - Int.toNat ((((0 : Nat)) : Int))) (List.drop (Int.toNat ((((0 : Nat)) : Int))) (sieve n S)) ++ [(z : Int)] ++ List.take (((sieve n S).length : Int).toNat - (k : Int).toNat) (List.drop (k : Int).toNat (sieve n S)))) = some (sieve n fun a => decide (S a = true ∨ a = z)) := by
    intro h3
    simp only [Int.toNat_natCast, List.drop_zero, Nat.sub_zero, List.nil_append]
    have ed : List.take ((sieve n S).length - k) (List.drop k (sieve n S)) = List.drop k (sieve n S) := List.take_of_length_le (by rw [List.length_drop]; omega)
    rw [ed]
    have ht : (List.take k (sieve n S)).length ≤ 1000 := by rw [List.length_take]; omega
    have hd : (List.drop k (sieve n S)).length ≤ 1000 := by rw [List.length_drop]; omega
    rw [ask_pos (by omega), ask_pos (by rw [lim_def]; simp only [List.length_nil]; omega), ask_pos (by rw [lim_def]; simp only [List.length_cons, List.length_nil]; omega), ask_pos (by omega), ask_pos (by rw [lim_def]; simp only [List.length_append, List.length_cons, List.length_nil]; omega)]
    rw [put_eq hz hk h1 fun h => by have h4 := h2 h; rcases h3 with h3 | h3 <;> omega]
  by_cases hkl : k < (sieve n S).length
  · rw [if_pos (by omega), ask_pos (by omega), Int.toNat_natCast]
    by_cases hv : nth (sieve n S) k = (z : Int)
    · rw [if_pos hv]
      simp only [Option.bind_some]
      rw [← put_in hkl hv]
    · rw [if_neg hv]
      exact tail (.inr hv)
  · rw [if_neg (by omega)]
    exact tail (.inl hkl)

theorem F_marks {n : Nat} (hn : n ≤ LIM) {xs : List Int} (hx : inSize xs n) (hl : xs.length ≤ LIM) : F_impl_marks xs n = some (btab n fun z => decide ((z : Int) ∈ xs)) := by
  unfold F_impl_marks
  have hn' := hn
  rw [lim_def] at hl hn'
  rw [ask_pos (by rw [lim_def]; omega)]
  have key := loop_seq (body := F_impl_marks_l1 xs) (fun i => ((i : Int), btab n fun z => decide ((z : Int) ∈ xs.take i))) xs.length (btab n fun z => decide ((z : Int) ∈ xs)) (fun i hi => by
    unfold F_impl_marks_l1
    dsimp only
    have hc := hx _ (nth_mem hi)
    have hlen := btab_len n fun z => decide ((z : Int) ∈ xs.take i)
    rw [if_pos (by omega), ask_pos (by omega), Int.toNat_natCast, ask_pos (by rw [hlen]; omega), ask_pos (by unfold InI; omega), btab_set (by omega)]
    congr 3
    refine btab_congr fun z _ => ?_
    rw [take_nth hi]
    by_cases hz : z = (nth xs i).toNat
    · rw [if_pos hz]
      refine (decide_eq_true ?_).symm
      rw [List.mem_append, List.mem_singleton]; right; omega
    · rw [if_neg hz, decide_eq_decide, List.mem_append, List.mem_singleton]
      exact ⟨.inl, fun h => h.resolve_right (by omega)⟩) (by
    unfold F_impl_marks_l1
    dsimp only
    rw [if_neg (by omega), List.take_length])
  have e0 : (btab n fun z => decide ((z : Int) ∈ xs.take 0)) = List.replicate n false := by
    rw [btab_false]; exact btab_congr fun z _ => by simp
  simp only [e0] at key
  rw [Int.toNat_natCast]
  show (loopO _ (((0 : Nat) : Int), _)).bind _ = _
  rw [key]; rfl
theorem F_marked {n : Nat} (hn : n ≤ LIM) (S : Nat → Bool) : F_impl_marked (btab n S) = some (sieve n S) := by
  unfold F_impl_marked
  have hn' := hn
  rw [lim_def] at hn'
  have hl := btab_len n S
  rw [loop_sieve n S (fun i acc hi ha => by
    unfold F_impl_marked_l1
    dsimp only
    rw [if_pos (by omega), ask_pos (by omega), Int.toNat_natCast, btab_at hi]
    by_cases hp : S i = true
    · rw [if_pos hp, if_pos hp, ask_pos (by rw [lim_def]; simp; omega), ask_pos (by unfold InI; omega)]; rfl
    · rw [if_neg hp, if_neg hp, ask_pos (by unfold InI; omega)]; rfl) (fun acc => by
    unfold F_impl_marked_l1
    dsimp only
    rw [if_neg (by omega)])]
  rfl

/-- the meet and the join of two -/
noncomputable abbrev mt (p : SPoset) : Nat → Nat → Nat := inf p.Below.length (below p.Below)
noncomputable abbrev jn (p : SPoset) : Nat → Nat → Nat := inf p.Below.length (opp (below p.Below))
/-- what a list generates -/
noncomputable def gen (p : SPoset) (xs : List Int) : Nat → Bool := closed p.Below.length (mt p) (jn p) fun z => decide ((z : Int) ∈ xs)
theorem inf_comm {n : Nat} {f : Nat → Nat → Bool} (x y : Nat) : inf n f x y = inf n f y x := by
  unfold inf; rw [lo2_comm]
theorem inf_self {n : Nat} {f : Nat → Nat → Bool} (ho : Ord n f) {x : Nat} (hx : x < n) : inf n f x x = x := by
  unfold inf; rw [bnd_self ho hx]; rfl

section
variable {p : SPoset}
theorem F_close2 (hs : small p) (h : isLat p) (T : Nat → Bool) (x8 : Int) {i : Nat} (hi : i < (members p.Below.length T).length) (zs : List Nat) :
    loopO (F_spec_l24Close_l2 p (dualP p) x8 (sieve p.Below.length T) (i : Int)) (0, sieve p.Below.length (addS T zs)) = some (sieve p.Below.length (addS T (zs ++ pairsA (mt p) (jn p) (members p.Below.length T) (nth (members p.Below.length T) i) i))) := by
  obtain ⟨hg, h0, h1, h2⟩ := h
  have h10 : p.Below.length ≤ 10 := hg.1
  have hml : (members p.Below.length T).length = (sieve p.Below.length T).length := members_len
  have hsl := sieve_len p.Below.length T
  have key := loop_seq (body := F_spec_l24Close_l2 p (dualP p) x8 (sieve p.Below.length T) (i : Int)) (fun k => ((k : Int), sieve p.Below.length (addS T (zs ++ pairsA (mt p) (jn p) (members p.Below.length T) (nth (members p.Below.length T) i) k)))) i (sieve p.Below.length (addS T (zs ++ pairsA (mt p) (jn p) (members p.Below.length T) (nth (members p.Below.length T) i) i))) (fun k hk => by
    unfold F_spec_l24Close_l2
    dsimp only
    have hki : k < (members p.Below.length T).length := by omega
    have ha := (members_lt hi).1
    have hb := (members_lt hki).1
    rw [if_pos (by omega)]
    repeat rw [ask_pos (by omega)]
    simp only [Int.toNat_natCast]
    rw [members_nth hi, members_nth hki, F_l24Two hs hg ha hb, bnd_inf h1 ha hb, F_l24TwoD hs hg ha hb, bnd_inf h2 ha hb]
    simp only [Option.bind_some]
    rw [F_l1Put (by omega) _ (inf_lt h1 ha hb), addS_one]
    simp only [Option.bind_some]
    rw [F_l1Put (by omega) _ (inf_lt h2 ha hb), addS_one]
    simp only [Option.bind_some]
    repeat rw [ask_pos (by first | omega | (unfold InI; omega))]
    rw [pairsA_succ, List.append_assoc, List.append_assoc]
    rfl) (by
    unfold F_spec_l24Close_l2
    dsimp only
    rw [if_neg (by omega)])
  have e0 : zs ++ pairsA (mt p) (jn p) (members p.Below.length T) (nth (members p.Below.length T) i) 0 = zs := by simp [pairsA]
  simp only [e0] at key
  exact key
theorem F_close3 (hs : small p) (h : isLat p) (T : Nat → Bool) (x8 : Int) :
    loopO (F_spec_l24Close_l3 p (dualP p) x8 (sieve p.Below.length T)) (0, sieve p.Below.length T) = some (sieve p.Below.length (round p.Below.length (mt p) (jn p) T)) := by
  have hg := h.1
  have h10 : p.Below.length ≤ 10 := hg.1
  have hml : (members p.Below.length T).length = (sieve p.Below.length T).length := members_len
  have hsl := sieve_len p.Below.length T
  have ho := good_ord hg
  rw [← round_allB (fun x hx => inf_self ho hx) (fun x hx => inf_self ho.opp hx) (fun x y _ _ => inf_comm x y) (fun x y _ _ => inf_comm x y)]
  have key := loop_seq (body := F_spec_l24Close_l3 p (dualP p) x8 (sieve p.Below.length T)) (fun i => ((i : Int), sieve p.Below.length (addS T (allB (mt p) (jn p) (members p.Below.length T) i)))) (members p.Below.length T).length (sieve p.Below.length (addS T (allB (mt p) (jn p) (members p.Below.length T) (members p.Below.length T).length))) (fun i hi => by
    unfold F_spec_l24Close_l3
    dsimp only
    rw [if_pos (by omega), F_close2 hs h T x8 hi]
    simp only [Option.bind_some]
    rw [ask_pos (by unfold InI; omega), allB_succ]
    rfl) (by
    unfold F_spec_l24Close_l3
    dsimp only
    rw [if_neg (by omega)])
  have e0 : addS T (allB (mt p) (jn p) (members p.Below.length T) 0) = T := by simp [allB, addS_nil]
  simp only [e0] at key
  exact key
theorem F_l24Close (hs : small p) (h : isLat p) {xs : List Int} (hx : inSize xs p.Below.length) (hl : xs.length ≤ LIM) : F_spec_l24Close p xs = some (sieve p.Below.length (gen p xs)) := by
  have hg := h.1
  have h10 : p.Below.length ≤ 10 := hg.1
  unfold F_spec_l24Close
  have hl' := hl
  rw [lim_def] at hl'
  have key1 := loop_seq (body := F_spec_l24Close_l1 p xs) (fun i => ((i : Int), sieve p.Below.length fun z => decide ((z : Int) ∈ xs.take i))) xs.length (sieve p.Below.length fun z => decide ((z : Int) ∈ xs)) (fun i hi => by
    unfold F_spec_l24Close_l1
    dsimp only
    have hc := hx _ (nth_mem hi)
    have hcc : nth xs i = (((nth xs i).toNat : Nat) : Int) := by omega
    rw [if_pos (by omega), ask_pos (by omega), Int.toNat_natCast, hcc, F_l1Put (by omega) _ (by omega)]
    simp only [Option.bind_some]
    rw [ask_pos (by unfold InI; omega)]
    refine congrArg (fun x => some (Sum.inl (_, x))) (sieve_congr fun z _ => ?_)
    rw [take_nth hi, decide_eq_decide, List.mem_append, List.mem_singleton, decide_eq_true_eq]
    constructor
    · rintro (a | a)
      · exact .inl a
      · right; omega
    · rintro (a | a)
      · exact .inl a
      · right; omega) (by
    unfold F_spec_l24Close_l1
    dsimp only
    rw [if_neg (by omega), List.take_length])
  have e0 : (sieve p.Below.length fun z => decide ((z : Int) ∈ xs.take 0)) = nilL Int := sieve_nil.2 fun z _ => by simp
  simp only [e0] at key1
  have key1' : loopO (F_spec_l24Close_l1 p xs) (0, nilL Int) = _ := key1
  rw [key1', F_l23Dual hs]
  simp only [Option.bind_some]
  have key2 := loop_seq (body := F_spec_l24Close_l4 p (dualP p)) (fun k => ((k : Int), sieve p.Below.length (rounds p.Below.length (mt p) (jn p) (fun z => decide ((z : Int) ∈ xs)) k))) p.Below.length (sieve p.Below.length (gen p xs)) (fun k hk => by
    unfold F_spec_l24Close_l4
    dsimp only
    have hsl := sieve_len p.Below.length (rounds p.Below.length (mt p) (jn p) (fun z => decide ((z : Int) ∈ xs)) k)
    rw [if_pos (by omega), F_own _ (by rw [lim_def]; omega)]
    simp only [Option.bind_some]
    rw [F_close3 hs h]
    simp only [Option.bind_some]
    rw [ask_pos (by unfold InI; omega)]
    rfl) (by
    unfold F_spec_l24Close_l4
    dsimp only
    rw [if_neg (by omega)]
    rfl)
  have key2' : loopO (F_spec_l24Close_l4 p (dualP p)) (0, sieve p.Below.length fun z => decide ((z : Int) ∈ xs)) = _ := key2
  rw [key2']
  rfl

/-- whether some of these are new -/
noncomputable def news (T : Nat → Bool) (zs : List Nat) : Bool := decide (∃ z ∈ zs, T z = false)
theorem news_one (T : Nat → Bool) (zs : List Nat) (z : Nat) : (if news T zs = true then true else !addS T zs z) = news T (zs ++ [z]) := by
  by_cases h : ∃ a ∈ zs, T a = false
  · have h1 : news T zs = true := decide_eq_true h
    obtain ⟨a, ha, hb⟩ := h
    have h2 : news T (zs ++ [z]) = true := decide_eq_true ⟨a, List.mem_append_left _ ha, hb⟩
    rw [if_pos h1, h2]
  · have h1 : news T zs = false := decide_eq_false h
    rw [if_neg (by rw [h1]; simp)]
    cases hT : T z with
    | false =>
      have hz : z ∉ zs := fun hm => h ⟨z, hm, hT⟩
      have h2 : news T (zs ++ [z]) = true := decide_eq_true ⟨z, by simp, hT⟩
      have h3 : addS T zs z = false := decide_eq_false (by rw [hT]; simp [hz])
      rw [h2, h3]; rfl
    | true =>
      have h2 : news T (zs ++ [z]) = false := decide_eq_false (by
        rintro ⟨a, ha, hb⟩
        rcases List.mem_append.1 ha with ha | ha
        · exact h ⟨a, ha, hb⟩
        · rw [List.mem_singleton.1 ha, hT] at hb; cases hb)
      have h3 : addS T zs z = true := decide_eq_true (.inl hT)
      rw [h2, h3]; rfl
theorem F_gen1 (T : Nat → Bool) (l : Slattice) (r3 : List Int) (x26 x32 : Int) {a b : Nat} (_hn : p.Below.length ≤ 10) (ha : a < p.Below.length) (hb : b < p.Below.length)
    (e1 : nth (nth l.meets (nth r3 x26.toNat).toNat) (nth r3 x32.toNat).toNat = (a : Int)) (e2 : nth (nth l.joins (nth r3 x26.toNat).toNat) (nth r3 x32.toNat).toNat = (b : Int)) (zs : List Nat) :
    loopO (F_impl_lattice_generated_l1 l r3 x26 x32) (0, news T zs, btab p.Below.length (addS T zs)) = some (news T (zs ++ [a, b]), btab p.Below.length (addS T (zs ++ [a, b]))) := by
  have step : ∀ (k : Nat) (zs : List Nat) (z : Nat), k < 2 → z < p.Below.length → nth [(a : Int), (b : Int)] k = (z : Int) → F_impl_lattice_generated_l1 l r3 x26 x32 ((k : Int), news T zs, btab p.Below.length (addS T zs)) = some (.inl (((k + 1 : Nat) : Int), news T (zs ++ [z]), btab p.Below.length (addS T (zs ++ [z])))) := by
    intro k zs z hk hz hv
    unfold F_impl_lattice_generated_l1
    dsimp only
    rw [e1, e2]
    have hlen := btab_len p.Below.length (addS T zs)
    have hl2 : ([(a : Int), (b : Int)].length : Int) = 2 := rfl
    rw [hl2, if_pos (by omega), ask_pos (by omega), Int.toNat_natCast, hv]
    have hset : (btab p.Below.length (addS T zs)).set z true = btab p.Below.length (addS T (zs ++ [z])) := by
      rw [btab_set hz]
      refine btab_congr fun y _ => ?_
      rw [← addS_one]
      by_cases hy : y = z
      · rw [if_pos hy]; exact (decide_eq_true (.inr hy)).symm
      · rw [if_neg hy]
        cases hA : addS T zs y <;> simp [hA, hy]
    have hn1 := news_one T zs z
    by_cases hnw : news T zs = true
    · rw [if_pos hnw] at hn1 ⊢
      rw [ask_pos (by omega), ask_pos (by unfold InI; omega), Int.toNat_natCast, hset, ← hn1]; rfl
    · rw [if_neg hnw] at hn1 ⊢
      rw [ask_pos (by omega), ask_pos (by omega), ask_pos (by unfold InI; omega), Int.toNat_natCast, hset, btab_at hz, ← hn1]; rfl
  rw [show ((0 : Int)) = (((0 : Nat)) : Int) from rfl, loopO_next (step 0 zs a (by omega) ha rfl), loopO_next (step 1 (zs ++ [a]) b (by omega) hb rfl)]
  refine loopO_stop ?_
  unfold F_impl_lattice_generated_l1
  dsimp only
  rw [e1, e2]
  have hl2 : ([(a : Int), (b : Int)].length : Int) = 2 := rfl
  rw [hl2, if_neg (by omega), List.append_assoc]
  rfl
theorem F_gen2 (h : isLat p) (T : Nat → Bool) {i : Nat} (hi : i < (members p.Below.length T).length) (zs : List Nat) :
    loopO (F_impl_lattice_generated_l2 (latOf p) (sieve p.Below.length T) (i : Int)) (0, news T zs, btab p.Below.length (addS T zs)) = some (news T (zs ++ pairsA (mt p) (jn p) (members p.Below.length T) (nth (members p.Below.length T) i) (members p.Below.length T).length), btab p.Below.length (addS T (zs ++ pairsA (mt p) (jn p) (members p.Below.length T) (nth (members p.Below.length T) i) (members p.Below.length T).length))) := by
  obtain ⟨hg, h0, h1, h2⟩ := h
  have h10 : p.Below.length ≤ 10 := hg.1
  have hml : (members p.Below.length T).length = (sieve p.Below.length T).length := members_len
  have hsl := sieve_len p.Below.length T
  have key := loop_seq (body := F_impl_lattice_generated_l2 (latOf p) (sieve p.Below.length T) (i : Int)) (fun k => ((k : Int), news T (zs ++ pairsA (mt p) (jn p) (members p.Below.length T) (nth (members p.Below.length T) i) k), btab p.Below.length (addS T (zs ++ pairsA (mt p) (jn p) (members p.Below.length T) (nth (members p.Below.length T) i) k)))) (members p.Below.length T).length (news T (zs ++ pairsA (mt p) (jn p) (members p.Below.length T) (nth (members p.Below.length T) i) (members p.Below.length T).length), btab p.Below.length (addS T (zs ++ pairsA (mt p) (jn p) (members p.Below.length T) (nth (members p.Below.length T) i) (members p.Below.length T).length))) (fun k hk => by
    unfold F_impl_lattice_generated_l2
    dsimp only
    have ha := (members_lt hi).1
    have hb := (members_lt hk).1
    have ei := members_nth hi
    have ek := members_nth hk
    have hlm : (latOf p).meets = mtab p.Below.length (below p.Below) := rfl
    have hlj : (latOf p).joins = mtab p.Below.length (opp (below p.Below)) := rfl
    have hml1 := mtab_len (n := p.Below.length) (f := below p.Below)
    have hml2 := mtab_len (n := p.Below.length) (f := opp (below p.Below))
    have hmr1 := mt_row (g := below p.Below) ha
    have hmr2 := mt_row (g := opp (below p.Below)) ha
    rw [if_pos (by omega), ask_pos (by omega)]
    simp only [Int.toNat_natCast, ei, ek, hlm, hlj, hml1, hml2, hmr1, hmr2]
    rw [ask_pos (by omega), ask_pos (by omega)]
    rw [F_gen1 (p := p) T (latOf p) (sieve p.Below.length T) (i : Int) (k : Int) h10 (inf_lt h1 ha hb) (inf_lt h2 ha hb) (by
      simp only [Int.toNat_natCast, ei, ek, hlm]
      exact mt_at h1 ha hb) (by
      simp only [Int.toNat_natCast, ei, ek, hlj]
      exact mt_at h2 ha hb)]
    simp only [Option.bind_some]
    repeat rw [ask_pos (by first | omega | (unfold InI; omega))]
    rw [pairsA_succ, List.append_assoc]
    rfl) (by
    unfold F_impl_lattice_generated_l2
    dsimp only
    rw [if_neg (by omega)])
  have e0 : zs ++ pairsA (mt p) (jn p) (members p.Below.length T) (nth (members p.Below.length T) i) 0 = zs := by simp [pairsA]
  simp only [e0] at key
  exact key
theorem F_gen3 (h : isLat p) (T : Nat → Bool) : ∃ b, loopO (F_impl_lattice_generated_l3 (latOf p) (sieve p.Below.length T)) (0, false, btab p.Below.length T) = some (b, btab p.Below.length (round p.Below.length (mt p) (jn p) T)) ∧
    (b = false ↔ ∀ z, z < p.Below.length → round p.Below.length (mt p) (jn p) T z = T z) := by
  have h10 : p.Below.length ≤ 10 := h.1.1
  have hml : (members p.Below.length T).length = (sieve p.Below.length T).length := members_len
  have hsl := sieve_len p.Below.length T
  have key := loop_seq (body := F_impl_lattice_generated_l3 (latOf p) (sieve p.Below.length T)) (fun i => ((i : Int), news T (allA (mt p) (jn p) (members p.Below.length T) i), btab p.Below.length (addS T (allA (mt p) (jn p) (members p.Below.length T) i)))) (members p.Below.length T).length (news T (allA (mt p) (jn p) (members p.Below.length T) (members p.Below.length T).length), btab p.Below.length (addS T (allA (mt p) (jn p) (members p.Below.length T) (members p.Below.length T).length))) (fun i hi => by
    unfold F_impl_lattice_generated_l3
    dsimp only
    rw [if_pos (by omega), ask_pos (by omega), F_gen2 h T hi]
    simp only [Option.bind_some]
    rw [ask_pos (by unfold InI; omega), allA_succ]
    rfl) (by
    unfold F_impl_lattice_generated_l3
    dsimp only
    rw [if_neg (by omega)])
  have e0 : addS T (allA (mt p) (jn p) (members p.Below.length T) 0) = T := by simp [allA, addS_nil]
  have e1 : news T (allA (mt p) (jn p) (members p.Below.length T) 0) = false := by simp [allA, news]
  simp only [e0, e1] at key
  rw [round_allA] at key
  refine ⟨_, key, ?_⟩
  unfold news
  rw [decide_eq_false_iff_not]
  constructor
  · intro hno z hz
    rw [← round_allA]
    unfold addS
    cases hT : T z with
    | true => simp
    | false =>
      refine decide_eq_false ?_
      rintro (a | a)
      · cases a
      · exact hno ⟨z, a, hT⟩
  · rintro hall ⟨z, hz, hT⟩
    have hzn : z < p.Below.length := by
      obtain ⟨a, b, ha, hb, c⟩ := mem_allA.1 hz
      obtain ⟨_, _, h1, h2⟩ := h
      rcases c with c | c
      · rw [c]; exact inf_lt h1 (members_lt ha).1 (members_lt hb).1
      · rw [c]; exact inf_lt h2 (members_lt ha).1 (members_lt hb).1
    have := hall z hzn
    rw [hT, ← round_allA] at this
    have h3 : addS T (allA (mt p) (jn p) (members p.Below.length T) (members p.Below.length T).length) z = true := decide_eq_true (.inr hz)
    rw [this] at h3; cases h3
theorem F_generated (h : isLat p) {xs : List Int} (hx : inSize xs p.Below.length) (hl : xs.length ≤ LIM) : F_impl_lattice_generated (latOf p) xs = some (sieve p.Below.length (gen p xs)) := by
  have h10 : p.Below.length ≤ 10 := h.1.1
  have hL : p.Below.length ≤ LIM := by rw [lim_def]; omega
  unfold F_impl_lattice_generated
  have htl := tab_len p.Below.length (below p.Below)
  rw [latOf_order, htl, F_marks hL hx hl]
  simp only [Option.bind_some]
  obtain ⟨k0, hk0, hst, hmin⟩ := first_ex (n := p.Below.length + 1) (still_ex (n := p.Below.length) (g := mt p) (h := jn p) (S := fun z => decide ((z : Int) ∈ xs)))
  have step : ∀ k, ∃ b, F_impl_lattice_generated_l4 (latOf p) (true, btab p.Below.length (rounds p.Below.length (mt p) (jn p) (fun z => decide ((z : Int) ∈ xs)) k)) = some (.inl (b, btab p.Below.length (rounds p.Below.length (mt p) (jn p) (fun z => decide ((z : Int) ∈ xs)) (k + 1)))) ∧ (b = false ↔ still p.Below.length (mt p) (jn p) (fun z => decide ((z : Int) ∈ xs)) k) := by
    intro k
    obtain ⟨b, e, hb⟩ := F_gen3 h (rounds p.Below.length (mt p) (jn p) (fun z => decide ((z : Int) ∈ xs)) k)
    refine ⟨b, ?_, hb⟩
    unfold F_impl_lattice_generated_l4
    dsimp only
    rw [if_pos rfl, F_marked hL]
    simp only [Option.bind_some]
    rw [e]
    rfl
  have key : ∀ k, k ≤ k0 → loopO (F_impl_lattice_generated_l4 (latOf p)) (true, btab p.Below.length (fun z => decide ((z : Int) ∈ xs))) = loopO (F_impl_lattice_generated_l4 (latOf p)) (true, btab p.Below.length (rounds p.Below.length (mt p) (jn p) (fun z => decide ((z : Int) ∈ xs)) k)) := by
    intro k
    induction k with
    | zero => intro _; rfl
    | succ k ih =>
      intro hk
      obtain ⟨b, e, hb⟩ := step k
      have : b = true := by
        cases b with
        | true => rfl
        | false => exact absurd (hb.1 rfl) (hmin k (by omega))
      rw [ih (by omega), loopO_next e, this]
  obtain ⟨b, e, hb⟩ := step k0
  have hbf := hb.2 hst
  subst hbf
  have hstop : loopO (F_impl_lattice_generated_l4 (latOf p)) (false, btab p.Below.length (rounds p.Below.length (mt p) (jn p) (fun z => decide ((z : Int) ∈ xs)) (k0 + 1))) = some (btab p.Below.length (rounds p.Below.length (mt p) (jn p) (fun z => decide ((z : Int) ∈ xs)) (k0 + 1))) := loopO_stop (by
    unfold F_impl_lattice_generated_l4
    dsimp only
    rw [if_neg (by simp)])
  rw [key k0 (Nat.le_refl _), loopO_next e, hstop]
  simp only [Option.bind_some]
  rw [F_marked hL]
  simp only [Option.bind_some]
  refine congrArg some (sieve_congr fun z hz => ?_)
  unfold gen
  rw [hst z hz, closed_of hst hk0 z hz]

/-- a sublattice's order, by places -/
noncomputable def subF (p : SPoset) (xs : List Int) (a b : Nat) : Bool := below p.Below (nth xs a).toNat (nth xs b).toNat
end

end Go.Proofs.Ytdodfnbbfkcgnaa.Ax
