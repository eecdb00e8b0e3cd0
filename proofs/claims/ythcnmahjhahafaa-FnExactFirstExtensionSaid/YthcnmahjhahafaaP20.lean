/-
  The first linear extension.
-/
import Derived.Test.YthcnmahjhahafaaP19
namespace Go.Proofs.Ythcnmahjhahafaa.Ax
open Go Classical

theorem F_hasNot (xs : List Int) (x : Int) (h : xs.length ≤ LIM) : F_impl_hasNot xs x = some (decide (x ∉ xs)) := by
  unfold F_impl_hasNot
  rw [lim_def] at h
  rw [show ((0 : Int)) = (((0 : Nat)) : Int) from rfl]
  rcases loop_pick (body := F_impl_hasNot_l1 xs x) (fun i => (i : Int)) xs.length (fun i => x = nth xs i) (fun _ => .inl ()) (.inr ()) (fun i hi hh => by
      unfold F_impl_hasNot_l1
      rw [if_pos (by omega), ask_pos (by omega), Int.toNat_natCast, if_neg hh, ask_pos (by unfold InI; omega)]; rfl) (fun i hi hh => by
      unfold F_impl_hasNot_l1
      rw [if_pos (by omega), ask_pos (by omega), Int.toNat_natCast, if_pos hh]) (by
      unfold F_impl_hasNot_l1
      rw [if_neg (by omega)]) with ⟨i, hi, hh, _, e⟩ | ⟨hn, e⟩
  · rw [e, decide_eq_false (fun hc => hc (by rw [hh]; exact nth_mem hi))]; rfl
  · rw [e]
    have : decide (x ∉ xs) = true := decide_eq_true (fun hc => by
      obtain ⟨i, hi, hx⟩ := mem_nth.1 hc
      exact hn i hi hx.symm)
    rw [this]; rfl
theorem F_own (xs : List Int) (h : xs.length ≤ LIM) : F_spec_l1Own xs = some xs := by
  unfold F_spec_l1Own
  rw [ask_pos (by simp [nilL]; exact h)]
  rfl

theorem sieve_le {q q' : Nat → Bool} : ∀ (n : Nat), (∀ i, i < n → q i = true → q' i = true) → (sieve n q).length ≤ (sieve n q').length := by
  intro n
  induction n with
  | zero => intro _; simp [sieve]
  | succ n ih =>
    intro h
    have := ih fun i hi => h i (by omega)
    rw [sieve_succ, sieve_succ]
    by_cases hq : q n = true
    · rw [if_pos hq, if_pos (h n (by omega) hq), List.length_append, List.length_append]; simp; omega
    · rw [if_neg hq]
      split
      · rw [List.length_append]; omega
      · exact this
theorem sieve_lt {q q' : Nat → Bool} {x : Nat} (hx : q x = false) (hx' : q' x = true) : ∀ (n : Nat), x < n → (∀ i, i < n → q i = true → q' i = true) → (sieve n q).length < (sieve n q').length := by
  intro n
  induction n with
  | zero => intro h _; omega
  | succ n ih =>
    intro hn h
    rw [sieve_succ, sieve_succ]
    by_cases hxn : x = n
    · subst hxn
      have := sieve_le x fun i hi => h i (by omega)
      rw [hx, hx', if_neg (by simp), if_pos rfl, List.length_append]; simp; omega
    · have := ih (by omega) fun i hi => h i (by omega)
      by_cases hq : q n = true
      · rw [if_pos hq, if_pos (h n (by omega) hq), List.length_append, List.length_append]; simp; omega
      · rw [if_neg hq]
        split
        · rw [List.length_append]; omega
        · exact this
theorem sieve_all (n : Nat) : (sieve n fun _ => true).length = n := by
  induction n with
  | zero => rfl
  | succ n ih => rw [sieve_succ, if_pos rfl, List.length_append, ih]; rfl

section
variable {n : Nat} {f : Nat → Nat → Bool}
/-- whether x may come next -/
def pick (n : Nat) (f : Nat → Nat → Bool) (ls : List Int) (x : Nat) : Prop := (x : Int) ∉ ls ∧ ∀ y, y < n → y ≠ x → f y x = true → (y : Int) ∈ ls
theorem pick_ex (ho : Ord n f) (ls : List Int) (h : ∃ x, x < n ∧ (x : Int) ∉ ls) : ∃ x, x < n ∧ pick n f ls x := by
  have key : ∀ c x, x < n → (x : Int) ∉ ls → (sieve n fun y => f y x).length ≤ c → ∃ x, x < n ∧ pick n f ls x := by
    intro c
    induction c with
    | zero =>
      intro x hx _ hc
      have : (x : Int) ∈ sieve n fun y => f y x := mem_sieve.2 ⟨x, hx, ho.refl x hx, rfl⟩
      rw [List.length_eq_zero_iff.1 (Nat.le_zero.1 hc)] at this; cases this
    | succ c ih =>
      intro x hx hl hc
      by_cases hp : pick n f ls x
      · exact ⟨x, hx, hp⟩
      · have : ∃ y, y < n ∧ y ≠ x ∧ f y x = true ∧ (y : Int) ∉ ls := by
          apply Classical.byContradiction
          intro hno
          exact hp ⟨hl, fun y hy hyx hf => Classical.byContradiction fun hm => hno ⟨y, hy, hyx, hf, hm⟩⟩
        obtain ⟨y, hy, hyx, hf, hm⟩ := this
        have hlt : (sieve n fun z => f z y).length < (sieve n fun z => f z x).length := by
          refine sieve_lt (q := fun z => f z y) (q' := fun z => f z x) (x := x) ?_ (ho.refl x hx) n hx fun z hz hzy => ho.trans z y x hz hy hx hzy hf
          cases hxy : f x y with
          | false => rfl
          | true => exact absurd (ho.anti y x hy hx hf hxy) hyx
        exact ih y hy hm (by omega)
  obtain ⟨x, hx, hl⟩ := h
  exact key _ x hx hl (Nat.le_refl _)
theorem first_ex {p : Nat → Prop} (h : ∃ x, x < n ∧ p x) : ∃ x, x < n ∧ p x ∧ ∀ j, j < x → ¬ p j := by
  obtain ⟨x, hx, hp⟩ := h
  have key : ∀ m x, x ≤ m → x < n → p x → ∃ x, x < n ∧ p x ∧ ∀ j, j < x → ¬ p j := by
    intro m
    induction m with
    | zero => intro x h1 h2 h3; exact ⟨x, h2, h3, fun j hj => by omega⟩
    | succ m ih =>
      intro x h1 h2 h3
      by_cases hy : ∃ j, j < x ∧ p j
      · obtain ⟨j, h4, h5⟩ := hy
        exact ih j (by omega) (by omega) h5
      · exact ⟨x, h2, h3, fun j hj hh => hy ⟨j, hj, hh⟩⟩
  exact key x x (Nat.le_refl _) hx hp
noncomputable def nextX (n : Nat) (f : Nat → Nat → Bool) (ls : List Int) : Nat := if h : ∃ x, x < n ∧ pick n f ls x ∧ ∀ j, j < x → ¬ pick n f ls j then Classical.choose h else 0
theorem nextX_spec (ho : Ord n f) {ls : List Int} (h : ∃ x, x < n ∧ (x : Int) ∉ ls) : nextX n f ls < n ∧ pick n f ls (nextX n f ls) ∧ ∀ j, j < nextX n f ls → ¬ pick n f ls j := by
  have hx := first_ex (pick_ex ho ls h)
  unfold nextX
  rw [dif_pos hx]
  exact Classical.choose_spec hx
noncomputable def extN (n : Nat) (f : Nat → Nat → Bool) : Nat → List Int
  | 0 => []
  | k + 1 => extN n f k ++ [(nextX n f (extN n f k) : Int)]
theorem extN_len (k : Nat) : (extN n f k).length = k := by
  induction k with
  | zero => rfl
  | succ k ih => simp [extN, ih]
theorem extN_ok (ho : Ord n f) : ∀ k, k ≤ n → inSize (extN n f k) n ∧ (sieve n fun i => decide ((i : Int) ∈ extN n f k)).length = k := by
  intro k
  induction k with
  | zero =>
    intro _
    refine ⟨fun x hx => (by cases hx), ?_⟩
    rw [List.length_eq_zero_iff]
    exact sieve_nil.2 fun i _ => by simp [extN]
  | succ k ih =>
    intro hk
    obtain ⟨h1, h2⟩ := ih (by omega)
    have hex : ∃ x, x < n ∧ (x : Int) ∉ extN n f k := by
      apply Classical.byContradiction
      intro hno
      have : (sieve n fun _ => true).length ≤ (sieve n fun i => decide ((i : Int) ∈ extN n f k)).length := sieve_le n fun i hi _ => decide_eq_true (Classical.byContradiction fun hm => hno ⟨i, hi, hm⟩)
      rw [sieve_all, h2] at this; omega
    obtain ⟨a1, a2, _⟩ := nextX_spec ho hex
    refine ⟨fun x hx => ?_, ?_⟩
    · simp only [extN] at hx
      rcases List.mem_append.1 hx with hx | hx
      · exact h1 x hx
      · simp only [List.mem_singleton] at hx; subst hx; omega
    · have := sieve_one (q := fun i => decide ((i : Int) ∈ extN n f k)) (q' := fun i => decide ((i : Int) ∈ extN n f (k + 1))) (x := nextX n f (extN n f k)) (decide_eq_false a2.1) (fun i => by
        simp only [extN]
        rw [Bool.eq_iff_iff]
        simp only [decide_eq_true_eq, List.mem_append, List.mem_singleton, Bool.or_eq_true]
        constructor
        · rintro (h | h)
          · exact .inl h
          · exact .inr (by omega)
        · rintro (h | h)
          · exact .inl h
          · exact .inr (by omega)) n
      rw [this, h2, if_pos a1]
theorem extN_next (ho : Ord n f) {k : Nat} (hk : k < n) : nextX n f (extN n f k) < n ∧ pick n f (extN n f k) (nextX n f (extN n f k)) ∧ ∀ j, j < nextX n f (extN n f k) → ¬ pick n f (extN n f k) j := by
  obtain ⟨_, h2⟩ := extN_ok ho k (by omega)
  refine nextX_spec ho ?_
  apply Classical.byContradiction
  intro hno
  have : (sieve n fun _ => true).length ≤ (sieve n fun i => decide ((i : Int) ∈ extN n f k)).length := sieve_le n fun i hi _ => decide_eq_true (Classical.byContradiction fun hm => hno ⟨i, hi, hm⟩)
  rw [sieve_all, h2] at this; omega
end

section
variable {p : SPoset}
theorem F_firstX (hs : small p) (hg : good p.Below) {k : Nat} (hk : k < p.Below.length) : loopO (F_spec_l23First_l1 p (extN p.Below.length (below p.Below) k)) 0 = some (nextX p.Below.length (below p.Below) (extN p.Below.length (below p.Below) k) : Int) := by
  have h10 : p.Below.length ≤ 10 := hg.1
  have ho := good_ord hg
  have hl := extN_len (n := p.Below.length) (f := below p.Below) k
  obtain ⟨a1, a2, a3⟩ := extN_next ho hk
  generalize extN p.Below.length (below p.Below) k = ls at hl a1 a2 a3
  generalize nextX p.Below.length (below p.Below) ls = x0 at a1 a2 a3
  have hL : ls.length ≤ LIM := by rw [lim_def]; omega
  have hw : ∀ x, x < p.Below.length → (x : Int) ∉ ls → ((∀ y ∈ nth p.Below x, y ∈ ls ++ [(x : Int)]) ↔ pick p.Below.length (below p.Below) ls x) := by
    intro x hx hm
    have hrow := (good_row hg x hx).2
    constructor
    · intro h
      refine ⟨hm, fun y hy hyx hf => ?_⟩
      have := h (y : Int) ((mem_below y x).2 hf)
      rcases List.mem_append.1 this with h1 | h1
      · exact h1
      · simp only [List.mem_singleton] at h1; omega
    · rintro ⟨_, h⟩ y hy
      have hyr := hrow y hy
      by_cases hyx : y = (x : Int)
      · rw [hyx]; simp
      · refine List.mem_append_left _ ?_
        have hc : y = ((y.toNat : Nat) : Int) := by omega
        rw [hc]
        exact h y.toNat (by omega) (by omega) ((mem_below _ _).1 (by rw [← hc]; exact hy))
  have step : ∀ x, x < p.Below.length → F_spec_l23First_l1 p ls (x : Int) = if pick p.Below.length (below p.Below) ls x then some (.inr (x : Int)) else some (.inl (((x + 1 : Nat)) : Int)) := by
    intro x hx
    unfold F_spec_l23First_l1
    rw [F_l1Has _ _ hL]
    simp only [Option.bind_some]
    by_cases hm : (x : Int) ∈ ls
    · rw [decide_eq_true hm, if_pos rfl, ask_pos (by unfold InI; omega), if_neg (fun hc => hc.1 hm)]; rfl
    · rw [decide_eq_false hm, if_neg (by simp), ask_pos (by omega), F_own ls hL]
      simp only [Option.bind_some]
      rw [ask_pos (by rw [lim_def]; simp; omega), Int.toNat_natCast, F_l5Within _ _ (hs.2 _ (nth_mem hx)) (by rw [lim_def]; simp; omega)]
      simp only [Option.bind_some]
      by_cases hp : pick p.Below.length (below p.Below) ls x
      · rw [decide_eq_true ((hw x hx hm).2 hp), if_pos rfl, if_pos hp]
      · rw [decide_eq_false (fun hc => hp ((hw x hx hm).1 hc)), if_neg (by simp), if_neg hp, ask_pos (by unfold InI; omega)]; rfl
  exact loop_seq (body := F_spec_l23First_l1 p ls) (fun x => (x : Int)) x0 (x0 : Int) (fun x hx => by
    rw [step x (by omega), if_neg (a3 x hx)]) (by rw [step x0 a1, if_pos a2])
theorem F_specFirst (hs : small p) (hg : good p.Below) : F_spec_l23First p = some (extN p.Below.length (below p.Below) p.Below.length) := by
  have h10 : p.Below.length ≤ 10 := hg.1
  unfold F_spec_l23First
  have key : loopO (F_spec_l23First_l2 p) (extN p.Below.length (below p.Below) 0) = some (extN p.Below.length (below p.Below) p.Below.length) :=
    loop_seq (body := F_spec_l23First_l2 p) (fun k => extN p.Below.length (below p.Below) k) p.Below.length _ (fun k hk => by
      unfold F_spec_l23First_l2
      have hl := extN_len (n := p.Below.length) (f := below p.Below) k
      rw [if_pos (by omega), F_firstX hs hg hk]
      simp only [Option.bind_some]
      rw [ask_pos (by rw [lim_def]; simp; omega)]
      rfl) (by
      unfold F_spec_l23First_l2
      have hl := extN_len (n := p.Below.length) (f := below p.Below) p.Below.length
      rw [if_neg (by omega)])
  rw [show nilL Int = extN p.Below.length (below p.Below) 0 from rfl, key]; rfl

theorem F_implX (hg : good p.Below) (b : Bool) {k : Nat} (hk : k < p.Below.length) : loopO (F_impl_FirstExtension_l1 (tab p.Below.length (below p.Below), b) (extN p.Below.length (below p.Below) k)) 0 = some (extN p.Below.length (below p.Below) (k + 1)) := by
  have h10 : p.Below.length ≤ 10 := hg.1
  have hLn : p.Below.length ≤ LIM := by rw [lim_def]; omega
  have ho := good_ord hg
  have htl := tab_len p.Below.length (below p.Below)
  have hl := extN_len (n := p.Below.length) (f := below p.Below) k
  obtain ⟨a1, a2, a3⟩ := extN_next ho hk
  simp only [extN]
  generalize extN p.Below.length (below p.Below) k = ls at hl a1 a2 a3
  generalize nextX p.Below.length (below p.Below) ls = x0 at a1 a2 a3
  have hL : ls.length ≤ LIM := by rw [lim_def]; omega
  have step : ∀ x, x < p.Below.length → F_impl_FirstExtension_l1 (tab p.Below.length (below p.Below), b) ls (x : Int) = if pick p.Below.length (below p.Below) ls x then some (.inr (ls ++ [(x : Int)])) else some (.inl (((x + 1 : Nat)) : Int)) := by
    intro x hx
    unfold F_impl_FirstExtension_l1
    dsimp only
    rw [if_pos (by omega), F_hasNot _ _ hL]
    simp only [Option.bind_some]
    by_cases hm : (x : Int) ∈ ls
    · rw [decide_eq_false (fun hc => hc hm), if_neg (by simp), ask_pos (by unfold InI; omega), if_neg (fun hc => hc.1 hm)]; rfl
    · rw [decide_eq_true hm, if_pos rfl, F_none (n := p.Below.length) (p := fun y => (decide (y ≠ x) && below p.Below y x) && decide ((y : Int) ∉ ls)) htl hLn (fun y hy => by
        unfold F_impl_FirstExtension_1
        rw [F_less _ _ y x hy hx]
        simp only [Option.bind_some]
        by_cases hlt : (decide (y ≠ x) && below p.Below y x) = true
        · rw [if_pos hlt, F_hasNot _ _ hL, hlt]; simp
        · rw [if_neg hlt]
          have : (decide (y ≠ x) && below p.Below y x) = false := by simpa using hlt
          rw [this]; rfl)]
      simp only [Option.bind_some]
      have hiff : (∀ i, i < p.Below.length → ((decide (i ≠ x) && below p.Below i x) && decide ((i : Int) ∉ ls)) = false) ↔ pick p.Below.length (below p.Below) ls x := by
        constructor
        · intro h
          refine ⟨hm, fun y hy hyx hf => ?_⟩
          have := h y hy
          rw [decide_eq_true hyx, hf] at this
          simpa using this
        · rintro ⟨_, h⟩ y hy
          by_cases hyx : y ≠ x
          · cases hf : below p.Below y x
            · simp
            · have := h y hy hyx hf
              simp [this]
          · simp [hyx]
      by_cases hp : pick p.Below.length (below p.Below) ls x
      · rw [decide_eq_true (hiff.2 hp), if_pos rfl, ask_pos (by rw [lim_def]; simp; omega), if_pos hp]
      · rw [decide_eq_false (fun hc => hp (hiff.1 hc)), if_neg (by simp), ask_pos (by unfold InI; omega), if_neg hp]; rfl
  exact loop_seq (body := F_impl_FirstExtension_l1 (tab p.Below.length (below p.Below), b) ls) (fun x => (x : Int)) x0 (ls ++ [(x0 : Int)]) (fun x hx => by
    rw [step x (by omega), if_neg (a3 x hx)]) (by rw [step x0 a1, if_pos a2])
theorem both_FirstExtension (hs : small p) : ∃ r, F_spec_FirstExtension p = some r ∧ F_impl_FirstExtension p = some r ∧ r.1.length ≤ LIM := by
  unfold F_spec_FirstExtension F_impl_FirstExtension
  rw [F_l23Good p hs.1 hs.2]
  simp only [Option.bind_some]
  by_cases hg : good p.Below
  · have h10 : p.Below.length ≤ 10 := hg.1
    have htl := tab_len p.Below.length (below p.Below)
    rw [order_good p hs.1 hs.2 hg, decide_eq_true hg]
    simp only [Option.bind_some, if_true]
    have key : loopO (F_impl_FirstExtension_l2 (tab p.Below.length (below p.Below), true)) (extN p.Below.length (below p.Below) 0) = some (extN p.Below.length (below p.Below) p.Below.length) :=
      loop_seq (body := F_impl_FirstExtension_l2 (tab p.Below.length (below p.Below), true)) (fun k => extN p.Below.length (below p.Below) k) p.Below.length _ (fun k hk => by
        unfold F_impl_FirstExtension_l2
        have hl := extN_len (n := p.Below.length) (f := below p.Below) k
        dsimp only
        rw [if_pos (by omega), F_implX hg true hk]
        rfl) (by
        unfold F_impl_FirstExtension_l2
        have hl := extN_len (n := p.Below.length) (f := below p.Below) p.Below.length
        dsimp only
        rw [if_neg (by omega)])
    rw [F_specFirst hs hg, show nilL Int = extN p.Below.length (below p.Below) 0 from rfl, key]
    have := extN_len (n := p.Below.length) (f := below p.Below) p.Below.length
    refine ⟨_, rfl, rfl, ?_⟩
    dsimp only
    rw [lim_def]; omega
  · obtain ⟨o, e⟩ := order_bad p hs.1 hs.2 hg
    rw [e, decide_eq_false hg]
    exact ⟨([], false), by simp, by simp, by simp⟩
end

end Go.Proofs.Ythcnmahjhahafaa.Ax
