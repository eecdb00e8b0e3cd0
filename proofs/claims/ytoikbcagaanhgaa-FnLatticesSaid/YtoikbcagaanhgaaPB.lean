/-
  Plain facts, joined.
-/
import Derived.Test.YtoikbcagaanhgaaPA
namespace Go.Proofs.Ytoikbcagaanhgaa.Ax
open Go Classical
def bitB (m i : Nat) : Bool := decide (m / 2 ^ i % 2 = 1)
def anti (f : Nat → Nat → Bool) (ls : List Int) : Prop := ∀ x ∈ ls, ∀ y ∈ ls, ¬ (x.toNat ≠ y.toNat ∧ f x.toNat y.toNat = true)
theorem sieve_in (n : Nat) (q : Nat → Bool) : inSize (sieve n q) n := by
  intro x hx
  obtain ⟨z, h1, _, rfl⟩ := mem_sieve.1 hx
  omega
section
variable {p : SPoset}
end
end Go.Proofs.Ytoikbcagaanhgaa.Ax
namespace Go.Proofs.Ytoikbcagaanhgaa.Ax
open Go Classical
def add1 (m x : Nat) : Nat := m ||| 2 ^ x
def pc (n m : Nat) : Nat := (sieve n (bitB m)).length
def wt (n m : Nat) : Nat := 10 ^ (10 - pc n m)
def phi (n : Nat) (ws : List Int) : Nat → Nat → Int
  | _, 0 => 0
  | M, k + 1 => nth ws M * wt n M + phi n ws (M + 1) k
section
variable {n : Nat} {f : Nat → Nat → Bool}
noncomputable def freeB (n : Nat) (f : Nat → Nat → Bool) (m x : Nat) : Bool := decide (bitB m x = false ∧ ∀ y, y < n → y ≠ x → f y x = true → bitB m y = true)
noncomputable def addx (n : Nat) (f : Nat → Nat → Bool) (m x : Nat) (ws : List Int) : List Int := if ¬ nth ws m = 0 ∧ freeB n f m x = true then ws.set (add1 m x) (nth ws (add1 m x) + nth ws m) else ws
noncomputable def inn (n : Nat) (f : Nat → Nat → Bool) (m : Nat) (ws : List Int) : Nat → List Int
  | 0 => ws
  | x + 1 => addx n f m x (inn n f m ws x)
structure okW (n m : Nat) (ws : List Int) : Prop where
  len : ws.length = 2 ^ n
  pos : ∀ i, i < ws.length → 0 ≤ nth ws i
  sum : phi n ws m (2 ^ n - m) ≤ 10000000000
end
section
variable {p : SPoset}
end
end Go.Proofs.Ytoikbcagaanhgaa.Ax
namespace Go.Proofs.Ytoikbcagaanhgaa.Ax
open Go Classical
def dg (i : Nat) : Nat → Nat → Bool := fun a b => decide (a = b ∧ a < i)
def tset (f : Nat → Nat → Bool) (x y : Nat) (v : Bool) : Nat → Nat → Bool := fun a b => if a = x ∧ b = y then v else f a b
theorem tab_tset (n : Nat) (f : Nat → Nat → Bool) (x y : Nat) (v : Bool) (hx : x < n) (hy : y < n) : (tab n f).set x ((nth (tab n f) x).set y v) = tab n (tset f x y v) := tab_set n f x y v hx hy
def pset (f : Nat → Nat → Bool) (ps : List (Int × Int)) : Nat → Nat → Nat → Bool
  | 0 => f
  | k + 1 => tset (pset f ps k) (nth ps k).1.toNat (nth ps k).2.toNat true
def wy (f : Nat → Nat → Bool) (z x : Nat) : Nat → Nat → Nat → Bool
  | 0 => f
  | y + 1 => tset (wy f z x y) x y (wy f z x y x y || (wy f z x y x z && wy f z x y z y))
def wx (n : Nat) (f : Nat → Nat → Bool) (z : Nat) : Nat → Nat → Nat → Bool
  | 0 => f
  | x + 1 => wy (wx n f z x) z x n
def wz (n : Nat) (f : Nat → Nat → Bool) : Nat → Nat → Nat → Bool
  | 0 => f
  | z + 1 => wx n (wz n f z) z n
def okPair (n : Nat) (p : Int × Int) : Prop := ((0 ≤ p.1 ∧ p.1 < n) ∧ 0 ≤ p.2 ∧ p.2 < n) ∧ p.1 ≠ p.2
def ways (n : Nat) (ps : List (Int × Int)) : Nat → Nat → Bool := wz n (pset (dg n) ps ps.length) n
section
variable {n : Nat} {ps : List (Int × Int)}
theorem way_step {f : Nat → Nat → Bool} {z x y : Nat} (hz : z < n) (hx : x < n) (hy : y < n) (h10 : n ≤ 10) {α : Type} (k : List (List Bool) → Option α) :
    (ask (0 ≤ (x : Int) ∧ (x : Int) < (tab n f).length) <|
    ask (0 ≤ (x : Int) ∧ (x : Int) < (tab n f).length) <|
    ask (0 ≤ (y : Int) ∧ (y : Int) < (nth (tab n f) ((x : Int)).toNat).length) <|
    if (nth (nth (tab n f) ((x : Int)).toNat) ((y : Int)).toNat) = true then
     ask (0 ≤ (y : Int) ∧ (y : Int) < (nth (tab n f) ((x : Int)).toNat).length) <|
     ask (InI ((y : Int) + 1)) <|
     k ((tab n f).set ((x : Int)).toNat ((nth (tab n f) ((x : Int)).toNat).set ((y : Int)).toNat true))
    else
     ask (0 ≤ (x : Int) ∧ (x : Int) < (tab n f).length) <|
     ask (0 ≤ (z : Int) ∧ (z : Int) < (nth (tab n f) ((x : Int)).toNat).length) <|
     if (nth (nth (tab n f) ((x : Int)).toNat) ((z : Int)).toNat) = true then
      ask (0 ≤ (z : Int) ∧ (z : Int) < (tab n f).length) <|
      ask (0 ≤ (y : Int) ∧ (y : Int) < (nth (tab n f) ((z : Int)).toNat).length) <|
      ask (0 ≤ (y : Int) ∧ (y : Int) < (nth (tab n f) ((x : Int)).toNat).length) <|
      ask (InI ((y : Int) + 1)) <|
      k ((tab n f).set ((x : Int)).toNat ((nth (tab n f) ((x : Int)).toNat).set ((y : Int)).toNat (nth (nth (tab n f) ((z : Int)).toNat) ((y : Int)).toNat)))
     else
      ask (0 ≤ (y : Int) ∧ (y : Int) < (nth (tab n f) ((x : Int)).toNat).length) <|
      ask (InI ((y : Int) + 1)) <|
      k ((tab n f).set ((x : Int)).toNat ((nth (tab n f) ((x : Int)).toNat).set ((y : Int)).toNat false))) = k (tab n (tset f x y (f x y || (f x z && f z y)))) := by
  have h1 := tab_len n f
  have h2 := tab_row_len n f x hx
  have h3 := tab_row_len n f z hz
  simp only [Int.toNat_natCast, h1, h2, h3, tab_at n f x y hx hy, tab_at n f x z hx hz, tab_at n f z y hz hy]
  repeat rw [ask_pos (by first | omega | (unfold InI; omega))]
  cases hxy : f x y
  · simp only [Bool.false_eq_true, if_false, Bool.false_or]
    cases hxz : f x z
    · simp only [Bool.false_eq_true, if_false, Bool.false_and]
      repeat rw [ask_pos (by first | omega | (unfold InI; omega))]
      rw [tab_tset n f x y false hx hy]
    · simp only [if_true, Bool.true_and]
      repeat rw [ask_pos (by first | omega | (unfold InI; omega))]
      rw [tab_tset n f x y _ hx hy]
  · simp only [if_true, Bool.true_or]
    repeat rw [ask_pos (by first | omega | (unfold InI; omega))]
    rw [tab_tset n f x y true hx hy]
theorem F_fromY (h10 : n ≤ 10) (f : Nat → Nat → Bool) {z x : Nat} (hz : z < n) (hx : x < n) : loopO (F_spec_l23From_l3 (n : Int) (z : Int) (x : Int)) (0, tab n f) = some (tab n (wy f z x n)) := by
  refine loop_seq (body := F_spec_l23From_l3 (n : Int) (z : Int) (x : Int)) (fun y => ((y : Int), tab n (wy f z x y))) n _ (fun y hy => ?_) ?_
  · unfold F_spec_l23From_l3
    dsimp only
    rw [if_pos (by omega)]
    exact way_step (n := n) (f := wy f z x y) hz hx hy h10 (fun t => some (Sum.inl ((y : Int) + 1, t) : (Int × List (List Bool)) ⊕ List (List Bool)))
  · unfold F_spec_l23From_l3
    dsimp only
    rw [if_neg (by omega)]
theorem F_fromX (h10 : n ≤ 10) (f : Nat → Nat → Bool) {z : Nat} (hz : z < n) : loopO (F_spec_l23From_l4 (n : Int) (z : Int)) (0, tab n f) = some (tab n (wx n f z n)) := by
  refine loop_seq (body := F_spec_l23From_l4 (n : Int) (z : Int)) (fun x => ((x : Int), tab n (wx n f z x))) n _ (fun x hx => ?_) ?_
  · unfold F_spec_l23From_l4
    dsimp only
    rw [if_pos (by omega), F_fromY h10 (wx n f z x) hz hx]
    simp only [Option.bind_some]
    rw [ask_pos (by unfold InI; omega)]; rfl
  · unfold F_spec_l23From_l4
    dsimp only
    rw [if_neg (by omega)]
theorem F_fromZ (h10 : n ≤ 10) (f : Nat → Nat → Bool) : loopO (F_spec_l23From_l5 (n : Int)) (0, tab n f) = some (tab n (wz n f n)) := by
  refine loop_seq (body := F_spec_l23From_l5 (n : Int)) (fun z => ((z : Int), tab n (wz n f z))) n _ (fun z hz => ?_) ?_
  · unfold F_spec_l23From_l5
    dsimp only
    rw [if_pos (by omega), F_fromX h10 (wz n f z) hz]
    simp only [Option.bind_some]
    rw [ask_pos (by unfold InI; omega)]; rfl
  · unfold F_spec_l23From_l5
    dsimp only
    rw [if_neg (by omega)]
def dgRows (n i : Nat) : List (List Bool) := (List.range i).map fun x => (List.range n).map fun b => decide (x = b)
theorem dgRows_succ (n i : Nat) : dgRows n (i + 1) = dgRows n i ++ [(List.range n).map fun b => decide (i = b)] := by simp [dgRows, List.range_succ]
theorem dgRows_len (n i : Nat) : (dgRows n i).length = i := by simp [dgRows]
theorem dgRows_all (n : Nat) : dgRows n n = tab n (dg n) := by
  unfold dgRows tab
  refine List.map_congr_left fun x hx => List.map_congr_left fun b _ => ?_
  have := List.mem_range.1 hx
  unfold dg
  rw [decide_eq_decide]; omega
theorem set_row (n x : Nat) : (List.replicate n false).set x true = (List.range n).map fun b => decide (x = b) := by
  refine nth_ext (by simp) fun i hi => ?_
  have hi' : i < n := by simpa using hi
  rw [nth_set _ _ _ _ (by simpa using hi'), nth_map' _ (by simpa using hi'), nth_range hi', nth_replicate _ hi']
  by_cases h : x = i
  · rw [if_pos h, decide_eq_true h]
  · rw [if_neg h, decide_eq_false h]
theorem F_from1 (h10 : n ≤ 10) : loopO (F_spec_l23From_l1 (n : Int) ps) (0, nilL (List Bool)) = some (tab n (dg n)) := by
  rw [← dgRows_all]
  refine loop_seq (body := F_spec_l23From_l1 (n : Int) ps) (fun i => ((i : Int), dgRows n i)) n _ (fun i hi => ?_) ?_
  · unfold F_spec_l23From_l1
    dsimp only
    have hl := dgRows_len n i
    rw [if_pos (by omega), ask_pos (by rw [lim_def]; omega), Int.toNat_natCast, Int.toNat_natCast, ask_pos (by omega), ask_pos (by rw [lim_def]; simp; omega), ask_pos (by unfold InI; omega), set_row, dgRows_succ]
    rfl
  · unfold F_spec_l23From_l1
    dsimp only
    rw [if_neg (by omega)]
theorem F_from2 (h10 : n ≤ 10) (h60 : ps.length ≤ 1000) (hok : ∀ i, i < ps.length → okPair n (nth ps i)) : loopO (F_spec_l23From_l2 (n : Int) ps) (0, tab n (dg n)) = some (tab n (pset (dg n) ps ps.length)) := by
  refine loop_seq (body := F_spec_l23From_l2 (n : Int) ps) (fun i => ((i : Int), tab n (pset (dg n) ps i))) ps.length _ (fun i hi => ?_) ?_
  · obtain ⟨⟨⟨a1, a2⟩, a3, a4⟩, _⟩ := hok i hi
    unfold F_spec_l23From_l2
    dsimp only
    have h1 := tab_len n (pset (dg n) ps i)
    have h2 := tab_row_len n (pset (dg n) ps i) (nth ps i).1.toNat (by omega)
    rw [if_pos (by omega), ask_pos (by omega), Int.toNat_natCast, ask_pos (by omega), ask_pos (by omega), ask_pos (by omega), ask_pos (by unfold InI; omega), tab_tset n _ _ _ true (by omega) (by omega)]
    rfl
  · unfold F_spec_l23From_l2
    dsimp only
    rw [if_neg (by omega)]
theorem F_fromPoset (h10 : n ≤ 10) (f : Nat → Nat → Bool) : loopO (F_spec_l23From_l7 (n : Int) (tab n f)) (0, ⟨nilL (List Int)⟩) = some (posOf n f) := by
  have htl := tab_len n f
  have inner : ∀ x, x < n → ∀ acc, loopO (F_spec_l23From_l6 (n : Int) (tab n f) (x : Int) acc) (0, nilL Int) = some (sieve n fun y => f y x) := by
    intro x hx acc
    refine loop_sieve (body := F_spec_l23From_l6 (n : Int) (tab n f) (x : Int) acc) n (fun y => f y x) (fun y acc2 hy ha => ?_) (fun acc2 => ?_)
    · unfold F_spec_l23From_l6
      dsimp only
      have h2 := tab_row_len n f y hy
      rw [if_pos (by omega), ask_pos (by omega), Int.toNat_natCast, ask_pos (by omega), Int.toNat_natCast, tab_at n f y x hy hx]
      by_cases hf : f y x = true
      · rw [if_pos hf, if_pos hf]
        simp (disch := omega) only [ask_pos, InI_def, lim_def, List.length_cons, List.length_nil, Int.natCast_add, Int.natCast_one]
      · rw [if_neg hf, if_neg hf]
        simp (disch := omega) only [ask_pos, InI_def, Int.natCast_add, Int.natCast_one]
    · unfold F_spec_l23From_l6
      dsimp only
      rw [if_neg (by omega)]
  refine loop_seq (body := F_spec_l23From_l7 (n : Int) (tab n f)) (fun x => ((x : Int), (⟨rowsOf n f x⟩ : SPoset))) n _ (fun x hx => ?_) ?_
  · unfold F_spec_l23From_l7
    dsimp only
    have hl := rowsOf_len n f x
    rw [if_pos (by omega), inner x hx]
    simp only [Option.bind_some]
    rw [ask_pos (by rw [lim_def]; simp; omega), ask_pos (by unfold InI; omega), rowsOf_succ]
    rfl
  · unfold F_spec_l23From_l7
    dsimp only
    rw [if_neg (by omega)]; rfl
theorem F_from (h10 : n ≤ 10) (h60 : ps.length ≤ 1000) (hok : ∀ i, i < ps.length → okPair n (nth ps i)) : F_spec_l23From (n : Int) ps = some (posOf n (ways n ps)) := by
  unfold F_spec_l23From
  rw [F_from1 h10]
  simp only [Option.bind_some]
  rw [F_from2 h10 h60 hok]
  simp only [Option.bind_some]
  rw [F_fromZ h10]
  simp only [Option.bind_some]
  rw [F_fromPoset h10]
  rfl
end
end Go.Proofs.Ytoikbcagaanhgaa.Ax
namespace Go.Proofs.Ytoikbcagaanhgaa.Ax
open Go Classical
section
variable {n : Nat} {f : Nat → Nat → Bool}
end
section
variable {p : SPoset}
end
end Go.Proofs.Ytoikbcagaanhgaa.Ax
namespace Go.Proofs.Ytoikbcagaanhgaa.Ax
open Go Classical
theorem rises_pw {xs : List Int} : rises xs ↔ xs.Pairwise (· < ·) := by
  constructor
  · intro h
    refine List.pairwise_iff_getElem.2 fun i j hi hj hij => ?_
    have := rises_lt h hij hj
    rwa [nth_lt hi, nth_lt hj] at this
  · intro h i h1 h2
    have := List.pairwise_iff_getElem.1 h (i - 1) i (by omega) h2 (by omega)
    rwa [nth_lt (by omega), nth_lt h2]
noncomputable def round (n : Nat) (g h : Nat → Nat → Nat) (S : Nat → Bool) : Nat → Bool := fun z => decide (S z = true ∨ ∃ x y, x < n ∧ y < n ∧ S x = true ∧ S y = true ∧ (z = g x y ∨ z = h x y))
noncomputable def rounds (n : Nat) (g h : Nat → Nat → Nat) (S : Nat → Bool) : Nat → Nat → Bool
  | 0 => S
  | k + 1 => round n g h (rounds n g h S k)
section
variable {n : Nat} {g h : Nat → Nat → Nat} {S : Nat → Bool}
def still (n : Nat) (g h : Nat → Nat → Nat) (S : Nat → Bool) (k : Nat) : Prop := ∀ z, z < n → rounds n g h S (k + 1) z = rounds n g h S k z
theorem sieve_take {xs : List Int} (hx : inSize xs n) (hr : rises xs) : sieve n (fun z => decide ((z : Int) ∈ xs)) = xs := by
  refine rises_ext (sieve_rises _ _) hr fun x => ?_
  rw [mem_sieve]
  constructor
  · rintro ⟨i, _, h1, rfl⟩; simpa using h1
  · intro h1
    have := hx x h1
    exact ⟨x.toNat, by omega, by simpa [show ((x.toNat : Nat) : Int) = x by omega] using h1, by omega⟩
def members (n : Nat) (S : Nat → Bool) : List Nat := (List.range n).filter S
end
end Go.Proofs.Ytoikbcagaanhgaa.Ax
namespace Go.Proofs.Ytoikbcagaanhgaa.Ax
open Go Classical
theorem put_eq {n : Nat} {S : Nat → Bool} {z k : Nat} (hz : z < n) (hk : k ≤ (sieve n S).length) (h1 : ∀ j, j < k → nth (sieve n S) j < (z : Int)) (h2 : k < (sieve n S).length → (z : Int) < nth (sieve n S) k) :
    (sieve n S).take k ++ [(z : Int)] ++ (sieve n S).drop k = sieve n fun a => decide (S a = true ∨ a = z) := by
  have hr := sieve_rises n S
  have e := List.take_append_drop k (sieve n S)
  refine rises_ext (rises_pw.2 ?_) (sieve_rises _ _) fun x => ?_
  · rw [List.append_assoc, List.pairwise_append]
    have hp := rises_pw.1 hr
    rw [← e, List.pairwise_append] at hp
    have ht : ∀ a ∈ (sieve n S).take k, a < (z : Int) := by
      intro a ha
      obtain ⟨j, hj, rfl⟩ := mem_nth.1 ha
      have hj' : j < k := by rw [List.length_take] at hj; omega
      have := h1 j hj'
      rw [nth_lt hj, List.getElem_take]
      rwa [nth_lt (by omega)] at this
    have hd : ∀ a ∈ (sieve n S).drop k, (z : Int) < a := by
      intro a ha
      obtain ⟨j, hj, rfl⟩ := mem_nth.1 ha
      rw [List.length_drop] at hj
      have h3 := h2 (by omega)
      have h4 : nth ((sieve n S).drop k) j = nth (sieve n S) (k + j) := by
        rw [nth_lt (by rw [List.length_drop]; omega), nth_lt (by omega), List.getElem_drop]
      rw [h4]
      by_cases hj0 : j = 0
      · subst hj0; exact h3
      · have := rises_lt hr (i := k) (j := k + j) (by omega) (by omega); omega
    refine ⟨hp.1, ?_, ?_⟩
    · rw [List.singleton_append, List.pairwise_cons]
      exact ⟨hd, hp.2.1⟩
    · intro a ha b hb
      rcases List.mem_append.1 hb with hb | hb
      · rw [List.mem_singleton.1 hb]; exact ht a ha
      · exact hp.2.2 a ha b hb
  · have hm : x ∈ sieve n S ↔ x ∈ (sieve n S).take k ∨ x ∈ (sieve n S).drop k := by rw [← List.mem_append, e]
    rw [List.mem_append, List.mem_append, List.mem_singleton]
    have : (x ∈ sieve n S ∨ x = (z : Int)) ↔ x ∈ sieve n fun a => decide (S a = true ∨ a = z) := by
      rw [mem_sieve, mem_sieve]
      constructor
      · rintro (⟨i, a, b, rfl⟩ | rfl)
        · exact ⟨i, a, decide_eq_true (.inl b), rfl⟩
        · exact ⟨z, hz, decide_eq_true (.inr rfl), rfl⟩
      · rintro ⟨i, a, b, rfl⟩
        rcases of_decide_eq_true b with c | c
        · exact .inl ⟨i, a, c, rfl⟩
        · exact .inr (by omega)
    rw [← this, hm]
    constructor
    · rintro ((h | h) | h)
      · exact .inl (.inl h)
      · exact .inr h
      · exact .inl (.inr h)
    · rintro ((h | h) | h)
      · exact .inl (.inl h)
      · exact .inr h
      · exact .inl (.inr h)
theorem put_in {n : Nat} {S : Nat → Bool} {z k : Nat} (hk : k < (sieve n S).length) (h : nth (sieve n S) k = (z : Int)) : sieve n S = sieve n fun a => decide (S a = true ∨ a = z) := by
  obtain ⟨i, a, b, c⟩ := mem_sieve.1 (nth_mem hk)
  rw [h] at c
  refine sieve_congr fun j _ => ?_
  by_cases hj : j = z
  · have : j = i := by omega
    subst this
    rw [b]; exact (decide_eq_true (.inl rfl)).symm
  · cases hS : S j <;> simp [hj]
theorem F_l1Put {n : Nat} (hn : n ≤ 1000) (S : Nat → Bool) {z : Nat} (hz : z < n) : F_spec_l1Put (sieve n S) (z : Int) = some (sieve n fun a => decide (S a = true ∨ a = z)) := by
  unfold F_spec_l1Put
  have hl := sieve_len n S
  rw [show ((0 : Int)) = (((0 : Nat)) : Int) from rfl]
  have key : ∃ k : Nat, k ≤ (sieve n S).length ∧ (∀ j, j < k → nth (sieve n S) j < (z : Int)) ∧ (k < (sieve n S).length → ¬ nth (sieve n S) k < (z : Int)) ∧ loopO (F_spec_l1Put_l1 (sieve n S) (z : Int)) (((0 : Nat)) : Int) = some (k : Int) := by
    rcases loop_pick (body := F_spec_l1Put_l1 (sieve n S) (z : Int)) (fun i => (i : Int)) (sieve n S).length (fun i => ¬ nth (sieve n S) i < (z : Int)) (fun i => (i : Int)) ((sieve n S).length : Int) (fun i hi hh => by
        unfold F_spec_l1Put_l1
        rw [if_pos (by omega), ask_pos (by omega), Int.toNat_natCast, if_pos (Classical.not_not.1 hh), ask_pos (by unfold InI; omega)]; rfl) (fun i hi hh => by
        unfold F_spec_l1Put_l1
        rw [if_pos (by omega), ask_pos (by omega), Int.toNat_natCast, if_neg hh]) (by
        unfold F_spec_l1Put_l1
        rw [if_neg (by omega)]) with ⟨i, hi, hh, hj, e⟩ | ⟨hno, e⟩
    · exact ⟨i, by omega, fun j h => Classical.not_not.1 (hj j h), fun _ => hh, e⟩
    · exact ⟨_, Nat.le_refl _, fun j h => Classical.not_not.1 (hno j h), fun h => absurd h (Nat.lt_irrefl _), e⟩
  obtain ⟨k, hk, h1, h2, e⟩ := key
  rw [e]
  simp only [Option.bind_some]
  have tail : (¬ k < (sieve n S).length ∨ nth (sieve n S) k ≠ (z : Int)) → (ask (0 ≤ (((0 : Nat)) : Int) ∧ (((0 : Nat)) : Int) ≤ (k : Int) ∧ (k : Int) ≤ (((sieve n S).length : Nat) : Int)) <|
      ask ((nilL Int).length + (List.take ((k : Int).toNat - Int.toNat ((((0 : Nat)) : Int))) (List.drop (Int.toNat ((((0 : Nat)) : Int))) (sieve n S))).length ≤ LIM) <|
      ask ((nilL Int ++ List.take ((k : Int).toNat - Int.toNat ((((0 : Nat)) : Int))) (List.drop (Int.toNat ((((0 : Nat)) : Int))) (sieve n S))).length + ([(z : Int)]).length ≤ LIM) <|
      ask (0 ≤ (k : Int) ∧ (k : Int) ≤ ((sieve n S).length : Int) ∧ ((sieve n S).length : Int) ≤ (((sieve n S).length : Nat) : Int)) <|
      ask ((nilL Int ++ List.take ((k : Int).toNat - Int.toNat ((((0 : Nat)) : Int))) (List.drop (Int.toNat ((((0 : Nat)) : Int))) (sieve n S)) ++ [(z : Int)]).length + (List.take (((sieve n S).length : Int).toNat - (k : Int).toNat) (List.drop (k : Int).toNat (sieve n S))).length ≤ LIM) <|
      some (nilL Int ++ List.take ((k : Int).toNat - Int.toNat ((((0 : Nat)) : Int))) (List.drop (Int.toNat ((((0 : Nat)) : Int))) (sieve n S)) ++ [(z : Int)] ++ List.take (((sieve n S).length : Int).toNat - (k : Int).toNat) (List.drop (k : Int).toNat (sieve n S)))) = some (sieve n fun a => decide (S a = true ∨ a = z)) := by
    intro h3
    simp only [Int.toNat_natCast, List.drop_zero, Nat.sub_zero, List.nil_append]
    have ed : List.take ((sieve n S).length - k) (List.drop k (sieve n S)) = List.drop k (sieve n S) := List.take_of_length_le (by rw [List.length_drop]; omega)
    rw [ed]
    have ht : (List.take k (sieve n S)).length ≤ 1000 := by rw [List.length_take]; omega
    have hd : (List.drop k (sieve n S)).length ≤ 1000 := by rw [List.length_drop]; omega
    rw [ask_pos (by omega), ask_pos (by rw [lim_def]; simp only [List.length_nil]; omega), ask_pos (by rw [lim_def]; simp only [List.length_cons, List.length_nil]; omega), ask_pos (by omega), ask_pos (by rw [lim_def]; simp only [List.length_append, List.length_cons, List.length_nil]; omega)]
    rw [put_eq hz hk h1 fun h => by have h4 := h2 h; rcases h3 with h3 | h3 <;> omega]
  by_cases hkl : k < (sieve n S).length
  · rw [if_pos (by omega), ask_pos (by omega), Int.toNat_natCast]
    by_cases hv : nth (sieve n S) k = (z : Int)
    · rw [if_pos hv]
      simp only [Option.bind_some]
      rw [← put_in hkl hv]
    · rw [if_neg hv]
      exact tail (.inr hv)
  · rw [if_neg (by omega)]
    exact tail (.inl hkl)
section
variable {p : SPoset}
end
end Go.Proofs.Ytoikbcagaanhgaa.Ax
namespace Go.Proofs.Ytoikbcagaanhgaa.Ax
open Go Classical
def smallA (a : SAlgebra) : Prop := a.Ops.length ≤ 1048576 ∧ ∀ f ∈ a.Ops, f.Table.length ≤ 1048576
end Go.Proofs.Ytoikbcagaanhgaa.Ax
namespace Go.Proofs.Ytoikbcagaanhgaa.Ax
open Go Classical
theorem range_mul {α : Type} (n m : Nat) (g : Nat → α) : (List.range (n * m)).map g = (List.range n).flatMap fun x => (List.range m).map fun y => g (x * m + y) := by
  induction n with
  | zero => simp
  | succ n ih =>
    rw [Nat.succ_mul, List.range_add, List.map_append, ih, List.range_succ, List.flatMap_append]
    simp [List.map_map, Function.comp_def]
def prodF (f g : Nat → Nat → Bool) (m : Nat) (a b : Nat) : Bool := f (a / m) (b / m) && g (a % m) (b % m)
def prodRow (m : Nat) (us vs : List Int) : List Int := us.flatMap fun u => vs.map fun v => u * (m : Int) + v
theorem prod_row {n m : Nat} {f g : Nat → Nat → Bool} {x y : Nat} (hy : y < m) : prodRow m (sieve n fun a => f a x) (sieve m fun b => g b y) = sieve (n * m) fun a => prodF f g m a (x * m + y) := by
  have hm : 0 < m := by omega
  have e1 : (x * m + y) / m = x := by rw [Nat.mul_comm, Nat.mul_add_div hm, Nat.div_eq_of_lt hy]; omega
  have e2 : (x * m + y) % m = y := by rw [Nat.mul_comm, Nat.mul_add_mod, Nat.mod_eq_of_lt hy]
  refine rises_ext (rises_pw.2 ?_) (sieve_rises _ _) fun z => ?_
  · unfold prodRow
    rw [List.pairwise_flatMap]
    refine ⟨fun u _ => ?_, ?_⟩
    · rw [List.pairwise_map]
      exact (rises_pw.1 (sieve_rises m fun b => g b y)).imp fun {a b} h => by omega
    · refine (rises_pw.1 (sieve_rises n fun a => f a x)).imp_of_mem fun {a b} ha hb h => ?_
      obtain ⟨i, _, _, rfl⟩ := mem_sieve.1 ha
      obtain ⟨j, _, _, rfl⟩ := mem_sieve.1 hb
      intro u hu v hv
      obtain ⟨s, hs, rfl⟩ := List.mem_map.1 hu
      obtain ⟨t, ht, rfl⟩ := List.mem_map.1 hv
      obtain ⟨k, hk, _, rfl⟩ := mem_sieve.1 hs
      obtain ⟨l, hl, _, rfl⟩ := mem_sieve.1 ht
      have h1 : i + 1 ≤ j := by omega
      have h2 := Nat.mul_le_mul_right m h1
      rw [Nat.succ_mul] at h2
      have h3 : i * m + k < j * m + l := by omega
      exact_mod_cast h3
  · unfold prodRow
    simp only [List.mem_flatMap, List.mem_map, mem_sieve]
    constructor
    · rintro ⟨u, ⟨i, hi, hf, rfl⟩, v, ⟨k, hk, hg, rfl⟩, rfl⟩
      have d1 : (i * m + k) / m = i := by rw [Nat.mul_comm, Nat.mul_add_div hm, Nat.div_eq_of_lt hk]; omega
      have d2 : (i * m + k) % m = k := by rw [Nat.mul_comm, Nat.mul_add_mod, Nat.mod_eq_of_lt hk]
      refine ⟨i * m + k, ?_, ?_, by push_cast; rfl⟩
      · have := Nat.mul_le_mul_right m (show i + 1 ≤ n by omega)
        rw [Nat.succ_mul] at this; omega
      · unfold prodF
        rw [e1, e2, d1, d2, hf, hg]; rfl
    · rintro ⟨w, hw, hp, rfl⟩
      unfold prodF at hp
      rw [e1, e2, Bool.and_eq_true] at hp
      refine ⟨((w / m : Nat) : Int), ⟨w / m, Nat.div_lt_of_lt_mul (by rw [Nat.mul_comm]; exact hw), hp.1, rfl⟩, ((w % m : Nat) : Int), ⟨w % m, Nat.mod_lt _ hm, hp.2, rfl⟩, ?_⟩
      have := Nat.div_add_mod w m
      rw [Nat.mul_comm] at this
      exact_mod_cast this
theorem flatMap_eq {α β : Type} {l : List α} {s t : α → List β} (h : ∀ x ∈ l, s x = t x) : l.flatMap s = l.flatMap t := by
  induction l with
  | nil => rfl
  | cons x r ih => rw [List.flatMap_cons, List.flatMap_cons, h x (by simp), ih fun y hy => h y (by simp [hy])]
theorem prod_rows (n m : Nat) (f g : Nat → Nat → Bool) : (posOf (n * m) (prodF f g m)).Below = (List.range n).flatMap fun x => (List.range m).map fun y => prodRow m (sieve n fun a => f a x) (sieve m fun b => g b y) := by
  unfold posOf
  rw [range_mul]
  refine flatMap_eq fun x _ => ?_
  exact List.map_congr_left fun y hy => (prod_row (List.mem_range.1 hy)).symm
end Go.Proofs.Ytoikbcagaanhgaa.Ax
namespace Go.Proofs.Ytoikbcagaanhgaa.Ax
open Go Classical
section
variable {p : SPoset}
noncomputable def flatR (n : Nat) (f : Nat → Nat → Bool) (i : Nat) : List Int := (List.range i).flatMap fun x => mrow n f x n
theorem flatR_succ (n : Nat) (f : Nat → Nat → Bool) (i : Nat) : flatR n f (i + 1) = flatR n f i ++ mrow n f i n := by simp [flatR, List.range_succ]
theorem flatR_len (n : Nat) (f : Nat → Nat → Bool) (i : Nat) : (flatR n f i).length = i * n := by
  induction i with
  | zero => simp [flatR]
  | succ i ih => rw [flatR_succ, List.length_append, ih, mrow_len, Nat.succ_mul]
theorem F_flatOp {n : Nat} (hn : n ≤ 10) (f : Nat → Nat → Bool) : F_impl_flatOp (mtab n f) = some ⟨2, flatR n f n⟩ := by
  unfold F_impl_flatOp
  have hml := mtab_len (n := n) (f := f)
  have key := loop_seq (body := F_impl_flatOp_l1 (mtab n f)) (fun i => ((i : Int), (⟨2, flatR n f i⟩ : SOp))) n ⟨2, flatR n f n⟩ (fun i hi => by
    unfold F_impl_flatOp_l1
    dsimp only
    have hl := flatR_len n f i
    have hb : i * n ≤ 10 * 10 := Nat.mul_le_mul (by omega) hn
    have hr : (nth (mtab n f) i).length = n := by rw [mtab_row hi, mrow_len]
    rw [if_pos (by omega), ask_pos (by omega), Int.toNat_natCast, ask_pos (by rw [lim_def]; omega), ask_pos (by unfold InI; omega), flatR_succ, mtab_row hi]
    rfl) (by
    unfold F_impl_flatOp_l1
    dsimp only
    rw [if_neg (by omega)])
  have e0 : flatR n f 0 = nilL Int := rfl
  simp only [e0] at key
  have key' : loopO (F_impl_flatOp_l1 (mtab n f)) (0, { Arity := 2, Table := nilL Int }) = _ := key
  rw [key']; rfl
noncomputable def algOf (p : SPoset) : SAlgebra := ⟨(p.Below.length : Int), [⟨2, flatR p.Below.length (below p.Below) p.Below.length⟩, ⟨2, flatR p.Below.length (opp (below p.Below)) p.Below.length⟩]⟩
theorem F_lattice_algebra (h : isLat p) : F_impl_lattice_algebra (latOf p) = some (algOf p) := by
  have h10 : p.Below.length ≤ 10 := h.1.1
  have htl := tab_len p.Below.length (below p.Below)
  have hlm : (latOf p).meets = mtab p.Below.length (below p.Below) := rfl
  have hlj : (latOf p).joins = mtab p.Below.length (opp (below p.Below)) := rfl
  unfold F_impl_lattice_algebra
  rw [hlm, hlj, F_flatOp h10, F_flatOp h10, latOf_order, htl]
  rfl
theorem F_l24Algebra (hs : small p) (h : isLat p) : F_spec_l24Algebra p = some (algOf p) := by
  have hg := h.1
  have h10 : p.Below.length ≤ 10 := hg.1
  unfold F_spec_l24Algebra
  rw [F_l23Dual hs]
  simp only [Option.bind_some]
  have inner : ∀ x, x < p.Below.length → loopO (F_spec_l24Algebra_l1 p (dualP p) (x : Int)) (0, (⟨2, flatR p.Below.length (opp (below p.Below)) x⟩ : SOp), (⟨2, flatR p.Below.length (below p.Below) x⟩ : SOp)) =
      some ((⟨2, flatR p.Below.length (opp (below p.Below)) (x + 1)⟩ : SOp), (⟨2, flatR p.Below.length (below p.Below) (x + 1)⟩ : SOp)) := by
    intro x hx
    have key := loop_seq (body := F_spec_l24Algebra_l1 p (dualP p) (x : Int)) (fun y => ((y : Int), (⟨2, flatR p.Below.length (opp (below p.Below)) x ++ mrow p.Below.length (opp (below p.Below)) x y⟩ : SOp), (⟨2, flatR p.Below.length (below p.Below) x ++ mrow p.Below.length (below p.Below) x y⟩ : SOp))) p.Below.length
      ((⟨2, flatR p.Below.length (opp (below p.Below)) (x + 1)⟩ : SOp), (⟨2, flatR p.Below.length (below p.Below) (x + 1)⟩ : SOp)) (fun y hy => by
      unfold F_spec_l24Algebra_l1
      dsimp only
      have l1 := flatR_len p.Below.length (below p.Below) x
      have l2 := flatR_len p.Below.length (opp (below p.Below)) x
      have m1 := mrow_len (n := p.Below.length) (f := below p.Below) x y
      have m2 := mrow_len (n := p.Below.length) (f := opp (below p.Below)) x y
      have hb : x * p.Below.length ≤ 10 * 10 := Nat.mul_le_mul (by omega) h10
      rw [if_pos (by omega), F_l24Two hs hg hx hy]
      simp only [Option.bind_some]
      rw [ask_pos (by rw [lim_def, List.length_append]; simp only [List.length_cons, List.length_nil]; omega), F_l24TwoD hs hg hx hy]
      simp only [Option.bind_some]
      rw [ask_pos (by rw [lim_def, List.length_append]; simp only [List.length_cons, List.length_nil]; omega), ask_pos (by unfold InI; omega), mrow_succ, mrow_succ, List.append_assoc, List.append_assoc]
      rfl) (by
      unfold F_spec_l24Algebra_l1
      dsimp only
      rw [if_neg (by omega), flatR_succ, flatR_succ])
    have e0 : ∀ f, mrow p.Below.length f x 0 = [] := fun f => rfl
    simp only [e0, List.append_nil] at key
    exact key
  have key := loop_seq (body := F_spec_l24Algebra_l2 p (dualP p)) (fun x => ((x : Int), (⟨2, flatR p.Below.length (opp (below p.Below)) x⟩ : SOp), (⟨2, flatR p.Below.length (below p.Below) x⟩ : SOp))) p.Below.length
    ((⟨2, flatR p.Below.length (opp (below p.Below)) p.Below.length⟩ : SOp), (⟨2, flatR p.Below.length (below p.Below) p.Below.length⟩ : SOp)) (fun x hx => by
    unfold F_spec_l24Algebra_l2
    dsimp only
    rw [if_pos (by omega), inner x hx]
    simp only [Option.bind_some]
    rw [ask_pos (by unfold InI; omega)]; rfl) (by
    unfold F_spec_l24Algebra_l2
    dsimp only
    rw [if_neg (by omega)])
  have e0 : ∀ f, flatR p.Below.length f 0 = nilL Int := fun f => rfl
  simp only [e0] at key
  have key' : loopO (F_spec_l24Algebra_l2 p (dualP p)) (0, { Arity := 2, Table := nilL Int }, { Arity := 2, Table := nilL Int }) = _ := key
  rw [key']; rfl
theorem algOf_small (h : isLat p) : smallA (algOf p) := by
  have h10 : p.Below.length ≤ 10 := h.1.1
  have hb : p.Below.length * p.Below.length ≤ 10 * 10 := Nat.mul_le_mul h10 h10
  refine ⟨by simp [algOf], fun f hf => ?_⟩
  simp only [algOf, List.mem_cons, List.not_mem_nil, or_false] at hf
  rcases hf with rfl | rfl
  · dsimp only; rw [flatR_len]; omega
  · dsimp only; rw [flatR_len]; omega
theorem noAlg_small : smallA ⟨0, []⟩ := ⟨by simp, fun f hf => by cases hf⟩
end
end Go.Proofs.Ytoikbcagaanhgaa.Ax
namespace Go.Proofs.Ytoikbcagaanhgaa.Ax
open Go Classical
theorem fill_tab {N : Nat} (F : Nat → Nat → Bool) {inner : Nat → List (List Bool) → (Int × List (List Bool)) → Option ((Int × List (List Bool)) ⊕ List (List Bool))} {outer : (Int × List (List Bool)) → Option ((Int × List (List Bool)) ⊕ List (List Bool))}
    (h1 : ∀ x y H0 H, x < N → y < N → inner x (tab N H0) ((y : Int), tab N H) = some (.inl (((y + 1 : Nat) : Int), tab N (fun a b => if a = x ∧ b = y then F x y else H a b))))
    (h2 : ∀ x H0 H, x < N → inner x (tab N H0) ((N : Int), tab N H) = some (.inr (tab N H)))
    (h3 : ∀ x H T, x < N → loopO (inner x (tab N H)) (0, tab N H) = some T → outer ((x : Int), tab N H) = some (.inl (((x + 1 : Nat) : Int), T)))
    (h4 : ∀ H, outer ((N : Int), tab N H) = some (.inr (tab N H))) : loopO outer (0, tab N fun _ _ => false) = some (tab N F) := by
  have inn : ∀ x, x < N → loopO (inner x (tab N fun a b => if a < x then F a b else false)) (0, tab N fun a b => if a < x then F a b else false) = some (tab N fun a b => if a < x + 1 then F a b else false) := by
    intro x hx
    have key := loop_seq (body := inner x (tab N fun a b => if a < x then F a b else false)) (fun k => ((k : Int), tab N fun a b => if a < x ∨ (a = x ∧ b < k) then F a b else false)) N (tab N fun a b => if a < x + 1 then F a b else false) (fun k hk => by
      rw [h1 x k _ _ hx hk]
      refine congrArg (fun z => some (Sum.inl (_, z))) (tab_congr fun a b _ _ => ?_)
      by_cases hab : a = x ∧ b = k
      · obtain ⟨rfl, rfl⟩ := hab
        rw [if_pos ⟨rfl, rfl⟩, if_pos (by omega)]
      · rw [if_neg hab]
        have : (a < x ∨ a = x ∧ b < k) ↔ (a < x ∨ a = x ∧ b < k + 1) := by omega
        simp only [this]) (by
      rw [h2 x _ _ hx]
      refine congrArg (fun z => some (Sum.inr z)) (tab_congr fun a b _ hb => ?_)
      have : (a < x ∨ a = x ∧ b < N) ↔ a < x + 1 := by omega
      simp only [this])
    have e0 : (tab N fun a b => if a < x ∨ (a = x ∧ b < 0) then F a b else false) = tab N fun a b => if a < x then F a b else false := tab_congr fun a b _ _ => by
      have : (a < x ∨ a = x ∧ b < 0) ↔ a < x := by omega
      simp only [this]
    simp only [e0] at key
    exact key
  have key := loop_seq (body := outer) (fun x => ((x : Int), tab N fun a b => if a < x then F a b else false)) N (tab N F) (fun x hx => h3 x _ _ hx (inn x hx)) (by
    rw [h4]
    exact congrArg (fun z => some (Sum.inr z)) (tab_congr fun a b ha _ => by rw [if_pos ha]))
  have e0 : (tab N fun a b => if a < 0 then F a b else false) = tab N fun _ _ => false := tab_congr fun a b _ _ => by rw [if_neg (by omega)]
  simp only [e0] at key
  exact key
theorem prodRow_len (m : Nat) (us vs : List Int) : (prodRow m us vs).length = us.length * vs.length := by
  unfold prodRow
  induction us with
  | nil => simp
  | cons u r ih => rw [List.flatMap_cons, List.length_append, ih, List.length_map, List.length_cons, Nat.succ_mul]; omega
section
variable {p q : SPoset}
theorem row_len (hg : good p.Below) {x : Nat} (hx : x < p.Below.length) : (nth p.Below x).length ≤ p.Below.length := by
  rw [row_eq hg x hx]; exact sieve_len _ _
theorem F_prod1 (hp : good p.Below) (hq : good q.Below) {x y i : Nat} (hx : x < p.Below.length) (hy : y < q.Below.length) (hi : i < (nth p.Below x).length) (s : SPoset) (acc : List Int) (ha : acc.length ≤ 100) :
    loopO (F_spec_l24Product_l1 p q (x : Int) (y : Int) s (i : Int)) (0, acc) = some (acc ++ (nth q.Below y).map fun v => nth (nth p.Below x) i * (q.Below.length : Int) + v) := by
  have h10 : p.Below.length ≤ 10 := hp.1
  have k10 : q.Below.length ≤ 10 := hq.1
  have hl := row_len hq hy
  obtain ⟨c, hc⟩ := Int.eq_ofNat_of_zero_le ((good_row hp x hx).2 _ (nth_mem hi)).1
  have hcn : c < p.Below.length := by have := ((good_row hp x hx).2 _ (nth_mem hi)).2; omega
  have hmul : c * q.Below.length ≤ 10 * 10 := Nat.mul_le_mul (by omega) k10
  have key := loop_seq (body := F_spec_l24Product_l1 p q (x : Int) (y : Int) s (i : Int)) (fun k => ((k : Int), acc ++ ((nth q.Below y).take k).map fun v => nth (nth p.Below x) i * (q.Below.length : Int) + v)) (nth q.Below y).length (acc ++ (nth q.Below y).map fun v => nth (nth p.Below x) i * (q.Below.length : Int) + v) (fun k hk => by
    obtain ⟨d, hd⟩ := Int.eq_ofNat_of_zero_le ((good_row hq y hy).2 _ (nth_mem hk)).1
    have hdn : d < q.Below.length := by have := ((good_row hq y hy).2 _ (nth_mem hk)).2; omega
    unfold F_spec_l24Product_l1
    dsimp only
    simp only [Int.toNat_natCast, hc, hd, ← Int.natCast_mul]
    rw [ask_pos (by omega), if_pos (by omega), ask_pos (by omega), ask_pos (by omega), ask_pos (by unfold InI; omega), ask_pos (by omega), ask_pos (by omega), ask_pos (by unfold InI; omega),
      ask_pos (by rw [lim_def]; simp only [List.length_append, List.length_map, List.length_take, List.length_cons, List.length_nil]; omega), ask_pos (by unfold InI; omega), take_nth hk, List.map_append, ← List.append_assoc, List.map_cons, List.map_nil, hd]
    rfl) (by
    unfold F_spec_l24Product_l1
    dsimp only
    simp only [Int.toNat_natCast]
    rw [ask_pos (by omega), if_neg (by omega), List.take_length])
  simp only [List.take_zero, List.map_nil, List.append_nil] at key
  exact key
theorem F_prod2 (hp : good p.Below) (hq : good q.Below) {x y : Nat} (hx : x < p.Below.length) (hy : y < q.Below.length) (s : SPoset) :
    loopO (F_spec_l24Product_l2 p q (x : Int) (y : Int) s) (0, nilL Int) = some (prodRow q.Below.length (nth p.Below x) (nth q.Below y)) := by
  have h10 : p.Below.length ≤ 10 := hp.1
  have k10 : q.Below.length ≤ 10 := hq.1
  have hl := row_len hq hy
  have hlp := row_len hp hx
  have key := loop_seq (body := F_spec_l24Product_l2 p q (x : Int) (y : Int) s) (fun i => ((i : Int), prodRow q.Below.length ((nth p.Below x).take i) (nth q.Below y))) (nth p.Below x).length (prodRow q.Below.length (nth p.Below x) (nth q.Below y)) (fun i hi => by
    unfold F_spec_l24Product_l2
    dsimp only
    simp only [Int.toNat_natCast]
    have hm : ((nth p.Below x).take i).length * (nth q.Below y).length ≤ 10 * 10 := Nat.mul_le_mul (by rw [List.length_take]; omega) (by omega)
    rw [ask_pos (by omega), if_pos (by omega), F_prod1 hp hq hx hy hi s _ (by rw [prodRow_len]; omega)]
    simp only [Option.bind_some]
    rw [ask_pos (by unfold InI; omega), take_nth hi]
    unfold prodRow
    rw [List.flatMap_append, List.flatMap_cons, List.flatMap_nil, List.append_nil]
    rfl) (by
    unfold F_spec_l24Product_l2
    dsimp only
    simp only [Int.toNat_natCast]
    rw [ask_pos (by omega), if_neg (by omega), List.take_length])
  exact key
theorem F_l24Product (hp : good p.Below) (hq : good q.Below) : F_spec_l24Product p q = some (posOf (p.Below.length * q.Below.length) (prodF (below p.Below) (below q.Below) q.Below.length)) := by
  have h10 : p.Below.length ≤ 10 := hp.1
  have k10 : q.Below.length ≤ 10 := hq.1
  unfold F_spec_l24Product
  have inner : ∀ x, x < p.Below.length → ∀ s : List (List Int), s.length ≤ 1000 → loopO (F_spec_l24Product_l3 p q (x : Int)) (0, (⟨s⟩ : SPoset)) = some ⟨s ++ (List.range q.Below.length).map fun y => prodRow q.Below.length (nth p.Below x) (nth q.Below y)⟩ := by
    intro x hx s hsl
    have key := loop_seq (body := F_spec_l24Product_l3 p q (x : Int)) (fun y => ((y : Int), (⟨s ++ (List.range y).map fun y => prodRow q.Below.length (nth p.Below x) (nth q.Below y)⟩ : SPoset))) q.Below.length ⟨s ++ (List.range q.Below.length).map fun y => prodRow q.Below.length (nth p.Below x) (nth q.Below y)⟩ (fun y hy => by
      unfold F_spec_l24Product_l3
      dsimp only
      rw [if_pos (by omega), F_prod2 hp hq hx hy]
      simp only [Option.bind_some]
      rw [ask_pos (by rw [lim_def]; simp only [List.length_append, List.length_map, List.length_range, List.length_cons, List.length_nil]; omega), ask_pos (by unfold InI; omega), List.range_succ, List.map_append, ← List.append_assoc]
      rfl) (by
      unfold F_spec_l24Product_l3
      dsimp only
      rw [if_neg (by omega)])
    simp only [List.range_zero, List.map_nil, List.append_nil] at key
    exact key
  have hlen : ∀ x, ((List.range x).flatMap fun x => (List.range q.Below.length).map fun y => prodRow q.Below.length (nth p.Below x) (nth q.Below y)).length = x * q.Below.length := by
    intro x
    induction x with
    | zero => simp
    | succ x ih => rw [List.range_succ, List.flatMap_append, List.length_append, ih, Nat.succ_mul]; simp
  have key := loop_seq (body := F_spec_l24Product_l4 p q) (fun x => ((x : Int), (⟨(List.range x).flatMap fun x => (List.range q.Below.length).map fun y => prodRow q.Below.length (nth p.Below x) (nth q.Below y)⟩ : SPoset))) p.Below.length
    ⟨(List.range p.Below.length).flatMap fun x => (List.range q.Below.length).map fun y => prodRow q.Below.length (nth p.Below x) (nth q.Below y)⟩ (fun x hx => by
    unfold F_spec_l24Product_l4
    dsimp only
    have hb : x * q.Below.length ≤ 10 * 10 := Nat.mul_le_mul (by omega) k10
    rw [if_pos (by omega), inner x hx _ (by rw [hlen]; omega)]
    simp only [Option.bind_some]
    rw [ask_pos (by unfold InI; omega), List.range_succ, List.flatMap_append]
    simp only [List.flatMap_cons, List.flatMap_nil, List.append_nil]
    rfl) (by
    unfold F_spec_l24Product_l4
    dsimp only
    rw [if_neg (by omega)])
  have key' : loopO (F_spec_l24Product_l4 p q) (0, { Below := nilL (List Int) }) = _ := key
  rw [key']
  simp only [Option.bind_some]
  refine congrArg some ?_
  have e : (posOf (p.Below.length * q.Below.length) (prodF (below p.Below) (below q.Below) q.Below.length)) = ⟨(posOf (p.Below.length * q.Below.length) (prodF (below p.Below) (below q.Below) q.Below.length)).Below⟩ := rfl
  rw [e, prod_rows]
  refine congrArg SPoset.mk (flatMap_eq fun x hx => List.map_congr_left fun y hy => ?_)
  rw [row_eq hp x (List.mem_range.1 hx), row_eq hq y (List.mem_range.1 hy)]
end
end Go.Proofs.Ytoikbcagaanhgaa.Ax
namespace Go.Proofs.Ytoikbcagaanhgaa.Ax
open Go Classical
def opOk (n : Nat) (f : SOp) : Prop := 0 ≤ f.Arity ∧ f.Arity ≤ 3 ∧ f.Table.length = n ^ f.Arity.toNat ∧ inSize f.Table n
def goodA (a : SAlgebra) : Prop := 1 ≤ a.Size ∧ a.Size ≤ 8 ∧ a.Ops.length ≤ 4 ∧ ∀ f ∈ a.Ops, opOk a.Size.toNat f
theorem pow_le {n k : Nat} (hn : n ≤ 8) (hk : k ≤ 3) : n ^ k ≤ 512 :=
  Nat.le_trans (Nat.pow_le_pow_left hn k) (Nat.le_trans (Nat.pow_le_pow_right (by omega) hk) (by decide))
theorem F_power {n k : Nat} (hn : n ≤ 8) (hk : k ≤ 3) : F_impl_power n k = some ((n ^ k : Nat) : Int) := by
  unfold F_impl_power
  have key := loop_seq (body := F_impl_power_l1 n) (fun j => (((n ^ j : Nat) : Int), ((k : Int) - (j : Int)))) k ((n ^ k : Nat) : Int) (fun j hj => by
    unfold F_impl_power_l1
    dsimp only
    have hp := pow_le hn (show j + 1 ≤ 3 by omega)
    rw [Nat.pow_succ] at hp
    rw [if_pos (by omega), ← Int.natCast_mul, Nat.pow_succ]
    generalize n ^ j * n = N at hp ⊢
    rw [ask_pos (by unfold InI; omega), ask_pos (by unfold InI; omega), show ((k : Int) - (j : Int) - 1) = (k : Int) - ((j + 1 : Nat) : Int) by omega]) (by
    unfold F_impl_power_l1
    dsimp only
    rw [if_neg (by omega)])
  have key' : loopO (F_impl_power_l1 n) (1, (k : Int)) = some ((n ^ k : Nat) : Int) := by simpa using key
  rw [key']; rfl
theorem F_isOp {n : Nat} (hn : n ≤ 8) {f : SOp} (hl : f.Table.length ≤ LIM) : F_impl_isOp f n = some (decide (opOk n f)) := by
  unfold F_impl_isOp
  by_cases h0 : 0 ≤ f.Arity
  · rw [if_pos (show f.Arity ≥ 0 from h0)]
    by_cases h3 : f.Arity ≤ 3
    · have e : F_impl_power (n : Int) f.Arity = some ((n ^ f.Arity.toNat : Nat) : Int) := by
        have := F_power hn (k := f.Arity.toNat) (by omega)
        rwa [show ((f.Arity.toNat : Nat) : Int) = f.Arity by omega] at this
      rw [if_pos h3, e]
      simp only [Option.bind_some]
      by_cases hL : f.Table.length = n ^ f.Arity.toNat
      · rw [if_pos (by rw [hL]), F_inSize _ _ hl]
        simp only [Option.bind_some]
        congr 1
        rw [decide_eq_decide]
        exact ⟨fun h => ⟨h0, h3, hL, h⟩, fun h => h.2.2.2⟩
      · rw [if_neg (fun hc => hL (Int.ofNat_inj.1 hc)), decide_eq_false (fun h => hL h.2.2.1)]
    · rw [if_neg h3, decide_eq_false (fun h => h3 h.2.1)]
  · rw [if_neg (by omega), decide_eq_false (fun h => h0 h.1)]
theorem F_IsAlgebra {a : SAlgebra} (h : smallA a) : F_impl_IsAlgebra a = some (decide (goodA a)) := by
  unfold F_impl_IsAlgebra
  by_cases h1 : a.Size < 1
  · rw [if_pos h1, decide_eq_false (fun hg => by have := hg.1; omega)]; rfl
  rw [if_neg h1]
  by_cases h8 : a.Size > 8
  · rw [if_pos h8, decide_eq_false (fun hg => by have := hg.2.1; omega)]; rfl
  rw [if_neg h8]
  by_cases h4 : (a.Ops.length : Int) > 4
  · rw [if_pos h4, decide_eq_false (fun hg => by have := hg.2.2.1; omega)]; rfl
  rw [if_neg h4]
  simp only [Option.bind_some]
  obtain ⟨n, hn⟩ := Int.eq_ofNat_of_zero_le (show 0 ≤ a.Size by omega)
  have this := loop_find (body := F_impl_IsAlgebra_l1 a) (fun i => (i : Int)) a.Ops.length (fun i => ¬ opOk n (nth a.Ops i)) () () (fun i hi hb => by
    have hl := h.2 _ (nth_mem hi)
    unfold F_impl_IsAlgebra_l1
    rw [if_pos (by omega), ask_pos (by omega), Int.toNat_natCast, hn, F_isOp (by omega) (by rw [lim_def]; omega)]
    simp only [Option.bind_some]
    rw [decide_eq_true (Classical.not_not.1 hb), if_pos rfl, ask_pos (by unfold InI; omega)]; rfl) (fun i hi hb => by
    have hl := h.2 _ (nth_mem hi)
    unfold F_impl_IsAlgebra_l1
    rw [if_pos (by omega), ask_pos (by omega), Int.toNat_natCast, hn, F_isOp (by omega) (by rw [lim_def]; omega)]
    simp only [Option.bind_some]
    rw [decide_eq_false hb, if_neg (by simp)]) (by
    unfold F_impl_IsAlgebra_l1
    rw [if_neg (by omega)]) 0 (by omega)
  refine (find_bool this false true).trans (congrArg some (dec_not ?_))
  rw [find_all]
  have hnn : a.Size.toNat = n := by omega
  constructor
  · intro hh
    refine ⟨by omega, by omega, by omega, fun f hf => ?_⟩
    obtain ⟨i, hi, rfl⟩ := mem_nth.1 hf
    rw [hnn]; exact hh i hi
  · intro hg i hi
    have := hg.2.2.2 _ (nth_mem hi)
    rwa [hnn] at this
def typeA (a : SAlgebra) : List Int := a.Ops.map (·.Arity)
theorem typeA_take {a : SAlgebra} {i : Nat} (hi : i < a.Ops.length) : (a.Ops.take (i + 1)).map (·.Arity) = (a.Ops.take i).map (·.Arity) ++ [(nth a.Ops i).Arity] := by
  rw [take_nth hi, List.map_append]; rfl
theorem F_typeOf {a : SAlgebra} (h : smallA a) : F_impl_typeOf a = some (typeA a) := by
  unfold F_impl_typeOf
  have h0 := h.1
  have key := loop_seq (body := F_impl_typeOf_l1 a) (fun i => ((i : Int), (a.Ops.take i).map (·.Arity))) a.Ops.length (typeA a) (fun i hi => by
    unfold F_impl_typeOf_l1
    dsimp only
    rw [if_pos (by omega), ask_pos (by omega), Int.toNat_natCast, ask_pos (by rw [lim_def]; simp only [List.length_map, List.length_take, List.length_cons, List.length_nil]; omega), ask_pos (by unfold InI; omega), typeA_take hi]
    rfl) (by
    unfold F_impl_typeOf_l1
    dsimp only
    rw [if_neg (by omega), List.take_length]
    rfl)
  have key' : loopO (F_impl_typeOf_l1 a) (0, nilL Int) = _ := key
  rw [key']; rfl
theorem F_sameList {xs ys : List Int} (h : xs.length ≤ LIM) : F_impl_sameList xs ys = some (decide (xs = ys)) := by
  unfold F_impl_sameList
  rw [lim_def] at h
  by_cases hne : xs.length = ys.length
  · rw [if_neg (by omega)]
    have this := loop_find (body := F_impl_sameList_l1 xs ys) (fun i => (i : Int)) xs.length (fun i => ¬ nth xs i = nth ys i) () () (fun i hi hb => by
      unfold F_impl_sameList_l1
      rw [if_pos (by omega), ask_pos (by omega), ask_pos (by omega)]
      simp only [Int.toNat_natCast]
      rw [if_neg (fun hc => hc (Classical.not_not.1 hb).symm), ask_pos (by unfold InI; omega)]; rfl) (fun i hi hb => by
      unfold F_impl_sameList_l1
      rw [if_pos (by omega), ask_pos (by omega), ask_pos (by omega)]
      simp only [Int.toNat_natCast]
      rw [if_pos (fun hc => hb hc.symm)]) (by unfold F_impl_sameList_l1; rw [if_neg (by omega)]) 0 (by omega)
    refine (find_bool this false true).trans (congrArg some (dec_not ?_))
    rw [find_all]
    exact ⟨fun hh => nth_ext hne hh, fun hh i _ => by rw [hh]⟩
  · rw [if_pos (by omega), decide_eq_false (fun hh => hne (by rw [hh]))]
end Go.Proofs.Ytoikbcagaanhgaa.Ax
namespace Go.Proofs.Ytoikbcagaanhgaa.Ax
open Go Classical
theorem F_sameAlgebra {a b : SAlgebra} (h : smallA a) : F_impl_sameAlgebra a b = some (decide (a = b)) := by
  unfold F_impl_sameAlgebra
  have h0 := h.1
  by_cases hs : a.Size = b.Size
  · rw [if_neg (by simpa using hs)]
    by_cases hl : a.Ops.length = b.Ops.length
    · rw [if_neg (by omega)]
      simp only [Option.bind_some]
      have this := loop_find (body := F_impl_sameAlgebra_l1 a b) (fun i => (i : Int)) a.Ops.length (fun i => ¬ nth a.Ops i = nth b.Ops i) () () (fun i hi hb => by
        have hb := Classical.not_not.1 hb
        have ht := h.2 _ (nth_mem hi)
        unfold F_impl_sameAlgebra_l1
        rw [if_pos (by omega), ask_pos (by omega), ask_pos (by omega)]
        simp only [Int.toNat_natCast]
        rw [if_neg (by rw [hb]; simp), ask_pos (by omega), F_sameList (by rw [lim_def]; omega)]
        simp only [Option.bind_some]
        rw [decide_eq_true (by rw [hb]), if_pos rfl, ask_pos (by unfold InI; omega)]; rfl) (fun i hi hb => by
        have ht := h.2 _ (nth_mem hi)
        unfold F_impl_sameAlgebra_l1
        rw [if_pos (by omega), ask_pos (by omega), ask_pos (by omega)]
        simp only [Int.toNat_natCast]
        by_cases ha : (nth a.Ops i).Arity = (nth b.Ops i).Arity
        · rw [if_neg (by simpa using ha), ask_pos (by omega), F_sameList (by rw [lim_def]; omega)]
          simp only [Option.bind_some]
          have hne : ¬ (nth a.Ops i).Table = (nth b.Ops i).Table := fun ht => hb (by
            cases h1 : nth a.Ops i; cases h2 : nth b.Ops i
            rw [h1, h2] at ha ht
            simp_all)
          rw [decide_eq_false hne, if_neg (by simp)]
        · rw [if_pos ha]) (by
        unfold F_impl_sameAlgebra_l1
        rw [if_neg (by omega)]) 0 (by omega)
      refine (find_bool this false true).trans (congrArg some (dec_not ?_))
      rw [find_all]
      constructor
      · intro hh
        have := nth_ext hl hh
        cases a; cases b; simp_all
      · intro hh i _; rw [hh]
    · rw [if_pos (by omega), decide_eq_false (fun hh => hl (by rw [hh]))]; rfl
  · rw [if_pos hs, decide_eq_false (fun hh => hs (by rw [hh]))]; rfl
noncomputable def meetF (n : Nat) (T : List Int) (x y : Nat) : Bool := decide (nth T (x * n + y) = (x : Int))
theorem F_orderOfMeet {n : Nat} (hn : n ≤ 8) {T : List Int} (hT : T.length = n * n) : F_impl_orderOfMeet n T = some (tab n (meetF n T)) := by
  unfold F_impl_orderOfMeet
  rw [F_newOrder _ (by rw [lim_def]; omega)]
  simp only [Option.bind_some]
  have key := fill_tab (N := n) (meetF n T) (inner := fun x t => F_impl_orderOfMeet_l1 n T (tab n fun _ _ => false) (x : Int) t) (outer := F_impl_orderOfMeet_l2 n T (tab n fun _ _ => false)) (fun x y H0 H hx hy => by
    unfold F_impl_orderOfMeet_l1
    dsimp only
    have t5 := tab_len n H0
    have t6 := tab_len n H
    have t7 := tab_row_len n H x hx
    have h1 := Nat.mul_le_mul_right n (show x + 1 ≤ n by omega)
    rw [Nat.succ_mul] at h1
    have h2 : n * n ≤ 8 * 8 := Nat.mul_le_mul hn hn
    simp only [t5, t6, ← Int.natCast_mul, Int.toNat_natCast, t7]
    rw [if_pos (by omega), ask_pos (by omega), ask_pos (by unfold InI; omega), ask_pos (by unfold InI; omega), ask_pos (by omega), ask_pos (by omega), ask_pos (by unfold InI; omega), tab_set _ _ _ _ _ hx hy]
    have e : (nth T (((x * n : Nat) : Int) + (y : Int)).toNat == (x : Int)) = meetF n T x y := by
      rw [show (((x * n : Nat) : Int) + (y : Int)).toNat = x * n + y by omega]
      unfold meetF
      rw [Bool.eq_iff_iff, beq_iff_eq, decide_eq_true_eq]
    rw [e]
    rfl) (fun x H0 H hx => by
    unfold F_impl_orderOfMeet_l1
    dsimp only
    rw [tab_len, if_neg (by omega)]) (fun x H t hx e => by
    unfold F_impl_orderOfMeet_l2
    dsimp only
    rw [tab_len, if_pos (by omega), e]
    simp only [Option.bind_some]
    rw [ask_pos (by unfold InI; omega)]; rfl) (fun H => by
    unfold F_impl_orderOfMeet_l2
    dsimp only
    rw [tab_len, if_neg (by omega)])
  rw [key]; rfl
end Go.Proofs.Ytoikbcagaanhgaa.Ax
namespace Go.Proofs.Ytoikbcagaanhgaa.Ax
open Go Classical
def argL (n : Nat) : Nat → Nat → List Int
  | 0, _ => []
  | r + 1, k => argL n r (k / n) ++ [((k % n : Nat) : Int)]
theorem argL_len (n : Nat) : ∀ r k, (argL n r k).length = r := by
  intro r
  induction r with
  | zero => intro k; rfl
  | succ r ih => intro k; simp [argL, ih]
theorem argL_in {n : Nat} (hn : 0 < n) : ∀ r k, inSize (argL n r k) n := by
  intro r
  induction r with
  | zero => intro k x hx; cases hx
  | succ r ih =>
    intro k x hx
    simp only [argL] at hx
    rcases List.mem_append.1 hx with hx | hx
    · exact ih _ x hx
    · rw [List.mem_singleton.1 hx]
      have := Nat.mod_lt k hn
      omega
def horn (m : Nat) (xs : List Int) : Int := xs.foldl (fun s x => s * (m : Int) + x) 0
theorem horn_snoc (m : Nat) (xs : List Int) (y : Int) : horn m (xs ++ [y]) = horn m xs * (m : Int) + y := by
  unfold horn; rw [List.foldl_append]; rfl
theorem horn_lt {m : Nat} : ∀ (r : Nat) (xs : List Int), xs.length = r → inSize xs m → ∃ c : Nat, horn m xs = (c : Int) ∧ c < m ^ r := by
  intro r
  induction r with
  | zero =>
    intro xs hl _
    have : xs = [] := List.length_eq_zero_iff.1 hl
    subst this
    exact ⟨0, rfl, by simp⟩
  | succ r ih =>
    intro xs hl hx
    obtain ⟨ys, y, rfl⟩ : ∃ ys y, xs = ys ++ [y] := by
      refine ⟨xs.take r, nth xs r, ?_⟩
      rw [← take_nth (by omega), List.take_of_length_le (by omega)]
    have hy := hx y (by simp)
    obtain ⟨c, h1, h2⟩ := ih ys (by simpa using hl) fun z hz => hx z (by simp [hz])
    obtain ⟨d, rfl⟩ := Int.eq_ofNat_of_zero_le hy.1
    refine ⟨c * m + d, by rw [horn_snoc, h1]; push_cast; rfl, ?_⟩
    have h3 := Nat.mul_le_mul_right m (show c + 1 ≤ m ^ r from h2)
    rw [Nat.succ_mul] at h3
    rw [Nat.pow_succ]
    omega
theorem horn_bound {m : Nat} (hm : m ≤ 8) {xs : List Int} (hl : xs.length ≤ 3) (hx : inSize xs m) : ∃ c : Nat, horn m xs = (c : Int) ∧ c < m ^ xs.length ∧ c < 512 := by
  obtain ⟨c, h1, h2⟩ := horn_lt xs.length xs rfl hx
  have := pow_le hm hl
  exact ⟨c, h1, h2, by omega⟩
def lowI (n m : Nat) (f : List Int) : Nat → Nat → Int
  | 0, _ => 0
  | r + 1, k => lowI n m f r (k / n) * (m : Int) + nth f (k % n)
theorem horn_low (n m : Nat) (f : List Int) : ∀ r k, horn m ((argL n r k).map fun x => nth f x.toNat) = lowI n m f r k := by
  intro r
  induction r with
  | zero => intro k; rfl
  | succ r ih =>
    intro k
    simp only [argL, lowI, List.map_append, List.map_cons, List.map_nil, Int.toNat_natCast]
    rw [horn_snoc, ih]
theorem images_in {n m : Nat} (hn : 0 < n) {f : List Int} (hf : f.length = n) (hfx : inSize f m) (r k : Nat) : inSize ((argL n r k).map fun x => nth f x.toNat) m := by
  intro y hy
  obtain ⟨x, hx, rfl⟩ := List.mem_map.1 hy
  have := argL_in hn r k x hx
  exact hfx _ (nth_mem (by omega))
structure Homs (a b : SAlgebra) (f : List Int) (n m : Nat) : Prop where
  ga : goodA a
  gb : goodA b
  ty : typeA a = typeA b
  sa : a.Size = n
  sb : b.Size = m
  len : f.length = n
  fin : inSize f m
section
variable {a b : SAlgebra} {f : List Int} {n m : Nat}
theorem Homs.pos (h : Homs a b f n m) : 0 < n ∧ n ≤ 8 ∧ 0 < m ∧ m ≤ 8 := by
  have := h.sa; have := h.sb; have := h.ga.1; have := h.ga.2.1; have := h.gb.1; have := h.gb.2.1
  omega
theorem Homs.low (h : Homs a b f n m) {r k : Nat} (hr : r ≤ 3) : ∃ c : Nat, lowI n m f r k = (c : Int) ∧ c < m ^ r := by
  obtain ⟨hn, _, _, hm⟩ := h.pos
  obtain ⟨c, h1, h2, _⟩ := horn_bound hm (xs := (argL n r k).map fun x => nth f x.toNat) (by rw [List.length_map, argL_len]; exact hr) (images_in hn h.len h.fin r k)
  rw [horn_low] at h1
  rw [List.length_map, argL_len] at h2
  exact ⟨c, h1, h2⟩
end
def uniq (f : List Int) : Prop := ∀ i, i < f.length → nth f i ∉ f.take i
end Go.Proofs.Ytoikbcagaanhgaa.Ax
namespace Go.Proofs.Ytoikbcagaanhgaa.Ax
open Go Classical
theorem F_l2Perm {f : List Int} (hl : f.length ≤ LIM) {n : Nat} (hn1 : n ≤ 100) : F_spec_l2Perm f n = some (decide ((f.length : Int) = n ∧ inSize f n ∧ uniq f)) := by
  unfold F_spec_l2Perm
  by_cases h1 : (f.length : Int) = n
  · rw [if_neg (by simpa using h1), F_l2Elements n f hl (by rw [lim_def]; omega)]
    simp only [Option.bind_some]
    by_cases h2 : inSize f n
    · rw [decide_eq_true h2, if_pos rfl]
      simp only [Option.bind_some]
      have hn : n = f.length := by omega
      subst hn
      rw [ask_pos (by rw [lim_def]; omega), Int.toNat_natCast]
      have this := loop_find (body := F_spec_l2Perm_l1 f f.length) (fun i => ((i : Int), btab f.length fun z => decide ((z : Int) ∈ f.take i))) f.length (fun i => nth f i ∈ f.take i) () () (fun i hi hb => by
        have hv := h2 _ (nth_mem hi)
        have hc : nth f i = (((nth f i).toNat : Nat) : Int) := by omega
        have hlen := btab_len f.length fun z => decide ((z : Int) ∈ f.take i)
        unfold F_spec_l2Perm_l1
        dsimp only
        rw [if_pos (by omega), ask_pos (by omega), Int.toNat_natCast, ask_pos (by omega), btab_at (by omega), if_neg (by rw [← hc]; simpa using hb), ask_pos (by omega), ask_pos (by omega), ask_pos (by unfold InI; omega), btab_set (by omega)]
        refine congrArg (fun x => some (Sum.inl (_, x))) (btab_congr fun z _ => ?_)
        rw [take_nth hi]
        by_cases hz : z = (nth f i).toNat
        · rw [if_pos hz]
          refine (decide_eq_true ?_).symm
          rw [List.mem_append, List.mem_singleton]; right; omega
        · rw [if_neg hz, decide_eq_decide, List.mem_append, List.mem_singleton]
          exact ⟨.inl, fun h => h.resolve_right (by omega)⟩) (fun i hi hb => by
        have hv := h2 _ (nth_mem hi)
        have hc : nth f i = (((nth f i).toNat : Nat) : Int) := by omega
        have hlen := btab_len f.length fun z => decide ((z : Int) ∈ f.take i)
        unfold F_spec_l2Perm_l1
        dsimp only
        rw [if_pos (by omega), ask_pos (by omega), Int.toNat_natCast, ask_pos (by omega), btab_at (by omega), if_pos (by rw [← hc]; simpa using hb)]) (by
        unfold F_spec_l2Perm_l1
        dsimp only
        rw [if_neg (by omega)]) 0 (by omega)
      have e0 : (btab f.length fun z => decide ((z : Int) ∈ f.take 0)) = List.replicate f.length false := by
        rw [btab_false]; exact btab_congr fun z _ => by simp
      simp only [e0] at this
      refine (find_bool this false true).trans (congrArg some (dec_not ?_))
      constructor
      · intro hno
        exact ⟨rfl, h2, fun i hi hm => hno ⟨i, by omega, hi, hm⟩⟩
      · rintro ⟨_, _, hu⟩ ⟨i, _, hi, hm⟩
        exact hu i hi hm
    · rw [decide_eq_false h2, if_neg (by simp), decide_eq_false (fun h => h2 h.2.1)]; rfl
  · rw [if_pos (by simpa using h1), decide_eq_false (fun h => h1 h.1)]; rfl
structure Perm (f : List Int) (n : Nat) : Prop where
  len : f.length = n
  fin : inSize f n
  un : uniq f
section
variable {a : SAlgebra} {f : List Int} {n : Nat}
end
end Go.Proofs.Ytoikbcagaanhgaa.Ax
namespace Go.Proofs.Ytoikbcagaanhgaa.Ax
open Go Classical
noncomputable def many (n : Nat) (q : Nat → Bool) : Nat := (sieve n q).length
theorem many_succ (n : Nat) (q : Nat → Bool) : many (n + 1) q = many n q + if q n = true then 1 else 0 := by
  unfold many; rw [sieve_succ]
  by_cases h : q n = true
  · rw [if_pos h, if_pos h]; simp
  · rw [if_neg h, if_neg h]; rfl
theorem many_congr {n : Nat} {q r : Nat → Bool} (h : ∀ i, i < n → q i = r i) : many n q = many n r := by
  unfold many; rw [sieve_congr h]
theorem many_le {n : Nat} {q r : Nat → Bool} (h : ∀ i, i < n → q i = true → r i = true) : many n q ≤ many n r := by
  induction n with
  | zero => exact Nat.le_refl _
  | succ n ih =>
    have := ih fun i hi => h i (by omega)
    rw [many_succ, many_succ]
    by_cases hq : q n = true
    · rw [if_pos hq, if_pos (h n (by omega) hq)]; omega
    · rw [if_neg hq]; split <;> omega
theorem many_lt {n : Nat} {q r : Nat → Bool} (h : ∀ i, i < n → q i = true → r i = true) {k : Nat} (hk : k < n) (h1 : q k = false) (h2 : r k = true) : many n q < many n r := by
  induction n with
  | zero => omega
  | succ n ih =>
    rw [many_succ, many_succ]
    by_cases hkn : k = n
    · subst hkn
      have := many_le (n := k) (q := q) (r := r) fun i hi => h i (by omega)
      rw [if_neg (by simp [h1]), if_pos h2]; omega
    · have := ih (fun i hi => h i (by omega)) (by omega)
      by_cases hq : q n = true
      · rw [if_pos hq, if_pos (h n (by omega) hq)]; omega
      · rw [if_neg hq]; split <;> omega
theorem many_none {n : Nat} {q : Nat → Bool} (h : ∀ i, i < n → q i = false) : many n q = 0 := by
  unfold many; rw [sieve_nil.2 h]; rfl
theorem many_pos {n : Nat} {q : Nat → Bool} (h : many n q ≠ 0) : ∃ i, i < n ∧ q i = true := by
  apply Classical.byContradiction
  intro hh
  exact h (many_none fun i hi => by
    cases hq : q i with
    | false => rfl
    | true => exact (hh ⟨i, hi, hq⟩).elim)
theorem many_one {n b : Nat} (hb : b < n) : many n (fun i => decide (b = i)) = 1 := by
  induction n with
  | zero => omega
  | succ n ih =>
    rw [many_succ]
    by_cases h : b = n
    · subst h
      rw [many_none fun i hi => by simp; omega]; simp
    · rw [ih (by omega)]; simp [h]
theorem many_two {n : Nat} {q : Nat → Bool} {a : Nat} (ha : a < n) (hq : q a = true) (h1 : many n q ≠ 1) : ∃ b, b < n ∧ q b = true ∧ b ≠ a := by
  apply Classical.byContradiction
  intro hh
  apply h1
  rw [← many_one ha]
  refine many_congr fun i hi => ?_
  by_cases hia : a = i
  · subst hia; simp [hq]
  · cases hqi : q i with
    | false => simp [hia]
    | true => exact (hh ⟨i, hi, hqi, fun e => hia e.symm⟩).elim
section
variable {n : Nat} {f : Nat → Nat → Bool}
theorem cov_iff {x y : Nat} : cov n f x y = true ↔ (x ≠ y ∧ f x y = true) ∧ ∀ z, z < n → ¬ ((x ≠ z ∧ f x z = true) ∧ (z ≠ y ∧ f z y = true)) := by
  unfold cov; rw [decide_eq_true_eq]
theorem cov_under (ho : Ord n f) : ∀ k x y, x < n → y < n → x ≠ y → f x y = true → many n (fun z => decide (x ≠ z ∧ f x z = true ∧ z ≠ y ∧ f z y = true)) ≤ k → ∃ c, c < n ∧ f x c = true ∧ cov n f c y = true := by
  intro k
  induction k with
  | zero =>
    intro x y hx hy hne hf hk
    refine ⟨x, hx, ho.refl x hx, cov_iff.2 ⟨⟨hne, hf⟩, fun z hz hh => ?_⟩⟩
    have : 0 < many n (fun z => decide (x ≠ z ∧ f x z = true ∧ z ≠ y ∧ f z y = true)) := by
      have h0 := many_lt (n := n) (q := fun _ => false) (r := fun z => decide (x ≠ z ∧ f x z = true ∧ z ≠ y ∧ f z y = true)) (by simp) hz rfl (decide_eq_true ⟨hh.1.1, hh.1.2, hh.2.1, hh.2.2⟩)
      omega
    omega
  | succ k ih =>
    intro x y hx hy hne hf hk
    by_cases hc : cov n f x y = true
    · exact ⟨x, hx, ho.refl x hx, hc⟩
    · have : ∃ z, z < n ∧ (x ≠ z ∧ f x z = true) ∧ (z ≠ y ∧ f z y = true) := by
        apply Classical.byContradiction
        intro hh
        exact hc (cov_iff.2 ⟨⟨hne, hf⟩, fun z hz h => hh ⟨z, hz, h⟩⟩)
      obtain ⟨z, hz, ⟨h1, h2⟩, h3, h4⟩ := this
      obtain ⟨c, hc1, hc2, hc3⟩ := ih z y hz hy h3 h4 (by
        have := many_lt (n := n) (q := fun w => decide (z ≠ w ∧ f z w = true ∧ w ≠ y ∧ f w y = true)) (r := fun w => decide (x ≠ w ∧ f x w = true ∧ w ≠ y ∧ f w y = true)) (fun w hw hh => by
          obtain ⟨a1, a2, a3, a4⟩ := of_decide_eq_true hh
          refine decide_eq_true ⟨fun e => ?_, ho.trans x z w hx hz hw h2 a2, a3, a4⟩
          subst e
          exact h1 (ho.anti x z hx hz h2 a2)) (k := z) hz (decide_eq_false fun hh => hh.1 rfl) (decide_eq_true ⟨h1, h2, h3, h4⟩)
        omega)
      exact ⟨c, hc1, ho.trans x z c hx hz hc1 h2 hc2, hc3⟩
noncomputable def lc (n : Nat) (f : Nat → Nat → Bool) (y : Nat) : Nat := many n fun x => cov n f x y
noncomputable def isJ (n : Nat) (f : Nat → Nat → Bool) (y : Nat) : Bool := decide (lc n f y = 1)
theorem lc_zero (ho : Ord n f) {b : Nat} (hb : b < n) (hle : ∀ x, x < n → f b x = true) {y : Nat} (hy : y < n) : lc n f y = 0 ↔ b = y := by
  constructor
  · intro h
    apply Classical.byContradiction
    intro hne
    obtain ⟨c, h1, _, h3⟩ := cov_under ho _ b y hb hy hne (hle y hy) (Nat.le_refl _)
    have : 0 < lc n f y := by
      have := many_lt (n := n) (q := fun _ => false) (r := fun x => cov n f x y) (by simp) h1 rfl h3
      unfold lc; omega
    omega
  · rintro rfl
    refine many_none fun x hx => ?_
    cases hc : cov n f x b with
    | false => rfl
    | true =>
      have := (cov_iff.1 hc).1
      exact (this.1 (ho.anti x b hx hb this.2 (hle x hx))).elim
theorem join_irr (ho : Ord n f) (hm : meets n f) {b : Nat} (hb : b < n) (hle : ∀ x, x < n → f b x = true) {u : Nat} (hu : u < n) :
    ∀ k x, x < n → many n (fun z => f z x) ≤ k → (∀ j, j < n → isJ n f j = true → f j x = true → f j u = true) → f x u = true := by
  intro k
  induction k with
  | zero =>
    intro x hx hk _
    have := many_lt (n := n) (q := fun _ => false) (r := fun z => f z x) (by simp) hx rfl (ho.refl x hx)
    omega
  | succ k ih =>
    intro x hx hk hj
    by_cases h1 : lc n f x = 1
    · exact hj x hx (decide_eq_true h1) (ho.refl x hx)
    · by_cases h0 : lc n f x = 0
      · rw [← (lc_zero ho hb hle hx).1 h0]; exact hle u hu
      · obtain ⟨c, hc, hcx⟩ := many_pos h0
        obtain ⟨d, hd, hdx, hne⟩ := many_two hc hcx h1
        have down : ∀ e, e < n → cov n f e x = true → f e u = true := by
          intro e he hex
          obtain ⟨⟨e1, e2⟩, _⟩ := cov_iff.1 hex
          refine ih e he ?_ fun j hjn h2 h3 => hj j hjn h2 (ho.trans j e x hjn he hx h3 e2)
          have := many_lt (n := n) (q := fun z => f z e) (r := fun z => f z x) (fun z hz h => ho.trans z e x hz he hx h e2) hx (by
            cases hh : f x e with
            | false => rfl
            | true => exact (e1 (ho.anti e x he hx e2 hh)).elim) (ho.refl x hx)
          omega
        have hcu := down c hc hcx
        have hdu := down d hd hdx
        have hi := inf_lt hm hx hu
        have i1 := inf_left hm hx hu
        have i2 := inf_right hm hx hu
        obtain ⟨⟨c1, c2⟩, c3⟩ := cov_iff.1 hcx
        obtain ⟨⟨d1, d2⟩, d3⟩ := cov_iff.1 hdx
        have ci := inf_max hm hx hu hc c2 hcu
        have di := inf_max hm hx hu hd d2 hdu
        by_cases hx1 : inf n f x u = x
        · rw [← hx1]; exact i2
        · have e1 : c = inf n f x u := Classical.byContradiction fun hne' => c3 _ hi ⟨⟨hne', ci⟩, hx1, i1⟩
          have e2 : d = inf n f x u := Classical.byContradiction fun hne' => d3 _ hi ⟨⟨hne', di⟩, hx1, i1⟩
          exact (hne (e2.trans e1.symm)).elim
end
theorem prod_at {m x y : Nat} (hy : y < m) : (x * m + y) / m = x ∧ (x * m + y) % m = y := by
  constructor
  · rw [Nat.mul_comm, Nat.mul_add_div (by omega), Nat.div_eq_of_lt hy, Nat.add_zero]
  · rw [Nat.mul_comm, Nat.mul_add_mod, Nat.mod_eq_of_lt hy]
theorem pair_lt {n m x y : Nat} (hx : x < n) (hy : y < m) : x * m + y < n * m := by
  have := Nat.mul_le_mul_right m (show x + 1 ≤ n by omega)
  rw [Nat.succ_mul] at this; omega
theorem pair_of {n m z : Nat} (hz : z < n * m) : ∃ x y, x < n ∧ y < m ∧ z = x * m + y := by
  have hm : 0 < m := by
    rcases Nat.eq_zero_or_pos m with h | h
    · subst h; simp at hz
    · exact h
  exact ⟨z / m, z % m, Nat.div_lt_of_lt_mul (by rw [Nat.mul_comm]; exact hz), Nat.mod_lt _ hm, by rw [Nat.mul_comm, Nat.div_add_mod]⟩
section
variable {n m : Nat} {f g : Nat → Nat → Bool}
end
end Go.Proofs.Ytoikbcagaanhgaa.Ax
namespace Go.Proofs.Ytoikbcagaanhgaa.Ax
open Go
def Cur (k : Nat) (c : Sl1Cur) : Prop := (∀ x ∈ c.code, 0 ≤ x ∧ x ≤ 255) ∧ c.code.length ≤ 65536 ∧ 0 ≤ c.at_ ∧ c.at_ ≤ k
theorem Cur.mono {k l : Nat} {c : Sl1Cur} (h : Cur k c) (hl : k ≤ l) : Cur l c := ⟨h.1, h.2.1, h.2.2.1, by have := h.2.2.2; omega⟩
theorem wrapU_in {n : Int} (h0 : 0 ≤ n) (h1 : n ≤ 255) : IntKind.u64.wrap n = n := by
  simp [IntKind.wrap, IntKind.bits, IntKind.signed]
  omega
theorem draw_next {c : Sl1Cur} {k : Nat} (h : Cur k c) (hk : k ≤ 1000000000) : ∃ r d, F_spec_l1Cur_next c = some (r, d) ∧ Cur (k + 1) d ∧ 0 ≤ r ∧ r ≤ 255 := by
  obtain ⟨h1, h2, h3, h4⟩ := h
  unfold F_spec_l1Cur_next
  have fin : ∀ q : Int, 0 ≤ q → q ≤ 255 → ∃ r d, (ask (InI (c.at_ + 1)) <|
      if c.at_ + 1 ≤ (c.code.length : Int) then
        some (q, ({ code := c.code, at_ := c.at_ + 1, seed := IntKind.u64.wrap (IntKind.u64.wrap (IntKind.u64.wrap (c.seed * 6364136223846793005) + IntKind.u64.wrap q) + 550289) } : Sl1Cur))
      else some (IntKind.i64.wrap (IntKind.u64.wrap (((BitVec.ofInt IntKind.u64.bits ((IntKind.u64.wrap (IntKind.u64.wrap (IntKind.u64.wrap (c.seed * 6364136223846793005) + IntKind.u64.wrap q) + 550289)).fdiv (2 ^ min (Int.toNat 40) IntKind.u64.bits)) &&& BitVec.ofInt IntKind.u64.bits 255).toNat : Nat) : Int)),
        ({ code := c.code, at_ := c.at_ + 1, seed := IntKind.u64.wrap (IntKind.u64.wrap (IntKind.u64.wrap (c.seed * 6364136223846793005) + IntKind.u64.wrap q) + 550289) } : Sl1Cur))) = some (r, d) ∧ Cur (k + 1) d ∧ 0 ≤ r ∧ r ≤ 255 := by
    intro q hq0 hq1
    rw [ask_pos (by unfold InI; omega)]
    split
    · exact ⟨_, _, rfl, ⟨h1, h2, by show 0 ≤ c.at_ + 1; omega, by show c.at_ + 1 ≤ ((k + 1 : Nat) : Int); omega⟩, hq0, hq1⟩
    · refine ⟨_, _, rfl, ⟨h1, h2, by show 0 ≤ c.at_ + 1; omega, by show c.at_ + 1 ≤ ((k + 1 : Nat) : Int); omega⟩, ?_⟩
      generalize BitVec.ofInt IntKind.u64.bits ((IntKind.u64.wrap (IntKind.u64.wrap (IntKind.u64.wrap (c.seed * 6364136223846793005) + IntKind.u64.wrap q) + 550289)).fdiv (2 ^ min (Int.toNat 40) IntKind.u64.bits)) = b
      have hb : (b &&& BitVec.ofInt IntKind.u64.bits 255).toNat ≤ 255 := by
        rw [BitVec.toNat_and]
        have : (BitVec.ofInt IntKind.u64.bits 255).toNat = 255 := by decide
        rw [this]
        exact Nat.and_le_right
      generalize (b &&& BitVec.ofInt IntKind.u64.bits 255).toNat = z at hb
      rw [wrapU_in (by omega) (by omega), wrap_in (by omega) (by omega)]
      omega
  by_cases hc : c.at_ < (c.code.length : Int)
  · rw [if_pos hc, ask_pos ⟨h3, hc⟩]
    have hm := h1 _ (nth_mem (xs := c.code) (i := c.at_.toNat) (by omega))
    rw [wrap_in (by omega) (by omega)]
    simp only [Option.bind_some]
    exact fin _ hm.1 hm.2
  · rw [if_neg hc]
    simp only [Option.bind_some]
    exact fin 0 (by omega) (by omega)
theorem draw_pick {c : Sl1Cur} {k : Nat} (h : Cur k c) (hk : k ≤ 900000000) (n : Int) : ∃ r d, F_spec_l1Cur_pick c n = some (r, d) ∧ Cur (k + 2) d ∧ 0 ≤ r ∧ (r < n ∨ (n ≤ 1 ∧ r = 0)) := by
  unfold F_spec_l1Cur_pick
  by_cases h1 : n ≤ 1
  · rw [if_pos h1]; exact ⟨0, c, rfl, h.mono (by omega), by omega, .inr ⟨h1, rfl⟩⟩
  · rw [if_neg h1]
    obtain ⟨r, d, e, hd, a1, a2⟩ := draw_next h (by omega)
    simp only [e, Option.bind_some]
    by_cases h2 : n > 200
    · rw [if_pos h2, ask_pos (by unfold InI; omega)]
      obtain ⟨r2, d2, e2, hd2, b1, b2⟩ := draw_next hd (by omega)
      simp only [e2, Option.bind_some]
      rw [ask_pos (by unfold InI; omega), ask_pos (by omega)]
      refine ⟨_, _, rfl, hd2, Int.tmod_nonneg _ (by omega), .inl ?_⟩
      exact Int.tmod_lt_of_pos _ (by omega)
    · rw [if_neg h2, ask_pos (by omega)]
      refine ⟨_, _, rfl, hd.mono (by omega), Int.tmod_nonneg _ (by omega), .inl ?_⟩
      exact Int.tmod_lt_of_pos _ (by omega)
theorem draw_one {c : Sl1Cur} {k : Nat} (h : Cur k c) (hk : k ≤ 900000000) (n : Int) : ∃ b d, F_spec_l1Cur_one c n = some (b, d) ∧ Cur (k + 2) d := by
  unfold F_spec_l1Cur_one
  obtain ⟨r, d, e, hd, _, _⟩ := draw_pick h hk n
  simp only [e, Option.bind_some]
  exact ⟨_, _, rfl, hd⟩
theorem draw_among {c : Sl1Cur} {k : Nat} (h : Cur k c) (hk : k ≤ 900000000) (l : List Int) (h0 : 0 < l.length) : ∃ r d, F_spec_l1Cur_among c l = some (r, d) ∧ Cur (k + 2) d ∧ r ∈ l := by
  unfold F_spec_l1Cur_among
  obtain ⟨r, d, e, hd, a1, a2⟩ := draw_pick h hk (l.length : Int)
  simp only [e, Option.bind_some]
  rw [ask_pos (by omega)]
  exact ⟨_, _, rfl, hd, nth_mem (by omega)⟩
theorem draw_names {c : Sl1Cur} {k : Nat} (h : Cur k c) (hk : k ≤ 800000000) (n : Nat) (hn : n ≤ 10) : ∃ l d, F_spec_l1Cur_names2 c (n : Int) = some (l, d) ∧ Cur (k + 40) d ∧ l.length ≤ 11 := by
  unfold F_spec_l1Cur_names2
  obtain ⟨⟨l, d⟩, e, hl, hd⟩ := loop_inv (body := F_spec_l1Cur_names2_l1 (n : Int)) (fun s => ∃ i : Nat, s.1 = (i : Int) ∧ i ≤ n ∧ s.2.1.length = i ∧ Cur (k + 2 * i) s.2.2) (fun s => n - s.1.toNat)
    (fun t => t.1.length = n ∧ Cur (k + 2 * n) t.2) (fun s hs => by
      obtain ⟨x6, x5, x53⟩ := s
      obtain ⟨i, e1, e2, e3, e4⟩ := hs
      simp only at e1 e3 e4
      subst e1
      unfold F_spec_l1Cur_names2_l1
      dsimp only
      by_cases hi : i < n
      · left
        rw [if_pos (by omega), ask_pos (by unfold InI; omega)]
        obtain ⟨r, d, e5, hd, a1, a2⟩ := draw_pick e4 (by omega) ((x5.length : Int) + 1)
        simp only [e5, Option.bind_some]
        have hr : r ≤ (x5.length : Int) := by omega
        have ht : (List.take (r.toNat - Int.toNat 0) (List.drop (Int.toNat 0) x5)).length = r.toNat := by simp; omega
        have hd2 : (List.take ((x5.length : Int).toNat - r.toNat) (List.drop r.toNat x5)).length = x5.length - r.toNat := by simp
        have hL := lim_def
        have h0 : (nilL Int).length = 0 := rfl
        rw [ask_pos ⟨by omega, a1, hr⟩, ask_pos (by rw [h0, ht]; omega), ask_pos (by rw [List.length_append, h0, ht]; simp; omega), ask_pos ⟨a1, hr, by omega⟩, ask_pos (by rw [List.length_append, List.length_append, h0, ht, hd2]; simp; omega),
          ask_pos (by unfold InI; omega)]
        refine ⟨_, rfl, ⟨i + 1, by simp, by omega, ?_, hd.mono (by omega)⟩, ?_⟩
        · simp only [List.length_append, h0, ht, hd2]; simp; omega
        · simp only; omega
      · right
        rw [if_neg (by omega)]
        have : i = n := by omega
        subst this
        exact ⟨_, rfl, e3, e4⟩) (s := (0, nilL Int, c)) ⟨0, by simp, by omega, rfl, h⟩
  simp only at hl hd
  rw [e]
  simp only [Option.bind_some]
  obtain ⟨r, d2, e2, hd2, a1, a2⟩ := draw_pick hd (by omega) 24
  simp only [e2, Option.bind_some]
  have hL := lim_def
  by_cases h0 : r = 0
  · rw [if_pos h0, ask_pos (by simp; omega)]
    exact ⟨_, _, rfl, hd2.mono (by omega), by simp; omega⟩
  · rw [if_neg h0]
    by_cases h1 : r = 1
    · rw [if_pos h1]
      by_cases h3 : (n : Int) > 0
      · rw [if_pos h3]
        obtain ⟨r3, d3, e3, hd3, b1, b2⟩ := draw_pick hd2 (by omega) (n : Int)
        simp only [e3, Option.bind_some]
        obtain ⟨r4, d4, e4, hd4, b3⟩ := draw_among hd3 (by omega) [0, -1, (n : Int)] (by simp)
        simp only [e4, Option.bind_some]
        rw [ask_pos (by omega)]
        exact ⟨_, _, rfl, hd4.mono (by omega), by simp; omega⟩
      · rw [if_neg h3]; exact ⟨_, _, rfl, hd2.mono (by omega), by omega⟩
    · rw [if_neg h1]; exact ⟨_, _, rfl, hd2.mono (by omega), by omega⟩
def allPairs (n : Nat) (ps : List (Int × Int)) : Prop := ∀ z ∈ ps, okPair n z
theorem allPairs_nth {n : Nat} {ps : List (Int × Int)} (h : allPairs n ps) : ∀ i, i < ps.length → okPair n (nth ps i) := fun _ hi => h _ (nth_mem hi)
theorem perm_pair {n : Nat} {f : List Int} (hf : (f.length : Int) = n ∧ inSize f n ∧ uniq f) {z : Int × Int} (hz : okPair n z) : okPair n (nth f z.1.toNat, nth f z.2.toNat) := by
  obtain ⟨h1, h2, h3⟩ := hf
  obtain ⟨⟨⟨a1, a2⟩, b1, b2⟩, hne⟩ := hz
  have m1 := h2 _ (nth_mem (xs := f) (i := z.1.toNat) (by omega))
  have m2 := h2 _ (nth_mem (xs := f) (i := z.2.toNat) (by omega))
  refine ⟨⟨m1, m2⟩, fun e => ?_⟩
  have key : ∀ i j, i < j → j < f.length → nth f i ≠ nth f j := by
    intro i j hij hj he
    refine h3 j hj ?_
    rw [← he]
    exact List.mem_take_iff_getElem.2 ⟨i, by omega, by rw [nth_lt (by omega)]⟩
  have hne2 : z.1.toNat ≠ z.2.toNat := by omega
  rcases Nat.lt_or_gt_of_ne hne2 with h4 | h4
  · exact key _ _ h4 (by omega) e
  · exact key _ _ h4 (by omega) e.symm
theorem turn_pairs {n : Nat} {f : List Int} (hf : (f.length : Int) = n ∧ inSize f n ∧ uniq f) {body : (Int × List (Int × Int)) → Option ((Int × List (Int × Int)) ⊕ List (Int × Int))} (L : Nat) (hL : L ≤ 1000000)
    (hb : ∀ (i : Nat) (ps : List (Int × Int)), ps.length = L → allPairs n ps → body ((i : Int), ps) = if i < L then some (.inl (((i + 1 : Nat) : Int), ps.set i (nth f (nth ps i).1.toNat, nth f (nth ps i).2.toNat))) else some (.inr ps))
    {ps : List (Int × Int)} (h0 : ps.length = L) (hp : allPairs n ps) : ∃ t, loopO body (0, ps) = some t ∧ t.length = L ∧ allPairs n t := by
  refine loop_inv (body := body) (fun s => ∃ i : Nat, s.1 = (i : Int) ∧ i ≤ L ∧ s.2.length = L ∧ allPairs n s.2) (fun s => L - s.1.toNat) (fun t => t.length = L ∧ allPairs n t) (fun s hs => ?_) ⟨0, by simp, by omega, h0, hp⟩
  obtain ⟨x, qs⟩ := s
  obtain ⟨i, e1, e2, e3, e4⟩ := hs
  simp only at e1 e3 e4
  subst e1
  rw [hb i qs e3 e4]
  by_cases hi : i < L
  · left
    rw [if_pos hi]
    refine ⟨_, rfl, ⟨i + 1, rfl, by omega, by simpa using e3, ?_⟩, by simp only; omega⟩
    intro z hz
    rcases List.mem_or_eq_of_mem_set hz with h1 | h1
    · exact e4 z h1
    · subst h1; exact perm_pair hf (e4 _ (nth_mem (by omega)))
  · right
    rw [if_neg hi]
    exact ⟨_, rfl, e3, e4⟩
def tiny (p : SPoset) : Prop := p.Below.length ≤ 20 ∧ ∀ r ∈ p.Below, r.length ≤ 20
theorem tiny_small {p : SPoset} (h : tiny p) : small p := ⟨by have := lim_def; have := h.1; omega, fun r hr => by have := lim_def; have := h.2 r hr; omega⟩
theorem tiny_pos {n : Nat} (f : Nat → Nat → Bool) (hn : n ≤ 20) : tiny (posOf n f) := ⟨by rw [posOf_len]; exact hn, fun r hr => Nat.le_trans (posOf_rows r hr) hn⟩
theorem tset_keep {f : Nat → Nat → Bool} {x y a b : Nat} {v : Bool} (h : f a b = true) (hv : v = true ∨ ¬ (a = x ∧ b = y)) : tset f x y v a b = true := by
  unfold tset
  split
  · rename_i hh
    rcases hv with h1 | h1
    · exact h1
    · exact absurd hh h1
  · exact h
theorem pset_keep {f : Nat → Nat → Bool} {ps : List (Int × Int)} {a b : Nat} (h : f a b = true) : ∀ k, pset f ps k a b = true := by
  intro k
  induction k with
  | zero => exact h
  | succ k ih => exact tset_keep ih (.inl rfl)
theorem wy_keep {f : Nat → Nat → Bool} {z x a b : Nat} (h : f a b = true) : ∀ y, wy f z x y a b = true := by
  intro y
  induction y with
  | zero => exact h
  | succ y ih =>
    simp only [wy]
    by_cases hh : a = x ∧ b = y
    · obtain ⟨rfl, rfl⟩ := hh
      exact tset_keep ih (.inl (by rw [ih]; rfl))
    · exact tset_keep ih (.inr hh)
theorem wx_keep {n : Nat} {f : Nat → Nat → Bool} {z a b : Nat} (h : f a b = true) : ∀ x, wx n f z x a b = true := by
  intro x
  induction x with
  | zero => exact h
  | succ x ih => exact wy_keep ih n
theorem wz_keep {n : Nat} {f : Nat → Nat → Bool} {a b : Nat} (h : f a b = true) : ∀ z, wz n f z a b = true := by
  intro z
  induction z with
  | zero => exact h
  | succ z ih => exact wx_keep ih n
theorem ways_refl {n : Nat} {ps : List (Int × Int)} {x : Nat} (hx : x < n) : ways n ps x x = true :=
  wz_keep (pset_keep (by unfold dg; exact decide_eq_true ⟨rfl, hx⟩) _) _
theorem draw_from {n : Nat} {ps : List (Int × Int)} (hn : n ≤ 10) (h60 : ps.length ≤ 1000) (hok : allPairs n ps) : ∃ f, F_spec_l23From (n : Int) ps = some (posOf n f) ∧ ∀ x, x < n → f x x = true :=
  ⟨_, F_from hn h60 (allPairs_nth hok), fun _ hx => ways_refl hx⟩
theorem ok_all {n : Nat} {ps : List (Int × Int)} (h : ps.all (fun z => decide (0 ≤ z.1) && decide (z.1 < (n : Int)) && decide (0 ≤ z.2) && decide (z.2 < (n : Int)) && decide (z.1 ≠ z.2)) = true) : allPairs n ps := by
  intro z hz
  have := List.all_eq_true.1 h z hz
  simp only [Bool.and_eq_true, decide_eq_true_eq] at this
  exact ⟨⟨⟨this.1.1.1.1, this.1.1.1.2⟩, this.1.1.2, this.1.2⟩, this.2⟩
theorem three_ord : isOrd 3 (ways 3 [(0, 1), (1, 2)]) := by
  have : ∀ x, x < 3 → ∀ y, y < 3 → ways 3 [(0, 1), (1, 2)] x y = decide (x ≤ y) := by decide
  refine isOrd_congr (f := fun x y => decide (x ≤ y)) (fun x y hx hy => (this x hx y hy).symm) fun x hx => ⟨by simp, fun y hy => ⟨fun h => ?_, fun z hz h1 h2 => ?_⟩⟩
  · obtain ⟨h1, h2, h3⟩ := h
    have h2 := of_decide_eq_true h2
    have h3 := of_decide_eq_true h3
    omega
  · have h1 := of_decide_eq_true h1
    have h2 := of_decide_eq_true h2
    exact decide_eq_true (by omega)
theorem draw_known {k : Int} (_h0 : 0 ≤ k) (_h1 : k < 12) : ∃ n f, n ≤ 9 ∧ F_spec_l24Known k = some (posOf n f) := by
  have from_ : ∀ (n : Nat) (ps : List (Int × Int)) (g : SPoset → Option SPoset), n ≤ 9 → ps.length ≤ 1000 → ps.all (fun z => decide (0 ≤ z.1) && decide (z.1 < (n : Int)) && decide (0 ≤ z.2) && decide (z.2 < (n : Int)) && decide (z.1 ≠ z.2)) = true → (∀ r, g r = some r) →
      ∃ m f, m ≤ 9 ∧ (F_spec_l23From (n : Int) ps).bind g = some (posOf m f) := by
    intro n ps g hn hl ha hg
    obtain ⟨f, e, _⟩ := draw_from (n := n) (ps := ps) (by omega) hl (ok_all ha)
    exact ⟨n, f, hn, by rw [e]; exact hg _⟩
  unfold F_spec_l24Known
  by_cases a0 : k = 0
  · rw [if_pos a0]; exact from_ 1 [] _ (by omega) (by simp) (by decide) (fun _ => rfl)
  rw [if_neg a0]
  by_cases a1 : k = 1
  · rw [if_pos a1]; exact from_ 2 _ _ (by omega) (by simp) (by decide) (fun _ => rfl)
  rw [if_neg a1]
  by_cases a2 : k = 2
  · rw [if_pos a2]; exact from_ 4 _ _ (by omega) (by simp) (by decide) (fun _ => rfl)
  rw [if_neg a2]
  by_cases a3 : k = 3
  · rw [if_pos a3]; exact from_ 4 _ _ (by omega) (by simp) (by decide) (fun _ => rfl)
  rw [if_neg a3]
  by_cases a4 : k = 4
  · rw [if_pos a4]; exact from_ 5 _ _ (by omega) (by simp) (by decide) (fun _ => rfl)
  rw [if_neg a4]
  by_cases a5 : k = 5
  · rw [if_pos a5]; exact from_ 5 _ _ (by omega) (by simp) (by decide) (fun _ => rfl)
  rw [if_neg a5]
  by_cases a6 : k = 6
  · rw [if_pos a6]; exact from_ 8 _ _ (by omega) (by simp) (by decide) (fun _ => rfl)
  rw [if_neg a6]
  by_cases a7 : k = 7
  · rw [if_pos a7]; exact from_ 6 _ _ (by omega) (by simp) (by decide) (fun _ => rfl)
  rw [if_neg a7]
  by_cases a8 : k = 8
  · rw [if_pos a8]; exact from_ 6 _ _ (by omega) (by simp) (by decide) (fun _ => rfl)
  rw [if_neg a8]
  by_cases a9 : k = 9
  · rw [if_pos a9]; exact from_ 7 _ _ (by omega) (by simp) (by decide) (fun _ => rfl)
  rw [if_neg a9]
  by_cases a10 : k = 10
  · rw [if_pos a10]
    have e : F_spec_l23From 3 [(0, 1), (1, 2)] = some (posOf 3 (ways 3 [(0, 1), (1, 2)])) := F_from (n := 3) (by omega) (by simp) (allPairs_nth (ok_all (by decide)))
    have hg : good (posOf 3 (ways 3 [(0, 1), (1, 2)])).Below := (posOf_good (by omega)).2 three_ord
    rw [e]
    simp only [Option.bind_some]
    rw [F_l24Product hg hg, posOf_len]
    exact ⟨9, _, by omega, rfl⟩
  rw [if_neg a10]
  exact from_ 3 _ _ (by omega) (by simp) (by decide) (fun _ => rfl)
theorem prRow_mem {n : Nat} {f : Nat → Nat → Bool} {x : Nat} (hx : x < n) {acc : List (Int × Int)} (ha : allPairs n acc) : ∀ y, y ≤ n → allPairs n (prRow n f x acc y) := by
  intro y
  induction y with
  | zero => intro _; exact ha
  | succ y ih =>
    intro hy
    simp only [prRow]
    split
    · rename_i hc
      intro z hz
      rcases List.mem_append.1 hz with h1 | h1
      · exact ih (by omega) z h1
      · simp at h1
        subst h1
        refine ⟨⟨⟨by simp, by simpa using hx⟩, by simp, by simp; omega⟩, fun e => ?_⟩
        have exy : x = y := by
          have : (x : Int) = (y : Int) := e
          omega
        subst exy
        unfold cov at hc
        have := (of_decide_eq_true hc).1.1
        exact this rfl
    · exact ih (by omega)
theorem prAll_mem {n : Nat} {f : Nat → Nat → Bool} : ∀ x, x ≤ n → allPairs n (prAll n f x) := by
  intro x
  induction x with
  | zero => intro _ z hz; cases hz
  | succ x ih => intro hx; exact prRow_mem (by omega) (ih (by omega)) n (Nat.le_refl _)
open Classical
theorem draw_poset {c : Sl1Cur} {k : Nat} (h : Cur k c) (hk : k ≤ 700000000) : ∃ p d, F_spec_l1Cur_poset c = some (p, d) ∧ Cur (k + 2000) d ∧ tiny p := by
  have hL := lim_def
  unfold F_spec_l1Cur_poset
  obtain ⟨r1, u2, e1, h2, m1⟩ := draw_among h (by omega) [0, 1, 2, 3, 4, 4, 5, 5, 6, 7] (by simp)
  rw [e1]
  simp only [Option.bind_some]
  obtain ⟨n, hn, rfl⟩ : ∃ n : Nat, n ≤ 7 ∧ r1 = (n : Int) := by
    refine ⟨r1.toNat, ?_, ?_⟩ <;> · simp at m1; omega
  clear m1 e1
  obtain ⟨⟨ps, d1⟩, e3, l3, p3, h3⟩ := loop_inv (body := F_spec_l1Cur_poset_l2 (n : Int)) (fun s => ∃ i : Nat, s.1 = (i : Int) ∧ i ≤ n ∧ s.2.1.length ≤ 10 * i ∧ allPairs n s.2.1 ∧ Cur (k + 2 + 20 * i) s.2.2) (fun s => n - s.1.toNat)
    (fun t => t.1.length ≤ 70 ∧ allPairs n t.1 ∧ Cur (k + 200) t.2) (fun s hs => by
      obtain ⟨x5, x4, x147⟩ := s
      obtain ⟨i, e1, e2, e3, e4, e5⟩ := hs
      simp only at e1 e3 e4 e5
      subst e1
      unfold F_spec_l1Cur_poset_l2
      dsimp only
      by_cases hi : i < n
      · left
        rw [if_pos (by omega), ask_pos (by unfold InI; omega)]
        obtain ⟨⟨qs, d2⟩, f1, f2, f3, f4⟩ := loop_inv (body := F_spec_l1Cur_poset_l1 (n : Int) (i : Int)) (fun s => ∃ j : Nat, s.1 = (j : Int) ∧ i < j ∧ j ≤ n ∧ s.2.1.length ≤ 10 * i + j ∧ allPairs n s.2.1 ∧ Cur (k + 2 + 20 * i + 2 * j) s.2.2) (fun s => n - s.1.toNat)
          (fun t => t.1.length ≤ 10 * i + 10 ∧ allPairs n t.1 ∧ Cur (k + 2 + 20 * i + 20) t.2) (fun s hs => by
            obtain ⟨y6, y4, y147⟩ := s
            obtain ⟨j, g1, g2, g3, g4, g5, g6⟩ := hs
            simp only at g1 g4 g5 g6
            subst g1
            unfold F_spec_l1Cur_poset_l1
            dsimp only
            by_cases hj : j < n
            · left
              rw [if_pos (by omega)]
              obtain ⟨b, d, e6, h6⟩ := draw_one g6 (by omega) 3
              simp only [e6, Option.bind_some]
              by_cases hb : b = true
              · rw [if_pos hb, ask_pos (by simp; omega), ask_pos (by unfold InI; omega)]
                refine ⟨_, rfl, ⟨j + 1, rfl, by omega, by omega, by simp; omega, ?_, h6.mono (by omega)⟩, by simp only; omega⟩
                intro z hz
                rcases List.mem_append.1 hz with h1 | h1
                · exact g5 z h1
                · simp at h1
                  subst h1
                  exact ⟨⟨⟨by omega, by omega⟩, by omega, by omega⟩, by simp only; omega⟩
              · rw [if_neg hb, ask_pos (by unfold InI; omega)]
                exact ⟨_, rfl, ⟨j + 1, rfl, by omega, by omega, by simp only; omega, g5, h6.mono (by omega)⟩, by simp only; omega⟩
            · right
              rw [if_neg (by omega)]
              exact ⟨_, rfl, by simp only; omega, g5, g6.mono (by omega)⟩) (s := ((i : Int) + 1, x4, x147)) ⟨i + 1, by simp, by omega, by omega, by simp only; omega, e4, e5.mono (by omega)⟩
        simp only at f2 f3 f4
        rw [f1]
        simp only [Option.bind_some]
        rw [ask_pos (by unfold InI; omega)]
        exact ⟨_, rfl, ⟨i + 1, rfl, by omega, by simp only; omega, f3, f4.mono (by omega)⟩, by simp only; omega⟩
      · right
        rw [if_neg (by omega)]
        exact ⟨_, rfl, by simp only; omega, e4, e5.mono (by omega)⟩) (s := (0, nilL (Int × Int), u2)) ⟨0, by simp, by omega, by simp [nilL], (by intro z hz; cases hz), h2⟩
  simp only at l3 p3 h3
  rw [e3]
  simp only [Option.bind_some]
  clear e3
  have names : ∃ qs d, (((F_spec_l1Cur_names2 d1 (n : Int)).bind fun (r14, u15) =>
     (((F_spec_l2Perm r14 (n : Int)).bind fun r16 =>
       if r16 = true then
        (F_spec_l1Cur_one u15 2).bind fun (r18, u19) =>
        some (r18, u19)
       else
        some (false, u15) : Option (Bool × Sl1Cur))).bind fun (q20_44, q20_147) =>
     if q20_44 = true then
      (loopO (F_spec_l1Cur_poset_l3 (n : Int) r14 q20_147) (0, ps)).bind fun q29_4 =>
      some (q29_4, q20_147)
     else
      some (ps, q20_147) : Option ((List (Int × Int)) × Sl1Cur))) = some (qs, d) ∧ qs.length ≤ 70 ∧ allPairs n qs ∧ Cur (k + 300) d := by
    obtain ⟨l, d2, e4, h4, hl4⟩ := draw_names h3 (by omega) n (by omega)
    rw [e4]
    simp only [Option.bind_some]
    rw [F_l2Perm (by omega) (by omega)]
    simp only [Option.bind_some]
    by_cases hp : (l.length : Int) = n ∧ inSize l n ∧ uniq l
    · have hpd : (decide ((l.length : Int) = n ∧ inSize l n ∧ uniq l)) = true := decide_eq_true hp
      simp only [hpd, if_true]
      obtain ⟨b, d3, e5, h5⟩ := draw_one h4 (by omega) 2
      rw [e5]
      simp only [Option.bind_some]
      by_cases hb : b = true
      · rw [if_pos hb]
        obtain ⟨t, f1, f2, f3⟩ := turn_pairs hp (body := F_spec_l1Cur_poset_l3 (n : Int) l d3) ps.length (by omega) (fun i qs hq hqs => by
          unfold F_spec_l1Cur_poset_l3
          dsimp only
          by_cases hi : i < ps.length
          · rw [if_pos (by omega), if_pos hi]
            obtain ⟨⟨⟨a1, a2⟩, a3, a4⟩, _⟩ := allPairs_nth hqs i (by omega)
            have hln := hp.1
            repeat rw [ask_pos (by first | omega | (unfold InI; omega) | (refine ⟨?_, ?_⟩ <;> (simp only [Int.toNat_natCast]; omega)))]
            simp
          · rw [if_neg (by omega), if_neg hi]) rfl p3
        rw [f1]
        exact ⟨_, _, rfl, by omega, f3, h5.mono (by omega)⟩
      · rw [if_neg hb]
        exact ⟨_, _, rfl, by omega, p3, h5.mono (by omega)⟩
    · have hpd : (decide ((l.length : Int) = n ∧ inSize l n ∧ uniq l)) = false := decide_eq_false hp
      simp only [hpd, if_false, Option.bind_some, Bool.false_eq_true]
      exact ⟨_, _, rfl, by omega, p3, h4.mono (by omega)⟩
  obtain ⟨qs, d5, e5, l5, p5, h5⟩ := names
  rw [e5]
  simp only [Option.bind_some]
  clear e5
  obtain ⟨f, e6, hrefl⟩ := draw_from (n := n) (ps := qs) (by omega) (by omega) p5
  rw [e6]
  simp only [Option.bind_some]
  have ht : tiny (posOf n f) := tiny_pos f (by omega)
  have hlen : (posOf n f).Below.length = n := posOf_len
  have hrow : ∀ x, x < n → (nth (posOf n f).Below x).length ≤ n ∧ 0 ≤ (nth (posOf n f).Below x).length := fun x hx => ⟨posOf_rows _ (nth_mem (by omega)), by omega⟩
  have spoil : ∃ t, ((if (n : Int) = 0 then
        some (.inl d5)
       else
        (F_spec_l1Cur_one d5 16).bind fun (r33, u34) =>
        if r33 = true then
         some (.inr u34)
        else
         some (.inl u34) : Option (Sl1Cur ⊕ Sl1Cur))) = some t ∧ ((∃ d, t = .inl d ∧ Cur (k + 400) d) ∨ (∃ d, t = .inr d ∧ Cur (k + 400) d ∧ n ≠ 0)) := by
    by_cases h0 : (n : Int) = 0
    · rw [if_pos h0]; exact ⟨_, rfl, .inl ⟨_, rfl, h5.mono (by omega)⟩⟩
    · rw [if_neg h0]
      obtain ⟨b, d6, e7, h6⟩ := draw_one h5 (by omega) 16
      rw [e7]
      simp only [Option.bind_some]
      by_cases hb : b = true
      · rw [if_pos hb]; exact ⟨_, rfl, .inr ⟨_, rfl, h6.mono (by omega), by omega⟩⟩
      · rw [if_neg hb]; exact ⟨_, rfl, .inl ⟨_, rfl, h6.mono (by omega)⟩⟩
  obtain ⟨t, e7, ⟨d6, rfl, h6⟩ | ⟨d6, rfl, h6, hn0⟩⟩ := spoil
  · rw [e7]
    exact ⟨_, _, rfl, h6.mono (by omega), ht⟩
  rw [e7]
  simp only [Option.bind_some]
  obtain ⟨r37, d7, e8, h7, a1, a2⟩ := draw_pick h6 (by omega) (n : Int)
  rw [e8]
  simp only [Option.bind_some]
  obtain ⟨r39, d8, e9, h8, _, _⟩ := draw_pick h7 (by omega) 4
  rw [e9]
  simp only [Option.bind_some]
  have hx : r37.toNat < n := by omega
  have hb37 : 0 ≤ r37 ∧ r37 < ((posOf n f).Below.length : Int) := by omega
  have setTiny : ∀ w : List Int, w.length ≤ 20 → tiny ⟨(posOf n f).Below.set r37.toNat w⟩ := by
    intro w hw
    refine ⟨by simpa using ht.1, fun r hr => ?_⟩
    rcases List.mem_or_eq_of_mem_set hr with h1 | h1
    · exact ht.2 r h1
    · subst h1; exact hw
  obtain ⟨hr1, _⟩ := hrow _ hx
  have hself : 1 ≤ (nth (posOf n f).Below r37.toNat).length := by
    have : ((r37.toNat : Nat) : Int) ∈ nth (posOf n f).Below r37.toNat := by
      rw [posOf_row hx]
      exact mem_sieve.2 ⟨r37.toNat, hx, hrefl _ hx, rfl⟩
    exact List.length_pos_of_mem this
  by_cases c0 : r39 = 0
  · rw [if_pos c0, ask_pos hb37]
    rw [ask_pos (by omega), ask_pos hb37]
    exact ⟨_, _, rfl, h8.mono (by omega), setTiny _ (by simp; omega)⟩
  rw [if_neg c0]
  by_cases c1 : r39 = 1
  · rw [if_pos c1, ask_pos hb37, ask_pos hb37, ask_pos hb37, ask_pos (by simp; omega), ask_pos hb37]
    exact ⟨_, _, rfl, h8.mono (by omega), setTiny _ (by simp; omega)⟩
  rw [if_neg c1]
  by_cases c2 : r39 = 2
  · rw [if_pos c2, ask_pos hb37]
    obtain ⟨r51, d9, e10, h9, b1, b2⟩ := draw_pick h8 (by omega) (n : Int)
    rw [e10]
    simp only [Option.bind_some]
    rw [posOf_row hx]
    have hz : r51.toNat < n := by omega
    have hput := F_l1Put (n := n) (by omega) (fun y => f y r37.toNat) hz
    rw [Int.toNat_of_nonneg b1] at hput
    rw [hput]
    simp only [Option.bind_some]
    rw [ask_pos hb37]
    exact ⟨_, _, rfl, h9.mono (by omega), setTiny _ (Nat.le_trans (sieve_len _ _) (by omega))⟩
  rw [if_neg c2]
  by_cases c3 : r39 = 3
  · rw [if_pos c3]
    obtain ⟨⟨p9, d9⟩, e10, g1, g2⟩ := loop_inv (body := F_spec_l1Cur_poset_l4) (fun s => s.1.Below.length ≤ 11 ∧ (∀ r ∈ s.1.Below, r.length ≤ 20) ∧ Cur (k + 500 + 2 * s.1.Below.length) s.2) (fun s => 20 - s.1.Below.length)
      (fun t => tiny t.1 ∧ Cur (k + 2000) t.2) (fun s hs => by
        obtain ⟨q, dq⟩ := s
        obtain ⟨g1, g2, g3⟩ := hs
        simp only at g1 g2 g3
        unfold F_spec_l1Cur_poset_l4
        dsimp only
        obtain ⟨r, d, e11, h11, b1, b2⟩ := draw_pick g3 (by omega) 2
        rw [e11]
        simp only [Option.bind_some]
        rw [ask_pos (by unfold InI; omega)]
        by_cases hq : (q.Below.length : Int) < 10 + r
        · left
          rw [if_pos hq, ask_pos (by simp; omega)]
          refine ⟨_, rfl, ⟨by simp; omega, ?_, h11.mono (by simp; omega)⟩, by simp; omega⟩
          intro row hr
          rcases List.mem_append.1 hr with h1 | h1
          · exact g2 row h1
          · simp at h1; subst h1; simp
        · right
          rw [if_neg hq]
          exact ⟨_, rfl, ⟨by simp only; omega, g2⟩, h11.mono (by omega)⟩) (s := (posOf n f, d8)) ⟨by simp only; omega, ht.2, h8.mono (by omega)⟩
    rw [e10]
    exact ⟨_, _, rfl, g2, g1⟩
  rw [if_neg c3]
  exact ⟨_, _, rfl, h8.mono (by omega), ht⟩
theorem draw_lattice {c : Sl1Cur} {k : Nat} (h : Cur k c) (hk : k ≤ 600000000) : ∃ p d, F_spec_l1Cur_lattice c = some (p, d) ∧ Cur (k + 3000) d ∧ tiny p := by
  have hL := lim_def
  unfold F_spec_l1Cur_lattice
  obtain ⟨b, d1, e1, h1⟩ := draw_one h (by omega) 10
  rw [e1]
  simp only [Option.bind_some]
  by_cases hb : b = true
  · rw [if_pos hb]
    obtain ⟨p, d2, e2, h2, ht⟩ := draw_poset h1 (by omega)
    rw [e2]
    exact ⟨_, _, rfl, h2.mono (by omega), ht⟩
  rw [if_neg hb]
  obtain ⟨r, d2, e2, h2, a1, a2⟩ := draw_pick h1 (by omega) 12
  rw [e2]
  simp only [Option.bind_some]
  obtain ⟨n, f, hn, e3⟩ := draw_known a1 (by omega)
  rw [e3]
  simp only [Option.bind_some, posOf_len]
  obtain ⟨l, d3, e4, h4, hl4⟩ := draw_names h2 (by omega) n (by omega)
  rw [e4]
  simp only [Option.bind_some]
  have ht : tiny (posOf n f) := tiny_pos f (by omega)
  · rw [F_l2Perm (by omega) (by omega)]
    simp only [Option.bind_some]
    by_cases hp : (l.length : Int) = n ∧ inSize l n ∧ uniq l
    · have hpd : (decide ((l.length : Int) = n ∧ inSize l n ∧ uniq l)) = true := decide_eq_true hp
      simp only [hpd, if_true]
      obtain ⟨b2, d5, e5, h5⟩ := draw_one h4 (by omega) 2
      rw [e5]
      simp only [Option.bind_some]
      by_cases hb2 : b2 = true
      · rw [if_pos hb2, F_specPairs (tiny_small ht) (by rw [posOf_len]; omega)]
        simp only [Option.bind_some, posOf_len]
        have hall := prAll_mem (n := n) (f := below (posOf n f).Below) n (Nat.le_refl _)
        have hlen := prAll_len n (below (posOf n f).Below) n
        have hnn : n * n ≤ 9 * 9 := Nat.mul_le_mul hn hn
        generalize prAll n (below (posOf n f).Below) n = ps at hall hlen
        obtain ⟨t, f1, f2, f3⟩ := turn_pairs hp (body := F_spec_l1Cur_lattice_l1 (posOf n f) l d5) ps.length (by omega) (fun i qs hq hqs => by
          unfold F_spec_l1Cur_lattice_l1
          dsimp only
          by_cases hi : i < ps.length
          · rw [if_pos (by omega), if_pos hi]
            obtain ⟨⟨⟨a1, a2⟩, a3, a4⟩, _⟩ := allPairs_nth hqs i (by omega)
            have hln := hp.1
            repeat rw [ask_pos (by first | omega | (unfold InI; omega) | (refine ⟨?_, ?_⟩ <;> (simp only [Int.toNat_natCast]; omega)))]
            simp
          · rw [if_neg (by omega), if_neg hi]) rfl hall
        rw [f1]
        simp only [Option.bind_some]
        obtain ⟨g, e6, _⟩ := draw_from (n := n) (ps := t) (by omega) (by omega) f3
        rw [e6]
        exact ⟨_, _, rfl, h5.mono (by omega), tiny_pos g (by omega)⟩
      · rw [if_neg hb2]
        exact ⟨_, _, rfl, h5.mono (by omega), ht⟩
    · have hpd : (decide ((l.length : Int) = n ∧ inSize l n ∧ uniq l)) = false := decide_eq_false hp
      simp only [hpd, if_false, Option.bind_some, Bool.false_eq_true]
      exact ⟨_, _, rfl, h4.mono (by omega), ht⟩
theorem draw_LatticeAlgebra {code : List Int} (hc : ∀ x ∈ code, 0 ≤ x ∧ x ≤ 255) (hl : code.length ≤ 65536) : ∃ p, F_spec_DrawLatticeAlgebra code = some p ∧ tiny p := by
  unfold F_spec_DrawLatticeAlgebra F_spec_DrawIsLattice
  have h0 : Cur 0 ({ code := code, at_ := 0, seed := 0 } : Sl1Cur) := ⟨hc, hl, Int.le_refl _, Int.le_refl _⟩
  obtain ⟨p, d2, e2, h2, hp⟩ := draw_lattice h0 (by omega)
  rw [e2]
  exact ⟨_, rfl, hp⟩
end Go.Proofs.Ytoikbcagaanhgaa.Ax
namespace Go.Proofs.Ytoikbcagaanhgaa.Ax
open Go Classical
section
variable {n m : Nat} {f g : Nat → Nat → Bool}
theorem meets_of {N : Nat} {F : Nat → Nat → Bool} (ho : Ord N F) (w : Nat → Nat → Nat) (h : ∀ x y, x < N → y < N → w x y < N ∧ F (w x y) x = true ∧ F (w x y) y = true ∧ ∀ z, z < N → F z x = true → F z y = true → F z (w x y) = true) : meets N F := by
  intro x y hx hy
  obtain ⟨h1, h2, h3, h4⟩ := h x y hx hy
  have : isBnd N F (lo2 F x y) (w x y) := ⟨h1, by unfold lo2; rw [h2, h3]; rfl, fun z hz hl => by
    unfold lo2 at hl
    rw [Bool.and_eq_true] at hl
    exact h4 z hz hl.1 hl.2⟩
  rw [bnd_eq ho this]; omega
end
theorem meets_congr {n : Nat} {f g : Nat → Nat → Bool} (hg : Ord n g) (h : ∀ x y, x < n → y < n → f x y = g x y) (mf : meets n f) : meets n g := by
  refine meets_of hg (fun x y => inf n f x y) fun x y hx hy => ?_
  have i := inf_lt mf hx hy
  refine ⟨i, ?_, ?_, fun z hz h1 h2 => ?_⟩
  · rw [← h _ _ i hx]; exact inf_left mf hx hy
  · rw [← h _ _ i hy]; exact inf_right mf hx hy
  · rw [← h _ _ hz i]; exact inf_max mf hx hy hz (by rw [h _ _ hz hx]; exact h1) (by rw [h _ _ hz hy]; exact h2)
end Go.Proofs.Ytoikbcagaanhgaa.Ax
namespace Go.Proofs.Ytoikbcagaanhgaa.Ax
open Go Classical
section
variable {p q : SPoset}
theorem val_IsLattice (hs : small p) : F_impl_IsLattice p = some (decide (isLat p)) := by
  unfold F_impl_IsLattice
  by_cases h : isLat p
  · rw [F_latticeOf_yes hs h, decide_eq_true h]; rfl
  · obtain ⟨l, e⟩ := F_latticeOf_no hs h
    rw [e, decide_eq_false h]
    cases l <;> rfl
theorem spc_IsLattice (hs : small p) : F_spec_IsLattice p = some (decide (isLat p)) := by
  unfold F_spec_IsLattice
  rw [F_l24Good hs]; rfl
theorem val_JoinIrreducibles (hs : small p) (h : isLat p) : F_impl_JoinIrreducibles p = some (irr p.Below.length (below p.Below), true) := by
  unfold F_impl_JoinIrreducibles
  rw [F_listOf hs (fun _ => F_irr hs), if_pos h]; rfl
theorem spc_JoinIrreducibles (hs : small p) (h : isLat p) : F_spec_JoinIrreducibles p = some (irr p.Below.length (below p.Below), true) := by
  unfold F_spec_JoinIrreducibles
  rw [F_l24Good hs, decide_eq_true h]
  simp only [Option.bind_some, if_true]
  rw [F_specIrr hs]; rfl
theorem val_EndsOf (hs : small p) (h : isLat p) : F_impl_EndsOf p = some ((botN p.Below.length (below p.Below) p.Below.length : Int), (botN p.Below.length (opp (below p.Below)) p.Below.length : Int), true) := by
  unfold F_impl_EndsOf
  rw [F_latticeOf_yes hs h]
  simp only [Option.bind_some, if_true]
  rw [F_bottom h]
  simp only [Option.bind_some]
  rw [F_top h]; rfl
end
theorem F_rInts {xs : List Int} (h : xs.length ≤ LIM) : F_laws_rInts xs xs = some true := by
  have hL := lim_def
  unfold F_laws_rInts
  rw [if_neg (by simp)]
  have := loop_seq (body := F_laws_rInts_l1 xs xs) (fun i => (i : Int)) xs.length (.inr ()) (fun i hi => by
    unfold F_laws_rInts_l1
    rw [if_pos (by omega)]
    repeat rw [ask_pos (by first | omega | (unfold InI; omega))]
    rw [if_neg (by simp)]
    rfl) (by
    unfold F_laws_rInts_l1
    rw [if_neg (by omega)])
  have h0 : loopO (F_laws_rInts_l1 xs xs) 0 = some (.inr ()) := this
  rw [h0]; rfl
theorem F_rTable {xss : List (List Int)} (h : xss.length ≤ LIM) (h1 : ∀ r ∈ xss, r.length ≤ LIM) : F_laws_rTable xss xss = some true := by
  have hL := lim_def
  unfold F_laws_rTable
  rw [if_neg (by simp)]
  have := loop_seq (body := F_laws_rTable_l1 xss xss) (fun i => (i : Int)) xss.length (.inr ()) (fun i hi => by
    unfold F_laws_rTable_l1
    rw [if_pos (by omega)]
    repeat rw [ask_pos (by first | omega | (unfold InI; omega))]
    rw [Int.toNat_natCast, F_rInts (h1 _ (nth_mem hi))]
    simp only [Option.bind_some, if_true]
    rfl) (by
    unfold F_laws_rTable_l1
    rw [if_neg (by omega)])
  have h0 : loopO (F_laws_rTable_l1 xss xss) 0 = some (.inr ()) := this
  rw [h0]; rfl
section
variable {n m : Nat} {f g : Nat → Nat → Bool}
end
end Go.Proofs.Ytoikbcagaanhgaa.Ax
namespace Go.Proofs.Ytoikbcagaanhgaa.Ax
open Go Classical
section
variable {p : SPoset}
theorem posOf_self (hg : good p.Below) : posOf p.Below.length (below p.Below) = p := by
  have key : (posOf p.Below.length (below p.Below)).Below = p.Below := by
    refine nth_ext posOf_len fun x hx => ?_
    rw [posOf_len] at hx
    rw [posOf_row hx]
    obtain ⟨h1, h2⟩ := good_row hg x hx
    have := sieve_take h2 h1
    exact this
  cases p
  simpa [posOf] using key
theorem posOf_congr {n : Nat} {f g : Nat → Nat → Bool} (h : ∀ x y, x < n → y < n → f x y = g x y) : posOf n f = posOf n g := by
  unfold posOf
  congr 1
  refine List.map_congr_left fun x hx => ?_
  have hx' := List.mem_range.1 hx
  exact sieve_congr fun y hy => h y x hy hx'
theorem flatR_map (n : Nat) (f : Nat → Nat → Bool) : flatR n f n = (List.range (n * n)).map fun z => bnd n f (lo2 f (z / n) (z % n)) := by
  rw [range_mul]
  unfold flatR
  refine flatMap_eq fun x hx => ?_
  unfold mrow
  refine List.map_congr_left fun y hy => ?_
  have hy' := List.mem_range.1 hy
  rw [(prod_at hy').1, (prod_at hy').2]
theorem flatR_at {n : Nat} {f : Nat → Nat → Bool} {x y : Nat} (hx : x < n) (hy : y < n) : nth (flatR n f n) (x * n + y) = bnd n f (lo2 f x y) := by
  rw [flatR_map, nth_map' _ (by simpa using pair_lt hx hy), nth_range (pair_lt hx hy), (prod_at hy).1, (prod_at hy).2]
theorem flatR_in {n : Nat} {f : Nat → Nat → Bool} (hm : meets n f) : inSize (flatR n f n) n := by
  intro z hz
  rw [flatR_map] at hz
  obtain ⟨i, hi, rfl⟩ := List.mem_map.1 hz
  have hi' := List.mem_range.1 hi
  obtain ⟨a, b, ha, hb, rfl⟩ := pair_of hi'
  rw [(prod_at hb).1, (prod_at hb).2]
  have h0 := hm a b ha hb
  have h1 := inf_lt hm ha hb
  unfold inf at h1
  omega
theorem good_alg (h : isLat p) (h8 : p.Below.length ≤ 8) : goodA (algOf p) := by
  have h0 := h.2.1
  refine ⟨by show (1 : Int) ≤ (p.Below.length : Int); omega, by show (p.Below.length : Int) ≤ 8; omega, by simp [algOf], fun f hf => ?_⟩
  have e : (algOf p).Size.toNat = p.Below.length := by simp [algOf]
  rw [e]
  simp only [algOf, List.mem_cons, List.not_mem_nil, or_false] at hf
  rcases hf with rfl | rfl
  · exact ⟨by simp, by simp, by show (flatR _ _ _).length = _ ^ 2; rw [flatR_len, Nat.pow_two], flatR_in h.2.2.1⟩
  · exact ⟨by simp, by simp, by show (flatR _ _ _).length = _ ^ 2; rw [flatR_len, Nat.pow_two], flatR_in h.2.2.2⟩
theorem meetF_below (h : isLat p) {x y : Nat} (hx : x < p.Below.length) (hy : y < p.Below.length) : meetF p.Below.length (flatR p.Below.length (below p.Below) p.Below.length) x y = below p.Below x y := by
  have ho := good_ord h.1
  have hm := h.2.2.1
  unfold meetF
  rw [flatR_at hx hy, Bool.eq_iff_iff, decide_eq_true_eq]
  have hi := inf_spec hm hx hy
  rw [bnd_eq ho hi]
  constructor
  · intro e
    have : inf p.Below.length (below p.Below) x y = x := by omega
    rw [← this]
    exact inf_right hm hx hy
  · intro hb
    have : x = inf p.Below.length (below p.Below) x y := ho.anti _ _ hx (inf_lt hm hx hy) (inf_max hm hx hy hx (ho.refl x hx) hb) (inf_left hm hx hy)
    omega
theorem val_LatticeAlgebra (hs : small p) : ∃ r, F_spec_LatticeAlgebra p = some r ∧ F_impl_LatticeAlgebra p = some r ∧ smallA r.1 ∧ (r.2 = true → isLat p ∧ p.Below.length ≤ 8 ∧ r.1 = algOf p) := by
  unfold F_spec_LatticeAlgebra F_impl_LatticeAlgebra
  rw [F_l24Good hs]
  simp only [Option.bind_some]
  by_cases h : isLat p
  · rw [F_latticeOf_yes hs h, decide_eq_true h]
    simp only [Option.bind_some, if_true, latOf_order, tab_len]
    by_cases h8 : (p.Below.length : Int) > 8
    · rw [if_pos h8, if_pos h8]; exact ⟨_, rfl, rfl, noAlg_small, fun hh => by cases hh⟩
    · rw [if_neg h8, if_neg h8, F_l24Algebra hs h, F_lattice_algebra h]
      exact ⟨_, rfl, rfl, algOf_small h, fun _ => ⟨h, by omega, rfl⟩⟩
  · obtain ⟨l, e⟩ := F_latticeOf_no hs h
    rw [e, decide_eq_false h]
    refine ⟨(⟨0, []⟩, false), by simp, ?_, noAlg_small, fun hh => by cases hh⟩
    cases l <;> simp
theorem val_LatticeOf (hs : small p) (h : isLat p) (h8 : p.Below.length ≤ 8) : F_impl_LatticeOf (algOf p) = some (p, true) := by
  have hsz : (algOf p).Size = (p.Below.length : Int) := rfl
  have hT : (nth (algOf p).Ops (Int.toNat 0)).Table = flatR p.Below.length (below p.Below) p.Below.length := rfl
  have hty : typeA (algOf p) = [2, 2] := rfl
  have hlen : (algOf p).Ops.length = 2 := rfl
  unfold F_impl_LatticeOf
  rw [F_IsAlgebra (algOf_small h), decide_eq_true (good_alg h h8)]
  simp only [Option.bind_some, if_true]
  rw [F_typeOf (algOf_small h)]
  simp only [Option.bind_some]
  rw [F_sameList (by rw [hty, lim_def]; simp), hty]
  simp only [Option.bind_some, decide_true, if_true]
  rw [ask_pos (by rw [hlen]; omega), hT, hsz, F_orderOfMeet h8 (flatR_len _ _ _)]
  simp only [Option.bind_some]
  rw [F_order_poset hs.1]
  simp only [Option.bind_some]
  rw [posOf_congr (g := below p.Below) fun x y hx hy => meetF_below h hx hy, posOf_self h.1, F_latticeOf_yes hs h]
  simp only [Option.bind_some, if_true]
  rw [F_lattice_algebra h]
  simp only [Option.bind_some]
  rw [F_sameAlgebra (algOf_small h)]
  simp
theorem val_DualPoset (hs : small p) (hg : good p.Below) : F_impl_DualPoset p = some (dualP p, true) := by
  unfold F_impl_DualPoset
  rw [order_good p hs.1 hs.2 hg]
  simp only [Option.bind_some, if_true]
  rw [F_order_dual hs.1]
  simp only [Option.bind_some]
  rw [F_order_poset hs.1]; rfl
theorem val_IsAtMost (hs : small p) (hg : good p.Below) {a b : Nat} (ha : a < p.Below.length) (hb : b < p.Below.length) : F_impl_IsAtMost p a b = some (below p.Below a b, true) := by
  unfold F_impl_IsAtMost
  rw [order_good p hs.1 hs.2 hg]
  have tl := tab_len p.Below.length (below p.Below)
  have rl := tabI_len p.Below.length (below p.Below) a ha
  simp only [Option.bind_some, if_true]
  rw [F_has _ _ (by rw [lim_def]; simp), tl]
  have hi : inSize [(a : Int), (b : Int)] p.Below.length := by intro z hz; simp at hz; rcases hz with rfl | rfl <;> omega
  simp only [hi, decide_true, if_true, Option.bind_some]
  rw [ask_pos (by omega), ask_pos (by omega), tabI_at _ _ _ _ ha hb]
theorem val_JoinAll (hs : small p) (h : isLat p) {xs : List Int} (hx : inSize xs p.Below.length) (h20 : xs.length ≤ 20) : F_impl_JoinAll p xs = some (bnd p.Below.length (opp (below p.Below)) (loA (opp (below p.Below)) xs), true) := by
  have hl : xs.length ≤ LIM := by rw [lim_def]; omega
  unfold F_impl_JoinAll
  rw [F_latticeOf_yes hs h]
  simp only [Option.bind_some, if_true, latOf_order]
  rw [if_neg (by omega), F_has _ _ hl, tab_len, decide_eq_true hx]
  simp only [Option.bind_some, if_true]
  rw [F_joinAll h xs hx h20]; rfl
theorem val_MeetAll (hs : small p) (h : isLat p) {xs : List Int} (hx : inSize xs p.Below.length) (h20 : xs.length ≤ 20) : F_impl_MeetAll p xs = some (bnd p.Below.length (below p.Below) (loA (below p.Below) xs), true) := by
  have hl : xs.length ≤ LIM := by rw [lim_def]; omega
  unfold F_impl_MeetAll
  rw [F_latticeOf_yes hs h]
  simp only [Option.bind_some, if_true, latOf_order]
  rw [if_neg (by omega), F_has _ _ hl, tab_len, decide_eq_true hx]
  simp only [Option.bind_some, if_true]
  rw [F_meetAll h xs hx h20]; rfl
theorem val_MeetOf (hs : small p) (h : isLat p) {a b : Nat} (ha : a < p.Below.length) (hb : b < p.Below.length) : F_impl_MeetOf p a b = some ((inf p.Below.length (below p.Below) a b : Int), true) := by
  unfold F_impl_MeetOf
  rw [F_latticeOf_yes hs h]
  have h2 : inSize [(a : Int), (b : Int)] p.Below.length := two_in ha hb
  simp only [Option.bind_some, if_true, latOf_order, has_two, decide_eq_true h2]
  have hl : (latOf p).meets = mtab p.Below.length (below p.Below) := rfl
  have hr : (nth (mtab p.Below.length (below p.Below)) a).length = p.Below.length := mt_row ha
  rw [hl, Int.toNat_natCast, Int.toNat_natCast, ask_pos (by rw [mtab_len]; omega), ask_pos (by rw [hr]; omega), mt_at h.2.2.1 ha hb]
theorem val_JoinOf (hs : small p) (h : isLat p) {a b : Nat} (ha : a < p.Below.length) (hb : b < p.Below.length) : F_impl_JoinOf p a b = some ((inf p.Below.length (opp (below p.Below)) a b : Int), true) := by
  unfold F_impl_JoinOf
  rw [F_latticeOf_yes hs h]
  have h2 : inSize [(a : Int), (b : Int)] p.Below.length := two_in ha hb
  simp only [Option.bind_some, if_true, latOf_order, has_two, decide_eq_true h2]
  have hl : (latOf p).joins = mtab p.Below.length (opp (below p.Below)) := rfl
  have hr : (nth (mtab p.Below.length (opp (below p.Below))) a).length = p.Below.length := mt_row ha
  rw [hl, Int.toNat_natCast, Int.toNat_natCast, ask_pos (by rw [mtab_len]; omega), ask_pos (by rw [hr]; omega), mt_at h.2.2.2 ha hb]
theorem val_MeetIrreducibles (hs : small p) (h : isLat p) : F_impl_MeetIrreducibles p = some (irr p.Below.length (opp (below p.Below)), true) := by
  unfold F_impl_MeetIrreducibles
  rw [F_listOf hs (fun _ => F_mirr hs), if_pos h]; rfl
theorem spc_MeetIrreducibles (hs : small p) (h : isLat p) : F_spec_MeetIrreducibles p = some (irr p.Below.length (opp (below p.Below)), true) := by
  obtain ⟨r, e1, e2, _⟩ := both_MeetIrreducibles hs
  rw [val_MeetIrreducibles hs h] at e2
  rw [e1, ← e2]
theorem val_IntervalOf (hs : small p) (h : isLat p) {a b : Nat} (ha : a < p.Below.length) (hb : b < p.Below.length) (hab : below p.Below a b = true) : F_impl_IntervalOf p a b = some (sieve p.Below.length (fun z => below p.Below a z && below p.Below z b), true) := by
  unfold F_impl_IntervalOf
  rw [F_latticeOf_yes hs h]
  have h2 : inSize [(a : Int), (b : Int)] p.Below.length := two_in ha hb
  have htl := tab_len p.Below.length (below p.Below)
  have hrl := tab_row_len p.Below.length (below p.Below) a ha
  simp only [Option.bind_some, if_true, latOf_order, has_two, decide_eq_true h2, Int.toNat_natCast, htl, hrl]
  rw [ask_pos (by omega), ask_pos (by omega)]
  simp only [tab_at _ _ a b ha hb]
  rw [if_pos hab]
  simp only [Option.bind_some]
  unfold F_impl_order_interval
  rw [F_those (n := p.Below.length) (p := fun z => below p.Below a z && below p.Below z b) htl hs.1 (fun z hz => by
    unfold F_impl_order_interval_1
    have hzl := tab_row_len p.Below.length (below p.Below) z hz
    simp only [Int.toNat_natCast, htl, hrl, hzl]
    rw [ask_pos (by omega), ask_pos (by omega), tab_at _ _ a z ha hz]
    cases hc : below p.Below a z
    · simp
    · rw [if_pos rfl, ask_pos (by omega), ask_pos (by omega), tab_at _ _ z b hz hb]; simp)]
  rfl
end
theorem F_rOp {f : SOp} (h : f.Table.length ≤ LIM) : F_laws_rOp f f = some true := by
  unfold F_laws_rOp
  rw [if_pos rfl, F_rInts h]; rfl
theorem F_rOps {fs : List SOp} (h : fs.length ≤ LIM) (h1 : ∀ f ∈ fs, f.Table.length ≤ LIM) : F_laws_rOps fs fs = some true := by
  have hL := lim_def
  unfold F_laws_rOps
  rw [if_neg (by simp)]
  have := loop_seq (body := F_laws_rOps_l1 fs fs) (fun i => (i : Int)) fs.length (.inr ()) (fun i hi => by
    unfold F_laws_rOps_l1
    rw [if_pos (by omega)]
    repeat rw [ask_pos (by first | omega | (unfold InI; omega))]
    rw [Int.toNat_natCast, F_rOp (h1 _ (nth_mem hi))]
    simp only [Option.bind_some, if_true]
    rfl) (by
    unfold F_laws_rOps_l1
    rw [if_neg (by omega)])
  have h0 : loopO (F_laws_rOps_l1 fs fs) 0 = some (.inr ()) := this
  rw [h0]; rfl
theorem F_rAlgebra {a : SAlgebra} (h : smallA a) : F_laws_rAlgebra a a = some true := by
  have hL := lim_def
  unfold F_laws_rAlgebra
  rw [if_pos rfl, F_rOps (by have := h.1; omega) (fun f hf => by have := h.2 f hf; omega)]; rfl
theorem join_under {n : Nat} {f : Nat → Nat → Bool} (ho : Ord n f) (hm : meets n f) (h0 : n ≠ 0) {x : Nat} (hx : x < n) : bnd n (opp f) (loA (opp f) (sieve n fun j => isJ n f j && f j x)) = (x : Int) := by
  refine bnd_eq ho.opp ⟨hx, ?_, fun u hu hl => ?_⟩
  · unfold loA
    refine decide_eq_true fun z hz => ?_
    obtain ⟨i, hi, hq, rfl⟩ := mem_sieve.1 hz
    rw [Bool.and_eq_true] at hq
    simpa [opp] using hq.2
  · unfold loA at hl
    have hl := of_decide_eq_true hl
    have hb := botN_bnd ho hm h0
    refine join_irr ho hm hb.1 (fun z hz => hb.2.2 z hz rfl) hu _ x hx (Nat.le_refl _) fun j hj h1 h2 => ?_
    have := hl (j : Int) (mem_sieve.2 ⟨j, hj, by rw [h1, h2]; rfl, rfl⟩)
    simpa [opp] using this
theorem inf_absorb {n : Nat} {f : Nat → Nat → Bool} (ho : Ord n f) (hm : meets n f) (hj : meets n (opp f)) {x w : Nat} (hx : x < n) (hw : w < n) : inf n f x (inf n (opp f) x w) = x := by
  have hjl := inf_lt hj hx hw
  have h1 : f x (inf n (opp f) x w) = true := inf_left hj hx hw
  exact ho.anti _ _ (inf_lt hm hx hjl) hx (inf_left hm hx hjl) (inf_max hm hx hjl hx (ho.refl x hx) h1)
theorem inf_congr {n : Nat} {f g : Nat → Nat → Bool} (hg : Ord n g) (hm : meets n f) (h : ∀ x y, x < n → y < n → f x y = g x y) {x y : Nat} (hx : x < n) (hy : y < n) : inf n f x y = inf n g x y := by
  have hmg := meets_congr hg h hm
  have i := inf_lt hm hx hy
  have j := inf_lt hmg hx hy
  refine hg.anti _ _ i j (inf_max hmg hx hy i ?_ ?_) ?_
  · rw [← h _ _ i hx]; exact inf_left hm hx hy
  · rw [← h _ _ i hy]; exact inf_right hm hx hy
  · rw [← h _ _ j i]
    exact inf_max hm hx hy j (by rw [h _ _ j hx]; exact inf_left hmg hx hy) (by rw [h _ _ j hy]; exact inf_right hmg hx hy)
end Go.Proofs.Ytoikbcagaanhgaa.Ax
