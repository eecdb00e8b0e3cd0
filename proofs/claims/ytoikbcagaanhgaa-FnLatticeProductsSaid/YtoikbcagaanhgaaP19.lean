/-
  The poset to which pairs lead.
-/
import Derived.Test.YtoikbcagaanhgaaP18
namespace Go.Proofs.Ytoikbcagaanhgaa.Ax
open Go Classical
def dg (i : Nat) : Nat → Nat → Bool := fun a b => decide (a = b ∧ a < i)
def tset (f : Nat → Nat → Bool) (x y : Nat) (v : Bool) : Nat → Nat → Bool := fun a b => if a = x ∧ b = y then v else f a b
theorem tab_tset (n : Nat) (f : Nat → Nat → Bool) (x y : Nat) (v : Bool) (hx : x < n) (hy : y < n) : (tab n f).set x ((nth (tab n f) x).set y v) = tab n (tset f x y v) := tab_set n f x y v hx hy
def pset (f : Nat → Nat → Bool) (ps : List (Int × Int)) : Nat → Nat → Nat → Bool
  | 0 => f
  | k + 1 => tset (pset f ps k) (nth ps k).1.toNat (nth ps k).2.toNat true
def wy (f : Nat → Nat → Bool) (z x : Nat) : Nat → Nat → Nat → Bool
  | 0 => f
  | y + 1 => tset (wy f z x y) x y (wy f z x y x y || (wy f z x y x z && wy f z x y z y))
def wx (n : Nat) (f : Nat → Nat → Bool) (z : Nat) : Nat → Nat → Nat → Bool
  | 0 => f
  | x + 1 => wy (wx n f z x) z x n
def wz (n : Nat) (f : Nat → Nat → Bool) : Nat → Nat → Nat → Bool
  | 0 => f
  | z + 1 => wx n (wz n f z) z n
def okPair (n : Nat) (p : Int × Int) : Prop := ((0 ≤ p.1 ∧ p.1 < n) ∧ 0 ≤ p.2 ∧ p.2 < n) ∧ p.1 ≠ p.2
def ways (n : Nat) (ps : List (Int × Int)) : Nat → Nat → Bool := wz n (pset (dg n) ps ps.length) n
section
variable {n : Nat} {ps : List (Int × Int)}
theorem way_step {f : Nat → Nat → Bool} {z x y : Nat} (hz : z < n) (hx : x < n) (hy : y < n) (h10 : n ≤ 10) {α : Type} (k : List (List Bool) → Option α) :
    (ask (0 ≤ (x : Int) ∧ (x : Int) < (tab n f).length) <|
    ask (0 ≤ (x : Int) ∧ (x : Int) < (tab n f).length) <|
    ask (0 ≤ (y : Int) ∧ (y : Int) < (nth (tab n f) ((x : Int)).toNat).length) <|
    if (nth (nth (tab n f) ((x : Int)).toNat) ((y : Int)).toNat) = true then
     ask (0 ≤ (y : Int) ∧ (y : Int) < (nth (tab n f) ((x : Int)).toNat).length) <|
     ask (InI ((y : Int) + 1)) <|
     k ((tab n f).set ((x : Int)).toNat ((nth (tab n f) ((x : Int)).toNat).set ((y : Int)).toNat true))
    else
     ask (0 ≤ (x : Int) ∧ (x : Int) < (tab n f).length) <|
     ask (0 ≤ (z : Int) ∧ (z : Int) < (nth (tab n f) ((x : Int)).toNat).length) <|
     if (nth (nth (tab n f) ((x : Int)).toNat) ((z : Int)).toNat) = true then
      ask (0 ≤ (z : Int) ∧ (z : Int) < (tab n f).length) <|
      ask (0 ≤ (y : Int) ∧ (y : Int) < (nth (tab n f) ((z : Int)).toNat).length) <|
      ask (0 ≤ (y : Int) ∧ (y : Int) < (nth (tab n f) ((x : Int)).toNat).length) <|
      ask (InI ((y : Int) + 1)) <|
      k ((tab n f).set ((x : Int)).toNat ((nth (tab n f) ((x : Int)).toNat).set ((y : Int)).toNat (nth (nth (tab n f) ((z : Int)).toNat) ((y : Int)).toNat)))
     else
      ask (0 ≤ (y : Int) ∧ (y : Int) < (nth (tab n f) ((x : Int)).toNat).length) <|
      ask (InI ((y : Int) + 1)) <|
      k ((tab n f).set ((x : Int)).toNat ((nth (tab n f) ((x : Int)).toNat).set ((y : Int)).toNat false))) = k (tab n (tset f x y (f x y || (f x z && f z y)))) := by
  have h1 := tab_len n f
  have h2 := tab_row_len n f x hx
  have h3 := tab_row_len n f z hz
  simp only [Int.toNat_natCast, h1, h2, h3, tab_at n f x y hx hy, tab_at n f x z hx hz, tab_at n f z y hz hy]
  repeat rw [ask_pos (by first | omega | (unfold InI; omega))]
  cases hxy : f x y
  · simp only [Bool.false_eq_true, if_false, Bool.false_or]
    cases hxz : f x z
    · simp only [Bool.false_eq_true, if_false, Bool.false_and]
      repeat rw [ask_pos (by first | omega | (unfold InI; omega))]
      rw [tab_tset n f x y false hx hy]
    · simp only [if_true, Bool.true_and]
      repeat rw [ask_pos (by first | omega | (unfold InI; omega))]
      rw [tab_tset n f x y _ hx hy]
  · simp only [if_true, Bool.true_or]
    repeat rw [ask_pos (by first | omega | (unfold InI; omega))]
    rw [tab_tset n f x y true hx hy]
theorem F_fromY (h10 : n ≤ 10) (f : Nat → Nat → Bool) {z x : Nat} (hz : z < n) (hx : x < n) : loopO (F_spec_l23From_l3 (n : Int) (z : Int) (x : Int)) (0, tab n f) = some (tab n (wy f z x n)) := by
  refine loop_seq (body := F_spec_l23From_l3 (n : Int) (z : Int) (x : Int)) (fun y => ((y : Int), tab n (wy f z x y))) n _ (fun y hy => ?_) ?_
  · unfold F_spec_l23From_l3
    dsimp only
    rw [if_pos (by omega)]
    exact way_step (n := n) (f := wy f z x y) hz hx hy h10 (fun t => some (Sum.inl ((y : Int) + 1, t) : (Int × List (List Bool)) ⊕ List (List Bool)))
  · unfold F_spec_l23From_l3
    dsimp only
    rw [if_neg (by omega)]
theorem F_fromX (h10 : n ≤ 10) (f : Nat → Nat → Bool) {z : Nat} (hz : z < n) : loopO (F_spec_l23From_l4 (n : Int) (z : Int)) (0, tab n f) = some (tab n (wx n f z n)) := by
  refine loop_seq (body := F_spec_l23From_l4 (n : Int) (z : Int)) (fun x => ((x : Int), tab n (wx n f z x))) n _ (fun x hx => ?_) ?_
  · unfold F_spec_l23From_l4
    dsimp only
    rw [if_pos (by omega), F_fromY h10 (wx n f z x) hz hx]
    simp only [Option.bind_some]
    rw [ask_pos (by unfold InI; omega)]; rfl
  · unfold F_spec_l23From_l4
    dsimp only
    rw [if_neg (by omega)]
theorem F_fromZ (h10 : n ≤ 10) (f : Nat → Nat → Bool) : loopO (F_spec_l23From_l5 (n : Int)) (0, tab n f) = some (tab n (wz n f n)) := by
  refine loop_seq (body := F_spec_l23From_l5 (n : Int)) (fun z => ((z : Int), tab n (wz n f z))) n _ (fun z hz => ?_) ?_
  · unfold F_spec_l23From_l5
    dsimp only
    rw [if_pos (by omega), F_fromX h10 (wz n f z) hz]
    simp only [Option.bind_some]
    rw [ask_pos (by unfold InI; omega)]; rfl
  · unfold F_spec_l23From_l5
    dsimp only
    rw [if_neg (by omega)]
def dgRows (n i : Nat) : List (List Bool) := (List.range i).map fun x => (List.range n).map fun b => decide (x = b)
theorem dgRows_succ (n i : Nat) : dgRows n (i + 1) = dgRows n i ++ [(List.range n).map fun b => decide (i = b)] := by simp [dgRows, List.range_succ]
theorem dgRows_len (n i : Nat) : (dgRows n i).length = i := by simp [dgRows]
theorem dgRows_all (n : Nat) : dgRows n n = tab n (dg n) := by
  unfold dgRows tab
  refine List.map_congr_left fun x hx => List.map_congr_left fun b _ => ?_
  have := List.mem_range.1 hx
  unfold dg
  rw [decide_eq_decide]; omega
theorem set_row (n x : Nat) : (List.replicate n false).set x true = (List.range n).map fun b => decide (x = b) := by
  refine nth_ext (by simp) fun i hi => ?_
  have hi' : i < n := by simpa using hi
  rw [nth_set _ _ _ _ (by simpa using hi'), nth_map' _ (by simpa using hi'), nth_range hi', nth_replicate _ hi']
  by_cases h : x = i
  · rw [if_pos h, decide_eq_true h]
  · rw [if_neg h, decide_eq_false h]
theorem F_from1 (h10 : n ≤ 10) : loopO (F_spec_l23From_l1 (n : Int) ps) (0, nilL (List Bool)) = some (tab n (dg n)) := by
  rw [← dgRows_all]
  refine loop_seq (body := F_spec_l23From_l1 (n : Int) ps) (fun i => ((i : Int), dgRows n i)) n _ (fun i hi => ?_) ?_
  · unfold F_spec_l23From_l1
    dsimp only
    have hl := dgRows_len n i
    rw [if_pos (by omega), ask_pos (by rw [lim_def]; omega), Int.toNat_natCast, Int.toNat_natCast, ask_pos (by omega), ask_pos (by rw [lim_def]; simp; omega), ask_pos (by unfold InI; omega), set_row, dgRows_succ]
    rfl
  · unfold F_spec_l23From_l1
    dsimp only
    rw [if_neg (by omega)]
theorem F_from2 (h10 : n ≤ 10) (h60 : ps.length ≤ 1000) (hok : ∀ i, i < ps.length → okPair n (nth ps i)) : loopO (F_spec_l23From_l2 (n : Int) ps) (0, tab n (dg n)) = some (tab n (pset (dg n) ps ps.length)) := by
  refine loop_seq (body := F_spec_l23From_l2 (n : Int) ps) (fun i => ((i : Int), tab n (pset (dg n) ps i))) ps.length _ (fun i hi => ?_) ?_
  · obtain ⟨⟨⟨a1, a2⟩, a3, a4⟩, _⟩ := hok i hi
    unfold F_spec_l23From_l2
    dsimp only
    have h1 := tab_len n (pset (dg n) ps i)
    have h2 := tab_row_len n (pset (dg n) ps i) (nth ps i).1.toNat (by omega)
    rw [if_pos (by omega), ask_pos (by omega), Int.toNat_natCast, ask_pos (by omega), ask_pos (by omega), ask_pos (by omega), ask_pos (by unfold InI; omega), tab_tset n _ _ _ true (by omega) (by omega)]
    rfl
  · unfold F_spec_l23From_l2
    dsimp only
    rw [if_neg (by omega)]
theorem F_fromPoset (h10 : n ≤ 10) (f : Nat → Nat → Bool) : loopO (F_spec_l23From_l7 (n : Int) (tab n f)) (0, ⟨nilL (List Int)⟩) = some (posOf n f) := by
  have htl := tab_len n f
  have inner : ∀ x, x < n → ∀ acc, loopO (F_spec_l23From_l6 (n : Int) (tab n f) (x : Int) acc) (0, nilL Int) = some (sieve n fun y => f y x) := by
    intro x hx acc
    refine loop_sieve (body := F_spec_l23From_l6 (n : Int) (tab n f) (x : Int) acc) n (fun y => f y x) (fun y acc2 hy ha => ?_) (fun acc2 => ?_)
    · unfold F_spec_l23From_l6
      dsimp only
      have h2 := tab_row_len n f y hy
      rw [if_pos (by omega), ask_pos (by omega), Int.toNat_natCast, ask_pos (by omega), Int.toNat_natCast, tab_at n f y x hy hx]
      by_cases hf : f y x = true
      · rw [if_pos hf, if_pos hf]
        simp (disch := omega) only [ask_pos, InI_def, lim_def, List.length_cons, List.length_nil, Int.natCast_add, Int.natCast_one]
      · rw [if_neg hf, if_neg hf]
        simp (disch := omega) only [ask_pos, InI_def, Int.natCast_add, Int.natCast_one]
    · unfold F_spec_l23From_l6
      dsimp only
      rw [if_neg (by omega)]
  refine loop_seq (body := F_spec_l23From_l7 (n : Int) (tab n f)) (fun x => ((x : Int), (⟨rowsOf n f x⟩ : SPoset))) n _ (fun x hx => ?_) ?_
  · unfold F_spec_l23From_l7
    dsimp only
    have hl := rowsOf_len n f x
    rw [if_pos (by omega), inner x hx]
    simp only [Option.bind_some]
    rw [ask_pos (by rw [lim_def]; simp; omega), ask_pos (by unfold InI; omega), rowsOf_succ]
    rfl
  · unfold F_spec_l23From_l7
    dsimp only
    rw [if_neg (by omega)]; rfl
theorem F_from (h10 : n ≤ 10) (h60 : ps.length ≤ 1000) (hok : ∀ i, i < ps.length → okPair n (nth ps i)) : F_spec_l23From (n : Int) ps = some (posOf n (ways n ps)) := by
  unfold F_spec_l23From
  rw [F_from1 h10]
  simp only [Option.bind_some]
  rw [F_from2 h10 h60 hok]
  simp only [Option.bind_some]
  rw [F_fromZ h10]
  simp only [Option.bind_some]
  rw [F_fromPoset h10]
  rfl
end
end Go.Proofs.Ytoikbcagaanhgaa.Ax
