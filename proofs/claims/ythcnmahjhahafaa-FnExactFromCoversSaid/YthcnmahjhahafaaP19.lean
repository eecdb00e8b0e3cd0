/-
  The poset to which pairs lead.
-/
import Derived.Test.YthcnmahjhahafaaP18
namespace Go.Proofs.Ythcnmahjhahafaa.Ax
open Go Classical

/-- the table with diagonal entries so far -/
def dg (i : Nat) : Nat → Nat → Bool := fun a b => decide (a = b ∧ a < i)
def tset (f : Nat → Nat → Bool) (x y : Nat) (v : Bool) : Nat → Nat → Bool := fun a b => if a = x ∧ b = y then v else f a b
theorem tab_tset (n : Nat) (f : Nat → Nat → Bool) (x y : Nat) (v : Bool) (hx : x < n) (hy : y < n) : (tab n f).set x ((nth (tab n f) x).set y v) = tab n (tset f x y v) := tab_set n f x y v hx hy
/-- pairs set, so far -/
def pset (f : Nat → Nat → Bool) (ps : List (Int × Int)) : Nat → Nat → Nat → Bool
  | 0 => f
  | k + 1 => tset (pset f ps k) (nth ps k).1.toNat (nth ps k).2.toNat true
/-- ways through z -/
def wy (f : Nat → Nat → Bool) (z x : Nat) : Nat → Nat → Nat → Bool
  | 0 => f
  | y + 1 => tset (wy f z x y) x y (wy f z x y x y || (wy f z x y x z && wy f z x y z y))
def wx (n : Nat) (f : Nat → Nat → Bool) (z : Nat) : Nat → Nat → Nat → Bool
  | 0 => f
  | x + 1 => wy (wx n f z x) z x n
def wz (n : Nat) (f : Nat → Nat → Bool) : Nat → Nat → Nat → Bool
  | 0 => f
  | z + 1 => wx n (wz n f z) z n
def okPair (n : Nat) (p : Int × Int) : Prop := ((0 ≤ p.1 ∧ p.1 < n) ∧ 0 ≤ p.2 ∧ p.2 < n) ∧ p.1 ≠ p.2
def ways (n : Nat) (ps : List (Int × Int)) : Nat → Nat → Bool := wz n (pset (dg n) ps ps.length) n

section
variable {n : Nat} {ps : List (Int × Int)}
theorem F_cov1 (h10 : n ≤ 10) (r : List (List Bool)) (hr : r.length = n) : loopO (F_impl_FromCovers_l1 ps r) (0, tab n fun _ _ => false) = some (tab n (dg n)) := by
  have e0 : tab n (fun _ _ => false) = tab n (dg 0) := tab_congr fun a b _ _ => by simp [dg]
  rw [e0]
  refine loop_seq (body := F_impl_FromCovers_l1 ps r) (fun i => ((i : Int), tab n (dg i))) n _ (fun i hi => ?_) ?_
  · unfold F_impl_FromCovers_l1
    dsimp only
    have h1 := tab_len n (dg i)
    have h2 := tab_row_len n (dg i) i hi
    rw [if_pos (by omega), ask_pos (by omega), Int.toNat_natCast, ask_pos (by omega), ask_pos (by unfold InI; omega), tab_tset n _ i i true hi hi]
    have : tab n (tset (dg i) i i true) = tab n (dg (i + 1)) := tab_congr fun a b _ _ => by
      unfold tset dg
      by_cases hc : a = i ∧ b = i
      · rw [if_pos hc, decide_eq_true (by omega)]
      · rw [if_neg hc, decide_eq_decide]; omega
    rw [this]; rfl
  · unfold F_impl_FromCovers_l1
    dsimp only
    rw [if_neg (by omega)]
theorem F_cov2 (h10 : n ≤ 10) (h60 : ps.length ≤ 60) : (loopO (F_impl_FromCovers_l2 ps) (0, tab n (dg n)) = some (.inl ()) ∧ ∃ i, i < ps.length ∧ ¬ okPair n (nth ps i)) ∨
    (loopO (F_impl_FromCovers_l2 ps) (0, tab n (dg n)) = some (.inr (tab n (pset (dg n) ps ps.length))) ∧ ∀ i, i < ps.length → okPair n (nth ps i)) := by
  have hhas : ∀ f : Nat → Nat → Bool, ∀ x y : Int, F_impl_order_has (tab n f) [x, y] = some (decide ((0 ≤ x ∧ x < n) ∧ 0 ≤ y ∧ y < n)) := fun f x y => by
    rw [F_has _ _ (by rw [lim_def]; simp), tab_len]
    congr 1
    rw [decide_eq_decide]; exact two_iff
  rcases loop_pick (body := F_impl_FromCovers_l2 ps) (fun i => ((i : Int), tab n (pset (dg n) ps i))) ps.length (fun i => ¬ okPair n (nth ps i)) (fun _ => .inl ()) (.inr (tab n (pset (dg n) ps ps.length))) (fun i hi hh => by
      have hok := Classical.not_not.1 hh
      obtain ⟨⟨⟨a1, a2⟩, a3, a4⟩, a5⟩ := hok
      unfold F_impl_FromCovers_l2
      dsimp only
      rw [if_pos (by omega), ask_pos (by omega), Int.toNat_natCast, hhas, decide_eq_true (show (0 ≤ (nth ps i).1 ∧ (nth ps i).1 < n) ∧ 0 ≤ (nth ps i).2 ∧ (nth ps i).2 < n from ⟨⟨a1, a2⟩, a3, a4⟩)]
      simp only [Option.bind_some, if_true]
      rw [if_neg a5]
      simp only [Option.bind_some]
      have h1 := tab_len n (pset (dg n) ps i)
      have h2 := tab_row_len n (pset (dg n) ps i) (nth ps i).1.toNat (by omega)
      rw [ask_pos (by omega), ask_pos (by omega), ask_pos (by unfold InI; omega), tab_tset n _ _ _ true (by omega) (by omega)]
      rfl) (fun i hi hh => by
      unfold F_impl_FromCovers_l2
      dsimp only
      rw [if_pos (by omega), ask_pos (by omega), Int.toNat_natCast, hhas]
      by_cases hc : (0 ≤ (nth ps i).1 ∧ (nth ps i).1 < n) ∧ 0 ≤ (nth ps i).2 ∧ (nth ps i).2 < n
      · rw [decide_eq_true hc]
        simp only [Option.bind_some, if_true]
        rw [if_pos (Classical.not_not.1 fun hne => hh ⟨hc, hne⟩)]; rfl
      · rw [decide_eq_false hc]
        simp) (by
      unfold F_impl_FromCovers_l2
      dsimp only
      rw [if_neg (by omega)]) with ⟨i, hi, hh, _, e⟩ | ⟨hn, e⟩
  · exact .inl ⟨e, i, hi, hh⟩
  · exact .inr ⟨e, fun i hi => Classical.not_not.1 (hn i hi)⟩

/-- one step of the ways through z, whichever loop it is -/
theorem way_step {f : Nat → Nat → Bool} {z x y : Nat} (hz : z < n) (hx : x < n) (hy : y < n) (h10 : n ≤ 10) {α : Type} (k : List (List Bool) → Option α) :
    (ask (0 ≤ (x : Int) ∧ (x : Int) < (tab n f).length) <|
    ask (0 ≤ (x : Int) ∧ (x : Int) < (tab n f).length) <|
    ask (0 ≤ (y : Int) ∧ (y : Int) < (nth (tab n f) ((x : Int)).toNat).length) <|
    if (nth (nth (tab n f) ((x : Int)).toNat) ((y : Int)).toNat) = true then
     ask (0 ≤ (y : Int) ∧ (y : Int) < (nth (tab n f) ((x : Int)).toNat).length) <|
     ask (InI ((y : Int) + 1)) <|
     k ((tab n f).set ((x : Int)).toNat ((nth (tab n f) ((x : Int)).toNat).set ((y : Int)).toNat true))
    else
     ask (0 ≤ (x : Int) ∧ (x : Int) < (tab n f).length) <|
     ask (0 ≤ (z : Int) ∧ (z : Int) < (nth (tab n f) ((x : Int)).toNat).length) <|
     if (nth (nth (tab n f) ((x : Int)).toNat) ((z : Int)).toNat) = true then
      ask (0 ≤ (z : Int) ∧ (z : Int) < (tab n f).length) <|
      ask (0 ≤ (y : Int) ∧ (y : Int) < (nth (tab n f) ((z : Int)).toNat).length) <|
      ask (0 ≤ (y : Int) ∧ (y : Int) < (nth (tab n f) ((x : Int)).toNat).length) <|
      ask (InI ((y : Int) + 1)) <|
      k ((tab n f).set ((x : Int)).toNat ((nth (tab n f) ((x : Int)).toNat).set ((y : Int)).toNat (nth (nth (tab n f) ((z : Int)).toNat) ((y : Int)).toNat)))
     else
      ask (0 ≤ (y : Int) ∧ (y : Int) < (nth (tab n f) ((x : Int)).toNat).length) <|
      ask (InI ((y : Int) + 1)) <|
      k ((tab n f).set ((x : Int)).toNat ((nth (tab n f) ((x : Int)).toNat).set ((y : Int)).toNat false))) = k (tab n (tset f x y (f x y || (f x z && f z y)))) := by
  have h1 := tab_len n f
  have h2 := tab_row_len n f x hx
  have h3 := tab_row_len n f z hz
  simp only [Int.toNat_natCast, h1, h2, h3, tab_at n f x y hx hy, tab_at n f x z hx hz, tab_at n f z y hz hy]
  repeat rw [ask_pos (by first | omega | (unfold InI; omega))]
  cases hxy : f x y
  · simp only [Bool.false_eq_true, if_false, Bool.false_or]
    cases hxz : f x z
    · simp only [Bool.false_eq_true, if_false, Bool.false_and]
      repeat rw [ask_pos (by first | omega | (unfold InI; omega))]
      rw [tab_tset n f x y false hx hy]
    · simp only [if_true, Bool.true_and]
      repeat rw [ask_pos (by first | omega | (unfold InI; omega))]
      rw [tab_tset n f x y _ hx hy]
  · simp only [if_true, Bool.true_or]
    repeat rw [ask_pos (by first | omega | (unfold InI; omega))]
    rw [tab_tset n f x y true hx hy]

theorem F_covY (h10 : n ≤ 10) (q : List (List Bool)) (a b : List (List Bool)) (ha : a.length = n) (f : Nat → Nat → Bool) {z x : Nat} (hz : z < n) (hx : x < n) (hb : b.length = n) : loopO (F_impl_FromCovers_l3 q (z : Int) a (x : Int) b) (0, tab n f) = some (tab n (wy f z x n)) := by
  refine loop_seq (body := F_impl_FromCovers_l3 q (z : Int) a (x : Int) b) (fun y => ((y : Int), tab n (wy f z x y))) n _ (fun y hy => ?_) ?_
  · unfold F_impl_FromCovers_l3
    dsimp only
    rw [if_pos (by omega)]
    exact way_step (n := n) (f := wy f z x y) hz hx hy h10 (fun t => some (Sum.inl ((y : Int) + 1, t) : (Int × List (List Bool)) ⊕ List (List Bool)))
  · unfold F_impl_FromCovers_l3
    dsimp only
    rw [if_neg (by omega)]
theorem F_covX (h10 : n ≤ 10) (q : List (List Bool)) (a : List (List Bool)) (ha : a.length = n) (f : Nat → Nat → Bool) {z : Nat} (hz : z < n) : loopO (F_impl_FromCovers_l4 q (z : Int) a) (0, tab n f) = some (tab n (wx n f z n)) := by
  refine loop_seq (body := F_impl_FromCovers_l4 q (z : Int) a) (fun x => ((x : Int), tab n (wx n f z x))) n _ (fun x hx => ?_) ?_
  · unfold F_impl_FromCovers_l4
    dsimp only
    rw [if_pos (by omega), F_covY h10 q a _ ha (wx n f z x) hz hx (tab_len _ _)]
    simp only [Option.bind_some]
    rw [ask_pos (by unfold InI; omega)]; rfl
  · unfold F_impl_FromCovers_l4
    dsimp only
    rw [if_neg (by omega)]
theorem F_covZ (h10 : n ≤ 10) (q : List (List Bool)) (hq : q.length = n) (f : Nat → Nat → Bool) : loopO (F_impl_FromCovers_l5 q) (0, tab n f) = some (tab n (wz n f n)) := by
  refine loop_seq (body := F_impl_FromCovers_l5 q) (fun z => ((z : Int), tab n (wz n f z))) n _ (fun z hz => ?_) ?_
  · unfold F_impl_FromCovers_l5
    dsimp only
    rw [if_pos (by omega), F_covX h10 q _ (tab_len _ _) (wz n f z) hz]
    simp only [Option.bind_some]
    rw [ask_pos (by unfold InI; omega)]; rfl
  · unfold F_impl_FromCovers_l5
    dsimp only
    rw [if_neg (by omega)]

theorem F_fromY (h10 : n ≤ 10) (f : Nat → Nat → Bool) {z x : Nat} (hz : z < n) (hx : x < n) : loopO (F_spec_l23From_l3 (n : Int) (z : Int) (x : Int)) (0, tab n f) = some (tab n (wy f z x n)) := by
  refine loop_seq (body := F_spec_l23From_l3 (n : Int) (z : Int) (x : Int)) (fun y => ((y : Int), tab n (wy f z x y))) n _ (fun y hy => ?_) ?_
  · unfold F_spec_l23From_l3
    dsimp only
    rw [if_pos (by omega)]
    exact way_step (n := n) (f := wy f z x y) hz hx hy h10 (fun t => some (Sum.inl ((y : Int) + 1, t) : (Int × List (List Bool)) ⊕ List (List Bool)))
  · unfold F_spec_l23From_l3
    dsimp only
    rw [if_neg (by omega)]
theorem F_fromX (h10 : n ≤ 10) (f : Nat → Nat → Bool) {z : Nat} (hz : z < n) : loopO (F_spec_l23From_l4 (n : Int) (z : Int)) (0, tab n f) = some (tab n (wx n f z n)) := by
  refine loop_seq (body := F_spec_l23From_l4 (n : Int) (z : Int)) (fun x => ((x : Int), tab n (wx n f z x))) n _ (fun x hx => ?_) ?_
  · unfold F_spec_l23From_l4
    dsimp only
    rw [if_pos (by omega), F_fromY h10 (wx n f z x) hz hx]
    simp only [Option.bind_some]
    rw [ask_pos (by unfold InI; omega)]; rfl
  · unfold F_spec_l23From_l4
    dsimp only
    rw [if_neg (by omega)]
theorem F_fromZ (h10 : n ≤ 10) (f : Nat → Nat → Bool) : loopO (F_spec_l23From_l5 (n : Int)) (0, tab n f) = some (tab n (wz n f n)) := by
  refine loop_seq (body := F_spec_l23From_l5 (n : Int)) (fun z => ((z : Int), tab n (wz n f z))) n _ (fun z hz => ?_) ?_
  · unfold F_spec_l23From_l5
    dsimp only
    rw [if_pos (by omega), F_fromX h10 (wz n f z) hz]
    simp only [Option.bind_some]
    rw [ask_pos (by unfold InI; omega)]; rfl
  · unfold F_spec_l23From_l5
    dsimp only
    rw [if_neg (by omega)]
/-- the first rows of the diagonal -/
def dgRows (n i : Nat) : List (List Bool) := (List.range i).map fun x => (List.range n).map fun b => decide (x = b)
theorem dgRows_succ (n i : Nat) : dgRows n (i + 1) = dgRows n i ++ [(List.range n).map fun b => decide (i = b)] := by simp [dgRows, List.range_succ]
theorem dgRows_len (n i : Nat) : (dgRows n i).length = i := by simp [dgRows]
theorem dgRows_all (n : Nat) : dgRows n n = tab n (dg n) := by
  unfold dgRows tab
  refine List.map_congr_left fun x hx => List.map_congr_left fun b _ => ?_
  have := List.mem_range.1 hx
  unfold dg
  rw [decide_eq_decide]; omega
theorem set_row (n x : Nat) : (List.replicate n false).set x true = (List.range n).map fun b => decide (x = b) := by
  refine nth_ext (by simp) fun i hi => ?_
  have hi' : i < n := by simpa using hi
  rw [nth_set _ _ _ _ (by simpa using hi'), nth_map' _ (by simpa using hi'), nth_range hi', nth_replicate _ hi']
  by_cases h : x = i
  · rw [if_pos h, decide_eq_true h]
  · rw [if_neg h, decide_eq_false h]
theorem F_from1 (h10 : n ≤ 10) : loopO (F_spec_l23From_l1 (n : Int) ps) (0, nilL (List Bool)) = some (tab n (dg n)) := by
  rw [← dgRows_all]
  refine loop_seq (body := F_spec_l23From_l1 (n : Int) ps) (fun i => ((i : Int), dgRows n i)) n _ (fun i hi => ?_) ?_
  · unfold F_spec_l23From_l1
    dsimp only
    have hl := dgRows_len n i
    rw [if_pos (by omega), ask_pos (by rw [lim_def]; omega), Int.toNat_natCast, Int.toNat_natCast, ask_pos (by omega), ask_pos (by rw [lim_def]; simp; omega), ask_pos (by unfold InI; omega), set_row, dgRows_succ]
    rfl
  · unfold F_spec_l23From_l1
    dsimp only
    rw [if_neg (by omega)]
theorem F_from2 (h10 : n ≤ 10) (h60 : ps.length ≤ 60) (hok : ∀ i, i < ps.length → okPair n (nth ps i)) : loopO (F_spec_l23From_l2 (n : Int) ps) (0, tab n (dg n)) = some (tab n (pset (dg n) ps ps.length)) := by
  refine loop_seq (body := F_spec_l23From_l2 (n : Int) ps) (fun i => ((i : Int), tab n (pset (dg n) ps i))) ps.length _ (fun i hi => ?_) ?_
  · obtain ⟨⟨⟨a1, a2⟩, a3, a4⟩, _⟩ := hok i hi
    unfold F_spec_l23From_l2
    dsimp only
    have h1 := tab_len n (pset (dg n) ps i)
    have h2 := tab_row_len n (pset (dg n) ps i) (nth ps i).1.toNat (by omega)
    rw [if_pos (by omega), ask_pos (by omega), Int.toNat_natCast, ask_pos (by omega), ask_pos (by omega), ask_pos (by omega), ask_pos (by unfold InI; omega), tab_tset n _ _ _ true (by omega) (by omega)]
    rfl
  · unfold F_spec_l23From_l2
    dsimp only
    rw [if_neg (by omega)]
theorem F_fromPoset (h10 : n ≤ 10) (f : Nat → Nat → Bool) : loopO (F_spec_l23From_l7 (n : Int) (tab n f)) (0, ⟨nilL (List Int)⟩) = some (posOf n f) := by
  have htl := tab_len n f
  have inner : ∀ x, x < n → ∀ acc, loopO (F_spec_l23From_l6 (n : Int) (tab n f) (x : Int) acc) (0, nilL Int) = some (sieve n fun y => f y x) := by
    intro x hx acc
    refine loop_sieve (body := F_spec_l23From_l6 (n : Int) (tab n f) (x : Int) acc) n (fun y => f y x) (fun y acc2 hy ha => ?_) (fun acc2 => ?_)
    · unfold F_spec_l23From_l6
      dsimp only
      have h2 := tab_row_len n f y hy
      rw [if_pos (by omega), ask_pos (by omega), Int.toNat_natCast, ask_pos (by omega), Int.toNat_natCast, tab_at n f y x hy hx]
      by_cases hf : f y x = true
      · rw [if_pos hf, if_pos hf]
        simp (disch := omega) only [ask_pos, InI_def, lim_def, List.length_cons, List.length_nil, Int.natCast_add, Int.natCast_one]
      · rw [if_neg hf, if_neg hf]
        simp (disch := omega) only [ask_pos, InI_def, Int.natCast_add, Int.natCast_one]
    · unfold F_spec_l23From_l6
      dsimp only
      rw [if_neg (by omega)]
  refine loop_seq (body := F_spec_l23From_l7 (n : Int) (tab n f)) (fun x => ((x : Int), (⟨rowsOf n f x⟩ : SPoset))) n _ (fun x hx => ?_) ?_
  · unfold F_spec_l23From_l7
    dsimp only
    have hl := rowsOf_len n f x
    rw [if_pos (by omega), inner x hx]
    simp only [Option.bind_some]
    rw [ask_pos (by rw [lim_def]; simp; omega), ask_pos (by unfold InI; omega), rowsOf_succ]
    rfl
  · unfold F_spec_l23From_l7
    dsimp only
    rw [if_neg (by omega)]; rfl
theorem F_from (h10 : n ≤ 10) (h60 : ps.length ≤ 60) (hok : ∀ i, i < ps.length → okPair n (nth ps i)) : F_spec_l23From (n : Int) ps = some (posOf n (ways n ps)) := by
  unfold F_spec_l23From
  rw [F_from1 h10]
  simp only [Option.bind_some]
  rw [F_from2 h10 h60 hok]
  simp only [Option.bind_some]
  rw [F_fromZ h10]
  simp only [Option.bind_some]
  rw [F_fromPoset h10]
  rfl
theorem F_fromCheck (h10 : n ≤ 10) (h60 : ps.length ≤ 60) : (loopO (F_spec_FromCovers_l1 (n : Int) ps) 0 = some (.inl ()) ∧ ∃ i, i < ps.length ∧ ¬ okPair n (nth ps i)) ∨
    (loopO (F_spec_FromCovers_l1 (n : Int) ps) 0 = some (.inr ()) ∧ ∀ i, i < ps.length → okPair n (nth ps i)) := by
  rcases loop_pick (body := F_spec_FromCovers_l1 (n : Int) ps) (fun i => (i : Int)) ps.length (fun i => ¬ okPair n (nth ps i)) (fun _ => .inl ()) (.inr ()) (fun i hi hh => by
      obtain ⟨⟨⟨a1, a2⟩, a3, a4⟩, a5⟩ := Classical.not_not.1 hh
      unfold F_spec_FromCovers_l1
      rw [if_pos (by omega), ask_pos (by omega), ask_pos (by unfold InI; omega), F_l1In, Int.toNat_natCast, decide_eq_true (show 0 ≤ (nth ps i).1 ∧ (nth ps i).1 ≤ (n : Int) - 1 by omega)]
      simp only [Option.bind_some, if_true]
      rw [ask_pos (by omega), ask_pos (by unfold InI; omega), F_l1In, decide_eq_true (show 0 ≤ (nth ps i).2 ∧ (nth ps i).2 ≤ (n : Int) - 1 by omega)]
      simp only [Option.bind_some, if_true]
      rw [ask_pos (by omega), ask_pos (by omega), if_neg a5, ask_pos (by unfold InI; omega)]; rfl) (fun i hi hh => by
      unfold F_spec_FromCovers_l1
      rw [if_pos (by omega), ask_pos (by omega), ask_pos (by unfold InI; omega), F_l1In, Int.toNat_natCast]
      simp only [Option.bind_some]
      by_cases h1 : 0 ≤ (nth ps i).1 ∧ (nth ps i).1 ≤ (n : Int) - 1
      · rw [decide_eq_true h1, if_pos rfl, ask_pos (by omega), ask_pos (by unfold InI; omega), F_l1In]
        simp only [Option.bind_some]
        by_cases h2 : 0 ≤ (nth ps i).2 ∧ (nth ps i).2 ≤ (n : Int) - 1
        · rw [decide_eq_true h2, if_pos rfl, ask_pos (by omega), ask_pos (by omega), if_pos (Classical.not_not.1 fun hne => hh ⟨⟨⟨by omega, by omega⟩, by omega, by omega⟩, hne⟩)]
        · rw [decide_eq_false h2, if_neg (by simp)]
      · rw [decide_eq_false h1, if_neg (by simp)]) (by
      unfold F_spec_FromCovers_l1
      rw [if_neg (by omega)]) with ⟨i, hi, hh, _, e⟩ | ⟨hn, e⟩
  · exact .inl ⟨e, i, hi, hh⟩
  · exact .inr ⟨e, fun i hi => Classical.not_not.1 (hn i hi)⟩
end

theorem both_FromCovers (n0 : Int) (ps : List (Int × Int)) : ∃ r, F_spec_FromCovers n0 ps = some r ∧ F_impl_FromCovers n0 ps = some r ∧ r.1.Below.length ≤ 1048576 ∧ ∀ row ∈ r.1.Below, row.length ≤ 1048576 := by
  unfold F_spec_FromCovers F_impl_FromCovers
  rw [F_l1In]
  simp only [Option.bind_some]
  have bad : ∃ r : SPoset × Bool, some ((⟨nilL (List Int)⟩ : SPoset), false) = some r ∧ some ((⟨nilL (List Int)⟩ : SPoset), false) = some r ∧ r.1.Below.length ≤ 1048576 ∧ ∀ row ∈ r.1.Below, row.length ≤ 1048576 :=
    ⟨_, rfl, rfl, Nat.zero_le _, fun row hr => by cases hr⟩
  by_cases hn : 0 ≤ n0 ∧ n0 ≤ 10
  · obtain ⟨n, rfl⟩ : ∃ n : Nat, n0 = n := ⟨n0.toNat, by omega⟩
    have h10 : n ≤ 10 := by omega
    rw [decide_eq_true hn, if_pos rfl, if_neg (show ¬ (n : Int) < 0 by omega), if_neg (show ¬ (n : Int) > 10 by omega)]
    by_cases h60 : (ps.length : Int) > 60
    · simp only [if_pos h60, Option.bind_some]
      exact bad
    · have h60' : ps.length ≤ 60 := by omega
      simp only [if_neg h60, Option.bind_some]
      rw [F_newOrder n (by rw [lim_def]; omega)]
      simp only [Option.bind_some]
      rw [F_cov1 h10 _ (tab_len _ _)]
      simp only [Option.bind_some]
      rcases F_fromCheck (ps := ps) h10 h60' with ⟨e1, i, hi, hb⟩ | ⟨e1, hok⟩
      · rcases F_cov2 (ps := ps) h10 h60' with ⟨e2, _⟩ | ⟨_, hc⟩
        · rw [e1, e2]; exact bad
        · exact absurd (hc i hi) hb
      · rcases F_cov2 (ps := ps) h10 h60' with ⟨_, i, hi, hb⟩ | ⟨e2, _⟩
        · exact absurd (hok i hi) hb
        · rw [e1, e2]
          simp only [Option.bind_some]
          rw [F_from h10 h60' hok, F_covZ h10 _ (tab_len _ _)]
          simp only [Option.bind_some]
          have hsm := posOf_small (n := n) (f := ways n ps) (by rw [lim_def]; omega)
          rw [F_l23Good _ hsm.1 hsm.2, F_isOrder n _ (by rw [lim_def]; omega)]
          simp only [Option.bind_some]
          have hgi := posOf_good (n := n) (f := ways n ps) h10
          by_cases hg : good (posOf n (ways n ps)).Below
          · rw [decide_eq_true hg, decide_eq_true (show isOrd n (wz n (pset (dg n) ps ps.length) n) from hgi.1 hg), if_pos rfl, if_pos rfl, F_order_poset (by rw [lim_def]; omega)]
            refine ⟨(posOf n (ways n ps), true), rfl, rfl, by rw [posOf_len]; omega, fun row hr => ?_⟩
            have := posOf_rows row hr
            omega
          · rw [decide_eq_false hg, decide_eq_false (show ¬ isOrd n (wz n (pset (dg n) ps ps.length) n) from fun hh => hg (hgi.2 hh)), if_neg (by simp), if_neg (by simp)]
            exact bad
  · rw [decide_eq_false hn, if_neg (by simp)]
    by_cases h1 : n0 < 0
    · rw [if_pos h1]; exact bad
    · rw [if_neg h1, if_pos (show n0 > 10 by omega)]; exact bad

theorem F_toIntA2 (a : Int × Int) : F_laws_toIntA2 a = some a := by
  unfold F_laws_toIntA2
  rw [loopO_next (s' := (1, (a.1, 0))) (by unfold F_laws_toIntA2_l1; simp (disch := omega) only [ask_pos, if_pos, if_neg, if_true, InI_def]; rfl), loopO_next (s' := (2, (a.1, a.2))) (by unfold F_laws_toIntA2_l1; simp (disch := omega) only [ask_pos, if_pos, if_neg, InI_def]; rfl), loopO_stop (t := (a.1, a.2)) (by unfold F_laws_toIntA2_l1; dsimp only; rw [if_neg (by omega)])]
  rfl
theorem F_toIntA2S {xs : List (Int × Int)} (h : xs.length ≤ LIM) : F_laws_toIntA2S xs = some xs := by
  unfold F_laws_toIntA2S
  rw [lim_def] at h
  rw [ask_pos (by rw [lim_def]; omega)]
  have := loop_seq (body := F_laws_toIntA2S_l1 xs) (fun i => ((i : Int), xs.take i ++ List.replicate (xs.length - i) (0, 0))) xs.length xs (fun i hi => by
    unfold F_laws_toIntA2S_l1
    dsimp only
    rw [if_pos (by omega), ask_pos (by omega), F_toIntA2]
    simp only [Option.bind_some]
    rw [ask_pos (by simp; omega), ask_pos (by unfold InI; omega)]
    simp only [Int.toNat_natCast]
    rw [set_put _ _ _ hi (by simp; omega), ← take_nth hi]
    rfl) (by
    unfold F_laws_toIntA2S_l1
    dsimp only
    rw [if_neg (by omega)]
    simp)
  simp only [List.take_zero, List.nil_append, Nat.sub_zero] at this
  simp only [Int.toNat_natCast]
  show (loopO _ (((0 : Nat) : Int), _)).bind _ = _
  rw [this]; rfl
theorem F_szIntA2S {xs : List (Int × Int)} (h : xs.length ≤ BIG) : F_laws_szIntA2S xs 1048576 = some (if (1048576 : Int) - xs.length < 0 then (-1 : Int) else 1048576 - xs.length) := by
  unfold F_laws_szIntA2S
  have hb : BIG = 9223372036854775807 := rfl
  rw [ask_pos (by unfold InI; omega)]
  split <;> rfl

end Go.Proofs.Ythcnmahjhahafaa.Ax
