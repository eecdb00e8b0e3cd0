/-
  The poset to which pairs lead.
-/
import Derived.Test.YtgjmaofgokgdiaaP18
namespace Go.Proofs.Ytgjmaofgokgdiaa.Ax
open Go Classical

/-- the table with diagonal entries so far -/
def dg (i : Nat) : Nat → Nat → Bool := fun a b => decide (a = b ∧ a < i)
def tset (f : Nat → Nat → Bool) (x y : Nat) (v : Bool) : Nat → Nat → Bool := fun a b => if a = x ∧ b = y then v else f a b
theorem tab_tset (n : Nat) (f : Nat → Nat → Bool) (x y : Nat) (v : Bool) (hx : x < n) (hy : y < n) : (tab n f).set x ((nth (tab n f) x).set y v) = tab n (tset f x y v) := tab_set n f x y v hx hy
/-- pairs set, so far -/
def pset (f : Nat → Nat → Bool) (ps : List (Int × Int)) : Nat → Nat → Nat → Bool
  | 0 => f
  | k + 1 => tset (pset f ps k) (nth ps k).1.toNat (nth ps k).2.toNat true
/-- ways through z -/
def wy (f : Nat → Nat → Bool) (z x : Nat) : Nat → Nat → Nat → Bool
  | 0 => f
  | y + 1 => tset (wy f z x y) x y (wy f z x y x y || (wy f z x y x z && wy f z x y z y))
def wx (n : Nat) (f : Nat → Nat → Bool) (z : Nat) : Nat → Nat → Nat → Bool
  | 0 => f
  | x + 1 => wy (wx n f z x) z x n
def wz (n : Nat) (f : Nat → Nat → Bool) : Nat → Nat → Nat → Bool
  | 0 => f
  | z + 1 => wx n (wz n f z) z n
def okPair (n : Nat) (p : Int × Int) : Prop := ((0 ≤ p.1 ∧ p.1 < n) ∧ 0 ≤ p.2 ∧ p.2 < n) ∧ p.1 ≠ p.2
def ways (n : Nat) (ps : List (Int × Int)) : Nat → Nat → Bool := wz n (pset (dg n) ps ps.length) n

section
variable {n : Nat} {ps : List (Int × Int)}
/-- one step of the ways through z, whichever loop it is -/
theorem way_step {f : Nat → Nat → Bool} {z x y : Nat} (hz : z < n) (hx : x < n) (hy : y < n) (h10 : n ≤ 10) {α : Type} (k : List (List Bool) → Option α) :
    (ask (0 ≤ (x : Int) ∧ (x : Int) < (tab n f).length) <|
    ask (0 ≤ (x : Int) ∧ (x : Int) < (tab n f).length) <|
    ask (0 ≤ (y : Int) ∧ (y : Int) < (nth (tab n f) ((x : Int)).toNat).length) <|
    if (nth (nth (tab n f) ((x : Int)).toNat) ((y : Int)).toNat) = true then
     ask (0 ≤ (y : Int) ∧ (y : Int) < (nth (tab n f) ((x : Int)).toNat).length) <|
     ask (InI ((y : Int) + 1)) <|
     k ((tab n f).set ((x : Int)).toNat ((nth (tab n f) ((x : Int)).toNat).set ((y : Int)).toNat true))
    else
     ask (0 ≤ (x : Int) ∧ (x : Int) < (tab n f).length) <|
     ask (0 ≤ (z : Int) ∧ (z : Int) < (nth (tab n f) ((x : Int)).toNat).length) <|
     if (nth (nth (tab n f) ((x : Int)).toNat) ((z : Int)).toNat) = true then
      ask (0 ≤ (z : Int) ∧ (z : Int) < (tab n f).length) <|
      ask (0 ≤ (y : Int) ∧ (y : Int) < (nth (tab n f) ((z : Int)).toNat).length) <|
      ask (0 ≤ (y : Int) ∧ (y : Int) < (nth (tab n f) ((x : Int)).toNat).length) <|
      ask (InI ((y : Int) + 1)) <|
      k ((tab n f).set ((x : Int)).toNat ((nth (tab n f) ((x : Int)).toNat).set ((y : Int)).toNat (nth (nth (tab n f) ((z : Int)).toNat) ((y : Int)).toNat)))
     else
      ask (0 ≤ (y : Int) ∧ (y : Int) < (nth (tab n f) ((x : Int)).toNat).length) <|
      ask (InI ((y : Int) + 1)) <|
      k ((tab n f).set ((x : Int)).toNat ((nth (tab n f) ((x : Int)).toNat).set ((y : Int)).toNat false))) = k (tab n (tset f x y (f x y || (f x z && f z y)))) := by
  have h1 := tab_len n f
  have h2 := tab_row_len n f x hx
  have h3 := tab_row_len n f z hz
  simp only [Int.toNat_natCast, h1, h2, h3, tab_at n f x y hx hy, tab_at n f x z hx hz, tab_at n f z y hz hy]
  repeat rw [ask_pos (by first | omega | (unfold InI; omega))]
  cases hxy : f x y
  · simp only [Bool.false_eq_true, if_false, Bool.false_or]
    cases hxz : f x z
    · simp only [Bool.false_eq_true, if_false, Bool.false_and]
      repeat rw [ask_pos (by first | omega | (unfold InI; omega))]
      rw [tab_tset n f x y false hx hy]
    · simp only [if_true, Bool.true_and]
      repeat rw [ask_pos (by first | omega | (unfold InI; omega))]
      rw [tab_tset n f x y _ hx hy]
  · simp only [if_true, Bool.true_or]
    repeat rw [ask_pos (by first | omega | (unfold InI; omega))]
    rw [tab_tset n f x y true hx hy]

/-- the first rows of the diagonal -/
def dgRows (n i : Nat) : List (List Bool) := (List.range i).map fun x => (List.range n).map fun b => decide (x = b)
theorem dgRows_succ (n i : Nat) : dgRows n (i + 1) = dgRows n i ++ [(List.range n).map fun b => decide (i = b)] := by simp [dgRows, List.range_succ]
theorem dgRows_len (n i : Nat) : (dgRows n i).length = i := by simp [dgRows]
theorem dgRows_all (n : Nat) : dgRows n n = tab n (dg n) := by
  unfold dgRows tab
  refine List.map_congr_left fun x hx => List.map_congr_left fun b _ => ?_
  have := List.mem_range.1 hx
  unfold dg
  rw [decide_eq_decide]; omega
theorem set_row (n x : Nat) : (List.replicate n false).set x true = (List.range n).map fun b => decide (x = b) := by
  refine nth_ext (by simp) fun i hi => ?_
  have hi' : i < n := by simpa using hi
  rw [nth_set _ _ _ _ (by simpa using hi'), nth_map' _ (by simpa using hi'), nth_range hi', nth_replicate _ hi']
  by_cases h : x = i
  · rw [if_pos h, decide_eq_true h]
  · rw [if_neg h, decide_eq_false h]
end

end Go.Proofs.Ytgjmaofgokgdiaa.Ax
