/-
 Plain facts, joined.
-/
import Derived.Test.YtoikbcagaanhgaaPA
namespace Go.Proofs.Ytoikbcagaanhgaa.Ax
open Go Classical
def A8x (m i : Nat) : Bool := decide (m / 2 ^ i % 2 = 1)
def anti (f : Nat → Nat → Bool) (ls : List Int) : Prop := ∀ x ∈ ls, ∀ y ∈ ls, ¬ (x.toNat ≠ y.toNat ∧ f x.toNat y.toNat = true)
theorem A4z (n : Nat) (q : Nat → Bool) : Ay (Aj n q) n := by
 intro x hx
 obtain ⟨z, h1, _, rfl⟩ := Bc.1 hx
 omega
section
variable {p : SPoset}
end
end Go.Proofs.Ytoikbcagaanhgaa.Ax
namespace Go.Proofs.Ytoikbcagaanhgaa.Ax
open Go Classical
def pc (n m : Nat) : Nat := (Aj n (A8x m)).length
theorem A12 {q q' : Nat → Bool} {x : Nat} (hq : q x = false) (h : ∀ i, q' i = (q i || decide (x = i))) : ∀ n, (Aj n q').length = (Aj n q).length + if x < n then 1 else 0 := by
 intro n
 induction n with
 | zero => simp [Aj]
 | succ n ih =>
   rw [Ko, Ko, h n]
   by_cases hxn : x = n
   ·subst hxn
    rw [hq]
    simp only [decide_true, Bool.or_true, if_true, Bool.false_eq_true, if_false]
    rw [List.length_append, ih, if_neg (by omega), if_pos (by omega)]; rfl
   ·rw [decide_eq_false hxn, Bool.or_false]
    by_cases hqn : q n = true
    ·rw [if_pos hqn, if_pos hqn, List.length_append, List.length_append, ih]
     by_cases hx : x < n
     ·rw [if_pos hx, if_pos (by omega)]; simp
     ·rw [if_neg hx, if_neg (by omega)]; rfl
    ·rw [if_neg hqn, if_neg hqn, ih]
     by_cases hx : x < n
     ·rw [if_pos hx, if_pos (by omega)]
     ·rw [if_neg hx, if_neg (by omega)]
def wt (n m : Nat) : Nat := 10 ^ (10 - pc n m)
def phi (n : Nat) (ws : List Int) : Nat → Nat → Int
 | _, 0 => 0
 | M, k + 1 => nth ws M * wt n M + phi n ws (M + 1) k
section
variable {n : Nat} {f : Nat → Nat → Bool}
structure okW (n m : Nat) (ws : List Int) : Prop where
 len : ws.length = 2 ^ n
 pos : ∀ i, i < ws.length → 0 ≤ nth ws i
 sum : phi n ws m (2 ^ n - m) ≤ 10000000000
end
section
variable {p : SPoset}
end
end Go.Proofs.Ytoikbcagaanhgaa.Ax
namespace Go.Proofs.Ytoikbcagaanhgaa.Ax
open Go Classical
def dg (i : Nat) : Nat → Nat → Bool := fun a b => decide (a = b ∧ a < i)
def A2t (f : Nat → Nat → Bool) (x y : Nat) (v : Bool) : Nat → Nat → Bool := fun a b => if a = x ∧ b = y then v else f a b
theorem Ahf (n : Nat) (f : Nat → Nat → Bool) (x y : Nat) (v : Bool) (hx : x < n) (hy : y < n) : (tab n f).set x ((nth (tab n f) x).set y v) = tab n (A2t f x y v) := Am6 n f x y v hx hy
def Azr (f : Nat → Nat → Bool) (ps : List (Int × Int)) : Nat → Nat → Nat → Bool
 | 0 => f
 | k + 1 => A2t (Azr f ps k) (nth ps k).1.toNat (nth ps k).2.toNat true
def wy (f : Nat → Nat → Bool) (z x : Nat) : Nat → Nat → Nat → Bool
 | 0 => f
 | y + 1 => A2t (wy f z x y) x y (wy f z x y x y || (wy f z x y x z && wy f z x y z y))
def wx (n : Nat) (f : Nat → Nat → Bool) (z : Nat) : Nat → Nat → Nat → Bool
 | 0 => f
 | x + 1 => wy (wx n f z x) z x n
def wz (n : Nat) (f : Nat → Nat → Bool) : Nat → Nat → Nat → Bool
 | 0 => f
 | z + 1 => wx n (wz n f z) z n
def Aj4 (n : Nat) (p : Int × Int) : Prop := ((0 ≤ p.1 ∧ p.1 < n) ∧ 0 ≤ p.2 ∧ p.2 < n) ∧ p.1 ≠ p.2
def A1h (n : Nat) (ps : List (Int × Int)) : Nat → Nat → Bool := wz n (Azr (dg n) ps ps.length) n
section
variable {n : Nat} {ps : List (Int × Int)}
theorem A3w {f : Nat → Nat → Bool} {z x y : Nat} (hz : z < n) (hx : x < n) (hy : y < n) (h10 : n ≤ 10) {α : Type} (k : List (List Bool) → Option α) :
  (ask (0 ≤ (x : Int) ∧ (x : Int) < (tab n f).length) <|
  ask (0 ≤ (x : Int) ∧ (x : Int) < (tab n f).length) <|
  ask (0 ≤ (y : Int) ∧ (y : Int) < (nth (tab n f) ((x : Int)).toNat).length) <|
  if (nth (nth (tab n f) ((x : Int)).toNat) ((y : Int)).toNat) = true then
   ask (0 ≤ (y : Int) ∧ (y : Int) < (nth (tab n f) ((x : Int)).toNat).length) <|
   ask (InI ((y : Int) + 1)) <|
   k ((tab n f).set ((x : Int)).toNat ((nth (tab n f) ((x : Int)).toNat).set ((y : Int)).toNat true))
  else
   ask (0 ≤ (x : Int) ∧ (x : Int) < (tab n f).length) <|
   ask (0 ≤ (z : Int) ∧ (z : Int) < (nth (tab n f) ((x : Int)).toNat).length) <|
   if (nth (nth (tab n f) ((x : Int)).toNat) ((z : Int)).toNat) = true then
   ask (0 ≤ (z : Int) ∧ (z : Int) < (tab n f).length) <|
   ask (0 ≤ (y : Int) ∧ (y : Int) < (nth (tab n f) ((z : Int)).toNat).length) <|
   ask (0 ≤ (y : Int) ∧ (y : Int) < (nth (tab n f) ((x : Int)).toNat).length) <|
   ask (InI ((y : Int) + 1)) <|
   k ((tab n f).set ((x : Int)).toNat ((nth (tab n f) ((x : Int)).toNat).set ((y : Int)).toNat (nth (nth (tab n f) ((z : Int)).toNat) ((y : Int)).toNat)))
   else
   ask (0 ≤ (y : Int) ∧ (y : Int) < (nth (tab n f) ((x : Int)).toNat).length) <|
   ask (InI ((y : Int) + 1)) <|
   k ((tab n f).set ((x : Int)).toNat ((nth (tab n f) ((x : Int)).toNat).set ((y : Int)).toNat false))) = k (tab n (A2t f x y (f x y || (f x z && f z y)))) := by
 have h1 := Dg n f
 have h2 := Dz n f x hx
 have h3 := Dz n f z hz
 simp only [Int.toNat_natCast, h1, h2, h3, Tz n f x y hx hy, Tz n f x z hx hz, Tz n f z y hz hy]
 repeat rw [Aa (by first | omega | (unfold InI; omega))]
 cases hxy : f x y
 ·simp only [Bool.false_eq_true, if_false, Bool.false_or]
  cases hxz : f x z
  ·simp only [Bool.false_eq_true, if_false, Bool.false_and]
   repeat rw [Aa (by first | omega | (unfold InI; omega))]
   rw [Ahf n f x y false hx hy]
  ·simp only [if_true, Bool.true_and]
   repeat rw [Aa (by first | omega | (unfold InI; omega))]
   rw [Ahf n f x y _ hx hy]
 ·simp only [if_true, Bool.true_or]
  repeat rw [Aa (by first | omega | (unfold InI; omega))]
  rw [Ahf n f x y true hx hy]
theorem A6q (h10 : n ≤ 10) (f : Nat → Nat → Bool) {z x : Nat} (hz : z < n) (hx : x < n) : Ai (D7 (n : Int) (z : Int) (x : Int)) (0, tab n f) = some (tab n (wy f z x n)) := by
 refine Az (body := D7 (n : Int) (z : Int) (x : Int)) (fun y => ((y : Int), tab n (wy f z x y))) n _ (fun y hy => ?_) ?_
 ·unfold D7
  dsimp only
  rw [if_pos (by omega)]
  exact A3w (n := n) (f := wy f z x y) hz hx hy h10 (fun t => some (Sum.inl ((y : Int) + 1, t) : (Int × List (List Bool)) ⊕ List (List Bool)))
 ·unfold D7
  dsimp only
  rw [if_neg (by omega)]
theorem A6h (h10 : n ≤ 10) (f : Nat → Nat → Bool) {z : Nat} (hz : z < n) : Ai (Eg (n : Int) (z : Int)) (0, tab n f) = some (tab n (wx n f z n)) := by
 refine Az (body := Eg (n : Int) (z : Int)) (fun x => ((x : Int), tab n (wx n f z x))) n _ (fun x hx => ?_) ?_
 ·unfold Eg
  dsimp only
  rw [if_pos (by omega), A6q h10 (wx n f z x) hz hx]
  simp only [Option.bind_some]
  rw [Aa (by unfold InI; omega)]; rfl
 ·unfold Eg
  dsimp only
  rw [if_neg (by omega)]
theorem A6n (h10 : n ≤ 10) (f : Nat → Nat → Bool) : Ai (D5 (n : Int)) (0, tab n f) = some (tab n (wz n f n)) := by
 refine Az (body := D5 (n : Int)) (fun z => ((z : Int), tab n (wz n f z))) n _ (fun z hz => ?_) ?_
 ·unfold D5
  dsimp only
  rw [if_pos (by omega), A6h h10 (wz n f z) hz]
  simp only [Option.bind_some]
  rw [Aa (by unfold InI; omega)]; rfl
 ·unfold D5
  dsimp only
  rw [if_neg (by omega)]
def Ad0 (n i : Nat) : List (List Bool) := (List.range i).map fun x => (List.range n).map fun b => decide (x = b)
theorem Axu (n i : Nat) : Ad0 n (i + 1) = Ad0 n i ++ [(List.range n).map fun b => decide (i = b)] := by simp [Ad0, List.range_succ]
theorem Ayj (n i : Nat) : (Ad0 n i).length = i := by simp [Ad0]
theorem Azt (n : Nat) : Ad0 n n = tab n (dg n) := by
 unfold Ad0 tab
 refine List.map_congr_left fun x hx => List.map_congr_left fun b _ => ?_
 have := List.mem_range.1 hx
 unfold dg
 rw [decide_eq_decide]; omega
theorem A5d (n x : Nat) : (List.replicate n false).set x true = (List.range n).map fun b => decide (x = b) := by
 refine Zc (by simp) fun i hi => ?_
 have hi' : i < n := by simpa using hi
 rw [At7 _ _ _ _ (by simpa using hi'), L2 _ (by simpa using hi'), P2 hi', Ae8 _ hi']
 by_cases h : x = i
 ·rw [if_pos h, decide_eq_true h]
 ·rw [if_neg h, decide_eq_false h]
theorem A5j (h10 : n ≤ 10) : Ai (Ed (n : Int) ps) (0, Ao (List Bool)) = some (tab n (dg n)) := by
 rw [← Azt]
 refine Az (body := Ed (n : Int) ps) (fun i => ((i : Int), Ad0 n i)) n _ (fun i hi => ?_) ?_
 ·unfold Ed
  dsimp only
  have hl := Ayj n i
  rw [if_pos (by omega), Aa (by rw [Al]; omega), Int.toNat_natCast, Int.toNat_natCast, Aa (by omega), Aa (by rw [Al]; simp; omega), Aa (by unfold InI; omega), A5d, Axu]
  rfl
 ·unfold Ed
  dsimp only
  rw [if_neg (by omega)]
theorem A58 (h10 : n ≤ 10) (h60 : ps.length ≤ 1000) (hok : ∀ i, i < ps.length → Aj4 n (nth ps i)) : Ai (Ef (n : Int) ps) (0, tab n (dg n)) = some (tab n (Azr (dg n) ps ps.length)) := by
 refine Az (body := Ef (n : Int) ps) (fun i => ((i : Int), tab n (Azr (dg n) ps i))) ps.length _ (fun i hi => ?_) ?_
 ·obtain ⟨⟨⟨a1, a2⟩, a3, a4⟩, _⟩ := hok i hi
  unfold Ef
  dsimp only
  have h1 := Dg n (Azr (dg n) ps i)
  have h2 := Dz n (Azr (dg n) ps i) (nth ps i).1.toNat (by omega)
  rw [if_pos (by omega), Aa (by omega), Int.toNat_natCast, Aa (by omega), Aa (by omega), Aa (by omega), Aa (by unfold InI; omega), Ahf n _ _ _ true (by omega) (by omega)]
  rfl
 ·unfold Ef
  dsimp only
  rw [if_neg (by omega)]
theorem Av8 (h10 : n ≤ 10) (f : Nat → Nat → Bool) : Ai (Ej (n : Int) (tab n f)) (0, ⟨Ao (List Int)⟩) = some (B5 n f) := by
 have htl := Dg n f
 have inner : ∀ x, x < n → ∀ acc, Ai (Ek (n : Int) (tab n f) (x : Int) acc) (0, Ao Int) = some (Aj n fun y => f y x) := by
  intro x hx acc
  refine M5 (body := Ek (n : Int) (tab n f) (x : Int) acc) n (fun y => f y x) (fun y acc2 hy ha => ?_) (fun acc2 => ?_)
  ·unfold Ek
   dsimp only
   have h2 := Dz n f y hy
   rw [if_pos (by omega), Aa (by omega), Int.toNat_natCast, Aa (by omega), Int.toNat_natCast, Tz n f y x hy hx]
   by_cases hf : f y x = true
   ·rw [if_pos hf, if_pos hf]
    simp (disch := omega) only [Aa, Fo, Al, List.length_cons, List.length_nil, Int.natCast_add, Int.natCast_one]
   ·rw [if_neg hf, if_neg hf]
    simp (disch := omega) only [Aa, Fo, Int.natCast_add, Int.natCast_one]
  ·unfold Ek
   dsimp only
   rw [if_neg (by omega)]
 refine Az (body := Ej (n : Int) (tab n f)) (fun x => ((x : Int), (⟨Xk n f x⟩ : SPoset))) n _ (fun x hx => ?_) ?_
 ·unfold Ej
  dsimp only
  have hl := Afr n f x
  rw [if_pos (by omega), inner x hx]
  simp only [Option.bind_some]
  rw [Aa (by rw [Al]; simp; omega), Aa (by unfold InI; omega), Ac1]
  rfl
 ·unfold Ej
  dsimp only
  rw [if_neg (by omega)]; rfl
theorem A2z (h10 : n ≤ 10) (h60 : ps.length ≤ 1000) (hok : ∀ i, i < ps.length → Aj4 n (nth ps i)) : A3 (n : Int) ps = some (B5 n (A1h n ps)) := by
 unfold A3
 rw [A5j h10]
 simp only [Option.bind_some]
 rw [A58 h10 h60 hok]
 simp only [Option.bind_some]
 rw [A6n h10]
 simp only [Option.bind_some]
 rw [Av8 h10]
 rfl
end
end Go.Proofs.Ytoikbcagaanhgaa.Ax
namespace Go.Proofs.Ytoikbcagaanhgaa.Ax
open Go Classical
theorem A8r (xs : List Int) (h : xs.length ≤ LIM) : N4 xs = some xs := by
 unfold N4
 rw [Aa (by simp [Ao]; exact h)]
 rfl
theorem A23 {q q' : Nat → Bool} : ∀ (n : Nat), (∀ i, i < n → q i = true → q' i = true) → (Aj n q).length ≤ (Aj n q').length := by
 intro n
 induction n with
 | zero => intro _; simp [Aj]
 | succ n ih =>
   intro h
   have := ih fun i hi => h i (by omega)
   rw [Ko, Ko]
   by_cases hq : q n = true
   ·rw [if_pos hq, if_pos (h n (by omega) hq), List.length_append, List.length_append]; simp; omega
   ·rw [if_neg hq]
    split
    ·rw [List.length_append]; omega
    ·exact this
theorem Ano {q q' : Nat → Bool} {x : Nat} (hx : q x = false) (hx' : q' x = true) : ∀ (n : Nat), x < n → (∀ i, i < n → q i = true → q' i = true) → (Aj n q).length < (Aj n q').length := by
 intro n
 induction n with
 | zero => intro h _; omega
 | succ n ih =>
   intro hn h
   rw [Ko, Ko]
   by_cases hxn : x = n
   ·subst hxn
    have := A23 x fun i hi => h i (by omega)
    rw [hx, hx', if_neg (by simp), if_pos rfl, List.length_append]; simp; omega
   ·have := ih (by omega) fun i hi => h i (by omega)
    by_cases hq : q n = true
    ·rw [if_pos hq, if_pos (h n (by omega) hq), List.length_append, List.length_append]; simp; omega
    ·rw [if_neg hq]
     split
     ·rw [List.length_append]; omega
     ·exact this
section
variable {n : Nat} {f : Nat → Nat → Bool}
theorem A4y {p : Nat → Prop} (h : ∃ x, x < n ∧ p x) : ∃ x, x < n ∧ p x ∧ ∀ j, j < x → ¬ p j := by
 obtain ⟨x, hx, hp⟩ := h
 have key : ∀ m x, x ≤ m → x < n → p x → ∃ x, x < n ∧ p x ∧ ∀ j, j < x → ¬ p j := by
  intro m
  induction m with
  | zero => intro x h1 h2 h3; exact ⟨x, h2, h3, fun j hj => by omega⟩
  | succ m ih =>
    intro x h1 h2 h3
    by_cases hy : ∃ j, j < x ∧ p j
    ·obtain ⟨j, h4, h5⟩ := hy
     exact ih j (by omega) (by omega) h5
    ·exact ⟨x, h2, h3, fun j hj hh => hy ⟨j, hj, hh⟩⟩
 exact key x x (Nat.le_refl _) hx hp
end
section
variable {p : SPoset}
end
end Go.Proofs.Ytoikbcagaanhgaa.Ax
namespace Go.Proofs.Ytoikbcagaanhgaa.Ax
open Go Classical
theorem Adz {xs : List Int} : Ic xs ↔ xs.Pairwise (· < ·) := by
 constructor
 ·intro h
  refine List.pairwise_iff_getElem.2 fun i j hi hj hij => ?_
  have := Ab3 h hij hj
  rwa [Fm hi, Fm hj] at this
 ·intro h i h1 h2
  have := List.pairwise_iff_getElem.1 h (i - 1) i (by omega) h2 (by omega)
  rwa [Fm (by omega), Fm h2]
noncomputable def Kd (S : Nat → Bool) (zs : List Nat) : Nat → Bool := fun z => decide (S z = true ∨ z ∈ zs)
theorem Awh (S : Nat → Bool) : Kd S [] = S := by
 funext z; simp [Kd]
theorem Aow (S : Nat → Bool) (zs : List Nat) (z : Nat) : (fun a => decide (Kd S zs a = true ∨ a = z)) = Kd S (zs ++ [z]) := by
 funext a
 simp only [Kd, decide_eq_true_eq, List.mem_append, List.mem_singleton]
 rw [decide_eq_decide]
 exact or_assoc
noncomputable def O8 (n : Nat) (g h : Nat → Nat → Nat) (S : Nat → Bool) : Nat → Bool := fun z => decide (S z = true ∨ ∃ x y, x < n ∧ y < n ∧ S x = true ∧ S y = true ∧ (z = g x y ∨ z = h x y))
noncomputable def G8 (n : Nat) (g h : Nat → Nat → Nat) (S : Nat → Bool) : Nat → Nat → Bool
 | 0 => S
 | k + 1 => O8 n g h (G8 n g h S k)
section
variable {n : Nat} {g h : Nat → Nat → Nat} {S : Nat → Bool}
theorem Awo {S' : Nat → Bool} (e : ∀ z, z < n → S z = S' z) : ∀ z, z < n → O8 n g h S z = O8 n g h S' z := by
 intro z hz
 unfold O8
 rw [decide_eq_decide, e z hz]
 constructor
 ·rintro (a | ⟨x, y, hx, hy, a, b, c⟩)
  ·exact .inl a
  ·exact .inr ⟨x, y, hx, hy, by rw [← e x hx]; exact a, by rw [← e y hy]; exact b, c⟩
 ·rintro (a | ⟨x, y, hx, hy, a, b, c⟩)
  ·exact .inl a
  ·exact .inr ⟨x, y, hx, hy, by rw [e x hx]; exact a, by rw [e y hy]; exact b, c⟩
theorem Zu (z : Nat) (hz : S z = true) : O8 n g h S z = true := decide_eq_true (.inl hz)
def Arz (n : Nat) (g h : Nat → Nat → Nat) (S : Nat → Bool) (k : Nat) : Prop := ∀ z, z < n → G8 n g h S (k + 1) z = G8 n g h S k z
theorem Ahi {k : Nat} (hk : Arz n g h S k) : ∀ m, k ≤ m → ∀ z, z < n → G8 n g h S m z = G8 n g h S k z := by
 intro m hm
 induction m with
 | zero => intro z _; rw [show k = 0 by omega]
 | succ m ih =>
   by_cases e : k = m + 1
   ·intro z _; rw [e]
   ·intro z hz
    have := ih (by omega)
    rw [← hk z hz]
    exact Awo this z hz
theorem Awf : ∃ k, k < n + 1 ∧ Arz n g h S k := by
 have key : ∀ k, (∃ j, j < k ∧ Arz n g h S j) ∨ k ≤ (Aj n (G8 n g h S k)).length := by
  intro k
  induction k with
  | zero => exact .inr (Nat.zero_le _)
  | succ k ih =>
    rcases ih with ⟨j, h1, h2⟩ | h1
    ·exact .inl ⟨j, by omega, h2⟩
    ·by_cases hs : Arz n g h S k
     ·exact .inl ⟨k, by omega, hs⟩
     ·right
      have : ∃ z, z < n ∧ G8 n g h S k z = false ∧ G8 n g h S (k + 1) z = true := by
       apply Classical.byContradiction
       intro hno
       refine hs fun z hz => ?_
       cases h2 : G8 n g h S k z with
       | true => exact Zu z h2
       | false =>
         cases h3 : G8 n g h S (k + 1) z with
         | false => rfl
         | true => exact absurd ⟨z, hz, h2, h3⟩ hno
      obtain ⟨z, hz, h2, h3⟩ := this
      have := Ano h2 h3 n hz fun i _ hi => Zu i hi
      omega
 rcases key (n + 1) with ⟨j, h1, h2⟩ | h1
 ·exact ⟨j, h1, h2⟩
 ·have := Cn n (G8 n g h S (n + 1))
  omega
noncomputable def closed (n : Nat) (g h : Nat → Nat → Nat) (S : Nat → Bool) : Nat → Bool := G8 n g h S n
theorem A2i {k : Nat} (hk : Arz n g h S k) (hkn : k < n + 1) : ∀ z, z < n → closed n g h S z = G8 n g h S k z := Ahi hk n (by omega)
theorem Qt (z : Nat) (hz : S z = true) : closed n g h S z = true := by
 unfold closed
 have key : ∀ k, G8 n g h S k z = true := by
  intro k
  induction k with
  | zero => exact hz
  | succ k ih => exact Zu z ih
 exact key n
theorem Mx {xs : List Int} (hx : Ay xs n) (hr : Ic xs) : Aj n (fun z => decide ((z : Int) ∈ xs)) = xs := by
 refine Aea (Gl _ _) hr fun x => ?_
 rw [Bc]
 constructor
 ·rintro ⟨i, _, h1, rfl⟩; simpa using h1
 ·intro h1
  have := hx x h1
  exact ⟨x.toNat, by omega, by simpa [show ((x.toNat : Nat) : Int) = x by omega] using h1, by omega⟩
theorem Aya {xs : List Int} (hx : Ay xs n) (hr : Ic xs) : (Aj n (closed n g h fun z => decide ((z : Int) ∈ xs))).length = xs.length ↔ Aj n (closed n g h fun z => decide ((z : Int) ∈ xs)) = xs := by
 constructor
 ·intro hl
  rw [← Mx hx hr] at hl
  refine Eq.trans (Nm fun z hz => ?_) (Mx hx hr)
  cases h1 : closed n g h (fun z => decide ((z : Int) ∈ xs)) z with
  | false =>
    cases h2 : decide ((z : Int) ∈ xs) with
    | false => rfl
    | true => rw [Qt (S := fun z => decide ((z : Int) ∈ xs)) z h2] at h1; cases h1
  | true =>
    cases h2 : decide ((z : Int) ∈ xs) with
    | true => rfl
    | false =>
      have := Ano (q := fun z => decide ((z : Int) ∈ xs)) h2 h1 n hz fun i _ hi => Qt i hi
      rw [Mx hx hr] at this
      rw [Mx hx hr] at hl
      omega
 ·intro h1; rw [h1]
def Hc (g h : Nat → Nat → Nat) (xs : List Nat) (x : Nat) (j : Nat) : List Nat := (List.range j).flatMap fun b => [g x (nth xs b), h x (nth xs b)]
def Ago (g h : Nat → Nat → Nat) (xs : List Nat) (i : Nat) : List Nat := (List.range i).flatMap fun a => Hc g h xs (nth xs a) xs.length
def Arb (g h : Nat → Nat → Nat) (xs : List Nat) (i : Nat) : List Nat := (List.range i).flatMap fun a => Hc g h xs (nth xs a) a
theorem Alm (xs : List Nat) (x j : Nat) : Hc g h xs x (j + 1) = Hc g h xs x j ++ [g x (nth xs j), h x (nth xs j)] := by
 simp [Hc, List.range_succ]
theorem A1f (xs : List Nat) (i : Nat) : Ago g h xs (i + 1) = Ago g h xs i ++ Hc g h xs (nth xs i) xs.length := by
 simp [Ago, List.range_succ]
theorem A1c (xs : List Nat) (i : Nat) : Arb g h xs (i + 1) = Arb g h xs i ++ Hc g h xs (nth xs i) i := by
 simp [Arb, List.range_succ]
theorem An6 {xs : List Nat} {x j z : Nat} : z ∈ Hc g h xs x j ↔ ∃ b, b < j ∧ (z = g x (nth xs b) ∨ z = h x (nth xs b)) := by
 simp [Hc]
theorem Avu {xs : List Nat} {i z : Nat} : z ∈ Ago g h xs i ↔ ∃ a b, a < i ∧ b < xs.length ∧ (z = g (nth xs a) (nth xs b) ∨ z = h (nth xs a) (nth xs b)) := by
 simp only [Ago, List.mem_flatMap, List.mem_range, An6]
 constructor
 ·rintro ⟨a, ha, b, hb, c⟩; exact ⟨a, b, ha, hb, c⟩
 ·rintro ⟨a, b, ha, hb, c⟩; exact ⟨a, ha, b, hb, c⟩
theorem A3s {xs : List Nat} {i z : Nat} : z ∈ Arb g h xs i ↔ ∃ a b, a < i ∧ b < a ∧ (z = g (nth xs a) (nth xs b) ∨ z = h (nth xs a) (nth xs b)) := by
 simp only [Arb, List.mem_flatMap, List.mem_range, An6]
 constructor
 ·rintro ⟨a, ha, b, hb, c⟩; exact ⟨a, b, ha, hb, c⟩
 ·rintro ⟨a, b, ha, hb, c⟩; exact ⟨a, ha, b, hb, c⟩
def At (n : Nat) (S : Nat → Bool) : List Nat := (List.range n).filter S
theorem Ae3 : Aj n S = (At n S).map fun i : Nat => (i : Int) := rfl
theorem Wk : (At n S).length = (Aj n S).length := by rw [Ae3, List.length_map]
theorem Vi {i : Nat} (hi : i < (At n S).length) : nth (Aj n S) i = (nth (At n S) i : Nat) := by
 rw [Ae3, L2 _ hi]
theorem C2 {i : Nat} (hi : i < (At n S).length) : nth (At n S) i < n ∧ S (nth (At n S) i) = true := by
 have := List.mem_filter.1 (Ar hi)
 exact ⟨List.mem_range.1 this.1, this.2⟩
theorem Ze {x : Nat} (hx : x < n) (hS : S x = true) : ∃ i, i < (At n S).length ∧ nth (At n S) i = x := by
 have : x ∈ At n S := List.mem_filter.2 ⟨List.mem_range.2 hx, hS⟩
 exact Et.1 this
theorem Aga : Kd S (Ago g h (At n S) (At n S).length) = O8 n g h S := by
 funext z
 unfold Kd O8
 rw [decide_eq_decide, Avu]
 constructor
 ·rintro (a | ⟨a, b, ha, hb, c⟩)
  ·exact .inl a
  ·exact .inr ⟨_, _, (C2 ha).1, (C2 hb).1, (C2 ha).2, (C2 hb).2, c⟩
 ·rintro (a | ⟨x, y, hx, hy, a, b, c⟩)
  ·exact .inl a
  ·obtain ⟨i, hi, rfl⟩ := Ze hx a
   obtain ⟨j, hj, rfl⟩ := Ze hy b
   exact .inr ⟨i, j, hi, hj, c⟩
theorem Ays (hg : ∀ x, x < n → g x x = x) (hh : ∀ x, x < n → h x x = x) (hgc : ∀ x y, x < n → y < n → g x y = g y x) (hhc : ∀ x y, x < n → y < n → h x y = h y x) :
  Kd S (Arb g h (At n S) (At n S).length) = O8 n g h S := by
 funext z
 unfold Kd O8
 rw [decide_eq_decide, A3s]
 constructor
 ·rintro (a | ⟨a, b, ha, hb, c⟩)
  ·exact .inl a
  ·have hb2 : b < (At n S).length := by omega
   exact .inr ⟨_, _, (C2 ha).1, (C2 hb2).1, (C2 ha).2, (C2 hb2).2, c⟩
 ·rintro (a | ⟨x, y, hx, hy, a, b, c⟩)
  ·exact .inl a
  ·obtain ⟨i, hi, rfl⟩ := Ze hx a
   obtain ⟨j, hj, rfl⟩ := Ze hy b
   rcases Nat.lt_trichotomy i j with hij | hij | hij
   ·refine .inr ⟨j, i, hj, hij, ?_⟩
    rw [hgc _ _ hy hx, hhc _ _ hy hx]; exact c
   ·subst hij
    rw [hg _ hx, hh _ hx] at c
    left
    rcases c with c | c <;> (rw [c]; exact a)
   ·exact .inr ⟨i, j, hi, hij, c⟩
end
end Go.Proofs.Ytoikbcagaanhgaa.Ax
namespace Go.Proofs.Ytoikbcagaanhgaa.Ax
open Go Classical
theorem Avt {xs ys : List Int} (h : xs.length ≤ LIM) : Ji xs ys = some (decide (xs = ys)) := by
 unfold Ji
 rw [Al] at h
 split
 ·rename_i hl
  rw [decide_eq_false]
  rintro rfl; exact hl rfl
 rename_i hl
 have hl : xs.length = ys.length := by omega
 have := Da (body := Fb xs ys) (fun i => (i : Int)) xs.length (fun i => ¬ nth xs i = nth ys i) () () (fun i hi hb => by
  unfold Fb
  rw [if_pos (by omega), Aa (by omega), Aa (by omega)]
  simp only [Int.toNat_natCast]
  rw [if_neg (by simpa using hb), Aa (by unfold InI; omega)]; rfl) (fun i hi hb => by
  unfold Fb
  rw [if_pos (by omega), Aa (by omega), Aa (by omega)]
  simp only [Int.toNat_natCast]
  rw [if_pos hb]) (by unfold Fb; rw [if_neg (by omega)]) 0 (by omega)
 show ((Ai _ ((0 : Nat) : Int)).bind _) = _
 rw [this]
 by_cases hx : ∃ i, 0 ≤ i ∧ i < xs.length ∧ ¬ nth xs i = nth ys i
 ·rw [if_pos hx, decide_eq_false]
  ·rfl
  ·rintro rfl; obtain ⟨i, _, _, hc⟩ := hx; exact hc rfl
 ·rw [if_neg hx, decide_eq_true (Zc hl (Gv.1 hx))]
  rfl
theorem A7q {n : Nat} {S : Nat → Bool} {z k : Nat} (hz : z < n) (hk : k ≤ (Aj n S).length) (h1 : ∀ j, j < k → nth (Aj n S) j < (z : Int)) (h2 : k < (Aj n S).length → (z : Int) < nth (Aj n S) k) :
  (Aj n S).take k ++ [(z : Int)] ++ (Aj n S).drop k = Aj n fun a => decide (S a = true ∨ a = z) := by
 have hr := Gl n S
 have e := List.take_append_drop k (Aj n S)
 refine Aea (Adz.2 ?_) (Gl _ _) fun x => ?_
 ·rw [List.append_assoc, List.pairwise_append]
  have hp := Adz.1 hr
  rw [← e, List.pairwise_append] at hp
  have ht : ∀ a ∈ (Aj n S).take k, a < (z : Int) := by
   intro a ha
   obtain ⟨j, hj, rfl⟩ := Et.1 ha
   have hj' : j < k := by rw [List.length_take] at hj; omega
   have := h1 j hj'
   rw [Fm hj, List.getElem_take]
   rwa [Fm (by omega)] at this
  have hd : ∀ a ∈ (Aj n S).drop k, (z : Int) < a := by
   intro a ha
   obtain ⟨j, hj, rfl⟩ := Et.1 ha
   rw [List.length_drop] at hj
   have h3 := h2 (by omega)
   have h4 : nth ((Aj n S).drop k) j = nth (Aj n S) (k + j) := by
    rw [Fm (by rw [List.length_drop]; omega), Fm (by omega), List.getElem_drop]
   rw [h4]
   by_cases hj0 : j = 0
   ·subst hj0; exact h3
   ·have := Ab3 hr (i := k) (j := k + j) (by omega) (by omega); omega
  refine ⟨hp.1, ?_, ?_⟩
  ·rw [List.singleton_append, List.pairwise_cons]
   exact ⟨hd, hp.2.1⟩
  ·intro a ha b hb
   rcases List.mem_append.1 hb with hb | hb
   ·rw [List.mem_singleton.1 hb]; exact ht a ha
   ·exact hp.2.2 a ha b hb
 ·have hm : x ∈ Aj n S ↔ x ∈ (Aj n S).take k ∨ x ∈ (Aj n S).drop k := by rw [← List.mem_append, e]
  rw [List.mem_append, List.mem_append, List.mem_singleton]
  have : (x ∈ Aj n S ∨ x = (z : Int)) ↔ x ∈ Aj n fun a => decide (S a = true ∨ a = z) := by
   rw [Bc, Bc]
   constructor
   ·rintro (⟨i, a, b, rfl⟩ | rfl)
    ·exact ⟨i, a, decide_eq_true (.inl b), rfl⟩
    ·exact ⟨z, hz, decide_eq_true (.inr rfl), rfl⟩
   ·rintro ⟨i, a, b, rfl⟩
    rcases of_decide_eq_true b with c | c
    ·exact .inl ⟨i, a, c, rfl⟩
    ·exact .inr (by omega)
  rw [← this, hm]
  constructor
  ·rintro ((h | h) | h)
   ·exact .inl (.inl h)
   ·exact .inr h
   ·exact .inl (.inr h)
  ·rintro ((h | h) | h)
   ·exact .inl (.inl h)
   ·exact .inr h
   ·exact .inl (.inr h)
theorem A7l {n : Nat} {S : Nat → Bool} {z k : Nat} (hk : k < (Aj n S).length) (h : nth (Aj n S) k = (z : Int)) : Aj n S = Aj n fun a => decide (S a = true ∨ a = z) := by
 obtain ⟨i, a, b, c⟩ := Bc.1 (Ar hk)
 rw [h] at c
 refine Nm fun j _ => ?_
 by_cases hj : j = z
 ·have : j = i := by omega
  subst this
  rw [b]; exact (decide_eq_true (.inl rfl)).symm
 ·cases hS : S j <;> simp [hj]
theorem Am8 {n : Nat} (hn : n ≤ 1000) (S : Nat → Bool) {z : Nat} (hz : z < n) : Hq (Aj n S) (z : Int) = some (Aj n fun a => decide (S a = true ∨ a = z)) := by
 unfold Hq
 have hl := Cn n S
 rw [show ((0 : Int)) = (((0 : Nat)) : Int) from rfl]
 have key : ∃ k : Nat, k ≤ (Aj n S).length ∧ (∀ j, j < k → nth (Aj n S) j < (z : Int)) ∧ (k < (Aj n S).length → ¬ nth (Aj n S) k < (z : Int)) ∧ Ai (Eo (Aj n S) (z : Int)) (((0 : Nat)) : Int) = some (k : Int) := by
  rcases Nb (body := Eo (Aj n S) (z : Int)) (fun i => (i : Int)) (Aj n S).length (fun i => ¬ nth (Aj n S) i < (z : Int)) (fun i => (i : Int)) ((Aj n S).length : Int) (fun i hi hh => by
    unfold Eo
    rw [if_pos (by omega), Aa (by omega), Int.toNat_natCast, if_pos (Classical.not_not.1 hh), Aa (by unfold InI; omega)]; rfl) (fun i hi hh => by
    unfold Eo
    rw [if_pos (by omega), Aa (by omega), Int.toNat_natCast, if_neg hh]) (by
    unfold Eo
    rw [if_neg (by omega)]) with ⟨i, hi, hh, hj, e⟩ | ⟨hno, e⟩
  ·exact ⟨i, by omega, fun j h => Classical.not_not.1 (hj j h), fun _ => hh, e⟩
  ·exact ⟨_, Nat.le_refl _, fun j h => Classical.not_not.1 (hno j h), fun h => absurd h (Nat.lt_irrefl _), e⟩
 obtain ⟨k, hk, h1, h2, e⟩ := key
 rw [e]
 simp only [Option.bind_some]
 have tail : (¬ k < (Aj n S).length ∨ nth (Aj n S) k ≠ (z : Int)) → (ask (0 ≤ (((0 : Nat)) : Int) ∧ (((0 : Nat)) : Int) ≤ (k : Int) ∧ (k : Int) ≤ (((Aj n S).length : Nat) : Int)) <|
   ask ((Ao Int).length + (List.take ((k : Int).toNat - Int.toNat ((((0 : Nat)) : Int))) (List.drop (Int.toNat ((((0 : Nat)) : Int))) (Aj n S))).length ≤ LIM) <|
   ask ((Ao Int ++ List.take ((k : Int).toNat - Int.toNat ((((0 : Nat)) : Int))) (List.drop (Int.toNat ((((0 : Nat)) : Int))) (Aj n S))).length + ([(z : Int)]).length ≤ LIM) <|
   ask (0 ≤ (k : Int) ∧ (k : Int) ≤ ((Aj n S).length : Int) ∧ ((Aj n S).length : Int) ≤ (((Aj n S).length : Nat) : Int)) <|
   ask ((Ao Int ++ List.take ((k : Int).toNat - Int.toNat ((((0 : Nat)) : Int))) (List.drop (Int.toNat ((((0 : Nat)) : Int))) (Aj n S)) ++ [(z : Int)]).length + (List.take (((Aj n S).length : Int).toNat - (k : Int).toNat) (List.drop (k : Int).toNat (Aj n S))).length ≤ LIM) <|
   some (Ao Int ++ List.take ((k : Int).toNat - Int.toNat ((((0 : Nat)) : Int))) (List.drop (Int.toNat ((((0 : Nat)) : Int))) (Aj n S)) ++ [(z : Int)] ++ List.take (((Aj n S).length : Int).toNat - (k : Int).toNat) (List.drop (k : Int).toNat (Aj n S)))) = some (Aj n fun a => decide (S a = true ∨ a = z)) := by
  intro h3
  simp only [Int.toNat_natCast, List.drop_zero, Nat.sub_zero, List.nil_append]
  have ed : List.take ((Aj n S).length - k) (List.drop k (Aj n S)) = List.drop k (Aj n S) := List.take_of_length_le (by rw [List.length_drop]; omega)
  rw [ed]
  have ht : (List.take k (Aj n S)).length ≤ 1000 := by rw [List.length_take]; omega
  have hd : (List.drop k (Aj n S)).length ≤ 1000 := by rw [List.length_drop]; omega
  rw [Aa (by omega), Aa (by rw [Al]; simp only [List.length_nil]; omega), Aa (by rw [Al]; simp only [List.length_cons, List.length_nil]; omega), Aa (by omega), Aa (by rw [Al]; simp only [List.length_append, List.length_cons, List.length_nil]; omega)]
  rw [A7q hz hk h1 fun h => by have h4 := h2 h; rcases h3 with h3 | h3 <;> omega]
 by_cases hkl : k < (Aj n S).length
 ·rw [if_pos (by omega), Aa (by omega), Int.toNat_natCast]
  by_cases hv : nth (Aj n S) k = (z : Int)
  ·rw [if_pos hv]
   simp only [Option.bind_some]
   rw [← A7l hkl hv]
  ·rw [if_neg hv]
   exact tail (.inr hv)
 ·rw [if_neg (by omega)]
  exact tail (.inl hkl)
theorem Atx {n : Nat} (hn : n ≤ LIM) {xs : List Int} (hx : Ay xs n) (hl : xs.length ≤ LIM) : I1 xs n = some (F5 n fun z => decide ((z : Int) ∈ xs)) := by
 unfold I1
 have hn' := hn
 rw [Al] at hl hn'
 rw [Aa (by rw [Al]; omega)]
 have key := Az (body := Hl xs) (fun i => ((i : Int), F5 n fun z => decide ((z : Int) ∈ xs.take i))) xs.length (F5 n fun z => decide ((z : Int) ∈ xs)) (fun i hi => by
  unfold Hl
  dsimp only
  have hc := hx _ (Ar hi)
  have hlen := Mh n fun z => decide ((z : Int) ∈ xs.take i)
  rw [if_pos (by omega), Aa (by omega), Int.toNat_natCast, Aa (by rw [hlen]; omega), Aa (by unfold InI; omega), Ane (by omega)]
  congr 3
  refine Ti fun z _ => ?_
  rw [L8 hi]
  by_cases hz : z = (nth xs i).toNat
  ·rw [if_pos hz]
   refine (decide_eq_true ?_).symm
   rw [List.mem_append, List.mem_singleton]; right; omega
  ·rw [if_neg hz, decide_eq_decide, List.mem_append, List.mem_singleton]
   exact ⟨.inl, fun h => h.resolve_right (by omega)⟩) (by
  unfold Hl
  dsimp only
  rw [if_neg (by omega), List.take_length])
 have e0 : (F5 n fun z => decide ((z : Int) ∈ xs.take 0)) = List.replicate n false := by
  rw [Ao4]; exact Ti fun z _ => by simp
 simp only [e0] at key
 rw [Int.toNat_natCast]
 show (Ai _ (((0 : Nat) : Int), _)).bind _ = _
 rw [key]; rfl
theorem Aiq {n : Nat} (hn : n ≤ LIM) (S : Nat → Bool) : Gm (F5 n S) = some (Aj n S) := by
 unfold Gm
 have hn' := hn
 rw [Al] at hn'
 have hl := Mh n S
 rw [M5 n S (fun i acc hi ha => by
  unfold Ip
  dsimp only
  rw [if_pos (by omega), Aa (by omega), Int.toNat_natCast, Ld hi]
  by_cases hp : S i = true
  ·rw [if_pos hp, if_pos hp, Aa (by rw [Al]; simp; omega), Aa (by unfold InI; omega)]; rfl
  ·rw [if_neg hp, if_neg hp, Aa (by unfold InI; omega)]; rfl) (fun acc => by
  unfold Ip
  dsimp only
  rw [if_neg (by omega)])]
 rfl
noncomputable abbrev mt (p : SPoset) : Nat → Nat → Nat := inf p.Below.length (below p.Below)
noncomputable abbrev jn (p : SPoset) : Nat → Nat → Nat := inf p.Below.length (opp (below p.Below))
noncomputable def gen (p : SPoset) (xs : List Int) : Nat → Bool := closed p.Below.length (mt p) (jn p) fun z => decide ((z : Int) ∈ xs)
theorem Avg {n : Nat} {f : Nat → Nat → Bool} (x y : Nat) : inf n f x y = inf n f y x := by
 unfold inf; rw [Awc]
theorem Awm {n : Nat} {f : Nat → Nat → Bool} (ho : Ord n f) {x : Nat} (hx : x < n) : inf n f x x = x := by
 unfold inf; rw [Avz ho hx]; rfl
section
variable {p : SPoset}
theorem A30 (hs : small p) (h : Bv p) (T : Nat → Bool) (x8 : Int) {i : Nat} (hi : i < (At p.Below.length T).length) (zs : List Nat) :
  Ai (Dr p (Gw p) x8 (Aj p.Below.length T) (i : Int)) (0, Aj p.Below.length (Kd T zs)) = some (Aj p.Below.length (Kd T (zs ++ Hc (mt p) (jn p) (At p.Below.length T) (nth (At p.Below.length T) i) i))) := by
 obtain ⟨hg, h0, h1, h2⟩ := h
 have h10 : p.Below.length ≤ 10 := hg.1
 have hml : (At p.Below.length T).length = (Aj p.Below.length T).length := Wk
 have hsl := Cn p.Below.length T
 have key := Az (body := Dr p (Gw p) x8 (Aj p.Below.length T) (i : Int)) (fun k => ((k : Int), Aj p.Below.length (Kd T (zs ++ Hc (mt p) (jn p) (At p.Below.length T) (nth (At p.Below.length T) i) k)))) i (Aj p.Below.length (Kd T (zs ++ Hc (mt p) (jn p) (At p.Below.length T) (nth (At p.Below.length T) i) i))) (fun k hk => by
  unfold Dr
  dsimp only
  have hki : k < (At p.Below.length T).length := by omega
  have ha := (C2 hi).1
  have hb := (C2 hki).1
  rw [if_pos (by omega)]
  repeat rw [Aa (by omega)]
  simp only [Int.toNat_natCast]
  rw [Vi hi, Vi hki, Ahz hs hg ha hb, Atk h1 ha hb, Ad6 hs hg ha hb, Atk h2 ha hb]
  simp only [Option.bind_some]
  rw [Am8 (by omega) _ (M2 h1 ha hb), Aow]
  simp only [Option.bind_some]
  rw [Am8 (by omega) _ (M2 h2 ha hb), Aow]
  simp only [Option.bind_some]
  repeat rw [Aa (by first | omega | (unfold InI; omega))]
  rw [Alm, List.append_assoc, List.append_assoc]
  rfl) (by
  unfold Dr
  dsimp only
  rw [if_neg (by omega)])
 have e0 : zs ++ Hc (mt p) (jn p) (At p.Below.length T) (nth (At p.Below.length T) i) 0 = zs := by simp [Hc]
 simp only [e0] at key
 exact key
theorem A4k (hs : small p) (h : Bv p) (T : Nat → Bool) (x8 : Int) :
  Ai (Dq p (Gw p) x8 (Aj p.Below.length T)) (0, Aj p.Below.length T) = some (Aj p.Below.length (O8 p.Below.length (mt p) (jn p) T)) := by
 have hg := h.1
 have h10 : p.Below.length ≤ 10 := hg.1
 have hml : (At p.Below.length T).length = (Aj p.Below.length T).length := Wk
 have hsl := Cn p.Below.length T
 have ho := Is hg
 rw [← Ays (fun x hx => Awm ho hx) (fun x hx => Awm ho.opp hx) (fun x y _ _ => Avg x y) (fun x y _ _ => Avg x y)]
 have key := Az (body := Dq p (Gw p) x8 (Aj p.Below.length T)) (fun i => ((i : Int), Aj p.Below.length (Kd T (Arb (mt p) (jn p) (At p.Below.length T) i)))) (At p.Below.length T).length (Aj p.Below.length (Kd T (Arb (mt p) (jn p) (At p.Below.length T) (At p.Below.length T).length))) (fun i hi => by
  unfold Dq
  dsimp only
  rw [if_pos (by omega), A30 hs h T x8 hi]
  simp only [Option.bind_some]
  rw [Aa (by unfold InI; omega), A1c]
  rfl) (by
  unfold Dq
  dsimp only
  rw [if_neg (by omega)])
 have e0 : Kd T (Arb (mt p) (jn p) (At p.Below.length T) 0) = T := by simp [Arb, Awh]
 simp only [e0] at key
 exact key
theorem Age (hs : small p) (h : Bv p) {xs : List Int} (hx : Ay xs p.Below.length) (hl : xs.length ≤ LIM) : Fw p xs = some (Aj p.Below.length (gen p xs)) := by
 have hg := h.1
 have h10 : p.Below.length ≤ 10 := hg.1
 unfold Fw
 have hl' := hl
 rw [Al] at hl'
 have key1 := Az (body := Dm p xs) (fun i => ((i : Int), Aj p.Below.length fun z => decide ((z : Int) ∈ xs.take i))) xs.length (Aj p.Below.length fun z => decide ((z : Int) ∈ xs)) (fun i hi => by
  unfold Dm
  dsimp only
  have hc := hx _ (Ar hi)
  have hcc : nth xs i = (((nth xs i).toNat : Nat) : Int) := by omega
  rw [if_pos (by omega), Aa (by omega), Int.toNat_natCast, hcc, Am8 (by omega) _ (by omega)]
  simp only [Option.bind_some]
  rw [Aa (by unfold InI; omega)]
  refine congrArg (fun x => some (Sum.inl (_, x))) (Nm fun z _ => ?_)
  rw [L8 hi, decide_eq_decide, List.mem_append, List.mem_singleton, decide_eq_true_eq]
  constructor
  ·rintro (a | a)
   ·exact .inl a
   ·right; omega
  ·rintro (a | a)
   ·exact .inl a
   ·right; omega) (by
  unfold Dm
  dsimp only
  rw [if_neg (by omega), List.take_length])
 have e0 : (Aj p.Below.length fun z => decide ((z : Int) ∈ xs.take 0)) = Ao Int := Asb.2 fun z _ => by simp
 simp only [e0] at key1
 have key1' : Ai (Dm p xs) (0, Ao Int) = _ := key1
 rw [key1', Akt hs]
 simp only [Option.bind_some]
 have key2 := Az (body := Dn p (Gw p)) (fun k => ((k : Int), Aj p.Below.length (G8 p.Below.length (mt p) (jn p) (fun z => decide ((z : Int) ∈ xs)) k))) p.Below.length (Aj p.Below.length (gen p xs)) (fun k hk => by
  unfold Dn
  dsimp only
  have hsl := Cn p.Below.length (G8 p.Below.length (mt p) (jn p) (fun z => decide ((z : Int) ∈ xs)) k)
  rw [if_pos (by omega), A8r _ (by rw [Al]; omega)]
  simp only [Option.bind_some]
  rw [A4k hs h]
  simp only [Option.bind_some]
  rw [Aa (by unfold InI; omega)]
  rfl) (by
  unfold Dn
  dsimp only
  rw [if_neg (by omega)]
  rfl)
 have key2' : Ai (Dn p (Gw p)) (0, Aj p.Below.length fun z => decide ((z : Int) ∈ xs)) = _ := key2
 rw [key2']
 rfl
noncomputable def Oe (T : Nat → Bool) (zs : List Nat) : Bool := decide (∃ z ∈ zs, T z = false)
theorem A3k (T : Nat → Bool) (zs : List Nat) (z : Nat) : (if Oe T zs = true then true else !Kd T zs z) = Oe T (zs ++ [z]) := by
 by_cases h : ∃ a ∈ zs, T a = false
 ·have h1 : Oe T zs = true := decide_eq_true h
  obtain ⟨a, ha, hb⟩ := h
  have h2 : Oe T (zs ++ [z]) = true := decide_eq_true ⟨a, List.mem_append_left _ ha, hb⟩
  rw [if_pos h1, h2]
 ·have h1 : Oe T zs = false := decide_eq_false h
  rw [if_neg (by rw [h1]; simp)]
  cases hT : T z with
  | false =>
    have hz : z ∉ zs := fun hm => h ⟨z, hm, hT⟩
    have h2 : Oe T (zs ++ [z]) = true := decide_eq_true ⟨z, by simp, hT⟩
    have h3 : Kd T zs z = false := decide_eq_false (by rw [hT]; simp [hz])
    rw [h2, h3]; rfl
  | true =>
    have h2 : Oe T (zs ++ [z]) = false := decide_eq_false (by
     rintro ⟨a, ha, hb⟩
     rcases List.mem_append.1 ha with ha | ha
     ·exact h ⟨a, ha, hb⟩
     ·rw [List.mem_singleton.1 ha, hT] at hb; cases hb)
    have h3 : Kd T zs z = true := decide_eq_true (.inl hT)
    rw [h2, h3]; rfl
theorem A7z (T : Nat → Bool) (l : Slattice) (r3 : List Int) (x26 x32 : Int) {a b : Nat} (_hn : p.Below.length ≤ 10) (ha : a < p.Below.length) (hb : b < p.Below.length)
  (e1 : nth (nth l.meets (nth r3 x26.toNat).toNat) (nth r3 x32.toNat).toNat = (a : Int)) (e2 : nth (nth l.joins (nth r3 x26.toNat).toNat) (nth r3 x32.toNat).toNat = (b : Int)) (zs : List Nat) :
  Ai (Bj l r3 x26 x32) (0, Oe T zs, F5 p.Below.length (Kd T zs)) = some (Oe T (zs ++ [a, b]), F5 p.Below.length (Kd T (zs ++ [a, b]))) := by
 have step : ∀ (k : Nat) (zs : List Nat) (z : Nat), k < 2 → z < p.Below.length → nth [(a : Int), (b : Int)] k = (z : Int) → Bj l r3 x26 x32 ((k : Int), Oe T zs, F5 p.Below.length (Kd T zs)) = some (.inl (((k + 1 : Nat) : Int), Oe T (zs ++ [z]), F5 p.Below.length (Kd T (zs ++ [z])))) := by
  intro k zs z hk hz hv
  unfold Bj
  dsimp only
  rw [e1, e2]
  have hlen := Mh p.Below.length (Kd T zs)
  have hl2 : ([(a : Int), (b : Int)].length : Int) = 2 := rfl
  rw [hl2, if_pos (by omega), Aa (by omega), Int.toNat_natCast, hv]
  have hset : (F5 p.Below.length (Kd T zs)).set z true = F5 p.Below.length (Kd T (zs ++ [z])) := by
   rw [Ane hz]
   refine Ti fun y _ => ?_
   rw [← Aow]
   by_cases hy : y = z
   ·rw [if_pos hy]; exact (decide_eq_true (.inr hy)).symm
   ·rw [if_neg hy]
    cases hA : Kd T zs y <;> simp [hA, hy]
  have hn1 := A3k T zs z
  by_cases hnw : Oe T zs = true
  ·rw [if_pos hnw] at hn1 ⊢
   rw [Aa (by omega), Aa (by unfold InI; omega), Int.toNat_natCast, hset, ← hn1]; rfl
  ·rw [if_neg hnw] at hn1 ⊢
   rw [Aa (by omega), Aa (by omega), Aa (by unfold InI; omega), Int.toNat_natCast, hset, Ld hz, ← hn1]; rfl
 rw [show ((0 : Int)) = (((0 : Nat)) : Int) from rfl, Kt (step 0 zs a (by omega) ha rfl), Kt (step 1 (zs ++ [a]) b (by omega) hb rfl)]
 refine I9 ?_
 unfold Bj
 dsimp only
 rw [e1, e2]
 have hl2 : ([(a : Int), (b : Int)].length : Int) = 2 := rfl
 rw [hl2, if_neg (by omega), List.append_assoc]
 rfl
theorem A8a (h : Bv p) (T : Nat → Bool) {i : Nat} (hi : i < (At p.Below.length T).length) (zs : List Nat) :
  Ai (Bl (Oo p) (Aj p.Below.length T) (i : Int)) (0, Oe T zs, F5 p.Below.length (Kd T zs)) = some (Oe T (zs ++ Hc (mt p) (jn p) (At p.Below.length T) (nth (At p.Below.length T) i) (At p.Below.length T).length), F5 p.Below.length (Kd T (zs ++ Hc (mt p) (jn p) (At p.Below.length T) (nth (At p.Below.length T) i) (At p.Below.length T).length))) := by
 obtain ⟨hg, h0, h1, h2⟩ := h
 have h10 : p.Below.length ≤ 10 := hg.1
 have hml : (At p.Below.length T).length = (Aj p.Below.length T).length := Wk
 have hsl := Cn p.Below.length T
 have key := Az (body := Bl (Oo p) (Aj p.Below.length T) (i : Int)) (fun k => ((k : Int), Oe T (zs ++ Hc (mt p) (jn p) (At p.Below.length T) (nth (At p.Below.length T) i) k), F5 p.Below.length (Kd T (zs ++ Hc (mt p) (jn p) (At p.Below.length T) (nth (At p.Below.length T) i) k)))) (At p.Below.length T).length (Oe T (zs ++ Hc (mt p) (jn p) (At p.Below.length T) (nth (At p.Below.length T) i) (At p.Below.length T).length), F5 p.Below.length (Kd T (zs ++ Hc (mt p) (jn p) (At p.Below.length T) (nth (At p.Below.length T) i) (At p.Below.length T).length))) (fun k hk => by
  unfold Bl
  dsimp only
  have ha := (C2 hi).1
  have hb := (C2 hk).1
  have ei := Vi hi
  have ek := Vi hk
  have hlm : (Oo p).meets = Xr p.Below.length (below p.Below) := rfl
  have hlj : (Oo p).joins = Xr p.Below.length (opp (below p.Below)) := rfl
  have hml1 := Ahm (n := p.Below.length) (f := below p.Below)
  have hml2 := Ahm (n := p.Below.length) (f := opp (below p.Below))
  have hmr1 := Az0 (g := below p.Below) ha
  have hmr2 := Az0 (g := opp (below p.Below)) ha
  rw [if_pos (by omega), Aa (by omega)]
  simp only [Int.toNat_natCast, ei, ek, hlm, hlj, hml1, hml2, hmr1, hmr2]
  rw [Aa (by omega), Aa (by omega)]
  rw [A7z (p := p) T (Oo p) (Aj p.Below.length T) (i : Int) (k : Int) h10 (M2 h1 ha hb) (M2 h2 ha hb) (by
   simp only [Int.toNat_natCast, ei, ek, hlm]
   exact A2y h1 ha hb) (by
   simp only [Int.toNat_natCast, ei, ek, hlj]
   exact A2y h2 ha hb)]
  simp only [Option.bind_some]
  repeat rw [Aa (by first | omega | (unfold InI; omega))]
  rw [Alm, List.append_assoc]
  rfl) (by
  unfold Bl
  dsimp only
  rw [if_neg (by omega)])
 have e0 : zs ++ Hc (mt p) (jn p) (At p.Below.length T) (nth (At p.Below.length T) i) 0 = zs := by simp [Hc]
 simp only [e0] at key
 exact key
theorem A7r (h : Bv p) (T : Nat → Bool) : ∃ b, Ai (Bk (Oo p) (Aj p.Below.length T)) (0, false, F5 p.Below.length T) = some (b, F5 p.Below.length (O8 p.Below.length (mt p) (jn p) T)) ∧
  (b = false ↔ ∀ z, z < p.Below.length → O8 p.Below.length (mt p) (jn p) T z = T z) := by
 have h10 : p.Below.length ≤ 10 := h.1.1
 have hml : (At p.Below.length T).length = (Aj p.Below.length T).length := Wk
 have hsl := Cn p.Below.length T
 have key := Az (body := Bk (Oo p) (Aj p.Below.length T)) (fun i => ((i : Int), Oe T (Ago (mt p) (jn p) (At p.Below.length T) i), F5 p.Below.length (Kd T (Ago (mt p) (jn p) (At p.Below.length T) i)))) (At p.Below.length T).length (Oe T (Ago (mt p) (jn p) (At p.Below.length T) (At p.Below.length T).length), F5 p.Below.length (Kd T (Ago (mt p) (jn p) (At p.Below.length T) (At p.Below.length T).length))) (fun i hi => by
  unfold Bk
  dsimp only
  rw [if_pos (by omega), Aa (by omega), A8a h T hi]
  simp only [Option.bind_some]
  rw [Aa (by unfold InI; omega), A1f]
  rfl) (by
  unfold Bk
  dsimp only
  rw [if_neg (by omega)])
 have e0 : Kd T (Ago (mt p) (jn p) (At p.Below.length T) 0) = T := by simp [Ago, Awh]
 have e1 : Oe T (Ago (mt p) (jn p) (At p.Below.length T) 0) = false := by simp [Ago, Oe]
 simp only [e0, e1] at key
 rw [Aga] at key
 refine ⟨_, key, ?_⟩
 unfold Oe
 rw [decide_eq_false_iff_not]
 constructor
 ·intro hno z hz
  rw [← Aga]
  unfold Kd
  cases hT : T z with
  | true => simp
  | false =>
    refine decide_eq_false ?_
    rintro (a | a)
    ·cases a
    ·exact hno ⟨z, a, hT⟩
 ·rintro hall ⟨z, hz, hT⟩
  have hzn : z < p.Below.length := by
   obtain ⟨a, b, ha, hb, c⟩ := Avu.1 hz
   obtain ⟨_, _, h1, h2⟩ := h
   rcases c with c | c
   ·rw [c]; exact M2 h1 (C2 ha).1 (C2 hb).1
   ·rw [c]; exact M2 h2 (C2 ha).1 (C2 hb).1
  have := hall z hzn
  rw [hT, ← Aga] at this
  have h3 : Kd T (Ago (mt p) (jn p) (At p.Below.length T) (At p.Below.length T).length) z = true := decide_eq_true (.inr hz)
  rw [this] at h3; cases h3
theorem Alf (h : Bv p) {xs : List Int} (hx : Ay xs p.Below.length) (hl : xs.length ≤ LIM) : Cg (Oo p) xs = some (Aj p.Below.length (gen p xs)) := by
 have h10 : p.Below.length ≤ 10 := h.1.1
 have hL : p.Below.length ≤ LIM := by rw [Al]; omega
 unfold Cg
 have htl := Dg p.Below.length (below p.Below)
 rw [K4, htl, Atx hL hx hl]
 simp only [Option.bind_some]
 obtain ⟨k0, hk0, hst, hmin⟩ := A4y (n := p.Below.length + 1) (Awf (n := p.Below.length) (g := mt p) (h := jn p) (S := fun z => decide ((z : Int) ∈ xs)))
 have step : ∀ k, ∃ b, A8 (Oo p) (true, F5 p.Below.length (G8 p.Below.length (mt p) (jn p) (fun z => decide ((z : Int) ∈ xs)) k)) = some (.inl (b, F5 p.Below.length (G8 p.Below.length (mt p) (jn p) (fun z => decide ((z : Int) ∈ xs)) (k + 1)))) ∧ (b = false ↔ Arz p.Below.length (mt p) (jn p) (fun z => decide ((z : Int) ∈ xs)) k) := by
  intro k
  obtain ⟨b, e, hb⟩ := A7r h (G8 p.Below.length (mt p) (jn p) (fun z => decide ((z : Int) ∈ xs)) k)
  refine ⟨b, ?_, hb⟩
  unfold A8
  dsimp only
  rw [if_pos rfl, Aiq hL]
  simp only [Option.bind_some]
  rw [e]
  rfl
 have key : ∀ k, k ≤ k0 → Ai (A8 (Oo p)) (true, F5 p.Below.length (fun z => decide ((z : Int) ∈ xs))) = Ai (A8 (Oo p)) (true, F5 p.Below.length (G8 p.Below.length (mt p) (jn p) (fun z => decide ((z : Int) ∈ xs)) k)) := by
  intro k
  induction k with
  | zero => intro _; rfl
  | succ k ih =>
    intro hk
    obtain ⟨b, e, hb⟩ := step k
    have : b = true := by
     cases b with
     | true => rfl
     | false => exact absurd (hb.1 rfl) (hmin k (by omega))
    rw [ih (by omega), Kt e, this]
 obtain ⟨b, e, hb⟩ := step k0
 have hbf := hb.2 hst
 subst hbf
 have hstop : Ai (A8 (Oo p)) (false, F5 p.Below.length (G8 p.Below.length (mt p) (jn p) (fun z => decide ((z : Int) ∈ xs)) (k0 + 1))) = some (F5 p.Below.length (G8 p.Below.length (mt p) (jn p) (fun z => decide ((z : Int) ∈ xs)) (k0 + 1))) := I9 (by
  unfold A8
  dsimp only
  rw [if_neg (by simp)])
 rw [key k0 (Nat.le_refl _), Kt e, hstop]
 simp only [Option.bind_some]
 rw [Aiq hL]
 simp only [Option.bind_some]
 refine congrArg some (Nm fun z hz => ?_)
 unfold gen
 rw [hst z hz, A2i hst hk0 z hz]
theorem Axo (hs : small p) (h : Bv p) {xs : List Int} (hl : xs.length ≤ LIM) : Jm p xs = some (decide (xs ≠ [] ∧ Ay xs p.Below.length ∧ Ic xs ∧ Aj p.Below.length (gen p xs) = xs)) := by
 have h10 : p.Below.length ≤ 10 := h.1.1
 unfold Jm
 by_cases h0 : xs = []
 ·subst h0
  rw [if_neg (by simp), decide_eq_false (fun hc => hc.1 rfl)]
 ·have hpos : 0 < xs.length := List.length_pos_iff.2 h0
  rw [if_pos (by omega), Aa (by unfold InI; omega), Zb _ _ _ hl]
  simp only [Option.bind_some]
  by_cases hr : Zw xs 0 (p.Below.length - 1)
  ·obtain ⟨h3, h4⟩ := (Ps xs p.Below.length).1 hr
   rw [decide_eq_true hr, if_pos rfl, Age hs h h4 hl]
   simp only [Option.bind_some]
   have hsl := Cn p.Below.length (gen p xs)
   rw [Avt (by rw [Al]; omega)]
   simp only [Option.bind_some]
   congr 1
   rw [decide_eq_decide]
   exact ⟨fun hc => ⟨h0, h4, h3, hc⟩, fun hc => hc.2.2.2⟩
  ·rw [decide_eq_false hr, if_neg (by simp), decide_eq_false]
   rintro ⟨_, h4, h3, _⟩
   exact hr ((Ps xs p.Below.length).2 ⟨h3, h4⟩)
theorem Abv (h : Bv p) {xs : List Int} (hl : xs.length ≤ LIM) : B4 (Oo p) xs = some (decide (xs ≠ [] ∧ Ay xs p.Below.length ∧ Ic xs ∧ Aj p.Below.length (gen p xs) = xs)) := by
 have h10 : p.Below.length ≤ 10 := h.1.1
 unfold B4
 by_cases h0 : xs = []
 ·subst h0
  rw [if_neg (by simp), decide_eq_false (fun hc => hc.1 rfl)]
 ·have hpos : 0 < xs.length := List.length_pos_iff.2 h0
  rw [if_pos (by omega), K4, A39 _ _ hl, Dg]
  simp only [Option.bind_some]
  by_cases h4 : Ay xs p.Below.length
  ·rw [decide_eq_true h4, if_pos rfl, Amz _ hl]
   simp only [Option.bind_some]
   by_cases h3 : Ic xs
   ·rw [decide_eq_true h3, if_pos rfl, Alf h h4 hl]
    simp only [Option.bind_some]
    congr 1
    rw [Bool.eq_iff_iff, beq_iff_eq, decide_eq_true_eq]
    have hc : (Aj p.Below.length (gen p xs)).length = xs.length ↔ Aj p.Below.length (gen p xs) = xs := Aya h4 h3
    constructor
    ·intro e; exact ⟨h0, h4, h3, hc.1 (by omega)⟩
    ·intro e; have := hc.2 e.2.2.2; omega
   ·rw [decide_eq_false h3, if_neg (by simp), decide_eq_false (fun hc => h3 hc.2.2.1)]
  ·rw [decide_eq_false h4, if_neg (by simp), decide_eq_false (fun hc => h4 hc.2.1)]
noncomputable def Kn (p : SPoset) (xs : List Int) (a b : Nat) : Bool := below p.Below (nth xs a).toNat (nth xs b).toNat
theorem Ayu {xs : List Int} (hx : Ay xs p.Below.length) (hm : xs.length ≤ 1000) : E1 (tab p.Below.length (below p.Below)) xs = some (tab xs.length (Kn p xs)) := by
 unfold E1
 rw [Afz _ (by rw [Al]; omega)]
 simp only [Option.bind_some]
 have inner : ∀ x, x < xs.length → Ai (B3 (tab p.Below.length (below p.Below)) xs (x : Int)) (0, tab xs.length fun a b => if a < x then Kn p xs a b else false) = some (tab xs.length fun a b => if a < x + 1 then Kn p xs a b else false) := by
  intro x hxl
  have hc := hx _ (Ar hxl)
  have key := Az (body := B3 (tab p.Below.length (below p.Below)) xs (x : Int)) (fun k => ((k : Int), tab xs.length fun a b => if a < x ∨ (a = x ∧ b < k) then Kn p xs a b else false)) xs.length (tab xs.length fun a b => if a < x + 1 then Kn p xs a b else false) (fun k hk => by
   unfold B3
   dsimp only
   have hd := hx _ (Ar hk)
   have htl := Dg p.Below.length (below p.Below)
   have htr := Dz p.Below.length (below p.Below) (nth xs x).toNat (by omega)
   have h2 := Dg xs.length fun a b => if a < x ∨ (a = x ∧ b < k) then Kn p xs a b else false
   have h3 := Dz xs.length (fun a b => if a < x ∨ (a = x ∧ b < k) then Kn p xs a b else false) x hxl
   simp only [Int.toNat_natCast]
   rw [if_pos (by omega), Aa (by omega), Aa (by rw [h2]; omega), Aa (by rw [htl]; omega), Aa (by rw [htr]; omega), Aa (by rw [h3]; omega), Aa (by unfold InI; omega), Tz _ _ _ _ (by omega) (by omega), Am6 _ _ _ _ _ hxl hk]
   refine congrArg (fun z => some (Sum.inl (_, z))) (Lg fun a b _ _ => ?_)
   by_cases hab : a = x ∧ b = k
   ·obtain ⟨rfl, rfl⟩ := hab
    rw [if_pos ⟨rfl, rfl⟩, if_pos (by omega)]; rfl
   ·rw [if_neg hab]
    have : (a < x ∨ a = x ∧ b < k) ↔ (a < x ∨ a = x ∧ b < k + 1) := by omega
    simp only [this]) (by
   unfold B3
   dsimp only
   rw [if_neg (by omega)]
   refine congrArg (fun z => some (Sum.inr z)) (Lg fun a b _ hb => ?_)
   have : (a < x ∨ a = x ∧ b < xs.length) ↔ a < x + 1 := by omega
   simp only [this])
  have e0 : (tab xs.length fun a b => if a < x ∨ (a = x ∧ b < 0) then Kn p xs a b else false) = tab xs.length fun a b => if a < x then Kn p xs a b else false := Lg fun a b _ _ => by
   have : (a < x ∨ a = x ∧ b < 0) ↔ a < x := by omega
   simp only [this]
  simp only [e0] at key
  exact key
 have key := Az (body := Ch (tab p.Below.length (below p.Below)) xs) (fun x => ((x : Int), tab xs.length fun a b => if a < x then Kn p xs a b else false)) xs.length (tab xs.length (Kn p xs)) (fun x hxl => by
  unfold Ch
  dsimp only
  rw [if_pos (by omega), Aa (by omega), inner x hxl]
  simp only [Option.bind_some]
  rw [Aa (by unfold InI; omega)]; rfl) (by
  unfold Ch
  dsimp only
  rw [if_neg (by omega)]
  exact congrArg (fun z => some (Sum.inr z)) (Lg fun a b ha _ => by rw [if_pos ha]))
 have e0 : (tab xs.length fun a b => if a < 0 then Kn p xs a b else false) = tab xs.length fun _ _ => false := Lg fun a b _ _ => by rw [if_neg (by omega)]
 simp only [e0] at key
 show (Ai _ (((0 : Nat) : Int), _)).bind _ = _
 rw [key]; rfl
theorem Ayh (hs : small p) {xs : List Int} (hx : Ay xs p.Below.length) (hm : xs.length ≤ 1000) : Ai (Bw p xs) (0, { Below := Ao (List Int) }) = some (B5 xs.length (Kn p xs)) := by
 have inner : ∀ x, x < xs.length → ∀ acc, Ai (Bx p xs (x : Int) acc) (0, Ao Int) = some (Aj xs.length fun y => Kn p xs y x) := by
  intro x hxl acc
  have hc := hx _ (Ar hxl)
  refine M5 (body := Bx p xs (x : Int) acc) xs.length (fun y => Kn p xs y x) (fun y acc2 hy ha => ?_) (fun acc2 => ?_)
  ·unfold Bx
   dsimp only
   have hd := hx _ (Ar hy)
   have e1 : nth xs y = (((nth xs y).toNat : Nat) : Int) := by omega
   have e2 : nth xs x = (((nth xs x).toNat : Nat) : Int) := by omega
   rw [if_pos (by omega), Aa (by omega), Aa (by omega), Int.toNat_natCast, Int.toNat_natCast, e1, e2, Aif hs _ _ (by omega)]
   simp only [Option.bind_some]
   have e3 : Kn p xs y x = below p.Below (nth xs y).toNat (nth xs x).toNat := rfl
   simp only [e3]
   by_cases hf : below p.Below (nth xs y).toNat (nth xs x).toNat = true
   ·rw [if_pos hf, if_pos hf, Aa (by rw [Al]; simp; omega), Aa (by unfold InI; omega)]; rfl
   ·rw [if_neg hf, if_neg hf, Aa (by unfold InI; omega)]; rfl
  ·unfold Bx
   dsimp only
   rw [if_neg (by omega)]
 exact Az (body := Bw p xs) (fun x => ((x : Int), (⟨Xk xs.length (Kn p xs) x⟩ : SPoset))) xs.length _ (fun x hxl => by
  unfold Bw
  dsimp only
  have hl := Afr xs.length (Kn p xs) x
  rw [if_pos (by omega), inner x hxl]
  simp only [Option.bind_some]
  rw [Aa (by rw [Al]; simp; omega), Aa (by unfold InI; omega), Ac1]
  rfl) (by
  unfold Bw
  dsimp only
  rw [if_neg (by omega)]
  rfl)
end
end Go.Proofs.Ytoikbcagaanhgaa.Ax
namespace Go.Proofs.Ytoikbcagaanhgaa.Ax
open Go Classical
def Ad3 (a : SAlgebra) : Prop := a.Ops.length ≤ 1048576 ∧ ∀ f ∈ a.Ops, f.Table.length ≤ 1048576
end Go.Proofs.Ytoikbcagaanhgaa.Ax
namespace Go.Proofs.Ytoikbcagaanhgaa.Ax
open Go Classical
theorem Asc {α : Type} (n m : Nat) (g : Nat → α) : (List.range (n * m)).map g = (List.range n).flatMap fun x => (List.range m).map fun y => g (x * m + y) := by
 induction n with
 | zero => simp
 | succ n ih =>
   rw [Nat.succ_mul, List.range_add, List.map_append, ih, List.range_succ, List.flatMap_append]
   simp [List.map_map, Function.comp_def]
def Ank (f g : Nat → Nat → Bool) (m : Nat) (a b : Nat) : Bool := f (a / m) (b / m) && g (a % m) (b % m)
def Id (m : Nat) (us vs : List Int) : List Int := us.flatMap fun u => vs.map fun v => u * (m : Int) + v
theorem A3x {n m : Nat} {f g : Nat → Nat → Bool} {x y : Nat} (hy : y < m) : Id m (Aj n fun a => f a x) (Aj m fun b => g b y) = Aj (n * m) fun a => Ank f g m a (x * m + y) := by
 have hm : 0 < m := by omega
 have e1 : (x * m + y) / m = x := by rw [Nat.mul_comm, Nat.mul_add_div hm, Nat.div_eq_of_lt hy]; omega
 have e2 : (x * m + y) % m = y := by rw [Nat.mul_comm, Nat.mul_add_mod, Nat.mod_eq_of_lt hy]
 refine Aea (Adz.2 ?_) (Gl _ _) fun z => ?_
 ·unfold Id
  rw [List.pairwise_flatMap]
  refine ⟨fun u _ => ?_, ?_⟩
  ·rw [List.pairwise_map]
   exact (Adz.1 (Gl m fun b => g b y)).imp fun {a b} h => by omega
  ·refine (Adz.1 (Gl n fun a => f a x)).imp_of_mem fun {a b} ha hb h => ?_
   obtain ⟨i, _, _, rfl⟩ := Bc.1 ha
   obtain ⟨j, _, _, rfl⟩ := Bc.1 hb
   intro u hu v hv
   obtain ⟨s, hs, rfl⟩ := List.mem_map.1 hu
   obtain ⟨t, ht, rfl⟩ := List.mem_map.1 hv
   obtain ⟨k, hk, _, rfl⟩ := Bc.1 hs
   obtain ⟨l, hl, _, rfl⟩ := Bc.1 ht
   have h1 : i + 1 ≤ j := by omega
   have h2 := Nat.mul_le_mul_right m h1
   rw [Nat.succ_mul] at h2
   have h3 : i * m + k < j * m + l := by omega
   exact_mod_cast h3
 ·unfold Id
  simp only [List.mem_flatMap, List.mem_map, Bc]
  constructor
  ·rintro ⟨u, ⟨i, hi, hf, rfl⟩, v, ⟨k, hk, hg, rfl⟩, rfl⟩
   have d1 : (i * m + k) / m = i := by rw [Nat.mul_comm, Nat.mul_add_div hm, Nat.div_eq_of_lt hk]; omega
   have d2 : (i * m + k) % m = k := by rw [Nat.mul_comm, Nat.mul_add_mod, Nat.mod_eq_of_lt hk]
   refine ⟨i * m + k, ?_, ?_, by push_cast; rfl⟩
   ·have := Nat.mul_le_mul_right m (show i + 1 ≤ n by omega)
    rw [Nat.succ_mul] at this; omega
   ·unfold Ank
    rw [e1, e2, d1, d2, hf, hg]; rfl
  ·rintro ⟨w, hw, hp, rfl⟩
   unfold Ank at hp
   rw [e1, e2, Bool.and_eq_true] at hp
   refine ⟨((w / m : Nat) : Int), ⟨w / m, Nat.div_lt_of_lt_mul (by rw [Nat.mul_comm]; exact hw), hp.1, rfl⟩, ((w % m : Nat) : Int), ⟨w % m, Nat.mod_lt _ hm, hp.2, rfl⟩, ?_⟩
   have := Nat.div_add_mod w m
   rw [Nat.mul_comm] at this
   exact_mod_cast this
theorem Afe {α β : Type} {l : List α} {s t : α → List β} (h : ∀ x ∈ l, s x = t x) : l.flatMap s = l.flatMap t := by
 induction l with
 | nil => rfl
 | cons x r ih => rw [List.flatMap_cons, List.flatMap_cons, h x (by simp), ih fun y hy => h y (by simp [hy])]
theorem A2p (n m : Nat) (f g : Nat → Nat → Bool) : (B5 (n * m) (Ank f g m)).Below = (List.range n).flatMap fun x => (List.range m).map fun y => Id m (Aj n fun a => f a x) (Aj m fun b => g b y) := by
 unfold B5
 rw [Asc]
 refine Afe fun x _ => ?_
 exact List.map_congr_left fun y hy => (A3x (List.mem_range.1 hy)).symm
end Go.Proofs.Ytoikbcagaanhgaa.Ax
namespace Go.Proofs.Ytoikbcagaanhgaa.Ax
open Go Classical
section
variable {p : SPoset}
noncomputable def Gh (n : Nat) (f : Nat → Nat → Bool) (i : Nat) : List Int := (List.range i).flatMap fun x => Abg n f x n
theorem Z9 (n : Nat) (f : Nat → Nat → Bool) (i : Nat) : Gh n f (i + 1) = Gh n f i ++ Abg n f i n := by simp [Gh, List.range_succ]
theorem La (n : Nat) (f : Nat → Nat → Bool) (i : Nat) : (Gh n f i).length = i * n := by
 induction i with
 | zero => simp [Gh]
 | succ i ih => rw [Z9, List.length_append, ih, Yx, Nat.succ_mul]
theorem Av7 {n : Nat} (hn : n ≤ 10) (f : Nat → Nat → Bool) : Jl (Xr n f) = some ⟨2, Gh n f n⟩ := by
 unfold Jl
 have hml := Ahm (n := n) (f := f)
 have key := Az (body := E6 (Xr n f)) (fun i => ((i : Int), (⟨2, Gh n f i⟩ : SOp))) n ⟨2, Gh n f n⟩ (fun i hi => by
  unfold E6
  dsimp only
  have hl := La n f i
  have hb : i * n ≤ 10 * 10 := Nat.mul_le_mul (by omega) hn
  have hr : (nth (Xr n f) i).length = n := by rw [Ajd hi, Yx]
  rw [if_pos (by omega), Aa (by omega), Int.toNat_natCast, Aa (by rw [Al]; omega), Aa (by unfold InI; omega), Z9, Ajd hi]
  rfl) (by
  unfold E6
  dsimp only
  rw [if_neg (by omega)])
 have e0 : Gh n f 0 = Ao Int := rfl
 simp only [e0] at key
 have key' : Ai (E6 (Xr n f)) (0, { Arity := 2, Table := Ao Int }) = _ := key
 rw [key']; rfl
noncomputable def Gu (p : SPoset) : SAlgebra := ⟨(p.Below.length : Int), [⟨2, Gh p.Below.length (below p.Below) p.Below.length⟩, ⟨2, Gh p.Below.length (opp (below p.Below)) p.Below.length⟩]⟩
theorem Ag0 (h : Bv p) : D6 (Oo p) = some (Gu p) := by
 have h10 : p.Below.length ≤ 10 := h.1.1
 have htl := Dg p.Below.length (below p.Below)
 have hlm : (Oo p).meets = Xr p.Below.length (below p.Below) := rfl
 have hlj : (Oo p).joins = Xr p.Below.length (opp (below p.Below)) := rfl
 unfold D6
 rw [hlm, hlj, Av7 h10, Av7 h10, K4, htl]
 rfl
theorem At2 (hs : small p) (h : Bv p) : Hs p = some (Gu p) := by
 have hg := h.1
 have h10 : p.Below.length ≤ 10 := hg.1
 unfold Hs
 rw [Akt hs]
 simp only [Option.bind_some]
 have inner : ∀ x, x < p.Below.length → Ai (Cw p (Gw p) (x : Int)) (0, (⟨2, Gh p.Below.length (opp (below p.Below)) x⟩ : SOp), (⟨2, Gh p.Below.length (below p.Below) x⟩ : SOp)) =
   some ((⟨2, Gh p.Below.length (opp (below p.Below)) (x + 1)⟩ : SOp), (⟨2, Gh p.Below.length (below p.Below) (x + 1)⟩ : SOp)) := by
  intro x hx
  have key := Az (body := Cw p (Gw p) (x : Int)) (fun y => ((y : Int), (⟨2, Gh p.Below.length (opp (below p.Below)) x ++ Abg p.Below.length (opp (below p.Below)) x y⟩ : SOp), (⟨2, Gh p.Below.length (below p.Below) x ++ Abg p.Below.length (below p.Below) x y⟩ : SOp))) p.Below.length
   ((⟨2, Gh p.Below.length (opp (below p.Below)) (x + 1)⟩ : SOp), (⟨2, Gh p.Below.length (below p.Below) (x + 1)⟩ : SOp)) (fun y hy => by
   unfold Cw
   dsimp only
   have l1 := La p.Below.length (below p.Below) x
   have l2 := La p.Below.length (opp (below p.Below)) x
   have m1 := Yx (n := p.Below.length) (f := below p.Below) x y
   have m2 := Yx (n := p.Below.length) (f := opp (below p.Below)) x y
   have hb : x * p.Below.length ≤ 10 * 10 := Nat.mul_le_mul (by omega) h10
   rw [if_pos (by omega), Ahz hs hg hx hy]
   simp only [Option.bind_some]
   rw [Aa (by rw [Al, List.length_append]; simp only [List.length_cons, List.length_nil]; omega), Ad6 hs hg hx hy]
   simp only [Option.bind_some]
   rw [Aa (by rw [Al, List.length_append]; simp only [List.length_cons, List.length_nil]; omega), Aa (by unfold InI; omega), Akj, Akj, List.append_assoc, List.append_assoc]
   rfl) (by
   unfold Cw
   dsimp only
   rw [if_neg (by omega), Z9, Z9])
  have e0 : ∀ f, Abg p.Below.length f x 0 = [] := fun f => rfl
  simp only [e0, List.append_nil] at key
  exact key
 have key := Az (body := Cv p (Gw p)) (fun x => ((x : Int), (⟨2, Gh p.Below.length (opp (below p.Below)) x⟩ : SOp), (⟨2, Gh p.Below.length (below p.Below) x⟩ : SOp))) p.Below.length
  ((⟨2, Gh p.Below.length (opp (below p.Below)) p.Below.length⟩ : SOp), (⟨2, Gh p.Below.length (below p.Below) p.Below.length⟩ : SOp)) (fun x hx => by
  unfold Cv
  dsimp only
  rw [if_pos (by omega), inner x hx]
  simp only [Option.bind_some]
  rw [Aa (by unfold InI; omega)]; rfl) (by
  unfold Cv
  dsimp only
  rw [if_neg (by omega)])
 have e0 : ∀ f, Gh p.Below.length f 0 = Ao Int := fun f => rfl
 simp only [e0] at key
 have key' : Ai (Cv p (Gw p)) (0, { Arity := 2, Table := Ao Int }, { Arity := 2, Table := Ao Int }) = _ := key
 rw [key']; rfl
theorem Axq (h : Bv p) : Ad3 (Gu p) := by
 have h10 : p.Below.length ≤ 10 := h.1.1
 have hb : p.Below.length * p.Below.length ≤ 10 * 10 := Nat.mul_le_mul h10 h10
 refine ⟨by simp [Gu], fun f hf => ?_⟩
 simp only [Gu, List.mem_cons, List.not_mem_nil, or_false] at hf
 rcases hf with rfl | rfl
 ·dsimp only; rw [La]; omega
 ·dsimp only; rw [La]; omega
theorem Ak5 : Ad3 ⟨0, []⟩ := ⟨by simp, fun f hf => by cases hf⟩
end
end Go.Proofs.Ytoikbcagaanhgaa.Ax
namespace Go.Proofs.Ytoikbcagaanhgaa.Ax
open Go Classical
theorem Axk (m : Nat) (us vs : List Int) : (Id m us vs).length = us.length * vs.length := by
 unfold Id
 induction us with
 | nil => simp
 | cons u r ih => rw [List.flatMap_cons, List.length_append, ih, List.length_map, List.length_cons, Nat.succ_mul]; omega
section
variable {p q : SPoset}
theorem Att (hg : good p.Below) {x : Nat} (hx : x < p.Below.length) : (nth p.Below x).length ≤ p.Below.length := by
 rw [Ayi hg x hx]; exact Cn _ _
theorem A54 (hp : good p.Below) (hq : good q.Below) {x y i : Nat} (hx : x < p.Below.length) (hy : y < q.Below.length) (hi : i < (nth p.Below x).length) (s : SPoset) (acc : List Int) (ha : acc.length ≤ 100) :
  Ai (Cr p q (x : Int) (y : Int) s (i : Int)) (0, acc) = some (acc ++ (nth q.Below y).map fun v => nth (nth p.Below x) i * (q.Below.length : Int) + v) := by
 have h10 : p.Below.length ≤ 10 := hp.1
 have k10 : q.Below.length ≤ 10 := hq.1
 have hl := Att hq hy
 obtain ⟨c, hc⟩ := Int.eq_ofNat_of_zero_le ((Adr hp x hx).2 _ (Ar hi)).1
 have hcn : c < p.Below.length := by have := ((Adr hp x hx).2 _ (Ar hi)).2; omega
 have hmul : c * q.Below.length ≤ 10 * 10 := Nat.mul_le_mul (by omega) k10
 have key := Az (body := Cr p q (x : Int) (y : Int) s (i : Int)) (fun k => ((k : Int), acc ++ ((nth q.Below y).take k).map fun v => nth (nth p.Below x) i * (q.Below.length : Int) + v)) (nth q.Below y).length (acc ++ (nth q.Below y).map fun v => nth (nth p.Below x) i * (q.Below.length : Int) + v) (fun k hk => by
  obtain ⟨d, hd⟩ := Int.eq_ofNat_of_zero_le ((Adr hq y hy).2 _ (Ar hk)).1
  have hdn : d < q.Below.length := by have := ((Adr hq y hy).2 _ (Ar hk)).2; omega
  unfold Cr
  dsimp only
  simp only [Int.toNat_natCast, hc, hd, ← Int.natCast_mul]
  rw [Aa (by omega), if_pos (by omega), Aa (by omega), Aa (by omega), Aa (by unfold InI; omega), Aa (by omega), Aa (by omega), Aa (by unfold InI; omega),
   Aa (by rw [Al]; simp only [List.length_append, List.length_map, List.length_take, List.length_cons, List.length_nil]; omega), Aa (by unfold InI; omega), L8 hk, List.map_append, ← List.append_assoc, List.map_cons, List.map_nil, hd]
  rfl) (by
  unfold Cr
  dsimp only
  simp only [Int.toNat_natCast]
  rw [Aa (by omega), if_neg (by omega), List.take_length])
 simp only [List.take_zero, List.map_nil, List.append_nil] at key
 exact key
theorem A60 (hp : good p.Below) (hq : good q.Below) {x y : Nat} (hx : x < p.Below.length) (hy : y < q.Below.length) (s : SPoset) :
  Ai (Cq p q (x : Int) (y : Int) s) (0, Ao Int) = some (Id q.Below.length (nth p.Below x) (nth q.Below y)) := by
 have h10 : p.Below.length ≤ 10 := hp.1
 have k10 : q.Below.length ≤ 10 := hq.1
 have hl := Att hq hy
 have hlp := Att hp hx
 have key := Az (body := Cq p q (x : Int) (y : Int) s) (fun i => ((i : Int), Id q.Below.length ((nth p.Below x).take i) (nth q.Below y))) (nth p.Below x).length (Id q.Below.length (nth p.Below x) (nth q.Below y)) (fun i hi => by
  unfold Cq
  dsimp only
  simp only [Int.toNat_natCast]
  have hm : ((nth p.Below x).take i).length * (nth q.Below y).length ≤ 10 * 10 := Nat.mul_le_mul (by rw [List.length_take]; omega) (by omega)
  rw [Aa (by omega), if_pos (by omega), A54 hp hq hx hy hi s _ (by rw [Axk]; omega)]
  simp only [Option.bind_some]
  rw [Aa (by unfold InI; omega), L8 hi]
  unfold Id
  rw [List.flatMap_append, List.flatMap_cons, List.flatMap_nil, List.append_nil]
  rfl) (by
  unfold Cq
  dsimp only
  simp only [Int.toNat_natCast]
  rw [Aa (by omega), if_neg (by omega), List.take_length])
 exact key
theorem Atb (hp : good p.Below) (hq : good q.Below) : H3 p q = some (B5 (p.Below.length * q.Below.length) (Ank (below p.Below) (below q.Below) q.Below.length)) := by
 have h10 : p.Below.length ≤ 10 := hp.1
 have k10 : q.Below.length ≤ 10 := hq.1
 unfold H3
 have inner : ∀ x, x < p.Below.length → ∀ s : List (List Int), s.length ≤ 1000 → Ai (Co p q (x : Int)) (0, (⟨s⟩ : SPoset)) = some ⟨s ++ (List.range q.Below.length).map fun y => Id q.Below.length (nth p.Below x) (nth q.Below y)⟩ := by
  intro x hx s hsl
  have key := Az (body := Co p q (x : Int)) (fun y => ((y : Int), (⟨s ++ (List.range y).map fun y => Id q.Below.length (nth p.Below x) (nth q.Below y)⟩ : SPoset))) q.Below.length ⟨s ++ (List.range q.Below.length).map fun y => Id q.Below.length (nth p.Below x) (nth q.Below y)⟩ (fun y hy => by
   unfold Co
   dsimp only
   rw [if_pos (by omega), A60 hp hq hx hy]
   simp only [Option.bind_some]
   rw [Aa (by rw [Al]; simp only [List.length_append, List.length_map, List.length_range, List.length_cons, List.length_nil]; omega), Aa (by unfold InI; omega), List.range_succ, List.map_append, ← List.append_assoc]
   rfl) (by
   unfold Co
   dsimp only
   rw [if_neg (by omega)])
  simp only [List.range_zero, List.map_nil, List.append_nil] at key
  exact key
 have hlen : ∀ x, ((List.range x).flatMap fun x => (List.range q.Below.length).map fun y => Id q.Below.length (nth p.Below x) (nth q.Below y)).length = x * q.Below.length := by
  intro x
  induction x with
  | zero => simp
  | succ x ih => rw [List.range_succ, List.flatMap_append, List.length_append, ih, Nat.succ_mul]; simp
 have key := Az (body := Ct p q) (fun x => ((x : Int), (⟨(List.range x).flatMap fun x => (List.range q.Below.length).map fun y => Id q.Below.length (nth p.Below x) (nth q.Below y)⟩ : SPoset))) p.Below.length
  ⟨(List.range p.Below.length).flatMap fun x => (List.range q.Below.length).map fun y => Id q.Below.length (nth p.Below x) (nth q.Below y)⟩ (fun x hx => by
  unfold Ct
  dsimp only
  have hb : x * q.Below.length ≤ 10 * 10 := Nat.mul_le_mul (by omega) k10
  rw [if_pos (by omega), inner x hx _ (by rw [hlen]; omega)]
  simp only [Option.bind_some]
  rw [Aa (by unfold InI; omega), List.range_succ, List.flatMap_append]
  simp only [List.flatMap_cons, List.flatMap_nil, List.append_nil]
  rfl) (by
  unfold Ct
  dsimp only
  rw [if_neg (by omega)])
 have key' : Ai (Ct p q) (0, { Below := Ao (List Int) }) = _ := key
 rw [key']
 simp only [Option.bind_some]
 refine congrArg some ?_
 have e : (B5 (p.Below.length * q.Below.length) (Ank (below p.Below) (below q.Below) q.Below.length)) = ⟨(B5 (p.Below.length * q.Below.length) (Ank (below p.Below) (below q.Below) q.Below.length)).Below⟩ := rfl
 rw [e, A2p]
 refine congrArg SPoset.mk (Afe fun x hx => List.map_congr_left fun y hy => ?_)
 rw [Ayi hp x (List.mem_range.1 hx), Ayi hq y (List.mem_range.1 hy)]
end
end Go.Proofs.Ytoikbcagaanhgaa.Ax
namespace Go.Proofs.Ytoikbcagaanhgaa.Ax
open Go Classical
def A26 (n : Nat) (f : SOp) : Prop := 0 ≤ f.Arity ∧ f.Arity ≤ 3 ∧ f.Table.length = n ^ f.Arity.toNat ∧ Ay f.Table n
def Aof (a : SAlgebra) : Prop := 1 ≤ a.Size ∧ a.Size ≤ 8 ∧ a.Ops.length ≤ 4 ∧ ∀ f ∈ a.Ops, A26 a.Size.toNat f
theorem Aoo {n k : Nat} (hn : n ≤ 8) (hk : k ≤ 3) : n ^ k ≤ 512 :=
 Nat.le_trans (Nat.pow_le_pow_left hn k) (Nat.le_trans (Nat.pow_le_pow_right (by omega) hk) (by decide))
theorem A6c {n k : Nat} (hn : n ≤ 8) (hk : k ≤ 3) : Li n k = some ((n ^ k : Nat) : Int) := by
 unfold Li
 have key := Az (body := Fv n) (fun j => (((n ^ j : Nat) : Int), ((k : Int) - (j : Int)))) k ((n ^ k : Nat) : Int) (fun j hj => by
  unfold Fv
  dsimp only
  have hp := Aoo hn (show j + 1 ≤ 3 by omega)
  rw [Nat.pow_succ] at hp
  rw [if_pos (by omega), ← Int.natCast_mul, Nat.pow_succ]
  generalize n ^ j * n = N at hp ⊢
  rw [Aa (by unfold InI; omega), Aa (by unfold InI; omega), show ((k : Int) - (j : Int) - 1) = (k : Int) - ((j + 1 : Nat) : Int) by omega]) (by
  unfold Fv
  dsimp only
  rw [if_neg (by omega)])
 have key' : Ai (Fv n) (1, (k : Int)) = some ((n ^ k : Nat) : Int) := by simpa using key
 rw [key']; rfl
theorem A63 {n k : Nat} (hn : n ≤ 8) (hk : k ≤ 3) : Lf n k = some ((n ^ k : Nat) : Int) := by
 unfold Lf
 have key := Az (body := F4 n) (fun j => (((n ^ j : Nat) : Int), ((k : Int) - (j : Int)))) k ((n ^ k : Nat) : Int) (fun j hj => by
  unfold F4
  dsimp only
  have hp := Aoo hn (show j + 1 ≤ 3 by omega)
  rw [Nat.pow_succ] at hp
  rw [if_pos (by omega), ← Int.natCast_mul, Nat.pow_succ]
  generalize n ^ j * n = N at hp ⊢
  rw [Aa (by unfold InI; omega), Aa (by unfold InI; omega), show ((k : Int) - (j : Int) - 1) = (k : Int) - ((j + 1 : Nat) : Int) by omega]) (by
  unfold F4
  dsimp only
  rw [if_neg (by omega)])
 have key' : Ai (F4 n) (1, (k : Int)) = some ((n ^ k : Nat) : Int) := by simpa using key
 rw [key']; rfl
theorem A32 {n : Nat} (hn : n ≤ 8) {f : SOp} (hl : f.Table.length ≤ LIM) : Ri f n = some (decide (A26 n f)) := by
 unfold Ri
 by_cases h0 : 0 ≤ f.Arity
 ·rw [if_pos (show f.Arity ≥ 0 from h0)]
  by_cases h3 : f.Arity ≤ 3
  ·have e : Li (n : Int) f.Arity = some ((n ^ f.Arity.toNat : Nat) : Int) := by
    have := A6c hn (k := f.Arity.toNat) (by omega)
    rwa [show ((f.Arity.toNat : Nat) : Int) = f.Arity by omega] at this
   rw [if_pos h3, e]
   simp only [Option.bind_some]
   by_cases hL : f.Table.length = n ^ f.Arity.toNat
   ·rw [if_pos (by rw [hL]), Ab1 _ _ hl]
    simp only [Option.bind_some]
    congr 1
    rw [decide_eq_decide]
    exact ⟨fun h => ⟨h0, h3, hL, h⟩, fun h => h.2.2.2⟩
   ·rw [if_neg (fun hc => hL (Int.ofNat_inj.1 hc)), decide_eq_false (fun h => hL h.2.2.1)]
  ·rw [if_neg h3, decide_eq_false (fun h => h3 h.2.1)]
 ·rw [if_neg (by omega), decide_eq_false (fun h => h0 h.1)]
theorem A3f {n : Nat} (hn1 : 1 ≤ n) (hn : n ≤ 8) {f : SOp} (hl : f.Table.length ≤ LIM) : Qy n f = some (decide (A26 n f)) := by
 unfold Qy
 rw [Ade]
 simp only [Option.bind_some]
 by_cases h0 : 0 ≤ f.Arity ∧ f.Arity ≤ 3
 ·have e : Lf (n : Int) f.Arity = some ((n ^ f.Arity.toNat : Nat) : Int) := by
   have := A63 hn (k := f.Arity.toNat) (by omega)
   rwa [show ((f.Arity.toNat : Nat) : Int) = f.Arity by omega] at this
  rw [decide_eq_true h0, if_pos rfl, e]
  simp only [Option.bind_some]
  by_cases hL : f.Table.length = n ^ f.Arity.toNat
  ·rw [if_neg (by rw [hL]; simp)]
   simp only [Option.bind_some]
   have hl' := hl
   rw [Al] at hl'
   have this := Da (body := G4 n f) (fun i => (i : Int)) f.Table.length (fun i => ¬ (0 ≤ nth f.Table i ∧ nth f.Table i ≤ (n : Int) - 1)) () () (fun i hi hb => by
    unfold G4
    rw [if_pos (by omega), Aa (by omega), Aa (by unfold InI; omega), Ade]
    simp only [Int.toNat_natCast, Option.bind_some]
    rw [decide_eq_true (Classical.not_not.1 hb), if_pos rfl, Aa (by unfold InI; omega)]; rfl) (fun i hi hb => by
    unfold G4
    rw [if_pos (by omega), Aa (by omega), Aa (by unfold InI; omega), Ade]
    simp only [Int.toNat_natCast, Option.bind_some]
    rw [decide_eq_false hb, if_neg (by simp)]) (by
    unfold G4
    rw [if_neg (by omega)]) 0 (by omega)
   refine (Hj this false true).trans (congrArg some (Ou ?_))
   rw [Gv]
   constructor
   ·intro h
    refine ⟨h0.1, h0.2, hL, fun x hx => ?_⟩
    obtain ⟨i, hi, rfl⟩ := Et.1 hx
    have := h i hi; omega
   ·intro h i hi
    have := h.2.2.2 _ (Ar hi); omega
  ·rw [if_pos (fun hc => hL (Int.ofNat_inj.1 hc)), decide_eq_false (fun h => hL h.2.2.1)]; rfl
 ·rw [decide_eq_false h0, if_neg (by simp), decide_eq_false (fun h => h0 ⟨h.1, h.2.1⟩)]; rfl
theorem Axv {a : SAlgebra} (h : Ad3 a) : Ik a = some (decide (Aof a)) := by
 unfold Ik
 by_cases h1 : a.Size < 1
 ·rw [if_pos h1, decide_eq_false (fun hg => by have := hg.1; omega)]; rfl
 rw [if_neg h1]
 by_cases h8 : a.Size > 8
 ·rw [if_pos h8, decide_eq_false (fun hg => by have := hg.2.1; omega)]; rfl
 rw [if_neg h8]
 by_cases h4 : (a.Ops.length : Int) > 4
 ·rw [if_pos h4, decide_eq_false (fun hg => by have := hg.2.2.1; omega)]; rfl
 rw [if_neg h4]
 simp only [Option.bind_some]
 obtain ⟨n, hn⟩ := Int.eq_ofNat_of_zero_le (show 0 ≤ a.Size by omega)
 have this := Da (body := C3 a) (fun i => (i : Int)) a.Ops.length (fun i => ¬ A26 n (nth a.Ops i)) () () (fun i hi hb => by
  have hl := h.2 _ (Ar hi)
  unfold C3
  rw [if_pos (by omega), Aa (by omega), Int.toNat_natCast, hn, A32 (by omega) (by rw [Al]; omega)]
  simp only [Option.bind_some]
  rw [decide_eq_true (Classical.not_not.1 hb), if_pos rfl, Aa (by unfold InI; omega)]; rfl) (fun i hi hb => by
  have hl := h.2 _ (Ar hi)
  unfold C3
  rw [if_pos (by omega), Aa (by omega), Int.toNat_natCast, hn, A32 (by omega) (by rw [Al]; omega)]
  simp only [Option.bind_some]
  rw [decide_eq_false hb, if_neg (by simp)]) (by
  unfold C3
  rw [if_neg (by omega)]) 0 (by omega)
 refine (Hj this false true).trans (congrArg some (Ou ?_))
 rw [Gv]
 have hnn : a.Size.toNat = n := by omega
 constructor
 ·intro hh
  refine ⟨by omega, by omega, by omega, fun f hf => ?_⟩
  obtain ⟨i, hi, rfl⟩ := Et.1 hf
  rw [hnn]; exact hh i hi
 ·intro hg i hi
  have := hg.2.2.2 _ (Ar hi)
  rwa [hnn] at this
theorem A4d {a : SAlgebra} (h : Ad3 a) : L0 a = some (decide (Aof a)) := by
 unfold L0
 rw [Ade]
 simp only [Option.bind_some]
 by_cases h1 : 1 ≤ a.Size ∧ a.Size ≤ 8
 ·rw [decide_eq_true h1, if_pos rfl]
  by_cases h4 : (a.Ops.length : Int) > 4
  ·rw [if_pos h4, decide_eq_false (fun hg => by have := hg.2.2.1; omega)]; rfl
  rw [if_neg h4]
  simp only [Option.bind_some]
  obtain ⟨n, hn⟩ := Int.eq_ofNat_of_zero_le (show 0 ≤ a.Size by omega)
  have this := Da (body := E7 a) (fun i => (i : Int)) a.Ops.length (fun i => ¬ A26 n (nth a.Ops i)) () () (fun i hi hb => by
   have hl := h.2 _ (Ar hi)
   unfold E7
   rw [if_pos (by omega), Aa (by omega), Int.toNat_natCast, hn, A3f (by omega) (by omega) (by rw [Al]; omega)]
   simp only [Option.bind_some]
   rw [decide_eq_true (Classical.not_not.1 hb), if_pos rfl, Aa (by unfold InI; omega)]; rfl) (fun i hi hb => by
   have hl := h.2 _ (Ar hi)
   unfold E7
   rw [if_pos (by omega), Aa (by omega), Int.toNat_natCast, hn, A3f (by omega) (by omega) (by rw [Al]; omega)]
   simp only [Option.bind_some]
   rw [decide_eq_false hb, if_neg (by simp)]) (by
   unfold E7
   rw [if_neg (by omega)]) 0 (by omega)
  refine (Hj this false true).trans (congrArg some (Ou ?_))
  rw [Gv]
  have hnn : a.Size.toNat = n := by omega
  constructor
  ·intro hh
   refine ⟨by omega, by omega, by omega, fun f hf => ?_⟩
   obtain ⟨i, hi, rfl⟩ := Et.1 hf
   rw [hnn]; exact hh i hi
  ·intro hg i hi
   have := hg.2.2.2 _ (Ar hi)
   rwa [hnn] at this
 ·rw [decide_eq_false h1, if_neg (by simp), decide_eq_false (fun hg => h1 ⟨hg.1, hg.2.1⟩)]; rfl
def Awu (a : SAlgebra) : List Int := a.Ops.map (·.Arity)
end Go.Proofs.Ytoikbcagaanhgaa.Ax
namespace Go.Proofs.Ytoikbcagaanhgaa.Ax
open Go Classical
end Go.Proofs.Ytoikbcagaanhgaa.Ax
namespace Go.Proofs.Ytoikbcagaanhgaa.Ax
open Go Classical
def Zn (n : Nat) : Nat → Nat → List Int
 | 0, _ => []
 | r + 1, k => Zn n r (k / n) ++ [((k % n : Nat) : Int)]
theorem Ap4 (n : Nat) : ∀ r k, (Zn n r k).length = r := by
 intro r
 induction r with
 | zero => intro k; rfl
 | succ r ih => intro k; simp [Zn, ih]
theorem A0a {n : Nat} (hn : 0 < n) : ∀ r k, Ay (Zn n r k) n := by
 intro r
 induction r with
 | zero => intro k x hx; cases hx
 | succ r ih =>
   intro k x hx
   simp only [Zn] at hx
   rcases List.mem_append.1 hx with hx | hx
   ·exact ih _ x hx
   ·rw [List.mem_singleton.1 hx]
    have := Nat.mod_lt k hn
    omega
theorem A6g {n : Nat} (hn : 0 < n) (hn8 : n ≤ 8) : ∀ (r k : Nat) (xs : List Int), r ≤ xs.length → xs.length ≤ 1000 → k ≤ 1048576 → Ai (Fd n) ((r : Int) - 1, xs, (k : Int)) = some (Zn n r k ++ xs.drop r) := by
 intro r
 induction r with
 | zero =>
   intro k xs _ _ _
   refine I9 ?_
   unfold Fd
   dsimp only
   rw [if_neg (by omega)]
   simp [Zn]
 | succ r ih =>
   intro k xs hr hl hk
   have c1 : (k : Int).tdiv (n : Int) = ((k / n : Nat) : Int) := rfl
   have c2 : (k : Int).tmod (n : Int) = ((k % n : Nat) : Int) := rfl
   have hd : k / n ≤ k := Nat.div_le_self k n
   have step : Fd n (((r + 1 : Nat) : Int) - 1, xs, (k : Int)) = some (.inl ((r : Int) - 1, xs.set r ((k % n : Nat) : Int), ((k / n : Nat) : Int))) := by
    unfold Fd
    dsimp only
    rw [show (((r + 1 : Nat) : Int) - 1) = (r : Int) by omega, c1, c2]
    generalize k / n = kd at hd
    rw [if_pos (by omega), Aa (by omega), Aa (by omega), Aa (by unfold InI; omega), Aa (by unfold InI; omega), Int.toNat_natCast]
   rw [Kt step, ih _ _ (by rw [List.length_set]; omega) (by rw [List.length_set]; exact hl) (by omega)]
   congr 1
   simp only [Zn]
   rw [List.append_assoc]
   congr 1
   have e : (xs.set r ((k % n : Nat) : Int)).drop r = ((k % n : Nat) : Int) :: xs.drop (r + 1) := by
    refine List.ext_getElem (by simp; omega) fun i h1 h2 => ?_
    rw [List.getElem_drop, List.getElem_set]
    cases i with
    | zero => simp
    | succ i =>
      rw [if_neg (by omega), List.getElem_cons_succ, List.getElem_drop]
      congr 1; omega
   rw [e]; rfl
theorem A3g {n r k : Nat} (hn : 0 < n) (hn8 : n ≤ 8) (hr : r ≤ 3) (hk : k ≤ 1048576) : L9 n r k = some (Zn n r k) := by
 unfold L9
 rw [Aa (by rw [Al]; omega), Aa (by unfold InI; omega), Int.toNat_natCast, A6g hn hn8 r k _ (by simp) (by simp; omega) hk]
 simp
def A2e (m : Nat) (xs : List Int) : Int := xs.foldl (fun s x => s * (m : Int) + x) 0
theorem Ar8 (m : Nat) (xs : List Int) (y : Int) : A2e m (xs ++ [y]) = A2e m xs * (m : Int) + y := by
 unfold A2e; rw [List.foldl_append]; rfl
theorem A56 {m : Nat} : ∀ (r : Nat) (xs : List Int), xs.length = r → Ay xs m → ∃ c : Nat, A2e m xs = (c : Int) ∧ c < m ^ r := by
 intro r
 induction r with
 | zero =>
   intro xs hl _
   have : xs = [] := List.length_eq_zero_iff.1 hl
   subst this
   exact ⟨0, rfl, by simp⟩
 | succ r ih =>
   intro xs hl hx
   obtain ⟨ys, y, rfl⟩ : ∃ ys y, xs = ys ++ [y] := by
    refine ⟨xs.take r, nth xs r, ?_⟩
    rw [← L8 (by omega), List.take_of_length_le (by omega)]
   have hy := hx y (by simp)
   obtain ⟨c, h1, h2⟩ := ih ys (by simpa using hl) fun z hz => hx z (by simp [hz])
   obtain ⟨d, rfl⟩ := Int.eq_ofNat_of_zero_le hy.1
   refine ⟨c * m + d, by rw [Ar8, h1]; push_cast; rfl, ?_⟩
   have h3 := Nat.mul_le_mul_right m (show c + 1 ≤ m ^ r from h2)
   rw [Nat.succ_mul] at h3
   rw [Nat.pow_succ]
   omega
theorem Azy {m : Nat} (hm : m ≤ 8) {xs : List Int} (hl : xs.length ≤ 3) (hx : Ay xs m) : ∃ c : Nat, A2e m xs = (c : Int) ∧ c < m ^ xs.length ∧ c < 512 := by
 obtain ⟨c, h1, h2⟩ := A56 xs.length xs rfl hx
 have := Aoo hm hl
 exact ⟨c, h1, h2, by omega⟩
def A6w (n m : Nat) (f : List Int) : Nat → Nat → Int
 | 0, _ => 0
 | r + 1, k => A6w n m f r (k / n) * (m : Int) + nth f (k % n)
theorem A3d (n m : Nat) (f : List Int) : ∀ r k, A2e m ((Zn n r k).map fun x => nth f x.toNat) = A6w n m f r k := by
 intro r
 induction r with
 | zero => intro k; rfl
 | succ r ih =>
   intro k
   simp only [Zn, A6w, List.map_append, List.map_cons, List.map_nil, Int.toNat_natCast]
   rw [Ar8, ih]
theorem A2x {n m : Nat} (hn : 0 < n) {f : List Int} (hf : f.length = n) (hfx : Ay f m) (r k : Nat) : Ay ((Zn n r k).map fun x => nth f x.toNat) m := by
 intro y hy
 obtain ⟨x, hx, rfl⟩ := List.mem_map.1 hy
 have := A0a hn r k x hx
 exact hfx _ (Ar (by omega))
structure Homs (a b : SAlgebra) (f : List Int) (n m : Nat) : Prop where
 ga : Aof a
 gb : Aof b
 ty : Awu a = Awu b
 sa : a.Size = n
 sb : b.Size = m
 len : f.length = n
 fin : Ay f m
section
variable {a b : SAlgebra} {f : List Int} {n m : Nat}
theorem Homs.ops (h : Homs a b f n m) : a.Ops.length = b.Ops.length := by
 have := congrArg List.length h.ty
 simpa [Awu] using this
theorem Homs.op (h : Homs a b f n m) {i : Nat} (hi : i < a.Ops.length) : ∃ r : Nat, r ≤ 3 ∧ (nth a.Ops i).Arity = r ∧ (nth b.Ops i).Arity = r ∧ (nth a.Ops i).Table.length = n ^ r ∧ (nth b.Ops i).Table.length = m ^ r ∧ Ay (nth a.Ops i).Table n ∧ n ^ r ≤ 512 := by
 have hn : a.Size.toNat = n := by have := h.sa; omega
 have hm : b.Size.toNat = m := by have := h.sb; omega
 have hn8 : n ≤ 8 := by have := h.sa; have := h.ga.2.1; omega
 obtain ⟨h1, h2, h3, h4⟩ := h.ga.2.2.2 _ (Ar hi)
 have hib : i < b.Ops.length := by rw [← h.ops]; exact hi
 obtain ⟨_, _, k3, _⟩ := h.gb.2.2.2 _ (Ar hib)
 have e : (nth a.Ops i).Arity = (nth b.Ops i).Arity := by
  have e1 : nth (Awu a) i = (nth a.Ops i).Arity := L2 _ hi
  have e2 : nth (Awu b) i = (nth b.Ops i).Arity := L2 _ hib
  rw [← e1, ← e2, h.ty]
 rw [hn] at h3 h4
 rw [hm, ← e] at k3
 exact ⟨(nth a.Ops i).Arity.toNat, by omega, by omega, by omega, h3, k3, h4, Aoo hn8 (by omega)⟩
theorem Homs.pos (h : Homs a b f n m) : 0 < n ∧ n ≤ 8 ∧ 0 < m ∧ m ≤ 8 := by
 have := h.sa; have := h.sb; have := h.ga.1; have := h.ga.2.1; have := h.gb.1; have := h.gb.2.1
 omega
theorem Homs.low (h : Homs a b f n m) {r k : Nat} (hr : r ≤ 3) : ∃ c : Nat, A6w n m f r k = (c : Int) ∧ c < m ^ r := by
 obtain ⟨hn, _, _, hm⟩ := h.pos
 obtain ⟨c, h1, h2, _⟩ := Azy hm (xs := (Zn n r k).map fun x => nth f x.toNat) (by rw [List.length_map, Ap4]; exact hr) (A2x hn h.len h.fin r k)
 rw [A3d] at h1
 rw [List.length_map, Ap4] at h2
 exact ⟨c, h1, h2⟩
end
def uniq (f : List Int) : Prop := ∀ i, i < f.length → nth f i ∉ f.take i
end Go.Proofs.Ytoikbcagaanhgaa.Ax
namespace Go.Proofs.Ytoikbcagaanhgaa.Ax
open Go Classical
theorem Avj {f : List Int} (hl : f.length ≤ LIM) {n : Nat} (hn1 : n ≤ 100) : H8 f n = some (decide ((f.length : Int) = n ∧ Ay f n ∧ uniq f)) := by
 unfold H8
 by_cases h1 : (f.length : Int) = n
 ·rw [if_neg (by simpa using h1), Ahu n f hl (by rw [Al]; omega)]
  simp only [Option.bind_some]
  by_cases h2 : Ay f n
  ·rw [decide_eq_true h2, if_pos rfl]
   simp only [Option.bind_some]
   have hn : n = f.length := by omega
   subst hn
   rw [Aa (by rw [Al]; omega), Int.toNat_natCast]
   have this := Da (body := Fc f f.length) (fun i => ((i : Int), F5 f.length fun z => decide ((z : Int) ∈ f.take i))) f.length (fun i => nth f i ∈ f.take i) () () (fun i hi hb => by
    have hv := h2 _ (Ar hi)
    have hc : nth f i = (((nth f i).toNat : Nat) : Int) := by omega
    have hlen := Mh f.length fun z => decide ((z : Int) ∈ f.take i)
    unfold Fc
    dsimp only
    rw [if_pos (by omega), Aa (by omega), Int.toNat_natCast, Aa (by omega), Ld (by omega), if_neg (by rw [← hc]; simpa using hb), Aa (by omega), Aa (by omega), Aa (by unfold InI; omega), Ane (by omega)]
    refine congrArg (fun x => some (Sum.inl (_, x))) (Ti fun z _ => ?_)
    rw [L8 hi]
    by_cases hz : z = (nth f i).toNat
    ·rw [if_pos hz]
     refine (decide_eq_true ?_).symm
     rw [List.mem_append, List.mem_singleton]; right; omega
    ·rw [if_neg hz, decide_eq_decide, List.mem_append, List.mem_singleton]
     exact ⟨.inl, fun h => h.resolve_right (by omega)⟩) (fun i hi hb => by
    have hv := h2 _ (Ar hi)
    have hc : nth f i = (((nth f i).toNat : Nat) : Int) := by omega
    have hlen := Mh f.length fun z => decide ((z : Int) ∈ f.take i)
    unfold Fc
    dsimp only
    rw [if_pos (by omega), Aa (by omega), Int.toNat_natCast, Aa (by omega), Ld (by omega), if_pos (by rw [← hc]; simpa using hb)]) (by
    unfold Fc
    dsimp only
    rw [if_neg (by omega)]) 0 (by omega)
   have e0 : (F5 f.length fun z => decide ((z : Int) ∈ f.take 0)) = List.replicate f.length false := by
    rw [Ao4]; exact Ti fun z _ => by simp
   simp only [e0] at this
   refine (Hj this false true).trans (congrArg some (Ou ?_))
   constructor
   ·intro hno
    exact ⟨rfl, h2, fun i hi hm => hno ⟨i, by omega, hi, hm⟩⟩
   ·rintro ⟨_, _, hu⟩ ⟨i, _, hi, hm⟩
    exact hu i hi hm
  ·rw [decide_eq_false h2, if_neg (by simp), decide_eq_false (fun h => h2 h.2.1)]; rfl
 ·rw [if_pos (by simpa using h1), decide_eq_false (fun h => h1 h.1)]; rfl
structure Perm (f : List Int) (n : Nat) : Prop where
 len : f.length = n
 fin : Ay f n
 un : uniq f
theorem Perm.count {f : List Int} {n : Nat} (h : Perm f n) : ∀ i, i ≤ n → (Aj n fun z => decide ((z : Int) ∈ f.take i)).length = i := by
 intro i
 induction i with
 | zero =>
   intro _
   rw [List.length_eq_zero_iff]
   exact Asb.2 fun z _ => by simp
 | succ i ih =>
   intro hi
   have hil : i < f.length := by rw [h.len]; exact hi
   have hv := h.fin _ (Ar hil)
   have hu := h.un i hil
   have hc : nth f i = (((nth f i).toNat : Nat) : Int) := by omega
   have := A12 (q := fun z => decide ((z : Int) ∈ f.take i)) (q' := fun z => decide ((z : Int) ∈ f.take (i + 1))) (x := (nth f i).toNat) (decide_eq_false (by rw [← hc]; exact hu)) (fun z => by
    rw [L8 hil, Bool.eq_iff_iff]
    simp only [decide_eq_true_eq, List.mem_append, List.mem_singleton, Bool.or_eq_true]
    constructor
    ·rintro (h1 | h1)
     ·exact .inl h1
     ·exact .inr (by omega)
    ·rintro (h1 | h1)
     ·exact .inl h1
     ·exact .inr (by omega)) n
   rw [this, ih (by omega), if_pos (by omega)]
section
variable {a : SAlgebra} {f : List Int} {n : Nat}
end
end Go.Proofs.Ytoikbcagaanhgaa.Ax
namespace Go.Proofs.Ytoikbcagaanhgaa.Ax
open Go Classical
noncomputable def many (n : Nat) (q : Nat → Bool) : Nat := (Aj n q).length
section
variable {n : Nat} {f : Nat → Nat → Bool}
end
theorem Vn {m x y : Nat} (hy : y < m) : (x * m + y) / m = x ∧ (x * m + y) % m = y := by
 constructor
 ·rw [Nat.mul_comm, Nat.mul_add_div (by omega), Nat.div_eq_of_lt hy, Nat.add_zero]
 ·rw [Nat.mul_comm, Nat.mul_add_mod, Nat.mod_eq_of_lt hy]
theorem Am0 {n m x y : Nat} (hx : x < n) (hy : y < m) : x * m + y < n * m := by
 have := Nat.mul_le_mul_right m (show x + 1 ≤ n by omega)
 rw [Nat.succ_mul] at this; omega
theorem Auy {n m z : Nat} (hz : z < n * m) : ∃ x y, x < n ∧ y < m ∧ z = x * m + y := by
 have hm : 0 < m := by
  rcases Nat.eq_zero_or_pos m with h | h
  ·subst h; simp at hz
  ·exact h
 exact ⟨z / m, z % m, Nat.div_lt_of_lt_mul (by rw [Nat.mul_comm]; exact hz), Nat.mod_lt _ hm, by rw [Nat.mul_comm, Nat.div_add_mod]⟩
section
variable {n m : Nat} {f g : Nat → Nat → Bool}
end
end Go.Proofs.Ytoikbcagaanhgaa.Ax
namespace Go.Proofs.Ytoikbcagaanhgaa.Ax
open Go
def Cur (k : Nat) (c : Sl1Cur) : Prop := (∀ x ∈ c.code, 0 ≤ x ∧ x ≤ 255) ∧ c.code.length ≤ 65536 ∧ 0 ≤ c.at_ ∧ c.at_ ≤ k
theorem Cur.mono {k l : Nat} {c : Sl1Cur} (h : Cur k c) (hl : k ≤ l) : Cur l c := ⟨h.1, h.2.1, h.2.2.1, by have := h.2.2.2; omega⟩
theorem A35 {n : Int} (h0 : 0 ≤ n) (h1 : n ≤ 255) : IntKind.u64.wrap n = n := by
 simp [IntKind.wrap, IntKind.bits, IntKind.signed]
 omega
theorem Asq {c : Sl1Cur} {k : Nat} (h : Cur k c) (hk : k ≤ 1000000000) : ∃ r d, Fu c = some (r, d) ∧ Cur (k + 1) d ∧ 0 ≤ r ∧ r ≤ 255 := by
 obtain ⟨h1, h2, h3, h4⟩ := h
 unfold Fu
 have fin : ∀ q : Int, 0 ≤ q → q ≤ 255 → ∃ r d, (ask (InI (c.at_ + 1)) <|
   if c.at_ + 1 ≤ (c.code.length : Int) then
    some (q, ({ code := c.code, at_ := c.at_ + 1, seed := IntKind.u64.wrap (IntKind.u64.wrap (IntKind.u64.wrap (c.seed * 6364136223846793005) + IntKind.u64.wrap q) + 550289) } : Sl1Cur))
   else some (IntKind.i64.wrap (IntKind.u64.wrap (((BitVec.ofInt IntKind.u64.bits ((IntKind.u64.wrap (IntKind.u64.wrap (IntKind.u64.wrap (c.seed * 6364136223846793005) + IntKind.u64.wrap q) + 550289)).fdiv (2 ^ min (Int.toNat 40) IntKind.u64.bits)) &&& BitVec.ofInt IntKind.u64.bits 255).toNat : Nat) : Int)),
    ({ code := c.code, at_ := c.at_ + 1, seed := IntKind.u64.wrap (IntKind.u64.wrap (IntKind.u64.wrap (c.seed * 6364136223846793005) + IntKind.u64.wrap q) + 550289) } : Sl1Cur))) = some (r, d) ∧ Cur (k + 1) d ∧ 0 ≤ r ∧ r ≤ 255 := by
  intro q hq0 hq1
  rw [Aa (by unfold InI; omega)]
  split
  ·exact ⟨_, _, rfl, ⟨h1, h2, by show 0 ≤ c.at_ + 1; omega, by show c.at_ + 1 ≤ ((k + 1 : Nat) : Int); omega⟩, hq0, hq1⟩
  ·refine ⟨_, _, rfl, ⟨h1, h2, by show 0 ≤ c.at_ + 1; omega, by show c.at_ + 1 ≤ ((k + 1 : Nat) : Int); omega⟩, ?_⟩
   generalize BitVec.ofInt IntKind.u64.bits ((IntKind.u64.wrap (IntKind.u64.wrap (IntKind.u64.wrap (c.seed * 6364136223846793005) + IntKind.u64.wrap q) + 550289)).fdiv (2 ^ min (Int.toNat 40) IntKind.u64.bits)) = b
   have hb : (b &&& BitVec.ofInt IntKind.u64.bits 255).toNat ≤ 255 := by
    rw [BitVec.toNat_and]
    have : (BitVec.ofInt IntKind.u64.bits 255).toNat = 255 := by decide
    rw [this]
    exact Nat.and_le_right
   generalize (b &&& BitVec.ofInt IntKind.u64.bits 255).toNat = z at hb
   rw [A35 (by omega) (by omega), Ad4 (by omega) (by omega)]
   omega
 by_cases hc : c.at_ < (c.code.length : Int)
 ·rw [if_pos hc, Aa ⟨h3, hc⟩]
  have hm := h1 _ (Ar (xs := c.code) (i := c.at_.toNat) (by omega))
  rw [Ad4 (by omega) (by omega)]
  simp only [Option.bind_some]
  exact fin _ hm.1 hm.2
 ·rw [if_neg hc]
  simp only [Option.bind_some]
  exact fin 0 (by omega) (by omega)
theorem Hk {c : Sl1Cur} {k : Nat} (h : Cur k c) (hk : k ≤ 900000000) (n : Int) : ∃ r d, A5 c n = some (r, d) ∧ Cur (k + 2) d ∧ 0 ≤ r ∧ (r < n ∨ (n ≤ 1 ∧ r = 0)) := by
 unfold A5
 by_cases h1 : n ≤ 1
 ·rw [if_pos h1]; exact ⟨0, c, rfl, h.mono (by omega), by omega, .inr ⟨h1, rfl⟩⟩
 ·rw [if_neg h1]
  obtain ⟨r, d, e, hd, a1, a2⟩ := Asq h (by omega)
  simp only [e, Option.bind_some]
  by_cases h2 : n > 200
  ·rw [if_pos h2, Aa (by unfold InI; omega)]
   obtain ⟨r2, d2, e2, hd2, b1, b2⟩ := Asq hd (by omega)
   simp only [e2, Option.bind_some]
   rw [Aa (by unfold InI; omega), Aa (by omega)]
   refine ⟨_, _, rfl, hd2, Int.tmod_nonneg _ (by omega), .inl ?_⟩
   exact Int.tmod_lt_of_pos _ (by omega)
  ·rw [if_neg h2, Aa (by omega)]
   refine ⟨_, _, rfl, hd.mono (by omega), Int.tmod_nonneg _ (by omega), .inl ?_⟩
   exact Int.tmod_lt_of_pos _ (by omega)
theorem Tx {c : Sl1Cur} {k : Nat} (h : Cur k c) (hk : k ≤ 900000000) (n : Int) : ∃ b d, Bn c n = some (b, d) ∧ Cur (k + 2) d := by
 unfold Bn
 obtain ⟨r, d, e, hd, _, _⟩ := Hk h hk n
 simp only [e, Option.bind_some]
 exact ⟨_, _, rfl, hd⟩
theorem Tq {c : Sl1Cur} {k : Nat} (h : Cur k c) (hk : k ≤ 900000000) (l : List Int) (h0 : 0 < l.length) : ∃ r d, Cc c l = some (r, d) ∧ Cur (k + 2) d ∧ r ∈ l := by
 unfold Cc
 obtain ⟨r, d, e, hd, a1, a2⟩ := Hk h hk (l.length : Int)
 simp only [e, Option.bind_some]
 rw [Aa (by omega)]
 exact ⟨_, _, rfl, hd, Ar (by omega)⟩
theorem Aov {c : Sl1Cur} {k : Nat} (h : Cur k c) (hk : k ≤ 800000000) (n : Nat) (hn : n ≤ 10) : ∃ l d, C6 c (n : Int) = some (l, d) ∧ Cur (k + 40) d ∧ l.length ≤ 11 := by
 unfold C6
 obtain ⟨⟨l, d⟩, e, hl, hd⟩ := Jd (body := Ea (n : Int)) (fun s => ∃ i : Nat, s.1 = (i : Int) ∧ i ≤ n ∧ s.2.1.length = i ∧ Cur (k + 2 * i) s.2.2) (fun s => n - s.1.toNat)
  (fun t => t.1.length = n ∧ Cur (k + 2 * n) t.2) (fun s hs => by
   obtain ⟨x6, x5, x53⟩ := s
   obtain ⟨i, e1, e2, e3, e4⟩ := hs
   simp only at e1 e3 e4
   subst e1
   unfold Ea
   dsimp only
   by_cases hi : i < n
   ·left
    rw [if_pos (by omega), Aa (by unfold InI; omega)]
    obtain ⟨r, d, e5, hd, a1, a2⟩ := Hk e4 (by omega) ((x5.length : Int) + 1)
    simp only [e5, Option.bind_some]
    have hr : r ≤ (x5.length : Int) := by omega
    have ht : (List.take (r.toNat - Int.toNat 0) (List.drop (Int.toNat 0) x5)).length = r.toNat := by simp; omega
    have hd2 : (List.take ((x5.length : Int).toNat - r.toNat) (List.drop r.toNat x5)).length = x5.length - r.toNat := by simp
    have hL := Al
    have h0 : (Ao Int).length = 0 := rfl
    rw [Aa ⟨by omega, a1, hr⟩, Aa (by rw [h0, ht]; omega), Aa (by rw [List.length_append, h0, ht]; simp; omega), Aa ⟨a1, hr, by omega⟩, Aa (by rw [List.length_append, List.length_append, h0, ht, hd2]; simp; omega),
     Aa (by unfold InI; omega)]
    refine ⟨_, rfl, ⟨i + 1, by simp, by omega, ?_, hd.mono (by omega)⟩, ?_⟩
    ·simp only [List.length_append, h0, ht, hd2]; simp; omega
    ·simp only; omega
   ·right
    rw [if_neg (by omega)]
    have : i = n := by omega
    subst this
    exact ⟨_, rfl, e3, e4⟩) (s := (0, Ao Int, c)) ⟨0, by simp, by omega, rfl, h⟩
 simp only at hl hd
 rw [e]
 simp only [Option.bind_some]
 obtain ⟨r, d2, e2, hd2, a1, a2⟩ := Hk hd (by omega) 24
 simp only [e2, Option.bind_some]
 have hL := Al
 by_cases h0 : r = 0
 ·rw [if_pos h0, Aa (by simp; omega)]
  exact ⟨_, _, rfl, hd2.mono (by omega), by simp; omega⟩
 ·rw [if_neg h0]
  by_cases h1 : r = 1
  ·rw [if_pos h1]
   by_cases h3 : (n : Int) > 0
   ·rw [if_pos h3]
    obtain ⟨r3, d3, e3, hd3, b1, b2⟩ := Hk hd2 (by omega) (n : Int)
    simp only [e3, Option.bind_some]
    obtain ⟨r4, d4, e4, hd4, b3⟩ := Tq hd3 (by omega) [0, -1, (n : Int)] (by simp)
    simp only [e4, Option.bind_some]
    rw [Aa (by omega)]
    exact ⟨_, _, rfl, hd4.mono (by omega), by simp; omega⟩
   ·rw [if_neg h3]; exact ⟨_, _, rfl, hd2.mono (by omega), by omega⟩
  ·rw [if_neg h1]; exact ⟨_, _, rfl, hd2.mono (by omega), by omega⟩
def F6 (n : Nat) (ps : List (Int × Int)) : Prop := ∀ z ∈ ps, Aj4 n z
theorem Sz {n : Nat} {ps : List (Int × Int)} (h : F6 n ps) : ∀ i, i < ps.length → Aj4 n (nth ps i) := fun _ hi => h _ (Ar hi)
theorem A06 {n : Nat} {f : List Int} (hf : (f.length : Int) = n ∧ Ay f n ∧ uniq f) {z : Int × Int} (hz : Aj4 n z) : Aj4 n (nth f z.1.toNat, nth f z.2.toNat) := by
 obtain ⟨h1, h2, h3⟩ := hf
 obtain ⟨⟨⟨a1, a2⟩, b1, b2⟩, hne⟩ := hz
 have m1 := h2 _ (Ar (xs := f) (i := z.1.toNat) (by omega))
 have m2 := h2 _ (Ar (xs := f) (i := z.2.toNat) (by omega))
 refine ⟨⟨m1, m2⟩, fun e => ?_⟩
 have key : ∀ i j, i < j → j < f.length → nth f i ≠ nth f j := by
  intro i j hij hj he
  refine h3 j hj ?_
  rw [← he]
  exact List.mem_take_iff_getElem.2 ⟨i, by omega, by rw [Fm (by omega)]⟩
 have hne2 : z.1.toNat ≠ z.2.toNat := by omega
 rcases Nat.lt_or_gt_of_ne hne2 with h4 | h4
 ·exact key _ _ h4 (by omega) e
 ·exact key _ _ h4 (by omega) e.symm
theorem Anx {n : Nat} {f : List Int} (hf : (f.length : Int) = n ∧ Ay f n ∧ uniq f) {body : (Int × List (Int × Int)) → Option ((Int × List (Int × Int)) ⊕ List (Int × Int))} (L : Nat) (hL : L ≤ 1000000)
  (hb : ∀ (i : Nat) (ps : List (Int × Int)), ps.length = L → F6 n ps → body ((i : Int), ps) = if i < L then some (.inl (((i + 1 : Nat) : Int), ps.set i (nth f (nth ps i).1.toNat, nth f (nth ps i).2.toNat))) else some (.inr ps))
  {ps : List (Int × Int)} (h0 : ps.length = L) (hp : F6 n ps) : ∃ t, Ai body (0, ps) = some t ∧ t.length = L ∧ F6 n t := by
 refine Jd (body := body) (fun s => ∃ i : Nat, s.1 = (i : Int) ∧ i ≤ L ∧ s.2.length = L ∧ F6 n s.2) (fun s => L - s.1.toNat) (fun t => t.length = L ∧ F6 n t) (fun s hs => ?_) ⟨0, by simp, by omega, h0, hp⟩
 obtain ⟨x, qs⟩ := s
 obtain ⟨i, e1, e2, e3, e4⟩ := hs
 simp only at e1 e3 e4
 subst e1
 rw [hb i qs e3 e4]
 by_cases hi : i < L
 ·left
  rw [if_pos hi]
  refine ⟨_, rfl, ⟨i + 1, rfl, by omega, by simpa using e3, ?_⟩, by simp only; omega⟩
  intro z hz
  rcases List.mem_or_eq_of_mem_set hz with h1 | h1
  ·exact e4 z h1
  ·subst h1; exact A06 hf (e4 _ (Ar (by omega)))
 ·right
  rw [if_neg hi]
  exact ⟨_, rfl, e3, e4⟩
def Amr (p : SPoset) : Prop := p.Below.length ≤ 20 ∧ ∀ r ∈ p.Below, r.length ≤ 20
theorem Aaf {p : SPoset} (h : Amr p) : small p := ⟨by have := Al; have := h.1; omega, fun r hr => by have := Al; have := h.2 r hr; omega⟩
theorem Anb {n : Nat} (f : Nat → Nat → Bool) (hn : n ≤ 20) : Amr (B5 n f) := ⟨by rw [Dd]; exact hn, fun r hr => Nat.le_trans (Aft r hr) hn⟩
theorem Ake {f : Nat → Nat → Bool} {x y a b : Nat} {v : Bool} (h : f a b = true) (hv : v = true ∨ ¬ (a = x ∧ b = y)) : A2t f x y v a b = true := by
 unfold A2t
 split
 ·rename_i hh
  rcases hv with h1 | h1
  ·exact h1
  ·exact absurd hh h1
 ·exact h
theorem A2w {f : Nat → Nat → Bool} {ps : List (Int × Int)} {a b : Nat} (h : f a b = true) : ∀ k, Azr f ps k a b = true := by
 intro k
 induction k with
 | zero => exact h
 | succ k ih => exact Ake ih (.inl rfl)
theorem A6b {f : Nat → Nat → Bool} {z x a b : Nat} (h : f a b = true) : ∀ y, wy f z x y a b = true := by
 intro y
 induction y with
 | zero => exact h
 | succ y ih =>
   simp only [wy]
   by_cases hh : a = x ∧ b = y
   ·obtain ⟨rfl, rfl⟩ := hh
    exact Ake ih (.inl (by rw [ih]; rfl))
   ·exact Ake ih (.inr hh)
theorem A49 {n : Nat} {f : Nat → Nat → Bool} {z a b : Nat} (h : f a b = true) : ∀ x, wx n f z x a b = true := by
 intro x
 induction x with
 | zero => exact h
 | succ x ih => exact A6b ih n
theorem A5q {n : Nat} {f : Nat → Nat → Bool} {a b : Nat} (h : f a b = true) : ∀ z, wz n f z a b = true := by
 intro z
 induction z with
 | zero => exact h
 | succ z ih => exact A49 ih n
theorem A2v {n : Nat} {ps : List (Int × Int)} {x : Nat} (hx : x < n) : A1h n ps x x = true :=
 A5q (A2w (by unfold dg; exact decide_eq_true ⟨rfl, hx⟩) _) _
theorem Aju {n : Nat} {ps : List (Int × Int)} (hn : n ≤ 10) (h60 : ps.length ≤ 1000) (hok : F6 n ps) : ∃ f, A3 (n : Int) ps = some (B5 n f) ∧ ∀ x, x < n → f x x = true :=
 ⟨_, A2z hn h60 (Sz hok), fun _ hx => A2v hx⟩
theorem A46 {n : Nat} {ps : List (Int × Int)} (h : ps.all (fun z => decide (0 ≤ z.1) && decide (z.1 < (n : Int)) && decide (0 ≤ z.2) && decide (z.2 < (n : Int)) && decide (z.1 ≠ z.2)) = true) : F6 n ps := by
 intro z hz
 have := List.all_eq_true.1 h z hz
 simp only [Bool.and_eq_true, decide_eq_true_eq] at this
 exact ⟨⟨⟨this.1.1.1.1, this.1.1.1.2⟩, this.1.1.2, this.1.2⟩, this.2⟩
theorem A17 : Alb 3 (A1h 3 [(0, 1), (1, 2)]) := by
 have : ∀ x, x < 3 → ∀ y, y < 3 → A1h 3 [(0, 1), (1, 2)] x y = decide (x ≤ y) := by decide
 refine Acg (f := fun x y => decide (x ≤ y)) (fun x y hx hy => (this x hx y hy).symm) fun x hx => ⟨by simp, fun y hy => ⟨fun h => ?_, fun z hz h1 h2 => ?_⟩⟩
 ·obtain ⟨h1, h2, h3⟩ := h
  have h2 := of_decide_eq_true h2
  have h3 := of_decide_eq_true h3
  omega
 ·have h1 := of_decide_eq_true h1
  have h2 := of_decide_eq_true h2
  exact decide_eq_true (by omega)
theorem Azz {k : Int} (_h0 : 0 ≤ k) (_h1 : k < 12) : ∃ n f, n ≤ 9 ∧ Jh k = some (B5 n f) := by
 have from_ : ∀ (n : Nat) (ps : List (Int × Int)) (g : SPoset → Option SPoset), n ≤ 9 → ps.length ≤ 1000 → ps.all (fun z => decide (0 ≤ z.1) && decide (z.1 < (n : Int)) && decide (0 ≤ z.2) && decide (z.2 < (n : Int)) && decide (z.1 ≠ z.2)) = true → (∀ r, g r = some r) →
   ∃ m f, m ≤ 9 ∧ (A3 (n : Int) ps).bind g = some (B5 m f) := by
  intro n ps g hn hl ha hg
  obtain ⟨f, e, _⟩ := Aju (n := n) (ps := ps) (by omega) hl (A46 ha)
  exact ⟨n, f, hn, by rw [e]; exact hg _⟩
 unfold Jh
 by_cases a0 : k = 0
 ·rw [if_pos a0]; exact from_ 1 [] _ (by omega) (by simp) (by decide) (fun _ => rfl)
 rw [if_neg a0]
 by_cases a1 : k = 1
 ·rw [if_pos a1]; exact from_ 2 _ _ (by omega) (by simp) (by decide) (fun _ => rfl)
 rw [if_neg a1]
 by_cases a2 : k = 2
 ·rw [if_pos a2]; exact from_ 4 _ _ (by omega) (by simp) (by decide) (fun _ => rfl)
 rw [if_neg a2]
 by_cases a3 : k = 3
 ·rw [if_pos a3]; exact from_ 4 _ _ (by omega) (by simp) (by decide) (fun _ => rfl)
 rw [if_neg a3]
 by_cases a4 : k = 4
 ·rw [if_pos a4]; exact from_ 5 _ _ (by omega) (by simp) (by decide) (fun _ => rfl)
 rw [if_neg a4]
 by_cases a5 : k = 5
 ·rw [if_pos a5]; exact from_ 5 _ _ (by omega) (by simp) (by decide) (fun _ => rfl)
 rw [if_neg a5]
 by_cases a6 : k = 6
 ·rw [if_pos a6]; exact from_ 8 _ _ (by omega) (by simp) (by decide) (fun _ => rfl)
 rw [if_neg a6]
 by_cases a7 : k = 7
 ·rw [if_pos a7]; exact from_ 6 _ _ (by omega) (by simp) (by decide) (fun _ => rfl)
 rw [if_neg a7]
 by_cases a8 : k = 8
 ·rw [if_pos a8]; exact from_ 6 _ _ (by omega) (by simp) (by decide) (fun _ => rfl)
 rw [if_neg a8]
 by_cases a9 : k = 9
 ·rw [if_pos a9]; exact from_ 7 _ _ (by omega) (by simp) (by decide) (fun _ => rfl)
 rw [if_neg a9]
 by_cases a10 : k = 10
 ·rw [if_pos a10]
  have e : A3 3 [(0, 1), (1, 2)] = some (B5 3 (A1h 3 [(0, 1), (1, 2)])) := A2z (n := 3) (by omega) (by simp) (Sz (A46 (by decide)))
  have hg : good (B5 3 (A1h 3 [(0, 1), (1, 2)])).Below := (Ape (by omega)).2 A17
  rw [e]
  simp only [Option.bind_some]
  rw [Atb hg hg, Dd]
  exact ⟨9, _, by omega, rfl⟩
 rw [if_neg a10]
 exact from_ 3 _ _ (by omega) (by simp) (by decide) (fun _ => rfl)
theorem A1k {n : Nat} {f : Nat → Nat → Bool} {x : Nat} (hx : x < n) {acc : List (Int × Int)} (ha : F6 n acc) : ∀ y, y ≤ n → F6 n (Aez n f x acc y) := by
 intro y
 induction y with
 | zero => intro _; exact ha
 | succ y ih =>
   intro hy
   simp only [Aez]
   split
   ·rename_i hc
    intro z hz
    rcases List.mem_append.1 hz with h1 | h1
    ·exact ih (by omega) z h1
    ·simp at h1
     subst h1
     refine ⟨⟨⟨by simp, by simpa using hx⟩, by simp, by simp; omega⟩, fun e => ?_⟩
     have exy : x = y := by
      have : (x : Int) = (y : Int) := e
      omega
     subst exy
     unfold cov at hc
     have := (of_decide_eq_true hc).1.1
     exact this rfl
   ·exact ih (by omega)
theorem A1e {n : Nat} {f : Nat → Nat → Bool} : ∀ x, x ≤ n → F6 n (Sn n f x) := by
 intro x
 induction x with
 | zero => intro _ z hz; cases hz
 | succ x ih => intro hx; exact A1k (by omega) (ih (by omega)) n (Nat.le_refl _)
open Classical
theorem Az2 {c : Sl1Cur} {k : Nat} (h : Cur k c) (hk : k ≤ 700000000) : ∃ p d, Gx c = some (p, d) ∧ Cur (k + 2000) d ∧ Amr p := by
 have hL := Al
 unfold Gx
 obtain ⟨r1, u2, e1, h2, m1⟩ := Tq h (by omega) [0, 1, 2, 3, 4, 4, 5, 5, 6, 7] (by simp)
 rw [e1]
 simp only [Option.bind_some]
 obtain ⟨n, hn, rfl⟩ : ∃ n : Nat, n ≤ 7 ∧ r1 = (n : Int) := by
  refine ⟨r1.toNat, ?_, ?_⟩ <;> · simp at m1; omega
 clear m1 e1
 obtain ⟨⟨ps, d1⟩, e3, l3, p3, h3⟩ := Jd (body := Ez (n : Int)) (fun s => ∃ i : Nat, s.1 = (i : Int) ∧ i ≤ n ∧ s.2.1.length ≤ 10 * i ∧ F6 n s.2.1 ∧ Cur (k + 2 + 20 * i) s.2.2) (fun s => n - s.1.toNat)
  (fun t => t.1.length ≤ 70 ∧ F6 n t.1 ∧ Cur (k + 200) t.2) (fun s hs => by
   obtain ⟨x5, x4, x147⟩ := s
   obtain ⟨i, e1, e2, e3, e4, e5⟩ := hs
   simp only at e1 e3 e4 e5
   subst e1
   unfold Ez
   dsimp only
   by_cases hi : i < n
   ·left
    rw [if_pos (by omega), Aa (by unfold InI; omega)]
    obtain ⟨⟨qs, d2⟩, f1, f2, f3, f4⟩ := Jd (body := Eu (n : Int) (i : Int)) (fun s => ∃ j : Nat, s.1 = (j : Int) ∧ i < j ∧ j ≤ n ∧ s.2.1.length ≤ 10 * i + j ∧ F6 n s.2.1 ∧ Cur (k + 2 + 20 * i + 2 * j) s.2.2) (fun s => n - s.1.toNat)
     (fun t => t.1.length ≤ 10 * i + 10 ∧ F6 n t.1 ∧ Cur (k + 2 + 20 * i + 20) t.2) (fun s hs => by
      obtain ⟨y6, y4, y147⟩ := s
      obtain ⟨j, g1, g2, g3, g4, g5, g6⟩ := hs
      simp only at g1 g4 g5 g6
      subst g1
      unfold Eu
      dsimp only
      by_cases hj : j < n
      ·left
       rw [if_pos (by omega)]
       obtain ⟨b, d, e6, h6⟩ := Tx g6 (by omega) 3
       simp only [e6, Option.bind_some]
       by_cases hb : b = true
       ·rw [if_pos hb, Aa (by simp; omega), Aa (by unfold InI; omega)]
        refine ⟨_, rfl, ⟨j + 1, rfl, by omega, by omega, by simp; omega, ?_, h6.mono (by omega)⟩, by simp only; omega⟩
        intro z hz
        rcases List.mem_append.1 hz with h1 | h1
        ·exact g5 z h1
        ·simp at h1
         subst h1
         exact ⟨⟨⟨by omega, by omega⟩, by omega, by omega⟩, by simp only; omega⟩
       ·rw [if_neg hb, Aa (by unfold InI; omega)]
        exact ⟨_, rfl, ⟨j + 1, rfl, by omega, by omega, by simp only; omega, g5, h6.mono (by omega)⟩, by simp only; omega⟩
      ·right
       rw [if_neg (by omega)]
       exact ⟨_, rfl, by simp only; omega, g5, g6.mono (by omega)⟩) (s := ((i : Int) + 1, x4, x147)) ⟨i + 1, by simp, by omega, by omega, by simp only; omega, e4, e5.mono (by omega)⟩
    simp only at f2 f3 f4
    rw [f1]
    simp only [Option.bind_some]
    rw [Aa (by unfold InI; omega)]
    exact ⟨_, rfl, ⟨i + 1, rfl, by omega, by simp only; omega, f3, f4.mono (by omega)⟩, by simp only; omega⟩
   ·right
    rw [if_neg (by omega)]
    exact ⟨_, rfl, by simp only; omega, e4, e5.mono (by omega)⟩) (s := (0, Ao (Int × Int), u2)) ⟨0, by simp, by omega, by simp [Ao], (by intro z hz; cases hz), h2⟩
 simp only at l3 p3 h3
 rw [e3]
 simp only [Option.bind_some]
 clear e3
 have names : ∃ qs d, (((C6 d1 (n : Int)).bind fun (r14, u15) =>
   (((H8 r14 (n : Int)).bind fun r16 =>
     if r16 = true then
      (Bn u15 2).bind fun (r18, u19) =>
      some (r18, u19)
     else
      some (false, u15) : Option (Bool × Sl1Cur))).bind fun (q20_44, q20_147) =>
   if q20_44 = true then
   (Ai (Dc (n : Int) r14 q20_147) (0, ps)).bind fun q29_4 =>
   some (q29_4, q20_147)
   else
   some (ps, q20_147) : Option ((List (Int × Int)) × Sl1Cur))) = some (qs, d) ∧ qs.length ≤ 70 ∧ F6 n qs ∧ Cur (k + 300) d := by
  obtain ⟨l, d2, e4, h4, hl4⟩ := Aov h3 (by omega) n (by omega)
  rw [e4]
  simp only [Option.bind_some]
  rw [Avj (by omega) (by omega)]
  simp only [Option.bind_some]
  by_cases hp : (l.length : Int) = n ∧ Ay l n ∧ uniq l
  ·have hpd : (decide ((l.length : Int) = n ∧ Ay l n ∧ uniq l)) = true := decide_eq_true hp
   simp only [hpd, if_true]
   obtain ⟨b, d3, e5, h5⟩ := Tx h4 (by omega) 2
   rw [e5]
   simp only [Option.bind_some]
   by_cases hb : b = true
   ·rw [if_pos hb]
    obtain ⟨t, f1, f2, f3⟩ := Anx hp (body := Dc (n : Int) l d3) ps.length (by omega) (fun i qs hq hqs => by
     unfold Dc
     dsimp only
     by_cases hi : i < ps.length
     ·rw [if_pos (by omega), if_pos hi]
      obtain ⟨⟨⟨a1, a2⟩, a3, a4⟩, _⟩ := Sz hqs i (by omega)
      have hln := hp.1
      repeat rw [Aa (by first | omega | (unfold InI; omega) | (refine ⟨?_, ?_⟩ <;> (simp only [Int.toNat_natCast]; omega)))]
      simp
     ·rw [if_neg (by omega), if_neg hi]) rfl p3
    rw [f1]
    exact ⟨_, _, rfl, by omega, f3, h5.mono (by omega)⟩
   ·rw [if_neg hb]
    exact ⟨_, _, rfl, by omega, p3, h5.mono (by omega)⟩
  ·have hpd : (decide ((l.length : Int) = n ∧ Ay l n ∧ uniq l)) = false := decide_eq_false hp
   simp only [hpd, if_false, Option.bind_some, Bool.false_eq_true]
   exact ⟨_, _, rfl, by omega, p3, h4.mono (by omega)⟩
 obtain ⟨qs, d5, e5, l5, p5, h5⟩ := names
 rw [e5]
 simp only [Option.bind_some]
 clear e5
 obtain ⟨f, e6, hrefl⟩ := Aju (n := n) (ps := qs) (by omega) (by omega) p5
 rw [e6]
 simp only [Option.bind_some]
 have ht : Amr (B5 n f) := Anb f (by omega)
 have hlen : (B5 n f).Below.length = n := Dd
 have hrow : ∀ x, x < n → (nth (B5 n f).Below x).length ≤ n ∧ 0 ≤ (nth (B5 n f).Below x).length := fun x hx => ⟨Aft _ (Ar (by omega)), by omega⟩
 have spoil : ∃ t, ((if (n : Int) = 0 then
    some (.inl d5)
    else
    (Bn d5 16).bind fun (r33, u34) =>
    if r33 = true then
     some (.inr u34)
    else
     some (.inl u34) : Option (Sl1Cur ⊕ Sl1Cur))) = some t ∧ ((∃ d, t = .inl d ∧ Cur (k + 400) d) ∨ (∃ d, t = .inr d ∧ Cur (k + 400) d ∧ n ≠ 0)) := by
  by_cases h0 : (n : Int) = 0
  ·rw [if_pos h0]; exact ⟨_, rfl, .inl ⟨_, rfl, h5.mono (by omega)⟩⟩
  ·rw [if_neg h0]
   obtain ⟨b, d6, e7, h6⟩ := Tx h5 (by omega) 16
   rw [e7]
   simp only [Option.bind_some]
   by_cases hb : b = true
   ·rw [if_pos hb]; exact ⟨_, rfl, .inr ⟨_, rfl, h6.mono (by omega), by omega⟩⟩
   ·rw [if_neg hb]; exact ⟨_, rfl, .inl ⟨_, rfl, h6.mono (by omega)⟩⟩
 obtain ⟨t, e7, ⟨d6, rfl, h6⟩ | ⟨d6, rfl, h6, hn0⟩⟩ := spoil
 ·rw [e7]
  exact ⟨_, _, rfl, h6.mono (by omega), ht⟩
 rw [e7]
 simp only [Option.bind_some]
 obtain ⟨r37, d7, e8, h7, a1, a2⟩ := Hk h6 (by omega) (n : Int)
 rw [e8]
 simp only [Option.bind_some]
 obtain ⟨r39, d8, e9, h8, _, _⟩ := Hk h7 (by omega) 4
 rw [e9]
 simp only [Option.bind_some]
 have hx : r37.toNat < n := by omega
 have hb37 : 0 ≤ r37 ∧ r37 < ((B5 n f).Below.length : Int) := by omega
 have setTiny : ∀ w : List Int, w.length ≤ 20 → Amr ⟨(B5 n f).Below.set r37.toNat w⟩ := by
  intro w hw
  refine ⟨by simpa using ht.1, fun r hr => ?_⟩
  rcases List.mem_or_eq_of_mem_set hr with h1 | h1
  ·exact ht.2 r h1
  ·subst h1; exact hw
 obtain ⟨hr1, _⟩ := hrow _ hx
 have hself : 1 ≤ (nth (B5 n f).Below r37.toNat).length := by
  have : ((r37.toNat : Nat) : Int) ∈ nth (B5 n f).Below r37.toNat := by
   rw [Akd hx]
   exact Bc.2 ⟨r37.toNat, hx, hrefl _ hx, rfl⟩
  exact List.length_pos_of_mem this
 by_cases c0 : r39 = 0
 ·rw [if_pos c0, Aa hb37]
  rw [Aa (by omega), Aa hb37]
  exact ⟨_, _, rfl, h8.mono (by omega), setTiny _ (by simp; omega)⟩
 rw [if_neg c0]
 by_cases c1 : r39 = 1
 ·rw [if_pos c1, Aa hb37, Aa hb37, Aa hb37, Aa (by simp; omega), Aa hb37]
  exact ⟨_, _, rfl, h8.mono (by omega), setTiny _ (by simp; omega)⟩
 rw [if_neg c1]
 by_cases c2 : r39 = 2
 ·rw [if_pos c2, Aa hb37]
  obtain ⟨r51, d9, e10, h9, b1, b2⟩ := Hk h8 (by omega) (n : Int)
  rw [e10]
  simp only [Option.bind_some]
  rw [Akd hx]
  have hz : r51.toNat < n := by omega
  have hput := Am8 (n := n) (by omega) (fun y => f y r37.toNat) hz
  rw [Int.toNat_of_nonneg b1] at hput
  rw [hput]
  simp only [Option.bind_some]
  rw [Aa hb37]
  exact ⟨_, _, rfl, h9.mono (by omega), setTiny _ (Nat.le_trans (Cn _ _) (by omega))⟩
 rw [if_neg c2]
 by_cases c3 : r39 = 3
 ·rw [if_pos c3]
  obtain ⟨⟨p9, d9⟩, e10, g1, g2⟩ := Jd (body := Ev) (fun s => s.1.Below.length ≤ 11 ∧ (∀ r ∈ s.1.Below, r.length ≤ 20) ∧ Cur (k + 500 + 2 * s.1.Below.length) s.2) (fun s => 20 - s.1.Below.length)
   (fun t => Amr t.1 ∧ Cur (k + 2000) t.2) (fun s hs => by
    obtain ⟨q, dq⟩ := s
    obtain ⟨g1, g2, g3⟩ := hs
    simp only at g1 g2 g3
    unfold Ev
    dsimp only
    obtain ⟨r, d, e11, h11, b1, b2⟩ := Hk g3 (by omega) 2
    rw [e11]
    simp only [Option.bind_some]
    rw [Aa (by unfold InI; omega)]
    by_cases hq : (q.Below.length : Int) < 10 + r
    ·left
     rw [if_pos hq, Aa (by simp; omega)]
     refine ⟨_, rfl, ⟨by simp; omega, ?_, h11.mono (by simp; omega)⟩, by simp; omega⟩
     intro row hr
     rcases List.mem_append.1 hr with h1 | h1
     ·exact g2 row h1
     ·simp at h1; subst h1; simp
    ·right
     rw [if_neg hq]
     exact ⟨_, rfl, ⟨by simp only; omega, g2⟩, h11.mono (by omega)⟩) (s := (B5 n f, d8)) ⟨by simp only; omega, ht.2, h8.mono (by omega)⟩
  rw [e10]
  exact ⟨_, _, rfl, g2, g1⟩
 rw [if_neg c3]
 exact ⟨_, _, rfl, h8.mono (by omega), ht⟩
theorem Aid {c : Sl1Cur} {k : Nat} (h : Cur k c) (hk : k ≤ 600000000) : ∃ p d, D1 c = some (p, d) ∧ Cur (k + 3000) d ∧ Amr p := by
 have hL := Al
 unfold D1
 obtain ⟨b, d1, e1, h1⟩ := Tx h (by omega) 10
 rw [e1]
 simp only [Option.bind_some]
 by_cases hb : b = true
 ·rw [if_pos hb]
  obtain ⟨p, d2, e2, h2, ht⟩ := Az2 h1 (by omega)
  rw [e2]
  exact ⟨_, _, rfl, h2.mono (by omega), ht⟩
 rw [if_neg hb]
 obtain ⟨r, d2, e2, h2, a1, a2⟩ := Hk h1 (by omega) 12
 rw [e2]
 simp only [Option.bind_some]
 obtain ⟨n, f, hn, e3⟩ := Azz a1 (by omega)
 rw [e3]
 simp only [Option.bind_some, Dd]
 obtain ⟨l, d3, e4, h4, hl4⟩ := Aov h2 (by omega) n (by omega)
 rw [e4]
 simp only [Option.bind_some]
 have ht : Amr (B5 n f) := Anb f (by omega)
 ·rw [Avj (by omega) (by omega)]
  simp only [Option.bind_some]
  by_cases hp : (l.length : Int) = n ∧ Ay l n ∧ uniq l
  ·have hpd : (decide ((l.length : Int) = n ∧ Ay l n ∧ uniq l)) = true := decide_eq_true hp
   simp only [hpd, if_true]
   obtain ⟨b2, d5, e5, h5⟩ := Tx h4 (by omega) 2
   rw [e5]
   simp only [Option.bind_some]
   by_cases hb2 : b2 = true
   ·rw [if_pos hb2, Awz (Aaf ht) (by rw [Dd]; omega)]
    simp only [Option.bind_some, Dd]
    have hall := A1e (n := n) (f := below (B5 n f).Below) n (Nat.le_refl _)
    have hlen := Asy n (below (B5 n f).Below) n
    have hnn : n * n ≤ 9 * 9 := Nat.mul_le_mul hn hn
    generalize Sn n (below (B5 n f).Below) n = ps at hall hlen
    obtain ⟨t, f1, f2, f3⟩ := Anx hp (body := Du (B5 n f) l d5) ps.length (by omega) (fun i qs hq hqs => by
     unfold Du
     dsimp only
     by_cases hi : i < ps.length
     ·rw [if_pos (by omega), if_pos hi]
      obtain ⟨⟨⟨a1, a2⟩, a3, a4⟩, _⟩ := Sz hqs i (by omega)
      have hln := hp.1
      repeat rw [Aa (by first | omega | (unfold InI; omega) | (refine ⟨?_, ?_⟩ <;> (simp only [Int.toNat_natCast]; omega)))]
      simp
     ·rw [if_neg (by omega), if_neg hi]) rfl hall
    rw [f1]
    simp only [Option.bind_some]
    obtain ⟨g, e6, _⟩ := Aju (n := n) (ps := t) (by omega) (by omega) f3
    rw [e6]
    exact ⟨_, _, rfl, h5.mono (by omega), Anb g (by omega)⟩
   ·rw [if_neg hb2]
    exact ⟨_, _, rfl, h5.mono (by omega), ht⟩
  ·have hpd : (decide ((l.length : Int) = n ∧ Ay l n ∧ uniq l)) = false := decide_eq_false hp
   simp only [hpd, if_false, Option.bind_some, Bool.false_eq_true]
   exact ⟨_, _, rfl, h4.mono (by omega), ht⟩
end Go.Proofs.Ytoikbcagaanhgaa.Ax
namespace Go.Proofs.Ytoikbcagaanhgaa.Ax
open Go Classical
section
variable {n m : Nat} {f g : Nat → Nat → Bool}
theorem A4j {N : Nat} {F : Nat → Nat → Bool} (ho : Ord N F) (w : Nat → Nat → Nat) (h : ∀ x y, x < N → y < N → w x y < N ∧ F (w x y) x = true ∧ F (w x y) y = true ∧ ∀ z, z < N → F z x = true → F z y = true → F z (w x y) = true) : meets N F := by
 intro x y hx hy
 obtain ⟨h1, h2, h3, h4⟩ := h x y hx hy
 have : Xp N F (lo2 F x y) (w x y) := ⟨h1, by unfold lo2; rw [h2, h3]; rfl, fun z hz hl => by
  unfold lo2 at hl
  rw [Bool.and_eq_true] at hl
  exact h4 z hz hl.1 hl.2⟩
 rw [Aot ho this]; omega
end
theorem Abt {n : Nat} {f g : Nat → Nat → Bool} (hg : Ord n g) (h : ∀ x y, x < n → y < n → f x y = g x y) (mf : meets n f) : meets n g := by
 refine A4j hg (fun x y => inf n f x y) fun x y hx hy => ?_
 have i := M2 mf hx hy
 refine ⟨i, ?_, ?_, fun z hz h1 h2 => ?_⟩
 ·rw [← h _ _ i hx]; exact Ai8 mf hx hy
 ·rw [← h _ _ i hy]; exact Ad9 mf hx hy
 ·rw [← h _ _ hz i]; exact Am2 mf hx hy hz (by rw [h _ _ hz hx]; exact h1) (by rw [h _ _ hz hy]; exact h2)
theorem A3j {n : Nat} {f : Nat → Nat → Bool} (h : Ord n f) : Alb n f := by
 intro x hx
 refine ⟨h.refl x hx, fun y hy => ?_⟩
 unfold Atn
 refine ⟨fun hh => ?_, fun z hz hxy hyz => h.trans x y z hx hy hz hxy hyz⟩
 exact hh.1 (h.anti x y hx hy hh.2.1 hh.2.2)
theorem A6z {N : Nat} {F : Nat → Nat → Bool} (hN : N ≤ 10) (h0 : N ≠ 0) (ho : Ord N F) (h1 : meets N F) (h2 : meets N (opp F)) : Bv (B5 N F) := by
 have hg : good (B5 N F).Below := (Ape hN).2 (A3j ho)
 have hob := Is hg
 rw [Dd] at hob
 refine ⟨hg, by rw [Dd]; exact h0, ?_, ?_⟩
 ·rw [Dd]
  exact Abt hob (fun x y hx hy => (Qu hy hx).symm) h1
 ·rw [Dd]
  exact Abt hob.opp (fun x y hx hy => (Qu hx hy).symm) h2
end Go.Proofs.Ytoikbcagaanhgaa.Ax
namespace Go.Proofs.Ytoikbcagaanhgaa.Ax
open Go Classical
section
variable {p q : SPoset}
theorem Aqq (hs : small p) : Iv p = some (decide (Bv p)) := by
 unfold Iv
 by_cases h : Bv p
 ·rw [Ho hs h, decide_eq_true h]; rfl
 ·obtain ⟨l, e⟩ := K8 hs h
  rw [e, decide_eq_false h]
  cases l <;> rfl
end
theorem Aug {xs : List Int} (h : xs.length ≤ LIM) : Ht xs xs = some true := by
 have hL := Al
 unfold Ht
 rw [if_neg (by simp)]
 have := Az (body := Fy xs xs) (fun i => (i : Int)) xs.length (.inr ()) (fun i hi => by
  unfold Fy
  rw [if_pos (by omega)]
  repeat rw [Aa (by first | omega | (unfold InI; omega))]
  rw [if_neg (by simp)]
  rfl) (by
  unfold Fy
  rw [if_neg (by omega)])
 have h0 : Ai (Fy xs xs) 0 = some (.inr ()) := this
 rw [h0]; rfl
theorem Axj {xss : List (List Int)} (h : xss.length ≤ LIM) (h1 : ∀ r ∈ xss, r.length ≤ LIM) : H5 xss xss = some true := by
 have hL := Al
 unfold H5
 rw [if_neg (by simp)]
 have := Az (body := E2 xss xss) (fun i => (i : Int)) xss.length (.inr ()) (fun i hi => by
  unfold E2
  rw [if_pos (by omega)]
  repeat rw [Aa (by first | omega | (unfold InI; omega))]
  rw [Int.toNat_natCast, Aug (h1 _ (Ar hi))]
  simp only [Option.bind_some, if_true]
  rfl) (by
  unfold E2
  rw [if_neg (by omega)])
 have h0 : Ai (E2 xss xss) 0 = some (.inr ()) := this
 rw [h0]; rfl
section
variable {n m : Nat} {f g : Nat → Nat → Bool}
end
end Go.Proofs.Ytoikbcagaanhgaa.Ax
namespace Go.Proofs.Ytoikbcagaanhgaa.Ax
open Go Classical
section
variable {p : SPoset}
theorem Asi (n : Nat) (f : Nat → Nat → Bool) : Gh n f n = (List.range (n * n)).map fun z => bnd n f (lo2 f (z / n) (z % n)) := by
 rw [Asc]
 unfold Gh
 refine Afe fun x hx => ?_
 unfold Abg
 refine List.map_congr_left fun y hy => ?_
 have hy' := List.mem_range.1 hy
 rw [(Vn hy').1, (Vn hy').2]
theorem Awn {n : Nat} {f : Nat → Nat → Bool} {x y : Nat} (hx : x < n) (hy : y < n) : nth (Gh n f n) (x * n + y) = bnd n f (lo2 f x y) := by
 rw [Asi, L2 _ (by simpa using Am0 hx hy), P2 (Am0 hx hy), (Vn hy).1, (Vn hy).2]
theorem Axn {n : Nat} {f : Nat → Nat → Bool} (hm : meets n f) : Ay (Gh n f n) n := by
 intro z hz
 rw [Asi] at hz
 obtain ⟨i, hi, rfl⟩ := List.mem_map.1 hz
 have hi' := List.mem_range.1 hi
 obtain ⟨a, b, ha, hb, rfl⟩ := Auy hi'
 rw [(Vn hb).1, (Vn hb).2]
 have h0 := hm a b ha hb
 have h1 := M2 hm ha hb
 unfold inf at h1
 omega
theorem Aws (h : Bv p) (h8 : p.Below.length ≤ 8) : Aof (Gu p) := by
 have h0 := h.2.1
 refine ⟨by show (1 : Int) ≤ (p.Below.length : Int); omega, by show (p.Below.length : Int) ≤ 8; omega, by simp [Gu], fun f hf => ?_⟩
 have e : (Gu p).Size.toNat = p.Below.length := by simp [Gu]
 rw [e]
 simp only [Gu, List.mem_cons, List.not_mem_nil, or_false] at hf
 rcases hf with rfl | rfl
 ·exact ⟨by simp, by simp, by show (Gh _ _ _).length = _ ^ 2; rw [La, Nat.pow_two], Axn h.2.2.1⟩
 ·exact ⟨by simp, by simp, by show (Gh _ _ _).length = _ ^ 2; rw [La, Nat.pow_two], Axn h.2.2.2⟩
theorem Agd (hs : small p) : ∃ r, C9 p = some r ∧ C8 p = some r ∧ Ad3 r.1 ∧ (r.2 = true → Bv p ∧ p.Below.length ≤ 8 ∧ r.1 = Gu p) := by
 unfold C9 C8
 rw [Aee hs]
 simp only [Option.bind_some]
 by_cases h : Bv p
 ·rw [Ho hs h, decide_eq_true h]
  simp only [Option.bind_some, if_true, K4, Dg]
  by_cases h8 : (p.Below.length : Int) > 8
  ·rw [if_pos h8, if_pos h8]; exact ⟨_, rfl, rfl, Ak5, fun hh => by cases hh⟩
  ·rw [if_neg h8, if_neg h8, At2 hs h, Ag0 h]
   exact ⟨_, rfl, rfl, Axq h, fun _ => ⟨h, by omega, rfl⟩⟩
 ·obtain ⟨l, e⟩ := K8 hs h
  rw [e, decide_eq_false h]
  refine ⟨(⟨0, []⟩, false), by simp, ?_, Ak5, fun hh => by cases hh⟩
  cases l <;> simp
theorem Anm (hs : small p) (h : Bv p) {a b : Nat} (ha : a < p.Below.length) (hb : b < p.Below.length) : Jj p a b = some ((inf p.Below.length (below p.Below) a b : Int), true) := by
 unfold Jj
 rw [Ho hs h]
 have h2 : Ay [(a : Int), (b : Int)] p.Below.length := Aza ha hb
 simp only [Option.bind_some, if_true, K4, A5a, decide_eq_true h2]
 have hl : (Oo p).meets = Xr p.Below.length (below p.Below) := rfl
 have hr : (nth (Xr p.Below.length (below p.Below)) a).length = p.Below.length := Az0 ha
 rw [hl, Int.toNat_natCast, Int.toNat_natCast, Aa (by rw [Ahm]; omega), Aa (by rw [hr]; omega), A2y h.2.2.1 ha hb]
end
theorem A8l {f : SOp} (h : f.Table.length ≤ LIM) : T3 f f = some true := by
 unfold T3
 rw [if_pos rfl, Aug h]; rfl
theorem A7s {fs : List SOp} (h : fs.length ≤ LIM) (h1 : ∀ f ∈ fs, f.Table.length ≤ LIM) : Rt fs fs = some true := by
 have hL := Al
 unfold Rt
 rw [if_neg (by simp)]
 have := Az (body := G2 fs fs) (fun i => (i : Int)) fs.length (.inr ()) (fun i hi => by
  unfold G2
  rw [if_pos (by omega)]
  repeat rw [Aa (by first | omega | (unfold InI; omega))]
  rw [Int.toNat_natCast, A8l (h1 _ (Ar hi))]
  simp only [Option.bind_some, if_true]
  rfl) (by
  unfold G2
  rw [if_neg (by omega)])
 have h0 : Ai (G2 fs fs) 0 = some (.inr ()) := this
 rw [h0]; rfl
theorem Ay5 {a : SAlgebra} (h : Ad3 a) : Hi a a = some true := by
 have hL := Al
 unfold Hi
 rw [if_pos rfl, A7s (by have := h.1; omega) (fun f hf => by have := h.2 f hf; omega)]; rfl
theorem A1m {n : Nat} {f g : Nat → Nat → Bool} (hg : Ord n g) (hm : meets n f) (h : ∀ x y, x < n → y < n → f x y = g x y) {x y : Nat} (hx : x < n) (hy : y < n) : inf n f x y = inf n g x y := by
 have hmg := Abt hg h hm
 have i := M2 hm hx hy
 have j := M2 hmg hx hy
 refine hg.anti _ _ i j (Am2 hmg hx hy i ?_ ?_) ?_
 ·rw [← h _ _ i hx]; exact Ai8 hm hx hy
 ·rw [← h _ _ i hy]; exact Ad9 hm hx hy
 ·rw [← h _ _ j i]
  exact Am2 hm hx hy j (by rw [h _ _ j hx]; exact Ai8 hmg hx hy) (by rw [h _ _ j hy]; exact Ad9 hmg hx hy)
end Go.Proofs.Ytoikbcagaanhgaa.Ax
namespace Go.Proofs.Ytoikbcagaanhgaa.Ax
open Go Classical
theorem Azl {c : Sl1Cur} {k : Nat} (h : Cur k c) (hk : k ≤ 800000000) (p : SPoset) : ∃ r d, Fj c p = some (r, d) ∧ Cur (k + 4) d := by
 unfold Fj
 by_cases h0 : (p.Below.length : Int) = 0
 ·rw [if_pos h0]
  obtain ⟨r, d, e, hd, _⟩ := Tq h (by omega) [-1, (p.Below.length : Int)] (by simp)
  rw [e]
  exact ⟨_, _, rfl, hd.mono (by omega)⟩
 ·rw [if_neg h0]
  obtain ⟨b, d, e, hd⟩ := Tx h (by omega) 24
  rw [e]
  simp only [Option.bind_some]
  by_cases hb : b = true
  ·rw [if_pos hb]
   obtain ⟨r, d2, e2, hd2, _⟩ := Tq hd (by omega) [-1, (p.Below.length : Int)] (by simp)
   rw [e2]
   exact ⟨_, _, rfl, hd2.mono (by omega)⟩
  ·rw [if_neg hb]
   obtain ⟨r, d2, e2, hd2, _⟩ := Hk hd (by omega) (p.Below.length : Int)
   rw [e2]
   exact ⟨_, _, rfl, hd2.mono (by omega)⟩
theorem Ale {c : Sl1Cur} {k : Nat} (h : Cur k c) (hk : k ≤ 700000000) (p : SPoset) : ∃ xs d, Db c p = some (xs, d) ∧ Cur (k + 200) d ∧ xs.length ≤ 21 := by
 have hL := Al
 unfold Db
 obtain ⟨r, d, e, hd, a1, a2⟩ := Hk h (by omega) 24
 rw [e]
 simp only [Option.bind_some]
 have hq : 0 ≤ r.tdiv 11 ∧ r.tdiv 11 ≤ 2 := by
  have : r.tdiv 11 = r / 11 := Int.tdiv_eq_ediv_of_nonneg a1
  omega
 rw [Aa ⟨by omega, by unfold InI; omega⟩, Aa (by unfold InI; omega), Aa (by simp; omega)]
 have hlen : 0 < (List.take ((6 + r.tdiv 11).toNat - Int.toNat 0) (List.drop (Int.toNat 0) ([0, 1, 2, 2, 3, 3, 20, 21] : List Int))).length := by simp; omega
 obtain ⟨m, d2, e2, hd2, hm⟩ := Tq hd (by omega) _ hlen
 rw [e2]
 simp only [Option.bind_some]
 have hmem : m ∈ ([0, 1, 2, 2, 3, 3, 20, 21] : List Int) := List.mem_of_mem_drop (List.mem_of_mem_take hm)
 obtain ⟨t, rfl, ht⟩ : ∃ t : Nat, m = (t : Int) ∧ t ≤ 21 := by
  refine ⟨m.toNat, ?_, ?_⟩ <;> · simp at hmem; omega
 obtain ⟨⟨xs, d3⟩, e3, h3, h4⟩ := Jd (body := De p) (fun s => ∃ j : Nat, s.1 = (j : Int) ∧ s.2.1.length + j ≤ 21 ∧ Cur (k + 4 + 4 * s.2.1.length) s.2.2) (fun s => s.1.toNat) (fun u => u.1.length ≤ 21 ∧ Cur (k + 200) u.2) (fun s hs => by
  obtain ⟨x6, x5, x27⟩ := s
  obtain ⟨j, g1, g2, g3⟩ := hs
  simp only at g1 g2 g3
  subst g1
  unfold De
  dsimp only
  by_cases hj : (j : Int) > 0
  ·left
   rw [if_pos hj]
   obtain ⟨r8, d8, e8, h8⟩ := Azl g3 (by omega) p
   rw [e8]
   simp only [Option.bind_some]
   rw [Aa (by simp; omega), Aa (by unfold InI; omega)]
   exact ⟨_, rfl, ⟨j - 1, by simp only; omega, by simp; omega, h8.mono (by simp; omega)⟩, by simp only; omega⟩
  ·right
   rw [if_neg hj]
   exact ⟨_, rfl, by simp only; omega, g3.mono (by omega)⟩) (s := ((t : Int), Ao Int, d2)) ⟨t, rfl, by simp [Ao]; omega, by simpa [Ao] using hd2.mono (by omega)⟩
 rw [e3]
 exact ⟨_, _, rfl, h4, h3⟩
theorem At4 {code : List Int} (hc : ∀ x ∈ code, 0 ≤ x ∧ x ≤ 255) (hl : code.length ≤ 65536) : ∃ p xs, Gt code = some (p, xs) ∧ Amr p ∧ xs.length ≤ 21 := by
 unfold Gt
 have h0 : Cur 0 ({ code := code, at_ := 0, seed := 0 } : Sl1Cur) := ⟨hc, hl, Int.le_refl _, Int.le_refl _⟩
 obtain ⟨p, d2, e2, h2, hp⟩ := Aid h0 (by omega)
 rw [e2]
 simp only [Option.bind_some]
 obtain ⟨xs, d3, e3, h3, hx⟩ := Ale h2 (by omega) p
 rw [e3]
 exact ⟨_, _, rfl, hp, hx⟩
theorem Yv {code : List Int} (hc : ∀ x ∈ code, 0 ≤ x ∧ x ≤ 255) (hl : code.length ≤ 65536) : ∃ p xs, Bs code = some (p, xs) ∧ Amr p ∧ xs.length ≤ 21 := by
 obtain ⟨p, xs, e, hp, hx⟩ := At4 hc hl
 unfold Bs
 rw [e]
 exact ⟨_, _, rfl, hp, hx⟩
theorem A24 {c : Sl1Cur} {k : Nat} (h : Cur k c) (hk : k ≤ 600000000) {p : SPoset} (hp : Amr p) : ∃ xs d, Gy c p = some (xs, d) ∧ Cur (k + 300) d ∧ xs.length ≤ 21 := by
 have hL := Al
 have hs := Aaf hp
 unfold Gy
 obtain ⟨xs, d, e, hd, hx⟩ := Ale h (by omega) p
 rw [e]
 simp only [Option.bind_some]
 rw [Asv hs xs (by omega)]
 simp only [Option.bind_some]
 by_cases hc : Bv p ∧ xs.length ≤ 20 ∧ Ay xs p.Below.length
 ·rw [decide_eq_true hc, if_pos rfl]
  by_cases h0 : (xs.length : Int) > 0
  ·rw [if_pos h0]
   obtain ⟨b, d2, e2, hd2⟩ := Tx hd (by omega) 8
   rw [e2]
   simp only [Option.bind_some]
   by_cases hb : b = true
   ·rw [if_pos hb]; exact ⟨_, _, rfl, hd2.mono (by omega), hx⟩
   ·rw [if_neg hb]
    have e3 := Age hs hc.1 hc.2.2 (by omega)
    rw [e3]
    exact ⟨_, _, rfl, hd2.mono (by omega), Nat.le_trans (Cn _ _) (by have := hp.1; omega)⟩
  ·rw [if_neg h0]; exact ⟨_, _, rfl, hd.mono (by omega), hx⟩
 ·rw [decide_eq_false hc]
  exact ⟨_, _, rfl, hd.mono (by omega), hx⟩
theorem Ahe {code : List Int} (hc : ∀ x ∈ code, 0 ≤ x ∧ x ≤ 255) (hl : code.length ≤ 65536) : ∃ p xs, Dx code = some (p, xs) ∧ Amr p ∧ xs.length ≤ 21 := by
 unfold Dx
 have h0 : Cur 0 ({ code := code, at_ := 0, seed := 0 } : Sl1Cur) := ⟨hc, hl, Int.le_refl _, Int.le_refl _⟩
 obtain ⟨p, d2, e2, h2, hp⟩ := Aid h0 (by omega)
 rw [e2]
 simp only [Option.bind_some]
 obtain ⟨xs, d3, e3, h3, hx⟩ := A24 h2 (by omega) hp
 rw [e3]
 exact ⟨_, _, rfl, hp, hx⟩
theorem A8d {xs : List Int} (h : xs.length ≤ LIM) (x : Int) : Q7 xs x = some (decide (x ∈ xs)) := by
 have hL := Al
 unfold Q7
 have := Da (body := Fk xs x) (fun i => (i : Int)) xs.length (fun i => nth xs i = x) () () (fun i hi hb => by
  unfold Fk
  rw [if_pos (by omega), Aa (by omega), Int.toNat_natCast, if_neg hb, Aa (by unfold InI; omega)]; rfl) (fun i hi hb => by
  unfold Fk
  rw [if_pos (by omega), Aa (by omega), Int.toNat_natCast, if_pos hb]) (by
  unfold Fk
  rw [if_neg (by omega)]) 0 (by omega)
 have h0 : Ai (Fk xs x) 0 = _ := this
 rw [h0]
 by_cases hx : x ∈ xs
 ·obtain ⟨i, hi, e⟩ := Et.1 hx
  rw [if_pos ⟨i, by omega, hi, e⟩, decide_eq_true hx]; rfl
 ·rw [if_neg (by rintro ⟨i, _, hi, e⟩; exact hx (e ▸ Ar hi)), decide_eq_false hx]; rfl
theorem A1n {xs ys : List Int} (h : xs.length ≤ LIM) (h2 : ys.length ≤ LIM) (hin : ∀ x ∈ xs, x ∈ ys) : Iq xs ys = some true := by
 have hL := Al
 unfold Iq
 have := Az (body := D4 xs ys) (fun i => (i : Int)) xs.length (.inr ()) (fun i hi => by
  unfold D4
  rw [if_pos (by omega), Aa (by omega), Int.toNat_natCast, A8d h2, decide_eq_true (hin _ (Ar hi))]
  simp only [Option.bind_some, if_true]
  rw [Aa (by unfold InI; omega)]; rfl) (by
  unfold D4
  rw [if_neg (by omega)])
 have h0 : Ai (D4 xs ys) 0 = some (.inr ()) := this
 rw [h0]; rfl
end Go.Proofs.Ytoikbcagaanhgaa.Ax
namespace Go.Proofs.Ytoikbcagaanhgaa.Ax
open Go Classical
def Kk (n r k : Nat) (S : Nat → Bool) : Prop := ∀ x ∈ Zn n r k, S x.toNat = true
theorem Acn {n r k : Nat} {S T : Nat → Bool} (h : ∀ z, S z = true → T z = true) (hi : Kk n r k S) : Kk n r k T := fun x hx => h _ (hi x hx)
def Zz (a : SAlgebra) (i k : Nat) : Nat := (nth (nth a.Ops i).Table k).toNat
def Ub (a : SAlgebra) (i k : Nat) (S : Nat → Bool) : Prop := Kk a.Size.toNat (nth a.Ops i).Arity.toNat k S
def Mn (a : SAlgebra) (S : Nat → Bool) : Prop := ∀ i, i < a.Ops.length → ∀ k, k < (nth a.Ops i).Table.length → Ub a i k S → S (Zz a i k) = true
noncomputable def Ry (a : SAlgebra) (S : Nat → Bool) : Nat → Bool := fun z => decide (∀ T : Nat → Bool, (∀ x, S x = true → T x = true) → Mn a T → T z = true)
theorem Xs {a : SAlgebra} {S : Nat → Bool} (z : Nat) (h : S z = true) : Ry a S z = true := decide_eq_true fun _ hT _ => hT z h
theorem Acd {a : SAlgebra} {S : Nat → Bool} : Mn a (Ry a S) := by
 intro i hi k hk ha
 refine decide_eq_true fun T hT hc => ?_
 exact hc i hi k hk fun x hx => of_decide_eq_true (ha x hx) T hT hc
theorem Agm {a : SAlgebra} {S T : Nat → Bool} (hT : ∀ x, S x = true → T x = true) (hc : Mn a T) (z : Nat) (h : Ry a S z = true) : T z = true := of_decide_eq_true h T hT hc
theorem A2h {a : SAlgebra} {S : Nat → Bool} (hc : Mn a S) : Ry a S = S := by
 funext z
 cases h : S z with
 | true => exact Xs z h
 | false =>
   cases h2 : Ry a S z with
   | false => rfl
   | true => rw [Agm (fun _ h => h) hc z h2] at h; cases h
def Agc (H : List Bool) : Nat := H.count true
theorem A0e (H : List Bool) : Agc H ≤ H.length := List.count_le_length
theorem Anu {H : List Bool} {v z : Nat} (hv : v < H.length) : nth (H.set v true) z = true ↔ z = v ∨ nth H z = true := by
 by_cases hz : z < H.length
 ·rw [At7 _ _ _ _ hz]
  by_cases e : v = z
  ·subst e; simp
  ·rw [if_neg e]
   exact ⟨.inr, fun h => h.resolve_left (Ne.symm e)⟩
 ·have h1 : nth H z = false := by rw [Aud, List.getD_eq_getElem?_getD, List.getElem?_eq_none (by omega)]; rfl
  have h2 : nth (H.set v true) z = false := by rw [Aud, List.getD_eq_getElem?_getD, List.getElem?_eq_none (by simp; omega)]; rfl
  rw [h1, h2]
  constructor
  ·intro h; cases h
  ·rintro (h | h)
   ·omega
   ·cases h
theorem A4f {H : List Bool} {v : Nat} (hv : v < H.length) (h : nth H v = false) : Agc (H.set v true) = Agc H + 1 := by
 unfold Agc
 rw [List.count_set hv]
 rw [Fm hv] at h
 rw [h]; simp
theorem A0j {H : List Bool} {z : Nat} (h : nth H z = true) : z < H.length := by
 apply Classical.byContradiction
 intro hc
 rw [Aud, List.getD_eq_getElem?_getD, List.getElem?_eq_none (by omega)] at h
 cases h
theorem A1y {H K : List Bool} (hl : H.length = K.length) (h : ∀ z, nth H z = true → nth K z = true) : Agc H ≤ Agc K ∧ (Agc K ≤ Agc H → H = K) := by
 induction H generalizing K with
 | nil => cases K with
   | nil => exact ⟨Nat.le_refl _, fun _ => rfl⟩
   | cons => simp at hl
 | cons x r ih =>
   cases K with
   | nil => simp at hl
   | cons y s =>
     have hl' : r.length = s.length := by simpa using hl
     obtain ⟨h1, h2⟩ := ih hl' fun z hz => h (z + 1) hz
     have h0 : x = true → y = true := fun hx => h 0 hx
     unfold Agc at *
     cases x <;> cases y
     ·simp only [List.count_cons]
      exact ⟨by simpa using h1, fun hh => by rw [h2 (by simpa using hh)]⟩
     ·simp only [List.count_cons]
      refine ⟨by simp; omega, fun hh => ?_⟩
      simp at hh; omega
     ·exact absurd (h0 rfl) (by simp)
     ·simp only [List.count_cons]
      exact ⟨by simpa using h1, fun hh => by rw [h2 (by simpa using hh)]⟩
section
variable {a : SAlgebra}
structure ReadyA (a : SAlgebra) (n : Nat) : Prop where
 good : Aof a
 sz : a.Size = (n : Int)
 pos : 0 < n
 le : n ≤ 8
theorem A41 (hg : Aof a) : ReadyA a a.Size.toNat := ⟨hg, by have := hg.1; omega, by have := hg.1; omega, by have := hg.2.1; omega⟩
theorem ReadyA.nat {n : Nat} (h : ReadyA a n) : a.Size.toNat = n := by have := h.sz; omega
theorem ReadyA.op {n : Nat} (h : ReadyA a n) {i : Nat} (hi : i < a.Ops.length) : ∃ r : Nat, (nth a.Ops i).Arity = (r : Int) ∧ r ≤ 3 ∧ (nth a.Ops i).Table.length = n ^ r ∧ Ay (nth a.Ops i).Table n ∧ (nth a.Ops i).Table.length ≤ 512 ∧ (∀ k S, Ub a i k S ↔ Kk n r k S) := by
 have := h.good.2.2.2 _ (Ar hi)
 rw [h.nat] at this
 obtain ⟨h1, h2, h3, h4⟩ := this
 refine ⟨(nth a.Ops i).Arity.toNat, by omega, by omega, h3, h4, ?_, fun k S => by unfold Ub; rw [h.nat]⟩
 rw [h3]; exact Aoo h.le (by omega)
theorem ReadyA.val {n : Nat} (h : ReadyA a n) {i k : Nat} (hi : i < a.Ops.length) (hk : k < (nth a.Ops i).Table.length) : nth (nth a.Ops i).Table k = (Zz a i k : Int) ∧ Zz a i k < n := by
 obtain ⟨r, _, _, _, h4, _⟩ := h.op hi
 have := h4 _ (Ar hk)
 unfold Zz
 omega
theorem A4h {n : Nat} (hn : 0 < n) (H : List Bool) (hH : H.length = n) (hn8 : n ≤ 8) : ∀ (r k : Nat), r ≤ 3 → k ≤ 1048576 → Ai (Ep (n : Int) H) ((k : Int), (r : Int)) = some (if Kk n r k (nth H) then .inr () else .inl ()) := by
 intro r
 induction r with
 | zero =>
   intro k _ _
   rw [if_pos (by intro x hx; cases hx)]
   refine I9 ?_
   unfold Ep
   dsimp only
   rw [if_neg (by omega)]
 | succ r ih =>
   intro k hr hk
   have c1 : (k : Int).tdiv (n : Int) = ((k / n : Nat) : Int) := rfl
   have c2 : (k : Int).tmod (n : Int) = ((k % n : Nat) : Int) := rfl
   have hd : k / n ≤ k := Nat.div_le_self k n
   have hm : k % n < n := Nat.mod_lt k hn
   have ea : Kk n (r + 1) k (nth H) ↔ Kk n r (k / n) (nth H) ∧ nth H (k % n) = true := by
    unfold Kk
    simp only [Zn, List.mem_append, List.mem_singleton]
    constructor
    ·intro h
     exact ⟨fun x hx => h x (.inl hx), h ((k % n : Nat) : Int) (.inr rfl)⟩
    ·rintro ⟨h1, h2⟩ x (hx | rfl)
     ·exact h1 x hx
     ·exact h2
   by_cases hb : nth H (k % n) = true
   ·have step : Ep (n : Int) H ((k : Int), ((r + 1 : Nat) : Int)) = some (.inl (((k / n : Nat) : Int), (r : Int))) := by
     unfold Ep
     dsimp only
     rw [c1, c2]
     generalize k / n = kd at hd
     rw [if_pos (by omega), Aa (by omega), Aa (by omega), Int.toNat_natCast, if_pos hb, Aa (by unfold InI; omega), Aa (by unfold InI; omega)]
     congr 3; omega
    rw [Kt step, ih _ (by omega) (by omega)]
    congr 1
    by_cases h1 : Kk n r (k / n) (nth H)
    ·rw [if_pos h1, if_pos (ea.2 ⟨h1, hb⟩)]
    ·rw [if_neg h1, if_neg (fun h => h1 (ea.1 h).1)]
   ·rw [if_neg (fun h => hb (ea.1 h).2)]
    refine I9 ?_
    unfold Ep
    dsimp only
    rw [c2, if_pos (by omega), Aa (by omega), Aa (by omega), Int.toNat_natCast, if_neg hb]
theorem A5t {n : Nat} (hn : 0 < n) (hn8 : n ≤ 8) {H : List Bool} (hH : H.length = n) {r k : Nat} (hr : r ≤ 3) (hk : k ≤ 1048576) : Ob k r n H = some (decide (Kk n r k (nth H))) := by
 unfold Ob
 rw [A4h hn H hH hn8 r k hr hk]
 by_cases h : Kk n r k (nth H)
 ·rw [if_pos h, decide_eq_true h]; rfl
 ·rw [if_neg h, decide_eq_false h]; rfl
structure Pass (n : Nat) (G : Nat → Bool) (c0 : Bool) (H0 : List Bool) (c : Bool) (H : List Bool) (done : (Nat → Bool) → Prop) : Prop where
 len : H.length = n
 more : ∀ z, nth H0 z = true → nth H z = true
 low : ∀ z, nth H z = true → G z = true
 up : c = true → c0 = true ∨ Agc H0 < Agc H
 no : c = false → c0 = false ∧ H = H0 ∧ done (nth H)
 mono : Agc H0 ≤ Agc H
theorem A8c {n : Nat} (h : ReadyA a n) {S : Nat → Bool} {i : Nat} (hi : i < a.Ops.length) {H0 : List Bool} (hl : H0.length = n) (hlow : ∀ z, nth H0 z = true → Ry a S z = true) (c0 : Bool) :
  ∃ t, Ai (Ds a (i : Int)) (0, c0, H0) = some t ∧ Pass n (Ry a S) c0 H0 t.1 t.2 (fun T => ∀ k, k < (nth a.Ops i).Table.length → Ub a i k T → T (Zz a i k) = true) := by
 obtain ⟨r, hr, hr3, _, htab, h512, hargs⟩ := h.op hi
 refine Jd (body := Ds a (i : Int)) (fun s => ∃ k : Nat, s.1 = (k : Int) ∧ k ≤ (nth a.Ops i).Table.length ∧ Pass n (Ry a S) c0 H0 s.2.1 s.2.2 (fun T => ∀ j, j < k → Ub a i j T → T (Zz a i j) = true))
  (fun s => (nth a.Ops i).Table.length - s.1.toNat) _ (fun s hs => ?_) ⟨0, rfl, Nat.zero_le _, hl, fun _ h => h, hlow, fun h => .inl h, fun h => ⟨h, rfl, fun j hj => absurd hj (Nat.not_lt_zero _)⟩, Nat.le_refl _⟩
 obtain ⟨x, c, H⟩ := s
 obtain ⟨k, hk, hkl, hp⟩ := hs
 simp only at hk hkl hp
 subst hk
 unfold Ds
 dsimp only
 rw [Int.toNat_natCast]
 by_cases hlt : k < (nth a.Ops i).Table.length
 ·left
  obtain ⟨ev, hv⟩ := h.val hi hlt
  rw [if_pos (by omega), Aa (by omega), Int.toNat_natCast, ev, Aa (by rw [hp.len]; omega), Int.toNat_natCast]
  by_cases hm : nth H (Zz a i k) = true
  ·rw [if_pos hm, Aa (by unfold InI; omega)]
   refine ⟨_, rfl, ⟨k + 1, rfl, hlt, hp.len, hp.more, hp.low, hp.up, fun hc => ?_, hp.mono⟩, by simp only; omega⟩
   obtain ⟨h1, h2, h3⟩ := hp.no hc
   refine ⟨h1, h2, fun j hj ha => ?_⟩
   by_cases e : j = k
   ·subst e; exact hm
   ·exact h3 j (by omega) ha
  ·rw [if_neg hm, hr, h.sz, A5t h.pos h.le hp.len hr3 (by omega)]
   simp only [Option.bind_some]
   by_cases ha : Kk n r k (nth H)
   ·rw [decide_eq_true ha, if_pos rfl, Aa (by rw [hp.len]; omega), Aa (by unfold InI; omega)]
    have hvl : Zz a i k < H.length := by rw [hp.len]; exact hv
    have hcs := A4f hvl (by simpa using hm)
    refine ⟨_, rfl, ⟨k + 1, rfl, hlt, by rw [List.length_set]; exact hp.len, fun z hz => (Anu hvl).2 (.inr (hp.more z hz)), fun z hz => ?_, fun _ => .inr (by have := hp.mono; simp only; omega), fun hc => (by cases hc), by have := hp.mono; simp only; omega⟩, by simp only; omega⟩
    rcases (Anu hvl).1 hz with rfl | hz
    ·exact Acd i hi k hlt ((hargs k _).2 (Acn hp.low ha))
    ·exact hp.low z hz
   ·rw [decide_eq_false ha, if_neg (by simp), Aa (by unfold InI; omega)]
    refine ⟨_, rfl, ⟨k + 1, rfl, hlt, hp.len, hp.more, hp.low, hp.up, fun hc => ?_, hp.mono⟩, by simp only; omega⟩
    obtain ⟨h1, h2, h3⟩ := hp.no hc
    refine ⟨h1, h2, fun j hj hb => ?_⟩
    by_cases e : j = k
    ·subst e; exact absurd ((hargs _ _).1 hb) ha
    ·exact h3 j (by omega) hb
 ·right
  rw [if_neg (by omega)]
  have e : k = (nth a.Ops i).Table.length := by omega
  subst e
  exact ⟨_, rfl, hp⟩
theorem A7n {n : Nat} (h : ReadyA a n) {S : Nat → Bool} {H0 : List Bool} (hl : H0.length = n) (hlow : ∀ z, nth H0 z = true → Ry a S z = true) :
  ∃ t, Ai (D0 a) (0, false, H0) = some t ∧ Pass n (Ry a S) false H0 t.1 t.2 (fun T => Mn a T) := by
 have h4 := h.good.2.2.1
 refine Jd (body := D0 a) (fun s => ∃ i : Nat, s.1 = (i : Int) ∧ i ≤ a.Ops.length ∧ Pass n (Ry a S) false H0 s.2.1 s.2.2 (fun T => ∀ j, j < i → ∀ k, k < (nth a.Ops j).Table.length → Ub a j k T → T (Zz a j k) = true))
  (fun s => a.Ops.length - s.1.toNat) _ (fun s hs => ?_) ⟨0, rfl, Nat.zero_le _, hl, fun _ h => h, hlow, fun h => .inl h, fun h => ⟨h, rfl, fun j hj => absurd hj (Nat.not_lt_zero _)⟩, Nat.le_refl _⟩
 obtain ⟨x, c, H⟩ := s
 obtain ⟨i, hi, hil, hp⟩ := hs
 simp only at hi hil hp
 subst hi
 unfold D0
 dsimp only
 by_cases hlt : i < a.Ops.length
 ·left
  obtain ⟨⟨c1, H1⟩, e1, hq⟩ := A8c h hlt hp.len hp.low c
  rw [if_pos (by omega), Aa (by omega), e1]
  simp only [Option.bind_some]
  rw [Aa (by unfold InI; omega)]
  refine ⟨_, rfl, ⟨i + 1, rfl, hlt, hq.len, fun z hz => hq.more z (hp.more z hz), hq.low, fun hc => ?_, fun hc => ?_, Nat.le_trans hp.mono hq.mono⟩, by simp only; omega⟩
  ·rcases hq.up hc with h1 | h1
   ·rcases hp.up h1 with h2 | h2
    ·exact .inl h2
    ·exact .inr (Nat.lt_of_lt_of_le h2 hq.mono)
   ·exact .inr (Nat.lt_of_le_of_lt hp.mono h1)
  ·obtain ⟨h1, h2, h3⟩ := hq.no hc
   obtain ⟨g1, g2, g3⟩ := hp.no h1
   refine ⟨g1, by simp only at h2 ⊢; rw [h2]; exact g2, fun j hj => ?_⟩
   by_cases e : j = i
   ·subst e; exact h3
   ·simp only at h2
    simp only [h2]
    exact g3 j (by omega)
 ·right
  rw [if_neg (by omega)]
  have e : i = a.Ops.length := by omega
  subst e
  exact ⟨_, rfl, hp⟩
theorem Atq {n : Nat} (h : ReadyA a n) (S : Nat → Bool) (hS : ∀ z, S z = true → z < n) : Hu a (F5 n S) = some (F5 n (Ry a S)) := by
 have hb := Mh n S
 have hin : ∀ z, nth (F5 n S) z = true ↔ S z = true := fun z => by
  constructor
  ·intro hz
   have hl := A0j hz
   rw [hb] at hl
   rwa [Ld hl] at hz
  ·intro hz; rw [Ld (hS z hz)]; exact hz
 unfold Hu
 obtain ⟨H, e, h1, h2, h3, h4⟩ := Jd (body := Fn a) (fun s => s.2.length = n ∧ (∀ z, S z = true → nth s.2 z = true) ∧ (∀ z, nth s.2 z = true → Ry a S z = true) ∧ (s.1 = false → Mn a (nth s.2)))
  (fun s => (n - Agc s.2) + (if s.1 then 1 else 0)) (fun H => H.length = n ∧ (∀ z, S z = true → nth H z = true) ∧ (∀ z, nth H z = true → Ry a S z = true) ∧ Mn a (nth H)) (fun s hs => by
  obtain ⟨c, H⟩ := s
  obtain ⟨h1, h2, h3, h4⟩ := hs
  simp only at h1 h2 h3 h4
  unfold Fn
  dsimp only
  cases c with
  | true =>
    left
    obtain ⟨⟨c1, H1⟩, e1, hq⟩ := A7n h h1 h3
    rw [if_pos rfl, e1]
    refine ⟨_, rfl, ⟨hq.len, fun z hz => hq.more z (h2 z hz), hq.low, fun hc => (hq.no hc).2.2⟩, ?_⟩
    have l1 := A0e H1
    rw [hq.len] at l1
    cases c1 with
    | true =>
      rcases hq.up rfl with h5 | h5
      ·cases h5
      ·simp only at h5 ⊢; simp; omega
    | false =>
      have := (hq.no rfl).2.1
      simp only at this
      subst this
      simp
  | false =>
    right
    rw [if_neg (by simp)]
    exact ⟨_, rfl, h1, h2, h3, h4 rfl⟩) (s := (true, F5 n S)) ⟨hb, fun z hz => (hin z).2 hz, fun z hz => Xs z ((hin z).1 hz), fun hc => by cases hc⟩
 rw [e]
 simp only [Option.bind_some]
 refine congrArg some (Zc (by rw [h1, Mh]) fun z hz => ?_)
 rw [h1] at hz
 rw [Ld hz]
 cases hh : Ry a S z with
 | true => exact Agm h2 h4 z hh
 | false =>
   cases h5 : nth H z with
   | false => rfl
   | true => rw [h3 z h5] at hh; cases hh
theorem Azk {n : Nat} (h : ReadyA a n) {xs : List Int} (hx : Ay xs n) (hl : xs.length ≤ LIM) : Ja a xs = some (Aj n (Ry a fun z => decide ((z : Int) ∈ xs))) := by
 have hL := Al
 have h8 := h.le
 unfold Ja
 rw [h.sz, Atx (by omega) hx hl]
 simp only [Option.bind_some]
 rw [Atq h _ (fun z hz => by have := hx _ (of_decide_eq_true hz); omega)]
 simp only [Option.bind_some]
 rw [Aiq (by omega)]; rfl
theorem A6t {n : Nat} (G : Nat → Bool) {xs : List Int} (hx : Ay xs n) (hr : Ic xs) (hG : ∀ z : Nat, (z : Int) ∈ xs → G z = true) : (Aj n G).length = xs.length ↔ Aj n G = xs := by
 constructor
 ·intro hl
  have e := Mx hx hr
  rw [← e] at hl
  refine Eq.trans (Nm fun z hz => ?_) e
  cases h1 : G z with
  | false =>
    cases h2 : decide ((z : Int) ∈ xs) with
    | false => rfl
    | true => rw [hG z (of_decide_eq_true h2)] at h1; cases h1
  | true =>
    cases h2 : decide ((z : Int) ∈ xs) with
    | true => rfl
    | false =>
      have := Ano (q := fun z => decide ((z : Int) ∈ xs)) h2 h1 n hz fun i _ hi => hG i (of_decide_eq_true hi)
      rw [e] at this
      rw [e] at hl
      omega
 ·intro h1; rw [h1]
def Agi (a : SAlgebra) (n : Nat) (xs : List Int) : Prop := Ay xs n ∧ Ic xs ∧ Aj n (Ry a fun z => decide ((z : Int) ∈ xs)) = xs
theorem A6u {n : Nat} (h : ReadyA a n) {xs : List Int} (hl : xs.length ≤ LIM) : N1 a xs = some (decide (Agi a n xs)) := by
 unfold N1
 rw [h.sz, Ab1 _ _ hl]
 simp only [Option.bind_some]
 by_cases hx : Ay xs n
 ·rw [decide_eq_true hx, if_pos rfl, Amz _ hl]
  simp only [Option.bind_some]
  by_cases hr : Ic xs
  ·rw [decide_eq_true hr, if_pos rfl, Azk h hx hl]
   simp only [Option.bind_some]
   congr 1
   rw [Bool.eq_iff_iff, beq_iff_eq, decide_eq_true_eq]
   have := A6t (Ry a fun z => decide ((z : Int) ∈ xs)) hx hr fun z hz => Xs z (decide_eq_true hz)
   constructor
   ·intro e; exact ⟨hx, hr, this.1 (by omega)⟩
   ·intro e; have := this.2 e.2.2; omega
  ·rw [decide_eq_false hr, if_neg (by simp), decide_eq_false (fun hc => hr hc.2.1)]
 ·rw [decide_eq_false hx, if_neg (by simp), decide_eq_false (fun hc => hx hc.1)]
theorem Ahy {n : Nat} (h : ReadyA a n) (hs : Ad3 a) {xs : List Int} (hl : xs.length ≤ LIM) : Dw a xs = some (decide (Agi a n xs), true) := by
 unfold Dw
 rw [Axv hs, decide_eq_true h.good]
 simp only [Option.bind_some, if_true]
 rw [A6u h hl]; rfl
theorem A8q {n : Nat} {H : List Bool} (hH : H.length = n) {x6 x7 : Int} {o : List Bool} {xs : List Int} (hx : Ay xs n) (hl : xs.length ≤ 3) :
  Ai (E3 a H x6 x7 o xs) (0, true) = some (decide (∀ x ∈ xs, nth H x.toNat = true)) := by
 have key := Az (body := E3 a H x6 x7 o xs) (fun i => ((i : Int), decide (∀ x ∈ xs.take i, nth H x.toNat = true))) xs.length (decide (∀ x ∈ xs, nth H x.toNat = true)) (fun i hi => by
  have hc := hx _ (Ar hi)
  have ht := L8 hi
  unfold E3
  dsimp only
  rw [if_pos (by omega)]
  by_cases hb : ∀ x ∈ xs.take i, nth H x.toNat = true
  ·rw [decide_eq_true hb, if_pos rfl, Aa (by omega), Int.toNat_natCast, Aa (by rw [hH]; omega), Aa (by unfold InI; omega)]
   congr 3
   rw [ht, Bool.eq_iff_iff, decide_eq_true_eq]
   constructor
   ·intro h1 x hm
    rcases List.mem_append.1 hm with hm | hm
    ·exact hb x hm
    ·rw [List.mem_singleton.1 hm]; exact h1
   ·intro h1; exact h1 _ (by simp)
  ·rw [decide_eq_false hb, if_neg (by simp), Aa (by unfold InI; omega)]
   congr 3
   refine (decide_eq_false fun h1 => hb fun x hm => h1 x ?_).symm
   rw [ht]; exact List.mem_append_left _ hm) (by
  unfold E3
  dsimp only
  rw [if_neg (by omega), List.take_length])
 simpa using key
theorem A8o {n : Nat} (h : ReadyA a n) {H : List Bool} (hH : H.length = n) {i : Nat} (hi : i < a.Ops.length) {H0 : List Bool} (hl : H0.length = n) :
  ∃ K, Ai (Gp a H (i : Int)) (0, H0) = some K ∧ K.length = n ∧ ∀ z, nth K z = true ↔ nth H0 z = true ∨ ∃ k, k < (nth a.Ops i).Table.length ∧ Ub a i k (nth H) ∧ z = Zz a i k := by
 obtain ⟨r, hr, hr3, _, htab, h512, hargs⟩ := h.op hi
 refine Jd (body := Gp a H (i : Int)) (fun s => ∃ k : Nat, s.1 = (k : Int) ∧ k ≤ (nth a.Ops i).Table.length ∧ s.2.length = n ∧ ∀ z, nth s.2 z = true ↔ nth H0 z = true ∨ ∃ j, j < k ∧ Ub a i j (nth H) ∧ z = Zz a i j)
  (fun s => (nth a.Ops i).Table.length - s.1.toNat) _ (fun s hs => ?_) ⟨0, rfl, Nat.zero_le _, hl, fun z => ⟨.inl, fun hz => hz.resolve_right (by rintro ⟨j, hj, _⟩; omega)⟩⟩
 obtain ⟨x, K⟩ := s
 obtain ⟨k, hk, hkl, h1, h2⟩ := hs
 simp only at hk hkl h1 h2
 subst hk
 unfold Gp
 dsimp only
 rw [Aa (by omega), Int.toNat_natCast]
 by_cases hlt : k < (nth a.Ops i).Table.length
 ·left
  obtain ⟨ev, hv⟩ := h.val hi hlt
  have hal := Ap4 n r k
  rw [if_pos (by omega), Aa (by omega), hr, h.sz, A3g h.pos h.le hr3 (by omega)]
  simp only [Option.bind_some]
  rw [A8q hH (A0a h.pos r k) (by omega)]
  simp only [Option.bind_some]
  by_cases ha : Kk n r k (nth H)
  ·rw [decide_eq_true (show ∀ x ∈ Zn n r k, nth H x.toNat = true from ha), if_pos rfl, Aa (by omega), Aa (by omega), Int.toNat_natCast, ev, Aa (by rw [h1]; omega), Int.toNat_natCast, Aa (by unfold InI; omega)]
   have hvl : Zz a i k < K.length := by rw [h1]; exact hv
   refine ⟨_, rfl, ⟨k + 1, rfl, hlt, by rw [List.length_set]; exact h1, fun z => ?_⟩, by simp only; omega⟩
   rw [Anu hvl, h2]
   constructor
   ·rintro (rfl | hz | ⟨j, hj, hb, e⟩)
    ·exact .inr ⟨k, by omega, (hargs _ _).2 ha, rfl⟩
    ·exact .inl hz
    ·exact .inr ⟨j, by omega, hb, e⟩
   ·rintro (hz | ⟨j, hj, hb, e⟩)
    ·exact .inr (.inl hz)
    ·by_cases ej : j = k
     ·subst ej; exact .inl e
     ·exact .inr (.inr ⟨j, by omega, hb, e⟩)
  ·rw [decide_eq_false (show ¬ ∀ x ∈ Zn n r k, nth H x.toNat = true from ha), if_neg (by simp), Aa (by unfold InI; omega)]
   refine ⟨_, rfl, ⟨k + 1, rfl, hlt, h1, fun z => ?_⟩, by simp only; omega⟩
   simp only
   rw [h2]
   constructor
   ·rintro (hz | ⟨j, hj, hb, e⟩)
    ·exact .inl hz
    ·exact .inr ⟨j, by omega, hb, e⟩
   ·rintro (hz | ⟨j, hj, hb, e⟩)
    ·exact .inl hz
    ·by_cases ej : j = k
     ·subst ej; exact absurd ((hargs _ _).1 hb) ha
     ·exact .inr ⟨j, by omega, hb, e⟩
 ·right
  rw [if_neg (by omega)]
  have e : k = (nth a.Ops i).Table.length := by omega
  subst e
  exact ⟨_, rfl, h1, h2⟩
theorem A3y {n : Nat} (h : ReadyA a n) {H : List Bool} (hH : H.length = n) :
  ∃ K, L6 a H = some K ∧ K.length = n ∧ ∀ z, nth K z = true ↔ nth H z = true ∨ ∃ i k, i < a.Ops.length ∧ k < (nth a.Ops i).Table.length ∧ Ub a i k (nth H) ∧ z = Zz a i k := by
 have hL := Al
 have h4 := h.good.2.2.1
 have h8 := h.le
 unfold L6
 rw [Aa (by simp only [List.length_nil]; omega)]
 obtain ⟨K, e, h1, h2⟩ := Jd (body := Iz a H) (fun s => ∃ i : Nat, s.1 = (i : Int) ∧ i ≤ a.Ops.length ∧ s.2.length = n ∧ ∀ z, nth s.2 z = true ↔ nth H z = true ∨ ∃ j k, j < i ∧ k < (nth a.Ops j).Table.length ∧ Ub a j k (nth H) ∧ z = Zz a j k)
  (fun s => a.Ops.length - s.1.toNat) (fun K => K.length = n ∧ ∀ z, nth K z = true ↔ nth H z = true ∨ ∃ i k, i < a.Ops.length ∧ k < (nth a.Ops i).Table.length ∧ Ub a i k (nth H) ∧ z = Zz a i k) (fun s hs => by
  obtain ⟨x, K⟩ := s
  obtain ⟨i, hi, hil, h1, h2⟩ := hs
  simp only at hi hil h1 h2
  subst hi
  unfold Iz
  dsimp only
  by_cases hlt : i < a.Ops.length
  ·left
   obtain ⟨K1, e1, h3, h5⟩ := A8o h hH hlt h1
   rw [if_pos (by omega), e1]
   simp only [Option.bind_some]
   rw [Aa (by unfold InI; omega)]
   refine ⟨_, rfl, ⟨i + 1, rfl, hlt, h3, fun z => ?_⟩, by simp only; omega⟩
   simp only
   rw [h5, h2]
   constructor
   ·rintro ((hz | ⟨j, k, a1, a2, a3, a4⟩) | ⟨k, a2, a3, a4⟩)
    ·exact .inl hz
    ·exact .inr ⟨j, k, by omega, a2, a3, a4⟩
    ·exact .inr ⟨i, k, by omega, a2, a3, a4⟩
   ·rintro (hz | ⟨j, k, a1, a2, a3, a4⟩)
    ·exact .inl (.inl hz)
    ·by_cases ej : j = i
     ·subst ej; exact .inr ⟨k, a2, a3, a4⟩
     ·exact .inl (.inr ⟨j, k, by omega, a2, a3, a4⟩)
  ·right
   rw [if_neg (by omega)]
   have e : i = a.Ops.length := by omega
   subst e
   exact ⟨_, rfl, h1, h2⟩) (s := ((0 : Int), Ao Bool ++ H)) ⟨0, rfl, Nat.zero_le _, hH, fun z => ⟨.inl, fun hz => hz.resolve_right (by rintro ⟨j, _, hj, _⟩; omega)⟩⟩
 rw [e]
 exact ⟨K, rfl, h1, h2⟩
theorem A7h {n : Nat} (hn : n ≤ LIM) {xs : List Int} (hx : Ay xs n) (hl : xs.length ≤ LIM) : Rr n xs = some (F5 n fun z => decide ((z : Int) ∈ xs)) := by
 have : Rr (n : Int) xs = I1 xs (n : Int) := rfl
 rw [this, Atx hn hx hl]
theorem A2j {n : Nat} (hn : n ≤ LIM) (S : Nat → Bool) : Mi (F5 n S) = some (Aj n S) := by
 have : Mi (F5 n S) = Gm (F5 n S) := rfl
 rw [this, Aiq hn]
theorem A1u {n : Nat} (h : ReadyA a n) {xs : List Int} (hx : Ay xs n) (hl : xs.length ≤ LIM) : Kp a xs = some (Aj n (Ry a fun z => decide ((z : Int) ∈ xs))) := by
 have hL := Al
 have h8 := h.le
 generalize hS : (fun z : Nat => decide ((z : Int) ∈ xs)) = S
 have hSn : ∀ z, S z = true → z < n := fun z hz => by
  subst hS
  have := hx _ (of_decide_eq_true hz); omega
 have hb := Mh n S
 have hin : ∀ z, nth (F5 n S) z = true ↔ S z = true := fun z => by
  constructor
  ·intro hz
   have hl := A0j hz
   rw [hb] at hl
   rwa [Ld hl] at hz
  ·intro hz; rw [Ld (hSn z hz)]; exact hz
 unfold Kp
 rw [h.sz, A7h (by omega) hx hl, hS]
 simp only [Option.bind_some]
 obtain ⟨H, e, h1, h2, h3, h4⟩ := Jd (body := Hv a) (fun s => ∃ j : Nat, s.1 = (j : Int) ∧ j ≤ n + 1 ∧ s.2.length = n ∧ (∀ z, S z = true → nth s.2 z = true) ∧ (∀ z, nth s.2 z = true → Ry a S z = true) ∧ (Mn a (nth s.2) ∨ j ≤ Agc s.2))
  (fun s => (n + 1) - s.1.toNat) (fun H => H.length = n ∧ (∀ z, S z = true → nth H z = true) ∧ (∀ z, nth H z = true → Ry a S z = true) ∧ Mn a (nth H)) (fun s hs => by
  obtain ⟨x, H⟩ := s
  obtain ⟨j, hj, hjn, h1, h2, h3, h4⟩ := hs
  simp only at hj hjn h1 h2 h3 h4
  subst hj
  unfold Hv
  dsimp only
  rw [h.sz]
  have hcl := A0e H
  by_cases hlt : j ≤ n
  ·left
   obtain ⟨K, eK, k1, k2⟩ := A3y h h1
   rw [if_pos (by omega), eK]
   simp only [Option.bind_some]
   rw [Aa (by unfold InI; omega)]
   have hmore : ∀ z, nth H z = true → nth K z = true := fun z hz => (k2 z).2 (.inl hz)
   refine ⟨_, rfl, ⟨j + 1, rfl, by omega, k1, fun z hz => hmore z (h2 z hz), fun z hz => ?_, ?_⟩, by simp only; omega⟩
   ·rcases (k2 z).1 hz with hz | ⟨i, k, a1, a2, a3, a4⟩
    ·exact h3 z hz
    ·rw [a4]; exact Acd i a1 k a2 (Acn h3 a3)
   ·simp only
    obtain ⟨m1, m2⟩ := A1y (h1.trans k1.symm) hmore
    by_cases hc : Mn a (nth H)
    ·left
     have : H = K := by
      refine Zc (h1.trans k1.symm) fun z hz => ?_
      rw [Bool.eq_iff_iff, k2]
      constructor
      ·exact .inl
      ·rintro (hz | ⟨i, k, a1, a2, a3, a4⟩)
       ·exact hz
       ·rw [a4]; exact hc i a1 k a2 a3
     rw [← this]; exact hc
    ·right
     have hj := h4.resolve_left hc
     apply Classical.byContradiction
     intro hno
     have e := m2 (by omega)
     refine hc fun i a1 k a2 a3 => ?_
     rw [e]
     exact (k2 _).2 (.inr ⟨i, k, a1, a2, a3, rfl⟩)
  ·right
   rw [if_neg (by omega)]
   exact ⟨_, rfl, h1, h2, h3, h4.resolve_right (by omega)⟩) (s := ((0 : Int), F5 n S)) ⟨0, rfl, by omega, hb, fun z hz => (hin z).2 hz, fun z hz => Xs z ((hin z).1 hz), .inr (Nat.zero_le _)⟩
 rw [e]
 simp only [Option.bind_some]
 have eH : H = F5 n (Ry a S) := by
  refine Zc (by rw [h1, Mh]) fun z hz => ?_
  rw [h1] at hz
  rw [Ld hz]
  cases hh : Ry a S z with
  | true => exact Agm h2 h4 z hh
  | false =>
    cases h5 : nth H z with
    | false => rfl
    | true => rw [h3 z h5] at hh; cases hh
 rw [eH, A2j (by omega)]; rfl
theorem A7i {n : Nat} (h : ReadyA a n) {xs : List Int} (hl : xs.length ≤ LIM) : Rl a xs = some (decide (Agi a n xs)) := by
 have hL := Al
 have h8 := h.le
 unfold Rl
 rw [h.sz, Aa (by unfold InI; omega), Zb _ _ _ hl]
 simp only [Option.bind_some]
 by_cases hr : Zw xs 0 (n - 1)
 ·obtain ⟨h3, h4⟩ := (Ps xs n).1 hr
  rw [decide_eq_true hr, if_pos rfl, A1u h h4 hl]
  simp only [Option.bind_some]
  have hsl := Cn n (Ry a fun z => decide ((z : Int) ∈ xs))
  rw [Avt (by omega)]
  simp only [Option.bind_some]
  congr 1
  rw [decide_eq_decide]
  exact ⟨fun hc => ⟨h4, h3, hc⟩, fun hc => hc.2.2⟩
 ·rw [decide_eq_false hr, if_neg (by simp), decide_eq_false]
  rintro ⟨h4, h3, _⟩
  exact hr ((Ps xs n).2 ⟨h3, h4⟩)
theorem Ah0 {n : Nat} (h : ReadyA a n) (hs : Ad3 a) {xs : List Int} (hl : xs.length ≤ LIM) : Dy a xs = some (decide (Agi a n xs), true) := by
 unfold Dy
 rw [A4d hs, decide_eq_true h.good]
 simp only [Option.bind_some, if_true]
 rw [A7i h hl]; rfl
theorem Azd {n : Nat} (h : ReadyA a n) {xs : List Int} : Agi a n xs ↔ Ay xs n ∧ Ic xs ∧ Mn a fun z => decide ((z : Int) ∈ xs) := by
 constructor
 ·rintro ⟨h1, h2, h3⟩
  refine ⟨h1, h2, fun i hi k hk ha => ?_⟩
  have hv := (h.val hi hk).2
  have h4 : Ry a (fun z => decide ((z : Int) ∈ xs)) (Zz a i k) = true := Acd i hi k hk (Acn (fun z hz => Xs z hz) ha)
  have h5 : ((Zz a i k : Nat) : Int) ∈ Aj n (Ry a fun z => decide ((z : Int) ∈ xs)) := Bc.2 ⟨_, hv, h4, rfl⟩
  rw [h3] at h5
  exact decide_eq_true h5
 ·rintro ⟨h1, h2, h3⟩
  exact ⟨h1, h2, by rw [A2h h3]; exact Mx h1 h2⟩
end
end Go.Proofs.Ytoikbcagaanhgaa.Ax
namespace Go.Proofs.Ytoikbcagaanhgaa.Ax
open Go Classical
section
variable {n : Nat} {g h : Nat → Nat → Nat} {S : Nat → Bool}
theorem Aiz {z : Nat} (hz : z < n) : O8 n g h (closed n g h S) z = closed n g h S z := by
 obtain ⟨k, hk, hs⟩ := Awf (n := n) (g := g) (h := h) (S := S)
 have h1 := Ahi hs (n + 1) (by omega) z hz
 have h2 := Ahi hs n (by omega) z hz
 exact h1.trans h2.symm
theorem Alq (hr : ∀ z, z < n → O8 n g h S z = S z) {z : Nat} (hz : z < n) : closed n g h S z = S z :=
 Ahi (k := 0) (fun z hz => hr z hz) n (Nat.zero_le _) z hz
end
section
variable {p : SPoset}
def Gd (p : SPoset) (xs : List Int) : Prop := xs ≠ [] ∧ Ay xs p.Below.length ∧ Ic xs ∧ Aj p.Below.length (gen p xs) = xs
def A0v (p : SPoset) (S : Nat → Bool) : Prop := ∀ x y, x < p.Below.length → y < p.Below.length → S x = true → S y = true → S (mt p x y) = true ∧ S (jn p x y) = true
theorem Agv (h : Bv p) {xs : List Int} : Gd p xs ↔ xs ≠ [] ∧ Ay xs p.Below.length ∧ Ic xs ∧ A0v p fun z => decide ((z : Int) ∈ xs) := by
 obtain ⟨_, _, hm, hj⟩ := h
 constructor
 ·rintro ⟨h1, h2, h3, h4⟩
  refine ⟨h1, h2, h3, fun x y hx hy sx sy => ?_⟩
  have gx : gen p xs x = true := Qt (S := fun z => decide ((z : Int) ∈ xs)) x sx
  have gy : gen p xs y = true := Qt (S := fun z => decide ((z : Int) ∈ xs)) y sy
  have key : ∀ z, z < p.Below.length → (z = mt p x y ∨ z = jn p x y) → decide ((z : Int) ∈ xs) = true := fun z hz e => by
   have : O8 p.Below.length (mt p) (jn p) (gen p xs) z = true := decide_eq_true (.inr ⟨x, y, hx, hy, gx, gy, e⟩)
   rw [show O8 p.Below.length (mt p) (jn p) (gen p xs) z = gen p xs z from Aiz hz] at this
   have h5 : (z : Int) ∈ Aj p.Below.length (gen p xs) := Bc.2 ⟨z, hz, this, rfl⟩
   rw [h4] at h5
   exact decide_eq_true h5
  exact ⟨key _ (M2 hm hx hy) (.inl rfl), key _ (M2 hj hx hy) (.inr rfl)⟩
 ·rintro ⟨h1, h2, h3, h4⟩
  refine ⟨h1, h2, h3, ?_⟩
  refine Eq.trans (Nm fun z hz => ?_) (Mx h2 h3)
  refine Alq (fun z hz => ?_) hz
  cases hS : decide ((z : Int) ∈ xs) with
  | true => exact Zu z hS
  | false =>
    refine decide_eq_false ?_
    rintro (c | ⟨x, y, hx, hy, sx, sy, e⟩)
    ·have c2 : decide ((z : Int) ∈ xs) = true := c
     rw [hS] at c2; cases c2
    ·obtain ⟨k1, k2⟩ := h4 x y hx hy sx sy
     rcases e with e | e
     ·rw [← e] at k1; simp only at k1; rw [hS] at k1; cases k1
     ·rw [← e] at k2; simp only at k2; rw [hS] at k2; cases k2
theorem A00 {n x y : Nat} (hx : x < n) (hy : y < n) (S : Nat → Bool) : Kk n 2 (x * n + y) S ↔ S x = true ∧ S y = true := by
 have e : Zn n 2 (x * n + y) = [(x : Int), (y : Int)] := by
  simp only [Zn, List.nil_append, List.cons_append]
  rw [(Vn hy).1, (Vn hy).2, Nat.mod_eq_of_lt hx]
 unfold Kk
 rw [e]
 simp
theorem Avb (h : Bv p) (S : Nat → Bool) : Mn (Gu p) S ↔ A0v p S := by
 have hm := h.2.2.1
 have hj := h.2.2.2
 have hsz : (Gu p).Size.toNat = p.Below.length := by simp [Gu]
 have ha0 : ∀ k, Ub (Gu p) 0 k S ↔ Kk p.Below.length 2 k S := fun k => by unfold Ub; rw [hsz]; rfl
 have ha1 : ∀ k, Ub (Gu p) 1 k S ↔ Kk p.Below.length 2 k S := fun k => by unfold Ub; rw [hsz]; rfl
 have hl0 : (nth (Gu p).Ops 0).Table.length = p.Below.length * p.Below.length := La _ _ _
 have hl1 : (nth (Gu p).Ops 1).Table.length = p.Below.length * p.Below.length := La _ _ _
 have hv0 : ∀ x y, x < p.Below.length → y < p.Below.length → Zz (Gu p) 0 (x * p.Below.length + y) = mt p x y := fun x y hx hy => by
  show (nth (Gh p.Below.length (below p.Below) p.Below.length) (x * p.Below.length + y)).toNat = _
  rw [Awn hx hy]; rfl
 have hv1 : ∀ x y, x < p.Below.length → y < p.Below.length → Zz (Gu p) 1 (x * p.Below.length + y) = jn p x y := fun x y hx hy => by
  show (nth (Gh p.Below.length (opp (below p.Below)) p.Below.length) (x * p.Below.length + y)).toNat = _
  rw [Awn hx hy]; rfl
 constructor
 ·intro hc x y hx hy sx sy
  constructor
  ·have := hc 0 (by simp [Gu]) (x * p.Below.length + y) (by rw [hl0]; exact Am0 hx hy) ((ha0 _).2 ((A00 hx hy S).2 ⟨sx, sy⟩))
   rwa [hv0 x y hx hy] at this
  ·have := hc 1 (by simp [Gu]) (x * p.Below.length + y) (by rw [hl1]; exact Am0 hx hy) ((ha1 _).2 ((A00 hx hy S).2 ⟨sx, sy⟩))
   rwa [hv1 x y hx hy] at this
 ·intro hc i hi k hk ha
  have hi2 : i = 0 ∨ i = 1 := by
   have : (Gu p).Ops.length = 2 := rfl
   omega
  rcases hi2 with rfl | rfl
  ·rw [hl0] at hk
   obtain ⟨x, y, hx, hy, rfl⟩ := Auy hk
   obtain ⟨sx, sy⟩ := (A00 hx hy S).1 ((ha0 _).1 ha)
   rw [hv0 x y hx hy]; exact (hc x y hx hy sx sy).1
  ·rw [hl1] at hk
   obtain ⟨x, y, hx, hy, rfl⟩ := Auy hk
   obtain ⟨sx, sy⟩ := (A00 hx hy S).1 ((ha1 _).1 ha)
   rw [hv1 x y hx hy]; exact (hc x y hx hy sx sy).2
theorem A42 (h : Bv p) (h8 : p.Below.length ≤ 8) {xs : List Int} : Gd p xs ↔ xs ≠ [] ∧ Agi (Gu p) p.Below.length xs := by
 have hr : ReadyA (Gu p) p.Below.length := by
  have := A41 (Aws h h8)
  rwa [show (Gu p).Size.toNat = p.Below.length by simp [Gu]] at this
 rw [Agv h, Azd hr, Avb h]
theorem Y0 (hs : small p) {xs : List Int} (hl : xs.length ≤ LIM) : C4 p xs = some (decide (Bv p ∧ Gd p xs), decide (Bv p)) ∧ F7 p xs = some (decide (Bv p ∧ Gd p xs), decide (Bv p)) := by
 unfold F7 C4
 rw [Aee hs]
 simp only [Option.bind_some]
 by_cases h : Bv p
 ·rw [Ho hs h, decide_eq_true h]
  simp only [Option.bind_some, if_true]
  rw [Axo hs h hl, Abv h hl]
  have e : decide (Bv p ∧ Gd p xs) = decide (xs ≠ [] ∧ Ay xs p.Below.length ∧ Ic xs ∧ Aj p.Below.length (gen p xs) = xs) := decide_eq_decide.2 ⟨fun hh => hh.2, fun hh => ⟨h, hh⟩⟩
  rw [e]
  exact ⟨rfl, rfl⟩
 ·obtain ⟨l, e⟩ := K8 hs h
  rw [e, decide_eq_false h, decide_eq_false (fun hh => h hh.1)]
  refine ⟨?_, by simp⟩
  cases l <;> simp
theorem Aer (hs : small p) {xs : List Int} (hl : xs.length ≤ LIM) : Eb p xs = some (if Bv p ∧ Gd p xs then (B5 xs.length (Kn p xs), true) else (⟨[]⟩, false)) ∧
  El p xs = some (if Bv p ∧ Gd p xs then (B5 xs.length (Kn p xs), true) else (⟨[]⟩, false)) := by
 unfold El Eb
 rw [Aee hs]
 simp only [Option.bind_some]
 by_cases h : Bv p
 ·rw [Ho hs h, decide_eq_true h]
  simp only [Option.bind_some, if_true]
  rw [Axo hs h hl, Abv h hl]
  simp only [Option.bind_some]
  have h10 : p.Below.length ≤ 10 := h.1.1
  by_cases hsub : Gd p xs
  ·have hsub' := hsub
   unfold Gd at hsub'
   rw [decide_eq_true hsub']
   simp only [if_true]
   rw [if_pos ⟨h, hsub⟩]
   have hxl : xs.length ≤ p.Below.length := by rw [← hsub.2.2.2]; exact Cn _ _
   rw [Ayh hs hsub.2.1 (by omega), K4, Ayu hsub.2.1 (by omega)]
   simp only [Option.bind_some]
   rw [Aq7 (by rw [Al]; omega)]
   exact ⟨rfl, trivial⟩
  ·have hsub' := hsub
   unfold Gd at hsub'
   have hno : ¬ (Bv p ∧ Gd p xs) := fun hh => hsub hh.2
   rw [decide_eq_false hsub']
   exact ⟨by simp [hno], by simp [hno]⟩
 ·obtain ⟨l, e⟩ := K8 hs h
  have hno : ¬ (Bv p ∧ Gd p xs) := fun hh => h hh.1
  rw [e, decide_eq_false h]
  refine ⟨?_, by simp [hno]⟩
  cases l <;> simp [hno]
theorem Ast {n m : Nat} {f : Nat → Nat → Bool} {e : Nat → Nat} (ho : Ord n f) (hm : meets n f) (he : ∀ i, i < m → e i < n) (inj : ∀ i j, i < m → j < m → e i = e j → i = j)
  (hc : ∀ a b, a < m → b < m → ∃ c, c < m ∧ e c = inf n f (e a) (e b)) : Ord m (fun a b => f (e a) (e b)) ∧ meets m (fun a b => f (e a) (e b)) ∧ ∀ a b, a < m → b < m → e (inf m (fun a b => f (e a) (e b)) a b) = inf n f (e a) (e b) := by
 have ho' : Ord m (fun a b => f (e a) (e b)) := ⟨fun x hx => ho.refl _ (he x hx), fun x y hx hy h1 h2 => inj x y hx hy (ho.anti _ _ (he x hx) (he y hy) h1 h2), fun x y z hx hy hz h1 h2 => ho.trans _ _ _ (he x hx) (he y hy) (he z hz) h1 h2⟩
 have key : ∀ a b, a < m → b < m → ∃ c, c < m ∧ e c = inf n f (e a) (e b) ∧ bnd m (fun a b => f (e a) (e b)) (lo2 (fun a b => f (e a) (e b)) a b) = (c : Int) := fun a b ha hb => by
  obtain ⟨c, h1, h2⟩ := hc a b ha hb
  refine ⟨c, h1, h2, Aot ho' ⟨h1, ?_, fun z hz hl => ?_⟩⟩
  ·unfold lo2
   simp only [h2, Bool.and_eq_true]
   exact ⟨Ai8 hm (he a ha) (he b hb), Ad9 hm (he a ha) (he b hb)⟩
  ·unfold lo2 at hl
   simp only [Bool.and_eq_true] at hl
   simp only [h2]
   exact Am2 hm (he a ha) (he b hb) (he z hz) hl.1 hl.2
 refine ⟨ho', fun a b ha hb => ?_, fun a b ha hb => ?_⟩
 ·obtain ⟨c, _, _, h3⟩ := key a b ha hb
  rw [h3]; omega
 ·obtain ⟨c, _, h2, h3⟩ := key a b ha hb
  unfold inf
  rw [h3]
  exact h2
theorem Alh (h : Bv p) {xs : List Int} (hx : Gd p xs) : Bv (B5 xs.length (Kn p xs)) ∧ xs.length ≤ 10 ∧
  ∀ a b, a < xs.length → b < xs.length → ∃ c : Nat, c < xs.length ∧ inf (B5 xs.length (Kn p xs)).Below.length (below (B5 xs.length (Kn p xs)).Below) a b = c ∧ nth xs c = (mt p (nth xs a).toNat (nth xs b).toNat : Int) := by
 have ho := Is h.1
 have h10 : p.Below.length ≤ 10 := h.1.1
 have hxl : xs.length ≤ p.Below.length := by rw [← hx.2.2.2]; exact Cn _ _
 obtain ⟨h1, h2, h3, h4⟩ := (Agv h).1 hx
 have hlen : xs.length ≠ 0 := fun e => h1 (List.length_eq_zero_iff.1 e)
 have he : ∀ i, i < xs.length → (nth xs i).toNat < p.Below.length := fun i hi => by have := h2 _ (Ar hi); omega
 have hi : ∀ i, i < xs.length → nth xs i = ((nth xs i).toNat : Int) := fun i hi => by have := h2 _ (Ar hi); omega
 have inj : ∀ i j, i < xs.length → j < xs.length → (nth xs i).toNat = (nth xs j).toNat → i = j := fun i j a b e => by
  have e' : nth xs i = nth xs j := by rw [hi i a, hi j b, e]
  rcases Nat.lt_trichotomy i j with c | c | c
  ·have := Ab3 h3 c b; omega
  ·exact c
  ·have := Ab3 h3 c a; omega
 have hc : ∀ a b, a < xs.length → b < xs.length → ∃ c, c < xs.length ∧ (nth xs c).toNat = mt p (nth xs a).toNat (nth xs b).toNat := fun a b ha hb => by
  have := (h4 _ _ (he a ha) (he b hb) (decide_eq_true (by rw [← hi a ha]; exact Ar ha)) (decide_eq_true (by rw [← hi b hb]; exact Ar hb))).1
  obtain ⟨c, k1, k2⟩ := Et.1 (of_decide_eq_true this)
  exact ⟨c, k1, by rw [k2]; rfl⟩
 have hd : ∀ a b, a < xs.length → b < xs.length → ∃ c, c < xs.length ∧ (nth xs c).toNat = jn p (nth xs a).toNat (nth xs b).toNat := fun a b ha hb => by
  have := (h4 _ _ (he a ha) (he b hb) (decide_eq_true (by rw [← hi a ha]; exact Ar ha)) (decide_eq_true (by rw [← hi b hb]; exact Ar hb))).2
  obtain ⟨c, k1, k2⟩ := Et.1 (of_decide_eq_true this)
  exact ⟨c, k1, by rw [k2]; rfl⟩
 obtain ⟨s1, s2, s3⟩ := Ast ho h.2.2.1 he inj hc
 obtain ⟨_, t2, _⟩ := Ast ho.opp h.2.2.2 he inj hd
 have hlat : Bv (B5 xs.length (Kn p xs)) := A6z (by omega) hlen s1 s2 t2
 refine ⟨hlat, by omega, fun a b ha hb => ?_⟩
 have hgo := Is hlat.1
 rw [Dd] at hgo
 have hinf : inf xs.length (Kn p xs) a b = inf xs.length (below (B5 xs.length (Kn p xs)).Below) a b := A1m hgo s2 (fun x y hx hy => (Qu (f := Kn p xs) hy hx).symm) ha hb
 have hlt : inf xs.length (Kn p xs) a b < xs.length := M2 s2 ha hb
 refine ⟨inf xs.length (Kn p xs) a b, hlt, by rw [Dd, ← hinf], ?_⟩
 have := s3 a b ha hb
 rw [hi _ hlt]
 exact congrArg _ this
theorem Z5 (hs : small p) {xs : List Int} (hl : xs.length ≤ LIM) : ∃ r, Ca p xs = some r ∧ Cb p xs = some r ∧ r.1.length ≤ LIM ∧ (r.2 = true → Bv p ∧ xs ≠ [] ∧ Ay xs p.Below.length ∧ r.1 = Aj p.Below.length (gen p xs)) := by
 unfold Ca Cb
 rw [Asv hs xs hl]
 simp only [Option.bind_some]
 by_cases h : Bv p
 ·have h10 : p.Below.length ≤ 10 := h.1.1
  rw [Ho hs h]
  simp only [Option.bind_some, if_true, K4]
  by_cases h0 : (xs.length : Int) = 0
  ·refine ⟨([], false), ?_, by rw [if_pos h0], by simp, fun hh => by cases hh⟩
   by_cases hd : Bv p ∧ xs.length ≤ 20 ∧ Ay xs p.Below.length
   ·rw [decide_eq_true hd, if_pos rfl, if_pos h0]
   ·rw [decide_eq_false hd, if_neg (by simp)]
  ·rw [if_neg h0, if_neg h0]
   have hne : xs ≠ [] := by rintro rfl; simp at h0
   by_cases h20 : xs.length ≤ 20
   ·have hn : ¬ (xs.length : Int) > 20 := by omega
    rw [if_neg hn, A39 _ _ hl, Dg]
    simp only [Option.bind_some]
    by_cases hx : Ay xs p.Below.length
    ·rw [decide_eq_true (show Bv p ∧ xs.length ≤ 20 ∧ Ay xs p.Below.length from ⟨h, h20, hx⟩), decide_eq_true hx]
     simp only [if_true]
     rw [Age hs h hx hl, Alf h hx hl]
     have := Cn p.Below.length (gen p xs)
     exact ⟨_, rfl, rfl, by dsimp only; rw [Al]; omega, fun _ => ⟨h, hne, hx, rfl⟩⟩
    ·rw [decide_eq_false (show ¬ (Bv p ∧ xs.length ≤ 20 ∧ Ay xs p.Below.length) from fun hh => hx hh.2.2), decide_eq_false hx]
     exact ⟨([], false), by simp, by simp, by simp, fun hh => by cases hh⟩
   ·have hn : (xs.length : Int) > 20 := by omega
    rw [decide_eq_false (show ¬ (Bv p ∧ xs.length ≤ 20 ∧ Ay xs p.Below.length) from fun hh => h20 hh.2.1)]
    exact ⟨([], false), by simp, by rw [if_pos hn], by simp, fun hh => by cases hh⟩
 ·obtain ⟨l, e⟩ := K8 hs h
  rw [e, decide_eq_false (fun hh => h hh.1)]
  refine ⟨([], false), by simp, ?_, by simp, fun hh => by cases hh⟩
  cases l <;> simp
theorem A5f (h : Bv p) {xs : List Int} (hne : xs ≠ []) (hx : Ay xs p.Below.length) : Gd p (Aj p.Below.length (gen p xs)) ∧ ∀ x ∈ xs, x ∈ Aj p.Below.length (gen p xs) := by
 have hin : ∀ x ∈ xs, x ∈ Aj p.Below.length (gen p xs) := fun x hm => by
  have := hx x hm
  exact Bc.2 ⟨x.toNat, by omega, Qt _ (decide_eq_true (by rw [show ((x.toNat : Nat) : Int) = x by omega]; exact hm)), by omega⟩
 refine ⟨(Agv h).2 ⟨?_, A4z _ _, Gl _ _, fun x y hx hy sx sy => ?_⟩, hin⟩
 ·intro e
  obtain ⟨x, hm⟩ := List.exists_mem_of_ne_nil xs hne
  have := hin x hm
  rw [e] at this; cases this
 ·have mem : ∀ z, z < p.Below.length → (decide ((z : Int) ∈ Aj p.Below.length (gen p xs)) = true ↔ gen p xs z = true) := fun z hz => by
   rw [decide_eq_true_eq, Bc]
   constructor
   ·rintro ⟨i, _, b, e⟩
    have : z = i := by omega
    rw [this]; exact b
   ·intro b; exact ⟨z, hz, b, rfl⟩
  have gx := (mem x hx).1 sx
  have gy := (mem y hy).1 sy
  have key : ∀ z, z < p.Below.length → (z = mt p x y ∨ z = jn p x y) → gen p xs z = true := fun z hz e => by
   have : O8 p.Below.length (mt p) (jn p) (gen p xs) z = true := decide_eq_true (.inr ⟨x, y, hx, hy, gx, gy, e⟩)
   rwa [show O8 p.Below.length (mt p) (jn p) (gen p xs) z = gen p xs z from Aiz hz] at this
  have i1 := M2 h.2.2.1 hx hy
  have i2 := M2 h.2.2.2 hx hy
  exact ⟨(mem _ i1).2 (key _ i1 (.inl rfl)), (mem _ i2).2 (key _ i2 (.inr rfl))⟩
end
end Go.Proofs.Ytoikbcagaanhgaa.Ax
