/-
 Plain facts, joined.
-/
import Derived.Test.YthagmdhmgailfaaGreatPA
import Derived.Test.YthagmdhmgailfaaGreatSo3
namespace Go.Proofs.YthagmdhmgailfaaGreat.Ax
open Go Classical
def A4q (m i : Nat) : Bool := decide (m / 2 ^ i % 2 = 1)
def Oy (a b : List Int) : Prop := ∃ i, i < a.length ∧ (∀ j, j < i → nth a j = nth b j) ∧ nth a i < nth b i
theorem Asf {a b : List Int} (hl : a.length = b.length) (h : a.length ≤ LIM) : Kj a b = some (decide (Oy a b)) := by
 unfold Kj
 rw [A9] at h
 rw [show ((0 : Int)) = (((0 : Nat)) : Int) from rfl]
 rcases Aez (body := Ew a b) (fun i => (i : Int)) a.length (fun i => nth a i ≠ nth b i) (fun i => .inl (decide (nth a i < nth b i))) (.inr ()) (fun i hi hh => by
   unfold Ew
   rw [if_pos (by omega), Ae (by omega), Ae (by omega), tna0, if_neg hh, Ae (by unfold InI; omega)]; rfl) (fun i hi hh => by
   unfold Ew
   rw [if_pos (by omega), Ae (by omega), Ae (by omega), tna0, if_pos hh, Ae (by omega), Ae (by omega)]) (by
   unfold Ew
   rw [if_neg (by omega)]) with ⟨i, hi, hh, hf, e⟩ | ⟨hn, e⟩
 ·rw [e]
  simp only [obs0]
  congr 1
  rw [decide_eq_decide]
  constructor
  ·intro hlt
   exact ⟨i, hi, fun j hj => Classical.not_not.1 (hf j hj), hlt⟩
  ·rintro ⟨k, hk, h1, h2⟩
   rcases Nat.lt_trichotomy k i with hki | hki | hki
   ·have := Classical.not_not.1 (hf k hki); omega
   ·subst hki; exact h2
   ·exact absurd (h1 i hki) hh
 ·rw [e, dfa0]
  ·rfl
  ·rintro ⟨k, hk, _, h2⟩
   have := Classical.not_not.1 (hn k hk); omega
theorem Aiv {a b : List Int} (hl : a.length = b.length) (h : a.length ≤ LIM) : ∃ c, Fs a b = some c ∧ (¬ c ≥ 0 ↔ Oy a b) := by
 unfold Fs
 rw [A9] at h
 rw [show ((0 : Int)) = (((0 : Nat)) : Int) from rfl]
 rcases Aez (body := B9 a b) (fun i => (i : Int)) a.length (fun i => nth a i ≠ nth b i) (fun i => .inl (if nth a i < nth b i then -1 else 1)) (.inr ()) (fun i hi hh => by
   unfold B9
   rw [if_pos (by omega), if_pos (by omega)]
   simp only [obs0]
   rw [Ae (by omega), Ae (by omega), tna0, if_neg hh, Ae (by unfold InI; omega)]; rfl) (fun i hi hh => by
   unfold B9
   rw [if_pos (by omega), if_pos (by omega)]
   simp only [obs0]
   rw [Ae (by omega), Ae (by omega), tna0, if_pos hh, Ae (by omega), Ae (by omega)]
   split <;> rfl) (by
   unfold B9
   rw [if_neg (by omega)]; rfl) with ⟨i, hi, hh, hf, e⟩ | ⟨hn, e⟩
 ·rw [e]
  refine ⟨_, rfl, ?_⟩
  constructor
  ·intro hlt
   refine ⟨i, hi, fun j hj => Classical.not_not.1 (hf j hj), ?_⟩
   by_cases hc : nth a i < nth b i
   ·exact hc
   ·rw [if_neg hc] at hlt; omega
  ·rintro ⟨k, hk, h1, h2⟩
   have hki : k = i := by
    rcases Nat.lt_trichotomy k i with hki | hki | hki
    ·have := Classical.not_not.1 (hf k hki); omega
    ·exact hki
    ·exact absurd (h1 i hki) hh
   subst hki
   rw [if_pos h2]; omega
 ·rw [e]
  simp only [obs0]
  rw [if_neg (by omega), if_neg (by omega)]
  refine ⟨_, rfl, ?_⟩
  constructor
  ·intro hc; omega
  ·rintro ⟨k, hk, _, h2⟩
   have := Classical.not_not.1 (hn k hk); omega
def anti (f : Nat → Nat → Bool) (ls : List Int) : Prop := ∀ x ∈ ls, ∀ y ∈ ls, ¬ (x.toNat ≠ y.toNat ∧ f x.toNat y.toNat = true)
section
end
end Go.Proofs.YthagmdhmgailfaaGreat.Ax
namespace Go.Proofs.YthagmdhmgailfaaGreat.Ax
open Go Classical
def pc (n m : Nat) : Nat := (Cs n (A4q m)).length
theorem Axz {q q' : Nat → Bool} {x : Nat} (hq : q x = false) (h : ∀ i, q' i = (q i || decide (x = i))) : ∀ n, (Cs n q').length = (Cs n q).length + if x < n then 1 else 0 := by
 intro n
 induction n with
 | zero => simp [Cs]
 | succ n ih =>
   rw [Q9, Q9, h n]
   by_cases hxn : x = n
   ·subst hxn
    rw [hq]
    simp only [decide_true, Bool.or_true, if_true, Bool.false_eq_true, if_false]
    rw [List.length_append, ih, if_neg (by omega), if_pos (by omega)]; rfl
   ·rw [dfa0 hxn, Bool.or_false]
    by_cases hqn : q n = true
    ·rw [if_pos hqn, if_pos hqn, List.length_append, List.length_append, ih]
     by_cases hx : x < n
     ·rw [if_pos hx, if_pos (by omega)]; simp
     ·rw [if_neg hx, if_neg (by omega)]; rfl
    ·rw [if_neg hqn, if_neg hqn, ih]
     by_cases hx : x < n
     ·rw [if_pos hx, if_pos (by omega)]
     ·rw [if_neg hx, if_neg (by omega)]
def wt (n m : Nat) : Nat := 10 ^ (10 - pc n m)
def phi (n : Nat) (ws : List Int) : Nat → Nat → Int
 | _, 0 => 0
 | M, k + 1 => nth ws M * wt n M + phi n ws (M + 1) k
section
variable {n : Nat} {f : Nat → Nat → Bool}
structure okW (n m : Nat) (ws : List Int) : Prop where
 len : ws.length = 2 ^ n
 pos : ∀ i, i < ws.length → 0 ≤ nth ws i
 sum : phi n ws m (2 ^ n - m) ≤ 10000000000
end
section
end
end Go.Proofs.YthagmdhmgailfaaGreat.Ax
namespace Go.Proofs.YthagmdhmgailfaaGreat.Ax
open Go Classical
def dg (i : Nat) : Nat → Nat → Bool := fun a b => decide (a = b ∧ a < i)
def A36 (f : Nat → Nat → Bool) (x y : Nat) (v : Bool) : Nat → Nat → Bool := fun a b => if a = x ∧ b = y then v else f a b
def A4j (f : Nat → Nat → Bool) (ps : List (Int × Int)) : Nat → Nat → Nat → Bool
 | 0 => f
 | k + 1 => A36 (A4j f ps k) (nth ps k).1.toNat (nth ps k).2.toNat true
def wy (f : Nat → Nat → Bool) (z x : Nat) : Nat → Nat → Nat → Bool
 | 0 => f
 | y + 1 => A36 (wy f z x y) x y (wy f z x y x y || (wy f z x y x z && wy f z x y z y))
def wx (n : Nat) (f : Nat → Nat → Bool) (z : Nat) : Nat → Nat → Nat → Bool
 | 0 => f
 | x + 1 => wy (wx n f z x) z x n
def wz (n : Nat) (f : Nat → Nat → Bool) : Nat → Nat → Nat → Bool
 | 0 => f
 | z + 1 => wx n (wz n f z) z n
def A4s (n : Nat) (ps : List (Int × Int)) : Nat → Nat → Bool := wz n (A4j (dg n) ps ps.length) n
section
variable {n : Nat} {ps : List (Int × Int)}
end
end Go.Proofs.YthagmdhmgailfaaGreat.Ax
namespace Go.Proofs.YthagmdhmgailfaaGreat.Ax
open Go Classical
theorem Aie (xs : List Int) (h : xs.length ≤ LIM) : Gz xs = some xs := by
 unfold Gz
 rw [Ae (by simp [Aq]; exact h)]
 rfl
section
variable {n : Nat} {f : Nat → Nat → Bool}
end
section
end
end Go.Proofs.YthagmdhmgailfaaGreat.Ax
namespace Go.Proofs.YthagmdhmgailfaaGreat.Ax
open Go Classical
noncomputable def round (n : Nat) (g h : Nat → Nat → Nat) (S : Nat → Bool) : Nat → Bool := fun z => decide (S z = true ∨ ∃ x y, x < n ∧ y < n ∧ S x = true ∧ S y = true ∧ (z = g x y ∨ z = h x y))
noncomputable def Aoq (n : Nat) (g h : Nat → Nat → Nat) (S : Nat → Bool) : Nat → Nat → Bool
 | 0 => S
 | k + 1 => round n g h (Aoq n g h S k)
section
variable {n : Nat} {g h : Nat → Nat → Nat} {S : Nat → Bool}
def A4r (n : Nat) (g h : Nat → Nat → Nat) (S : Nat → Bool) (k : Nat) : Prop := ∀ z, z < n → Aoq n g h S (k + 1) z = Aoq n g h S k z
noncomputable def closed (n : Nat) (g h : Nat → Nat → Nat) (S : Nat → Bool) : Nat → Bool := Aoq n g h S n
theorem At9 {xs : List Int} (hx : Dl xs n) (hr : Aa6 xs) : Cs n (fun z => decide ((z : Int) ∈ xs)) = xs := by
 refine Awz (Ar7 _ _) hr fun x => ?_
 rw [Vg]
 constructor
 ·rintro ⟨i, _, h1, rfl⟩; simpa using h1
 ·intro h1
  have := hx x h1
  exact ⟨x.toNat, by omega, by simpa [show ((x.toNat : Nat) : Int) = x by omega] using h1, by omega⟩
def A4m (n : Nat) (S : Nat → Bool) : List Nat := (List.range n).filter S
end
end Go.Proofs.YthagmdhmgailfaaGreat.Ax
namespace Go.Proofs.YthagmdhmgailfaaGreat.Ax
open Go Classical
theorem Rg {xs ys : List Int} (h : xs.length ≤ LIM) : Dc xs ys = some (decide (xs = ys)) := by
 unfold Dc
 rw [A9] at h
 split
 ·rename_i hl
  rw [dfa0]
  rintro rfl; exact hl rfl
 rename_i hl
 have hl : xs.length = ys.length := by omega
 have := Gt (body := En xs ys) (fun i => (i : Int)) xs.length (fun i => ¬ nth xs i = nth ys i) () () (fun i hi hb => by
  unfold En
  rw [if_pos (by omega), Ae (by omega), Ae (by omega)]
  simp only [tna0]
  rw [if_neg (by simpa using hb), Ae (by unfold InI; omega)]; rfl) (fun i hi hb => by
  unfold En
  rw [if_pos (by omega), Ae (by omega), Ae (by omega)]
  simp only [tna0]
  rw [if_pos hb]) (by unfold En; rw [if_neg (by omega)]) 0 (by omega)
 show ((Al _ ((0 : Nat) : Int)).bind _) = _
 rw [this]
 by_cases hx : ∃ i, 0 ≤ i ∧ i < xs.length ∧ ¬ nth xs i = nth ys i
 ·rw [if_pos hx, dfa0]
  ·rfl
  ·rintro rfl; obtain ⟨i, _, _, hc⟩ := hx; exact hc rfl
 ·rw [if_neg hx, dtr0 (Ih hl (In.1 hx))]
  rfl
section
end
end Go.Proofs.YthagmdhmgailfaaGreat.Ax
namespace Go.Proofs.YthagmdhmgailfaaGreat.Ax
open Go Classical
def Ni (a : SAlgebra) : Prop := a.Ops.length ≤ 1048576 ∧ ∀ f ∈ a.Ops, f.Table.length ≤ 1048576
end Go.Proofs.YthagmdhmgailfaaGreat.Ax
namespace Go.Proofs.YthagmdhmgailfaaGreat.Ax
open Go Classical
def Arr (n : Nat) (f : SOp) : Prop := 0 ≤ f.Arity ∧ f.Arity ≤ 3 ∧ f.Table.length = n ^ f.Arity.toNat ∧ Dl f.Table n
def Bs (a : SAlgebra) : Prop := 1 ≤ a.Size ∧ a.Size ≤ 8 ∧ a.Ops.length ≤ 4 ∧ ∀ f ∈ a.Ops, Arr a.Size.toNat f
theorem Zm {n k : Nat} (hn : n ≤ 8) (hk : k ≤ 3) : n ^ k ≤ 512 :=
 Nat.le_trans (Nat.pow_le_pow_left hn k) (Nat.le_trans (Nat.pow_le_pow_right (by omega) hk) (by decide))
theorem A2i {n k : Nat} (hn : n ≤ 8) (hk : k ≤ 3) : Jx n k = some ((n ^ k : Nat) : Int) := by
 unfold Jx
 have key := Gw (body := Fh n) (fun j => (((n ^ j : Nat) : Int), ((k : Int) - (j : Int)))) k ((n ^ k : Nat) : Int) (fun j hj => by
  unfold Fh
  dsimp only
  have hp := Zm hn (show j + 1 ≤ 3 by omega)
  rw [Nat.pow_succ] at hp
  rw [if_pos (by omega), ← Int.natCast_mul, Nat.pow_succ]
  generalize n ^ j * n = N at hp ⊢
  rw [Ae (by unfold InI; omega), Ae (by unfold InI; omega), show ((k : Int) - (j : Int) - 1) = (k : Int) - ((j + 1 : Nat) : Int) by omega]) (by
  unfold Fh
  dsimp only
  rw [if_neg (by omega)])
 have key' : Al (Fh n) (1, (k : Int)) = some ((n ^ k : Nat) : Int) := by simpa using key
 rw [key']; rfl
theorem Au6 {n k : Nat} (hn : n ≤ 8) (hk : k ≤ 3) : Ie n k = some ((n ^ k : Nat) : Int) := by
 unfold Ie
 have key := Gw (body := Fi n) (fun j => (((n ^ j : Nat) : Int), ((k : Int) - (j : Int)))) k ((n ^ k : Nat) : Int) (fun j hj => by
  unfold Fi
  dsimp only
  have hp := Zm hn (show j + 1 ≤ 3 by omega)
  rw [Nat.pow_succ] at hp
  rw [if_pos (by omega), ← Int.natCast_mul, Nat.pow_succ]
  generalize n ^ j * n = N at hp ⊢
  rw [Ae (by unfold InI; omega), Ae (by unfold InI; omega), show ((k : Int) - (j : Int) - 1) = (k : Int) - ((j + 1 : Nat) : Int) by omega]) (by
  unfold Fi
  dsimp only
  rw [if_neg (by omega)])
 have key' : Al (Fi n) (1, (k : Int)) = some ((n ^ k : Nat) : Int) := by simpa using key
 rw [key']; rfl
theorem Ayx {n : Nat} (hn : n ≤ 8) {f : SOp} (hl : f.Table.length ≤ LIM) : Ow f n = some (decide (Arr n f)) := by
 unfold Ow
 by_cases h0 : 0 ≤ f.Arity
 ·rw [if_pos (show f.Arity ≥ 0 from h0)]
  by_cases h3 : f.Arity ≤ 3
  ·have e : Jx (n : Int) f.Arity = some ((n ^ f.Arity.toNat : Nat) : Int) := by
    have := A2i hn (k := f.Arity.toNat) (by omega)
    rwa [show ((f.Arity.toNat : Nat) : Int) = f.Arity by omega] at this
   rw [if_pos h3, e]
   simp only [obs0]
   by_cases hL : f.Table.length = n ^ f.Arity.toNat
   ·rw [if_pos (by rw [hL]), Ad9 _ _ hl]
    simp only [obs0]
    congr 1
    rw [decide_eq_decide]
    exact ⟨fun h => ⟨h0, h3, hL, h⟩, fun h => h.2.2.2⟩
   ·rw [if_neg (fun hc => hL (Int.ofNat_inj.1 hc)), dfa0 (fun h => hL h.2.2.1)]
  ·rw [if_neg h3, dfa0 (fun h => h3 h.2.1)]
 ·rw [if_neg (by omega), dfa0 (fun h => h0 h.1)]
theorem Azw {n : Nat} (hn1 : 1 ≤ n) (hn : n ≤ 8) {f : SOp} (hl : f.Table.length ≤ LIM) : Ou n f = some (decide (Arr n f)) := by
 unfold Ou
 rw [Yi]
 simp only [obs0]
 by_cases h0 : 0 ≤ f.Arity ∧ f.Arity ≤ 3
 ·have e : Ie (n : Int) f.Arity = some ((n ^ f.Arity.toNat : Nat) : Int) := by
   have := Au6 hn (k := f.Arity.toNat) (by omega)
   rwa [show ((f.Arity.toNat : Nat) : Int) = f.Arity by omega] at this
  rw [dtr0 h0, if_pos rfl, e]
  simp only [obs0]
  by_cases hL : f.Table.length = n ^ f.Arity.toNat
  ·rw [if_neg (by rw [hL]; simp)]
   simp only [obs0]
   have hl' := hl
   rw [A9] at hl'
   have this := Gt (body := F6 n f) (fun i => (i : Int)) f.Table.length (fun i => ¬ (0 ≤ nth f.Table i ∧ nth f.Table i ≤ (n : Int) - 1)) () () (fun i hi hb => by
    unfold F6
    rw [if_pos (by omega), Ae (by omega), Ae (by unfold InI; omega), Yi]
    simp only [tna0, obs0]
    rw [dtr0 (Classical.not_not.1 hb), if_pos rfl, Ae (by unfold InI; omega)]; rfl) (fun i hi hb => by
    unfold F6
    rw [if_pos (by omega), Ae (by omega), Ae (by unfold InI; omega), Yi]
    simp only [tna0, obs0]
    rw [dfa0 hb, if_neg (by simp)]) (by
    unfold F6
    rw [if_neg (by omega)]) 0 (by omega)
   refine (J1 this false true).trans (congrArg some (Qi ?_))
   rw [In]
   constructor
   ·intro h
    refine ⟨h0.1, h0.2, hL, fun x hx => ?_⟩
    obtain ⟨i, hi, rfl⟩ := Gi.1 hx
    have := h i hi; omega
   ·intro h i hi
    have := h.2.2.2 _ (Ak hi); omega
  ·rw [if_pos (fun hc => hL (Int.ofNat_inj.1 hc)), dfa0 (fun h => hL h.2.2.1)]; rfl
 ·rw [dfa0 h0, if_neg (by simp), dfa0 (fun h => h0 ⟨h.1, h.2.1⟩)]; rfl
theorem Oe {a : SAlgebra} (h : Ni a) : E1 a = some (decide (Bs a)) := by
 unfold E1
 by_cases h1 : a.Size < 1
 ·rw [if_pos h1, dfa0 (fun hg => by have := hg.1; omega)]; rfl
 rw [if_neg h1]
 by_cases h8 : a.Size > 8
 ·rw [if_pos h8, dfa0 (fun hg => by have := hg.2.1; omega)]; rfl
 rw [if_neg h8]
 by_cases h4 : (a.Ops.length : Int) > 4
 ·rw [if_pos h4, dfa0 (fun hg => by have := hg.2.2.1; omega)]; rfl
 rw [if_neg h4]
 simp only [obs0]
 obtain ⟨n, hn⟩ := Int.eq_ofNat_of_zero_le (show 0 ≤ a.Size by omega)
 have this := Gt (body := C7 a) (fun i => (i : Int)) a.Ops.length (fun i => ¬ Arr n (nth a.Ops i)) () () (fun i hi hb => by
  have hl := h.2 _ (Ak hi)
  unfold C7
  rw [if_pos (by omega), Ae (by omega), tna0, hn, Ayx (by omega) (by rw [A9]; omega)]
  simp only [obs0]
  rw [dtr0 (Classical.not_not.1 hb), if_pos rfl, Ae (by unfold InI; omega)]; rfl) (fun i hi hb => by
  have hl := h.2 _ (Ak hi)
  unfold C7
  rw [if_pos (by omega), Ae (by omega), tna0, hn, Ayx (by omega) (by rw [A9]; omega)]
  simp only [obs0]
  rw [dfa0 hb, if_neg (by simp)]) (by
  unfold C7
  rw [if_neg (by omega)]) 0 (by omega)
 refine (J1 this false true).trans (congrArg some (Qi ?_))
 rw [In]
 have hnn : a.Size.toNat = n := by omega
 constructor
 ·intro hh
  refine ⟨by omega, by omega, by omega, fun f hf => ?_⟩
  obtain ⟨i, hi, rfl⟩ := Gi.1 hf
  rw [hnn]; exact hh i hi
 ·intro hg i hi
  have := hg.2.2.2 _ (Ak hi)
  rwa [hnn] at this
theorem Zu {a : SAlgebra} (h : Ni a) : Hj a = some (decide (Bs a)) := by
 unfold Hj
 rw [Yi]
 simp only [obs0]
 by_cases h1 : 1 ≤ a.Size ∧ a.Size ≤ 8
 ·rw [dtr0 h1, if_pos rfl]
  by_cases h4 : (a.Ops.length : Int) > 4
  ·rw [if_pos h4, dfa0 (fun hg => by have := hg.2.2.1; omega)]; rfl
  rw [if_neg h4]
  simp only [obs0]
  obtain ⟨n, hn⟩ := Int.eq_ofNat_of_zero_le (show 0 ≤ a.Size by omega)
  have this := Gt (body := Eu a) (fun i => (i : Int)) a.Ops.length (fun i => ¬ Arr n (nth a.Ops i)) () () (fun i hi hb => by
   have hl := h.2 _ (Ak hi)
   unfold Eu
   rw [if_pos (by omega), Ae (by omega), tna0, hn, Azw (by omega) (by omega) (by rw [A9]; omega)]
   simp only [obs0]
   rw [dtr0 (Classical.not_not.1 hb), if_pos rfl, Ae (by unfold InI; omega)]; rfl) (fun i hi hb => by
   have hl := h.2 _ (Ak hi)
   unfold Eu
   rw [if_pos (by omega), Ae (by omega), tna0, hn, Azw (by omega) (by omega) (by rw [A9]; omega)]
   simp only [obs0]
   rw [dfa0 hb, if_neg (by simp)]) (by
   unfold Eu
   rw [if_neg (by omega)]) 0 (by omega)
  refine (J1 this false true).trans (congrArg some (Qi ?_))
  rw [In]
  have hnn : a.Size.toNat = n := by omega
  constructor
  ·intro hh
   refine ⟨by omega, by omega, by omega, fun f hf => ?_⟩
   obtain ⟨i, hi, rfl⟩ := Gi.1 hf
   rw [hnn]; exact hh i hi
  ·intro hg i hi
   have := hg.2.2.2 _ (Ak hi)
   rwa [hnn] at this
 ·rw [dfa0 h1, if_neg (by simp), dfa0 (fun hg => h1 ⟨hg.1, hg.2.1⟩)]; rfl
def Aqm (a : SAlgebra) : List Int := a.Ops.map (·.Arity)
theorem Asz {xs ys : List Int} (h : xs.length ≤ LIM) : Ik xs ys = some (decide (xs = ys)) := by
 unfold Ik
 rw [A9] at h
 by_cases hne : xs.length = ys.length
 ·rw [if_neg (by omega)]
  have this := Gt (body := Dk xs ys) (fun i => (i : Int)) xs.length (fun i => ¬ nth xs i = nth ys i) () () (fun i hi hb => by
   unfold Dk
   rw [if_pos (by omega), Ae (by omega), Ae (by omega)]
   simp only [tna0]
   rw [if_neg (fun hc => hc (Classical.not_not.1 hb).symm), Ae (by unfold InI; omega)]; rfl) (fun i hi hb => by
   unfold Dk
   rw [if_pos (by omega), Ae (by omega), Ae (by omega)]
   simp only [tna0]
   rw [if_pos (fun hc => hb hc.symm)]) (by unfold Dk; rw [if_neg (by omega)]) 0 (by omega)
  refine (J1 this false true).trans (congrArg some (Qi ?_))
  rw [In]
  exact ⟨fun hh => Ih hne hh, fun hh i _ => by rw [hh]⟩
 ·rw [if_pos (by omega), dfa0 (fun hh => hne (by rw [hh]))]
end Go.Proofs.YthagmdhmgailfaaGreat.Ax
namespace Go.Proofs.YthagmdhmgailfaaGreat.Ax
open Go Classical
def D1 (n : Nat) : Nat → Nat → List Int
 | 0, _ => []
 | r + 1, k => D1 n r (k / n) ++ [((k % n : Nat) : Int)]
theorem H2 (n : Nat) : ∀ r k, (D1 n r k).length = r := by
 intro r
 induction r with
 | zero => intro k; rfl
 | succ r ih => intro k; simp [D1, ih]
theorem Wo {n : Nat} (hn : 0 < n) : ∀ r k, Dl (D1 n r k) n := by
 intro r
 induction r with
 | zero => intro k x hx; cases hx
 | succ r ih =>
   intro k x hx
   simp only [D1] at hx
   rcases List.mem_append.1 hx with hx | hx
   ·exact ih _ x hx
   ·rw [List.mem_singleton.1 hx]
    have := Nat.mod_lt k hn
    omega
theorem A1q {n : Nat} (hn : 0 < n) (hn8 : n ≤ 8) : ∀ (r k : Nat) (xs : List Int), r ≤ xs.length → xs.length ≤ 1000 → k ≤ 1048576 → Al (Ev n) ((r : Int) - 1, xs, (k : Int)) = some (D1 n r k ++ xs.drop r) := by
 intro r
 induction r with
 | zero =>
   intro k xs _ _ _
   refine La ?_
   unfold Ev
   dsimp only
   rw [if_neg (by omega)]
   simp [D1]
 | succ r ih =>
   intro k xs hr hl hk
   have c1 : (k : Int).tdiv (n : Int) = ((k / n : Nat) : Int) := rfl
   have c2 : (k : Int).tmod (n : Int) = ((k % n : Nat) : Int) := rfl
   have hd : k / n ≤ k := Nat.div_le_self k n
   have step : Ev n (((r + 1 : Nat) : Int) - 1, xs, (k : Int)) = some (.inl ((r : Int) - 1, xs.set r ((k % n : Nat) : Int), ((k / n : Nat) : Int))) := by
    unfold Ev
    dsimp only
    rw [show (((r + 1 : Nat) : Int) - 1) = (r : Int) by omega, c1, c2]
    generalize k / n = kd at hd
    rw [if_pos (by omega), Ae (by omega), Ae (by omega), Ae (by unfold InI; omega), Ae (by unfold InI; omega), tna0]
   rw [Mz step, ih _ _ (by rw [List.length_set]; omega) (by rw [List.length_set]; exact hl) (by omega)]
   congr 1
   simp only [D1]
   rw [List.append_assoc]
   congr 1
   have e : (xs.set r ((k % n : Nat) : Int)).drop r = ((k % n : Nat) : Int) :: xs.drop (r + 1) := by
    refine List.ext_getElem (by simp; omega) fun i h1 h2 => ?_
    rw [List.getElem_drop, List.getElem_set]
    cases i with
    | zero => simp
    | succ i =>
      rw [if_neg (by omega), List.getElem_cons_succ, List.getElem_drop]
      congr 1; omega
   rw [e]; rfl
theorem Aqj {n r k : Nat} (hn : 0 < n) (hn8 : n ≤ 8) (hr : r ≤ 3) (hk : k ≤ 1048576) : Ku n r k = some (D1 n r k) := by
 unfold Ku
 rw [Ae (by rw [A9]; omega), Ae (by unfold InI; omega), tna0, A1q hn hn8 r k _ (by simp) (by simp; omega) hk]
 simp
def Vo (m : Nat) (xs : List Int) : Int := xs.foldl (fun s x => s * (m : Int) + x) 0
theorem Lv (m : Nat) (xs : List Int) (y : Int) : Vo m (xs ++ [y]) = Vo m xs * (m : Int) + y := by
 unfold Vo; rw [List.foldl_append]; rfl
theorem Anv {m : Nat} : ∀ (r : Nat) (xs : List Int), xs.length = r → Dl xs m → ∃ c : Nat, Vo m xs = (c : Int) ∧ c < m ^ r := by
 intro r
 induction r with
 | zero =>
   intro xs hl _
   have : xs = [] := List.length_eq_zero_iff.1 hl
   subst this
   exact ⟨0, rfl, by simp⟩
 | succ r ih =>
   intro xs hl hx
   obtain ⟨ys, y, rfl⟩ : ∃ ys y, xs = ys ++ [y] := by
    refine ⟨xs.take r, nth xs r, ?_⟩
    rw [← Rv (by omega), List.take_of_length_le (by omega)]
   have hy := hx y (by simp)
   obtain ⟨c, h1, h2⟩ := ih ys (by simpa using hl) fun z hz => hx z (by simp [hz])
   obtain ⟨d, rfl⟩ := Int.eq_ofNat_of_zero_le hy.1
   refine ⟨c * m + d, by rw [Lv, h1]; push_cast; rfl, ?_⟩
   have h3 := Nat.mul_le_mul_right m (show c + 1 ≤ m ^ r from h2)
   rw [Nat.succ_mul] at h3
   rw [Nat.pow_succ]
   omega
theorem Wl {m : Nat} (hm : m ≤ 8) {xs : List Int} (hl : xs.length ≤ 3) (hx : Dl xs m) : ∃ c : Nat, Vo m xs = (c : Int) ∧ c < m ^ xs.length ∧ c < 512 := by
 obtain ⟨c, h1, h2⟩ := Anv xs.length xs rfl hx
 have := Zm hm hl
 exact ⟨c, h1, h2, by omega⟩
theorem Awn {m : Nat} {xs : List Int} {i : Nat} (hi : i < xs.length) : Vo m (xs.take (i + 1)) = Vo m (xs.take i) * (m : Int) + nth xs i := by
 rw [Rv hi, Lv]
theorem Awo {m : Nat} (hm : m ≤ 8) {xs : List Int} (hl : xs.length ≤ 3) (hx : Dl xs m) {i : Nat} (hi : i < xs.length) :
  InI (Vo m (xs.take i) * (m : Int)) ∧ InI (Vo m (xs.take i) * (m : Int) + nth xs i) := by
 obtain ⟨c, h1, _, h3⟩ := Wl hm (xs := xs.take i) (by rw [List.length_take]; omega) fun z hz => hx z (List.mem_of_mem_take hz)
 have hv := hx _ (Ak hi)
 have h4 : c * m ≤ 512 * 8 := Nat.mul_le_mul (by omega) hm
 rw [h1, ← Int.natCast_mul]
 generalize c * m = d at h4
 unfold InI
 omega
theorem Au9 {b : SAlgebra} {m : Nat} (hm : m ≤ 8) (hb : b.Size = m) {i : Nat} (hi : i < b.Ops.length) {xs : List Int} (hl : xs.length ≤ 3) (hx : Dl xs m) (hT : (nth b.Ops i).Table.length = m ^ xs.length) :
  Ji b i xs = some (nth (nth b.Ops i).Table (Vo m xs).toNat) := by
 unfold Ji
 have key := Gw (body := D7 b i xs) (fun j => ((j : Int), Vo m (xs.take j))) xs.length (Vo m xs) (fun j hj => by
  unfold D7
  dsimp only
  obtain ⟨h1, h2⟩ := Awo hm hl hx hj
  rw [hb, if_pos (by omega), Ae h1, Ae (by omega), tna0, Ae h2, Ae (by unfold InI; omega), Awn hj]
  rfl) (by
  unfold D7
  dsimp only
  rw [if_neg (by omega), List.take_length])
 have key' : Al (D7 b i xs) (0, 0) = _ := key
 rw [key']
 simp only [obs0]
 obtain ⟨c, h1, h2, _⟩ := Wl hm hl hx
 rw [Ae (by omega), tna0, Ae (by rw [h1, hT]; omega)]
def A0t (n m : Nat) (f : List Int) : Nat → Nat → Int
 | 0, _ => 0
 | r + 1, k => A0t n m f r (k / n) * (m : Int) + nth f (k % n)
theorem Ayf (n m : Nat) (f : List Int) : ∀ r k, Vo m ((D1 n r k).map fun x => nth f x.toNat) = A0t n m f r k := by
 intro r
 induction r with
 | zero => intro k; rfl
 | succ r ih =>
   intro k
   simp only [D1, A0t, List.map_append, List.map_cons, List.map_nil, tna0]
   rw [Lv, ih]
theorem Aw5 {n m : Nat} (hn : 0 < n) {f : List Int} (hf : f.length = n) (hfx : Dl f m) (r k : Nat) : Dl ((D1 n r k).map fun x => nth f x.toNat) m := by
 intro y hy
 obtain ⟨x, hx, rfl⟩ := List.mem_map.1 hy
 have := Wo hn r k x hx
 exact hfx _ (Ak (by omega))
structure Homs (a b : SAlgebra) (f : List Int) (n m : Nat) : Prop where
 ga : Bs a
 gb : Bs b
 ty : Aqm a = Aqm b
 sa : a.Size = n
 sb : b.Size = m
 len : f.length = n
 fin : Dl f m
section
variable {a b : SAlgebra} {f : List Int} {n m : Nat}
theorem Homs.ops (h : Homs a b f n m) : a.Ops.length = b.Ops.length := by
 have := congrArg List.length h.ty
 simpa [Aqm] using this
theorem Homs.op (h : Homs a b f n m) {i : Nat} (hi : i < a.Ops.length) : ∃ r : Nat, r ≤ 3 ∧ (nth a.Ops i).Arity = r ∧ (nth b.Ops i).Arity = r ∧ (nth a.Ops i).Table.length = n ^ r ∧ (nth b.Ops i).Table.length = m ^ r ∧ Dl (nth a.Ops i).Table n ∧ n ^ r ≤ 512 := by
 have hn : a.Size.toNat = n := by have := h.sa; omega
 have hm : b.Size.toNat = m := by have := h.sb; omega
 have hn8 : n ≤ 8 := by have := h.sa; have := h.ga.2.1; omega
 obtain ⟨h1, h2, h3, h4⟩ := h.ga.2.2.2 _ (Ak hi)
 have hib : i < b.Ops.length := by rw [← h.ops]; exact hi
 obtain ⟨_, _, k3, _⟩ := h.gb.2.2.2 _ (Ak hib)
 have e : (nth a.Ops i).Arity = (nth b.Ops i).Arity := by
  have e1 : nth (Aqm a) i = (nth a.Ops i).Arity := Ki _ hi
  have e2 : nth (Aqm b) i = (nth b.Ops i).Arity := Ki _ hib
  rw [← e1, ← e2, h.ty]
 rw [hn] at h3 h4
 rw [hm, ← e] at k3
 exact ⟨(nth a.Ops i).Arity.toNat, by omega, by omega, by omega, h3, k3, h4, Zm hn8 (by omega)⟩
theorem Homs.pos (h : Homs a b f n m) : 0 < n ∧ n ≤ 8 ∧ 0 < m ∧ m ≤ 8 := by
 have := h.sa; have := h.sb; have := h.ga.1; have := h.ga.2.1; have := h.gb.1; have := h.gb.2.1
 omega
theorem Homs.low (h : Homs a b f n m) {r k : Nat} (hr : r ≤ 3) : ∃ c : Nat, A0t n m f r k = (c : Int) ∧ c < m ^ r := by
 obtain ⟨hn, _, _, hm⟩ := h.pos
 obtain ⟨c, h1, h2, _⟩ := Wl hm (xs := (D1 n r k).map fun x => nth f x.toNat) (by rw [List.length_map, H2]; exact hr) (Aw5 hn h.len h.fin r k)
 rw [Ayf] at h1
 rw [List.length_map, H2] at h2
 exact ⟨c, h1, h2⟩
end
def uniq (f : List Int) : Prop := ∀ i, i < f.length → nth f i ∉ f.take i
end Go.Proofs.YthagmdhmgailfaaGreat.Ax
namespace Go.Proofs.YthagmdhmgailfaaGreat.Ax
open Go Classical
def Bo (n : Nat) (p : List Int) : Prop := p.length = n ∧ ∀ i, i < n → 0 ≤ nth p i ∧ nth p i ≤ i ∧ nth p (nth p i).toNat = nth p i
theorem Uk {p : List Int} (hl : p.length ≤ 1048576) (n : Nat) : Dn n p = some (decide (Bo n p)) := by
 unfold Dn
 by_cases h : p.length = n
 ·rw [if_neg (by omega)]
  have this := Gt (body := Ch p) (fun i => (i : Int)) p.length (fun i => ¬ (0 ≤ nth p i ∧ nth p i ≤ i ∧ nth p (nth p i).toNat = nth p i)) () () (fun i hi hb => by
   have hb := Classical.not_not.1 hb
   unfold Ch
   rw [if_pos (by omega), Ae (by omega), tna0, if_neg (by omega), if_neg (by omega), Ae (by omega), if_neg (by simpa using hb.2.2), Ae (by unfold InI; omega)]; rfl) (fun i hi hb => by
   unfold Ch
   rw [if_pos (by omega), Ae (by omega), tna0]
   by_cases h1 : nth p i < 0
   ·rw [if_pos h1]
   ·rw [if_neg h1]
    by_cases h2 : nth p i > i
    ·rw [if_pos h2]
    ·rw [if_neg h2, Ae (by omega), if_pos (fun h3 => hb ⟨by omega, by omega, h3⟩)]) (by
   unfold Ch
   rw [if_neg (by omega)]) 0 (by omega)
  refine (J1 this false true).trans (congrArg some (Qi ?_))
  rw [In]
  unfold Bo
  constructor
  ·intro hh; exact ⟨h, fun i hi => hh i (by omega)⟩
  ·rintro ⟨_, hh⟩ i hi; exact hh i (by omega)
 ·rw [if_pos (by omega), dfa0 (fun hh => h hh.1)]
theorem Alm {p : List Int} (hl : p.length ≤ 1048576) (n : Nat) : Gd n p = some (decide (Bo n p)) := by
 unfold Gd
 by_cases h : p.length = n
 ·rw [if_neg (by omega)]
  have this := Gt (body := Cg n p) (fun i => (i : Int)) p.length (fun i => ¬ (0 ≤ nth p i ∧ nth p i ≤ i ∧ nth p (nth p i).toNat = nth p i)) () () (fun i hi hb => by
   have hb := Classical.not_not.1 hb
   unfold Cg
   rw [if_pos (by omega), Ae (by omega), tna0, Yi]
   simp only [obs0]
   rw [dtr0 ⟨hb.1, hb.2.1⟩, if_pos rfl, Ae (by omega), Ae (by omega), Ae (by omega), if_neg (by simpa using hb.2.2), Ae (by unfold InI; omega)]; rfl) (fun i hi hb => by
   unfold Cg
   rw [if_pos (by omega), Ae (by omega), tna0, Yi]
   simp only [obs0]
   by_cases h1 : 0 ≤ nth p i ∧ nth p i ≤ i
   ·rw [dtr0 h1, if_pos rfl, Ae (by omega), Ae (by omega), Ae (by omega), if_pos (fun h3 => hb ⟨h1.1, h1.2, h3⟩)]
   ·rw [dfa0 h1, if_neg (by simp)]) (by
   unfold Cg
   rw [if_neg (by omega)]) 0 (by omega)
  refine (J1 this false true).trans (congrArg some (Qi ?_))
  rw [In]
  unfold Bo
  constructor
  ·intro hh; exact ⟨h, fun i hi => hh i (by omega)⟩
  ·rintro ⟨_, hh⟩ i hi; exact hh i (by omega)
 ·rw [if_pos (by omega), dfa0 (fun hh => h hh.1)]
theorem Bo.inS {n : Nat} {p : List Int} (h : Bo n p) : Dl p n := by
 intro x hx
 obtain ⟨i, hi, rfl⟩ := Gi.1 hx
 have := h.2 i (by have := h.1; omega)
 have := h.1
 omega
theorem Awh (P : Nat → Prop) : ∀ x, P x → ∃ y, y ≤ x ∧ P y ∧ ∀ z, z < y → ¬ P z := by
 intro x
 induction x using Nat.strongRecOn with
 | _ x ih =>
   intro h
   by_cases hz : ∃ z, z < x ∧ P z
   ·obtain ⟨z, h1, h2⟩ := hz
    obtain ⟨y, a, b, c⟩ := ih z h1 h2
    exact ⟨y, by omega, b, c⟩
   ·exact ⟨x, Nat.le_refl _, h, fun z hz' h' => hz ⟨z, hz', h'⟩⟩
theorem Adg {p : List Int} (hl : p.length ≤ 1048576) : Fc p = some ((Cs p.length fun i => decide (nth p i = (i : Int))).length : Int) := by
 unfold Fc
 rw [Ajq (body := Dw p) p.length (fun i => decide (nth p i = (i : Int))) (fun i c hi hc => by
  unfold Dw
  dsimp only
  rw [if_pos (by omega), Ae (by omega), tna0]
  by_cases h : nth p i = (i : Int)
  ·rw [if_pos h, dtr0 h, if_pos rfl, Ae (by unfold InI; omega), Ae (by unfold InI; omega)]; rfl
  ·rw [if_neg h, dfa0 h, if_neg (by simp), Ae (by unfold InI; omega)]; rfl) (fun c => by
  unfold Dw
  dsimp only
  rw [if_neg (by omega)])]
 rfl
theorem Aaa {p : List Int} (hl : p.length ≤ 1048576) : E5 p = some ((Cs p.length fun i => decide (nth p i = (i : Int))).length : Int) := by
 unfold E5
 rw [Ajq (body := Fe p) p.length (fun i => decide (nth p i = (i : Int))) (fun i c hi hc => by
  unfold Fe
  dsimp only
  rw [if_pos (by omega), Ae (by omega), tna0]
  by_cases h : nth p i = (i : Int)
  ·rw [if_pos h, dtr0 h, if_pos rfl, Ae (by unfold InI; omega), Ae (by unfold InI; omega)]; rfl
  ·rw [if_neg h, dfa0 h, if_neg (by simp), Ae (by unfold InI; omega)]; rfl) (fun c => by
  unfold Fe
  dsimp only
  rw [if_neg (by omega)])]
 rfl
end Go.Proofs.YthagmdhmgailfaaGreat.Ax
namespace Go.Proofs.YthagmdhmgailfaaGreat.Ax
open Go Classical
def leP (q p : List Int) : Prop := q.length = p.length ∧ ∀ i, i < p.length → nth q i ≤ nth p i
theorem leP.refl (p : List Int) : leP p p := ⟨rfl, fun _ _ => Int.le_refl _⟩
theorem leP.trans {a b c : List Int} (h : leP a b) (h' : leP b c) : leP a c := ⟨h.1.trans h'.1, fun i hi => Int.le_trans (h.2 i (by rw [h'.1]; exact hi)) (h'.2 i hi)⟩
theorem leP.anti {a b : List Int} (h : leP a b) (h' : leP b a) : a = b := Ih h.1 fun i hi => Int.le_antisymm (h.2 i (by rw [← h.1]; exact hi)) (h'.2 i hi)
def mgF (u v z : Int) : Int := if z = (if u > v then u else v) then (if u < v then u else v) else z
theorem Pu {u v : Int} (h : u > v) (z : Int) : mgF u v z = if z = u then v else z := by
 unfold mgF; rw [if_pos h, if_neg (show ¬ u < v by omega)]
theorem Pb {u v : Int} (h : u < v) (z : Int) : mgF u v z = if z = v then u else z := by
 unfold mgF; rw [if_neg (show ¬ u > v by omega), if_pos h]
theorem Aca (u z : Int) : mgF u u z = z := by
 unfold mgF; rw [if_neg (show ¬ u > u by omega)]
 try rw [if_neg (show ¬ u < u by omega)]
 by_cases h : z = u
 ·rw [if_pos h, h]
 ·rw [if_neg h]
theorem A3x (u v z : Int) : mgF u v z ≤ z := by
 rcases Int.lt_trichotomy u v with h | h | h
 ·rw [Pb h]; split <;> omega
 ·rw [h, Aca]; omega
 ·rw [Pu h]; split <;> omega
theorem A33 {u v z n : Int} (hu : 0 ≤ u ∧ u < n) (hv : 0 ≤ v ∧ v < n) (hz : 0 ≤ z ∧ z < n) : 0 ≤ mgF u v z ∧ mgF u v z < n := by
 rcases Int.lt_trichotomy u v with h | h | h
 ·rw [Pb h]; split <;> omega
 ·rw [h, Aca]; omega
 ·rw [Pu h]; split <;> omega
def mg (p : List Int) (u v : Int) : List Int := p.map (mgF u v)
theorem Ats (p : List Int) (u v : Int) : (mg p u v).length = p.length := by simp [mg]
theorem Az8 (p : List Int) (u : Int) : mg p u u = p := by
 unfold mg
 rw [show mgF u u = id from funext (Aca u), List.map_id]
theorem A0m (p : List Int) (u v : Int) : leP (mg p u v) p := ⟨Ats p u v, fun i hi => by unfold mg; rw [Ki _ hi]; exact A3x _ _ _⟩
theorem Ayw {out p : List Int} {x y : Nat} (h : leP out p) (hx : x < p.length) (hy : y < p.length) : mg out (nth out x) (nth out y) = p ↔ out = p ∧ nth p x = nth p y := by
 constructor
 ·intro e
  have h1 : leP p out := by
   have := A0m out (nth out x) (nth out y)
   rw [e] at this; exact this
  have h2 : out = p := leP.anti h h1
  subst h2
  refine ⟨rfl, ?_⟩
  have e1 : nth (mg out (nth out x) (nth out y)) x = nth out x := by rw [e]
  have e2 : nth (mg out (nth out x) (nth out y)) y = nth out y := by rw [e]
  unfold mg at e1 e2
  rw [Ki _ hx] at e1
  rw [Ki _ hy] at e2
  rcases Int.lt_trichotomy (nth out x) (nth out y) with hh | hh | hh
  ·rw [Pb hh, if_pos rfl] at e2; exact e2
  ·exact hh
  ·rw [Pu hh, if_pos rfl] at e1; exact e1.symm
 ·rintro ⟨rfl, e⟩
  rw [e, Az8]
def okP (n : Nat) (q : List Int) : Prop := q.length = n ∧ Dl q n
theorem Aq1 {n : Nat} {q : List Int} (h : okP n q) {x y : Nat} (hx : x < n) (hy : y < n) : okP n (mg q (nth q x) (nth q y)) := by
 refine ⟨by rw [Ats]; exact h.1, fun z hz => ?_⟩
 obtain ⟨w, hw, rfl⟩ := List.mem_map.1 hz
 exact A33 (h.2 _ (Ak (by rw [h.1]; exact hx))) (h.2 _ (Ak (by rw [h.1]; exact hy))) (h.2 _ hw)
theorem A4g {body : (Int × List Int) → Option ((Int × List Int) ⊕ List Int)} (p : List Int) (f : Int → Int)
  (h : ∀ (i : Nat) (w : List Int), i < p.length → w.length = p.length → nth w i = nth p i → ∃ w', body ((i : Int), w) = some (.inl (((i + 1 : Nat) : Int), w')) ∧ w' = w.set i (f (nth p i)))
  (he : ∀ w : List Int, w.length = p.length → body ((p.length : Int), w) = some (.inr w)) : Al body (0, p) = some (p.map f) := by
 obtain ⟨t, ht, hp⟩ := Bv (body := body) (fun s => ∃ i : Nat, s.1 = (i : Int) ∧ i ≤ p.length ∧ s.2.length = p.length ∧ ∀ j, j < p.length → nth s.2 j = if j < i then f (nth p j) else nth p j) (fun s => p.length - s.1.toNat) (fun t => t = p.map f) (by
  rintro ⟨x, w⟩ ⟨i, h0, h1, h2, h3⟩
  dsimp only at h0 h1 h2 h3
  subst h0
  by_cases hi : i < p.length
  ·obtain ⟨w', e, ew⟩ := h i w hi h2 (by rw [h3 i hi, if_neg (by omega)])
   refine .inl ⟨_, e, ⟨i + 1, rfl, by omega, by rw [ew, List.length_set]; exact h2, fun j hj => ?_⟩, by dsimp only; omega⟩
   dsimp only
   rw [ew, W1 _ _ _ _ (by omega)]
   by_cases hij : i = j
   ·subst hij
    rw [if_pos rfl, if_pos (by omega)]
   ·rw [if_neg hij, h3 j hj]
    by_cases hlt : j < i
    ·rw [if_pos hlt, if_pos (by omega)]
    ·rw [if_neg hlt, if_neg (by omega)]
  ·have ei : i = p.length := by omega
   subst ei
   refine .inr ⟨_, he w h2, Ih (by rw [h2, List.length_map]) fun j hj => ?_⟩
   rw [h3 j (by omega), if_pos (by omega), Ki _ (by omega)]) (s := (0, p)) ⟨0, rfl, by omega, rfl, fun j hj => by simp⟩
 rw [ht, hp]
theorem A1z {w : List Int} {i : Nat} {z : Int} (h : nth w i = z) : w = w.set i z := by
 refine Ih (by simp) fun j hj => ?_
 rw [W1 _ _ _ _ hj]
 by_cases hij : i = j
 ·subst hij; rw [if_pos rfl, h]
 ·rw [if_neg hij]
theorem Ah5 {p : List Int} (hl : p.length ≤ 1048576) {X Y : Int} (hx : 0 ≤ X ∧ X < p.length) (hy : 0 ≤ Y ∧ Y < p.length) : Ic p X Y = some (decide (¬ nth p X.toNat = nth p Y.toNat), mg p (nth p X.toNat) (nth p Y.toNat)) := by
 unfold Ic
 rw [Ae hx, Ae hy]
 by_cases h : nth p X.toNat = nth p Y.toNat
 ·rw [if_pos h, h, Az8, dfa0 (fun hh => hh rfl)]
 ·have key : ∀ hi lo : Int, Al (Fr p hi lo) (0, p) = some (p.map fun z => if z = hi then lo else z) := fun hi lo =>
   A4g (body := Fr p hi lo) p _ (fun i w hi' hw hn => by
    unfold Fr
    dsimp only
    rw [if_pos (by omega), Ae (by omega), tna0, hn]
    by_cases hz : nth p i = hi
    ·rw [if_pos hz, Ae (by omega), Ae (by unfold InI; omega), if_pos hz]
     exact ⟨_, rfl, rfl⟩
    ·rw [if_neg hz, Ae (by unfold InI; omega), if_neg hz]
     exact ⟨_, rfl, A1z hn⟩) (fun w hw => by
    unfold Fr
    dsimp only
    rw [if_neg (by omega)])
  rw [if_neg h, dtr0 h]
  unfold mg
  by_cases hg : nth p X.toNat > nth p Y.toNat
  ·rw [if_pos hg]
   simp only [obs0]
   rw [key, show mgF (nth p X.toNat) (nth p Y.toNat) = fun z => if z = nth p X.toNat then nth p Y.toNat else z from funext (Pu hg)]
   rfl
  ·rw [if_neg hg]
   simp only [obs0]
   rw [key, show mgF (nth p X.toNat) (nth p Y.toNat) = fun z => if z = nth p Y.toNat then nth p X.toNat else z from funext (Pb (by omega))]
   rfl
theorem Ly {p : List Int} (hl : p.length ≤ 1048576) {X Y : Int} (hx : 0 ≤ X ∧ X < p.length) (hy : 0 ≤ Y ∧ Y < p.length) : D4 p X Y = some (mg p (nth p X.toNat) (nth p Y.toNat)) := by
 unfold D4
 have e1 : ∀ a b : Int, E9 a b = some (if a < b then a else b) := fun a b => by
  unfold E9; split <;> rfl
 rw [Ae hx, Ae hy, e1]
 simp only [obs0]
 rw [Ae hx, Ae hy, Aq6]
 simp only [obs0]
 have key : ∀ hi lo : Int, Al (D9 p lo hi) (0, Aq Int) = some (p.map fun z => if z = hi then lo else z) := fun hi lo =>
  Gw (body := D9 p lo hi) (fun i => ((i : Int), (p.take i).map fun z => if z = hi then lo else z)) p.length _ (fun i hi' => by
   unfold D9
   dsimp only
   rw [if_pos (by omega), Ae (by omega), tna0, Rv hi', List.map_append]
   by_cases hz : nth p i = hi
   ·rw [if_pos hz, Ae (by rw [A9, List.length_map, List.length_take]; simp; omega), Ae (by unfold InI; omega)]
    simp only [List.map_cons, List.map_nil, if_pos hz]
    rfl
   ·rw [if_neg hz, Ae (by omega), Ae (by rw [A9, List.length_map, List.length_take]; simp; omega), Ae (by unfold InI; omega)]
    simp only [List.map_cons, List.map_nil, if_neg hz]
    rfl) (by
   unfold D9
   dsimp only
   rw [if_neg (by omega), List.take_length])
 rw [key]
 rfl
def Rel (n : Nat) (s t : Bool × Bool × List Int) (D : Prop) : Prop :=
 okP n t.2.2 ∧ leP t.2.2 s.2.2 ∧ ((t = s ∧ D) ∨ (t.2.2 ≠ s.2.2 ∧ t.1 = true ∧ t.2.1 = true ∧ ¬ D))
theorem Rel.congr {n : Nat} {s t : Bool × Bool × List Int} {D E : Prop} (h : Rel n s t D) (e : D ↔ E) : Rel n s t E := by
 rw [← propext e]; exact h
theorem Rel.comp {n : Nat} {s t r : Bool × Bool × List Int} {D E E' : Prop} (h : Rel n s t D) (h' : Rel n t r E) (hE : t = s → (E ↔ E')) : Rel n s r (D ∧ E') := by
 obtain ⟨_, a2, a3⟩ := h
 obtain ⟨b1, b2, b3⟩ := h'
 refine ⟨b1, b2.trans a2, ?_⟩
 rcases a3 with ⟨e, d⟩ | ⟨e, d1, d2, d3⟩
 ·have hE := hE e
  rw [e] at b3
  rcases b3 with ⟨e', x⟩ | ⟨e', x1, x2, x3⟩
  ·exact .inl ⟨e', d, hE.1 x⟩
  ·exact .inr ⟨e', x1, x2, fun hh => x3 (hE.2 hh.2)⟩
 ·have hne : r.2.2 ≠ s.2.2 := fun hh => e (leP.anti a2 (by rw [← hh]; exact b2))
  rcases b3 with ⟨e', _⟩ | ⟨_, x1, x2, _⟩
  ·rw [e'] at hne ⊢
   exact .inr ⟨hne, d1, d2, fun hh => d3 hh.1⟩
  ·exact .inr ⟨hne, x1, x2, fun hh => d3 hh.1⟩
theorem Ai8 {σ : Type} {n : Nat} {body : σ → Option (σ ⊕ (Bool × Bool × List Int))} (st : Nat → Bool × Bool × List Int → σ) (N : Nat) (C : Nat → List Int → Prop)
  (h : ∀ i s, i < N → okP n s.2.2 → ∃ s', body (st i s) = some (.inl (st (i + 1) s')) ∧ Rel n s s' (C i s.2.2))
  (he : ∀ s, okP n s.2.2 → body (st N s) = some (.inr s)) (s : Bool × Bool × List Int) (hs : okP n s.2.2) : ∃ s', Al body (st 0 s) = some s' ∧ Rel n s s' (∀ i, i < N → C i s.2.2) := by
 have key : ∀ k, k ≤ N → ∀ s, okP n s.2.2 → ∃ s', Al body (st (N - k) s) = some s' ∧ Rel n s s' (∀ i, N - k ≤ i → i < N → C i s.2.2) := by
  intro k
  induction k with
  | zero =>
    intro _ s hs
    exact ⟨s, La (he s hs), hs, leP.refl _, .inl ⟨rfl, fun i h1 h2 => by omega⟩⟩
  | succ k ih =>
    intro hk s hs
    obtain ⟨t, e1, r1⟩ := h (N - (k + 1)) s (by omega) hs
    obtain ⟨r, e2, r2⟩ := ih (by omega) t r1.1
    have e : N - (k + 1) + 1 = N - k := by omega
    refine ⟨r, by rw [Mz e1, e]; exact e2, ?_⟩
    refine (Rel.comp r1 r2 (E' := ∀ i, N - k ≤ i → i < N → C i s.2.2) (fun hh => by rw [hh])).congr ?_
    constructor
    ·rintro ⟨h1, h2⟩ i h3 h4
     by_cases hi : i = N - (k + 1)
     ·subst hi; exact h1
     ·exact h2 i (by omega) h4
    ·intro hh
     exact ⟨hh _ (Nat.le_refl _) (by omega), fun i h1 h2 => hh i (by omega) h2⟩
 obtain ⟨r, e, hr⟩ := key N (Nat.le_refl _) s hs
 rw [Nat.sub_self] at e hr
 exact ⟨r, e, hr.congr ⟨fun hh i hi => hh i (Nat.zero_le _) hi, fun hh i _ hi => hh i hi⟩⟩
def Aey (n : Nat) (p : List Int) (e i : Nat) : Int := (i : Int) + (nth p (i / n ^ e % n) - ((i / n ^ e % n : Nat) : Int)) * ((n ^ e : Nat) : Int)
theorem Agh (i n : Nat) : ((i / n : Nat) : Int) * (n : Int) + ((i % n : Nat) : Int) = (i : Int) := by
 rw [← Int.natCast_mul, ← Int.natCast_add, Nat.mul_comm, Nat.div_add_mod]
theorem Anw {n r i : Nat} (hi : i < n ^ (r + 1)) : i / n < n ^ r := by
 rw [Nat.pow_succ, Nat.mul_comm] at hi
 exact Nat.div_lt_of_lt_mul hi
theorem Ayg {n : Nat} : ∀ r i, i < n ^ r → Vo n (D1 n r i) = (i : Int) := by
 intro r
 induction r with
 | zero => intro i hi; have : i = 0 := by simpa using hi
           subst this; rfl
 | succ r ih =>
   intro i hi
   simp only [D1]
   rw [Lv, ih _ (Anw hi), Agh]
theorem Aae {n : Nat} (p : List Int) : ∀ r i k, i < n ^ r → k < r → Vo n ((D1 n r i).set k (nth p (nth (D1 n r i) k).toNat)) = Aey n p (r - 1 - k) i := by
 intro r
 induction r with
 | zero => intro i k _ hk; omega
 | succ r ih =>
   intro i k hi hk
   simp only [D1]
   have hl := H2 n r (i / n)
   by_cases hkr : k = r
   ·subst hkr
    have e1 : nth (D1 n k (i / n) ++ [((i % n : Nat) : Int)]) k = ((i % n : Nat) : Int) := by
     have := Y8 (xs := D1 n k (i / n)) (y := ((i % n : Nat) : Int))
     rw [hl] at this; exact this
    rw [e1, tna0]
    have e2 : ∀ v : Int, (D1 n k (i / n) ++ [((i % n : Nat) : Int)]).set k v = D1 n k (i / n) ++ [v] := fun v => by
     rw [List.set_append, if_neg (by omega), hl, Nat.sub_self]; rfl
    rw [e2, Lv, Ayg _ _ (Anw hi)]
    unfold Aey
    rw [show k + 1 - 1 - k = 0 by omega, Nat.pow_zero, Nat.div_one, Int.natCast_one, Int.mul_one]
    have := Agh i n
    omega
   ·have hkl : k < r := by omega
    rw [K3 (by omega), List.set_append, if_pos (by omega), Lv, ih _ _ (Anw hi) hkl]
    unfold Aey
    rw [show r + 1 - 1 - k = r - 1 - k + 1 by omega, Nat.pow_succ, Nat.div_div_eq_div_mul, Nat.mul_comm n]
    have := Agh i n
    rw [Int.add_mul, Int.natCast_mul, Int.mul_assoc]
    omega
theorem A3g {xs : List Int} {n v : Int} (h : Dl xs n) (hv : 0 ≤ v ∧ v < n) (k : Nat) : Dl (xs.set k v) n := by
 intro x hx
 rcases List.mem_or_eq_of_mem_set hx with hx | hx
 ·exact h x hx
 ·rw [hx]; exact hv
theorem Ast {n : Nat} (hn : 0 < n) {q : List Int} (hq : okP n q) {r i k : Nat} (hk : k < r) : Dl ((D1 n r i).set k (nth q (nth (D1 n r i) k).toNat)) n := by
 have h1 := Wo hn r i
 have h2 := h1 _ (Ak (show k < (D1 n r i).length by rw [H2]; exact hk))
 exact A3g h1 (hq.2 _ (Ak (by rw [hq.1]; omega))) k
theorem Ad0 {n : Nat} (hn : 0 < n) {q : List Int} (hq : okP n q) {r i e : Nat} (hi : i < n ^ r) (he : e < r) : ∃ c : Nat, Aey n q e i = (c : Int) ∧ c < n ^ r := by
 have h1 := Aae q r i (r - 1 - e) hi (by omega)
 rw [show r - 1 - (r - 1 - e) = e by omega] at h1
 rw [← h1]
 exact Anv r _ (by rw [List.length_set, H2]) (Ast hn hq (by omega))
section
variable {a : SAlgebra} {n : Nat}
theorem opX (ga : Bs a) (hn : a.Size = n) {i : Nat} (hi : i < a.Ops.length) : ∃ r : Nat, r ≤ 3 ∧ (nth a.Ops i).Arity = r ∧ (nth a.Ops i).Table.length = n ^ r ∧ Dl (nth a.Ops i).Table n ∧ n ^ r ≤ 512 ∧ 0 < n ∧ n ≤ 8 := by
 have hn' : a.Size.toNat = n := by omega
 have h1 := ga.1
 have h2 := ga.2.1
 obtain ⟨b1, b2, b3, b4⟩ := ga.2.2.2 _ (Ak hi)
 rw [hn'] at b3 b4
 exact ⟨(nth a.Ops i).Arity.toNat, by omega, by omega, b3, b4, Zm (by omega) (by omega), by omega, by omega⟩
def Aas (a : SAlgebra) (n o e i : Nat) (q : List Int) : Prop := nth q (nth (nth a.Ops o).Table i).toNat = nth q (nth (nth a.Ops o).Table (Aey n q e i).toNat).toNat
def Abi (a : SAlgebra) (n : Nat) (q : List Int) : Prop := ∀ o, o < a.Ops.length → ∀ e, e < (nth a.Ops o).Arity.toNat → ∀ i, i < (nth a.Ops o).Table.length → Aas a n o e i q
theorem Azl (ga : Bs a) (hn : a.Size = n) {o e : Nat} (ho : o < a.Ops.length) (he : e < (nth a.Ops o).Arity.toNat) (s : Bool × Bool × List Int) (hs : okP n s.2.2) :
  ∃ s', Al (A5 a (o : Int) (e : Int) ((n ^ e : Nat) : Int)) (0, s.1, s.2.1, s.2.2) = some s' ∧ Rel n s s' (∀ i, i < (nth a.Ops o).Table.length → Aas a n o e i s.2.2) := by
 obtain ⟨r, r3, hr, hT, hTi, h512, hn0, hn8⟩ := opX ga hn ho
 refine Ai8 (body := A5 a (o : Int) (e : Int) ((n ^ e : Nat) : Int)) (fun i s => ((i : Int), s.1, s.2.1, s.2.2)) (nth a.Ops o).Table.length (fun i q => Aas a n o e i q) (fun i s hi hs => ?_) (fun s hs => ?_) s hs
 ·obtain ⟨c, w, q⟩ := s
  dsimp only at hs ⊢
  obtain ⟨x, ex⟩ : ∃ x, x = i / n ^ e % n := ⟨_, rfl⟩
  have hx : x < n := by rw [ex]; exact Nat.mod_lt _ hn0
  obtain ⟨y, ey⟩ : ∃ y, y = i / n ^ e := ⟨_, rfl⟩
  have c1 : (i : Int).tdiv ((n ^ e : Nat) : Int) = (y : Int) := by rw [ey]; rfl
  have c2 : (y : Int).tmod (n : Int) = (x : Int) := by rw [ex, ey]; rfl
  have sw : Aey n q e i = (i : Int) + (nth q x - (x : Int)) * ((n ^ e : Nat) : Int) := by rw [ex]; rfl
  obtain ⟨d, hd, hd2⟩ := Ad0 hn0 hs (r := r) (i := i) (by omega) (show e < r by omega)
  have hok : Aas a n o e i q ↔ nth q (nth (nth a.Ops o).Table i).toNat = nth q (nth (nth a.Ops o).Table d).toNat := by
   unfold Aas; rw [hd, tna0]
  rw [sw] at hd
  have hpow : 0 < n ^ e := Nat.pow_pos hn0
  have hq := hs.2 _ (Ak (show x < q.length by rw [hs.1]; exact hx))
  have hsl := hs.1
  have y1 := hTi _ (Ak (show i < (nth a.Ops o).Table.length from hi))
  have y2 := hTi _ (Ak (show d < (nth a.Ops o).Table.length by omega))
  have hdiv : y ≤ i := by rw [ey]; exact Nat.div_le_self _ _
  have hu := Ah5 (p := q) (by omega) (X := nth (nth a.Ops o).Table i) (Y := nth (nth a.Ops o).Table d) (by omega) (by omega)
  unfold A5
  dsimp only
  simp only [hn, c1, c2, tna0, hd]
  rw [if_pos (by omega), Ae (by omega), Ae (by unfold InI; omega), Ae (by omega), Ae (by omega), Ae (by unfold InI; omega), Ae (by unfold InI; omega), Ae (by unfold InI; omega), Ae (by omega), hu]
  simp only [obs0]
  by_cases hk : nth q (nth (nth a.Ops o).Table i).toNat = nth q (nth (nth a.Ops o).Table d).toNat
  ·rw [dfa0 (fun hh => hh hk), if_neg (by simp), Ae (by unfold InI; omega), hk, Az8]
   exact ⟨(c, w, q), rfl, hs, leP.refl _, .inl ⟨rfl, hok.2 hk⟩⟩
  ·rw [dtr0 hk, if_pos rfl, Ae (by unfold InI; omega)]
   refine ⟨(true, true, _), rfl, Aq1 hs (by omega) (by omega), A0m _ _ _, .inr ⟨fun hh => ?_, rfl, rfl, fun hh => hk (hok.1 hh)⟩⟩
   exact hk ((Ayw (leP.refl q) (by omega) (by omega)).1 hh).2
 ·unfold A5
  dsimp only
  rw [tna0, if_neg (by omega)]
theorem Axl (ga : Bs a) (hn : a.Size = n) {o : Nat} (ho : o < a.Ops.length) (s : Bool × Bool × List Int) (hs : okP n s.2.2) :
  ∃ s', Al (A6 a (o : Int)) (0, 1, s.1, s.2.1, s.2.2) = some s' ∧ Rel n s s' (∀ e, e < (nth a.Ops o).Arity.toNat → ∀ i, i < (nth a.Ops o).Table.length → Aas a n o e i s.2.2) := by
 obtain ⟨r, r3, hr, hT, hTi, h512, hn0, hn8⟩ := opX ga hn ho
 refine Ai8 (body := A6 a (o : Int)) (fun e s => ((e : Int), ((n ^ e : Nat) : Int), s.1, s.2.1, s.2.2)) (nth a.Ops o).Arity.toNat (fun e q => ∀ i, i < (nth a.Ops o).Table.length → Aas a n o e i q) (fun e s he hs => ?_) (fun s hs => ?_) s hs
 ·obtain ⟨s', e1, r1⟩ := Azl ga hn ho he s hs
  refine ⟨s', ?_, r1⟩
  unfold A6
  dsimp only
  have hp : n ^ e * n ≤ 512 := by rw [← Nat.pow_succ]; exact Zm hn8 (by omega)
  have hp' : ((n ^ e : Nat) : Int) * (n : Int) = ((n ^ e * n : Nat) : Int) := by rw [Int.natCast_mul]
  rw [tna0, if_pos (by omega), e1]
  simp only [obs0]
  rw [hn, hp', Ae (by unfold InI; omega), Ae (by unfold InI; omega), Nat.pow_succ]
  rfl
 ·unfold A6
  dsimp only
  rw [tna0, if_neg (by omega)]
theorem Ang (ga : Bs a) (hn : a.Size = n) (s : Bool × Bool × List Int) (hs : okP n s.2.2) :
  ∃ s', Al (At a) (0, s.1, s.2.1, s.2.2) = some s' ∧ Rel n s s' (Abi a n s.2.2) := by
 refine Ai8 (body := At a) (fun o s => ((o : Int), s.1, s.2.1, s.2.2)) a.Ops.length (fun o q => ∀ e, e < (nth a.Ops o).Arity.toNat → ∀ i, i < (nth a.Ops o).Table.length → Aas a n o e i q) (fun o s ho hs => ?_) (fun s hs => ?_) s hs
 ·obtain ⟨s', e1, r1⟩ := Axl ga hn ho s hs
  refine ⟨s', ?_, r1⟩
  unfold At
  dsimp only
  have := ga.2.2.1
  rw [if_pos (by omega), Ae (by omega), e1]
  simp only [obs0]
  rw [Ae (by unfold InI; omega)]
  rfl
 ·unfold At
  dsimp only
  rw [if_neg (by omega)]
def wgt (q : List Int) : Nat := (q.map Int.toNat).sum
theorem Azv : ∀ xs ys : List Int, xs.length = ys.length → (∀ i, i < ys.length → nth xs i ≤ nth ys i) → (∀ x ∈ xs, 0 ≤ x) → wgt xs ≤ wgt ys ∧ (xs ≠ ys → wgt xs < wgt ys) := by
 intro xs
 induction xs with
 | nil =>
   intro ys hl _ _
   have : ys = [] := List.length_eq_zero_iff.1 hl.symm
   subst this
   exact ⟨Nat.le_refl _, fun h => (h rfl).elim⟩
 | cons x r ih =>
   intro ys hl h h0
   match ys, hl with
   | y :: t, hl =>
     have h1 : x ≤ y := h 0 (by simp)
     have h2 := h0 x (by simp)
     obtain ⟨h3, h4⟩ := ih t (by simpa using hl) (fun i hi => h (i + 1) (by simpa using hi)) (fun z hz => h0 z (by simp [hz]))
     have e1 : wgt (x :: r) = x.toNat + wgt r := rfl
     have e2 : wgt (y :: t) = y.toNat + wgt t := rfl
     refine ⟨by omega, fun hne => ?_⟩
     by_cases hxy : x = y
     ·have := h4 (fun hh => hne (by rw [hxy, hh]))
      omega
     ·omega
theorem Af6 (ga : Bs a) (hn : a.Size = n) {p : List Int} (hp : okP n p) : ∃ q, B3 a p = some (decide (¬ Abi a n p), q) := by
 unfold B3
 obtain ⟨t, ht, hpost⟩ := Bv (body := Bw a) (fun s => okP n s.2.2 ∧ ((s.1 = true ∧ ((s.2.2 = p ∧ s.2.1 = false) ∨ (leP s.2.2 p ∧ s.2.2 ≠ p ∧ s.2.1 = true ∧ ¬ Abi a n p))) ∨ (s.1 = false ∧ s.2.1 = decide (¬ Abi a n p))))
  (fun s => if s.1 = true then 1 + wgt s.2.2 else 0) (fun t => t.1 = decide (¬ Abi a n p)) (by
  rintro ⟨c, w, q⟩ ⟨h1, h2⟩
  dsimp only at h1 h2
  unfold Bw
  dsimp only
  rcases h2 with ⟨hc, h2⟩ | ⟨hc, h2⟩
  ·subst hc
   obtain ⟨s', e1, r1, r2, r3⟩ := Ang ga hn (false, w, q) h1
   dsimp only at e1 r2 r3
   rw [if_pos rfl, e1]
   simp only [obs0]
   obtain ⟨c', w', q'⟩ := s'
   dsimp only at r1 r2 r3
   rcases r3 with ⟨r3, r4⟩ | ⟨r3, r4, r5, r6⟩
   ·cases r3
    refine .inl ⟨_, rfl, ⟨h1, .inr ⟨rfl, ?_⟩⟩, by simp; omega⟩
    rcases h2 with ⟨h2, h3⟩ | ⟨_, _, h3, h4⟩
    ·subst h2
     rw [h3, dfa0 (fun hh => hh r4)]
    ·rw [h3, dtr0 h4]
   ·subst r4 r5
    have hlt := (Azv q' q r2.1 r2.2 (fun z hz => (r1.2 z hz).1)).2 r3
    refine .inl ⟨_, rfl, ⟨r1, .inl ⟨rfl, .inr ?_⟩⟩, by simp; exact hlt⟩
    rcases h2 with ⟨h2, h3⟩ | ⟨h2, h2', h3, h4⟩
    ·subst h2
     exact ⟨r2, r3, rfl, r6⟩
    ·exact ⟨r2.trans h2, fun hh => r3 (leP.anti r2 (by dsimp only at hh; rw [hh]; exact h2)), rfl, h4⟩
  ·subst hc
   rw [if_neg (by simp)]
   exact .inr ⟨_, rfl, h2⟩) (s := (true, false, p)) ⟨hp, .inl ⟨rfl, .inl ⟨rfl, rfl⟩⟩⟩
 rw [ht]
 exact ⟨t.2, by simp only [obs0]; rw [← hpost]⟩
theorem Af5 {body : (Int × List Int) → Option ((Int × List Int) ⊕ List Int)} (p : List Int) (N : Nat) (C : Nat → Prop)
  (h : ∀ (i : Nat) (q : List Int), i < N → leP q p → ∃ q', body ((i : Int), q) = some (.inl (((i + 1 : Nat) : Int), q')) ∧ leP q' p ∧ (q' = p ↔ q = p ∧ C i))
  (he : ∀ q : List Int, body ((N : Int), q) = some (.inr q)) (q : List Int) (hq : leP q p) : ∃ r, Al body (0, q) = some r ∧ leP r p ∧ (r = p ↔ q = p ∧ ∀ i, i < N → C i) := by
 have key : ∀ k, k ≤ N → ∀ q, leP q p → ∃ r, Al body (((N - k : Nat) : Int), q) = some r ∧ leP r p ∧ (r = p ↔ q = p ∧ ∀ i, N - k ≤ i → i < N → C i) := by
  intro k
  induction k with
  | zero =>
    intro _ q hq
    exact ⟨q, La (he q), hq, fun hh => ⟨hh, fun i h1 h2 => by omega⟩, fun hh => hh.1⟩
  | succ k ih =>
    intro hk q hq
    obtain ⟨q', e1, h1, h2⟩ := h (N - (k + 1)) q (by omega) hq
    obtain ⟨r, e2, h3, h4⟩ := ih (by omega) q' h1
    have e : N - (k + 1) + 1 = N - k := by omega
    refine ⟨r, by rw [Mz e1, e]; exact e2, h3, ?_⟩
    rw [h4, h2]
    constructor
    ·rintro ⟨⟨x1, x2⟩, x3⟩
     refine ⟨x1, fun i h5 h6 => ?_⟩
     by_cases hi : i = N - (k + 1)
     ·subst hi; exact x2
     ·exact x3 i (by omega) h6
    ·rintro ⟨x1, x2⟩
     exact ⟨⟨x1, x2 _ (Nat.le_refl _) (by omega)⟩, fun i h5 h6 => x2 i (by omega) h6⟩
 obtain ⟨r, e, h1, h2⟩ := key N (Nat.le_refl _) q hq
 rw [Nat.sub_self] at e h2
 exact ⟨r, e, h1, h2.trans ⟨fun hh => ⟨hh.1, fun i hi => hh.2 i (Nat.zero_le _) hi⟩, fun hh => ⟨hh.1, fun i _ hi => hh.2 i hi⟩⟩⟩
theorem A2e (ga : Bs a) (hn : a.Size = n) {p : List Int} (hp : okP n p) {o r i : Nat} (ho : o < a.Ops.length) (hr : (nth a.Ops o).Arity = r) (hi : i < (nth a.Ops o).Table.length) (q : List Int) (hq : leP q p) :
  ∃ t, Al (Cc a p (o : Int) (i : Int) (D1 n r i)) (0, q) = some t ∧ leP t p ∧ (t = p ↔ q = p ∧ ∀ k, k < r → Aas a n o (r - 1 - k) i p) := by
 obtain ⟨r', r3, hr', hT, hTi, h512, hn0, hn8⟩ := opX ga hn ho
 obtain rfl : r = r' := by omega
 have hal := H2 n r i
 refine Af5 (body := Cc a p (o : Int) (i : Int) (D1 n r i)) p r (fun k => Aas a n o (r - 1 - k) i p) (fun k q hk hq => ?_) (fun q => ?_) q hq
 ·have hin := Ast hn0 hp (i := i) hk
  have hsw := Aae (n := n) p r i k (by omega) hk
  obtain ⟨c, hc, hc2⟩ := Ad0 hn0 hp (r := r) (i := i) (e := r - 1 - k) (by omega) (by omega)
  have y0 := Wo hn0 r i _ (Ak (show k < (D1 n r i).length by omega))
  have y1 := hTi _ (Ak (show i < (nth a.Ops o).Table.length from hi))
  have y2 := hTi _ (Ak (show c < (nth a.Ops o).Table.length by omega))
  have hql := hq.1
  have hpl := hp.1
  have hv := Au9 hn8 hn ho (xs := (D1 n r i).set k (nth p (nth (D1 n r i) k).toNat)) (by rw [List.length_set]; omega) hin (by rw [List.length_set, hal]; exact hT)
  rw [hsw, hc, tna0] at hv
  have hu := Ly (p := q) (by omega) (X := nth (nth a.Ops o).Table i) (Y := nth (nth a.Ops o).Table c) (by omega) (by omega)
  unfold Cc
  dsimp only
  rw [if_pos (by omega), Aie _ (by rw [A9]; omega)]
  simp only [obs0, tna0]
  rw [Ae (by omega), Ae (by omega), Ae (by omega), Ae (by omega), Ae (by omega), hv]
  simp only [obs0]
  rw [hu]
  simp only [obs0]
  rw [Ae (by unfold InI; omega)]
  refine ⟨_, rfl, (A0m _ _ _).trans hq, (Ayw hq (by omega) (by omega)).trans ?_⟩
  unfold Aas
  rw [hc, tna0]
 ·unfold Cc
  dsimp only
  rw [if_neg (by omega)]
theorem A12 (ga : Bs a) (hn : a.Size = n) {p : List Int} (hp : okP n p) {o r : Nat} (ho : o < a.Ops.length) (hr : (nth a.Ops o).Arity = r) (q : List Int) (hq : leP q p) :
  ∃ t, Al (Cd a p (o : Int)) (0, q) = some t ∧ leP t p ∧ (t = p ↔ q = p ∧ ∀ i, i < (nth a.Ops o).Table.length → ∀ k, k < r → Aas a n o (r - 1 - k) i p) := by
 obtain ⟨r', r3, hr', hT, hTi, h512, hn0, hn8⟩ := opX ga hn ho
 obtain rfl : r = r' := by omega
 refine Af5 (body := Cd a p (o : Int)) p (nth a.Ops o).Table.length (fun i => ∀ k, k < r → Aas a n o (r - 1 - k) i p) (fun i q hi hq => ?_) (fun q => ?_) q hq
 ·obtain ⟨t, e1, e2, e3⟩ := A2e ga hn hp ho hr hi q hq
  refine ⟨t, ?_, e2, e3⟩
  unfold Cd
  dsimp only
  rw [Ae (by omega), tna0, if_pos (by omega), Ae (by omega), hn, hr, Aqj hn0 hn8 r3 (by omega)]
  simp only [obs0]
  rw [e1]
  simp only [obs0]
  rw [Ae (by unfold InI; omega)]
  rfl
 ·unfold Cd
  dsimp only
  rw [Ae (by omega), tna0, if_neg (by omega)]
theorem Art (ga : Bs a) (hn : a.Size = n) {p : List Int} (hp : okP n p) : ∃ t, D3 a p = some t ∧ t.length = n ∧ (t = p ↔ Abi a n p) := by
 have h8 := ga.2.1
 have hpl := hp.1
 unfold D3
 rw [Aie _ (by rw [A9]; omega)]
 simp only [obs0]
 obtain ⟨t, e1, e2, e3⟩ := Af5 (body := C1 a p) p a.Ops.length (fun o => ∀ i, i < (nth a.Ops o).Table.length → ∀ k, k < (nth a.Ops o).Arity.toNat → Aas a n o ((nth a.Ops o).Arity.toNat - 1 - k) i p) (fun o q ho hq => by
  obtain ⟨r, r3, hr, _⟩ := opX ga hn ho
  obtain ⟨t, e1, e2, e3⟩ := A12 ga hn hp ho (show (nth a.Ops o).Arity = ((nth a.Ops o).Arity.toNat : Nat) by omega) q hq
  refine ⟨t, ?_, e2, e3⟩
  unfold C1
  dsimp only
  have := ga.2.2.1
  rw [if_pos (by omega), e1]
  simp only [obs0]
  rw [Ae (by unfold InI; omega)]
  rfl) (fun q => by
  unfold C1
  dsimp only
  rw [if_neg (by omega)]) p (leP.refl p)
 rw [e1]
 refine ⟨t, rfl, by rw [e2.1]; exact hpl, e3.trans ?_⟩
 constructor
 ·rintro ⟨_, h⟩ o ho e he i hi
  have := h o ho i hi ((nth a.Ops o).Arity.toNat - 1 - e) (by omega)
  rw [show (nth a.Ops o).Arity.toNat - 1 - ((nth a.Ops o).Arity.toNat - 1 - e) = e by omega] at this
  exact this
 ·intro h
  exact ⟨rfl, fun o ho i hi k hk => h o ho _ (by omega) i hi⟩
def E6 (a : SAlgebra) (n : Nat) (p : List Int) : Prop := Bo n p ∧ Abi a n p
theorem Zz (ga : Bs a) (hn : a.Size = n) {p : List Int} (hl : p.length ≤ 1048576) : Ft a p = some (decide (E6 a n p)) := by
 unfold Ft
 rw [hn, Uk hl]
 simp only [obs0]
 by_cases h : Bo n p
 ·rw [dtr0 h, if_pos rfl]
  unfold G1
  rw [Ae (by rw [A9]; show 0 + p.length ≤ _; omega)]
  simp only [obs0]
  obtain ⟨q, e⟩ := Af6 ga hn (p := p) ⟨h.1, h.inS⟩
  rw [show Aq Int ++ p = p from rfl, e]
  simp only [obs0]
  by_cases hk : Abi a n p
  ·rw [dfa0 (fun hh => hh hk), dtr0 (show E6 a n p from ⟨h, hk⟩)]; rfl
  ·rw [dtr0 hk, dfa0 (fun hh : E6 a n p => hk hh.2)]; rfl
 ·rw [dfa0 h, if_neg (by simp), dfa0 (fun hh : E6 a n p => h hh.1)]
theorem Ayy (ga : Bs a) (hn : a.Size = n) {p : List Int} (hl : p.length ≤ 1048576) : Oj a p = some (decide (E6 a n p)) := by
 unfold Oj
 rw [hn, Alm hl]
 simp only [obs0]
 by_cases h : Bo n p
 ·rw [dtr0 h, if_pos rfl]
  obtain ⟨q, e, e2, e3⟩ := Art ga hn (p := p) ⟨h.1, h.inS⟩
  have := h.1
  rw [e]
  simp only [obs0]
  rw [Rg (by rw [A9]; omega)]
  simp only [obs0]
  exact congrArg some (decide_eq_decide.2 (e3.trans ⟨fun hh => ⟨h, hh⟩, fun hh => hh.2⟩))
 ·rw [dfa0 h, if_neg (by simp), dfa0 (fun hh : E6 a n p => h hh.1)]
end
end Go.Proofs.YthagmdhmgailfaaGreat.Ax
namespace Go.Proofs.YthagmdhmgailfaaGreat.Ax
open Go Classical
structure Perm (f : List Int) (n : Nat) : Prop where
 len : f.length = n
 fin : Dl f n
 un : uniq f
theorem Perm.count {f : List Int} {n : Nat} (h : Perm f n) : ∀ i, i ≤ n → (Cs n fun z => decide ((z : Int) ∈ f.take i)).length = i := by
 intro i
 induction i with
 | zero =>
   intro _
   rw [List.length_eq_zero_iff]
   exact Av7.2 fun z _ => by simp
 | succ i ih =>
   intro hi
   have hil : i < f.length := by rw [h.len]; exact hi
   have hv := h.fin _ (Ak hil)
   have hu := h.un i hil
   have hc : nth f i = (((nth f i).toNat : Nat) : Int) := by omega
   have := Axz (q := fun z => decide ((z : Int) ∈ f.take i)) (q' := fun z => decide ((z : Int) ∈ f.take (i + 1))) (x := (nth f i).toNat) (dfa0 (by rw [← hc]; exact hu)) (fun z => by
    rw [Rv hil, Bool.eq_iff_iff]
    simp only [decide_eq_true_eq, List.mem_append, List.mem_singleton, Bool.or_eq_true]
    constructor
    ·rintro (h1 | h1)
     ·exact .inl h1
     ·exact .inr (by omega)
    ·rintro (h1 | h1)
     ·exact .inl h1
     ·exact .inr (by omega)) n
   rw [this, ih (by omega), if_pos (by omega)]
section
variable {a : SAlgebra} {f : List Int} {n : Nat}
end
end Go.Proofs.YthagmdhmgailfaaGreat.Ax
namespace Go.Proofs.YthagmdhmgailfaaGreat.Ax
open Go Classical
section
variable {a b : SAlgebra} {f : List Int} {n m : Nat}
end
section
variable {a b : SAlgebra} {f : List Int}
end
section
variable {a b c : SAlgebra} {f g : List Int}
end
section
variable {a b : SAlgebra} {f : List Int}
end
end Go.Proofs.YthagmdhmgailfaaGreat.Ax
namespace Go.Proofs.YthagmdhmgailfaaGreat.Ax
open Go Classical
theorem Amt {β : Type} (k : ByteArray) (v : β) (k' : ByteArray) : ∀ (l : List (ByteArray × β)), F3 (Km l k v) k' = if k' = k then some v else F3 l k'
 | [] => by simp [Km, F3]
 | (a, b) :: r => by
   simp only [Km]
   by_cases h1 : k = a
   ·subst h1
    rw [if_pos rfl]
    simp only [F3]
    by_cases h2 : k' = k
    ·rw [if_pos h2, if_pos h2]
    ·rw [if_neg h2, if_neg h2, if_neg h2]
   ·rw [if_neg h1]
    simp only [F3]
    rw [Amt k v k' r]
    by_cases h2 : k' = a
    ·rw [if_pos h2, if_pos h2, if_neg (fun e => h1 (by rw [← e, h2]))]
    ·rw [if_neg h2, if_neg h2]
theorem As7 (ns : List Int) : ∀ b : ByteArray, (ns.foldl (fun r n => r.push (UInt8.ofNat n.toNat)) b).data.toList = b.data.toList ++ ns.map fun n => UInt8.ofNat n.toNat := by
 induction ns with
 | nil => intro b; simp
 | cons n r ih =>
   intro b
   simp only [List.foldl_cons, List.map_cons]
   rw [ih]
   simp [ByteArray.push]
theorem Ax1 {a b : Int} (ha : 0 ≤ a ∧ a ≤ 255) (hb : 0 ≤ b ∧ b ≤ 255) (h : UInt8.ofNat a.toNat = UInt8.ofNat b.toNat) : a = b := by
 have := congrArg UInt8.toNat h
 simp [UInt8.toNat_ofNat'] at this
 omega
theorem Axx {ns ms : List Int} (hn : ∀ x ∈ ns, 0 ≤ x ∧ x ≤ 255) (hm : ∀ x ∈ ms, 0 ≤ x ∧ x ≤ 255) (h : Xs ns = Xs ms) : ns = ms := by
 have e := congrArg (fun b : ByteArray => b.data.toList) h
 simp only [Xs, As7] at e
 have e2 : (ns.map fun n : Int => UInt8.ofNat n.toNat) = ms.map fun n : Int => UInt8.ofNat n.toNat := by simpa using e
 clear e h
 induction ns generalizing ms with
 | nil =>
   cases ms with
   | nil => rfl
   | cons _ _ => cases e2
 | cons a r ih =>
   cases ms with
   | nil => cases e2
   | cons b s =>
     simp only [List.map_cons, List.cons.injEq] at e2
     rw [Ax1 (hn a (by simp)) (hm b (by simp)) e2.1, ih (fun x hx => hn x (by simp [hx])) (fun x hx => hm x (by simp [hx])) e2.2]
def byt (x : Int) : List Int := [IntKind.u8.wrap (x.fdiv (2 ^ min (Int.toNat 8) IntKind.i64.bits)), IntKind.u8.wrap x]
theorem Ay7 (n : Int) : IntKind.u8.wrap n = n % 256 := by simp [IntKind.wrap, IntKind.bits, IntKind.signed]
theorem Ayu {x : Int} (h0 : 0 ≤ x) (h1 : x < 65536) : byt x = [x / 256, x % 256] := by
 unfold byt
 have e : (2 : Int) ^ min (Int.toNat 8) IntKind.i64.bits = 256 := by decide
 rw [e, Ay7, Ay7, Int.fdiv_eq_ediv_of_nonneg _ (by omega)]
 congr 1
 omega
theorem Ax3 (x : Int) : ∀ y ∈ byt x, 0 ≤ y ∧ y ≤ 255 := by
 intro y hy
 unfold byt at hy
 simp only [List.mem_cons, List.not_mem_nil, or_false] at hy
 rcases hy with rfl | rfl <;> (rw [Ay7]; omega)
def Aq3 (xs : List Int) : ByteArray := Xs (xs.flatMap byt)
theorem Apu : ∀ {xs ys : List Int}, (∀ x ∈ xs, 0 ≤ x ∧ x < 65536) → (∀ x ∈ ys, 0 ≤ x ∧ x < 65536) → xs.flatMap byt = ys.flatMap byt → xs = ys := by
 intro xs
 induction xs with
 | nil =>
   intro ys _ _ h
   cases ys with
   | nil => rfl
   | cons y r => simp [byt] at h
 | cons x r ih =>
   intro ys hx hy h
   cases ys with
   | nil => simp [byt] at h
   | cons y s =>
     have h1 := hx x (by simp)
     have h2 := hy y (by simp)
     simp only [List.flatMap_cons, Ayu h1.1 h1.2, Ayu h2.1 h2.2, List.cons_append, List.nil_append, List.cons.injEq] at h
     rw [ih (fun z hz => hx z (by simp [hz])) (fun z hz => hy z (by simp [hz])) h.2.2, show x = y by omega]
theorem Ayr {xs ys : List Int} (hx : ∀ x ∈ xs, 0 ≤ x ∧ x < 65536) (hy : ∀ x ∈ ys, 0 ≤ x ∧ x < 65536) (h : Aq3 xs = Aq3 ys) : xs = ys := by
 refine Apu hx hy (Axx ?_ ?_ h)
 ·intro y hy
  obtain ⟨x, _, hy⟩ := List.mem_flatMap.1 hy
  exact Ax3 x y hy
 ·intro y hy
  obtain ⟨x, _, hy⟩ := List.mem_flatMap.1 hy
  exact Ax3 x y hy
theorem Ayn (xs : List Int) : (xs.flatMap byt).length = 2 * xs.length := by
 induction xs with
 | nil => rfl
 | cons x r ih => simp only [List.flatMap_cons, List.length_append, ih, List.length_cons]; simp [byt]; omega
theorem Avw {xs : List Int} (hl : xs.length ≤ 1048576) : Ju xs = some (Aq3 xs) := by
 have hL := A9
 unfold Ju
 rw [Ae (by unfold InI; omega), Ae (by omega)]
 have key := Gw (body := Fo xs) (fun i => ((i : Int), (xs.take i).flatMap byt)) xs.length (xs.flatMap byt) (fun i hi => by
  have h1 := Ayn (xs.take i)
  unfold Fo
  dsimp only
  rw [if_pos (by omega), Ae (by omega), tna0, Ae (by rw [h1, List.length_take]; simp only [List.length_cons, List.length_nil]; omega), Ae (by unfold InI; omega), Rv hi, List.flatMap_append]
  simp [byt]) (by
  unfold Fo
  dsimp only
  rw [if_neg (by omega), List.take_length])
 have key' : Al (Fo xs) (0, Aq Int) = _ := key
 rw [key']; rfl
def Ar0 (S : List (ByteArray × Bool)) (rows : List (List Int)) : Prop := ∀ k, (F3 S k).getD false = decide (∃ t ∈ rows, Aq3 t = k)
theorem A0g : Ar0 (Aq (ByteArray × Bool)) [] := fun k => by simp [F3]
theorem Anc {S : List (ByteArray × Bool)} {rows : List (List Int)} (h : Ar0 S rows) (t : List Int) : Ar0 (Km S (Aq3 t) true) (rows ++ [t]) := by
 intro k
 rw [Amt]
 by_cases hk : k = Aq3 t
 ·rw [if_pos hk]
  exact (dtr0 ⟨t, by simp, hk.symm⟩).symm
 ·rw [if_neg hk, h k, decide_eq_decide]
  constructor
  ·rintro ⟨u, hu, e⟩; exact ⟨u, by simp [hu], e⟩
  ·rintro ⟨u, hu, e⟩
   rcases List.mem_append.1 hu with h1 | h1
   ·exact ⟨u, h1, e⟩
   ·rw [List.mem_singleton.1 h1] at e
    exact absurd e.symm hk
theorem Abt {n : Nat} (_hn : 0 < n) : ∀ r k, k < n ^ r → Vo n (D1 n r k) = (k : Int) := by
 intro r
 induction r with
 | zero => intro k hk; simp at hk; subst hk; rfl
 | succ r ih =>
   intro k hk
   have hd : k / n < n ^ r := Nat.div_lt_of_lt_mul (by rw [Nat.mul_comm, ← Nat.pow_succ]; exact hk)
   simp only [D1]
   rw [Lv, ih _ hd, ← Int.natCast_mul, ← Int.natCast_add, Nat.mul_comm, Nat.div_add_mod]
theorem Awr {n : Nat} (hn : 0 < n) : ∀ r (xs : List Int), xs.length = r → Dl xs n → D1 n r (Vo n xs).toNat = xs := by
 intro r
 induction r with
 | zero => intro xs hl _; rw [List.length_eq_zero_iff.1 hl]; rfl
 | succ r ih =>
   intro xs hl hx
   obtain ⟨ys, y, rfl⟩ : ∃ ys y, xs = ys ++ [y] := ⟨xs.take r, nth xs r, by rw [← Rv (by omega), List.take_of_length_le (by omega)]⟩
   have hy := hx y (by simp)
   have hys : Dl ys n := fun z hz => hx z (by simp [hz])
   have hyl : ys.length = r := by simpa using hl
   obtain ⟨c, h1, _⟩ := Anv r ys hyl hys
   obtain ⟨d, rfl⟩ := Int.eq_ofNat_of_zero_le hy.1
   have hd : d < n := by omega
   have e : (Vo n (ys ++ [(d : Int)])).toNat = c * n + d := by
    rw [Lv, h1, ← Int.natCast_mul, ← Int.natCast_add, tna0]
   rw [e]
   simp only [D1]
   rw [show (c * n + d) / n = c by rw [Nat.mul_comm, Nat.mul_add_div hn, Nat.div_eq_of_lt hd]; omega, show (c * n + d) % n = d by rw [Nat.mul_comm, Nat.mul_add_mod, Nat.mod_eq_of_lt hd]]
   have := ih ys hyl hys
   rw [h1, tna0] at this
   rw [this]
end Go.Proofs.YthagmdhmgailfaaGreat.Ax
namespace Go.Proofs.YthagmdhmgailfaaGreat.Ax
open Go Classical
def hT (n r : Nat) (y : Nat → Int) : Int := Vo n ((List.range r).map y)
theorem Yr {n r : Nat} {y z : Nat → Int} (h : ∀ i, i < r → y i = z i) : hT n r y = hT n r z := by
 unfold hT
 congr 1
 exact List.map_congr_left fun i hi => h i (List.mem_range.1 hi)
theorem A2j {n r : Nat} {y : Nat → Int} (h : ∀ i, i < r → 0 ≤ y i ∧ y i < n) : Dl ((List.range r).map y) n := by
 intro v hv
 obtain ⟨i, hi, rfl⟩ := List.mem_map.1 hv
 exact h i (List.mem_range.1 hi)
theorem Ash {n r : Nat} {y : Nat → Int} (hn : n ≤ 8) (hr : r ≤ 3) (h : ∀ i, i < r → 0 ≤ y i ∧ y i < n) : ∃ c : Nat, hT n r y = (c : Int) ∧ c < n ^ r ∧ c < 512 := by
 obtain ⟨c, h1, h2, h3⟩ := Wl hn (xs := (List.range r).map y) (by simpa using hr) (A2j h)
 exact ⟨c, h1, by simpa using h2, h3⟩
structure OpR (n r : Nat) (f : SOp) : Prop where
 ar : f.Arity = r
 le : r ≤ 2
 len : f.Table.length = n ^ r
 fin : Dl f.Table n
theorem OpR.at {n r : Nat} {f : SOp} (h : OpR n r f) (hn : n ≤ 8) {y : Nat → Int} (hy : ∀ i, i < r → 0 ≤ y i ∧ y i < n) : (∃ c : Nat, hT n r y = (c : Int) ∧ c < f.Table.length ∧ c < 512) ∧ 0 ≤ nth f.Table (hT n r y).toNat ∧ nth f.Table (hT n r y).toNat < n := by
 obtain ⟨c, h1, h2, h3⟩ := Ash hn (by have := h.le; omega) hy
 rw [← h.len] at h2
 exact ⟨⟨c, h1, h2, h3⟩, by rw [h1, tna0]; exact h.fin _ (Ak h2)⟩
section
variable {n r s : Nat} {f g : SOp}
end
def Aqw (n : Int) (f g : SOp) : Prop := 1 ≤ n ∧ n ≤ 4 ∧ Arr n.toNat f ∧ Arr n.toNat g ∧ f.Arity ≤ 2 ∧ g.Arity ≤ 2
theorem Aqw.symm {n : Int} {f g : SOp} (h : Aqw n f g) : Aqw n g f := ⟨h.1, h.2.1, h.2.2.2.1, h.2.2.1, h.2.2.2.2.2, h.2.2.2.2.1⟩
theorem Aqw.ops {n : Int} {f g : SOp} (h : Aqw n f g) : OpR n.toNat f.Arity.toNat f ∧ OpR n.toNat g.Arity.toNat g := by
 obtain ⟨h1, h2, h3, h4, h5, h6⟩ := h
 obtain ⟨a1, a2, a3, a4⟩ := h3
 obtain ⟨b1, b2, b3, b4⟩ := h4
 exact ⟨⟨by omega, by omega, a3, a4⟩, ⟨by omega, by omega, b3, b4⟩⟩
end Go.Proofs.YthagmdhmgailfaaGreat.Ax
namespace Go.Proofs.YthagmdhmgailfaaGreat.Ax
open Go Classical
structure OpQ (n r : Nat) (f : SOp) : Prop where
 ar : f.Arity = r
 le : r ≤ 3
 len : f.Table.length = n ^ r
 fin : Dl f.Table n
theorem OpQ.at {n r : Nat} {f : SOp} (h : OpQ n r f) (hn : n ≤ 8) {y : Nat → Int} (hy : ∀ i, i < r → 0 ≤ y i ∧ y i < n) : (∃ c : Nat, hT n r y = (c : Int) ∧ c < f.Table.length ∧ c < 512) ∧ 0 ≤ nth f.Table (hT n r y).toNat ∧ nth f.Table (hT n r y).toNat < n := by
 obtain ⟨c, h1, h2, h3⟩ := Ash hn (by have := h.le; omega) hy
 rw [← h.len] at h2
 exact ⟨⟨c, h1, h2, h3⟩, by rw [h1, tna0]; exact h.fin _ (Ak h2)⟩
def Ay1 (p : List Int) (n r : Nat) (f : SOp) : Prop := ∀ x y : Nat → Int, (∀ i, i < r → 0 ≤ x i ∧ x i < n) → (∀ i, i < r → 0 ≤ y i ∧ y i < n) → (∀ i, i < r → nth p (x i).toNat = nth p (y i).toNat) → nth p (nth f.Table (hT n r x).toNat).toNat = nth p (nth f.Table (hT n r y).toNat).toNat
theorem Wv {xs : List Int} {m : Nat} (h : xs.length = m) : (List.range m).map (fun j => nth xs j) = xs := by
 refine List.ext_getElem (by simp [h]) fun i h1 h2 => ?_
 simp only [List.getElem_map, List.getElem_range]
 rw [Do h2]
section
variable {n r : Nat} {f : SOp} {p : List Int}
theorem Aem (hp : Bo n p) {v : Int} (hv : 0 ≤ v ∧ v < n) : 0 ≤ nth p v.toNat ∧ nth p v.toNat < n ∧ nth p (nth p v.toNat).toNat = nth p v.toNat := by
 obtain ⟨q1, q2, q3⟩ := hp.2 v.toNat (by omega)
 exact ⟨q1, by omega, q3⟩
theorem Ah2 (h1 : 1 ≤ n) (_hp : Bo n p) {x : Nat → Int} (hx : ∀ i, i < r → 0 ≤ x i ∧ x i < n) {m : Nat} (hm : m < r) {c : Nat} (hc : hT n r x = (c : Int)) (hcn : c < n ^ r) : hT n r (fun i => if i = m then nth p (x m).toNat else x i) = Aey n p (r - 1 - m) c := by
 have e := Awr (by omega) r ((List.range r).map x) (by simp) (A2j hx)
 have hc' : Vo n ((List.range r).map x) = (c : Int) := hc
 rw [hc', tna0] at e
 have hs := Aae p r c m hcn hm
 rw [← hs, e]
 unfold hT
 congr 1
 refine Ih (by simp) fun i hi => ?_
 have hi : i < r := by simpa using hi
 have el : ∀ (y : Nat → Int) j, j < r → nth ((List.range r).map y) j = y j := fun y j hj => by rw [Ki _ (by simpa using hj), Aeu hj]
 rw [W1 _ _ _ _ (by simpa using hi), el _ i hi, el x i hi, el x m hm]
 by_cases h : i = m
 ·rw [if_pos h, if_pos h.symm]
 ·rw [if_neg h, if_neg (fun hh => h hh.symm)]
theorem Am6 (h1 : 1 ≤ n) (h8 : n ≤ 8) (hp : Bo n p) (hf : OpQ n r f) : (∀ e, e < r → ∀ i, i < f.Table.length → nth p (nth f.Table i).toNat = nth p (nth f.Table (Aey n p e i).toNat).toNat) ↔ Ay1 p n r f := by
 constructor
 ·intro h x y hx hy hxy
  have key : ∀ x : Nat → Int, (∀ i, i < r → 0 ≤ x i ∧ x i < n) → ∀ m, m ≤ r → nth p (nth f.Table (hT n r x).toNat).toNat = nth p (nth f.Table (hT n r fun i => if i < m then nth p (x i).toNat else x i).toNat).toNat := by
   intro x hx m
   induction m with
   | zero => intro _; rw [Yr (z := x) fun i _ => if_neg (by omega)]
   | succ m ih =>
     intro hm
     rw [ih (by omega)]
     have hz : ∀ i, i < r → 0 ≤ (if i < m then nth p (x i).toNat else x i) ∧ (if i < m then nth p (x i).toNat else x i) < n := fun i hi => by
      split
      ·have := Aem hp (hx i hi); omega
      ·exact hx i hi
     obtain ⟨⟨c, c1, c2, _⟩, _⟩ := hf.at h8 hz
     have hs := Ah2 (m := m) h1 hp hz (by omega) c1 (by rw [← hf.len]; exact c2)
     rw [c1, tna0, h (r - 1 - m) (by omega) c c2, ← hs]
     congr 4
     refine Yr fun i _ => ?_
     by_cases him : i = m
     ·subst him
      rw [if_pos rfl, if_neg (by omega), if_pos (by omega)]
     ·rw [if_neg him]
      by_cases hl : i < m
      ·rw [if_pos hl, if_pos (by omega)]
      ·rw [if_neg hl, if_neg (by omega)]
  rw [key x hx r (Nat.le_refl _), key y hy r (Nat.le_refl _)]
  congr 4
  exact Yr fun i hi => by rw [if_pos hi, if_pos hi, hxy i hi]
 ·intro h e he i hi
  rw [hf.len] at hi
  have hx : ∀ j, j < r → 0 ≤ nth (D1 n r i) j ∧ nth (D1 n r i) j < n := fun j hj => Wo (by omega) r i _ (Ak (by rw [H2]; exact hj))
  have e0 : hT n r (fun j => nth (D1 n r i) j) = (i : Int) := by
   unfold hT
   rw [Wv (H2 n r i), Abt (by omega) r i hi]
  have hs := Ah2 (m := r - 1 - e) h1 hp hx (by omega) e0 hi
  rw [show r - 1 - (r - 1 - e) = e by omega] at hs
  have := h (fun j => nth (D1 n r i) j) (fun j => if j = r - 1 - e then nth p (nth (D1 n r i) (r - 1 - e)).toNat else nth (D1 n r i) j) hx (fun j hj => by
   split
   ·have := Aem hp (hx (r - 1 - e) (by omega)); omega
   ·exact hx j hj) (fun j hj => by
   split
   ·rename_i hje
    subst hje
    exact (Aem hp (hx _ hj)).2.2.symm
   ·rfl)
  rw [hs, e0, tna0] at this
  exact this
end
section
variable {a : SAlgebra} {n : Nat} {p : List Int}
theorem Auj (ga : Bs a) (hn : a.Size = n) {o : Nat} (ho : o < a.Ops.length) : OpQ n (nth a.Ops o).Arity.toNat (nth a.Ops o) ∧ Arr n (nth a.Ops o) := by
 obtain ⟨r, r1, r2, r3, r4, _⟩ := opX ga hn ho
 have e : (nth a.Ops o).Arity.toNat = r := by omega
 have hn' : a.Size.toNat = n := by omega
 refine ⟨⟨by omega, by omega, by rw [e]; exact r3, r4⟩, ?_⟩
 have := ga.2.2.2 _ (Ak ho)
 rwa [hn'] at this
end
end Go.Proofs.YthagmdhmgailfaaGreat.Ax
namespace Go.Proofs.YthagmdhmgailfaaGreat.Ax
open Go Classical
def Ek (n : Nat) : List Int := (List.range n).map fun i : Nat => (i : Int)
end Go.Proofs.YthagmdhmgailfaaGreat.Ax
namespace Go.Proofs.YthagmdhmgailfaaGreat.Ax
open Go Classical
section
theorem Ll {n : Nat} (hn : n ≤ 1000) : B8 n = some (Ek n) := by
 unfold B8
 have key := Gw (body := Cp n) (fun i => ((i : Int), Ek i)) n (Ek n) (fun i hi => by
  unfold Cp
  dsimp only
  have hl : (Ek i).length = i := by simp [Ek]
  rw [if_pos (by omega), Ae (by rw [A9]; simp only [List.length_cons, List.length_nil]; omega), Ae (by unfold InI; omega)]
  have e : Ek (i + 1) = Ek i ++ [(i : Int)] := by simp [Ek, List.range_succ]
  rw [e]; rfl) (by
  unfold Cp
  dsimp only
  rw [if_neg (by omega)])
 have key' : Al (Cp n) (0, Aq Int) = _ := key
 rw [key']; rfl
end
end Go.Proofs.YthagmdhmgailfaaGreat.Ax
namespace Go.Proofs.YthagmdhmgailfaaGreat.Ax
open Go
def Cur (k : Nat) (c : Sl1Cur) : Prop := (∀ x ∈ c.code, 0 ≤ x ∧ x ≤ 255) ∧ c.code.length ≤ 65536 ∧ 0 ≤ c.at_ ∧ c.at_ ≤ k
theorem Cur.mono {k l : Nat} {c : Sl1Cur} (h : Cur k c) (hl : k ≤ l) : Cur l c := ⟨h.1, h.2.1, h.2.2.1, by have := h.2.2.2; omega⟩
theorem Ayq {n : Int} (h0 : 0 ≤ n) (h1 : n ≤ 255) : IntKind.u64.wrap n = n := by
 simp [IntKind.wrap, IntKind.bits, IntKind.signed]
 omega
theorem Am8 {c : Sl1Cur} {k : Nat} (h : Cur k c) (hk : k ≤ 1000000000) : ∃ r d, Fa c = some (r, d) ∧ Cur (k + 1) d ∧ 0 ≤ r ∧ r ≤ 255 := by
 obtain ⟨h1, h2, h3, h4⟩ := h
 unfold Fa
 have fin : ∀ q : Int, 0 ≤ q → q ≤ 255 → ∃ r d, (ask (InI (c.at_ + 1)) <|
   if c.at_ + 1 ≤ (c.code.length : Int) then
    some (q, ({ code := c.code, at_ := c.at_ + 1, seed := IntKind.u64.wrap (IntKind.u64.wrap (IntKind.u64.wrap (c.seed * 6364136223846793005) + IntKind.u64.wrap q) + 550289) } : Sl1Cur))
   else some (IntKind.i64.wrap (IntKind.u64.wrap (((BitVec.ofInt IntKind.u64.bits ((IntKind.u64.wrap (IntKind.u64.wrap (IntKind.u64.wrap (c.seed * 6364136223846793005) + IntKind.u64.wrap q) + 550289)).fdiv (2 ^ min (Int.toNat 40) IntKind.u64.bits)) &&& BitVec.ofInt IntKind.u64.bits 255).toNat : Nat) : Int)),
    ({ code := c.code, at_ := c.at_ + 1, seed := IntKind.u64.wrap (IntKind.u64.wrap (IntKind.u64.wrap (c.seed * 6364136223846793005) + IntKind.u64.wrap q) + 550289) } : Sl1Cur))) = some (r, d) ∧ Cur (k + 1) d ∧ 0 ≤ r ∧ r ≤ 255 := by
  intro q hq0 hq1
  rw [Ae (by unfold InI; omega)]
  split
  ·exact ⟨_, _, rfl, ⟨h1, h2, by show 0 ≤ c.at_ + 1; omega, by show c.at_ + 1 ≤ ((k + 1 : Nat) : Int); omega⟩, hq0, hq1⟩
  ·refine ⟨_, _, rfl, ⟨h1, h2, by show 0 ≤ c.at_ + 1; omega, by show c.at_ + 1 ≤ ((k + 1 : Nat) : Int); omega⟩, ?_⟩
   generalize BitVec.ofInt IntKind.u64.bits ((IntKind.u64.wrap (IntKind.u64.wrap (IntKind.u64.wrap (c.seed * 6364136223846793005) + IntKind.u64.wrap q) + 550289)).fdiv (2 ^ min (Int.toNat 40) IntKind.u64.bits)) = b
   have hb : (b &&& BitVec.ofInt IntKind.u64.bits 255).toNat ≤ 255 := by
    rw [BitVec.toNat_and]
    have : (BitVec.ofInt IntKind.u64.bits 255).toNat = 255 := by decide
    rw [this]
    exact Nat.and_le_right
   generalize (b &&& BitVec.ofInt IntKind.u64.bits 255).toNat = z at hb
   rw [Ayq (by omega) (by omega), Z9 (by omega) (by omega)]
   omega
 by_cases hc : c.at_ < (c.code.length : Int)
 ·rw [if_pos hc, Ae ⟨h3, hc⟩]
  have hm := h1 _ (Ak (xs := c.code) (i := c.at_.toNat) (by omega))
  rw [Z9 (by omega) (by omega)]
  simp only [obs0]
  exact fin _ hm.1 hm.2
 ·rw [if_neg hc]
  simp only [obs0]
  exact fin 0 (by omega) (by omega)
theorem Ep {c : Sl1Cur} {k : Nat} (h : Cur k c) (hk : k ≤ 900000000) (n : Int) : ∃ r d, Av c n = some (r, d) ∧ Cur (k + 2) d ∧ 0 ≤ r ∧ (r < n ∨ (n ≤ 1 ∧ r = 0)) := by
 unfold Av
 by_cases h1 : n ≤ 1
 ·rw [if_pos h1]; exact ⟨0, c, rfl, h.mono (by omega), by omega, .inr ⟨h1, rfl⟩⟩
 ·rw [if_neg h1]
  obtain ⟨r, d, e, hd, a1, a2⟩ := Am8 h (by omega)
  simp only [e, obs0]
  by_cases h2 : n > 200
  ·rw [if_pos h2, Ae (by unfold InI; omega)]
   obtain ⟨r2, d2, e2, hd2, b1, b2⟩ := Am8 hd (by omega)
   simp only [e2, obs0]
   rw [Ae (by unfold InI; omega), Ae (by omega)]
   refine ⟨_, _, rfl, hd2, Int.tmod_nonneg _ (by omega), .inl ?_⟩
   exact Int.tmod_lt_of_pos _ (by omega)
  ·rw [if_neg h2, Ae (by omega)]
   refine ⟨_, _, rfl, hd.mono (by omega), Int.tmod_nonneg _ (by omega), .inl ?_⟩
   exact Int.tmod_lt_of_pos _ (by omega)
theorem Aik {c : Sl1Cur} {k : Nat} (h : Cur k c) (hk : k ≤ 900000000) (n : Int) : ∃ b d, El c n = some (b, d) ∧ Cur (k + 2) d := by
 unfold El
 obtain ⟨r, d, e, hd, _, _⟩ := Ep h hk n
 simp only [e, obs0]
 exact ⟨_, _, rfl, hd⟩
theorem Hd {c : Sl1Cur} {k : Nat} (h : Cur k c) (hk : k ≤ 900000000) (l : List Int) (h0 : 0 < l.length) : ∃ r d, Bc c l = some (r, d) ∧ Cur (k + 2) d ∧ r ∈ l := by
 unfold Bc
 obtain ⟨r, d, e, hd, a1, a2⟩ := Ep h hk (l.length : Int)
 simp only [e, obs0]
 rw [Ae (by omega)]
 exact ⟨_, _, rfl, hd, Ak (by omega)⟩
open Classical
end Go.Proofs.YthagmdhmgailfaaGreat.Ax
namespace Go.Proofs.YthagmdhmgailfaaGreat.Ax
open Go Classical
def Apk (n r k : Nat) (S : Nat → Bool) : Prop := ∀ x ∈ D1 n r k, S x.toNat = true
theorem Ar4 {n r k : Nat} {S T : Nat → Bool} (h : ∀ z, S z = true → T z = true) (hi : Apk n r k S) : Apk n r k T := fun x hx => h _ (hi x hx)
def Awt (a : SAlgebra) (i k : Nat) : Nat := (nth (nth a.Ops i).Table k).toNat
def Az0 (a : SAlgebra) (i k : Nat) (S : Nat → Bool) : Prop := Apk a.Size.toNat (nth a.Ops i).Arity.toNat k S
def Z1 (a : SAlgebra) (S : Nat → Bool) : Prop := ∀ i, i < a.Ops.length → ∀ k, k < (nth a.Ops i).Table.length → Az0 a i k S → S (Awt a i k) = true
noncomputable def Ap7 (a : SAlgebra) (S : Nat → Bool) : Nat → Bool := fun z => decide (∀ T : Nat → Bool, (∀ x, S x = true → T x = true) → Z1 a T → T z = true)
theorem Anb {a : SAlgebra} {S : Nat → Bool} (z : Nat) (h : S z = true) : Ap7 a S z = true := dtr0 fun _ hT _ => hT z h
theorem Ary {a : SAlgebra} {S : Nat → Bool} : Z1 a (Ap7 a S) := by
 intro i hi k hk ha
 refine dtr0 fun T hT hc => ?_
 exact hc i hi k hk fun x hx => of_decide_eq_true (ha x hx) T hT hc
theorem Auc {a : SAlgebra} {S T : Nat → Bool} (hT : ∀ x, S x = true → T x = true) (hc : Z1 a T) (z : Nat) (h : Ap7 a S z = true) : T z = true := of_decide_eq_true h T hT hc
theorem Axh {a : SAlgebra} {S : Nat → Bool} (hc : Z1 a S) : Ap7 a S = S := by
 funext z
 cases h : S z with
 | true => exact Anb z h
 | false =>
   cases h2 : Ap7 a S z with
   | false => rfl
   | true => rw [Auc (fun _ h => h) hc z h2] at h; cases h
def A1d (H : List Bool) : Nat := H.count true
section
variable {a : SAlgebra}
structure ReadyA (a : SAlgebra) (n : Nat) : Prop where
 good : Bs a
 sz : a.Size = (n : Int)
 pos : 0 < n
 le : n ≤ 8
theorem ReadyA.nat {n : Nat} (h : ReadyA a n) : a.Size.toNat = n := by have := h.sz; omega
theorem ReadyA.op {n : Nat} (h : ReadyA a n) {i : Nat} (hi : i < a.Ops.length) : ∃ r : Nat, (nth a.Ops i).Arity = (r : Int) ∧ r ≤ 3 ∧ (nth a.Ops i).Table.length = n ^ r ∧ Dl (nth a.Ops i).Table n ∧ (nth a.Ops i).Table.length ≤ 512 ∧ (∀ k S, Az0 a i k S ↔ Apk n r k S) := by
 have := h.good.2.2.2 _ (Ak hi)
 rw [h.nat] at this
 obtain ⟨h1, h2, h3, h4⟩ := this
 refine ⟨(nth a.Ops i).Arity.toNat, by omega, by omega, h3, h4, ?_, fun k S => by unfold Az0; rw [h.nat]⟩
 rw [h3]; exact Zm h.le (by omega)
theorem ReadyA.val {n : Nat} (h : ReadyA a n) {i k : Nat} (hi : i < a.Ops.length) (hk : k < (nth a.Ops i).Table.length) : nth (nth a.Ops i).Table k = (Awt a i k : Int) ∧ Awt a i k < n := by
 obtain ⟨r, _, _, _, h4, _⟩ := h.op hi
 have := h4 _ (Ak hk)
 unfold Awt
 omega
structure Pass (n : Nat) (G : Nat → Bool) (c0 : Bool) (H0 : List Bool) (c : Bool) (H : List Bool) (done : (Nat → Bool) → Prop) : Prop where
 len : H.length = n
 more : ∀ z, nth H0 z = true → nth H z = true
 low : ∀ z, nth H z = true → G z = true
 up : c = true → c0 = true ∨ A1d H0 < A1d H
 no : c = false → c0 = false ∧ H = H0 ∧ done (nth H)
 mono : A1d H0 ≤ A1d H
def At6 (a : SAlgebra) (n : Nat) (xs : List Int) : Prop := Dl xs n ∧ Aa6 xs ∧ Cs n (Ap7 a fun z => decide ((z : Int) ∈ xs)) = xs
theorem As0 {n : Nat} (h : ReadyA a n) {xs : List Int} : At6 a n xs ↔ Dl xs n ∧ Aa6 xs ∧ Z1 a fun z => decide ((z : Int) ∈ xs) := by
 constructor
 ·rintro ⟨h1, h2, h3⟩
  refine ⟨h1, h2, fun i hi k hk ha => ?_⟩
  have hv := (h.val hi hk).2
  have h4 : Ap7 a (fun z => decide ((z : Int) ∈ xs)) (Awt a i k) = true := Ary i hi k hk (Ar4 (fun z hz => Anb z hz) ha)
  have h5 : ((Awt a i k : Nat) : Int) ∈ Cs n (Ap7 a fun z => decide ((z : Int) ∈ xs)) := Vg.2 ⟨_, hv, h4, rfl⟩
  rw [h3] at h5
  exact dtr0 h5
 ·rintro ⟨h1, h2, h3⟩
  exact ⟨h1, h2, by rw [Axh h3]; exact At9 h1 h2⟩
end
end Go.Proofs.YthagmdhmgailfaaGreat.Ax
namespace Go.Proofs.YthagmdhmgailfaaGreat.Ax
open Go Classical
theorem Ave {α β : Type} {o : Option α} {k : α → Option β} {Q : α → Prop} {R : β → Prop} (h : ∃ a, o = some a ∧ Q a) (h2 : ∀ a, Q a → ∃ b, k a = some b ∧ R b) : ∃ b, o.bind k = some b ∧ R b := by
 obtain ⟨a, e, hq⟩ := h
 rw [e]; exact h2 a hq
theorem A3y {β : Type} {c : Prop} [Decidable c] {x y : Option β} {R : β → Prop} (h1 : c → ∃ b, x = some b ∧ R b) (h2 : ¬ c → ∃ b, y = some b ∧ R b) : ∃ b, (if c then x else y) = some b ∧ R b := by
 split
 ·exact h1 ‹_›
 ·exact h2 ‹_›
def Xb (a : SAlgebra) : Prop := a.Ops.length ≤ 10 ∧ ∀ f ∈ a.Ops, f.Table.length ≤ 101
theorem Zc {a : SAlgebra} (h : Xb a) : Ni a := ⟨by have := h.1; omega, fun f hf => by have := h.2 f hf; omega⟩
theorem Aqp (s : ByteArray) (hs : s.size ≤ 100) : ∃ f, A7 s = some f ∧ f.Table.length ≤ 100 := by
 have hL := A9
 unfold A7
 obtain ⟨f, e, hf⟩ := Bv (body := Gc s) (fun t => ∃ j : Nat, t.1 = (j : Int) ∧ j ≤ s.size ∧ t.2.Table.length ≤ j) (fun t => s.size - t.1.toNat) (fun f => f.Table.length ≤ 100) (fun t ht => by
  obtain ⟨x4, x3⟩ := t
  obtain ⟨j, g1, g2, g3⟩ := ht
  simp only at g1 g2 g3
  subst g1
  unfold Gc
  dsimp only
  by_cases hj : (j : Int) < (s.size : Int)
  ·left
   rw [if_pos hj, Ae (by omega), Ae (by simp; omega), Ae (by unfold InI; omega)]
   exact ⟨_, rfl, ⟨j + 1, rfl, by omega, by simp; omega⟩, by simp only; omega⟩
  ·right
   rw [if_neg hj]
   exact ⟨_, rfl, by omega⟩) (s := ((0 : Int), ({ Arity := 2, Table := Aq Int } : SOp))) ⟨0, rfl, Nat.zero_le _, by simp [Aq]⟩
 rw [e]
 exact ⟨_, rfl, hf⟩
theorem Aq2 {n : Int} (hn : n = 2 ∨ n = 3) : ∃ f, Gu n = some f ∧ f.Table.length ≤ 100 := by
 have hL := A9
 unfold Gu
 obtain ⟨f, e, hf⟩ := Bv (body := Ga n) (fun t => ∃ j : Nat, t.1 = (j : Int) ∧ j ≤ 27 ∧ t.2.Table.length ≤ j) (fun t => 27 - t.1.toNat) (fun f => f.Table.length ≤ 100) (fun t ht => by
  obtain ⟨x4, x3⟩ := t
  obtain ⟨j, g1, g2, g3⟩ := ht
  simp only at g1 g2 g3
  subst g1
  unfold Ga
  dsimp only
  have d1 : ∀ m : Int, (j : Int).tdiv m = (j : Int) / m := fun m => Int.tdiv_eq_ediv_of_nonneg (by omega)
  have d2 : ∀ m : Int, (j : Int).tmod m = (j : Int) % m := fun m => Int.tmod_eq_emod_of_nonneg (by omega)
  rw [d1, d1, d2]
  rcases hn with rfl | rfl
  ·have d3 : ((j : Int) / 2).tmod 2 = ((j : Int) / 2) % 2 := Int.tmod_eq_emod_of_nonneg (by omega)
   rw [d3]
   by_cases hj : (j : Int) < 2 * 2 * 2
   ·left
    rw [Ae (by unfold InI; omega), Ae (by unfold InI; omega), if_pos hj]
    rw [Ae (by unfold InI; omega), Ae (by unfold InI; omega), Ae (by unfold InI; omega), Ae (by unfold InI; omega), Ae (by omega), Ae (by unfold InI; omega), Ae (by omega), Ae (by unfold InI; omega), Ae (by omega), Ae (by simp; omega), Ae (by unfold InI; omega)]
    exact ⟨_, rfl, ⟨j + 1, rfl, by omega, by simp; omega⟩, by simp only; omega⟩
   ·right
    rw [Ae (by unfold InI; omega), Ae (by unfold InI; omega), if_neg hj]
    exact ⟨_, rfl, by omega⟩
  ·have d3 : ((j : Int) / 3).tmod 3 = ((j : Int) / 3) % 3 := Int.tmod_eq_emod_of_nonneg (by omega)
   rw [d3]
   by_cases hj : (j : Int) < 3 * 3 * 3
   ·left
    rw [Ae (by unfold InI; omega), Ae (by unfold InI; omega), if_pos hj]
    rw [Ae (by unfold InI; omega), Ae (by unfold InI; omega), Ae (by unfold InI; omega), Ae (by unfold InI; omega), Ae (by omega), Ae (by unfold InI; omega), Ae (by omega), Ae (by unfold InI; omega), Ae (by omega), Ae (by simp; omega), Ae (by unfold InI; omega)]
    exact ⟨_, rfl, ⟨j + 1, rfl, by omega, by simp; omega⟩, by simp only; omega⟩
   ·right
    rw [Ae (by unfold InI; omega), Ae (by unfold InI; omega), if_neg hj]
    exact ⟨_, rfl, by omega⟩) (s := ((0 : Int), ({ Arity := 3, Table := Aq Int } : SOp))) ⟨0, rfl, Nat.zero_le _, by simp [Aq]⟩
 rw [e]
 exact ⟨_, rfl, hf⟩
theorem Apg (k : Int) : ∃ a, Jd k = some a ∧ Xb a := by
 have fin0 : ∀ {z : Int}, Xb { Size := z, Ops := Aq SOp } := ⟨by simp [Aq], fun f hf => by simp [Aq] at hf⟩
 have fin1 : ∀ {z : Int} {f : SOp}, f.Table.length ≤ 100 → Xb { Size := z, Ops := [f] } := fun h => ⟨by simp, fun f hf => by simp at hf; subst hf; omega⟩
 have fin2 : ∀ {z : Int} {f g : SOp}, f.Table.length ≤ 100 → g.Table.length ≤ 100 → Xb { Size := z, Ops := [f, g] } := fun h1 h2 => ⟨by simp, fun f hf => by
  simp only [List.mem_cons, List.not_mem_nil, or_false] at hf
  rcases hf with rfl | rfl <;> omega⟩
 have fin3 : ∀ {z : Int} {f g e : SOp}, f.Table.length ≤ 100 → g.Table.length ≤ 100 → e.Table.length ≤ 100 → Xb { Size := z, Ops := [f, g, e] } := fun h1 h2 h3 => ⟨by simp, fun f hf => by
  simp only [List.mem_cons, List.not_mem_nil, or_false] at hf
  rcases hf with rfl | rfl | rfl <;> omega⟩
 unfold Jd
 repeat' (first | refine A3y (fun _ => ?_) (fun _ => ?_) | refine Ave (Aqp _ (by decide)) fun f hf => ?_ | refine Ave (Aq2 (by simp)) fun f hf => ?_)
 all_goals
  first
   | exact ⟨_, rfl, fin0⟩
   | exact ⟨_, rfl, fin1 (by first | assumption | decide)⟩
   | exact ⟨_, rfl, fin2 (by first | assumption | decide) (by first | assumption | decide)⟩
   | exact ⟨_, rfl, fin3 (by first | assumption | decide) (by first | assumption | decide) (by first | assumption | decide)⟩
theorem Aek {c : Sl1Cur} {k : Nat} (h : Cur k c) (hk : k ≤ 600000000) : ∃ a d, Dp c = some (a, d) ∧ Cur (k + 1000) d ∧ Xb a := by
 have hL := A9
 unfold Dp
 obtain ⟨b, d, e, hd⟩ := Aik h (by omega) 4
 rw [e]
 simp only [obs0]
 by_cases hb : b = true
 ·rw [if_pos hb]
  obtain ⟨n, d2, e2, hd2, hn⟩ := Hd hd (by omega) [2, 2, 3, 3, 4] (by simp)
  rw [e2]
  simp only [obs0]
  obtain ⟨m, d3, e3, hd3, hm⟩ := Hd hd2 (by omega) [1, 1, 2] (by simp)
  rw [e3]
  simp only [obs0]
  obtain ⟨N, rfl, hN⟩ : ∃ N : Nat, n = (N : Int) ∧ 2 ≤ N ∧ N ≤ 4 := ⟨n.toNat, by simp at hn; omega, by simp at hn; omega⟩
  obtain ⟨M, rfl, hM⟩ : ∃ M : Nat, m = (M : Int) ∧ 1 ≤ M ∧ M ≤ 2 := ⟨m.toNat, by simp at hm; omega, by simp at hm; omega⟩
  obtain ⟨⟨a, d4⟩, e4, ⟨ha1, ha2, ha3⟩, hd4⟩ := Bv (body := Dt (N : Int)) (fun s => ∃ j : Nat, s.1 = (j : Int) ∧ j ≤ M ∧ s.2.1.Size = (N : Int) ∧ s.2.1.Ops.length = M - j ∧ (∀ f ∈ s.2.1.Ops, 1 ≤ f.Table.length ∧ f.Table.length ≤ 64) ∧ Cur (k + 6 + 200 * (M - j)) s.2.2) (fun s => s.1.toNat)
   (fun t => (t.1.Size = (N : Int) ∧ t.1.Ops.length = M ∧ ∀ f ∈ t.1.Ops, 1 ≤ f.Table.length ∧ f.Table.length ≤ 64) ∧ Cur (k + 500) t.2) (fun s hs => by
   obtain ⟨x6, x5, x1⟩ := s
   obtain ⟨j, g1, g2, g3, g4, g5, g6⟩ := hs
   simp only at g1 g2 g3 g4 g5 g6
   subst g1
   unfold Dt
   dsimp only
   by_cases hj : (j : Int) > 0
   ·left
    rw [if_pos hj]
    obtain ⟨r, d5, e5, hd5, hr⟩ := Hd g6 (by omega) [0, 1, 2, 2, 3] (by simp)
    rw [e5]
    simp only [obs0]
    obtain ⟨R, rfl, hR⟩ : ∃ R : Nat, r = (R : Int) ∧ R ≤ 3 := ⟨r.toNat, by simp at hr; omega, by simp at hr; omega⟩
    have hop : ∃ f : SOp, ((if (N : Int) = 4 then if (R : Int) = 3 then some ({ Arity := 2, Table := Aq Int } : SOp) else some { Arity := (R : Int), Table := Aq Int } else some { Arity := (R : Int), Table := Aq Int } : Option SOp)) = some f ∧ f.Table = [] ∧ ∃ Q : Nat, f.Arity = (Q : Int) ∧ 1 ≤ N ^ Q ∧ N ^ Q ≤ 64 ∧ Q ≤ 3 := by
     by_cases h4 : (N : Int) = 4
     ·rw [if_pos h4]
      have h4 : N = 4 := by omega
      subst h4
      by_cases h3 : (R : Int) = 3
      ·rw [if_pos h3]; exact ⟨_, rfl, rfl, 2, rfl, by decide⟩
      ·rw [if_neg h3]
       refine ⟨_, rfl, rfl, R, rfl, ?_⟩
       have : R = 0 ∨ R = 1 ∨ R = 2 := by omega
       rcases this with rfl | rfl | rfl <;> decide
     ·rw [if_neg h4]
      refine ⟨_, rfl, rfl, R, rfl, ?_⟩
      have h5 : N = 2 ∨ N = 3 := by omega
      have : R = 0 ∨ R = 1 ∨ R = 2 ∨ R = 3 := by omega
      rcases h5 with rfl | rfl <;> rcases this with rfl | rfl | rfl | rfl <;> decide
    obtain ⟨f, ef, ht, Q, hQ, q1, q2, q3⟩ := hop
    rw [ef]
    simp only [obs0]
    rw [hQ, Au6 (by omega) q3]
    simp only [obs0]
    obtain ⟨⟨f2, d6⟩, e6, hf2, hd6⟩ := Bv (body := Ds (N : Int) (j : Int) x5) (fun s => ∃ i : Nat, s.1 = (i : Int) ∧ i ≤ N ^ Q ∧ s.2.1.Table.length = N ^ Q - i ∧ Cur (k + 6 + 200 * (M - j) + 2 + 2 * (N ^ Q - i)) s.2.2) (fun s => s.1.toNat) (fun t => t.1.Table.length = N ^ Q ∧ Cur (k + 6 + 200 * (M - j) + 2 + 2 * N ^ Q) t.2) (fun s hs => by
     obtain ⟨x8, x7, x9⟩ := s
     obtain ⟨i, k1, k2, k3, k4⟩ := hs
     simp only at k1 k2 k3 k4
     subst k1
     unfold Ds
     dsimp only
     by_cases hi : (i : Int) > 0
     ·left
      rw [if_pos hi]
      obtain ⟨v, d7, e7, hd7, _⟩ := Ep k4 (by omega) (N : Int)
      rw [e7]
      simp only [obs0]
      rw [Ae (by simp; omega), Ae (by unfold InI; omega)]
      exact ⟨_, rfl, ⟨i - 1, by simp only; omega, by omega, by simp; omega, hd7.mono (by omega)⟩, by simp only; omega⟩
     ·right
      rw [if_neg hi]
      exact ⟨_, rfl, by simp only; omega, k4.mono (by omega)⟩) (s := (((N ^ Q : Nat) : Int), f, d5)) ⟨N ^ Q, rfl, Nat.le_refl _, by simp [ht], hd5.mono (by omega)⟩
    rw [e6]
    simp only [obs0]
    rw [Ae (by simp; omega), Ae (by unfold InI; omega)]
    simp only at hf2 hd6
    refine ⟨_, rfl, ⟨j - 1, by simp only; omega, by omega, g3, by simp; omega, fun f hf => ?_, hd6.mono (by omega)⟩, by simp only; omega⟩
    rcases List.mem_append.1 hf with h' | h'
    ·exact g5 f h'
    ·rw [List.mem_singleton.1 h']; omega
   ·right
    rw [if_neg hj]
    exact ⟨_, rfl, ⟨g3, by simp only; omega, g5⟩, g6.mono (by omega)⟩) (s := ((M : Int), ({ Size := (N : Int), Ops := Aq SOp } : SAlgebra), d3)) ⟨M, rfl, Nat.le_refl _, rfl, by simp [Aq], fun f hf => by simp [Aq] at hf, hd3.mono (by omega)⟩
  rw [e4]
  simp only [obs0]
  simp only at ha1 ha2 ha3 hd4
  have h0 : 0 < a.Ops.length := by omega
  have hf0 := ha3 _ (Ak h0)
  have ht : Xb a := ⟨by omega, fun f hf => by have := ha3 f hf; omega⟩
  have hset : ∀ {z : Int} {f : SOp}, f.Table.length ≤ 101 → Xb { Size := z, Ops := a.Ops.set (Int.toNat 0) f } := fun hf => ⟨by simp; omega, fun g hg => by
   rcases List.mem_or_eq_of_mem_set hg with h' | h'
   ·have := ha3 g h'; omega
   ·rw [h']; exact hf⟩
  obtain ⟨w, d5, e5, hd5, w0, _⟩ := Ep hd4 (by omega) 16
  rw [e5]
  simp only [obs0]
  by_cases c0 : w = 0
  ·rw [if_pos c0, Ae (by unfold InI; omega)]
   obtain ⟨r, d6, e6, hd6, _⟩ := Hd hd5 (by omega) [0, 9, (N : Int) + 1] (by simp)
   rw [e6]
   exact ⟨_, _, rfl, hd6.mono (by omega), ht⟩
  rw [if_neg c0]
  by_cases c1 : w = 1
  ·rw [if_pos c1, Ae (by omega), Ae (by simp only [Int.toNat_zero, List.length_singleton]; omega)]
   exact ⟨_, _, rfl, hd5.mono (by omega), hset (by simp only [Int.toNat_zero, List.length_append, List.length_singleton]; omega)⟩
  rw [if_neg c1]
  by_cases c2 : w = 2
  ·rw [if_pos c2, Ae (by omega)]
   obtain ⟨r, d6, e6, hd6, r0, r1⟩ := Ep hd5 (by omega) ((nth a.Ops (Int.toNat 0)).Table.length : Int)
   rw [e6]
   simp only [obs0]
   obtain ⟨s, d7, e7, hd7, _⟩ := Hd hd6 (by omega) [-1, (N : Int)] (by simp)
   rw [e7]
   simp only [obs0]
   simp only [Int.toNat_zero] at r1 ⊢
   rw [Ae (by omega)]
   exact ⟨_, _, rfl, hd7.mono (by omega), hset (by simp only [List.length_set]; omega)⟩
  rw [if_neg c2]
  by_cases c3 : w = 3
  ·rw [if_pos c3]
   obtain ⟨r, d6, e6, hd6, _⟩ := Hd hd5 (by omega) [-1, 4] (by simp)
   rw [e6]
   simp only [obs0]
   rw [Ae (by omega)]
   exact ⟨_, _, rfl, hd6.mono (by omega), hset (by simp only [Int.toNat_zero]; omega)⟩
  rw [if_neg c3]
  by_cases c4 : w = 4
  ·rw [if_pos c4]
   obtain ⟨⟨a2, d6⟩, e6, ht2, hd6⟩ := Bv (body := Dr (N : Int)) (fun s => s.1.Ops.length ≤ 5 ∧ (∀ f ∈ s.1.Ops, f.Table.length ≤ 64) ∧ Cur (k + 502 + 2 * s.1.Ops.length) s.2) (fun s => 5 - s.1.Ops.length) (fun t => Xb t.1 ∧ Cur (k + 600) t.2) (fun s hs => by
    obtain ⟨x5, x1⟩ := s
    obtain ⟨g1, g2, g3⟩ := hs
    simp only at g1 g2 g3
    unfold Dr
    dsimp only
    obtain ⟨r, d7, e7, hd7, r0, r1⟩ := Ep g3 (by omega) 2
    rw [e7]
    simp only [obs0]
    rw [Ae (by unfold InI; omega)]
    by_cases hl : (x5.Ops.length : Int) < 4 + r
    ·left
     rw [if_pos hl, Ae (by omega), Ae (by simp; omega)]
     refine ⟨_, rfl, ⟨by simp; omega, fun f hf => ?_, hd7.mono (by simp; omega)⟩, by simp; omega⟩
     rcases List.mem_append.1 hf with h' | h'
     ·exact g2 f h'
     ·rw [List.mem_singleton.1 h']; simp; omega
    ·right
     rw [if_neg hl]
     exact ⟨_, rfl, ⟨by simp only; omega, fun f hf => by have := g2 f hf; omega⟩, hd7.mono (by omega)⟩) (s := (a, d5)) ⟨by simp only; omega, fun f hf => (ha3 f hf).2, hd5.mono (by omega)⟩
   rw [e6]
   exact ⟨_, _, rfl, hd6.mono (by omega), ht2⟩
  rw [if_neg c4]
  exact ⟨_, _, rfl, hd5.mono (by omega), ht⟩
 ·rw [if_neg hb]
  obtain ⟨r, d2, e2, hd2, _⟩ := Ep hd (by omega) 17
  rw [e2]
  simp only [obs0]
  obtain ⟨a, e3, ht⟩ := Apg r
  rw [e3]
  exact ⟨_, _, rfl, hd2.mono (by omega), ht⟩
theorem Avb {code : List Int} (hc : ∀ x ∈ code, 0 ≤ x ∧ x ≤ 255) (hl : code.length ≤ 65536) : Cur 0 ({ code := code, at_ := 0, seed := 0 } : Sl1Cur) := ⟨hc, hl, Int.le_refl _, Int.le_refl _⟩
theorem Aeb {c : Sl1Cur} {k : Nat} (h : Cur k c) (hk : k ≤ 800000000) (a : SAlgebra) : ∃ r d, Dq c a = some (r, d) ∧ Cur (k + 4) d := by
 unfold Dq
 by_cases h0 : a.Size < 1
 ·rw [if_pos h0]
  obtain ⟨r, d, e, hd, _⟩ := Hd h (by omega) [-1, a.Size] (by simp)
  rw [e]
  exact ⟨_, _, rfl, hd.mono (by omega)⟩
 ·rw [if_neg h0]
  obtain ⟨b, d, e, hd⟩ := Aik h (by omega) 24
  rw [e]
  simp only [obs0]
  by_cases hb : b = true
  ·rw [if_pos hb]
   obtain ⟨r, d2, e2, hd2, _⟩ := Hd hd (by omega) [-1, a.Size] (by simp)
   rw [e2]
   exact ⟨_, _, rfl, hd2.mono (by omega)⟩
  ·rw [if_neg hb]
   obtain ⟨r, d2, e2, hd2, _⟩ := Ep hd (by omega) a.Size
   rw [e2]
   exact ⟨_, _, rfl, hd2.mono (by omega)⟩
end Go.Proofs.YthagmdhmgailfaaGreat.Ax
namespace Go.Proofs.YthagmdhmgailfaaGreat.Ax
open Go Classical
theorem Gs {body : (Int × List Int) → Option ((Int × List Int) ⊕ List Int)} (N : Nat) (Inv : Nat → List Int → Prop) (h : ∀ i q, i < N → Inv i q → ∃ q', body ((i : Int), q) = some (.inl (((i + 1 : Nat) : Int), q')) ∧ Inv (i + 1) q')
  (he : ∀ q, Inv N q → body ((N : Int), q) = some (.inr q)) (q : List Int) (hq : Inv 0 q) : ∃ r, Al body (0, q) = some r ∧ Inv N r := by
 obtain ⟨t, e, ht⟩ := Bv (body := body) (fun s => ∃ i : Nat, s.1 = (i : Int) ∧ i ≤ N ∧ Inv i s.2) (fun s => N - s.1.toNat) (fun t => Inv N t) (by
  rintro ⟨x, q⟩ ⟨i, rfl, h1, h2⟩
  dsimp only at h2
  by_cases hi : i < N
  ·obtain ⟨q', e, h3⟩ := h i q hi h2
   exact .inl ⟨_, e, ⟨i + 1, rfl, hi, h3⟩, by dsimp only; omega⟩
  ·have : i = N := by omega
   subst this
   exact .inr ⟨_, he q h2, h2⟩) (s := ((0 : Int), q)) ⟨0, rfl, Nat.zero_le _, hq⟩
 exact ⟨t, e, ht⟩
section
variable {a : SAlgebra} {n : Nat}
def Aip (a : SAlgebra) (n : Nat) (p : List Int) (x y : Nat) : Prop := ∃ o i e, o < a.Ops.length ∧ e < (nth a.Ops o).Arity.toNat ∧ i < (nth a.Ops o).Table.length ∧ (x : Int) = nth (nth a.Ops o).Table i ∧ (y : Int) = nth (nth a.Ops o).Table (Aey n p e i).toNat
variable (Inv : List Int → Prop) (hI : ∀ q, Inv q → okP n q)
include hI
theorem Amu (ga : Bs a) (hn : a.Size = n) {p : List Int} (hp : okP n p) (hm : ∀ q (x y : Nat), Inv q → x < n → y < n → Aip a n p x y → Inv (mg q (nth q x) (nth q y))) (h0 : Inv p) : ∃ t, D3 a p = some t ∧ Inv t ∧ (t = p ↔ Abi a n p) := by
 have h8 := ga.2.1
 have hpl := hp.1
 obtain ⟨t0, f1, f2, f3⟩ := Art ga hn hp
 have key : ∃ t, D3 a p = some t ∧ Inv t := by
  unfold D3
  rw [Aie _ (by rw [A9]; omega)]
  simp only [obs0]
  obtain ⟨t, e1, e2⟩ := Gs (body := C1 a p) a.Ops.length (fun _ => Inv) (fun o q ho hq => by
   obtain ⟨r, r3, hr, hT, hTi, h512, hn0, hn8⟩ := opX ga hn ho
   have h20 := ga.2.2.1
   obtain ⟨t, e1, e2⟩ := Gs (body := Cd a p (o : Int)) (nth a.Ops o).Table.length (fun _ => Inv) (fun i q hi hq => by
    have hal := H2 n r i
    obtain ⟨t, e1, e2⟩ := Gs (body := Cc a p (o : Int) (i : Int) (D1 n r i)) r (fun _ => Inv) (fun k q hk hq => by
     have hqo := hI q hq
     have hin := Ast hn0 hp (i := i) hk
     have hsw := Aae (n := n) p r i k (by omega) hk
     obtain ⟨c, hc, hc2⟩ := Ad0 hn0 hp (r := r) (i := i) (e := r - 1 - k) (by omega) (by omega)
     have y0 := Wo hn0 r i _ (Ak (show k < (D1 n r i).length by omega))
     have y1 := hTi _ (Ak (show i < (nth a.Ops o).Table.length from hi))
     have y2 := hTi _ (Ak (show c < (nth a.Ops o).Table.length by omega))
     have hql := hqo.1
     have hv := Au9 hn8 hn ho (xs := (D1 n r i).set k (nth p (nth (D1 n r i) k).toNat)) (by rw [List.length_set]; omega) hin (by rw [List.length_set, hal]; exact hT)
     rw [hsw, hc, tna0] at hv
     have hu := Ly (p := q) (by omega) (X := nth (nth a.Ops o).Table i) (Y := nth (nth a.Ops o).Table c) (by omega) (by omega)
     unfold Cc
     dsimp only
     rw [if_pos (by omega), Aie _ (by rw [A9]; omega)]
     simp only [obs0, tna0]
     rw [Ae (by omega), Ae (by omega), Ae (by omega), Ae (by omega), Ae (by omega), hv]
     simp only [obs0]
     rw [hu]
     simp only [obs0]
     rw [Ae (by unfold InI; omega)]
     refine ⟨_, rfl, hm q (nth (nth a.Ops o).Table i).toNat (nth (nth a.Ops o).Table c).toNat hq (by omega) (by omega) ⟨o, i, r - 1 - k, ho, by omega, hi, by omega, ?_⟩⟩
     rw [hc, tna0]; omega) (fun q _ => by
     unfold Cc
     dsimp only
     rw [if_neg (by omega)]) q hq
    refine ⟨t, ?_, e2⟩
    unfold Cd
    dsimp only
    rw [Ae (by omega), tna0, if_pos (by omega), Ae (by omega), hn, hr, Aqj hn0 hn8 r3 (by omega)]
    simp only [obs0]
    rw [e1]
    simp only [obs0]
    rw [Ae (by unfold InI; omega)]
    rfl) (fun q _ => by
    unfold Cd
    dsimp only
    rw [Ae (by omega), tna0, if_neg (by omega)]) q hq
   refine ⟨t, ?_, e2⟩
   unfold C1
   dsimp only
   rw [if_pos (by omega), e1]
   simp only [obs0]
   rw [Ae (by unfold InI; omega)]
   rfl) (fun q _ => by
   unfold C1
   dsimp only
   rw [if_neg (by omega)]) p h0
  rw [e1]
  exact ⟨t, rfl, e2⟩
 obtain ⟨t, e, ht⟩ := key
 rw [f1] at e
 cases e
 exact ⟨t0, f1, ht, f3⟩
theorem As1 (ga : Bs a) (hn : a.Size = n) (hm : ∀ p q (x y : Nat), Inv p → Inv q → x < n → y < n → Aip a n p x y → Inv (mg q (nth q x) (nth q y))) {p : List Int} (h0 : Inv p) : ∃ t, E7 a p = some t ∧ Inv t := by
 have h8 := ga.2.1
 have h1 := ga.1
 unfold E7
 obtain ⟨t, e1, e2⟩ := Gs (body := Ck a) n (fun _ => Inv) (fun i q hi hq => by
  obtain ⟨t, e, ht, _⟩ := Amu Inv hI ga hn (hI q hq) (fun q' x y h hx hy hp => hm q q' x y hq h hx hy hp) hq
  unfold Ck
  dsimp only
  rw [if_pos (by omega), e]
  simp only [obs0]
  rw [Ae (by unfold InI; omega)]
  exact ⟨t, rfl, ht⟩) (fun q _ => by
  unfold Ck
  dsimp only
  rw [if_neg (by omega)]) p h0
 rw [e1]
 exact ⟨t, rfl, e2⟩
end
section
variable {a : SAlgebra} {n : Nat}
theorem Qd (n : Nat) : okP n (Ek n) := by
 refine ⟨by simp [Ek], fun z hz => ?_⟩
 unfold Ek at hz
 simp only [List.mem_map, List.mem_range] at hz
 obtain ⟨i, hi, rfl⟩ := hz
 omega
theorem Aho (ga : Bs a) (hn : a.Size = n) {x y : Nat} (hx : x < n) (hy : y < n) : ∃ t, Dm a (x : Int) (y : Int) = some t ∧ okP n t := by
 have h8 := ga.2.1
 have hu := Qd n
 have hul := hu.1
 unfold Dm
 rw [hn, Ll (by omega)]
 simp only [obs0]
 rw [Ly (by omega) (by omega) (by omega), tna0, tna0]
 simp only [obs0]
 obtain ⟨t, e, ht⟩ := As1 (okP n) (fun _ h => h) ga hn (fun p q x y _ hq hx hy _ => Aq1 hq hx hy) (Aq1 hu hx hy)
 rw [e]
 exact ⟨t, rfl, ht⟩
theorem At0 {p q : List Int} (h8 : n ≤ 1000) (hp : okP n p) (hq : okP n q) : ∃ t, He p q = some t ∧ okP n t := by
 have hpl := hp.1
 have hql := hq.1
 unfold He
 rw [Aie _ (by rw [A9]; omega)]
 simp only [obs0]
 obtain ⟨t, e1, e2⟩ := Gs (body := C0 q) n (fun _ => okP n) (fun i w hi hw => by
  have hwl := hw.1
  have hqi := hq.2 _ (Ak (show i < q.length by omega))
  unfold C0
  dsimp only
  rw [if_pos (by omega), Ae (by omega), tna0, Ly (by omega) (by omega) (by omega), tna0]
  simp only [obs0]
  rw [Ae (by unfold InI; omega)]
  exact ⟨_, rfl, Aq1 hw hi (by omega)⟩) (fun w _ => by
  unfold C0
  dsimp only
  rw [if_neg (by omega)]) p hp
 rw [e1]
 exact ⟨t, rfl, e2⟩
theorem Am7 {L : List (List Int)} {p : List Int} (h8 : n ≤ 1000) (hL : L.length ≤ 100000) (hr : ∀ r ∈ L, r.length = n) (hp : p.length = n) : ∃ M, G4 L p = some M ∧ (M = L ∨ ∃ k, k ≤ L.length ∧ M = L.take k ++ [p] ++ L.drop k) := by
 have hLim := A9
 unfold G4
 obtain ⟨t, e, t0, t1⟩ := Bv (body := Fm L p) (fun s => 0 ≤ s ∧ s ≤ L.length) (fun s => L.length - s.toNat) (fun t => 0 ≤ t ∧ t ≤ L.length) (by
  rintro s ⟨s0, s1⟩
  obtain ⟨i, rfl⟩ := Int.eq_ofNat_of_zero_le s0
  unfold Fm
  by_cases hi : i < L.length
  ·have hri := hr _ (Ak hi)
   rw [if_pos (by omega), Ae (by omega), tna0, Aaa (by omega), Aaa (by omega)]
   simp only [obs0]
   split
   ·rw [Ae (by unfold InI; omega)]
    exact .inl ⟨_, rfl, ⟨by omega, by omega⟩, by omega⟩
   ·rw [Ae (by omega)]
    split
    ·rw [Ae (by omega), Asf (by omega) (by omega)]
     simp only [obs0]
     split
     ·rw [Ae (by unfold InI; omega)]
      exact .inl ⟨_, rfl, ⟨by omega, by omega⟩, by omega⟩
     ·exact .inr ⟨_, rfl, by omega, by omega⟩
    ·exact .inr ⟨_, rfl, by omega, by omega⟩
  ·rw [if_neg (by omega)]
   exact .inr ⟨_, rfl, by omega, by omega⟩) (s := (0 : Int)) ⟨Int.le_refl _, by omega⟩
 rw [e]
 simp only [obs0]
 obtain ⟨k, rfl⟩ := Int.eq_ofNat_of_zero_le t0
 have fin : ∃ M, (ask (0 ≤ (0 : Int) ∧ 0 ≤ (k : Int) ∧ (k : Int) ≤ ((L.length : Nat) : Int)) <|
  ask ((Aq (List Int)).length + (List.take ((k : Int).toNat - Int.toNat 0) (List.drop (Int.toNat 0) L)).length ≤ LIM) <|
  ask ((Aq (List Int) ++ List.take ((k : Int).toNat - Int.toNat 0) (List.drop (Int.toNat 0) L)).length + ([p]).length ≤ LIM) <|
  ask (0 ≤ (k : Int) ∧ (k : Int) ≤ (L.length : Int) ∧ (L.length : Int) ≤ ((L.length : Nat) : Int)) <|
  ask ((Aq (List Int) ++ List.take ((k : Int).toNat - Int.toNat 0) (List.drop (Int.toNat 0) L) ++ [p]).length + (List.take ((L.length : Int).toNat - (k : Int).toNat) (List.drop (k : Int).toNat L)).length ≤ LIM) <|
  some (Aq (List Int) ++ List.take ((k : Int).toNat - Int.toNat 0) (List.drop (Int.toNat 0) L) ++ [p] ++ List.take ((L.length : Int).toNat - (k : Int).toNat) (List.drop (k : Int).toNat L))) = some M ∧ (M = L ∨ ∃ k, k ≤ L.length ∧ M = L.take k ++ [p] ++ L.drop k) := by
  rw [Ae (by omega), Ae (by simp [Aq]; omega), Ae (by simp [Aq]; omega), Ae (by omega), Ae (by simp [Aq]; omega)]
  refine ⟨_, rfl, .inr ⟨k, by omega, ?_⟩⟩
  rw [tna0, tna0, List.take_of_length_le (l := List.drop k L) (by simp)]
  rfl
 by_cases hk : k < L.length
 ·have hri := hr _ (Ak hk)
  rw [if_pos (by omega), Ae (by omega), tna0, Rg (by omega)]
  simp only [obs0]
  by_cases hs : nth L k = p
  ·rw [dtr0 hs]
   exact ⟨L, rfl, .inl rfl⟩
  ·rw [dfa0 hs]
   exact fin
 ·rw [if_neg (by omega)]
  exact fin
theorem Arb {L M : List (List Int)} {p : List Int} (hM : M = L ∨ ∃ k, k ≤ L.length ∧ M = L.take k ++ [p] ++ L.drop k) (hL : ∀ r ∈ L, okP n r) (hp : okP n p) : (∀ r ∈ M, okP n r) ∧ L.length ≤ M.length ∧ M.length ≤ L.length + 1 := by
 rcases hM with rfl | ⟨k, hk, rfl⟩
 ·exact ⟨hL, Nat.le_refl _, Nat.le_succ _⟩
 ·refine ⟨fun r hr => ?_, by simp; omega, by simp; omega⟩
  rcases List.mem_append.1 hr with h | h
  ·rcases List.mem_append.1 h with h | h
   ·exact hL r (List.mem_of_mem_take h)
   ·rw [List.mem_singleton.1 h]; exact hp
  ·exact hL r (List.mem_of_mem_drop h)
theorem Atv (ga : Bs a) (hn : a.Size = n) {most : Nat} (hm : most ≤ 10000) : ∃ L, Bk a (most : Int) = some L ∧ 1 ≤ L.length ∧ L.length ≤ most + 1 ∧ ∀ r ∈ L, okP n r := by
 have hLim := A9
 have h8 := ga.2.1
 have hu := Qd n
 unfold Bk
 have l1 : ∀ x, x < n → ∀ L : List (List Int), L.length ≤ 8 * x → (∀ r ∈ L, okP n r) → ∃ M, Al (Cw a (most : Int) (x : Int)) (0, L) = some M ∧ M.length ≤ 8 * (x + 1) ∧ ∀ r ∈ M, okP n r := by
  intro x hx L hL hr
  obtain ⟨M, e, h1, h2⟩ := Bv (body := Cw a (most : Int) (x : Int)) (fun s => ∃ i : Nat, s.1 = (i : Int) ∧ i ≤ x ∧ s.2.length ≤ 8 * x + i ∧ ∀ r ∈ s.2, okP n r) (fun s => x - s.1.toNat) (fun M => M.length ≤ 8 * (x + 1) ∧ ∀ r ∈ M, okP n r) (by
   rintro ⟨y, M⟩ ⟨i, rfl, g1, g2, g3⟩
   dsimp only at g2 g3
   unfold Cw
   dsimp only
   by_cases hi : i < x
   ·obtain ⟨t, e, ht⟩ := Aho ga hn hx (show i < n by omega)
    obtain ⟨M', e', hM⟩ := Am7 (n := n) (L := M) (p := t) (by omega) (by omega) (fun r hr => (g3 r hr).1) ht.1
    obtain ⟨q1, q2, q3⟩ := Arb hM g3 ht
    rw [if_pos (by omega), e]
    simp only [obs0]
    rw [e']
    simp only [obs0]
    rw [Ae (by unfold InI; omega)]
    exact .inl ⟨_, rfl, ⟨i + 1, rfl, hi, by dsimp only; omega, q1⟩, by dsimp only; omega⟩
   ·rw [if_neg (by omega)]
    exact .inr ⟨_, rfl, by omega, g3⟩) (s := ((0 : Int), L)) ⟨0, rfl, Nat.zero_le _, by dsimp only; omega, hr⟩
  exact ⟨M, e, h1, h2⟩
 obtain ⟨P, e1, hP1, hP2⟩ := Bv (body := E2 a (most : Int)) (fun s => ∃ i : Nat, s.2 = (i : Int) ∧ i ≤ n ∧ s.1.length ≤ 8 * i ∧ ∀ r ∈ s.1, okP n r) (fun s => n - s.2.toNat) (fun M => M.length ≤ 64 ∧ ∀ r ∈ M, okP n r) (by
  rintro ⟨M, y⟩ ⟨i, rfl, g1, g2, g3⟩
  dsimp only at g2 g3
  unfold E2
  dsimp only
  by_cases hi : i < n
  ·obtain ⟨M', e, q1, q2⟩ := l1 i hi M g2 g3
   rw [if_pos (by omega), e]
   simp only [obs0]
   rw [Ae (by unfold InI; omega)]
   exact .inl ⟨_, rfl, ⟨i + 1, rfl, hi, q1, q2⟩, by dsimp only; omega⟩
  ·rw [if_neg (by omega)]
   exact .inr ⟨_, rfl, by omega, g3⟩) (s := (Aq (List Int), (0 : Int))) ⟨0, rfl, Nat.zero_le _, by simp [Aq], fun r hr => by simp [Aq] at hr⟩
 rw [e1]
 simp only [obs0]
 rw [hn, Ll (by omega)]
 simp only [obs0]
 have l3 : ∀ x (W O : List (List Int)), x < W.length → W.length = O.length → 1 ≤ O.length → O.length ≤ most + 1 → (∀ r ∈ W, okP n r) → (∀ r ∈ O, okP n r) → ∃ W' O', Al (Cx (most : Int) P (x : Int)) (0, W, O) = some (W', O') ∧ W.length ≤ W'.length ∧ W'.length = O'.length ∧ 1 ≤ O'.length ∧ O'.length ≤ most + 1 ∧ (∀ r ∈ W', okP n r) ∧ (∀ r ∈ O', okP n r) := by
  intro x W O hx hWO h1 hO hW hOr
  obtain ⟨⟨W', O'⟩, e, h⟩ := Bv (body := Cx (most : Int) P (x : Int)) (fun s => ∃ i : Nat, s.1 = (i : Int) ∧ i ≤ P.length ∧ W.length ≤ s.2.1.length ∧ s.2.1.length = s.2.2.length ∧ 1 ≤ s.2.2.length ∧ s.2.2.length ≤ most + 1 ∧ (∀ r ∈ s.2.1, okP n r) ∧ (∀ r ∈ s.2.2, okP n r)) (fun s => P.length - s.1.toNat)
   (fun s => W.length ≤ s.1.length ∧ s.1.length = s.2.length ∧ 1 ≤ s.2.length ∧ s.2.length ≤ most + 1 ∧ (∀ r ∈ s.1, okP n r) ∧ (∀ r ∈ s.2, okP n r)) (by
   rintro ⟨y, W', O'⟩ ⟨i, rfl, g1, g2, g3, g4, g5, g6, g7⟩
   dsimp only at g2 g3 g4 g5 g6 g7
   unfold Cx
   dsimp only
   have stop : ∃ t, some (Sum.inr (W', O') : (Int × (List (List Int)) × (List (List Int))) ⊕ ((List (List Int)) × (List (List Int)))) = some (.inr t) ∧ W.length ≤ t.1.length ∧ t.1.length = t.2.length ∧ 1 ≤ t.2.length ∧ t.2.length ≤ most + 1 ∧ (∀ r ∈ t.1, okP n r) ∧ (∀ r ∈ t.2, okP n r) := ⟨_, rfl, g2, g3, g4, g5, g6, g7⟩
   by_cases hi : i < P.length
   ·rw [if_pos (by omega)]
    by_cases hm2 : O'.length ≤ most
    ·rw [if_pos (by omega)]
     simp only [obs0]
     have hWx := g6 _ (Ak (show x < W'.length by omega))
     have hPi := hP2 _ (Ak hi)
     obtain ⟨t, e, ht⟩ := At0 (by omega) hWx hPi
     obtain ⟨M', e', hM⟩ := Am7 (n := n) (L := O') (p := t) (by omega) (by omega) (fun r hr => (g7 r hr).1) ht.1
     obtain ⟨q1, q2, q3⟩ := Arb hM g7 ht
     rw [Ae (by omega), Ae (by omega), tna0, tna0, e]
     simp only [obs0]
     rw [e']
     simp only [obs0]
     by_cases hg : M'.length > O'.length
     ·rw [if_pos (by omega), Ae (by simp; omega), Ae (by unfold InI; omega)]
      refine .inl ⟨_, rfl, ⟨i + 1, rfl, hi, by simp; omega, by simp; omega, by dsimp only; omega, by dsimp only; omega, fun r hr => ?_, q1⟩, by dsimp only; omega⟩
      rcases List.mem_append.1 hr with h | h
      ·exact g6 r h
      ·rw [List.mem_singleton.1 h]; exact ht
     ·rw [if_neg (by omega), Ae (by unfold InI; omega)]
      exact .inl ⟨_, rfl, ⟨i + 1, rfl, hi, g2, g3, g4, g5, g6, g7⟩, by dsimp only; omega⟩
    ·rw [if_neg (by omega)]
     exact .inr stop
   ·rw [if_neg (by omega)]
    exact .inr stop) (s := ((0 : Int), W, O)) ⟨0, rfl, Nat.zero_le _, Nat.le_refl _, hWO, h1, hO, hW, hOr⟩
  exact ⟨W', O', e, h⟩
 obtain ⟨L, e2, h⟩ := Bv (body := Em (most : Int) P) (fun s => ∃ i : Nat, s.2.2 = (i : Int) ∧ i ≤ s.1.length ∧ s.1.length = s.2.1.length ∧ 1 ≤ s.2.1.length ∧ s.2.1.length ≤ most + 1 ∧ (∀ r ∈ s.1, okP n r) ∧ (∀ r ∈ s.2.1, okP n r)) (fun s => most + 1 - s.2.2.toNat) (fun L => 1 ≤ L.length ∧ L.length ≤ most + 1 ∧ ∀ r ∈ L, okP n r) (by
  rintro ⟨W, O, y⟩ ⟨i, rfl, g1, g2, g3, g4, g5, g6⟩
  dsimp only at g1 g2 g3 g4 g5 g6
  unfold Em
  dsimp only
  by_cases hi : i < W.length
  ·rw [if_pos (by omega)]
   by_cases hm2 : O.length ≤ most
   ·rw [if_pos (by omega)]
    simp only [obs0]
    obtain ⟨W', O', e, q1, q2, q3, q4, q5, q6⟩ := l3 i W O hi g2 g3 g4 g5 g6
    rw [e]
    simp only [obs0]
    rw [Ae (by unfold InI; omega)]
    exact .inl ⟨_, rfl, ⟨i + 1, rfl, by dsimp only; omega, q2, q3, q4, q5, q6⟩, by dsimp only; omega⟩
   ·rw [if_neg (by omega)]
    exact .inr ⟨_, rfl, g3, g4, g6⟩
  ·rw [if_neg (by omega)]
   exact .inr ⟨_, rfl, g3, g4, g6⟩) (s := ([Ek n], [Ek n], (0 : Int))) ⟨0, rfl, by simp, rfl, by simp, by simp, fun r hr => by rw [List.mem_singleton.1 hr]; exact hu, fun r hr => by rw [List.mem_singleton.1 hr]; exact hu⟩
 rw [e2]
 exact ⟨L, rfl, h⟩
end
end Go.Proofs.YthagmdhmgailfaaGreat.Ax
namespace Go.Proofs.YthagmdhmgailfaaGreat.Ax
open Go Classical
noncomputable def Aa3 (n : Nat) (q : Nat → Bool) : Nat := (Cs n q).length
theorem Z5 (n : Nat) (q : Nat → Bool) : Aa3 (n + 1) q = Aa3 n q + if q n = true then 1 else 0 := by
 unfold Aa3; rw [Q9]
 by_cases h : q n = true
 ·rw [if_pos h, if_pos h]; simp
 ·rw [if_neg h, if_neg h]; rfl
theorem Aw1 {n : Nat} {q r : Nat → Bool} (h : ∀ i, i < n → q i = true → r i = true) : Aa3 n q ≤ Aa3 n r := by
 induction n with
 | zero => exact Nat.le_refl _
 | succ n ih =>
   have := ih fun i hi => h i (by omega)
   rw [Z5, Z5]
   by_cases hq : q n = true
   ·rw [if_pos hq, if_pos (h n (by omega) hq)]; omega
   ·rw [if_neg hq]; split <;> omega
theorem Azy {n : Nat} {q r : Nat → Bool} (h : ∀ i, i < n → q i = true → r i = true) {k : Nat} (hk : k < n) (h1 : q k = false) (h2 : r k = true) : Aa3 n q < Aa3 n r := by
 induction n with
 | zero => omega
 | succ n ih =>
   rw [Z5, Z5]
   by_cases hkn : k = n
   ·subst hkn
    have := Aw1 (n := k) (q := q) (r := r) fun i hi => h i (by omega)
    rw [if_neg (by simp [h1]), if_pos h2]; omega
   ·have := ih (fun i hi => h i (by omega)) (by omega)
    by_cases hq : q n = true
    ·rw [if_pos hq, if_pos (h n (by omega) hq)]; omega
    ·rw [if_neg hq]; split <;> omega
section
variable {n : Nat} {f : Nat → Nat → Bool}
end
section
variable {n m : Nat} {f g : Nat → Nat → Bool}
end
end Go.Proofs.YthagmdhmgailfaaGreat.Ax
namespace Go.Proofs.YthagmdhmgailfaaGreat.Ax
open Go Classical
def B7 (n : Nat) (p q : List Int) : Prop := ∀ x, x < n → nth q (nth p x).toNat = nth q x
section
variable {n : Nat} {p q r : List Int}
theorem Y6 (hp : Bo n p) : B7 n p q ↔ ∀ x y, x < n → y < n → nth p x = nth p y → nth q x = nth q y := by
 constructor
 ·intro h x y hx hy e
  rw [← h x hx, ← h y hy, e]
 ·intro h x hx
  obtain ⟨h0, h1, h2⟩ := hp.2 x hx
  exact h _ _ (by omega) hx h2
theorem B7.rel (h : B7 n p q) {x y : Nat} (hx : x < n) (hy : y < n) (e : nth p x = nth p y) : nth q x = nth q y := by
 rw [← h x hx, ← h y hy, e]
theorem Qq (hp : Bo n p) : B7 n p p := fun x hx => (hp.2 x hx).2.2
theorem B7.trans (hp : Bo n p) (h : B7 n p q) (h' : B7 n q r) : B7 n p r :=
 (Y6 hp).2 fun _ _ hx hy e => h'.rel hx hy (h.rel hx hy e)
theorem Ah8 (hp : Bo n p) (hq : Bo n q) (h : B7 n p q) {x : Nat} (hx : x < n) : nth q x ≤ nth p x := by
 obtain ⟨h0, h1, h2⟩ := hp.2 x hx
 have e := h x hx
 have := (hq.2 (nth p x).toNat (by omega)).2.1
 omega
theorem Qn (hp : Bo n p) (hq : Bo n q) (h : B7 n p q) (h' : B7 n q p) : p = q := by
 have e1 := hp.1
 have e2 := hq.1
 refine Ih (by omega) fun x hx => ?_
 have hx : x < n := by omega
 exact Int.le_antisymm (Ah8 hq hp h' hx) (Ah8 hp hq h hx)
theorem Aic (u w z y : Int) : mgF u w z = mgF u w y ↔ z = y ∨ ((z = u ∨ z = w) ∧ (y = u ∨ y = w)) := by
 rcases Int.lt_trichotomy u w with h | h | h
 ·rw [Pb h, Pb h]
  constructor
  ·intro e
   split at e <;> split at e <;> omega
  ·intro e
   split <;> split <;> omega
 ·subst h
  rw [Aca, Aca]
  omega
 ·rw [Pu h, Pu h]
  constructor
  ·intro e
   split at e <;> split at e <;> omega
  ·intro e
   split <;> split <;> omega
theorem Zh (u w : Int) {i : Nat} (hi : i < p.length) : nth (mg p u w) i = mgF u w (nth p i) := by
 unfold mg; rw [Ki _ hi]
theorem Un {x y : Nat} (hp : Bo n p) (_hx : x < n) (_hy : y < n) : B7 n p (mg p (nth p x) (nth p y)) := by
 have hl := hp.1
 refine (Y6 hp).2 fun i j hi hj e => ?_
 rw [Zh _ _ (by omega), Zh _ _ (by omega), e]
section
variable {x y : Nat} (hp : Bo n p) (hx : x < n) (hy : y < n)
include hp hx hy
theorem Ny : Bo n (mg p (nth p x) (nth p y)) := by
 have hl := hp.1
 refine ⟨by rw [Ats]; exact hl, fun i hi => ?_⟩
 obtain ⟨a0, a1, a2⟩ := hp.2 i hi
 obtain ⟨b0, b1, b2⟩ := hp.2 x hx
 obtain ⟨c0, c1, c2⟩ := hp.2 y hy
 rw [Zh _ _ (by omega)]
 have key : ∀ v : Int, 0 ≤ v → v ≤ i → nth p v.toNat = v → mgF (nth p x) (nth p y) v = v → v = mgF (nth p x) (nth p y) (nth p i) → 0 ≤ mgF (nth p x) (nth p y) (nth p i) ∧ mgF (nth p x) (nth p y) (nth p i) ≤ i ∧ nth (mg p (nth p x) (nth p y)) (mgF (nth p x) (nth p y) (nth p i)).toNat = mgF (nth p x) (nth p y) (nth p i) := by
  intro v h0 h1 h2 h3 h4
  rw [← h4]
  refine ⟨h0, h1, ?_⟩
  rw [Zh _ _ (by omega), h2, h3]
 rcases Int.lt_trichotomy (nth p x) (nth p y) with h | h | h
 ·by_cases hc : nth p i = nth p y
  ·refine key (nth p x) b0 (by omega) b2 ?_ ?_
   ·rw [Pb h, if_neg (by omega)]
   ·rw [Pb h, if_pos hc]
  ·refine key (nth p i) a0 a1 a2 ?_ ?_
   ·rw [Pb h, if_neg hc]
   ·rw [Pb h, if_neg hc]
 ·refine key (nth p i) a0 a1 a2 ?_ ?_
  ·rw [h, Aca]
  ·rw [h, Aca]
 ·by_cases hc : nth p i = nth p x
  ·refine key (nth p y) c0 (by omega) c2 ?_ ?_
   ·rw [Pu h, if_neg (by omega)]
   ·rw [Pu h, if_pos hc]
  ·refine key (nth p i) a0 a1 a2 ?_ ?_
   ·rw [Pu h, if_neg hc]
   ·rw [Pu h, if_neg hc]
theorem W0 : nth (mg p (nth p x) (nth p y)) x = nth (mg p (nth p x) (nth p y)) y := by
 have hl := hp.1
 rw [Zh _ _ (by omega), Zh _ _ (by omega), Aic]
 exact .inr ⟨.inl rfl, .inr rfl⟩
theorem N8 (h : B7 n p r) (e : nth r x = nth r y) : B7 n (mg p (nth p x) (nth p y)) r := by
 have hl := hp.1
 refine (Y6 (Ny hp hx hy)).2 fun i j hi hj e2 => ?_
 rw [Zh _ _ (by omega), Zh _ _ (by omega), Aic] at e2
 rcases e2 with e2 | ⟨h1, h2⟩
 ·exact h.rel hi hj e2
 ·have k1 : nth r i = nth r x := by
   rcases h1 with h1 | h1
   ·exact h.rel hi hx h1
   ·rw [h.rel hi hy h1, e]
  have k2 : nth r j = nth r x := by
   rcases h2 with h2 | h2
   ·exact h.rel hj hx h2
   ·rw [h.rel hj hy h2, e]
  rw [k1, k2]
end
noncomputable def Aj8 (n : Nat) (p : List Int) : Nat := Aa3 n fun i => decide (nth p i = (i : Int))
theorem A21 (hp : Bo n p) (hq : Bo n q) (h : B7 n p q) {i : Nat} (hi : i < n) (e : nth q i = (i : Int)) : nth p i = (i : Int) := by
 have := Ah8 hp hq h hi
 have := (hp.2 i hi).2.1
 omega
theorem Acc (hp : Bo n p) (hq : Bo n q) (h : B7 n p q) (hne : p ≠ q) : Aj8 n q < Aj8 n p := by
 have e1 := hp.1
 have e2 := hq.1
 have : ∃ x, x < n ∧ nth q x < nth p x := Classical.byContradiction fun hc => hne (Ih (by omega) fun x hx => by
  have hx : x < n := by omega
  have h1 := Ah8 hp hq h hx
  have h2 : ¬ nth q x < nth p x := fun hh => hc ⟨x, hx, hh⟩
  omega)
 obtain ⟨x, hx, hlt⟩ := this
 obtain ⟨a0, a1, a2⟩ := hp.2 x hx
 refine Azy (fun i hi e => ?_) (k := (nth p x).toNat) (by omega) ?_ ?_
 ·exact dtr0 (A21 hp hq h hi (of_decide_eq_true e))
 ·refine dfa0 fun e => ?_
  rw [h x hx] at e; omega
 ·refine dtr0 ?_
  rw [a2]; omega
theorem Ayh (n : Nat) (p : List Int) : Aj8 n p ≤ n := by
 unfold Aj8 Aa3 Cs
 exact Nat.le_trans (by simpa using List.length_filter_le _ (List.range n)) (Nat.le_of_eq (by simp))
theorem L5 {i : Nat} (hi : i < n) : nth (Ek n) i = (i : Int) := by
 unfold Ek
 rw [Ki _ (by simpa using hi), Aeu hi]
theorem H4 (n : Nat) : Bo n (Ek n) := ⟨(Qd n).1, fun i hi => by
 rw [L5 hi, tna0, L5 hi]
 exact ⟨by omega, Int.le_refl _, rfl⟩⟩
theorem Ob (p : List Int) : B7 n (Ek n) p := fun x hx => by rw [L5 hx, tna0]
end
section
variable {a : SAlgebra} {n : Nat} {p q r s : List Int}
theorem As9 (ga : Bs a) (hn : a.Size = n) (hp : Bo n p) (hs : E6 a n s) (h : B7 n p s) {x y : Nat} (hpu : Aip a n p x y) : nth s x = nth s y := by
 obtain ⟨o, i, e, ho, he, hi, ex, ey⟩ := hpu
 have h1 := ga.1
 have h8 := ga.2.1
 obtain ⟨hq, _⟩ := Auj ga hn ho
 have hc := (Am6 (by omega) (by omega) hs.1 hq).1 fun e he i hi => hs.2 o ho e he i hi
 have hl := hq.len
 rw [hl] at hi
 have hxin : ∀ j, j < (nth a.Ops o).Arity.toNat → 0 ≤ nth (D1 n (nth a.Ops o).Arity.toNat i) j ∧ nth (D1 n (nth a.Ops o).Arity.toNat i) j < n := fun j hj => Wo (by omega) _ i _ (Ak (by rw [H2]; exact hj))
 have e0 : hT n (nth a.Ops o).Arity.toNat (fun j => nth (D1 n (nth a.Ops o).Arity.toNat i) j) = (i : Int) := by
  unfold hT
  rw [Wv (H2 n _ i), Abt (by omega) _ i hi]
 have hsw := Ah2 (m := (nth a.Ops o).Arity.toNat - 1 - e) (by omega) hp hxin (by omega) e0 hi
 rw [show (nth a.Ops o).Arity.toNat - 1 - ((nth a.Ops o).Arity.toNat - 1 - e) = e by omega] at hsw
 have := hc (fun j => nth (D1 n (nth a.Ops o).Arity.toNat i) j) (fun j => if j = (nth a.Ops o).Arity.toNat - 1 - e then nth p (nth (D1 n (nth a.Ops o).Arity.toNat i) ((nth a.Ops o).Arity.toNat - 1 - e)).toNat else nth (D1 n (nth a.Ops o).Arity.toNat i) j) hxin (fun j hj => by
  split
  ·have := Aem hp (hxin ((nth a.Ops o).Arity.toNat - 1 - e) (by omega)); omega
  ·exact hxin j hj) (fun j hj => by
  split
  ·rename_i hje
   subst hje
   have := hxin _ hj
   exact (h _ (by omega)).symm
  ·rfl)
 rw [e0, hsw, tna0, ← ex, ← ey, tna0, tna0] at this
 exact this
def Yq (a : SAlgebra) (n : Nat) (p r : List Int) : Prop := E6 a n r ∧ B7 n p r ∧ ∀ s, E6 a n s → B7 n p s → B7 n r s
theorem Agw {r r' : List Int} (h : Yq a n p r) (h' : Yq a n p r') : r = r' :=
 Qn h.1.1 h'.1.1 (h.2.2 r' h'.1 h'.2.1) (h'.2.2 r h.1 h.2.1)
def Sh (a : SAlgebra) (n : Nat) (p q : List Int) : Prop := Bo n q ∧ B7 n p q ∧ ∀ s, E6 a n s → B7 n p s → B7 n q s
theorem Sh.ok (h : Sh a n p q) : okP n q := ⟨h.1.1, h.1.inS⟩
theorem Anl (hp : Bo n p) : Sh a n p p := ⟨hp, Qq hp, fun _ _ h => h⟩
theorem A08 (hp : Bo n p) (h : Sh a n p q) {x y : Nat} (hx : x < n) (hy : y < n) (e : ∀ s, E6 a n s → B7 n p s → nth s x = nth s y) : Sh a n p (mg q (nth q x) (nth q y)) :=
 ⟨Ny h.1 hx hy, h.2.1.trans hp (Un h.1 hx hy), fun s hs hf => N8 h.1 hx hy (h.2.2 s hs hf) (e s hs hf)⟩
theorem And (ga : Bs a) (hn : a.Size = n) (hp : Bo n p) (h' : Sh a n p r) (h : Sh a n p q) {x y : Nat} (hx : x < n) (hy : y < n) (hpu : Aip a n r x y) : Sh a n p (mg q (nth q x) (nth q y)) :=
 A08 hp h hx hy fun s hs hf => As9 ga hn h'.1 hs (h'.2.2 s hs hf) hpu
theorem Abl (ga : Bs a) (hn : a.Size = n) (hp : Bo n p) : ∃ r, E7 a p = some r ∧ Yq a n p r := by
 have h8 := ga.2.1
 have h1 := ga.1
 unfold E7
 have push : ∀ q, Sh a n p q → ∃ t, D3 a q = some t ∧ Sh a n p t ∧ B7 n q t ∧ (t = q ↔ Abi a n q) := by
  intro q hq
  obtain ⟨t, e, ⟨ht, hf⟩, hk⟩ := Amu (fun t => Sh a n p t ∧ B7 n q t) (fun t ht => ht.1.ok) ga hn hq.ok (fun t x y ht hx hy hpu => ⟨And ga hn hp hq ht.1 hx hy hpu, ht.2.trans hq.1 (Un ht.1.1 hx hy)⟩) ⟨hq, Qq hq.1⟩
  exact ⟨t, e, ht, hf, hk⟩
 obtain ⟨t, e1, e2⟩ := Gs (body := Ck a) n (fun i q => Sh a n p q ∧ (Abi a n q ∨ Aj8 n q + i ≤ n)) (fun i q hi hq => by
  obtain ⟨t, e, ht, hf, hk⟩ := push q hq.1
  unfold Ck
  dsimp only
  rw [if_pos (by omega), e]
  simp only [obs0]
  rw [Ae (by unfold InI; omega)]
  refine ⟨t, rfl, ht, ?_⟩
  by_cases hkq : Abi a n q
  ·rw [hk.2 hkq]; exact .inl hkq
  ·have hne : q ≠ t := fun hh => hkq (hk.1 hh.symm)
   have := Acc hq.1.1 ht.1 hf hne
   rcases hq.2 with h | h
   ·exact absurd h hkq
   ·exact .inr (by omega)) (fun q _ => by
  unfold Ck
  dsimp only
  rw [if_neg (by omega)]) p ⟨Anl hp, .inr (by have := Ayh n p; omega)⟩
 rw [e1]
 refine ⟨t, rfl, ?_⟩
 obtain ⟨⟨m1, m2, m3⟩, hk⟩ := e2
 have hk : Abi a n t := by
  rcases hk with h | h
  ·exact h
  ·exfalso
   have h0 : nth t 0 = ((0 : Nat) : Int) := by have := (m1.2 0 (by omega)); omega
   have : 0 < Aj8 n t := by
    unfold Aj8 Aa3
    refine List.length_pos_of_mem (a := ((0 : Nat) : Int)) ?_
    unfold Cs
    simp only [List.mem_map, List.mem_filter, List.mem_range, decide_eq_true_eq]
    exact ⟨0, ⟨by omega, h0⟩, rfl⟩
   omega
 exact ⟨⟨m1, hk⟩, m2, m3⟩
end
end Go.Proofs.YthagmdhmgailfaaGreat.Ax
namespace Go.Proofs.YthagmdhmgailfaaGreat.Ax
open Go Classical
theorem Asn (E : Nat → Nat → Prop) (x : Nat) : ∃ k, k ≤ x ∧ (x = k ∨ E x k) ∧ ∀ j, j < k → ¬ (x = j ∨ E x j) := Awh (fun y => x = y ∨ E x y) x (.inl rfl)
noncomputable def Lm (E : Nat → Nat → Prop) (x : Nat) : Nat := Classical.choose (Asn E x)
theorem Y7 (E : Nat → Nat → Prop) (x : Nat) : Lm E x ≤ x ∧ (x = Lm E x ∨ E x (Lm E x)) ∧ ∀ j, j < Lm E x → ¬ (x = j ∨ E x j) := Classical.choose_spec (Asn E x)
noncomputable def Ai1 (n : Nat) (E : Nat → Nat → Prop) : List Int := (List.range n).map fun x => (Lm E x : Int)
structure EqvN (n : Nat) (E : Nat → Nat → Prop) : Prop where
 rfl' : ∀ x, x < n → E x x
 sym : ∀ x y, x < n → y < n → E x y → E y x
 tr : ∀ x y z, x < n → y < n → z < n → E x y → E y z → E x z
section
variable {n : Nat} {E : Nat → Nat → Prop}
theorem Z3 {x : Nat} (hx : x < n) : nth (Ai1 n E) x = (Lm E x : Int) := by
 unfold Ai1
 rw [Ki _ (by simpa using hx), Aeu hx]
theorem Wm (h : EqvN n E) {x : Nat} (hx : x < n) : Lm E x < n ∧ E x (Lm E x) := by
 obtain ⟨a, b, _⟩ := Y7 E x
 refine ⟨by omega, ?_⟩
 rcases b with b | b
 ·rw [← b]; exact h.rfl' x hx
 ·exact b
theorem Am3 (h : EqvN n E) {x y : Nat} (hx : x < n) (hy : y < n) (e : E x y) : Lm E x = Lm E y := by
 have key : ∀ x y, x < n → y < n → E x y → Lm E x ≤ Lm E y := fun x y hx hy e => by
  obtain ⟨hyn, hyr⟩ := Wm h hy
  have := (Y7 E x).2.2 (Lm E y)
  refine Nat.le_of_not_lt fun hh => this hh (.inr (h.tr x y _ hx hy hyn e hyr))
 exact Nat.le_antisymm (key x y hx hy e) (key y x hy hx (h.sym x y hx hy e))
theorem Ann (h : EqvN n E) {x y : Nat} (hx : x < n) (hy : y < n) : nth (Ai1 n E) x = nth (Ai1 n E) y ↔ E x y := by
 rw [Z3 hx, Z3 hy]
 constructor
 ·intro e
  have e : Lm E x = Lm E y := by omega
  obtain ⟨a1, a2⟩ := Wm h hx
  obtain ⟨b1, b2⟩ := Wm h hy
  rw [← e] at b2
  exact h.tr x _ y hx a1 hy a2 (h.sym y _ hy a1 b2)
 ·intro e
  rw [Am3 h hx hy e]
theorem Az7 (h : EqvN n E) : Bo n (Ai1 n E) := by
 refine ⟨by simp [Ai1], fun x hx => ?_⟩
 obtain ⟨a1, a2⟩ := Wm h hx
 have := (Y7 E x).1
 rw [Z3 hx, tna0, Z3 a1, Am3 h a1 hx (h.sym x _ hx a1 a2)]
 exact ⟨by omega, by omega, rfl⟩
end
def H8 (n : Nat) (p q r : List Int) : Prop := Bo n r ∧ B7 n p r ∧ B7 n q r ∧ ∀ s, Bo n s → B7 n p s → B7 n q s → B7 n r s
section
variable {a : SAlgebra} {n : Nat} {p q r : List Int}
theorem H8.uniq {r' : List Int} (h : H8 n p q r) (h' : H8 n p q r') : r = r' :=
 Qn h.1 h'.1 (h.2.2.2 r' h'.1 h'.2.1 h'.2.2.1) (h'.2.2.2 r h.1 h.2.1 h.2.2.1)
theorem E6.cg (ga : Bs a) (hn : a.Size = n) (hp : E6 a n p) {o : Nat} (ho : o < a.Ops.length) : Ay1 p n (nth a.Ops o).Arity.toNat (nth a.Ops o) := by
 have h1 := ga.1
 have h8 := ga.2.1
 obtain ⟨hq, _⟩ := Auj ga hn ho
 exact (Am6 (by omega) (by omega) hp.1 hq).1 fun e he i hi => hp.2 o ho e he i hi
theorem Age (ga : Bs a) (hn : a.Size = n) (hp : E6 a n p) (hq : E6 a n q) (hj : H8 n p q r) : E6 a n r := by
 refine ⟨hj.1, fun o ho e he i hi => ?_⟩
 have h1 := ga.1
 have h8 := ga.2.1
 obtain ⟨hqq, _⟩ := Auj ga hn ho
 have hl := hqq.len
 have hcp := hp.cg ga hn ho
 have hcq := hq.cg ga hn ho
 generalize hR : (nth a.Ops o).Arity.toNat = R at *
 rw [hl] at hi
 obtain ⟨m, hm⟩ : ∃ m, m = R - 1 - e := ⟨_, rfl⟩
 have hxin : ∀ j, j < R → 0 ≤ nth (D1 n R i) j ∧ nth (D1 n R i) j < n := fun j hj => Wo (by omega) _ i _ (Ak (by rw [H2]; exact hj))
 have e0 : hT n R (fun j => nth (D1 n R i) j) = (i : Int) := by
  unfold hT
  rw [Wv (H2 n _ i), Abt (by omega) _ i hi]
 have hsw := Ah2 (m := m) (by omega) hj.1 hxin (by omega) e0 hi
 rw [hm, show R - 1 - (R - 1 - e) = e by omega, ← hm] at hsw
 have inU : ∀ u : Nat, u < n → ∀ j, j < R → 0 ≤ (if j = m then (u : Int) else nth (D1 n R i) j) ∧ (if j = m then (u : Int) else nth (D1 n R i) j) < n := fun u hu j hj => by
  split
  ·omega
  ·exact hxin j hj
 obtain ⟨V, hV⟩ : ∃ V : Nat → Int, ∀ u, V u = nth (nth a.Ops o).Table (hT n R fun j => if j = m then (u : Int) else nth (D1 n R i) j).toNat := ⟨_, fun _ => rfl⟩
 have hVin : ∀ u, u < n → 0 ≤ V u ∧ V u < n := fun u hu => by rw [hV]; exact (hqq.at (by omega) (inU u hu)).2
 have hE : EqvN n fun u v => nth r (V u).toNat = nth r (V v).toNat := ⟨fun _ _ => rfl, fun _ _ _ _ h => h.symm, fun _ _ _ _ _ _ h h' => h.trans h'⟩
 have sub : ∀ w, Bo n w → Ay1 w n R (nth a.Ops o) → B7 n w r → B7 n w (Ai1 n fun u v => nth r (V u).toNat = nth r (V v).toNat) := by
  intro w hw hc hf
  refine (Y6 hw).2 fun u v hu hv huv => (Ann hE hu hv).2 ?_
  have h2 := hc _ _ (inU u hu) (inU v hv) fun j hj => by
   split
   ·rw [tna0, tna0]; exact huv
   ·rfl
  rw [← hV, ← hV] at h2
  have a1 := hVin u hu
  have a2 := hVin v hv
  exact hf.rel (by omega) (by omega) h2
 have hfin := hj.2.2.2 _ (Az7 hE) (sub p hp.1 hcp hj.2.1) (sub q hq.1 hcq hj.2.2.1)
 have hxm := hxin m (by omega)
 have hxr := Aem hj.1 hxm
 have := hfin (nth (D1 n R i) m).toNat (by omega)
 rw [Ann hE (by omega) (by omega)] at this
 have c1 : V (nth (D1 n R i) m).toNat = nth (nth a.Ops o).Table i := by
  rw [hV, Yr (z := fun j => nth (D1 n R i) j) fun j hj => by
   split
   ·rename_i h; rw [h]; omega
   ·rfl]
  rw [e0, tna0]
 have c2 : V (nth r (nth (D1 n R i) m).toNat).toNat = nth (nth a.Ops o).Table (Aey n r e i).toNat := by
  rw [hV, ← hsw]
  congr 2
  refine Yr fun j hj => ?_
  split
  ·omega
  ·rfl
 rw [c1, c2] at this
 exact this.symm
theorem Wc (ga : Bs a) (hn : a.Size = n) : E6 a n (Ek n) := by
 refine ⟨H4 n, fun o ho e he i hi => ?_⟩
 have h1 := ga.1
 have : Aey n (Ek n) e i = (i : Int) := by
  unfold Aey
  rw [L5 (Nat.mod_lt _ (by omega))]
  simp
 unfold Aas
 rw [this, tna0]
theorem Anr (ga : Bs a) (hn : a.Size = n) (hp : Bo n p) : ∃ r, Yq a n p r := by
 obtain ⟨r, _, h⟩ := Abl ga hn hp
 exact ⟨r, h⟩
def De (a : SAlgebra) (n x y : Nat) (c : List Int) : Prop := Yq a n (mg (Ek n) (x : Int) (y : Int)) c
theorem Aab {x y : Nat} (hx : x < n) (hy : y < n) : mg (Ek n) (nth (Ek n) x) (nth (Ek n) y) = mg (Ek n) (x : Int) (y : Int) := by rw [L5 hx, L5 hy]
theorem De.rel {x y : Nat} (hx : x < n) (hy : y < n) {c : List Int} (h : De a n x y c) : nth c x = nth c y := by
 have h1 := W0 (H4 n) hx hy
 have h2 := Ny (H4 n) hx hy
 rw [Aab hx hy] at h1 h2
 exact h.2.1.rel hx hy h1
theorem De.le {x y : Nat} (hx : x < n) (hy : y < n) {c s : List Int} (h : De a n x y c) (hs : E6 a n s) (e : nth s x = nth s y) : B7 n c s := by
 refine h.2.2 s hs ?_
 rw [← Aab hx hy]
 exact N8 (H4 n) hx hy (Ob s) e
theorem A0z (p : List Int) (u v : Int) : mg p u v = mg p v u := by
 unfold mg
 congr 1
 funext z
 rcases Int.lt_trichotomy u v with h | h | h
 ·rw [Pb h, Pu h]
 ·rw [h]
 ·rw [Pu h, Pb h]
theorem De.symm {x y : Nat} {c : List Int} (h : De a n x y c) : De a n y x c := by
 unfold De at h ⊢
 rw [A0z]; exact h
theorem Ar2 (hp : Bo n p) (hq : Bo n q) : ∃ r, H8 n p q r := by
 have key : ∀ k, k ≤ n → ∃ w, Bo n w ∧ B7 n p w ∧ (∀ x, x < k → nth w (nth q x).toNat = nth w x) ∧ ∀ s, Bo n s → B7 n p s → B7 n q s → B7 n w s := by
  intro k
  induction k with
  | zero => intro _; exact ⟨p, hp, Qq hp, fun x hx => by omega, fun s _ h _ => h⟩
  | succ k ih =>
    intro hk
    obtain ⟨w, w1, w2, w3, w4⟩ := ih (by omega)
    have hqk := hq.2 k (by omega)
    have hqn : (nth q k).toNat < n := by omega
    refine ⟨mg w (nth w k) (nth w (nth q k).toNat), Ny w1 (by omega) hqn, w2.trans hp (Un w1 (by omega) hqn), fun x hx => ?_, fun s hs h1 h2 => N8 w1 (by omega) hqn (w4 s hs h1 h2) (h2 k (by omega)).symm⟩
    rcases Nat.lt_or_ge x k with h | h
    ·have hqx := hq.2 x (by omega)
     exact (Un w1 (by omega) hqn).rel (by omega) (by omega) (w3 x h)
    ·have : x = k := by omega
     subst this
     exact (W0 w1 (by omega) hqn).symm
 obtain ⟨w, w1, w2, w3, w4⟩ := key n (Nat.le_refl _)
 exact ⟨w, w1, w2, w3, w4⟩
def A1l (a : SAlgebra) (n : Nat) (L : List (List Int)) : Prop := ∀ m ∈ L, ∀ x y, x < n → y < x → ∀ c j, De a n x y c → H8 n m c j → j ∈ L
theorem Aij (ga : Bs a) (hn : a.Size = n) {L : List (List Int)} (h1 : ∀ r ∈ L, E6 a n r) (h0 : Ek n ∈ L) (hcl : A1l a n L) {t : List Int} (ht : E6 a n t) : t ∈ L := by
 have key : ∀ k, ∀ m ∈ L, B7 n m t → Aj8 n m ≤ k → t ∈ L := by
  intro k
  induction k with
  | zero =>
    intro m hm hf hk
    by_cases e : m = t
    ·rw [← e]; exact hm
    ·have := Acc (h1 m hm).1 ht.1 hf e
     omega
  | succ k ih =>
    intro m hm hf hk
    by_cases e : m = t
    ·rw [← e]; exact hm
    ·have : ∃ x y, x < n ∧ y < x ∧ nth t x = nth t y ∧ nth m x ≠ nth m y := Classical.byContradiction fun hc => e (Qn (h1 m hm).1 ht.1 hf ((Y6 ht.1).2 fun x y hx hy exy => by
      rcases Nat.lt_trichotomy x y with h | h | h
      ·exact Classical.byContradiction fun hh => hc ⟨y, x, hy, h, exy.symm, fun h2 => hh h2.symm⟩
      ·rw [h]
      ·exact Classical.byContradiction fun hh => hc ⟨x, y, hx, h, exy, hh⟩))
     obtain ⟨x, y, hx, hyx, et, em⟩ := this
     obtain ⟨c, hc⟩ := Anr (a := a) ga hn (p := mg (Ek n) (x : Int) (y : Int)) (by rw [← Aab hx (show y < n by omega)]; exact Ny (H4 n) hx (by omega))
     obtain ⟨j, hj⟩ := Ar2 (h1 m hm).1 hc.1.1
     have hct := De.le hx (by omega) hc ht et
     have hjt := hj.2.2.2 t ht.1 hf hct
     have hne : m ≠ j := fun hh => em (by
      rw [hh]
      exact hj.2.2.1.rel hx (by omega) (De.rel hx (by omega) hc))
     have := Acc (h1 m hm).1 hj.1 hj.2.1 hne
     exact ih j (hcl m hm x y hx hyx c j hc hj) hjt (by omega)
 exact key _ _ h0 (Ob t) (Nat.le_refl _)
end
noncomputable def blk (p : List Int) : Nat := (Cs p.length fun i => decide (nth p i = (i : Int))).length
theorem Avy {n : Nat} {p : List Int} (h : p.length = n) : blk p = Aj8 n p := by subst h; rfl
theorem Azd (p : List Int) : blk p ≤ p.length := by
 unfold blk Cs
 exact Nat.le_trans (by simpa using List.length_filter_le _ (List.range p.length)) (Nat.le_of_eq (by simp))
theorem Z8 : ∀ {L M : List (List Int)}, L.Nodup → (∀ r ∈ L, r ∈ M) → L.length ≤ M.length
 | [], _, _, _ => Nat.zero_le _
 | x :: L, M, h, hs => by
   obtain ⟨h1, h2⟩ := List.nodup_cons.1 h
   have hx := hs x (by simp)
   have := Z8 (L := L) (M := M.erase x) h2 fun r hr => by
    have hne : r ≠ x := fun hh => h1 (hh ▸ hr)
    exact (List.mem_erase_of_ne hne).2 (hs r (by simp [hr]))
   rw [List.length_erase_of_mem hx] at this
   have := List.length_pos_of_mem hx
   simp only [List.length_cons]; omega
theorem Avg (R : List Int → List Int → Prop) (hR : ∀ x y, R x y → R y x → False) : ∀ {xs ys : List (List Int)}, xs.Pairwise R → ys.Pairwise R → (∀ z, z ∈ xs ↔ z ∈ ys) → xs = ys
 | [], [], _, _, _ => rfl
 | [], y :: _, _, _, h => absurd ((h y).2 (by simp)) (by simp)
 | x :: _, [], _, _, h => absurd ((h x).1 (by simp)) (by simp)
 | x :: xs, y :: ys, hx, hy, h => by
   rw [List.pairwise_cons] at hx hy
   have e : x = y := by
    rcases List.mem_cons.1 ((h x).1 (by simp)) with h1 | h1
    ·exact h1
    ·rcases List.mem_cons.1 ((h y).2 (by simp)) with h2 | h2
     ·exact h2.symm
     ·exact absurd (hy.1 x h1) fun hh => hR _ _ (hx.1 y h2) hh
   subst e
   congr 1
   have irr : ∀ z, ¬ R z z := fun z hz => hR z z hz hz
   refine Avg R hR hx.2 hy.2 fun z => ?_
   have hz := h z
   simp only [List.mem_cons] at hz
   constructor
   ·intro hm
    rcases hz.1 (.inr hm) with h1 | h1
    ·exact absurd (hx.1 z hm) (h1 ▸ irr z)
    ·exact h1
   ·intro hm
    rcases hz.2 (.inr hm) with h1 | h1
    ·exact absurd (hy.1 z hm) (h1 ▸ irr z)
    ·exact h1
end Go.Proofs.YthagmdhmgailfaaGreat.Ax
namespace Go.Proofs.YthagmdhmgailfaaGreat.Ax
open Go Classical
def bLt (p q : List Int) : Prop := blk q < blk p ∨ (blk p = blk q ∧ Oy p q)
section
variable {n : Nat}
theorem Arm (a : List Int) : ¬ Oy a a := fun ⟨i, _, _, h⟩ => by omega
theorem Aig {a b c : List Int} (hab : a.length = b.length) (h1 : Oy a b) (h2 : Oy b c) : Oy a c := by
 obtain ⟨i, hi, e1, l1⟩ := h1
 obtain ⟨k, hk, e2, l2⟩ := h2
 rcases Nat.lt_trichotomy i k with h | h | h
 ·exact ⟨i, hi, fun j hj => (e1 j hj).trans (e2 j (by omega)), by rw [← e2 i h]; exact l1⟩
 ·subst h; exact ⟨i, hi, fun j hj => (e1 j hj).trans (e2 j hj), by omega⟩
 ·exact ⟨k, by omega, fun j hj => (e1 j (by omega)).trans (e2 j hj), by rw [e1 k h]; exact l2⟩
theorem Ax5 {a b : List Int} (hab : a.length = b.length) : Oy a b ∨ a = b ∨ Oy b a := by
 by_cases h : ∃ i, i < a.length ∧ nth a i ≠ nth b i
 ·obtain ⟨i, ⟨hi, hne⟩, hmin⟩ : ∃ i, (i < a.length ∧ nth a i ≠ nth b i) ∧ ∀ j, j < i → ¬ (j < a.length ∧ nth a j ≠ nth b j) := by
   obtain ⟨k, hk⟩ := h
   induction k using Nat.strongRecOn with
   | ind k ih =>
     by_cases hx : ∃ j, j < k ∧ (j < a.length ∧ nth a j ≠ nth b j)
     ·obtain ⟨j, h1, h2⟩ := hx; exact ih j h1 h2
     ·exact ⟨k, hk, fun j hj hc => hx ⟨j, hj, hc⟩⟩
  have heq : ∀ j, j < i → nth a j = nth b j := fun j hj => Classical.byContradiction fun hc => hmin j hj ⟨by omega, hc⟩
  by_cases hl : nth a i < nth b i
  ·exact .inl ⟨i, hi, heq, hl⟩
  ·exact .inr (.inr ⟨i, by omega, fun j hj => (heq j hj).symm, by omega⟩)
 ·exact .inr (.inl (Ih hab fun i hi => Classical.byContradiction fun hc => h ⟨i, hi, hc⟩))
theorem Yn {p q : List Int} (hl : p.length = q.length) (h1 : bLt p q) (h2 : bLt q p) : False := by
 rcases h1 with h1 | ⟨e1, l1⟩
 ·rcases h2 with h2 | ⟨e2, _⟩ <;> omega
 ·rcases h2 with h2 | ⟨_, l2⟩
  ·omega
  ·exact Arm p (Aig hl l1 l2)
theorem Am2 {p q r : List Int} (hl : p.length = q.length) (h1 : bLt p q) (h2 : bLt q r) : bLt p r := by
 rcases h1 with h1 | ⟨e1, l1⟩
 ·rcases h2 with h2 | ⟨e2, _⟩
  ·exact .inl (by omega)
  ·exact .inl (by omega)
 ·rcases h2 with h2 | ⟨e2, l2⟩
  ·exact .inl (by omega)
  ·exact .inr ⟨by omega, Aig hl l1 l2⟩
theorem A09 {p q : List Int} (hl : p.length = q.length) : bLt p q ∨ p = q ∨ bLt q p := by
 rcases Nat.lt_trichotomy (blk p) (blk q) with h | h | h
 ·exact .inr (.inr (.inl h))
 ·rcases Ax5 hl with h1 | h1 | h1
  ·exact .inl (.inr ⟨h, h1⟩)
  ·exact .inr (.inl h1)
  ·exact .inr (.inr (.inr ⟨h.symm, h1⟩))
 ·exact .inl (.inl h)
theorem Acl (p : List Int) : ¬ bLt p p := fun h => Yn rfl h h
def V3 (n : Nat) (L : List (List Int)) : Prop := L.Pairwise bLt ∧ ∀ r ∈ L, r.length = n
theorem V3.nodup {L : List (List Int)} (h : V3 n L) : L.Nodup := List.Pairwise.imp (S := fun a b => a ≠ b) (fun {a b} hab (e : a = b) => Acl a (by rw [← e] at hab; exact hab)) h.1
theorem Ayb {L M : List (List Int)} (hL : V3 n L) (hM : V3 n M) (h : ∀ z, z ∈ L ↔ z ∈ M) : L = M := by
 refine Avg (fun p q => bLt p q ∧ p.length = n ∧ q.length = n) (fun x y h1 h2 => Yn (by omega) h1.1 h2.1) ?_ ?_ h
 ·exact hL.1.imp_of_mem fun ha hb h => ⟨h, hL.2 _ ha, hL.2 _ hb⟩
 ·exact hM.1.imp_of_mem fun ha hb h => ⟨h, hM.2 _ ha, hM.2 _ hb⟩
theorem Ar9 {L : List (List Int)} {p : List Int} (h8 : n ≤ 1000) (hL : L.length ≤ 100000) (hs : V3 n L) (hp : p.length = n) : ∃ M, G4 L p = some M ∧ V3 n M ∧ (∀ z, z ∈ M ↔ z ∈ L ∨ z = p) ∧ (p ∈ L → M = L) ∧ (p ∉ L → M.length = L.length + 1) := by
 have hLim := A9
 unfold G4
 have hr := hs.2
 obtain ⟨t, e, t0, t1, tl, th⟩ := Bv (body := Fm L p) (fun s => 0 ≤ s ∧ s ≤ L.length ∧ ∀ j : Nat, (j : Int) < s → bLt (nth L j) p) (fun s => L.length - s.toNat) (fun t => 0 ≤ t ∧ t ≤ L.length ∧ (∀ j : Nat, (j : Int) < t → bLt (nth L j) p) ∧ (t < L.length → ¬ bLt (nth L t.toNat) p)) (by
  rintro s ⟨s0, s1, s2⟩
  obtain ⟨i, rfl⟩ := Int.eq_ofNat_of_zero_le s0
  unfold Fm
  by_cases hi : i < L.length
  ·have hri := hr _ (Ak hi)
   have more : bLt (nth L i) p → ∀ j : Nat, (j : Int) < (i : Int) + 1 → bLt (nth L j) p := fun hb j hj => by
    rcases Nat.lt_or_ge j i with h | h
    ·exact s2 j (by omega)
    ·have : j = i := by omega
     subst this; exact hb
   rw [if_pos (by omega), Ae (by omega), tna0, Aaa (by omega), Aaa (by omega)]
   simp only [obs0]
   by_cases c1 : blk p < blk (nth L i)
   ·have c1' : ((Cs (nth L i).length fun k => decide (nth (nth L i) k = (k : Int))).length : Int) > ((Cs p.length fun k => decide (nth p k = (k : Int))).length : Int) := by unfold blk at c1; omega
    rw [if_pos c1', Ae (by unfold InI; omega)]
    exact .inl ⟨_, rfl, ⟨by omega, by omega, more (.inl c1)⟩, by omega⟩
   ·have c1' : ¬ ((Cs (nth L i).length fun k => decide (nth (nth L i) k = (k : Int))).length : Int) > ((Cs p.length fun k => decide (nth p k = (k : Int))).length : Int) := by unfold blk at c1; omega
    rw [if_neg c1', Ae (by omega)]
    by_cases c2 : blk (nth L i) = blk p
    ·have c2' : ((Cs (nth L i).length fun k => decide (nth (nth L i) k = (k : Int))).length : Int) = ((Cs p.length fun k => decide (nth p k = (k : Int))).length : Int) := by unfold blk at c2; omega
     rw [if_pos c2', Ae (by omega), Asf (by omega) (by omega)]
     simp only [obs0]
     by_cases c3 : Oy (nth L i) p
     ·rw [dtr0 c3, if_pos rfl, Ae (by unfold InI; omega)]
      exact .inl ⟨_, rfl, ⟨by omega, by omega, more (.inr ⟨c2, c3⟩)⟩, by omega⟩
     ·rw [dfa0 c3, if_neg Bool.false_ne_true]
      refine .inr ⟨_, rfl, by omega, by omega, s2, fun _ hb => ?_⟩
      rw [tna0] at hb
      rcases hb with h | ⟨_, h⟩
      ·exact c1 h
      ·exact c3 h
    ·have c2' : ¬ ((Cs (nth L i).length fun k => decide (nth (nth L i) k = (k : Int))).length : Int) = ((Cs p.length fun k => decide (nth p k = (k : Int))).length : Int) := by unfold blk at c2; omega
     rw [if_neg c2']
     refine .inr ⟨_, rfl, by omega, by omega, s2, fun _ hb => ?_⟩
     rw [tna0] at hb
     rcases hb with h | ⟨h, _⟩
     ·exact c1 h
     ·exact c2 h
  ·rw [if_neg (by omega)]
   exact .inr ⟨_, rfl, by omega, by omega, s2, fun h => by omega⟩) (s := (0 : Int)) ⟨Int.le_refl _, by omega, fun j hj => by omega⟩
 rw [e]
 simp only [obs0]
 obtain ⟨k, rfl⟩ := Int.eq_ofNat_of_zero_le t0
 rw [tna0] at th
 have hk : k ≤ L.length := by omega
 have hlow : ∀ r ∈ L.take k, bLt r p := fun r hr => by
  obtain ⟨j, hj, rfl⟩ := Gi.1 hr
  rw [List.length_take] at hj
  have : nth (L.take k) j = nth L j := by rw [Do (by rw [List.length_take]; omega), Do (by omega), List.getElem_take]
  rw [this]; exact tl j (by omega)
 have hat : ∀ hk2 : k < L.length, nth L k = p ∨ bLt p (nth L k) := fun hk2 => by
  have hrk := hr _ (Ak hk2)
  rcases A09 (p := nth L k) (q := p) (by omega) with h | h | h
  ·exact absurd h (th (by omega))
  ·exact .inl h
  ·exact .inr h
 have fin : (∀ hk2 : k < L.length, nth L k ≠ p) → ∃ M, (ask (0 ≤ (0 : Int) ∧ 0 ≤ (k : Int) ∧ (k : Int) ≤ ((L.length : Nat) : Int)) <|
  ask ((Aq (List Int)).length + (List.take ((k : Int).toNat - Int.toNat 0) (List.drop (Int.toNat 0) L)).length ≤ LIM) <|
  ask ((Aq (List Int) ++ List.take ((k : Int).toNat - Int.toNat 0) (List.drop (Int.toNat 0) L)).length + ([p]).length ≤ LIM) <|
  ask (0 ≤ (k : Int) ∧ (k : Int) ≤ (L.length : Int) ∧ (L.length : Int) ≤ ((L.length : Nat) : Int)) <|
  ask ((Aq (List Int) ++ List.take ((k : Int).toNat - Int.toNat 0) (List.drop (Int.toNat 0) L) ++ [p]).length + (List.take ((L.length : Int).toNat - (k : Int).toNat) (List.drop (k : Int).toNat L)).length ≤ LIM) <|
  some (Aq (List Int) ++ List.take ((k : Int).toNat - Int.toNat 0) (List.drop (Int.toNat 0) L) ++ [p] ++ List.take ((L.length : Int).toNat - (k : Int).toNat) (List.drop (k : Int).toNat L))) = some M ∧ V3 n M ∧ (∀ z, z ∈ M ↔ z ∈ L ∨ z = p) ∧ (p ∈ L → M = L) ∧ (p ∉ L → M.length = L.length + 1) := by
  intro hne
  have hupp : ∀ r ∈ L.drop k, bLt p r := fun r hr' => by
   obtain ⟨j, hj, rfl⟩ := Gi.1 hr'
   rw [List.length_drop] at hj
   have e1 : nth (L.drop k) j = nth L (k + j) := by rw [Do (by rw [List.length_drop]; omega), Do (by omega), List.getElem_drop]
   rw [e1]
   have hk2 : k < L.length := by omega
   have hpk := (hat hk2).resolve_left (hne hk2)
   rcases Nat.eq_zero_or_pos j with h | h
   ·subst h; exact hpk
   ·have hrk := hr _ (Ak hk2)
    refine Am2 (by omega) hpk ?_
    have := (List.pairwise_iff_getElem.1 hs.1) k (k + j) hk2 (by omega) (by omega)
    rw [Do hk2, Do (by omega)]; exact this
  rw [Ae (by omega), Ae (by simp [Aq]; omega), Ae (by simp [Aq]; omega), Ae (by omega), Ae (by simp [Aq]; omega)]
  have eM : Aq (List Int) ++ List.take ((k : Int).toNat - Int.toNat 0) (List.drop (Int.toNat 0) L) ++ [p] ++ List.take ((L.length : Int).toNat - (k : Int).toNat) (List.drop (k : Int).toNat L) = L.take k ++ p :: L.drop k := by
   rw [tna0, tna0, List.take_of_length_le (l := List.drop k L) (by simp)]
   show L.take k ++ [p] ++ L.drop k = _
   simp
  have hpn : p ∉ L := fun hp => by
   rw [← List.take_append_drop k L] at hp
   rcases List.mem_append.1 hp with h | h
   ·exact Acl p (hlow p h)
   ·exact Acl p (hupp p h)
  refine ⟨_, rfl, ?_, ?_, fun h => absurd h hpn, fun _ => ?_⟩
  ·rw [eM]
   refine ⟨?_, fun r hr' => ?_⟩
   ·rw [List.pairwise_append, List.pairwise_cons]
    refine ⟨hs.1.sublist (List.take_sublist _ _), ⟨hupp, hs.1.sublist (List.drop_sublist _ _)⟩, fun x hx y hy => ?_⟩
    have hxl := hr x (List.mem_of_mem_take hx)
    rcases List.mem_cons.1 hy with h | h
    ·rw [h]; exact hlow x hx
    ·exact Am2 (by omega) (hlow x hx) (hupp y h)
   ·rcases List.mem_append.1 hr' with h | h
    ·exact hr r (List.mem_of_mem_take h)
    ·rcases List.mem_cons.1 h with h | h
     ·rw [h]; exact hp
     ·exact hr r (List.mem_of_mem_drop h)
  ·intro z
   rw [eM]
   have hz : z ∈ L ↔ z ∈ L.take k ∨ z ∈ L.drop k := by rw [← List.mem_append, List.take_append_drop]
   rw [hz, List.mem_append, List.mem_cons]
   constructor
   ·rintro (h | h | h)
    ·exact .inl (.inl h)
    ·exact .inr h
    ·exact .inl (.inr h)
   ·rintro ((h | h) | h)
    ·exact .inl h
    ·exact .inr (.inr h)
    ·exact .inr (.inl h)
  ·rw [eM]; simp; omega
 by_cases hk2 : k < L.length
 ·have hrk := hr _ (Ak hk2)
  rw [if_pos (by omega), Ae (by omega), tna0, Rg (by omega)]
  simp only [obs0]
  by_cases hs2 : nth L k = p
  ·rw [dtr0 hs2]
   have hpm : p ∈ L := hs2 ▸ Ak hk2
   exact ⟨L, rfl, hs, fun z => ⟨.inl, fun h => h.elim id fun h => h ▸ hpm⟩, fun _ => rfl, fun h => absurd hpm h⟩
  ·rw [dfa0 hs2]
   exact fin fun _ => hs2
 ·rw [if_neg (by omega)]
  exact fin fun h => absurd h hk2
end
section
variable {a : SAlgebra} {n : Nat}
theorem Aw7 {p q : List Int} (h8 : n ≤ 1000) (hp : Bo n p) (hq : Bo n q) : ∃ r, He p q = some r ∧ H8 n p q r := by
 have hpl := hp.1
 have hql := hq.1
 unfold He
 rw [Aie _ (by rw [A9]; omega)]
 simp only [obs0]
 obtain ⟨t, e1, w1, w2, w3, w4⟩ := Gs (body := C0 q) n (fun k w => Bo n w ∧ B7 n p w ∧ (∀ x, x < k → nth w (nth q x).toNat = nth w x) ∧ ∀ s, Bo n s → B7 n p s → B7 n q s → B7 n w s) (fun i w hi hw => by
  obtain ⟨w1, w2, w3, w4⟩ := hw
  have hwl := w1.1
  have hqi := hq.2 i hi
  have hqn : (nth q i).toNat < n := by omega
  unfold C0
  dsimp only
  rw [if_pos (by omega), Ae (by omega), tna0, Ly (by omega) (by omega) (by omega), tna0]
  simp only [obs0]
  rw [Ae (by unfold InI; omega)]
  refine ⟨_, rfl, Ny w1 hi hqn, w2.trans hp (Un w1 hi hqn), fun x hx => ?_, fun s hs h1 h2 => N8 w1 hi hqn (w4 s hs h1 h2) (h2 i hi).symm⟩
  rcases Nat.lt_or_ge x i with h | h
  ·have hqx := hq.2 x (by omega)
   exact (Un w1 hi hqn).rel (by omega) (by omega) (w3 x h)
  ·have : x = i := by omega
   subst this
   exact (W0 w1 hi hqn).symm) (fun w _ => by
  unfold C0
  dsimp only
  rw [if_neg (by omega)]) p ⟨hp, Qq hp, fun x hx => by omega, fun s _ h _ => h⟩
 rw [e1]
 exact ⟨t, rfl, w1, w2, w3, w4⟩
theorem Akp (ga : Bs a) (hn : a.Size = n) {x y : Nat} (hx : x < n) (hy : y < n) : ∃ c, Dm a (x : Int) (y : Int) = some c ∧ De a n x y c := by
 have h8 := ga.2.1
 have hu := Qd n
 have hul := hu.1
 unfold Dm
 rw [hn, Ll (by omega)]
 simp only [obs0]
 rw [Ly (by omega) (by omega) (by omega), tna0, tna0]
 simp only [obs0]
 obtain ⟨c, e, hc⟩ := Abl ga hn (Ny (H4 n) hx hy)
 rw [e]
 refine ⟨c, rfl, ?_⟩
 unfold De
 rw [← Aab hx hy]; exact hc
structure MostL (a : SAlgebra) (n most : Nat) (O : List (List Int)) : Prop where
 srt : V3 n O
 cg : ∀ r ∈ O, E6 a n r
 id' : Ek n ∈ O
 le : O.length ≤ most + 1
 all : O.length ≤ most → ∀ t, E6 a n t → t ∈ O
theorem Aml (ga : Bs a) (hn : a.Size = n) {most : Nat} (hm : most ≤ 10000) : ∃ O, Bk a (most : Int) = some O ∧ MostL a n most O := by
 have hLim := A9
 have h8 := ga.2.1
 have h1 := ga.1
 have hu := H4 n
 have hcu := Wc ga hn
 unfold Bk
 have l1 : ∀ x, x < n → ∀ L : List (List Int), V3 n L → L.length ≤ 8 * x → (∀ c, c ∈ L ↔ ∃ u v, u < x ∧ v < u ∧ De a n u v c) → ∃ M, Al (Cw a (most : Int) (x : Int)) (0, L) = some M ∧ V3 n M ∧ M.length ≤ 8 * (x + 1) ∧ ∀ c, c ∈ M ↔ ∃ u v, u < x + 1 ∧ v < u ∧ De a n u v c := by
  intro x hx L hs hL hr
  obtain ⟨M, e, q1, q2, q3⟩ := Bv (body := Cw a (most : Int) (x : Int)) (fun s => ∃ i : Nat, s.1 = (i : Int) ∧ i ≤ x ∧ s.2.length ≤ 8 * x + i ∧ V3 n s.2 ∧ ∀ c, c ∈ s.2 ↔ (∃ u v, u < x ∧ v < u ∧ De a n u v c) ∨ ∃ v, v < i ∧ De a n x v c) (fun s => x - s.1.toNat) (fun M => V3 n M ∧ M.length ≤ 8 * (x + 1) ∧ ∀ c, c ∈ M ↔ ∃ u v, u < x + 1 ∧ v < u ∧ De a n u v c) (by
   rintro ⟨y, M⟩ ⟨i, rfl, g1, g2, g3, g4⟩
   dsimp only at g2 g3 g4
   unfold Cw
   dsimp only
   by_cases hi : i < x
   ·obtain ⟨t, e, ht⟩ := Akp ga hn hx (show i < n by omega)
    obtain ⟨M', e', m1, m2, m3, m4⟩ := Ar9 (n := n) (L := M) (p := t) (by omega) (by omega) g3 ht.1.1.1
    have hlen : M'.length ≤ M.length + 1 := by
     by_cases hin : t ∈ M
     ·rw [m3 hin]; omega
     ·rw [m4 hin]; omega
    rw [if_pos (by omega), e]
    simp only [obs0]
    rw [e']
    simp only [obs0]
    rw [Ae (by unfold InI; omega)]
    refine .inl ⟨_, rfl, ⟨i + 1, rfl, hi, by dsimp only; omega, m1, fun c => ?_⟩, by dsimp only; omega⟩
    dsimp only
    rw [m2, g4]
    constructor
    ·rintro ((h | ⟨v, hv, h⟩) | h)
     ·exact .inl h
     ·exact .inr ⟨v, by omega, h⟩
     ·exact .inr ⟨i, by omega, h ▸ ht⟩
    ·rintro (h | ⟨v, hv, h⟩)
     ·exact .inl (.inl h)
     ·by_cases hvi : v < i
      ·exact .inl (.inr ⟨v, hvi, h⟩)
      ·have : v = i := by omega
       subst this
       exact .inr (Agw h ht)
   ·rw [if_neg (by omega)]
    have : i = x := by omega
    subst this
    refine .inr ⟨_, rfl, g3, by omega, fun c => ?_⟩
    rw [g4]
    constructor
    ·rintro (⟨u, v, hu, hv, h⟩ | ⟨v, hv, h⟩)
     ·exact ⟨u, v, by omega, hv, h⟩
     ·exact ⟨i, v, by omega, hv, h⟩
    ·rintro ⟨u, v, hu, hv, h⟩
     by_cases hui : u < i
     ·exact .inl ⟨u, v, hui, hv, h⟩
     ·have : u = i := by omega
      subst this
      exact .inr ⟨v, hv, h⟩) (s := ((0 : Int), L)) ⟨0, rfl, Nat.zero_le _, by dsimp only; omega, hs, fun c => by
    dsimp only
    rw [hr]
    exact ⟨.inl, fun h => h.elim id fun ⟨v, hv, _⟩ => by omega⟩⟩
  exact ⟨M, e, q1, q2, q3⟩
 obtain ⟨P, e1, hPs, hPl, hP⟩ := Bv (body := E2 a (most : Int)) (fun s => ∃ i : Nat, s.2 = (i : Int) ∧ i ≤ n ∧ V3 n s.1 ∧ s.1.length ≤ 8 * i ∧ ∀ c, c ∈ s.1 ↔ ∃ u v, u < i ∧ v < u ∧ De a n u v c) (fun s => n - s.2.toNat) (fun M => V3 n M ∧ M.length ≤ 64 ∧ ∀ c, c ∈ M ↔ ∃ u v, u < n ∧ v < u ∧ De a n u v c) (by
  rintro ⟨M, y⟩ ⟨i, rfl, g1, g2, g3, g4⟩
  dsimp only at g2 g3 g4
  unfold E2
  dsimp only
  by_cases hi : i < n
  ·obtain ⟨M', e, q1, q2, q3⟩ := l1 i hi M g2 g3 g4
   rw [if_pos (by omega), e]
   simp only [obs0]
   rw [Ae (by unfold InI; omega)]
   exact .inl ⟨_, rfl, ⟨i + 1, rfl, hi, q1, q2, q3⟩, by dsimp only; omega⟩
  ·rw [if_neg (by omega)]
   have : i = n := by omega
   subst this
   exact .inr ⟨_, rfl, g2, by omega, g4⟩) (s := (Aq (List Int), (0 : Int))) ⟨0, rfl, Nat.zero_le _, ⟨List.Pairwise.nil, fun r hr => by simp [Aq] at hr⟩, by simp [Aq], fun c => by
   dsimp only
   exact ⟨fun h => by simp [Aq] at h, fun ⟨u, v, hu, _⟩ => by omega⟩⟩
 rw [e1]
 simp only [obs0]
 rw [hn, Ll (by omega)]
 simp only [obs0]
 have pr : ∀ k, k < P.length → ∃ u v, u < n ∧ v < u ∧ De a n u v (nth P k) := fun k hk => (hP _).1 (Ak hk)
 have l3 : ∀ x (W O : List (List Int)), x < W.length → W.length = O.length → (∀ z, z ∈ W ↔ z ∈ O) → V3 n O → O.length ≤ most + 1 → (∀ r ∈ O, E6 a n r) → Ek n ∈ O →
   ∃ W' O', Al (Cx (most : Int) P (x : Int)) (0, W, O) = some (W', O') ∧ (∃ X, W' = W ++ X) ∧ W'.length = O'.length ∧ (∀ z, z ∈ W' ↔ z ∈ O') ∧ V3 n O' ∧ O'.length ≤ most + 1 ∧ (∀ r ∈ O', E6 a n r) ∧ Ek n ∈ O' ∧ (O'.length ≤ most → ∀ k, k < P.length → ∀ j, H8 n (nth W x) (nth P k) j → j ∈ O') := by
  intro x W O hx hWO hmem hs hO hcg hid
  obtain ⟨⟨W', O'⟩, e, h⟩ := Bv (body := Cx (most : Int) P (x : Int)) (fun s => ∃ i : Nat, s.1 = (i : Int) ∧ i ≤ P.length ∧ (∃ X, s.2.1 = W ++ X) ∧ s.2.1.length = s.2.2.length ∧ (∀ z, z ∈ s.2.1 ↔ z ∈ s.2.2) ∧ V3 n s.2.2 ∧ s.2.2.length ≤ most + 1 ∧ (∀ r ∈ s.2.2, E6 a n r) ∧ Ek n ∈ s.2.2 ∧ ∀ k, k < i → ∀ j, H8 n (nth W x) (nth P k) j → j ∈ s.2.2) (fun s => P.length - s.1.toNat)
   (fun s => (∃ X, s.1 = W ++ X) ∧ s.1.length = s.2.length ∧ (∀ z, z ∈ s.1 ↔ z ∈ s.2) ∧ V3 n s.2 ∧ s.2.length ≤ most + 1 ∧ (∀ r ∈ s.2, E6 a n r) ∧ Ek n ∈ s.2 ∧ (s.2.length ≤ most → ∀ k, k < P.length → ∀ j, H8 n (nth W x) (nth P k) j → j ∈ s.2)) (by
   rintro ⟨y, W', O'⟩ ⟨i, rfl, g1, ⟨X, hX⟩, g3, g4, g5, g6, g7, g8, g9⟩
   dsimp only at hX g3 g4 g5 g6 g7 g8 g9
   unfold Cx
   dsimp only
   by_cases hi : i < P.length
   ·rw [if_pos (by omega)]
    by_cases hm2 : O'.length ≤ most
    ·rw [if_pos (by omega)]
     simp only [obs0]
     have hWx : nth W' x = nth W x := by
      rw [hX, Do (by simp; omega), Do hx, List.getElem_append_left hx]
     have hx' : x < W'.length := by rw [hX]; simp; omega
     have hcx := g7 _ ((g4 _).1 (Ak hx'))
     obtain ⟨u, v, hu', hv', hpk⟩ := pr i hi
     obtain ⟨t, e, ht⟩ := Aw7 (by omega) hcx.1 hpk.1.1
     have hct := Age ga hn hcx hpk.1 ht
     obtain ⟨M', e', m1, m2, m3, m4⟩ := Ar9 (n := n) (L := O') (p := t) (by omega) (by omega) g5 ht.1.1
     rw [Ae (by omega), Ae (by omega), tna0, tna0, e]
     simp only [obs0]
     rw [e']
     simp only [obs0]
     have done : ∀ M : List (List Int), (∀ z, z ∈ O' ∨ z = t → z ∈ M) → ∀ k, k < i + 1 → ∀ j, H8 n (nth W x) (nth P k) j → j ∈ M := fun M hM k hk j hj => by
      rcases Nat.lt_or_ge k i with h | h
      ·exact hM j (.inl (g9 k h j hj))
      ·have : k = i := by omega
       subst this
       rw [hWx] at ht
       exact hM j (.inr (hj.uniq ht))
     by_cases hin : t ∈ O'
     ·have hM := m3 hin
      subst hM
      rw [if_neg (by omega), Ae (by unfold InI; omega)]
      exact .inl ⟨_, rfl, ⟨i + 1, rfl, hi, ⟨X, hX⟩, g3, g4, g5, g6, g7, g8, done _ fun z h => h.elim id fun h => h ▸ hin⟩, by dsimp only; omega⟩
     ·have hlen := m4 hin
      rw [if_pos (by omega), Ae (by simp; omega), Ae (by unfold InI; omega)]
      refine .inl ⟨_, rfl, ⟨i + 1, rfl, hi, ⟨X ++ [t], by dsimp only; rw [hX, List.append_assoc]⟩, by simp; omega, fun z => ?_, m1, by dsimp only; omega, fun r hr => ?_, (m2 _).2 (.inl g8), done _ fun z h => (m2 z).2 h⟩, by dsimp only; omega⟩
      ·dsimp only
       rw [m2, List.mem_append, List.mem_singleton, g4]
      ·rcases (m2 r).1 hr with h | h
       ·exact g7 r h
       ·rw [h]; exact hct
    ·rw [if_neg (by omega)]
     exact .inr ⟨_, rfl, ⟨X, hX⟩, g3, g4, g5, g6, g7, g8, fun h => absurd h hm2⟩
   ·rw [if_neg (by omega)]
    have : i = P.length := by omega
    subst this
    exact .inr ⟨_, rfl, ⟨X, hX⟩, g3, g4, g5, g6, g7, g8, fun _ => g9⟩) (s := ((0 : Int), W, O)) ⟨0, rfl, Nat.zero_le _, ⟨[], by simp⟩, hWO, hmem, hs, hO, hcg, hid, fun k hk => by omega⟩
  exact ⟨W', O', e, h⟩
 obtain ⟨L, e2, h⟩ := Bv (body := Em (most : Int) P) (fun s => ∃ i : Nat, s.2.2 = (i : Int) ∧ i ≤ s.1.length ∧ s.1.length = s.2.1.length ∧ (∀ z, z ∈ s.1 ↔ z ∈ s.2.1) ∧ V3 n s.2.1 ∧ s.2.1.length ≤ most + 1 ∧ (∀ r ∈ s.2.1, E6 a n r) ∧ Ek n ∈ s.2.1 ∧ (s.2.1.length ≤ most → ∀ x, x < i → ∀ k, k < P.length → ∀ j, H8 n (nth s.1 x) (nth P k) j → j ∈ s.2.1)) (fun s => most + 1 - s.2.2.toNat) (fun L => MostL a n most L) (by
  rintro ⟨W, O, y⟩ ⟨i, rfl, g1, g2, g3, g4, g5, g6, g7, g8⟩
  dsimp only at g1 g2 g3 g4 g5 g6 g7 g8
  unfold Em
  dsimp only
  by_cases hi : i < W.length
  ·rw [if_pos (by omega)]
   by_cases hm2 : O.length ≤ most
   ·rw [if_pos (by omega)]
    simp only [obs0]
    obtain ⟨W', O', e, ⟨X, hX⟩, q2, q3, q4, q5, q6, q7, q8⟩ := l3 i W O hi g2 g3 g4 g5 g6 g7
    rw [e]
    simp only [obs0]
    rw [Ae (by unfold InI; omega)]
    refine .inl ⟨_, rfl, ⟨i + 1, rfl, by dsimp only; rw [hX]; simp; omega, q2, q3, q4, q5, q6, q7, fun hle x hx k hk j hj => ?_⟩, by dsimp only; omega⟩
    dsimp only at hle hj ⊢
    have hWx : nth W' x = nth W x := by
     rw [hX, Do (by simp; omega), Do (by omega), List.getElem_append_left (by omega)]
    rw [hWx] at hj
    rcases Nat.lt_or_ge x i with h | h
    ·have hsub : O.length ≤ O'.length := by rw [← g2, ← q2, hX]; simp
     have hjO := g8 (by omega) x h k hk j hj
     exact (q3 j).1 (by rw [hX]; exact List.mem_append.2 (.inl ((g3 j).2 hjO)))
    ·have : x = i := by omega
     subst this
     exact q8 hle k hk j hj
   ·rw [if_neg (by omega)]
    exact .inr ⟨_, rfl, ⟨g4, g6, g7, g5, fun h => absurd h hm2⟩⟩
  ·rw [if_neg (by omega)]
   have hiW : i = W.length := by omega
   refine .inr ⟨_, rfl, ⟨g4, g6, g7, g5, fun hle t ht => Aij ga hn g6 g7 (fun m hm u v hu hv c j hc hj => ?_) ht⟩⟩
   obtain ⟨x, hx, ex⟩ := Gi.1 ((g3 m).2 hm)
   obtain ⟨k, hk, ek⟩ := Gi.1 ((hP c).2 ⟨u, v, hu, hv, hc⟩)
   exact g8 hle x (by omega) k hk j (by rw [ex, ek]; exact hj)) (s := ([Ek n], [Ek n], (0 : Int))) ⟨0, rfl, by simp, rfl, fun z => Iff.rfl, ⟨by simp, fun r hr => by rw [List.mem_singleton.1 hr]; exact hu.1⟩, by simp, fun r hr => by rw [List.mem_singleton.1 hr]; exact hcu, by simp, fun _ x hx => by omega⟩
 rw [e2]
 exact ⟨L, rfl, h⟩
end
end Go.Proofs.YthagmdhmgailfaaGreat.Ax
namespace Go.Proofs.YthagmdhmgailfaaGreat.Ax
open Go Classical
section
variable {n m : Nat} {f g : Nat → Nat → Bool}
end
end Go.Proofs.YthagmdhmgailfaaGreat.Ax
namespace Go.Proofs.YthagmdhmgailfaaGreat.Ax
open Go Classical
section
end
theorem A2a {xs : List Int} (h : xs.length ≤ LIM) : Dj xs xs = some true := by
 have hL := A9
 unfold Dj
 rw [if_neg (by simp)]
 have := Gw (body := B4 xs xs) (fun i => (i : Int)) xs.length (.inr ()) (fun i hi => by
  unfold B4
  rw [if_pos (by omega)]
  repeat rw [Ae (by first | omega | (unfold InI; omega))]
  rw [if_neg (by simp)]
  rfl) (by
  unfold B4
  rw [if_neg (by omega)])
 have h0 : Al (B4 xs xs) 0 = some (.inr ()) := this
 rw [h0]; rfl
theorem Ado {xss : List (List Int)} (h : xss.length ≤ LIM) (h1 : ∀ r ∈ xss, r.length ≤ LIM) : Fy xss xss = some true := by
 have hL := A9
 unfold Fy
 rw [if_neg (by simp)]
 have := Gw (body := Et xss xss) (fun i => (i : Int)) xss.length (.inr ()) (fun i hi => by
  unfold Et
  rw [if_pos (by omega)]
  repeat rw [Ae (by first | omega | (unfold InI; omega))]
  rw [tna0, A2a (h1 _ (Ak hi))]
  simp only [obs0, if_true]
  rfl) (by
  unfold Et
  rw [if_neg (by omega)])
 have h0 : Al (Et xss xss) 0 = some (.inr ()) := this
 rw [h0]; rfl
section
variable {n m : Nat} {f g : Nat → Nat → Bool}
end
end Go.Proofs.YthagmdhmgailfaaGreat.Ax
namespace Go.Proofs.YthagmdhmgailfaaGreat.Ax
open Go Classical
theorem Aoi (a : List Int) : ¬ Oy a a := fun ⟨i, _, _, h⟩ => by omega
theorem Arg {a b c : List Int} (hab : a.length = b.length) (h1 : Oy a b) (h2 : Oy b c) : Oy a c := by
 obtain ⟨i, hi, e1, l1⟩ := h1
 obtain ⟨k, hk, e2, l2⟩ := h2
 rcases Nat.lt_trichotomy i k with h | h | h
 ·exact ⟨i, hi, fun j hj => (e1 j hj).trans (e2 j (by omega)), by rw [← e2 i h]; exact l1⟩
 ·subst h; exact ⟨i, hi, fun j hj => (e1 j hj).trans (e2 j hj), by omega⟩
 ·exact ⟨k, by omega, fun j hj => (e1 j (by omega)).trans (e2 j hj), by rw [e1 k h]; exact l2⟩
theorem Av1 {a b : List Int} (hab : a.length = b.length) : Oy a b ∨ a = b ∨ Oy b a := by
 by_cases h : ∃ i, i < a.length ∧ nth a i ≠ nth b i
 ·obtain ⟨i, ⟨hi, hne⟩, hmin⟩ : ∃ i, (i < a.length ∧ nth a i ≠ nth b i) ∧ ∀ j, j < i → ¬ (j < a.length ∧ nth a j ≠ nth b j) := by
   obtain ⟨k, hk⟩ := h
   induction k using Nat.strongRecOn with
   | ind k ih =>
     by_cases hx : ∃ j, j < k ∧ (j < a.length ∧ nth a j ≠ nth b j)
     ·obtain ⟨j, h1, h2⟩ := hx; exact ih j h1 h2
     ·exact ⟨k, hk, fun j hj hc => hx ⟨j, hj, hc⟩⟩
  have heq : ∀ j, j < i → nth a j = nth b j := fun j hj => Classical.byContradiction fun hc => hmin j hj ⟨by omega, hc⟩
  by_cases hl : nth a i < nth b i
  ·exact .inl ⟨i, hi, heq, hl⟩
  ·exact .inr (.inr ⟨i, by omega, fun j hj => (heq j hj).symm, by omega⟩)
 ·exact .inr (.inl (Ih hab fun i hi => Classical.byContradiction fun hc => h ⟨i, hi, hc⟩))
def tLt (a b : List Int) : Prop := a.length < b.length ∨ (a.length = b.length ∧ Oy a b)
theorem Atp (a : List Int) : ¬ tLt a a := fun h => h.elim (fun h => by omega) fun h => Aoi a h.2
theorem Awd {a b c : List Int} (h1 : tLt a b) (h2 : tLt b c) : tLt a c := by
 rcases h1 with h1 | ⟨e1, l1⟩
 ·rcases h2 with h2 | ⟨e2, _⟩
  ·exact .inl (by omega)
  ·exact .inl (by omega)
 ·rcases h2 with h2 | ⟨e2, l2⟩
  ·exact .inl (by omega)
  ·exact .inr ⟨by omega, Arg e1 l1 l2⟩
theorem A11 (a b : List Int) : tLt a b ∨ a = b ∨ tLt b a := by
 rcases Nat.lt_trichotomy a.length b.length with h | h | h
 ·exact .inl (.inl h)
 ·rcases Av1 h with h1 | h1 | h1
  ·exact .inl (.inr ⟨h, h1⟩)
  ·exact .inr (.inl h1)
  ·exact .inr (.inr (.inr ⟨h.symm, h1⟩))
 ·exact .inr (.inr (.inl h))
end Go.Proofs.YthagmdhmgailfaaGreat.Ax
namespace Go.Proofs.YthagmdhmgailfaaGreat.Ax
open Go Classical
section
variable {a : SAlgebra} {n : Nat}
theorem At6.closed (h : ReadyA a n) {xs : List Int} (hx : At6 a n xs) : Z1 a fun z => decide ((z : Int) ∈ xs) := ((As0 h).1 hx).2.2
end
end Go.Proofs.YthagmdhmgailfaaGreat.Ax
namespace Go.Proofs.YthagmdhmgailfaaGreat.Ax
open Go Classical
section
variable {a : SAlgebra} {n : Nat}
end
end Go.Proofs.YthagmdhmgailfaaGreat.Ax
namespace Go.Proofs.YthagmdhmgailfaaGreat.Ax
open Go Classical
section
variable {a : SAlgebra} {n : Nat}
end
theorem Sv {α : Type} [Inhabited α] {body : (Int × List α) → Option ((Int × List α) ⊕ List α)} (rows : List α) (P : α → Bool)
  (h : ∀ (i : Nat) acc, i < rows.length → acc.length ≤ i → body ((i : Int), acc) = some (.inl (((i + 1 : Nat) : Int), if P (nth rows i) then acc ++ [nth rows i] else acc)))
  (he : ∀ acc, body ((rows.length : Int), acc) = some (.inr acc)) : Al body (0, Aq α) = some (rows.filter P) := by
 have := Gw (body := body) (fun i => ((i : Int), (rows.take i).filter P)) rows.length (rows.filter P) (fun i hi => by
  have hl : ((rows.take i).filter P).length ≤ i := Nat.le_trans (List.length_filter_le _ _) (by simp; omega)
  rw [h i _ hi hl, Rv hi, List.filter_append]
  cases hP : P (nth rows i) <;> simp [hP]) (by rw [List.take_length]; exact he _)
 simpa [Aq] using this
section
variable {a : SAlgebra} {n : Nat}
end
end Go.Proofs.YthagmdhmgailfaaGreat.Ax
namespace Go.Proofs.YthagmdhmgailfaaGreat.Ax
open Go Classical
theorem Aso {xs : List Int} (h : xs.length ≤ LIM) : G1 xs = some xs := by
 unfold G1
 rw [Ae (by show 0 + xs.length ≤ _; omega)]; rfl
theorem A13 {α : Type} [Inhabited α] {xs : List α} (hd : xs.Nodup) {i k : Nat} (hi : i < xs.length) (hk : k < xs.length) (e : nth xs i = nth xs k) : i = k := by
 rw [Do hi, Do hk] at e
 rcases Nat.lt_trichotomy i k with h | h | h
 ·exact absurd e (List.pairwise_iff_getElem.1 hd i k hi hk h)
 ·exact h
 ·exact absurd e.symm (List.pairwise_iff_getElem.1 hd k i hk hi h)
def Ae7 (n : Nat) (bad : Nat → Prop) : Prop := ∃ i, i < n ∧ bad i
theorem Ae7.mk {n : Nat} {bad : Nat → Prop} (i : Nat) (h : i < n) (hb : bad i) : Ae7 n bad := ⟨i, h, hb⟩
theorem Awy {body : (Int × Bool) → Option ((Int × Bool) ⊕ Bool)} (n : Nat) (bad : Nat → Prop) (v : Bool)
  (h : ∀ (i : Nat) b, i < n → body ((i : Int), b) = some (.inl (((i + 1 : Nat) : Int), if bad i then v else b)))
  (he : ∀ b, body ((n : Int), b) = some (.inr b)) (b0 : Bool) : Al body (0, b0) = some (if Ae7 n bad then v else b0) := by
 have := Gw (body := body) (fun i => ((i : Int), if Ae7 i bad then v else b0)) n (if Ae7 n bad then v else b0) (fun i hi => by
  rw [h i _ hi]
  congr 3
  by_cases hb : bad i
  ·rw [if_pos hb, if_pos (Ae7.mk i (by omega) hb)]
  ·rw [if_neg hb]
   by_cases hx : Ae7 i bad
   ·obtain ⟨j, h1, h2⟩ := hx
    rw [if_pos (Ae7.mk j h1 h2), if_pos (Ae7.mk j (by omega) h2)]
   ·rw [if_neg hx, if_neg]
    rintro ⟨j, h1, h2⟩
    by_cases e : j = i
    ·subst e; exact hb h2
    ·exact hx (Ae7.mk j (by omega) h2)) (he _)
 have e0 : ((0 : Int), b0) = (((0 : Nat) : Int), if Ae7 0 bad then v else b0) := by
  rw [if_neg (by rintro ⟨j, h1, _⟩; omega)]; rfl
 rw [e0]; exact this
theorem Abq {rows : List (List Int)} (hn : rows.length ≤ 1048576) (hl : ∀ r ∈ rows, r.length ≤ 1048576) (hd : rows.Nodup) {bey : List Int → List Int → Option Bool} (B : List Int → List Int → Prop)
  (hB : ∀ r ∈ rows, ∀ q ∈ rows, bey r q = some (decide (B r q))) : Eb rows bey = some (rows.filter fun r => decide (∀ q ∈ rows, q ≠ r → ¬ B r q)) := by
 have hL := A9
 unfold Eb
 rw [Sv (body := Er rows bey) rows (fun r => decide (∀ q ∈ rows, q ≠ r → ¬ B r q)) (fun i acc hi ha => by
  have hri := Ak hi
  have hrl := hl _ hri
  unfold Er
  dsimp only
  rw [if_pos (by omega), Ae (by omega), Awy (body := Es rows bey (i : Int) acc) rows.length (fun k => k ≠ i ∧ B (nth rows i) (nth rows k)) false (fun k b hk => by
   unfold Es
   dsimp only
   rw [if_pos (by omega), Ae (by omega), tna0, tna0]
   by_cases e : k = i
   ·rw [if_neg (by omega), if_neg (fun hh => hh.1 e), Ae (by unfold InI; omega)]; rfl
   ·rw [if_pos (by omega), hB _ hri _ (Ak hk)]
    simp only [obs0]
    by_cases hb : B (nth rows i) (nth rows k)
    ·rw [dtr0 hb, if_pos rfl, if_pos ⟨e, hb⟩, Ae (by unfold InI; omega)]; rfl
    ·rw [dfa0 hb, if_neg (by simp), if_neg (fun hh => hb hh.2), Ae (by unfold InI; omega)]; rfl) (fun b => by
   unfold Es
   dsimp only
   rw [if_neg (by omega)]) true]
  simp only [obs0]
  rw [tna0]
  by_cases hx : Ae7 rows.length fun k => k ≠ i ∧ B (nth rows i) (nth rows k)
  ·rw [if_pos hx, if_neg (by simp), Ae (by unfold InI; omega), dfa0, if_neg (by simp)]
   ·rfl
   ·intro hall
    obtain ⟨k, h1, h2, h3⟩ := hx
    exact hall _ (Ak h1) (fun e => h2 (A13 hd h1 hi e)) h3
  ·rw [if_neg hx, if_pos rfl, Aso (by omega)]
   simp only [obs0]
   rw [Ae (by simp; omega), Ae (by unfold InI; omega), dtr0, if_pos rfl]
   ·rfl
   ·intro q hq hne hb
    obtain ⟨k, hk, rfl⟩ := Gi.1 hq
    exact hx (Ae7.mk k hk ⟨fun e => hne (by rw [e]), hb⟩)) (fun acc => by
  unfold Er
  dsimp only
  rw [if_neg (by omega)])]
 rfl
section
variable {a : SAlgebra} {n : Nat}
end
end Go.Proofs.YthagmdhmgailfaaGreat.Ax
namespace Go.Proofs.YthagmdhmgailfaaGreat.Ax
open Go Classical
theorem Aiw {σ : Type} {body : σ → Option (σ ⊕ (Bool × Bool × List Int))} (st : Nat → Bool × Bool × List Int → σ) (N : Nat) (Inv : List Int → Prop)
  (h : ∀ i s, i < N → Inv s.2.2 → ∃ s', body (st i s) = some (.inl (st (i + 1) s')) ∧ Inv s'.2.2)
  (he : ∀ s, body (st N s) = some (.inr s)) (s : Bool × Bool × List Int) (hs : Inv s.2.2) : ∃ s', Al body (st 0 s) = some s' ∧ Inv s'.2.2 := by
 have key : ∀ k, k ≤ N → ∀ s, Inv s.2.2 → ∃ s', Al body (st (N - k) s) = some s' ∧ Inv s'.2.2 := by
  intro k
  induction k with
  | zero =>
    intro _ s hs
    exact ⟨s, La (he s), hs⟩
  | succ k ih =>
    intro hk s hs
    obtain ⟨t, e1, r1⟩ := h (N - (k + 1)) s (by omega) hs
    obtain ⟨r, e2, r2⟩ := ih (by omega) t r1
    have e : N - (k + 1) + 1 = N - k := by omega
    exact ⟨r, by rw [Mz e1, e]; exact e2, r2⟩
 obtain ⟨r, e, hr⟩ := key N (Nat.le_refl _) s hs
 rw [Nat.sub_self] at e
 exact ⟨r, e, hr⟩
section
variable {a : SAlgebra} {n : Nat} {p : List Int}
theorem Awe (ga : Bs a) (hn : a.Size = n) (hp : Bo n p) {o e : Nat} (ho : o < a.Ops.length) (he : e < (nth a.Ops o).Arity.toNat) (s : Bool × Bool × List Int) (hs : Sh a n p s.2.2) :
  ∃ s', Al (A5 a (o : Int) (e : Int) ((n ^ e : Nat) : Int)) (0, s.1, s.2.1, s.2.2) = some s' ∧ Sh a n p s'.2.2 := by
 obtain ⟨r, r3, hr, hT, hTi, h512, hn0, hn8⟩ := opX ga hn ho
 refine Aiw (body := A5 a (o : Int) (e : Int) ((n ^ e : Nat) : Int)) (fun i s => ((i : Int), s.1, s.2.1, s.2.2)) (nth a.Ops o).Table.length (Sh a n p) (fun i s hi hm => ?_) (fun s => ?_) s hs
 ·obtain ⟨c, w, q⟩ := s
  dsimp only at hm ⊢
  have hs := hm.ok
  obtain ⟨x, ex⟩ : ∃ x, x = i / n ^ e % n := ⟨_, rfl⟩
  have hx : x < n := by rw [ex]; exact Nat.mod_lt _ hn0
  obtain ⟨y, ey⟩ : ∃ y, y = i / n ^ e := ⟨_, rfl⟩
  have c1 : (i : Int).tdiv ((n ^ e : Nat) : Int) = (y : Int) := by rw [ey]; rfl
  have c2 : (y : Int).tmod (n : Int) = (x : Int) := by rw [ex, ey]; rfl
  have sw : Aey n q e i = (i : Int) + (nth q x - (x : Int)) * ((n ^ e : Nat) : Int) := by rw [ex]; rfl
  obtain ⟨d, hd, hd2⟩ := Ad0 hn0 hs (r := r) (i := i) (by omega) (show e < r by omega)
  have hd0 := hd
  rw [sw] at hd
  have hpow : 0 < n ^ e := Nat.pow_pos hn0
  have hq := hs.2 _ (Ak (show x < q.length by rw [hs.1]; exact hx))
  have hsl := hs.1
  have y1 := hTi _ (Ak (show i < (nth a.Ops o).Table.length from hi))
  have y2 := hTi _ (Ak (show d < (nth a.Ops o).Table.length by omega))
  have hdiv : y ≤ i := by rw [ey]; exact Nat.div_le_self _ _
  have hu := Ah5 (p := q) (by omega) (X := nth (nth a.Ops o).Table i) (Y := nth (nth a.Ops o).Table d) (by omega) (by omega)
  have hpu : Aip a n q (nth (nth a.Ops o).Table i).toNat (nth (nth a.Ops o).Table d).toNat := ⟨o, i, e, ho, he, hi, by omega, by rw [hd0, tna0]; omega⟩
  have hmid := And ga hn hp hm hm (show (nth (nth a.Ops o).Table i).toNat < n by omega) (show (nth (nth a.Ops o).Table d).toNat < n by omega) hpu
  unfold A5
  dsimp only
  simp only [hn, c1, c2, tna0, hd]
  rw [if_pos (by omega), Ae (by omega), Ae (by unfold InI; omega), Ae (by omega), Ae (by omega), Ae (by unfold InI; omega), Ae (by unfold InI; omega), Ae (by unfold InI; omega), Ae (by omega), hu]
  simp only [obs0]
  by_cases hk : nth q (nth (nth a.Ops o).Table i).toNat = nth q (nth (nth a.Ops o).Table d).toNat
  ·rw [dfa0 (fun hh => hh hk), if_neg (by simp), Ae (by unfold InI; omega)]
   exact ⟨(c, w, _), rfl, hmid⟩
  ·rw [dtr0 hk, if_pos rfl, Ae (by unfold InI; omega)]
   exact ⟨(true, true, _), rfl, hmid⟩
 ·unfold A5
  dsimp only
  rw [tna0, if_neg (by omega)]
theorem Awc (ga : Bs a) (hn : a.Size = n) (hp : Bo n p) {o : Nat} (ho : o < a.Ops.length) (s : Bool × Bool × List Int) (hs : Sh a n p s.2.2) :
  ∃ s', Al (A6 a (o : Int)) (0, 1, s.1, s.2.1, s.2.2) = some s' ∧ Sh a n p s'.2.2 := by
 obtain ⟨r, r3, hr, hT, hTi, h512, hn0, hn8⟩ := opX ga hn ho
 refine Aiw (body := A6 a (o : Int)) (fun e s => ((e : Int), ((n ^ e : Nat) : Int), s.1, s.2.1, s.2.2)) (nth a.Ops o).Arity.toNat (Sh a n p) (fun e s he hs => ?_) (fun s => ?_) s hs
 ·obtain ⟨s', e1, r1⟩ := Awe ga hn hp ho he s hs
  refine ⟨s', ?_, r1⟩
  unfold A6
  dsimp only
  have hp : n ^ e * n ≤ 512 := by rw [← Nat.pow_succ]; exact Zm hn8 (by omega)
  have hp' : ((n ^ e : Nat) : Int) * (n : Int) = ((n ^ e * n : Nat) : Int) := by rw [Int.natCast_mul]
  rw [tna0, if_pos (by omega), e1]
  simp only [obs0]
  rw [hn, hp', Ae (by unfold InI; omega), Ae (by unfold InI; omega), Nat.pow_succ]
  rfl
 ·unfold A6
  dsimp only
  rw [tna0, if_neg (by omega)]
theorem Aw3 (ga : Bs a) (hn : a.Size = n) (hp : Bo n p) (s : Bool × Bool × List Int) (hs : Sh a n p s.2.2) :
  ∃ s', Al (At a) (0, s.1, s.2.1, s.2.2) = some s' ∧ Sh a n p s'.2.2 ∧ Rel n s s' (Abi a n s.2.2) := by
 obtain ⟨s', e, h⟩ := Aiw (body := At a) (fun o s => ((o : Int), s.1, s.2.1, s.2.2)) a.Ops.length (Sh a n p) (fun o s ho hs => by
  obtain ⟨s', e1, r1⟩ := Awc ga hn hp ho s hs
  refine ⟨s', ?_, r1⟩
  unfold At
  dsimp only
  have := ga.2.2.1
  rw [if_pos (by omega), Ae (by omega), e1]
  simp only [obs0]
  rw [Ae (by unfold InI; omega)]
  rfl) (fun s => by
  unfold At
  dsimp only
  rw [if_neg (by omega)]) s hs
 obtain ⟨s2, e2, h2⟩ := Ang ga hn s hs.ok
 have e' : Al (At a) (0, s.1, s.2.1, s.2.2) = some s' := e
 rw [e2] at e'
 cases e'
 exact ⟨_, e2, h, h2⟩
theorem Ac8 (ga : Bs a) (hn : a.Size = n) (hp : Bo n p) : ∃ b q, B3 a p = some (b, q) ∧ Yq a n p q := by
 unfold B3
 obtain ⟨t, ht, hpost⟩ := Bv (body := Bw a) (fun s => Sh a n p s.2.2 ∧ (s.1 = false → Abi a n s.2.2)) (fun s => if s.1 = true then 1 + wgt s.2.2 else 0) (fun t => Yq a n p t.2) (by
  rintro ⟨c, w, q⟩ ⟨hm, hk⟩
  dsimp only at hm hk
  unfold Bw
  dsimp only
  by_cases hc : c = true
  ·subst hc
   rw [if_pos rfl]
   obtain ⟨⟨c', w', q'⟩, e, hm', hr⟩ := Aw3 ga hn hp (false, w, q) hm
   have e' : Al (At a) (0, false, w, q) = some (c', w', q') := e
   rw [e']
   simp only [obs0]
   obtain ⟨r1, r2, r3⟩ := hr
   dsimp only at hm' r1 r2 r3
   refine .inl ⟨_, rfl, ⟨hm', fun hf => ?_⟩, ?_⟩
   ·dsimp only at hf ⊢
    rcases r3 with ⟨r3, r4⟩ | ⟨_, r4, _⟩
    ·cases r3
     exact r4
    ·rw [hf] at r4; cases r4
   ·dsimp only
    have hq0 : ∀ x ∈ q', 0 ≤ x := fun x hx => (r1.2 x hx).1
    obtain ⟨w1, w2⟩ := Azv q' q r2.1 r2.2 hq0
    rcases r3 with ⟨r3, r4⟩ | ⟨r4, r5, _⟩
    ·cases r3
     simp only [if_true, Bool.false_eq_true, if_false]; omega
    ·have := w2 r4
     rw [r5]
     simp only [if_true]; omega
  ·rw [if_neg hc]
   have hc : c = false := by simpa using hc
   exact .inr ⟨_, rfl, ⟨hm.1, hk hc⟩, hm.2.1, hm.2.2⟩) (s := (true, false, p)) ⟨Anl hp, fun hh => by cases hh⟩
 rw [ht]
 exact ⟨t.1, t.2, rfl, hpost⟩
theorem Aaz {n : Nat} (hn : n ≤ 1000) : Ff (n : Int) = some (Ek n) := by
 have hL := A9
 have hul := (Qd n).1
 unfold Ff
 rw [Ae (by omega)]
 obtain ⟨t, e, h1, h2⟩ := Gs (body := Du (n : Int)) n (fun i q => q.length = n ∧ ∀ j, j < i → nth q j = (j : Int)) (fun i q hi hq => by
  unfold Du
  dsimp only
  have := hq.1
  rw [tna0, if_pos (by omega), Ae (by omega), Ae (by unfold InI; omega), tna0]
  refine ⟨_, rfl, by rw [List.length_set]; exact hq.1, fun j hj => ?_⟩
  rw [W1 _ _ _ _ (by omega)]
  by_cases hij : i = j
  ·rw [if_pos hij, hij]
  ·rw [if_neg hij]; exact hq.2 j (by omega)) (fun q _ => by
  unfold Du
  dsimp only
  rw [tna0, if_neg (by omega)]) (List.replicate (n : Int).toNat 0) ⟨by simp, fun j hj => by omega⟩
 rw [e]
 simp only [obs0]
 congr 1
 refine Ih (by omega) fun i hi => ?_
 rw [h2 i (by omega), L5 (by omega)]
def Ts (a : SAlgebra) (n : Nat) (ps : List (Int × Int)) (r : List Int) : Prop := E6 a n r ∧ (∀ z ∈ ps, nth r z.1.toNat = nth r z.2.toNat) ∧ ∀ s, E6 a n s → (∀ z ∈ ps, nth s z.1.toNat = nth s z.2.toNat) → B7 n r s
theorem Ts.uniq {ps : List (Int × Int)} {r r' : List Int} (h : Ts a n ps r) (h' : Ts a n ps r') : r = r' :=
 Qn h.1.1 h'.1.1 (h.2.2 r' h'.1 h'.2.1) (h'.2.2 r h.1 h.2.1)
theorem As4 (_ga : Bs a) {x y : Nat} (hx : x < n) (hy : y < n) {r : List Int} : Ts a n [((x : Int), (y : Int))] r ↔ De a n x y r := by
 constructor
 ·rintro ⟨h1, h2, h3⟩
  have h2 := h2 _ (List.mem_singleton.2 rfl)
  rw [tna0, tna0] at h2
  refine ⟨h1, ?_, fun s hs hf => h3 s hs fun z hz => ?_⟩
  ·rw [← Aab hx hy]
   exact N8 (H4 n) hx hy (Ob r) h2
  ·rw [List.mem_singleton.1 hz, tna0, tna0]
   have h4 := W0 (H4 n) hx hy
   rw [Aab hx hy] at h4
   exact hf.rel hx hy h4
 ·intro h
  refine ⟨h.1, fun z hz => ?_, fun s hs hz => ?_⟩
  ·rw [List.mem_singleton.1 hz, tna0, tna0]
   exact De.rel hx hy h
  ·have := hz _ (List.mem_singleton.2 rfl)
   rw [tna0, tna0] at this
   exact De.le hx hy h hs this
def Apn (n : Nat) (ps : List (Int × Int)) (i : Nat) (q : List Int) : Prop := Bo n q ∧ (∀ j, j < i → nth q (nth ps j).1.toNat = nth q (nth ps j).2.toNat) ∧ ∀ s, Bo n s → (∀ j, j < i → nth s (nth ps j).1.toNat = nth s (nth ps j).2.toNat) → B7 n q s
def Ad6 (n : Nat) (ps : List (Int × Int)) : Prop := ∀ z ∈ ps, (0 ≤ z.1 ∧ z.1 < n) ∧ (0 ≤ z.2 ∧ z.2 < n)
theorem Amz (n : Nat) (ps : List (Int × Int)) : Apn n ps 0 (Ek n) := ⟨H4 n, fun j hj => by omega, fun s _ _ => Ob s⟩
theorem Awx {ps : List (Int × Int)} {i : Nat} {q : List Int} (h : Apn n ps i q) (hi : i < ps.length) (hps : Ad6 n ps) : Apn n ps (i + 1) (mg q (nth q (nth ps i).1.toNat) (nth q (nth ps i).2.toNat)) := by
 obtain ⟨h1, h2, h3⟩ := h
 have hz := hps _ (Ak hi)
 have hx : (nth ps i).1.toNat < n := by omega
 have hy : (nth ps i).2.toNat < n := by omega
 refine ⟨Ny h1 hx hy, fun j hj => ?_, fun s hs hh => N8 h1 hx hy (h3 s hs fun j hj => hh j (by omega)) (hh i (by omega))⟩
 rcases Nat.lt_or_ge j i with hl | hl
 ·have hzj := hps _ (Ak (show j < ps.length by omega))
  exact (Un h1 hx hy).rel (by omega) (by omega) (h2 j hl)
 ·have : j = i := by omega
  subst this
  exact W0 h1 hx hy
theorem Ayi {ps : List (Int × Int)} {q r : List Int} (hps : Ad6 n ps) (h : Apn n ps ps.length q) (hr : Yq a n q r) : Ts a n ps r := by
 obtain ⟨h1, h2, h3⟩ := h
 refine ⟨hr.1, fun z hz => ?_, fun s hs hh => hr.2.2 s hs (h3 s hs.1 fun j hj => hh _ (Ak hj))⟩
 obtain ⟨j, hj, rfl⟩ := Gi.1 hz
 have hzj := hps _ (Ak hj)
 exact hr.2.1.rel (by omega) (by omega) (h2 j hj)
theorem Pq (ga : Bs a) (hn : a.Size = n) {ps : List (Int × Int)} (hl : ps.length ≤ 1000) (hps : Ad6 n ps) : ∃ r, C6 a ps = some r ∧ Ts a n ps r := by
 have h8 := ga.2.1
 unfold C6
 rw [hn, Aaz (by omega)]
 simp only [obs0]
 obtain ⟨q, e, hq⟩ := Gs (body := Cz a ps) ps.length (Apn n ps) (fun i q hi hq => by
  have hz := hps _ (Ak hi)
  have hql := hq.1.1
  unfold Cz
  dsimp only
  rw [if_pos (by omega), Ae (by omega), tna0, Ah5 (by omega) (by omega) (by omega)]
  simp only [obs0]
  rw [Ae (by unfold InI; omega)]
  exact ⟨_, rfl, Awx hq hi hps⟩) (fun q _ => by
  unfold Cz
  dsimp only
  rw [if_neg (by omega)]) (Ek n) (Amz n ps)
 rw [e]
 simp only [obs0]
 obtain ⟨b, r, e2, hr⟩ := Ac8 ga hn hq.1
 rw [e2]
 exact ⟨r, rfl, Ayi hps hq hr⟩
theorem Avi {p q : List Int} (h8 : n ≤ 1000) (hp : Bo n p) (hq : Bo n q) : ∃ r, Lr p q = some r ∧ H8 n p q r := by
 have hpl := hp.1
 have hql := hq.1
 unfold Lr
 rw [Aso (by rw [A9]; omega)]
 simp only [obs0]
 obtain ⟨t, e1, w1, w2, w3, w4⟩ := Gs (body := Hz q) n (fun k w => Bo n w ∧ B7 n p w ∧ (∀ x, x < k → nth w (nth q x).toNat = nth w x) ∧ ∀ s, Bo n s → B7 n p s → B7 n q s → B7 n w s) (fun i w hi hw => by
  obtain ⟨w1, w2, w3, w4⟩ := hw
  have hwl := w1.1
  have hqi := hq.2 i hi
  have hqn : (nth q i).toNat < n := by omega
  unfold Hz
  dsimp only
  rw [if_pos (by omega), Ae (by omega), tna0, Ah5 (by omega) (by omega) (by omega), tna0]
  simp only [obs0]
  rw [Ae (by unfold InI; omega)]
  refine ⟨_, rfl, Ny w1 hi hqn, w2.trans hp (Un w1 hi hqn), fun x hx => ?_, fun s hs h1 h2 => N8 w1 hi hqn (w4 s hs h1 h2) (h2 i hi).symm⟩
  rcases Nat.lt_or_ge x i with h | h
  ·have hqx := hq.2 x (by omega)
   exact (Un w1 hi hqn).rel (by omega) (by omega) (w3 x h)
  ·have : x = i := by omega
   subst this
   exact (W0 w1 hi hqn).symm) (fun w _ => by
  unfold Hz
  dsimp only
  rw [if_neg (by omega)]) p ⟨hp, Qq hp, fun x hx => by omega, fun s _ h _ => h⟩
 rw [e1]
 exact ⟨t, rfl, w1, w2, w3, w4⟩
end
end Go.Proofs.YthagmdhmgailfaaGreat.Ax
namespace Go.Proofs.YthagmdhmgailfaaGreat.Ax
open Go Classical
def bT (p q : List Int) : Prop := blk q < blk p ∨ (blk p = blk q ∧ tLt p q)
theorem Amk (a : List Int) : ¬ bT a a := fun h => h.elim (fun h => by omega) fun h => Atp a h.2
theorem Ajk {a b c : List Int} (h1 : bT a b) (h2 : bT b c) : bT a c := by
 rcases h1 with h1 | ⟨e1, l1⟩
 ·rcases h2 with h2 | ⟨e2, _⟩
  ·exact .inl (by omega)
  ·exact .inl (by omega)
 ·rcases h2 with h2 | ⟨e2, l2⟩
  ·exact .inl (by omega)
  ·exact .inr ⟨by omega, Awd l1 l2⟩
theorem Atm (a b : List Int) : bT a b ∨ a = b ∨ bT b a := by
 rcases Nat.lt_trichotomy (blk a) (blk b) with h | h | h
 ·exact .inr (.inr (.inl h))
 ·rcases A11 a b with h1 | h1 | h1
  ·exact .inl (.inr ⟨h, h1⟩)
  ·exact .inr (.inl h1)
  ·exact .inr (.inr (.inr ⟨h.symm, h1⟩))
 ·exact .inl (.inl h)
noncomputable def Ayj (a b : List Int) : Bool := decide (bT a b)
theorem Asy : Go.Sort.SWO Ayj where
 irrefl x := dfa0 (Amk x)
 trans x y z h1 h2 := dtr0 (Ajk (of_decide_eq_true h1) (of_decide_eq_true h2))
 ntrans x y z h1 h2 := by
  have h1 := of_decide_eq_false h1
  have h2 := of_decide_eq_false h2
  refine dfa0 fun h => ?_
  rcases Atm x y with c | c | c
  ·exact h1 c
  ·subst c; exact h2 h
  ·rcases Atm y z with c2 | c2 | c2
   ·exact h2 c2
   ·subst c2; exact h1 h
   ·exact Amk _ (Ajk (Ajk h c2) c)
theorem A0a (x y : List Int) (h1 : Ayj x y = false) (h2 : Ayj y x = false) : x = y := by
 rcases Atm x y with c | c | c
 ·exact absurd c (of_decide_eq_false h1)
 ·exact c
 ·exact absurd c (of_decide_eq_false h2)
theorem Azq {p q : List Int} (h : p.length = q.length) : bT p q ↔ bLt p q := by
 unfold bT bLt tLt
 constructor
 ·rintro (h1 | ⟨h1, h2 | h2⟩)
  ·exact .inl h1
  ·omega
  ·exact .inr ⟨h1, h2.2⟩
 ·rintro (h1 | ⟨h1, h2⟩)
  ·exact .inl h1
  ·exact .inr ⟨h1, .inr ⟨h, h2⟩⟩
theorem Atc {p q : List Int} (h : p.length = q.length) (hl : p.length ≤ 1000) : ∃ c, Bt p q = some c ∧ (c < 0 ↔ bLt p q) := by
 have hL := A9
 have b1 := Azd p
 have b2 := Azd q
 unfold Bt
 rw [Adg (by omega), Adg (by omega)]
 simp only [obs0]
 have e1 : (Cs q.length fun i => decide (nth q i = (i : Int))).length = blk q := rfl
 have e2 : (Cs p.length fun i => decide (nth p i = (i : Int))).length = blk p := rfl
 rw [e1, e2, Ae (by unfold InI; omega)]
 by_cases hb : ((blk q : Int) - (blk p : Int)) ≠ 0
 ·rw [if_pos hb]
  refine ⟨_, rfl, fun hc => .inl (by omega), fun hc => ?_⟩
  rcases hc with hc | ⟨hc, _⟩ <;> omega
 ·rw [if_neg hb]
  obtain ⟨c, e, hc⟩ := Aiv (a := p) (b := q) h (by omega)
  rw [e]
  refine ⟨c, rfl, ?_⟩
  constructor
  ·intro hh; exact .inr ⟨by omega, hc.1 (by omega)⟩
  ·rintro (hh | ⟨_, hh⟩)
   ·omega
   ·have := hc.2 hh; omega
section
variable {a : SAlgebra} {n : Nat}
def Vk (a : SAlgebra) (n : Nat) (O : List (List Int)) : Prop := V3 n O ∧ ∀ r, r ∈ O ↔ E6 a n r
theorem Am5 {n : Nat} {t : List Int} (h8 : n ≤ 8) (ht : Bo n t) : ∀ x ∈ t, 0 ≤ x ∧ x < 65536 := fun x hx => by
 have := ht.inS x hx; omega
theorem A1a (ga : Bs a) (hn : a.Size = n) : ∃ t : Unit ⊕ List (List Int), (B2 a = (match t with
  | (.inl _) => (some (Aq (List Int), false))
  | (.inr q25_7) => ((Gr (q25_7) (fun w_0 w_1 => Bt w_0 w_1)).bind fun (_, u27) =>
    some (u27, true)) : Option ((List (List Int)) × Bool))) ∧ (match t with
  | (.inl (_ : Unit)) => ∃ L : List (List Int), L.Nodup ∧ (∀ r ∈ L, E6 a n r) ∧ 200 < L.length
  | (.inr (L : List (List Int))) => L.Nodup ∧ L.length ≤ 200 ∧ ∀ r, r ∈ L ↔ E6 a n r) := by
 have hLim := A9
 have h8 := ga.2.1
 have h1 := ga.1
 have hu := H4 n
 have hcu := Wc ga hn
 unfold B2
 have l1 : ∀ x, x < n → ∀ L : List (List Int), L.length ≤ 8 * x → (∀ c, c ∈ L ↔ ∃ u v, u < x ∧ u < v ∧ v < n ∧ De a n u v c) → ∃ M, Al (Cf a (x : Int)) ((x : Int) + 1, L) = some M ∧ M.length ≤ 8 * (x + 1) ∧ ∀ c, c ∈ M ↔ ∃ u v, u < x + 1 ∧ u < v ∧ v < n ∧ De a n u v c := by
  intro x hx L hL hr
  obtain ⟨M, e, q2, q3⟩ := Bv (body := Cf a (x : Int)) (fun s => ∃ i : Nat, s.1 = (i : Int) ∧ x < i ∧ i ≤ n ∧ s.2.length ≤ 8 * x + i ∧ ∀ c, c ∈ s.2 ↔ (∃ u v, u < x ∧ u < v ∧ v < n ∧ De a n u v c) ∨ ∃ v, x < v ∧ v < i ∧ De a n x v c) (fun s => n - s.1.toNat) (fun M => M.length ≤ 8 * (x + 1) ∧ ∀ c, c ∈ M ↔ ∃ u v, u < x + 1 ∧ u < v ∧ v < n ∧ De a n u v c) (by
   rintro ⟨y, M⟩ ⟨i, rfl, g0, g1, g2, g4⟩
   dsimp only at g2 g4
   unfold Cf
   dsimp only
   by_cases hi : i < n
   ·obtain ⟨t, e, ht⟩ := Pq ga hn (ps := [((x : Int), (i : Int))]) (by simp) (fun z hz => by rw [List.mem_singleton.1 hz]; dsimp only; omega)
    rw [As4 ga hx hi] at ht
    rw [if_pos (by omega), e]
    simp only [obs0]
    rw [Ae (by simp; omega), Ae (by unfold InI; omega)]
    refine .inl ⟨_, rfl, ⟨i + 1, rfl, by omega, hi, by simp; omega, fun c => ?_⟩, by dsimp only; omega⟩
    dsimp only
    rw [List.mem_append, List.mem_singleton, g4]
    constructor
    ·rintro ((h | ⟨v, h0, hv, h⟩) | h)
     ·exact .inl h
     ·exact .inr ⟨v, h0, by omega, h⟩
     ·exact .inr ⟨i, by omega, by omega, h ▸ ht⟩
    ·rintro (h | ⟨v, h0, hv, h⟩)
     ·exact .inl (.inl h)
     ·by_cases hvi : v < i
      ·exact .inl (.inr ⟨v, h0, hvi, h⟩)
      ·have : v = i := by omega
       subst this
       exact .inr (Agw h ht)
   ·rw [if_neg (by omega)]
    have : i = n := by omega
    subst this
    refine .inr ⟨_, rfl, by omega, fun c => ?_⟩
    rw [g4]
    constructor
    ·rintro (⟨u, v, hu, hv, hvn, h⟩ | ⟨v, h0, hv, h⟩)
     ·exact ⟨u, v, by omega, hv, hvn, h⟩
     ·exact ⟨x, v, by omega, h0, hv, h⟩
    ·rintro ⟨u, v, hu, hv, hvn, h⟩
     by_cases hui : u < x
     ·exact .inl ⟨u, v, hui, hv, hvn, h⟩
     ·have : u = x := by omega
      subst this
      exact .inr ⟨v, hv, hvn, h⟩) (s := ((x : Int) + 1, L)) ⟨x + 1, by dsimp only; omega, by omega, by omega, by dsimp only; omega, fun c => by
    dsimp only
    rw [hr]
    exact ⟨.inl, fun h => h.elim id fun ⟨v, h0, hv, _⟩ => by omega⟩⟩
  exact ⟨M, e, q2, q3⟩
 obtain ⟨P, e1, hPl, hP⟩ := Bv (body := Df a) (fun s => ∃ i : Nat, s.1 = (i : Int) ∧ i ≤ n ∧ s.2.length ≤ 8 * i ∧ ∀ c, c ∈ s.2 ↔ ∃ u v, u < i ∧ u < v ∧ v < n ∧ De a n u v c) (fun s => n - s.1.toNat) (fun M => M.length ≤ 64 ∧ ∀ c, c ∈ M ↔ ∃ u v, u < n ∧ u < v ∧ v < n ∧ De a n u v c) (by
  rintro ⟨y, M⟩ ⟨i, rfl, g1, g3, g4⟩
  dsimp only at g3 g4
  unfold Df
  dsimp only
  by_cases hi : i < n
  ·obtain ⟨M', e, q2, q3⟩ := l1 i hi M g3 g4
   rw [if_pos (by omega), Ae (by unfold InI; omega), e]
   simp only [obs0]
   rw [Ae (by unfold InI; omega)]
   exact .inl ⟨_, rfl, ⟨i + 1, rfl, hi, q2, q3⟩, by dsimp only; omega⟩
  ·rw [if_neg (by omega)]
   have : i = n := by omega
   subst this
   exact .inr ⟨_, rfl, by omega, g4⟩) (s := ((0 : Int), Aq (List Int))) ⟨0, rfl, Nat.zero_le _, by simp [Aq], fun c => by
   dsimp only
   exact ⟨fun h => by simp [Aq] at h, fun ⟨u, v, hu, _⟩ => by omega⟩⟩
 rw [e1]
 simp only [obs0]
 rw [hn, Aaz (by omega)]
 simp only [obs0]
 have hul := hu.1
 rw [Ae (by simp), show nth [Ek n] (Int.toNat 0) = Ek n from rfl, Avw (by omega)]
 simp only [obs0]
 have pr : ∀ k, k < P.length → ∃ u v, u < n ∧ v < n ∧ De a n u v (nth P k) := fun k hk => by
  obtain ⟨u, v, h1, h2, h3, h4⟩ := (hP _).1 (Ak hk)
  exact ⟨u, v, h1, h3, h4⟩
 have hset : ∀ {S : List (ByteArray × Bool)} {W : List (List Int)} {t : List Int}, Ar0 S W → (∀ r ∈ W, E6 a n r) → E6 a n t → ((F3 S (Aq3 t)).getD false = true ↔ t ∈ W) := by
  intro S W t hS hW ht
  rw [hS, decide_eq_true_eq]
  constructor
  ·rintro ⟨z, hz, e⟩
   rw [← Ayr (Am5 (by omega) (hW z hz).1) (Am5 (by omega) ht.1) e]
   exact hz
  ·intro h; exact ⟨t, h, rfl⟩
 have l3 : ∀ x (S : List (ByteArray × Bool)) (W : List (List Int)), x < W.length → Ar0 S W → W.Nodup → W.length ≤ 200 → (∀ r ∈ W, E6 a n r) →
   ∃ t, Al (Ce P (x : Int)) (0, S, W) = some t ∧ (match t with
     | .inl _ => ∃ L : List (List Int), L.Nodup ∧ (∀ r ∈ L, E6 a n r) ∧ 200 < L.length
     | .inr (S', W') => (∃ X, W' = W ++ X) ∧ Ar0 S' W' ∧ W'.Nodup ∧ W'.length ≤ 200 ∧ (∀ r ∈ W', E6 a n r) ∧ ∀ k, k < P.length → ∀ j, H8 n (nth W x) (nth P k) j → j ∈ W') := by
  intro x S W hx hS hd hl hcg
  refine Bv (body := Ce P (x : Int)) (fun s => ∃ i : Nat, s.1 = (i : Int) ∧ i ≤ P.length ∧ (∃ X, s.2.2 = W ++ X) ∧ Ar0 s.2.1 s.2.2 ∧ s.2.2.Nodup ∧ s.2.2.length ≤ 200 ∧ (∀ r ∈ s.2.2, E6 a n r) ∧ ∀ k, k < i → ∀ j, H8 n (nth W x) (nth P k) j → j ∈ s.2.2) (fun s => P.length - s.1.toNat) _ (by
   rintro ⟨y, S', W'⟩ ⟨i, rfl, g1, ⟨X, hX⟩, g3, g4, g5, g6, g7⟩
   dsimp only at hX g3 g4 g5 g6 g7
   unfold Ce
   dsimp only
   by_cases hi : i < P.length
   ·have hWx : nth W' x = nth W x := by
     rw [hX, Do (by simp; omega), Do hx, List.getElem_append_left hx]
    have hx' : x < W'.length := by rw [hX]; simp; omega
    have hcx := g6 _ (Ak hx')
    obtain ⟨u, v, hu', hv', hpk⟩ := pr i hi
    obtain ⟨t, e, ht⟩ := Avi (by omega) hcx.1 hpk.1.1
    have hct := Age ga hn hcx hpk.1 ht
    have htl := hct.1.1
    rw [if_pos (by omega), Ae (by omega), Ae (by omega), tna0, tna0, e]
    simp only [obs0]
    rw [Avw (by omega)]
    simp only [obs0]
    have done : ∀ M : List (List Int), (∀ z, z ∈ W' ∨ z = t → z ∈ M) → ∀ k, k < i + 1 → ∀ j, H8 n (nth W x) (nth P k) j → j ∈ M := fun M hM k hk j hj => by
     rcases Nat.lt_or_ge k i with h | h
     ·exact hM j (.inl (g7 k h j hj))
     ·have : k = i := by omega
      subst this
      rw [hWx] at ht
      exact hM j (.inr (hj.uniq ht))
    by_cases hin : t ∈ W'
    ·rw [if_pos ((hset g3 g6 hct).2 hin), if_neg (by omega), Ae (by unfold InI; omega)]
     exact .inl ⟨_, rfl, ⟨i + 1, rfl, hi, ⟨X, hX⟩, g3, g4, g5, g6, done _ fun z h => h.elim id fun h => h ▸ hin⟩, by dsimp only; omega⟩
    ·rw [if_neg (fun hh => hin ((hset g3 g6 hct).1 hh)), Ae (by simp; omega)]
     have hnd : (W' ++ [t]).Nodup := by
      rw [List.nodup_append]
      refine ⟨g4, by simp, fun z hz y hy e => ?_⟩
      rw [List.mem_singleton.1 hy] at e
      exact hin (e ▸ hz)
     have hcg' : ∀ r ∈ W' ++ [t], E6 a n r := fun r hr => by
      rcases List.mem_append.1 hr with h | h
      ·exact g6 r h
      ·rw [List.mem_singleton.1 h]; exact hct
     by_cases hbig : ((W' ++ [t]).length : Int) > 200
     ·rw [if_pos hbig]
      exact .inr ⟨_, rfl, W' ++ [t], hnd, hcg', by omega⟩
     ·rw [if_neg hbig, Ae (by unfold InI; omega)]
      exact .inl ⟨_, rfl, ⟨i + 1, rfl, hi, ⟨X ++ [t], by dsimp only; rw [hX, List.append_assoc]⟩, Anc g3 t, hnd, by dsimp only; omega, hcg', done _ fun z h => List.mem_append.2 (h.imp id fun h => List.mem_singleton.2 h)⟩, by dsimp only; omega⟩
   ·rw [if_neg (by omega)]
    have : i = P.length := by omega
    subst this
    exact .inr ⟨_, rfl, ⟨X, hX⟩, g3, g4, g5, g6, g7⟩) (s := ((0 : Int), S, W)) ⟨0, rfl, Nat.zero_le _, ⟨[], by simp⟩, hS, hd, hl, hcg, fun k hk => by omega⟩
 obtain ⟨t, e2, h⟩ := Bv (body := Dh P) (fun s => ∃ i : Nat, s.1 = (i : Int) ∧ i ≤ s.2.2.length ∧ Ar0 s.2.1 s.2.2 ∧ s.2.2.Nodup ∧ s.2.2.length ≤ 200 ∧ (∀ r ∈ s.2.2, E6 a n r) ∧ Ek n ∈ s.2.2 ∧ ∀ x, x < i → ∀ k, k < P.length → ∀ j, H8 n (nth s.2.2 x) (nth P k) j → j ∈ s.2.2) (fun s => 201 - s.1.toNat) (fun t => match t with
  | (.inl (_ : Unit)) => ∃ L : List (List Int), L.Nodup ∧ (∀ r ∈ L, E6 a n r) ∧ 200 < L.length
  | (.inr (L : List (List Int))) => L.Nodup ∧ L.length ≤ 200 ∧ ∀ r, r ∈ L ↔ E6 a n r) (by
  rintro ⟨y, S, W⟩ ⟨i, rfl, g1, g2, g3, g4, g5, g6, g7⟩
  dsimp only at g1 g2 g3 g4 g5 g6 g7
  unfold Dh
  dsimp only
  by_cases hi : i < W.length
  ·obtain ⟨t, e, ht⟩ := l3 i S W hi g2 g3 g4 g5
   rw [if_pos (by omega), e]
   simp only [obs0]
   cases t with
   | inl u => exact .inr ⟨_, rfl, ht⟩
   | inr SW =>
     obtain ⟨S', W'⟩ := SW
     obtain ⟨⟨X, hX⟩, q2, q3, q4, q5, q6⟩ := ht
     dsimp only
     rw [Ae (by unfold InI; omega)]
     have hsub : ∀ z, z ∈ W → z ∈ W' := fun z hz => by rw [hX]; exact List.mem_append.2 (.inl hz)
     refine .inl ⟨_, rfl, ⟨i + 1, rfl, by dsimp only; rw [hX]; simp; omega, q2, q3, q4, q5, hsub _ g6, fun x hx k hk j hj => ?_⟩, by dsimp only; omega⟩
     dsimp only at hj ⊢
     have hWx : nth W' x = nth W x := by
      rw [hX, Do (by simp; omega), Do (by omega), List.getElem_append_left (by omega)]
     rw [hWx] at hj
     rcases Nat.lt_or_ge x i with h | h
     ·exact hsub j (g7 x h k hk j hj)
     ·have : x = i := by omega
      subst this
      exact q6 k hk j hj
  ·rw [if_neg (by omega)]
   have hiW : i = W.length := by omega
   refine .inr ⟨_, rfl, g3, g4, fun r => ⟨fun hr => g5 r hr, fun hr => Aij ga hn g5 g6 (fun m hm u v hu hv c j hc hj => ?_) hr⟩⟩
   obtain ⟨x, hx, ex⟩ := Gi.1 hm
   obtain ⟨k, hk, ek⟩ := Gi.1 ((hP c).2 ⟨v, u, by omega, hv, hu, hc.symm⟩)
   exact g7 x (by omega) k hk j (by rw [ex, ek]; exact hj)) (s := ((0 : Int), Km (Aq (ByteArray × Bool)) (Aq3 (Ek n)) true, [Ek n])) ⟨0, rfl, by simp, Anc A0g (Ek n), by simp, by simp, fun r hr => by rw [List.mem_singleton.1 hr]; exact hcu, by simp, fun x hx => by omega⟩
 refine ⟨t, ?_, h⟩
 rw [e2]
 rfl
theorem At7 (ga : Bs a) (hn : a.Size = n) : (∃ O, Vk a n O ∧ O.length ≤ 200 ∧ B2 a = some (O, true) ∧ Bk a 200 = some O ∧ Bk a 5000 = some O) ∨
  (B2 a = some (Aq (List Int), false) ∧ ∃ O, Bk a 200 = some O ∧ 200 < O.length) := by
 have h8 := ga.2.1
 obtain ⟨O, eO, hO⟩ := Aml ga hn (most := 200) (by omega)
 obtain ⟨O2, eO2, hO2⟩ := Aml ga hn (most := 5000) (by omega)
 have eO' : Bk a 200 = some O := eO
 have eO2' : Bk a 5000 = some O2 := eO2
 obtain ⟨t, e, ht⟩ := A1a ga hn
 by_cases hf : O.length ≤ 200
 ·have hOc : Vk a n O := ⟨hO.srt, fun r => ⟨hO.cg r, hO.all hf r⟩⟩
  have hle : O2.length ≤ O.length := Z8 hO2.srt.nodup fun r hr => (hOc.2 r).2 (hO2.cg r hr)
  have e12 : O2 = O := Ayb hO2.srt hO.srt fun z => ⟨fun hz => (hOc.2 z).2 (hO2.cg z hz), fun hz => hO2.all (by omega) z (hO.cg z hz)⟩
  refine .inl ⟨O, hOc, hf, ?_, eO', by rw [eO2', e12]⟩
  rw [e]
  cases t with
  | inl u =>
    obtain ⟨L, h1, h2, h3⟩ := ht
    have := Z8 h1 fun r hr => (hOc.2 r).2 (h2 r hr)
    omega
  | inr L =>
    obtain ⟨h1, h2, h3⟩ := ht
    have hrl : ∀ r ∈ L, r.length = n := fun r hr => ((h3 r).1 hr).1.1
    have hperm : O.Perm L := (List.perm_ext_iff_of_nodup hO.srt.nodup h1).2 fun r => by rw [h3, hOc.2]
    have hsort := Ap4 (rows := L) (ys := O) (order := fun w_0 w_1 => Bt w_0 w_1) Ayj Asy A0a (by omega) (fun x hx y hy => by
     obtain ⟨c, ec, hc⟩ := Atc (p := x) (q := y) (by rw [hrl x hx, hrl y hy]) (by rw [hrl x hx]; omega)
     refine ⟨c, ec, ?_⟩
     unfold Ayj
     rw [decide_eq_decide, Azq (by rw [hrl x hx, hrl y hy])]
     exact hc.symm) hperm (hO.srt.1.imp_of_mem fun {x y} hx hy h => dfa0 fun hh => by
      have hxl := hO.srt.2 x hx
      have hyl := hO.srt.2 y hy
      exact Yn (by omega) h ((Azq (by omega)).1 hh))
    dsimp only
    rw [hsort]
    rfl
 ·refine .inr ⟨?_, O, eO', by omega⟩
  rw [e]
  cases t with
  | inl u => rfl
  | inr L =>
    obtain ⟨h1, h2, h3⟩ := ht
    have := Z8 hO.srt.nodup fun r hr => (h3 r).2 (hO.cg r hr)
    omega
end
end Go.Proofs.YthagmdhmgailfaaGreat.Ax
namespace Go.Proofs.YthagmdhmgailfaaGreat.Ax
open Go Classical
section
variable {n : Nat} {p q : List Int}
theorem Acs (hp : okP n p) (hq : okP n q) (h8 : n ≤ 1000) : Gv p q = some (decide (B7 n p q)) := by
 have e1 := hp.1
 have e2 := hq.1
 unfold Gv
 have hin : ∀ i, i < p.length → 0 ≤ nth p i ∧ nth p i < n := fun i hi => hp.2 _ (Ak hi)
 have := Gt (body := Fq p q) (fun i => (i : Int)) p.length (fun i => ¬ nth q (nth p i).toNat = nth q i) () () (fun i hi hb => by
  have h := hin i hi
  unfold Fq
  rw [if_pos (by omega), Ae (by omega), tna0, Ae (by omega), Ae (by omega), if_neg (by simpa using hb), Ae (by unfold InI; omega)]; rfl) (fun i hi hb => by
  have h := hin i hi
  unfold Fq
  rw [if_pos (by omega), Ae (by omega), tna0, Ae (by omega), Ae (by omega), if_pos (by simpa using hb)]) (by unfold Fq; rw [if_neg (by omega)]) 0 (by omega)
 refine (J1 this false true).trans (congrArg some (Qi ?_))
 rw [In, e1]
 exact Iff.rfl
theorem Acd (hp : okP n p) (hq : okP n q) (h8 : n ≤ 1000) : Gg p q = some (decide (B7 n p q)) := by
 have e1 := hp.1
 have e2 := hq.1
 unfold Gg
 have hin : ∀ i, i < p.length → 0 ≤ nth p i ∧ nth p i < n := fun i hi => hp.2 _ (Ak hi)
 have := Gt (body := D8 p q) (fun i => (i : Int)) p.length (fun i => ¬ nth q (nth p i).toNat = nth q i) () () (fun i hi hb => by
  have h := hin i hi
  unfold D8
  rw [if_pos (by omega), Ae (by omega), tna0, Ae (by omega), Ae (by omega), if_neg (by simpa using hb), Ae (by unfold InI; omega)]; rfl) (fun i hi hb => by
  have h := hin i hi
  unfold D8
  rw [if_pos (by omega), Ae (by omega), tna0, Ae (by omega), Ae (by omega), if_pos (by simpa using hb)]) (by unfold D8; rw [if_neg (by omega)]) 0 (by omega)
 refine (J1 this false true).trans (congrArg some (Qi ?_))
 rw [In, e1]
 exact Iff.rfl
def Ayo (n : Nat) (O : List (List Int)) (p r : List Int) : Prop := B7 n p r ∧ p ≠ r ∧ ∀ k ∈ O, B7 n p k → B7 n k r → k = p ∨ k = r
noncomputable def Ka (n : Nat) (O : List (List Int)) (p : List Int) : List (List Int) := O.filter fun r => decide (Ayo n O p r)
section
variable {O : List (List Int)} (hO : ∀ r ∈ O, okP n r) (hl : O.length ≤ 1000) (hp : okP n p) (h8 : n ≤ 1000)
include hO hl hp h8
theorem Yt : Fj O p = some (Ka n O p) := by
 have hL := A9
 have hpl := hp.1
 unfold Fj
 rw [Sv (body := E0 O p) O (fun r => decide (Ayo n O p r)) (fun i acc hi ha => by
  have hri := hO _ (Ak hi)
  unfold E0
  dsimp only
  rw [if_pos (by omega), Ae (by omega), tna0, Acd hp hri h8, Rg (by omega)]
  simp only [obs0]
  have near : (if decide (B7 n p (nth O i)) = true then ask (0 ≤ (i : Int) ∧ (i : Int) < (O.length : Int)) <| some !decide (p = nth O i) else some false : Option Bool) = some (decide (B7 n p (nth O i) ∧ p ≠ nth O i)) := by
   by_cases h1 : B7 n p (nth O i)
   ·rw [dtr0 h1, if_pos rfl, Ae (by omega)]
    by_cases h2 : p = nth O i
    ·rw [dtr0 h2, dfa0 (fun hh => hh.2 h2)]; rfl
    ·rw [dfa0 h2, dtr0 ⟨h1, h2⟩]; rfl
   ·rw [dfa0 h1, if_neg Bool.false_ne_true, dfa0 (fun hh => h1 hh.1)]
  rw [near]
  simp only [obs0]
  obtain ⟨t, e, ht⟩ := Bv (body := F9 O p (i : Int) acc) (fun s => ∃ k : Nat, s.1 = (k : Int) ∧ k ≤ O.length ∧ s.2 = decide ((B7 n p (nth O i) ∧ p ≠ nth O i) ∧ ∀ j, j < k → B7 n p (nth O j) → B7 n (nth O j) (nth O i) → nth O j = p ∨ nth O j = nth O i)) (fun s => O.length - s.1.toNat) (fun t => t = decide (Ayo n O p (nth O i))) (by
   rintro ⟨x, b⟩ ⟨k, rfl, g1, g2⟩
   dsimp only at g2
   unfold F9
   dsimp only
   by_cases hk : k < O.length
   ·rw [if_pos (by omega)]
    by_cases hb : b = true
    ·rw [if_pos hb]
     simp only [obs0]
     rw [hb] at g2
     have g2' := of_decide_eq_true g2.symm
     have hrk := hO _ (Ak hk)
     have hkl := hrk.1
     have good : (B7 n p (nth O k) → B7 n (nth O k) (nth O i) → nth O k = p ∨ nth O k = nth O i) → b = decide ((B7 n p (nth O i) ∧ p ≠ nth O i) ∧ ∀ j, j < k + 1 → B7 n p (nth O j) → B7 n (nth O j) (nth O i) → nth O j = p ∨ nth O j = nth O i) := fun hg => by
      rw [hb]
      refine (dtr0 ⟨g2'.1, fun j hj => ?_⟩).symm
      rcases Nat.lt_or_ge j k with h | h
      ·exact g2'.2 j h
      ·have : j = k := by omega
       subst this; exact hg
     rw [Ae (by omega), tna0, Acd hp hrk h8]
     simp only [obs0]
     by_cases c1 : B7 n p (nth O k)
     ·rw [dtr0 c1, if_pos rfl, Ae (by omega), Ae (by omega), tna0, Acd hrk hri h8]
      simp only [obs0]
      by_cases c2 : B7 n (nth O k) (nth O i)
      ·rw [dtr0 c2, if_pos rfl, Ae (by omega), Rg (by omega)]
       simp only [obs0]
       by_cases c3 : nth O k = p
       ·rw [dtr0 c3, if_pos rfl, Ae (by unfold InI; omega)]
        exact .inl ⟨_, rfl, ⟨k + 1, rfl, hk, good fun _ _ => .inl c3⟩, by dsimp only; omega⟩
       ·rw [dfa0 c3, if_neg Bool.false_ne_true, Ae (by omega), Ae (by omega), Rg (by omega)]
        simp only [obs0]
        by_cases c4 : nth O k = nth O i
        ·rw [dtr0 c4, if_pos rfl, Ae (by unfold InI; omega)]
         exact .inl ⟨_, rfl, ⟨k + 1, rfl, hk, good fun _ _ => .inr c4⟩, by dsimp only; omega⟩
        ·rw [dfa0 c4, if_neg Bool.false_ne_true, Ae (by unfold InI; omega)]
         refine .inl ⟨_, rfl, ⟨k + 1, rfl, hk, (dfa0 fun hh => ?_).symm⟩, by dsimp only; omega⟩
         rcases hh.2 k (by omega) c1 c2 with h | h
         ·exact c3 h
         ·exact c4 h
      ·rw [dfa0 c2, if_neg Bool.false_ne_true, Ae (by unfold InI; omega)]
       exact .inl ⟨_, rfl, ⟨k + 1, rfl, hk, good fun _ h => absurd h c2⟩, by dsimp only; omega⟩
     ·rw [dfa0 c1, if_neg Bool.false_ne_true, Ae (by unfold InI; omega)]
      exact .inl ⟨_, rfl, ⟨k + 1, rfl, hk, good fun h => absurd h c1⟩, by dsimp only; omega⟩
    ·rw [if_neg hb]
     refine .inr ⟨_, rfl, ?_⟩
     have hbf : b = false := by simpa using hb
     rw [hbf] at g2 ⊢
     refine (dfa0 fun hh => of_decide_eq_false g2.symm ⟨⟨hh.1, hh.2.1⟩, fun j hj => hh.2.2 _ (Ak (by omega))⟩).symm
   ·rw [if_neg (by omega)]
    refine .inr ⟨_, rfl, ?_⟩
    rw [g2, decide_eq_decide]
    have : k = O.length := by omega
    subst this
    constructor
    ·rintro ⟨⟨h1, h2⟩, h3⟩
     refine ⟨h1, h2, fun z hz => ?_⟩
     obtain ⟨j, hj, rfl⟩ := Gi.1 hz
     exact h3 j hj
    ·rintro ⟨h1, h2, h3⟩
     exact ⟨⟨h1, h2⟩, fun j hj => h3 _ (Ak hj)⟩) (s := ((0 : Int), decide (B7 n p (nth O i) ∧ p ≠ nth O i))) ⟨0, rfl, Nat.zero_le _, by
    dsimp only
    rw [decide_eq_decide]
    exact ⟨fun h => ⟨h, fun j hj => by omega⟩, fun h => h.1⟩⟩
  rw [e, ht]
  simp only [obs0]
  by_cases hc : Ayo n O p (nth O i)
  ·rw [dtr0 hc, if_pos rfl, Ae (by omega), Ae (by simp; omega), Ae (by unfold InI; omega), if_pos rfl]; rfl
  ·rw [dfa0 hc, if_neg Bool.false_ne_true, Ae (by unfold InI; omega), if_neg Bool.false_ne_true]; rfl) (fun acc => by
  unfold E0
  dsimp only
  rw [if_neg (by omega)])]
 rfl
theorem Aqn (hd : O.Nodup) : Ii O p = some (Ka n O p) := by
 have hL := A9
 have hpl := hp.1
 unfold Ii
 rw [Sv (body := Ez O p) O (fun r => decide (B7 n p r ∧ p ≠ r)) (fun i acc hi ha => by
  have hri := hO _ (Ak hi)
  unfold Ez
  dsimp only
  rw [if_pos (by omega), Ae (by omega), tna0, Acs hp hri h8]
  simp only [obs0]
  by_cases h1 : B7 n p (nth O i)
  ·rw [dtr0 h1, if_pos rfl, Asz (by omega)]
   simp only [obs0]
   by_cases h2 : p = nth O i
   ·rw [dtr0 h2, if_pos rfl, Ae (by unfold InI; omega), dfa0 (fun hh => hh.2 h2), if_neg Bool.false_ne_true]; rfl
   ·rw [dfa0 h2, if_neg Bool.false_ne_true, Ae (by simp; omega), Ae (by unfold InI; omega), dtr0 ⟨h1, h2⟩, if_pos rfl]; rfl
  ·rw [dfa0 h1, if_neg Bool.false_ne_true, Ae (by unfold InI; omega), dfa0 (fun hh => h1 hh.1), if_neg Bool.false_ne_true]; rfl) (fun acc => by
  unfold Ez
  dsimp only
  rw [if_neg (by omega)])]
 simp only [obs0]
 have hsub : ∀ r ∈ O.filter (fun r => decide (B7 n p r ∧ p ≠ r)), r ∈ O := fun r hr => (List.mem_filter.1 hr).1
 have hlen := List.length_filter_le (fun r => decide (B7 n p r ∧ p ≠ r)) O
 rw [Abq (B := fun r q => B7 n q r) (by omega) (fun r hr => by have := (hO r (hsub r hr)).1; omega) (hd.sublist List.filter_sublist) (fun r hr q hq => by
  unfold I6
  rw [Acs (hO q (hsub q hq)) (hO r (hsub r hr)) h8]
  rfl)]
 simp only [obs0]
 congr 1
 unfold Ka
 rw [List.filter_filter]
 refine List.filter_congr fun r hr => ?_
 rw [← Bool.decide_and, decide_eq_decide]
 constructor
 ·rintro ⟨h1, h2, h3⟩
  refine ⟨h2, h3, fun k hk g1 g2 => ?_⟩
  by_cases hkp : k = p
  ·exact .inl hkp
  ·by_cases hkr : k = r
   ·exact .inr hkr
   ·exact absurd g2 (h1 k (List.mem_filter.2 ⟨hk, dtr0 ⟨g1, fun e => hkp e.symm⟩⟩) hkr)
 ·rintro ⟨h2, h3, h4⟩
  refine ⟨fun k hk hkr g2 => ?_, h2, h3⟩
  have hk' := List.mem_filter.1 hk
  have g := of_decide_eq_true hk'.2
  rcases h4 k hk'.1 g.1 g2 with h | h
  ·exact g.2 h.symm
  ·exact hkr h
end
end
section
variable {a : SAlgebra} {n : Nat} {O : List (List Int)}
theorem Vk.ok (h : Vk a n O) : ∀ r ∈ O, okP n r := fun r hr => ⟨((h.2 r).1 hr).1.1, ((h.2 r).1 hr).1.inS⟩
theorem Asl (h : Vk a n O) {p : List Int} (hp : E6 a n p) : ∀ (m : Nat) (q : List Int), E6 a n q → B7 n p q → p ≠ q → Aj8 n p - Aj8 n q ≤ m → ∃ c ∈ Ka n O p, B7 n c q := by
 intro m
 induction m with
 | zero =>
   intro q hq hf hne hm
   have := Acc hp.1 hq.1 hf hne
   omega
 | succ m ih =>
   intro q hq hf hne hm
   by_cases hc : Ayo n O p q
   ·exact ⟨q, List.mem_filter.2 ⟨(h.2 q).2 hq, dtr0 hc⟩, Qq hq.1⟩
   ·have : ∃ k ∈ O, B7 n p k ∧ B7 n k q ∧ k ≠ p ∧ k ≠ q := Classical.byContradiction fun hx => hc ⟨hf, hne, fun k hk g1 g2 => by
     by_cases e1 : k = p
     ·exact .inl e1
     ·by_cases e2 : k = q
      ·exact .inr e2
      ·exact absurd ⟨k, hk, g1, g2, e1, e2⟩ hx⟩
    obtain ⟨k, hk, g1, g2, e1, e2⟩ := this
    have hkc := (h.2 k).1 hk
    have c1 := Acc hkc.1 hq.1 g2 e2
    have c2 := Acc hp.1 hkc.1 g1 fun e => e1 e.symm
    obtain ⟨c, hc, hf2⟩ := ih k hkc g1 (fun e => e1 e.symm) (by omega)
    have hcc := (h.2 c).1 (List.mem_filter.1 hc).1
    exact ⟨c, hc, hf2.trans hcc.1 g2⟩
abbrev Ij (n : Nat) : List Int := List.replicate n 0
theorem Oi {i : Nat} (hi : i < n) : nth (Ij n) i = 0 := by
 rw [Do (by simpa using hi)]; simp
theorem Af2 (ga : Bs a) (hn : a.Size = n) : E6 a n (Ij n) := by
 have h1 := ga.1
 have hp : Bo n (Ij n) := ⟨by simp, fun i hi => by rw [Oi hi]; exact ⟨Int.le_refl _, by omega, Oi (by simpa using (show 0 < n by omega))⟩⟩
 refine ⟨hp, fun o ho e he i hi => ?_⟩
 obtain ⟨r, r3, hr, hT, hTi, _, hn0, hn8⟩ := opX ga hn ho
 obtain ⟨d, hd, hd2⟩ := Ad0 hn0 (q := Ij n) ⟨hp.1, hp.inS⟩ (r := r) (i := i) (by omega) (show e < r by omega)
 unfold Aas
 rw [hd, tna0]
 have y1 := hTi _ (Ak (show i < (nth a.Ops o).Table.length from hi))
 have y2 := hTi _ (Ak (show d < (nth a.Ops o).Table.length by omega))
 rw [Oi (by omega), Oi (by omega)]
theorem Yz {p : List Int} (hp : Bo n p) : B7 n p (Ij n) := fun x hx => by
 have := hp.2 x hx
 rw [Oi hx, Oi (by omega)]
theorem Aus {p q : List Int} (hp : Bo n p) (hq : Bo n q) (h : B7 n p q) (hne : p ≠ q) : bLt p q := by
 refine .inl ?_
 rw [Avy hp.1, Avy hq.1]
 exact Acc hp hq h hne
theorem Au0 (ga : Bs a) (hn : a.Size = n) (h : Vk a n O) : ∃ tl, O = Ek n :: tl := by
 have hc := Wc ga hn
 have hm := (h.2 _).2 hc
 match O, h, hm with
 | x :: tl, h, hm =>
   by_cases e : x = Ek n
   ·exact ⟨tl, by rw [e]⟩
   ·exfalso
    rcases List.mem_cons.1 hm with h1 | h1
    ·exact e h1.symm
    ·have hx := (h.2 x).1 (by simp)
     have h2 := (List.pairwise_cons.1 h.1.1).1 _ h1
     have h3 := Aus hc.1 hx.1 (Ob x) fun e2 => e e2.symm
     exact Yn (by rw [hx.1.1, hc.1.1]) h2 h3
theorem A1u (ga : Bs a) (hn : a.Size = n) (h : Vk a n O) : ∃ ini, O = ini ++ [Ij n] := by
 have hc := Af2 ga hn
 have hm := (h.2 _).2 hc
 rcases List.eq_nil_or_concat O with h0 | ⟨ini, x, hx⟩
 ·rw [h0] at hm; cases hm
 ·rw [List.concat_eq_append] at hx
  by_cases e : x = Ij n
  ·exact ⟨ini, by rw [hx, e]⟩
  ·exfalso
   subst hx
   rcases List.mem_append.1 hm with h1 | h1
   ·have hxc := (h.2 x).1 (by simp)
    have h2 := (List.pairwise_append.1 h.1.1).2.2 _ h1 x (by simp)
    have h3 := Aus hxc.1 hc.1 (Yz hxc.1) e
    exact Yn (by rw [hxc.1.1, hc.1.1]) h2 h3
   ·exact e (List.mem_singleton.1 h1).symm
theorem A20 (ga : Bs a) (hn : a.Size = n) (h : Vk a n O) (hl : O.length ≤ 200) : Eb (O.drop 1) (fun w_0 w_1 => Cj w_0 w_1) = some (Ka n O (Ek n)) := by
 have h8 := ga.2.1
 obtain ⟨tl, e⟩ := Au0 ga hn h
 have hok := h.ok
 have hd := h.1.nodup
 subst e
 have hu := List.nodup_cons.1 hd
 rw [List.drop_one, List.tail_cons]
 have hlt : tl.length ≤ 200 := by simp at hl; omega
 rw [Abq (B := fun r q => B7 n q r) (by omega) (fun r hr => by have := (hok r (by simp [hr])).1; omega) hu.2 (fun r hr q hq => by
  unfold Cj
  rw [Acs (hok q (by simp [hq])) (hok r (by simp [hr])) (by omega)]
  rfl)]
 congr 1
 unfold Ka
 rw [List.filter_cons_of_neg (by
  rw [decide_eq_true_eq]
  rintro ⟨_, h2, _⟩
  exact h2 rfl)]
 refine List.filter_congr fun r hr => ?_
 rw [decide_eq_decide]
 constructor
 ·intro h1
  refine ⟨Ob r, fun e => hu.1 (e ▸ hr), fun k hk _ g2 => ?_⟩
  rcases List.mem_cons.1 hk with hk | hk
  ·exact .inl hk
  ·by_cases e : k = r
   ·exact .inr e
   ·exact absurd g2 (h1 k hk e)
 ·rintro ⟨_, h2, h3⟩ k hk hkr g2
  rcases h3 k (by simp [hk]) (Ob k) g2 with h4 | h4
  ·exact hu.1 (h4 ▸ hk)
  ·exact hkr h4
noncomputable def Ad3 (n : Nat) (O : List (List Int)) : List (List Int) := O.filter fun r => decide (Ka n O r = [Ij n])
theorem Arq (h : Vk a n O) (hf : E6 a n (Ij n)) : Ka n O (Ij n) = [] := by
 unfold Ka
 rw [List.filter_eq_nil_iff]
 intro r hr
 rw [decide_eq_true_eq]
 rintro ⟨h1, h2, _⟩
 have hrc := (h.2 r).1 hr
 exact h2 (Qn hf.1 hrc.1 h1 (Yz hrc.1))
theorem A24 (ga : Bs a) (hn : a.Size = n) (h : Vk a n O) (hl : O.length ≤ 200) : Hs O = some (Ad3 n O) := by
 have hLim := A9
 have h8 := ga.2.1
 have hf := Af2 ga hn
 obtain ⟨ini, e⟩ := A1u ga hn h
 have hok := h.ok
 have hd := h.1.nodup
 unfold Hs
 have hlen : O.length = ini.length + 1 := by rw [e]; simp
 rw [Ae (by unfold InI; omega), Ae (by omega)]
 have ei : List.take (((O.length : Int) - 1).toNat - Int.toNat 0) (List.drop (Int.toNat 0) O) = ini := by
  rw [show ((O.length : Int) - 1).toNat - Int.toNat 0 = ini.length by omega, e]
  simp
 rw [ei]
 have hin : ∀ r ∈ ini, r ∈ O := fun r hr => by rw [e]; simp [hr]
 have hnd : ini.Nodup ∧ Ij n ∉ ini := by
  rw [e, List.nodup_append] at hd
  exact ⟨hd.1, fun hh => hd.2.2 _ hh _ (by simp) rfl⟩
 rw [Abq (B := fun r q => B7 n r q) (by omega) (fun r hr => by have := (hok r (hin r hr)).1; omega) hnd.1 (fun r hr q hq => by
  rw [Acs (hok r (hin r hr)) (hok q (hin q hq)) (by omega)])]
 simp only [obs0]
 congr 1
 unfold Ad3
 conv => rhs; rw [e]
 rw [List.filter_append, ← e]
 have e2 : List.filter (fun r => decide (Ka n O r = [Ij n])) [Ij n] = [] := by
  rw [List.filter_cons_of_neg (by rw [decide_eq_true_eq, Arq h hf]; simp)]; rfl
 rw [e2, List.append_nil]
 refine List.filter_congr fun r hr => ?_
 rw [decide_eq_decide]
 have hrc := (h.2 r).1 (hin r hr)
 have hrf : r ≠ Ij n := fun e3 => hnd.2 (e3 ▸ hr)
 constructor
 ·intro h1
  have mem : ∀ c, c ∈ Ka n O r ↔ c = Ij n := fun c => by
   constructor
   ·intro hc
    obtain ⟨hcO, hcc⟩ := List.mem_filter.1 hc
    obtain ⟨g1, g2, _⟩ := of_decide_eq_true hcc
    rw [e] at hcO
    rcases List.mem_append.1 hcO with h2 | h2
    ·exact absurd g1 (h1 c h2 fun e4 => g2 e4.symm)
    ·exact List.mem_singleton.1 h2
   ·intro hc
    subst hc
    refine List.mem_filter.2 ⟨(h.2 _).2 hf, dtr0 ⟨Yz hrc.1, hrf, fun k hk g1 _ => ?_⟩⟩
    rw [e] at hk
    rcases List.mem_append.1 hk with h2 | h2
    ·by_cases e5 : k = r
     ·exact .inl e5
     ·exact absurd g1 (h1 k h2 e5)
    ·exact .inr (List.mem_singleton.1 h2)
  have hcn : (Ka n O r).Nodup := hd.sublist List.filter_sublist
  generalize Ka n O r = C at mem hcn
  match C, mem, hcn with
  | [], mem, _ => exact absurd ((mem _).2 rfl) (by simp)
  | [x], mem, _ => rw [(mem x).1 (by simp)]
  | x :: y :: _, mem, hcn =>
    have e1 := (mem x).1 (by simp)
    have e2 := (mem y).1 (by simp)
    rw [e1, e2] at hcn
    simp at hcn
 ·intro hc q hq hqr g
  have hqc := (h.2 q).1 (hin q hq)
  obtain ⟨c, hcm, hcf⟩ := Asl h hrc _ q hqc g (fun e3 => hqr e3.symm) (Nat.le_refl _)
  rw [hc] at hcm
  rw [List.mem_singleton.1 hcm] at hcf
  exact hnd.2 (Qn hf.1 hqc.1 hcf (Yz hqc.1) ▸ hq)
theorem Aox (ga : Bs a) (hn : a.Size = n) (h : Vk a n O) (hl : O.length ≤ 200) (hall : Bk a 5000 = some O) : Hy a = some (Ad3 n O) := by
 have hLim := A9
 have h8 := ga.2.1
 have hok := h.ok
 unfold Hy G3
 rw [hall]
 simp only [obs0]
 rw [Sv (body := Ea a O) O (fun r => decide (Ka n O r = [Ij n])) (fun i acc hi ha => by
  have hri := hok _ (Ak hi)
  unfold Ea
  dsimp only
  rw [if_pos (by omega), Ae (by omega), tna0, Yt hok (by omega) hri (by omega)]
  simp only [obs0]
  have hcl : (Ka n O (nth O i)).length ≤ O.length := List.length_filter_le _ _
  have hco : ∀ c ∈ Ka n O (nth O i), okP n c := fun c hc => hok c (List.mem_filter.1 hc).1
  have key : (if ((Ka n O (nth O i)).length : Int) = 1 then
    ask (0 ≤ (0 : Int) ∧ (0 : Int) < ((Ka n O (nth O i)).length : Int)) <|
    (Kd a.Size).bind fun r7 =>
    (Dc (nth (Ka n O (nth O i)) (Int.toNat 0)) r7).bind fun r8 =>
    some r8
    else
    some false : Option Bool) = some (decide (Ka n O (nth O i) = [Ij n])) := by
   generalize Ka n O (nth O i) = C at hcl hco
   by_cases h1 : (C.length : Int) = 1
   ·rw [if_pos h1, Ae (by omega)]
    unfold Kd
    rw [hn, Ae (by omega)]
    simp only [obs0]
    match C, h1, hco with
    | [c], _, hco =>
      have hc := hco c (by simp)
      have hcl2 := hc.1
      rw [show nth [c] (Int.toNat 0) = c from rfl, Rg (by omega), tna0]
      simp only [obs0]
      congr 1
      rw [decide_eq_decide]
      exact ⟨fun hh => by rw [hh], fun hh => by simpa using hh⟩
    | [], h1, _ => simp at h1
    | _ :: _ :: _, h1, _ => simp at h1; omega
   ·rw [if_neg h1, dfa0 (fun hh => h1 (by rw [hh]; rfl))]
  rw [key]
  simp only [obs0]
  by_cases hc : Ka n O (nth O i) = [Ij n]
  ·rw [dtr0 hc, if_pos rfl, Ae (by omega), Ae (by simp; omega), Ae (by unfold InI; omega), if_pos rfl]; rfl
  ·rw [dfa0 hc, if_neg Bool.false_ne_true, Ae (by unfold InI; omega), if_neg Bool.false_ne_true]; rfl) (fun acc => by
  unfold Ea
  dsimp only
  rw [if_neg (by omega)])]
 rfl
theorem A1x (ga : Bs a) (hn : a.Size = n) (h : Vk a n O) {p : List Int} (hp : E6 a n p) : Ka n O p = [] ↔ p = Ij n := by
 have hf := Af2 ga hn
 constructor
 ·intro hc
  refine Classical.byContradiction fun hne => ?_
  obtain ⟨c, hcm, _⟩ := Asl h hp _ _ hf (Yz hp.1) hne (Nat.le_refl _)
  rw [hc] at hcm; cases hcm
 ·intro e
  rw [e]; exact Arq h hf
end
end Go.Proofs.YthagmdhmgailfaaGreat.Ax
namespace Go.Proofs.YthagmdhmgailfaaGreat.Ax
open Go Classical
section
variable {a : SAlgebra} {n : Nat}
def J7 (n : Nat) (z : Int × Int) : Prop := (0 ≤ z.1 ∧ z.1 < n) ∧ (0 ≤ z.2 ∧ z.2 < n)
theorem Aw2 {ps : List (Int × Int)} {i : Nat} {q : List Int} (h : Apn n ps i q) (hps : ∀ j, j ≤ i → J7 n (nth ps j)) : Apn n ps (i + 1) (mg q (nth q (nth ps i).1.toNat) (nth q (nth ps i).2.toNat)) := by
 obtain ⟨h1, h2, h3⟩ := h
 have hz := hps i (Nat.le_refl _)
 have hx : (nth ps i).1.toNat < n := by have := hz.1; omega
 have hy : (nth ps i).2.toNat < n := by have := hz.2; omega
 refine ⟨Ny h1 hx hy, fun j hj => ?_, fun s hs hh => N8 h1 hx hy (h3 s hs fun j hj => hh j (by omega)) (hh i (by omega))⟩
 rcases Nat.lt_or_ge j i with hl | hl
 ·have hzj := hps j (by omega)
  exact (Un h1 hx hy).rel (by have := hzj.1; omega) (by have := hzj.2; omega) (h2 j hl)
 ·have : j = i := by omega
  subst this
  exact W0 h1 hx hy
theorem Aud (x y : Int) : Dl [x, y] n ↔ J7 n (x, y) := by
 unfold Dl J7
 simp
def A1c (a : SAlgebra) (n : Nat) (ps : List (Int × Int)) : Prop := Bs a ∧ ps.length ≤ 20 ∧ Ad6 n ps
theorem Wq (hs : Ni a) (hn : Bs a → a.Size = n) {ps : List (Int × Int)} (hl : ps.length ≤ 1000) : ∃ r, Dg a ps = some r ∧ Dd a ps = some r ∧ r.1.length ≤ 8 ∧ (r.2 = true → A1c a n ps ∧ Ts a n ps r.1) := by
 have hLim := A9
 unfold Dg Dd
 rw [Oe hs, Zu hs]
 simp only [obs0]
 by_cases hg : Bs a
 ·have hn := hn hg
  have h8 := hg.2.1
  have h1 := hg.1
  rw [dtr0 hg]
  simp only [if_true]
  by_cases h20 : (ps.length : Int) > 20
  ·rw [if_pos h20]
   exact ⟨(Aq Int, false), rfl, rfl, by simp [Aq], fun hh => by cases hh⟩
  ·rw [if_neg h20]
   simp only [obs0]
   have k1 := Gt (body := Bf a ps) (fun i => (i : Int)) ps.length (fun i => ¬ J7 n (nth ps i)) () () (fun i hi hb => by
    unfold Bf
    rw [if_pos (by omega), Ae (by omega), tna0, Ad9 _ _ (by simp; omega), hn, dtr0 (show Dl [(nth ps i).fst, (nth ps i).snd] n from (Aud _ _).2 (Classical.not_not.1 hb))]
    simp only [obs0, if_true]
    rw [Ae (by unfold InI; omega)]; rfl) (fun i hi hb => by
    unfold Bf
    rw [if_pos (by omega), Ae (by omega), tna0, Ad9 _ _ (by simp; omega), hn, dfa0 (fun hh : Dl [(nth ps i).fst, (nth ps i).snd] n => hb ((Aud _ _).1 hh))]
    rfl) (by
    unfold Bf
    rw [if_neg (by omega)]) 0 (by omega)
   have k1' : Al (Bf a ps) 0 = _ := k1
   rw [k1', hn, Ll (by omega)]
   simp only [obs0]
   obtain ⟨t, e2, ht⟩ := Bv (body := Ci a ps) (fun s => ∃ i : Nat, s.1 = (i : Int) ∧ i ≤ ps.length ∧ Apn n ps i s.2 ∧ ∀ j, j < i → J7 n (nth ps j)) (fun s => ps.length - s.1.toNat) (fun t => match t with
    | .inl (_ : Unit) => ∃ i, i < ps.length ∧ ¬ J7 n (nth ps i)
    | .inr (q : List Int) => Apn n ps ps.length q ∧ ∀ j, j < ps.length → J7 n (nth ps j)) (by
    rintro ⟨x, q⟩ ⟨i, rfl, g1, g2, g3⟩
    dsimp only at g2
    have hql := g2.1.1
    unfold Ci
    dsimp only
    by_cases hi : i < ps.length
    ·have fin1 : (ask (0 ≤ (i : Int) ∧ (i : Int) < (ps.length : Int)) <|
    ask (InI (a.Size - 1)) <|
    (Ee (nth ps (i : Int).toNat).fst 0 (a.Size - 1)).bind fun r9 =>
    if r9 = true then
    ask (0 ≤ (i : Int) ∧ (i : Int) < (ps.length : Int)) <|
    ask (InI (a.Size - 1)) <|
    (Ee (nth ps (i : Int).toNat).snd 0 (a.Size - 1)).bind fun r13 =>
    if r13 = true then
     some (.inl ())
    else
     some (.inr ())
    else
    some (.inr ()) : Option (Unit ⊕ Unit)) = some (if J7 n (nth ps i) then .inl () else .inr ()) := by
      rw [Ae (by omega), Ae (by unfold InI; omega), Yi, hn, tna0]
      simp only [obs0]
      by_cases c1 : 0 ≤ (nth ps i).1 ∧ (nth ps i).1 ≤ (n : Int) - 1
      ·rw [dtr0 c1, if_pos rfl, Ae (by omega), Ae (by unfold InI; omega), Yi]
       simp only [obs0]
       by_cases c2 : 0 ≤ (nth ps i).2 ∧ (nth ps i).2 ≤ (n : Int) - 1
       ·rw [dtr0 c2, if_pos rfl, if_pos (show J7 n (nth ps i) from ⟨⟨c1.1, by omega⟩, ⟨c2.1, by omega⟩⟩)]
       ·rw [dfa0 c2, if_neg Bool.false_ne_true, if_neg (fun hh : J7 n (nth ps i) => c2 ⟨hh.2.1, by have := hh.2.2; omega⟩)]
      ·rw [dfa0 c1, if_neg Bool.false_ne_true, if_neg (fun hh : J7 n (nth ps i) => c1 ⟨hh.1.1, by have := hh.1.2; omega⟩)]
     rw [if_pos (by omega), fin1]
     simp only [obs0]
     by_cases hz : J7 n (nth ps i)
     ·rw [if_pos hz]
      dsimp only
      have hz1 := hz.1
      have hz2 := hz.2
      rw [Ae (by omega), Ae (by omega), tna0, Ly (by omega) (by omega) (by omega)]
      simp only [obs0]
      rw [Ae (by unfold InI; omega)]
      have hall : ∀ j, j < i + 1 → J7 n (nth ps j) := fun j hj => by
       rcases Nat.lt_or_ge j i with h | h
       ·exact g3 j h
       ·have : j = i := by omega
        subst this; exact hz
      exact .inl ⟨_, rfl, ⟨i + 1, rfl, hi, Aw2 g2 fun j hj => hall j (by omega), hall⟩, by dsimp only; omega⟩
     ·rw [if_neg hz]
      exact .inr ⟨_, rfl, i, hi, hz⟩
    ·rw [if_neg (by omega)]
     have : i = ps.length := by omega
     subst this
     exact .inr ⟨_, rfl, g2, g3⟩) (s := ((0 : Int), Ek n)) ⟨0, rfl, Nat.zero_le _, Amz n ps, fun j hj => by omega⟩
   rw [e2]
   cases t with
   | inl u =>
     obtain ⟨i, hi, hb⟩ := ht
     rw [if_pos ⟨i, Nat.zero_le _, hi, hb⟩]
     exact ⟨(Aq Int, false), rfl, rfl, by simp [Aq], fun hh => by cases hh⟩
   | inr q =>
     obtain ⟨hq, hall⟩ := ht
     have hps : Ad6 n ps := fun z hz => by
      obtain ⟨j, hj, rfl⟩ := Gi.1 hz
      exact hall j hj
     rw [if_neg (by rintro ⟨i, _, hi, hb⟩; exact hb (hall i hi))]
     obtain ⟨r, er, hr⟩ := Pq hg hn (ps := ps) (by omega) hps
     obtain ⟨r2, er2, hr2⟩ := Abl hg hn hq.1
     have hg2 := Ayi hps hq hr2
     have := hg2.uniq hr
     subst this
     rw [er]
     simp only [obs0]
     rw [er2]
     exact ⟨(r2, true), rfl, rfl, by have := hr.1.1.1; dsimp only; omega, fun _ => ⟨⟨hg, by omega, hps⟩, hr⟩⟩
 ·rw [dfa0 hg]
  simp only [Bool.false_eq_true, if_false, obs0]
  exact ⟨(Aq Int, false), rfl, rfl, by simp [Aq], fun hh => by cases hh⟩
theorem Aaf (hs : Ni a) (hg : Bs a) (hn : a.Size = n) {x y : Int} (hz : J7 n (x, y)) : ∃ c, Dv a x y = some (c, true) ∧ Ts a n [(x, y)] c := by
 have hLim := A9
 unfold Dv N4
 rw [Oe hs, dtr0 hg]
 simp only [obs0, if_true]
 rw [Ad9 _ _ (by simp; omega), hn, dtr0 ((Aud _ _).2 hz)]
 simp only [obs0, if_true]
 obtain ⟨c, e, hc⟩ := Pq hg hn (ps := [(x, y)]) (by simp) (fun z hz' => by rw [List.mem_singleton.1 hz']; exact hz)
 rw [e]
 exact ⟨c, rfl, hc⟩
theorem Acz {p q : List Int} (h1 : 1 ≤ n) (h8 : n ≤ 8) (hp : Bo n p) (hq : Bo n q) : ∃ r, Ej (n : Int) p q = some (r, true) ∧ H8 n p q r := by
 have e1 := hp.1
 have e2 := hq.1
 unfold Ej G0 N0
 rw [if_pos (show (n : Int) ≥ 1 by omega), dtr0 (show (n : Int) ≤ 8 by omega)]
 simp only [obs0, if_true]
 rw [Uk (by omega), dtr0 hp]
 simp only [obs0, if_true]
 rw [Uk (by omega), dtr0 hq]
 simp only [obs0, if_true]
 obtain ⟨r, e, hr⟩ := Avi (by omega) hp hq
 rw [e]
 exact ⟨r, rfl, hr⟩
def Arn (a : SAlgebra) (n : Nat) (ps : List (Int × Int)) (i : Nat) (q : List Int) : Prop := E6 a n q ∧ (∀ j, j < i → nth q (nth ps j).1.toNat = nth q (nth ps j).2.toNat) ∧ ∀ s, E6 a n s → (∀ j, j < i → nth s (nth ps j).1.toNat = nth s (nth ps j).2.toNat) → B7 n q s
theorem Atl (ga : Bs a) (hn : a.Size = n) {ps : List (Int × Int)} {i : Nat} {q c r : List Int} (h : Arn a n ps i q) (hps : ∀ j, j ≤ i → J7 n (nth ps j)) (hc : Ts a n [nth ps i] c) (hr : H8 n q c r) : Arn a n ps (i + 1) r := by
 obtain ⟨h1, h2, h3⟩ := h
 refine ⟨Age ga hn h1 hc.1 hr, fun j hj => ?_, fun s hs hh => hr.2.2.2 s hs.1 (h3 s hs fun j hj => hh j (by omega)) (hc.2.2 s hs fun z hz => by
  rw [List.mem_singleton.1 hz]; exact hh i (by omega))⟩
 have hzj := hps j (by omega)
 rcases Nat.lt_or_ge j i with hl | hl
 ·exact hr.2.1.rel (by have := hzj.1; omega) (by have := hzj.2; omega) (h2 j hl)
 ·have : j = i := by omega
  subst this
  exact hr.2.2.1.rel (by have := hzj.1; omega) (by have := hzj.2; omega) (hc.2.1 _ (List.mem_singleton.2 rfl))
theorem Axp {ps : List (Int × Int)} {q : List Int} (h : Arn a n ps ps.length q) : Ts a n ps q := by
 refine ⟨h.1, fun z hz => ?_, fun s hs hh => h.2.2 s hs fun j hj => hh _ (Ak hj)⟩
 obtain ⟨j, hj, rfl⟩ := Gi.1 hz
 exact h.2.1 j hj
end
theorem W7 {code : List Int} (hc : ∀ x ∈ code, 0 ≤ x ∧ x ≤ 255) (hl : code.length ≤ 65536) : ∃ a ps, Cb code = some (a, ps) ∧ Xb a ∧ ps.length ≤ 30 := by
 have hLim := A9
 unfold Cb
 obtain ⟨a, d, e, hd, ha⟩ := Aek (Avb hc hl) (by omega)
 rw [e]
 simp only [obs0]
 obtain ⟨w, d2, e2, hd2, w0, w1⟩ := Ep hd (by omega) 24
 rw [e2]
 simp only [obs0]
 have et : w.tdiv 11 = w / 11 := Int.tdiv_eq_ediv_of_nonneg w0
 rw [et, Ae ⟨by decide, by unfold InI; omega⟩, Ae (by unfold InI; omega), Ae (by simp only [List.length_cons, List.length_nil]; omega)]
 obtain ⟨m, d3, e3, hd3, hm⟩ := Hd hd2 (by omega) (List.take ((5 + w / 11).toNat - Int.toNat 0) (List.drop (Int.toNat 0) [0, 1, 1, 2, 3, 20, 21])) (by simp; omega)
 rw [e3]
 simp only [obs0]
 have hm2 := List.mem_of_mem_drop (List.mem_of_mem_take hm)
 simp only [List.mem_cons, List.not_mem_nil, or_false] at hm2
 obtain ⟨ps, e4, hps⟩ := Bv (body := B0 a) (fun s => ∃ i : Nat, s.1 = (i : Int) ∧ i ≤ 21 ∧ s.2.1.length ≤ 21 - i ∧ Cur (2000 + 8 * (21 - i)) s.2.2) (fun s => s.1.toNat) (fun ps => ps.length ≤ 30) (by
  rintro ⟨x, ps, c⟩ ⟨i, rfl, g1, g2, g3⟩
  dsimp only at g2 g3
  unfold B0
  dsimp only
  by_cases hi : (i : Int) > 0
  ·obtain ⟨u, d5, e5, hd5⟩ := Aeb g3 (by omega) a
   obtain ⟨v, d6, e6, hd6⟩ := Aeb hd5 (by omega) a
   rw [if_pos hi, e5]
   simp only [obs0]
   rw [e6]
   simp only [obs0]
   rw [Ae (by simp; omega), Ae (by unfold InI; omega)]
   exact .inl ⟨_, rfl, ⟨i - 1, by dsimp only; omega, by omega, by simp; omega, hd6.mono (by omega)⟩, by dsimp only; omega⟩
  ·rw [if_neg hi]
   exact .inr ⟨_, rfl, by omega⟩) (s := (m, Aq (Int × Int), d3)) ⟨m.toNat, by dsimp only; omega, by omega, by simp [Aq], hd3.mono (by omega)⟩
 rw [e4]
 exact ⟨a, ps, rfl, ha, hps⟩
end Go.Proofs.YthagmdhmgailfaaGreat.Ax
namespace Go.Proofs.YthagmdhmgailfaaGreat.Ax
open Go Classical
theorem Azn (a b : Int) : E9 a b = some (if a < b then a else b) := by
 unfold E9; split <;> rfl
theorem W9 {c : Sl1Cur} {k : Nat} (h : Cur k c) (hk : k ≤ 600000000) (n : Int) : ∃ p d, Cm c n = some (p, d) ∧ Cur (k + 100) d ∧ p.length ≤ 10 := by
 have hL := A9
 unfold Cm
 rw [Aq6]
 simp only [obs0]
 rw [Azn]
 simp only [obs0]
 obtain ⟨m, hm, m9⟩ : ∃ m : Nat, (if (if n > 0 then n else 0) < 9 then (if n > 0 then n else 0) else 9) = (m : Int) ∧ m ≤ 9 :=
  ⟨(if (if n > 0 then n else 0) < 9 then (if n > 0 then n else 0) else 9).toNat, by split <;> split <;> omega, by split <;> split <;> omega⟩
 rw [hm, Ll (by omega)]
 simp only [obs0]
 obtain ⟨r, d, e, hd, r0, r1⟩ := Ep h (by omega) 4
 rw [e]
 simp only [obs0]
 obtain ⟨⟨p, d2⟩, e2, hp, hd2⟩ := Bv (body := Co) (fun s => ∃ i : Nat, s.1 = (i : Int) ∧ i ≤ 4 ∧ okP m s.2.1 ∧ Cur (k + 2 + 4 * (4 - i)) s.2.2) (fun s => s.1.toNat) (fun t => okP m t.1 ∧ Cur (k + 20) t.2) (by
  rintro ⟨x, p, c⟩ ⟨i, rfl, g1, g2, g3⟩
  dsimp only at g2 g3
  have hpl := g2.1
  unfold Co
  dsimp only
  by_cases hi : (i : Int) > 0
  ·rw [if_pos hi]
   by_cases h1 : (p.length : Int) > 1
   ·rw [if_pos h1]
    simp only [obs0]
    obtain ⟨r, d, e, hd, r0, r1⟩ := Ep g3 (by omega) (p.length : Int)
    rw [e]
    simp only [obs0]
    obtain ⟨r', d', e', hd', r0', r1'⟩ := Ep hd (by omega) (p.length : Int)
    rw [e']
    simp only [obs0]
    rw [Ly (by omega) (by omega) (by omega)]
    simp only [obs0]
    rw [Ae (by unfold InI; omega)]
    exact .inl ⟨_, rfl, ⟨i - 1, by dsimp only; omega, by omega, Aq1 g2 (by omega) (by omega), hd'.mono (by omega)⟩, by dsimp only; omega⟩
   ·rw [if_neg h1]
    exact .inr ⟨_, rfl, g2, g3.mono (by omega)⟩
  ·rw [if_neg hi]
   exact .inr ⟨_, rfl, g2, g3.mono (by omega)⟩) (s := (r, Ek m, d)) ⟨r.toNat, by dsimp only; omega, by omega, Qd m, hd.mono (by omega)⟩
 rw [e2]
 simp only [obs0]
 dsimp only at hp hd2
 have hpl := hp.1
 obtain ⟨w, d3, e3, hd3, _⟩ := Ep hd2 (by omega) 24
 rw [e3]
 simp only [obs0]
 by_cases c0 : w = 0
 ·rw [if_pos c0, Ae (by simp; omega)]
  exact ⟨_, _, rfl, hd3.mono (by omega), by simp; omega⟩
 rw [if_neg c0]
 by_cases c1 : w = 1
 ·rw [if_pos c1]
  by_cases c2 : (p.length : Int) > 0
  ·rw [if_pos c2]
   obtain ⟨v, d4, e4, hd4, v0, v1⟩ := Ep hd3 (by omega) (p.length : Int)
   rw [e4]
   simp only [obs0]
   rw [Ae (by unfold InI; omega)]
   obtain ⟨u, d5, e5, hd5, _⟩ := Hd hd4 (by omega) [-1, (p.length : Int), (p.length : Int) - 1, 0] (by simp)
   rw [e5]
   simp only [obs0]
   rw [Ae (by omega)]
   exact ⟨_, _, rfl, hd5.mono (by omega), by rw [List.length_set]; omega⟩
  ·rw [if_neg c2]
   exact ⟨_, _, rfl, hd3.mono (by omega), by omega⟩
 ·rw [if_neg c1]
  exact ⟨_, _, rfl, hd3.mono (by omega), by omega⟩
theorem Afp {c : Sl1Cur} {k : Nat} (h : Cur k c) (hk : k ≤ 500000000) {a : SAlgebra} (ha : Ni a) : ∃ p d, Db c a = some (p, d) ∧ Cur (k + 200) d ∧ p.length ≤ 10 := by
 have hL := A9
 unfold Db
 rw [Zu ha]
 simp only [obs0]
 by_cases hg : Bs a
 ·rw [dtr0 hg]
  simp only [if_true]
  obtain ⟨b, d, e, hd⟩ := Aik h (by omega) 5
  rw [e]
  simp only [obs0]
  by_cases hb : b = true
  ·rw [if_pos hb]
   obtain ⟨p, d2, e2, hd2, hp⟩ := W9 hd (by omega) a.Size
   rw [e2]
   exact ⟨p, d2, rfl, hd2.mono (by omega), hp⟩
  ·rw [if_neg hb]
   simp only [obs0]
   have h8 := hg.2.1
   obtain ⟨n, hn⟩ := Int.eq_ofNat_of_zero_le (show 0 ≤ a.Size by have := hg.1; omega)
   obtain ⟨L, e2, h1, h2, h3⟩ := Atv hg hn (most := 200) (by omega)
   have e2' : Bk a 200 = some L := e2
   rw [e2']
   simp only [obs0]
   obtain ⟨v, d4, e4, hd4, v0, v1⟩ := Ep hd (by omega) (L.length : Int)
   rw [e4]
   simp only [obs0]
   have hv := h3 _ (Ak (show v.toNat < L.length by omega))
   have hvl := hv.1
   rw [Ae (by omega), Aie _ (by omega)]
   exact ⟨_, _, rfl, hd4.mono (by omega), by omega⟩
 ·rw [dfa0 hg]
  simp only [Bool.false_eq_true, if_false]
  obtain ⟨p, d2, e2, hd2, hp⟩ := W9 h (by omega) a.Size
  rw [e2]
  exact ⟨p, d2, rfl, hd2.mono (by omega), hp⟩
theorem Ac2 {code : List Int} (hc : ∀ x ∈ code, 0 ≤ x ∧ x ≤ 255) (hl : code.length ≤ 65536) : ∃ a p, Dx code = some (a, p) ∧ Xb a ∧ p.length ≤ 10 := by
 unfold Dx
 obtain ⟨a, d, e, hd, ha⟩ := Aek (Avb hc hl) (by omega)
 rw [e]
 simp only [obs0]
 obtain ⟨p, d2, e2, _, hp⟩ := Afp hd (by omega) (Zc ha)
 rw [e2]
 exact ⟨a, p, rfl, ha, hp⟩
end Go.Proofs.YthagmdhmgailfaaGreat.Ax
