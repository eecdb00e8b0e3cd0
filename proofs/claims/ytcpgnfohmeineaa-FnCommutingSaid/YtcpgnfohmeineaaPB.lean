/-
 Plain facts, joined.
-/
import Derived.Test.YtcpgnfohmeineaaPA
namespace Go.Proofs.Ytcpgnfohmeineaa.Ax
open Go Classical
def As5 (m i : Nat) : Bool := decide (m / 2 ^ i % 2 = 1)
def As4 (f : Nat → Nat → Bool) (ls : List Int) : Prop := ∀ x ∈ ls, ∀ y ∈ ls, ¬ (x.toNat ≠ y.toNat ∧ f x.toNat y.toNat = true)
section
end
end Go.Proofs.Ytcpgnfohmeineaa.Ax
namespace Go.Proofs.Ytcpgnfohmeineaa.Ax
open Go Classical
def pc (n m : Nat) : Nat := (Nc n (As5 m)).length
theorem Amj {q q' : Nat → Bool} {x : Nat} (hq : q x = false) (h : ∀ i, q' i = (q i || decide (x = i))) : ∀ n, (Nc n q').length = (Nc n q).length + if x < n then 1 else 0 := by
 intro n
 induction n with
 | zero => simp [Nc]
 | succ n ih =>
   rw [Zi, Zi, h n]
   by_cases hxn : x = n
   ·subst hxn
    rw [hq]
    simp only [decide_true, Bool.or_true, if_true, Bool.false_eq_true, if_false]
    rw [List.length_append, ih, if_neg (by omega), if_pos (by omega)]; rfl
   ·rw [decide_eq_false hxn, Bool.or_false]
    by_cases hqn : q n = true
    ·rw [if_pos hqn, if_pos hqn, List.length_append, List.length_append, ih]
     by_cases hx : x < n
     ·rw [if_pos hx, if_pos (by omega)]; simp
     ·rw [if_neg hx, if_neg (by omega)]; rfl
    ·rw [if_neg hqn, if_neg hqn, ih]
     by_cases hx : x < n
     ·rw [if_pos hx, if_pos (by omega)]
     ·rw [if_neg hx, if_neg (by omega)]
def wt (n m : Nat) : Nat := 10 ^ (10 - pc n m)
def phi (n : Nat) (ws : List Int) : Nat → Nat → Int
 | _, 0 => 0
 | M, k + 1 => nth ws M * wt n M + phi n ws (M + 1) k
section
variable {n : Nat} {f : Nat → Nat → Bool}
structure okW (n m : Nat) (ws : List Int) : Prop where
 len : ws.length = 2 ^ n
 pos : ∀ i, i < ws.length → 0 ≤ nth ws i
 sum : phi n ws m (2 ^ n - m) ≤ 10000000000
end
section
end
end Go.Proofs.Ytcpgnfohmeineaa.Ax
namespace Go.Proofs.Ytcpgnfohmeineaa.Ax
open Go Classical
def dg (i : Nat) : Nat → Nat → Bool := fun a b => decide (a = b ∧ a < i)
def Asw (f : Nat → Nat → Bool) (x y : Nat) (v : Bool) : Nat → Nat → Bool := fun a b => if a = x ∧ b = y then v else f a b
def Ass (f : Nat → Nat → Bool) (ps : List (Int × Int)) : Nat → Nat → Nat → Bool
 | 0 => f
 | k + 1 => Asw (Ass f ps k) (nth ps k).1.toNat (nth ps k).2.toNat true
def wy (f : Nat → Nat → Bool) (z x : Nat) : Nat → Nat → Nat → Bool
 | 0 => f
 | y + 1 => Asw (wy f z x y) x y (wy f z x y x y || (wy f z x y x z && wy f z x y z y))
def wx (n : Nat) (f : Nat → Nat → Bool) (z : Nat) : Nat → Nat → Nat → Bool
 | 0 => f
 | x + 1 => wy (wx n f z x) z x n
def wz (n : Nat) (f : Nat → Nat → Bool) : Nat → Nat → Nat → Bool
 | 0 => f
 | z + 1 => wx n (wz n f z) z n
def As7 (n : Nat) (ps : List (Int × Int)) : Nat → Nat → Bool := wz n (Ass (dg n) ps ps.length) n
section
variable {n : Nat} {ps : List (Int × Int)}
end
end Go.Proofs.Ytcpgnfohmeineaa.Ax
namespace Go.Proofs.Ytcpgnfohmeineaa.Ax
open Go Classical
section
variable {n : Nat} {f : Nat → Nat → Bool}
end
section
end
end Go.Proofs.Ytcpgnfohmeineaa.Ax
namespace Go.Proofs.Ytcpgnfohmeineaa.Ax
open Go Classical
noncomputable def Asu (n : Nat) (g h : Nat → Nat → Nat) (S : Nat → Bool) : Nat → Bool := fun z => decide (S z = true ∨ ∃ x y, x < n ∧ y < n ∧ S x = true ∧ S y = true ∧ (z = g x y ∨ z = h x y))
noncomputable def Agy (n : Nat) (g h : Nat → Nat → Nat) (S : Nat → Bool) : Nat → Nat → Bool
 | 0 => S
 | k + 1 => Asu n g h (Agy n g h S k)
section
variable {n : Nat} {g h : Nat → Nat → Nat} {S : Nat → Bool}
def As6 (n : Nat) (g h : Nat → Nat → Nat) (S : Nat → Bool) (k : Nat) : Prop := ∀ z, z < n → Agy n g h S (k + 1) z = Agy n g h S k z
noncomputable def closed (n : Nat) (g h : Nat → Nat → Nat) (S : Nat → Bool) : Nat → Bool := Agy n g h S n
end
end Go.Proofs.Ytcpgnfohmeineaa.Ax
namespace Go.Proofs.Ytcpgnfohmeineaa.Ax
open Go Classical
theorem Aor {xs ys : List Int} (h : xs.length ≤ LIM) : Hc xs ys = some (decide (xs = ys)) := by
 unfold Hc
 rw [Bq] at h
 split
 ·rename_i hl
  rw [decide_eq_false]
  rintro rfl; exact hl rfl
 rename_i hl
 have hl : xs.length = ys.length := by omega
 have := Gu (body := Dc xs ys) (fun i => (i : Int)) xs.length (fun i => ¬ nth xs i = nth ys i) () () (fun i hi hb => by
  unfold Dc
  rw [if_pos (by omega), Ae (by omega), Ae (by omega)]
  simp only [Int.toNat_natCast]
  rw [if_neg (by simpa using hb), Ae (by unfold InI; omega)]; rfl) (fun i hi hb => by
  unfold Dc
  rw [if_pos (by omega), Ae (by omega), Ae (by omega)]
  simp only [Int.toNat_natCast]
  rw [if_pos hb]) (by unfold Dc; rw [if_neg (by omega)]) 0 (by omega)
 show ((Ap _ ((0 : Nat) : Int)).bind _) = _
 rw [this]
 by_cases hx : ∃ i, 0 ≤ i ∧ i < xs.length ∧ ¬ nth xs i = nth ys i
 ·rw [if_pos hx, decide_eq_false]
  ·rfl
  ·rintro rfl; obtain ⟨i, _, _, hc⟩ := hx; exact hc rfl
 ·rw [if_neg hx, decide_eq_true (Akz hl (L5.1 hx))]
  rfl
section
end
end Go.Proofs.Ytcpgnfohmeineaa.Ax
namespace Go.Proofs.Ytcpgnfohmeineaa.Ax
open Go Classical
def Je (a : SAlgebra) : Prop := a.Ops.length ≤ 1048576 ∧ ∀ f ∈ a.Ops, f.Table.length ≤ 1048576
end Go.Proofs.Ytcpgnfohmeineaa.Ax
namespace Go.Proofs.Ytcpgnfohmeineaa.Ax
open Go Classical
end Go.Proofs.Ytcpgnfohmeineaa.Ax
namespace Go.Proofs.Ytcpgnfohmeineaa.Ax
open Go Classical
section
end
end Go.Proofs.Ytcpgnfohmeineaa.Ax
namespace Go.Proofs.Ytcpgnfohmeineaa.Ax
open Go Classical
def Y1 (n : Nat) (f : SOp) : Prop := 0 ≤ f.Arity ∧ f.Arity ≤ 3 ∧ f.Table.length = n ^ f.Arity.toNat ∧ Dh f.Table n
def Ed (a : SAlgebra) : Prop := 1 ≤ a.Size ∧ a.Size ≤ 8 ∧ a.Ops.length ≤ 4 ∧ ∀ f ∈ a.Ops, Y1 a.Size.toNat f
theorem Xm {n k : Nat} (hn : n ≤ 8) (hk : k ≤ 3) : n ^ k ≤ 512 :=
 Nat.le_trans (Nat.pow_le_pow_left hn k) (Nat.le_trans (Nat.pow_le_pow_right (by omega) hk) (by decide))
theorem Aqo {n k : Nat} (hn : n ≤ 8) (hk : k ≤ 3) : Cu n k = some ((n ^ k : Nat) : Int) := by
 unfold Cu
 have key := Cf (body := Bt n) (fun j => (((n ^ j : Nat) : Int), ((k : Int) - (j : Int)))) k ((n ^ k : Nat) : Int) (fun j hj => by
  unfold Bt
  dsimp only
  have hp := Xm hn (show j + 1 ≤ 3 by omega)
  rw [Nat.pow_succ] at hp
  rw [if_pos (by omega), ← Int.natCast_mul, Nat.pow_succ]
  generalize n ^ j * n = N at hp ⊢
  rw [Ae (by unfold InI; omega), Ae (by unfold InI; omega), show ((k : Int) - (j : Int) - 1) = (k : Int) - ((j + 1 : Nat) : Int) by omega]) (by
  unfold Bt
  dsimp only
  rw [if_neg (by omega)])
 have key' : Ap (Bt n) (1, (k : Int)) = some ((n ^ k : Nat) : Int) := by simpa using key
 rw [key']; rfl
theorem Uq {n k : Nat} (hn : n ≤ 8) (hk : k ≤ 3) : B9 n k = some ((n ^ k : Nat) : Int) := by
 unfold B9
 have key := Cf (body := Bu n) (fun j => (((n ^ j : Nat) : Int), ((k : Int) - (j : Int)))) k ((n ^ k : Nat) : Int) (fun j hj => by
  unfold Bu
  dsimp only
  have hp := Xm hn (show j + 1 ≤ 3 by omega)
  rw [Nat.pow_succ] at hp
  rw [if_pos (by omega), ← Int.natCast_mul, Nat.pow_succ]
  generalize n ^ j * n = N at hp ⊢
  rw [Ae (by unfold InI; omega), Ae (by unfold InI; omega), show ((k : Int) - (j : Int) - 1) = (k : Int) - ((j + 1 : Nat) : Int) by omega]) (by
  unfold Bu
  dsimp only
  rw [if_neg (by omega)])
 have key' : Ap (Bu n) (1, (k : Int)) = some ((n ^ k : Nat) : Int) := by simpa using key
 rw [key']; rfl
theorem Ww {n : Nat} (hn : n ≤ 8) {f : SOp} (hl : f.Table.length ≤ LIM) : El f n = some (decide (Y1 n f)) := by
 unfold El
 by_cases h0 : 0 ≤ f.Arity
 ·rw [if_pos (show f.Arity ≥ 0 from h0)]
  by_cases h3 : f.Arity ≤ 3
  ·have e : Cu (n : Int) f.Arity = some ((n ^ f.Arity.toNat : Nat) : Int) := by
    have := Aqo hn (k := f.Arity.toNat) (by omega)
    rwa [show ((f.Arity.toNat : Nat) : Int) = f.Arity by omega] at this
   rw [if_pos h3, e]
   simp only [Option.bind_some]
   by_cases hL : f.Table.length = n ^ f.Arity.toNat
   ·rw [if_pos (by rw [hL]), Abm _ _ hl]
    simp only [Option.bind_some]
    congr 1
    rw [decide_eq_decide]
    exact ⟨fun h => ⟨h0, h3, hL, h⟩, fun h => h.2.2.2⟩
   ·rw [if_neg (fun hc => hL (Int.ofNat_inj.1 hc)), decide_eq_false (fun h => hL h.2.2.1)]
  ·rw [if_neg h3, decide_eq_false (fun h => h3 h.2.1)]
 ·rw [if_neg (by omega), decide_eq_false (fun h => h0 h.1)]
theorem Zz {n : Nat} (hn1 : 1 ≤ n) (hn : n ≤ 8) {f : SOp} (hl : f.Table.length ≤ LIM) : E5 n f = some (decide (Y1 n f)) := by
 unfold E5
 rw [Og]
 simp only [Option.bind_some]
 by_cases h0 : 0 ≤ f.Arity ∧ f.Arity ≤ 3
 ·have e : B9 (n : Int) f.Arity = some ((n ^ f.Arity.toNat : Nat) : Int) := by
   have := Uq hn (k := f.Arity.toNat) (by omega)
   rwa [show ((f.Arity.toNat : Nat) : Int) = f.Arity by omega] at this
  rw [decide_eq_true h0, if_pos rfl, e]
  simp only [Option.bind_some]
  by_cases hL : f.Table.length = n ^ f.Arity.toNat
  ·rw [if_neg (by rw [hL]; simp)]
   simp only [Option.bind_some]
   have hl' := hl
   rw [Bq] at hl'
   have this := Gu (body := D6 n f) (fun i => (i : Int)) f.Table.length (fun i => ¬ (0 ≤ nth f.Table i ∧ nth f.Table i ≤ (n : Int) - 1)) () () (fun i hi hb => by
    unfold D6
    rw [if_pos (by omega), Ae (by omega), Ae (by unfold InI; omega), Og]
    simp only [Int.toNat_natCast, Option.bind_some]
    rw [decide_eq_true (Classical.not_not.1 hb), if_pos rfl, Ae (by unfold InI; omega)]; rfl) (fun i hi hb => by
    unfold D6
    rw [if_pos (by omega), Ae (by omega), Ae (by unfold InI; omega), Og]
    simp only [Int.toNat_natCast, Option.bind_some]
    rw [decide_eq_false hb, if_neg (by simp)]) (by
    unfold D6
    rw [if_neg (by omega)]) 0 (by omega)
   refine (L3 this false true).trans (congrArg some (Sn ?_))
   rw [L5]
   constructor
   ·intro h
    refine ⟨h0.1, h0.2, hL, fun x hx => ?_⟩
    obtain ⟨i, hi, rfl⟩ := Vf.1 hx
    have := h i hi; omega
   ·intro h i hi
    have := h.2.2.2 _ (Bh hi); omega
  ·rw [if_pos (fun hc => hL (Int.ofNat_inj.1 hc)), decide_eq_false (fun h => hL h.2.2.1)]; rfl
 ·rw [decide_eq_false h0, if_neg (by simp), decide_eq_false (fun h => h0 ⟨h.1, h.2.1⟩)]; rfl
theorem M9 {a : SAlgebra} (h : Je a) : Cn a = some (decide (Ed a)) := by
 unfold Cn
 by_cases h1 : a.Size < 1
 ·rw [if_pos h1, decide_eq_false (fun hg => by have := hg.1; omega)]; rfl
 rw [if_neg h1]
 by_cases h8 : a.Size > 8
 ·rw [if_pos h8, decide_eq_false (fun hg => by have := hg.2.1; omega)]; rfl
 rw [if_neg h8]
 by_cases h4 : (a.Ops.length : Int) > 4
 ·rw [if_pos h4, decide_eq_false (fun hg => by have := hg.2.2.1; omega)]; rfl
 rw [if_neg h4]
 simp only [Option.bind_some]
 obtain ⟨n, hn⟩ := Int.eq_ofNat_of_zero_le (show 0 ≤ a.Size by omega)
 have this := Gu (body := B5 a) (fun i => (i : Int)) a.Ops.length (fun i => ¬ Y1 n (nth a.Ops i)) () () (fun i hi hb => by
  have hl := h.2 _ (Bh hi)
  unfold B5
  rw [if_pos (by omega), Ae (by omega), Int.toNat_natCast, hn, Ww (by omega) (by rw [Bq]; omega)]
  simp only [Option.bind_some]
  rw [decide_eq_true (Classical.not_not.1 hb), if_pos rfl, Ae (by unfold InI; omega)]; rfl) (fun i hi hb => by
  have hl := h.2 _ (Bh hi)
  unfold B5
  rw [if_pos (by omega), Ae (by omega), Int.toNat_natCast, hn, Ww (by omega) (by rw [Bq]; omega)]
  simp only [Option.bind_some]
  rw [decide_eq_false hb, if_neg (by simp)]) (by
  unfold B5
  rw [if_neg (by omega)]) 0 (by omega)
 refine (L3 this false true).trans (congrArg some (Sn ?_))
 rw [L5]
 have hnn : a.Size.toNat = n := by omega
 constructor
 ·intro hh
  refine ⟨by omega, by omega, by omega, fun f hf => ?_⟩
  obtain ⟨i, hi, rfl⟩ := Vf.1 hf
  rw [hnn]; exact hh i hi
 ·intro hg i hi
  have := hg.2.2.2 _ (Bh hi)
  rwa [hnn] at this
theorem Aac {a : SAlgebra} (h : Je a) : Er a = some (decide (Ed a)) := by
 unfold Er
 rw [Og]
 simp only [Option.bind_some]
 by_cases h1 : 1 ≤ a.Size ∧ a.Size ≤ 8
 ·rw [decide_eq_true h1, if_pos rfl]
  by_cases h4 : (a.Ops.length : Int) > 4
  ·rw [if_pos h4, decide_eq_false (fun hg => by have := hg.2.2.1; omega)]; rfl
  rw [if_neg h4]
  simp only [Option.bind_some]
  obtain ⟨n, hn⟩ := Int.eq_ofNat_of_zero_le (show 0 ≤ a.Size by omega)
  have this := Gu (body := Dd a) (fun i => (i : Int)) a.Ops.length (fun i => ¬ Y1 n (nth a.Ops i)) () () (fun i hi hb => by
   have hl := h.2 _ (Bh hi)
   unfold Dd
   rw [if_pos (by omega), Ae (by omega), Int.toNat_natCast, hn, Zz (by omega) (by omega) (by rw [Bq]; omega)]
   simp only [Option.bind_some]
   rw [decide_eq_true (Classical.not_not.1 hb), if_pos rfl, Ae (by unfold InI; omega)]; rfl) (fun i hi hb => by
   have hl := h.2 _ (Bh hi)
   unfold Dd
   rw [if_pos (by omega), Ae (by omega), Int.toNat_natCast, hn, Zz (by omega) (by omega) (by rw [Bq]; omega)]
   simp only [Option.bind_some]
   rw [decide_eq_false hb, if_neg (by simp)]) (by
   unfold Dd
   rw [if_neg (by omega)]) 0 (by omega)
  refine (L3 this false true).trans (congrArg some (Sn ?_))
  rw [L5]
  have hnn : a.Size.toNat = n := by omega
  constructor
  ·intro hh
   refine ⟨by omega, by omega, by omega, fun f hf => ?_⟩
   obtain ⟨i, hi, rfl⟩ := Vf.1 hf
   rw [hnn]; exact hh i hi
  ·intro hg i hi
   have := hg.2.2.2 _ (Bh hi)
   rwa [hnn] at this
 ·rw [decide_eq_false h1, if_neg (by simp), decide_eq_false (fun hg => h1 ⟨hg.1, hg.2.1⟩)]; rfl
def Ep (a : SAlgebra) : List Int := a.Ops.map (·.Arity)
theorem Aa7 {a : SAlgebra} {i : Nat} (hi : i < a.Ops.length) : (a.Ops.take (i + 1)).map (·.Arity) = (a.Ops.take i).map (·.Arity) ++ [(nth a.Ops i).Arity] := by
 rw [Fy hi, List.map_append]; rfl
theorem Ag3 {a : SAlgebra} (h : Je a) : Fm a = some (Ep a) := by
 unfold Fm
 have h0 := h.1
 have key := Cf (body := C8 a) (fun i => ((i : Int), (a.Ops.take i).map (·.Arity))) a.Ops.length (Ep a) (fun i hi => by
  unfold C8
  dsimp only
  rw [if_pos (by omega), Ae (by omega), Int.toNat_natCast, Ae (by rw [Bq]; simp only [List.length_map, List.length_take, List.length_cons, List.length_nil]; omega), Ae (by unfold InI; omega), Aa7 hi]
  rfl) (by
  unfold C8
  dsimp only
  rw [if_neg (by omega), List.take_length]
  rfl)
 have key' : Ap (C8 a) (0, Bl Int) = _ := key
 rw [key']; rfl
theorem Ais {a : SAlgebra} (h : Je a) : Fl a = some (Ep a) := by
 unfold Fl
 have h0 := h.1
 have key := Cf (body := De a) (fun i => ((i : Int), (a.Ops.take i).map (·.Arity))) a.Ops.length (Ep a) (fun i hi => by
  unfold De
  dsimp only
  rw [if_pos (by omega), Ae (by omega), Int.toNat_natCast, Ae (by rw [Bq]; simp only [List.length_map, List.length_take, List.length_cons, List.length_nil]; omega), Ae (by unfold InI; omega), Aa7 hi]
  rfl) (by
  unfold De
  dsimp only
  rw [if_neg (by omega), List.take_length]
  rfl)
 have key' : Ap (De a) (0, Bl Int) = _ := key
 rw [key']; rfl
theorem Ad8 {a : SAlgebra} (h : Je a) : (Ep a).length ≤ LIM := by
 have := h.1
 unfold Ep; rw [List.length_map, Bq]; omega
theorem Ajq {xs ys : List Int} (h : xs.length ≤ LIM) : Fj xs ys = some (decide (xs = ys)) := by
 unfold Fj
 rw [Bq] at h
 by_cases hne : xs.length = ys.length
 ·rw [if_neg (by omega)]
  have this := Gu (body := Cb xs ys) (fun i => (i : Int)) xs.length (fun i => ¬ nth xs i = nth ys i) () () (fun i hi hb => by
   unfold Cb
   rw [if_pos (by omega), Ae (by omega), Ae (by omega)]
   simp only [Int.toNat_natCast]
   rw [if_neg (fun hc => hc (Classical.not_not.1 hb).symm), Ae (by unfold InI; omega)]; rfl) (fun i hi hb => by
   unfold Cb
   rw [if_pos (by omega), Ae (by omega), Ae (by omega)]
   simp only [Int.toNat_natCast]
   rw [if_pos (fun hc => hb hc.symm)]) (by unfold Cb; rw [if_neg (by omega)]) 0 (by omega)
  refine (L3 this false true).trans (congrArg some (Sn ?_))
  rw [L5]
  exact ⟨fun hh => Akz hne hh, fun hh i _ => by rw [hh]⟩
 ·rw [if_pos (by omega), decide_eq_false (fun hh => hne (by rw [hh]))]
end Go.Proofs.Ytcpgnfohmeineaa.Ax
namespace Go.Proofs.Ytcpgnfohmeineaa.Ax
open Go Classical
def Bz (n : Nat) : Nat → Nat → List Int
 | 0, _ => []
 | r + 1, k => Bz n r (k / n) ++ [((k % n : Nat) : Int)]
theorem B4 (n : Nat) : ∀ r k, (Bz n r k).length = r := by
 intro r
 induction r with
 | zero => intro k; rfl
 | succ r ih => intro k; simp [Bz, ih]
theorem Pq {n : Nat} (hn : 0 < n) : ∀ r k, Dh (Bz n r k) n := by
 intro r
 induction r with
 | zero => intro k x hx; cases hx
 | succ r ih =>
   intro k x hx
   simp only [Bz] at hx
   rcases List.mem_append.1 hx with hx | hx
   ·exact ih _ x hx
   ·rw [List.mem_singleton.1 hx]
    have := Nat.mod_lt k hn
    omega
theorem Aln {n : Nat} (hn : 0 < n) (hn8 : n ≤ 8) : ∀ (r k : Nat) (xs : List Int), r ≤ xs.length → xs.length ≤ 1000 → k ≤ 1048576 → Ap (C7 n) ((r : Int) - 1, xs, (k : Int)) = some (Bz n r k ++ xs.drop r) := by
 intro r
 induction r with
 | zero =>
   intro k xs _ _ _
   refine Jo ?_
   unfold C7
   dsimp only
   rw [if_neg (by omega)]
   simp [Bz]
 | succ r ih =>
   intro k xs hr hl hk
   have c1 : (k : Int).tdiv (n : Int) = ((k / n : Nat) : Int) := rfl
   have c2 : (k : Int).tmod (n : Int) = ((k % n : Nat) : Int) := rfl
   have hd : k / n ≤ k := Nat.div_le_self k n
   have step : C7 n (((r + 1 : Nat) : Int) - 1, xs, (k : Int)) = some (.inl ((r : Int) - 1, xs.set r ((k % n : Nat) : Int), ((k / n : Nat) : Int))) := by
    unfold C7
    dsimp only
    rw [show (((r + 1 : Nat) : Int) - 1) = (r : Int) by omega, c1, c2]
    generalize k / n = kd at hd
    rw [if_pos (by omega), Ae (by omega), Ae (by omega), Ae (by unfold InI; omega), Ae (by unfold InI; omega), Int.toNat_natCast]
   rw [Mn step, ih _ _ (by rw [List.length_set]; omega) (by rw [List.length_set]; exact hl) (by omega)]
   congr 1
   simp only [Bz]
   rw [List.append_assoc]
   congr 1
   have e : (xs.set r ((k % n : Nat) : Int)).drop r = ((k % n : Nat) : Int) :: xs.drop (r + 1) := by
    refine List.ext_getElem (by simp; omega) fun i h1 h2 => ?_
    rw [List.getElem_drop, List.getElem_set]
    cases i with
    | zero => simp
    | succ i =>
      rw [if_neg (by omega), List.getElem_cons_succ, List.getElem_drop]
      congr 1; omega
   rw [e]; rfl
theorem Aop {n r k : Nat} (hn : 0 < n) (hn8 : n ≤ 8) (hr : r ≤ 3) (hk : k ≤ 1048576) : B8 n r k = some (Bz n r k) := by
 unfold B8
 rw [Ae (by rw [Bq]; omega), Ae (by unfold InI; omega), Int.toNat_natCast, Aln hn hn8 r k _ (by simp) (by simp; omega) hk]
 simp
def M2 (m : Nat) (xs : List Int) : Int := xs.foldl (fun s x => s * (m : Int) + x) 0
theorem L1 (m : Nat) (xs : List Int) (y : Int) : M2 m (xs ++ [y]) = M2 m xs * (m : Int) + y := by
 unfold M2; rw [List.foldl_append]; rfl
theorem Ul {m : Nat} : ∀ (r : Nat) (xs : List Int), xs.length = r → Dh xs m → ∃ c : Nat, M2 m xs = (c : Int) ∧ c < m ^ r := by
 intro r
 induction r with
 | zero =>
   intro xs hl _
   have : xs = [] := List.length_eq_zero_iff.1 hl
   subst this
   exact ⟨0, rfl, by simp⟩
 | succ r ih =>
   intro xs hl hx
   obtain ⟨ys, y, rfl⟩ : ∃ ys y, xs = ys ++ [y] := by
    refine ⟨xs.take r, nth xs r, ?_⟩
    rw [← Fy (by omega), List.take_of_length_le (by omega)]
   have hy := hx y (by simp)
   obtain ⟨c, h1, h2⟩ := ih ys (by simpa using hl) fun z hz => hx z (by simp [hz])
   obtain ⟨d, rfl⟩ := Int.eq_ofNat_of_zero_le hy.1
   refine ⟨c * m + d, by rw [L1, h1]; push_cast; rfl, ?_⟩
   have h3 := Nat.mul_le_mul_right m (show c + 1 ≤ m ^ r from h2)
   rw [Nat.succ_mul] at h3
   rw [Nat.pow_succ]
   omega
theorem P0 {m : Nat} (hm : m ≤ 8) {xs : List Int} (hl : xs.length ≤ 3) (hx : Dh xs m) : ∃ c : Nat, M2 m xs = (c : Int) ∧ c < m ^ xs.length ∧ c < 512 := by
 obtain ⟨c, h1, h2⟩ := Ul xs.length xs rfl hx
 have := Xm hm hl
 exact ⟨c, h1, h2, by omega⟩
theorem Aec {m : Nat} {xs : List Int} {i : Nat} (hi : i < xs.length) : M2 m (xs.take (i + 1)) = M2 m (xs.take i) * (m : Int) + nth xs i := by
 rw [Fy hi, L1]
theorem Adx {m : Nat} (hm : m ≤ 8) {xs : List Int} (hl : xs.length ≤ 3) (hx : Dh xs m) {i : Nat} (hi : i < xs.length) :
  InI (M2 m (xs.take i) * (m : Int)) ∧ InI (M2 m (xs.take i) * (m : Int) + nth xs i) := by
 obtain ⟨c, h1, _, h3⟩ := P0 hm (xs := xs.take i) (by rw [List.length_take]; omega) fun z hz => hx z (List.mem_of_mem_take hz)
 have hv := hx _ (Bh hi)
 have h4 : c * m ≤ 512 * 8 := Nat.mul_le_mul (by omega) hm
 rw [h1, ← Int.natCast_mul]
 generalize c * m = d at h4
 unfold InI
 omega
theorem Al0 {m : Nat} (hm : m ≤ 8) {xs : List Int} (hl : xs.length ≤ 3) (hx : Dh xs m) : Ey xs m = some (M2 m xs) := by
 unfold Ey
 have key := Cf (body := Cx xs m) (fun i => ((i : Int), M2 m (xs.take i))) xs.length (M2 m xs) (fun i hi => by
  unfold Cx
  dsimp only
  obtain ⟨h1, h2⟩ := Adx hm hl hx hi
  rw [if_pos (by omega), Ae (by omega), Ae h1, Int.toNat_natCast, Ae h2, Ae (by unfold InI; omega), Aec hi]
  rfl) (by
  unfold Cx
  dsimp only
  rw [if_neg (by omega), List.take_length])
 have key' : Ap (Cx xs m) (0, 0) = _ := key
 rw [key']; rfl
theorem Apj {b : SAlgebra} {m : Nat} (hm : m ≤ 8) (hb : b.Size = m) {i : Nat} (hi : i < b.Ops.length) {xs : List Int} (hl : xs.length ≤ 3) (hx : Dh xs m) (hT : (nth b.Ops i).Table.length = m ^ xs.length) :
  Ge b i xs = some (nth (nth b.Ops i).Table (M2 m xs).toNat) := by
 unfold Ge
 have key := Cf (body := Ct b i xs) (fun j => ((j : Int), M2 m (xs.take j))) xs.length (M2 m xs) (fun j hj => by
  unfold Ct
  dsimp only
  obtain ⟨h1, h2⟩ := Adx hm hl hx hj
  rw [hb, if_pos (by omega), Ae h1, Ae (by omega), Int.toNat_natCast, Ae h2, Ae (by unfold InI; omega), Aec hj]
  rfl) (by
  unfold Ct
  dsimp only
  rw [if_neg (by omega), List.take_length])
 have key' : Ap (Ct b i xs) (0, 0) = _ := key
 rw [key']
 simp only [Option.bind_some]
 obtain ⟨c, h1, h2, _⟩ := P0 hm hl hx
 rw [Ae (by omega), Int.toNat_natCast, Ae (by rw [h1, hT]; omega)]
def Uj (n m : Nat) (f : List Int) : Nat → Nat → Int
 | 0, _ => 0
 | r + 1, k => Uj n m f r (k / n) * (m : Int) + nth f (k % n)
theorem Aaj (n m : Nat) (f : List Int) : ∀ r k, M2 m ((Bz n r k).map fun x => nth f x.toNat) = Uj n m f r k := by
 intro r
 induction r with
 | zero => intro k; rfl
 | succ r ih =>
   intro k
   simp only [Bz, Uj, List.map_append, List.map_cons, List.map_nil, Int.toNat_natCast]
   rw [L1, ih]
theorem Amw (A C S M L : Int) : A + C * S + S * M * L = A + S * (L * M + C) := by
 rw [Int.mul_add, Int.mul_comm C S, Int.add_assoc, Int.add_comm (S * C), Int.mul_assoc, Int.mul_comm M L]
theorem Anx {n m : Nat} (hn : 0 < n) (hm : m ≤ 8) {a b : SAlgebra} (ha : a.Size = n) (hb : b.Size = m) {f : List Int} (hf : f.length = n) (hfx : Dh f m) {ar : Nat} (har : ar ≤ 3) : ∀ (r j s acc k : Nat), j + r = ar → s * 8 ^ r ≤ 512 → acc ≤ 4096 * j → k ≤ 1048576 →
  Ap (Bp ar a b f) ((j : Int), (s : Int), (acc : Int), (k : Int)) = some ((acc : Int) + (s : Int) * Uj n m f r k) := by
 intro r
 induction r with
 | zero =>
   intro j s acc k hj _ _ _
   refine Jo ?_
   unfold Bp
   dsimp only
   rw [if_neg (by omega)]
   simp [Uj]
 | succ r ih =>
   intro j s acc k hj hs hacc hk
   have hkn := Nat.mod_lt k hn
   have hv := hfx _ (Bh (show k % n < f.length by omega))
   obtain ⟨c, hc⟩ := Int.eq_ofNat_of_zero_le hv.1
   have hd : k / n ≤ k := Nat.div_le_self k n
   have hp : 0 < 8 ^ r := Nat.pow_pos (by omega)
   rw [Nat.pow_succ] at hs
   have hs8 : s * 8 ≤ 512 := by
    have : s * 8 * 1 ≤ s * 8 * 8 ^ r := Nat.mul_le_mul_left _ hp
    rw [Nat.mul_assoc, Nat.mul_assoc, Nat.mul_comm 8 (8 ^ r)] at this
    omega
   have hsm : s * m ≤ s * 8 := Nat.mul_le_mul_left _ hm
   have hcs : c * s ≤ 8 * 64 := Nat.mul_le_mul (by omega) (by omega)
   have c1 : (k : Int).tdiv (n : Int) = ((k / n : Nat) : Int) := rfl
   have c2 : (k : Int).tmod (n : Int) = ((k % n : Nat) : Int) := rfl
   have step : Bp ar a b f ((j : Int), (s : Int), (acc : Int), (k : Int)) = some (.inl (((j + 1 : Nat) : Int), ((s * m : Nat) : Int), ((acc + c * s : Nat) : Int), ((k / n : Nat) : Int))) := by
    unfold Bp
    dsimp only
    rw [ha, hb, c1, c2, Int.toNat_natCast, hc]
    have e1 : (c : Int) * (s : Int) = ((c * s : Nat) : Int) := by push_cast; rfl
    have e2 : (s : Int) * (m : Int) = ((s * m : Nat) : Int) := by push_cast; rfl
    rw [e1, e2]
    generalize k / n = kd at hd
    generalize k % n = km at hkn
    generalize c * s = cs at hcs
    generalize s * m = sm at hsm
    rw [if_pos (by omega)]
    repeat rw [Ae (by first | omega | (unfold InI; omega))]
    rfl
   have hb2 : s * m * 8 ^ r ≤ 512 := by
    have h1 : s * m * 8 ^ r ≤ s * 8 * 8 ^ r := Nat.mul_le_mul_right _ hsm
    rw [Nat.mul_assoc s 8, Nat.mul_comm 8 (8 ^ r)] at h1
    omega
   rw [Mn step, ih (j + 1) (s * m) (acc + c * s) (k / n) (by omega) hb2 (by omega) (by omega)]
   simp only [Uj, hc]
   congr 1
   push_cast
   exact Amw _ _ _ _ _
theorem Ae1 {n m : Nat} (hn : 0 < n) (hm : m ≤ 8) {a b : SAlgebra} (ha : a.Size = n) (hb : b.Size = m) {f : List Int} (hf : f.length = n) (hfx : Dh f m) {ar : Nat} (har : ar ≤ 3) {k : Nat} (hk : k ≤ 1048576) :
  Ej k ar a b f = some (Uj n m f ar k) := by
 unfold Ej
 have h8 : 1 * 8 ^ ar ≤ 512 := by rw [Nat.one_mul]; exact Xm (by omega) har
 have key := Anx hn hm ha hb hf hfx har ar 0 1 0 k (by omega) h8 (by omega) hk
 have key' : Ap (Bp ar a b f) (0, 1, 0, (k : Int)) = some (Uj n m f ar k) := by simpa using key
 rw [key']; rfl
theorem Aeh {n m : Nat} (hn : 0 < n) {f : List Int} (hf : f.length = n) (hfx : Dh f m) (r k : Nat) : Dh ((Bz n r k).map fun x => nth f x.toNat) m := by
 intro y hy
 obtain ⟨x, hx, rfl⟩ := List.mem_map.1 hy
 have := Pq hn r k x hx
 exact hfx _ (Bh (by omega))
theorem Ajp {f xs : List Int} (hl : xs.length ≤ 3) (hx : Dh xs f.length) : Fh f xs = some (xs.map fun x => nth f x.toNat) := by
 unfold Fh
 have key := Cf (body := Ca f xs) (fun i => ((i : Int), (xs.take i).map fun x => nth f x.toNat)) xs.length (xs.map fun x => nth f x.toNat) (fun i hi => by
  unfold Ca
  dsimp only
  have hv := hx _ (Bh hi)
  rw [if_pos (by omega), Ae (by omega), Int.toNat_natCast, Ae (by omega), Ae (by rw [Bq]; simp only [List.length_map, List.length_take, List.length_cons, List.length_nil]; omega), Ae (by unfold InI; omega), Fy hi, List.map_append]
  rfl) (by
  unfold Ca
  dsimp only
  rw [if_neg (by omega), List.take_length])
 have key' : Ap (Ca f xs) (0, Bl Int) = _ := key
 rw [key']; rfl
structure Homs (a b : SAlgebra) (f : List Int) (n m : Nat) : Prop where
 ga : Ed a
 gb : Ed b
 ty : Ep a = Ep b
 sa : a.Size = n
 sb : b.Size = m
 len : f.length = n
 fin : Dh f m
def C5 (a b : SAlgebra) (f : List Int) (n m i k : Nat) : Prop := nth f (nth (nth a.Ops i).Table k).toNat ≠ nth (nth b.Ops i).Table (Uj n m f (nth a.Ops i).Arity.toNat k).toNat
def faulty (a b : SAlgebra) (f : List Int) (n m : Nat) : Prop := ∃ i, i < a.Ops.length ∧ ∃ k, k < (nth a.Ops i).Table.length ∧ C5 a b f n m i k
section
variable {a b : SAlgebra} {f : List Int} {n m : Nat}
theorem Homs.ops (h : Homs a b f n m) : a.Ops.length = b.Ops.length := by
 have := congrArg List.length h.ty
 simpa [Ep] using this
theorem Homs.op (h : Homs a b f n m) {i : Nat} (hi : i < a.Ops.length) : ∃ r : Nat, r ≤ 3 ∧ (nth a.Ops i).Arity = r ∧ (nth b.Ops i).Arity = r ∧ (nth a.Ops i).Table.length = n ^ r ∧ (nth b.Ops i).Table.length = m ^ r ∧ Dh (nth a.Ops i).Table n ∧ n ^ r ≤ 512 := by
 have hn : a.Size.toNat = n := by have := h.sa; omega
 have hm : b.Size.toNat = m := by have := h.sb; omega
 have hn8 : n ≤ 8 := by have := h.sa; have := h.ga.2.1; omega
 obtain ⟨h1, h2, h3, h4⟩ := h.ga.2.2.2 _ (Bh hi)
 have hib : i < b.Ops.length := by rw [← h.ops]; exact hi
 obtain ⟨_, _, k3, _⟩ := h.gb.2.2.2 _ (Bh hib)
 have e : (nth a.Ops i).Arity = (nth b.Ops i).Arity := by
  have e1 : nth (Ep a) i = (nth a.Ops i).Arity := Ah3 _ hi
  have e2 : nth (Ep b) i = (nth b.Ops i).Arity := Ah3 _ hib
  rw [← e1, ← e2, h.ty]
 rw [hn] at h3 h4
 rw [hm, ← e] at k3
 exact ⟨(nth a.Ops i).Arity.toNat, by omega, by omega, by omega, h3, k3, h4, Xm hn8 (by omega)⟩
theorem Homs.pos (h : Homs a b f n m) : 0 < n ∧ n ≤ 8 ∧ 0 < m ∧ m ≤ 8 := by
 have := h.sa; have := h.sb; have := h.ga.1; have := h.ga.2.1; have := h.gb.1; have := h.gb.2.1
 omega
theorem Homs.low (h : Homs a b f n m) {r k : Nat} (hr : r ≤ 3) : ∃ c : Nat, Uj n m f r k = (c : Int) ∧ c < m ^ r := by
 obtain ⟨hn, _, _, hm⟩ := h.pos
 obtain ⟨c, h1, h2, _⟩ := P0 hm (xs := (Bz n r k).map fun x => nth f x.toNat) (by rw [List.length_map, B4]; exact hr) (Aeh hn h.len h.fin r k)
 rw [Aaj] at h1
 rw [List.length_map, B4] at h2
 exact ⟨c, h1, h2⟩
end
def uniq (f : List Int) : Prop := ∀ i, i < f.length → nth f i ∉ f.take i
theorem Aqp {a b : SAlgebra} (h : Je a) (h' : Je b) : Fk a b = some (decide (Ed a ∧ Ed b ∧ Ep a = Ep b)) := by
 unfold Fk
 rw [M9 h, M9 h']
 simp only [Option.bind_some]
 by_cases ga : Ed a
 ·by_cases gb : Ed b
  ·rw [decide_eq_true ga, decide_eq_true gb]
   simp only [if_true]
   unfold Ly Hl
   rw [M9 h, M9 h', decide_eq_true ga, decide_eq_true gb]
   simp only [Option.bind_some, if_true]
   rw [Ag3 h, Ag3 h']
   simp only [Option.bind_some]
   rw [Ajq (Ad8 h)]
   simp only [Option.bind_some, if_true]
   congr 1
   rw [decide_eq_decide]
   exact ⟨fun ht => ⟨ga, gb, ht⟩, fun hh => hh.2.2⟩
  ·rw [decide_eq_true ga, decide_eq_false gb, decide_eq_false (show ¬ (Ed a ∧ Ed b ∧ Ep a = Ep b) from fun hh => gb hh.2.1)]; simp
 ·rw [decide_eq_false ga, decide_eq_false (show ¬ (Ed a ∧ Ed b ∧ Ep a = Ep b) from fun hh => ga hh.1)]; simp
theorem Aqq {a b : SAlgebra} (h : Je a) (h' : Je b) : Iv a b = some (decide (Ed a ∧ Ed b ∧ Ep a = Ep b)) := by
 unfold Iv
 rw [Aac h, Aac h']
 simp only [Option.bind_some]
 by_cases ga : Ed a
 ·by_cases gb : Ed b
  ·rw [decide_eq_true ga, decide_eq_true gb]
   simp only [if_true]
   unfold Jy
   rw [Ais h, Ais h']
   simp only [Option.bind_some]
   rw [Aor (Ad8 h)]
   simp only [Option.bind_some]
   congr 1
   rw [decide_eq_decide]
   exact ⟨fun ht => ⟨ga, gb, ht⟩, fun hh => hh.2.2⟩
  ·rw [decide_eq_true ga, decide_eq_false gb, decide_eq_false (show ¬ (Ed a ∧ Ed b ∧ Ep a = Ep b) from fun hh => gb hh.2.1)]; simp
 ·rw [decide_eq_false ga, decide_eq_false (show ¬ (Ed a ∧ Ed b ∧ Ep a = Ep b) from fun hh => ga hh.1)]; simp
end Go.Proofs.Ytcpgnfohmeineaa.Ax
namespace Go.Proofs.Ytcpgnfohmeineaa.Ax
open Go Classical
structure Perm (f : List Int) (n : Nat) : Prop where
 len : f.length = n
 fin : Dh f n
 un : uniq f
theorem Perm.count {f : List Int} {n : Nat} (h : Perm f n) : ∀ i, i ≤ n → (Nc n fun z => decide ((z : Int) ∈ f.take i)).length = i := by
 intro i
 induction i with
 | zero =>
   intro _
   rw [List.length_eq_zero_iff]
   exact Ama.2 fun z _ => by simp
 | succ i ih =>
   intro hi
   have hil : i < f.length := by rw [h.len]; exact hi
   have hv := h.fin _ (Bh hil)
   have hu := h.un i hil
   have hc : nth f i = (((nth f i).toNat : Nat) : Int) := by omega
   have := Amj (q := fun z => decide ((z : Int) ∈ f.take i)) (q' := fun z => decide ((z : Int) ∈ f.take (i + 1))) (x := (nth f i).toNat) (decide_eq_false (by rw [← hc]; exact hu)) (fun z => by
    rw [Fy hil, Bool.eq_iff_iff]
    simp only [decide_eq_true_eq, List.mem_append, List.mem_singleton, Bool.or_eq_true]
    constructor
    ·rintro (h1 | h1)
     ·exact .inl h1
     ·exact .inr (by omega)
    ·rintro (h1 | h1)
     ·exact .inl h1
     ·exact .inr (by omega)) n
   rw [this, ih (by omega), if_pos (by omega)]
section
variable {a : SAlgebra} {f : List Int} {n : Nat}
end
end Go.Proofs.Ytcpgnfohmeineaa.Ax
namespace Go.Proofs.Ytcpgnfohmeineaa.Ax
open Go Classical
noncomputable def many (n : Nat) (q : Nat → Bool) : Nat := (Nc n q).length
def sm : Nat → (Nat → Nat) → Nat
 | 0, _ => 0
 | n + 1, F => sm n F + F n
section
variable {n : Nat} {f : Nat → Nat → Bool}
end
section
variable {n m : Nat} {f g : Nat → Nat → Bool}
end
end Go.Proofs.Ytcpgnfohmeineaa.Ax
namespace Go.Proofs.Ytcpgnfohmeineaa.Ax
open Go
def Cur (k : Nat) (c : Sl1Cur) : Prop := (∀ x ∈ c.code, 0 ≤ x ∧ x ≤ 255) ∧ c.code.length ≤ 65536 ∧ 0 ≤ c.at_ ∧ c.at_ ≤ k
theorem Cur.mono {k l : Nat} {c : Sl1Cur} (h : Cur k c) (hl : k ≤ l) : Cur l c := ⟨h.1, h.2.1, h.2.2.1, by have := h.2.2.2; omega⟩
theorem Ano {n : Int} (h0 : 0 ≤ n) (h1 : n ≤ 255) : IntKind.u64.wrap n = n := by
 simp [IntKind.wrap, IntKind.bits, IntKind.signed]
 omega
theorem Ad4 {c : Sl1Cur} {k : Nat} (h : Cur k c) (hk : k ≤ 1000000000) : ∃ r d, Dk c = some (r, d) ∧ Cur (k + 1) d ∧ 0 ≤ r ∧ r ≤ 255 := by
 obtain ⟨h1, h2, h3, h4⟩ := h
 unfold Dk
 have fin : ∀ q : Int, 0 ≤ q → q ≤ 255 → ∃ r d, (ask (InI (c.at_ + 1)) <|
   if c.at_ + 1 ≤ (c.code.length : Int) then
    some (q, ({ code := c.code, at_ := c.at_ + 1, seed := IntKind.u64.wrap (IntKind.u64.wrap (IntKind.u64.wrap (c.seed * 6364136223846793005) + IntKind.u64.wrap q) + 550289) } : Sl1Cur))
   else some (IntKind.i64.wrap (IntKind.u64.wrap (((BitVec.ofInt IntKind.u64.bits ((IntKind.u64.wrap (IntKind.u64.wrap (IntKind.u64.wrap (c.seed * 6364136223846793005) + IntKind.u64.wrap q) + 550289)).fdiv (2 ^ min (Int.toNat 40) IntKind.u64.bits)) &&& BitVec.ofInt IntKind.u64.bits 255).toNat : Nat) : Int)),
    ({ code := c.code, at_ := c.at_ + 1, seed := IntKind.u64.wrap (IntKind.u64.wrap (IntKind.u64.wrap (c.seed * 6364136223846793005) + IntKind.u64.wrap q) + 550289) } : Sl1Cur))) = some (r, d) ∧ Cur (k + 1) d ∧ 0 ≤ r ∧ r ≤ 255 := by
  intro q hq0 hq1
  rw [Ae (by unfold InI; omega)]
  split
  ·exact ⟨_, _, rfl, ⟨h1, h2, by show 0 ≤ c.at_ + 1; omega, by show c.at_ + 1 ≤ ((k + 1 : Nat) : Int); omega⟩, hq0, hq1⟩
  ·refine ⟨_, _, rfl, ⟨h1, h2, by show 0 ≤ c.at_ + 1; omega, by show c.at_ + 1 ≤ ((k + 1 : Nat) : Int); omega⟩, ?_⟩
   generalize BitVec.ofInt IntKind.u64.bits ((IntKind.u64.wrap (IntKind.u64.wrap (IntKind.u64.wrap (c.seed * 6364136223846793005) + IntKind.u64.wrap q) + 550289)).fdiv (2 ^ min (Int.toNat 40) IntKind.u64.bits)) = b
   have hb : (b &&& BitVec.ofInt IntKind.u64.bits 255).toNat ≤ 255 := by
    rw [BitVec.toNat_and]
    have : (BitVec.ofInt IntKind.u64.bits 255).toNat = 255 := by decide
    rw [this]
    exact Nat.and_le_right
   generalize (b &&& BitVec.ofInt IntKind.u64.bits 255).toNat = z at hb
   rw [Ano (by omega) (by omega), Sk (by omega) (by omega)]
   omega
 by_cases hc : c.at_ < (c.code.length : Int)
 ·rw [if_pos hc, Ae ⟨h3, hc⟩]
  have hm := h1 _ (Bh (xs := c.code) (i := c.at_.toNat) (by omega))
  rw [Sk (by omega) (by omega)]
  simp only [Option.bind_some]
  exact fin _ hm.1 hm.2
 ·rw [if_neg hc]
  simp only [Option.bind_some]
  exact fin 0 (by omega) (by omega)
theorem Do {c : Sl1Cur} {k : Nat} (h : Cur k c) (hk : k ≤ 900000000) (n : Int) : ∃ r d, Ao c n = some (r, d) ∧ Cur (k + 2) d ∧ 0 ≤ r ∧ (r < n ∨ (n ≤ 1 ∧ r = 0)) := by
 unfold Ao
 by_cases h1 : n ≤ 1
 ·rw [if_pos h1]; exact ⟨0, c, rfl, h.mono (by omega), by omega, .inr ⟨h1, rfl⟩⟩
 ·rw [if_neg h1]
  obtain ⟨r, d, e, hd, a1, a2⟩ := Ad4 h (by omega)
  simp only [e, Option.bind_some]
  by_cases h2 : n > 200
  ·rw [if_pos h2, Ae (by unfold InI; omega)]
   obtain ⟨r2, d2, e2, hd2, b1, b2⟩ := Ad4 hd (by omega)
   simp only [e2, Option.bind_some]
   rw [Ae (by unfold InI; omega), Ae (by omega)]
   refine ⟨_, _, rfl, hd2, Int.tmod_nonneg _ (by omega), .inl ?_⟩
   exact Int.tmod_lt_of_pos _ (by omega)
  ·rw [if_neg h2, Ae (by omega)]
   refine ⟨_, _, rfl, hd.mono (by omega), Int.tmod_nonneg _ (by omega), .inl ?_⟩
   exact Int.tmod_lt_of_pos _ (by omega)
theorem Ahl {c : Sl1Cur} {k : Nat} (h : Cur k c) (hk : k ≤ 900000000) (n : Int) : ∃ b d, D4 c n = some (b, d) ∧ Cur (k + 2) d := by
 unfold D4
 obtain ⟨r, d, e, hd, _, _⟩ := Do h hk n
 simp only [e, Option.bind_some]
 exact ⟨_, _, rfl, hd⟩
theorem E7 {c : Sl1Cur} {k : Nat} (h : Cur k c) (hk : k ≤ 900000000) (l : List Int) (h0 : 0 < l.length) : ∃ r d, Au c l = some (r, d) ∧ Cur (k + 2) d ∧ r ∈ l := by
 unfold Au
 obtain ⟨r, d, e, hd, a1, a2⟩ := Do h hk (l.length : Int)
 simp only [e, Option.bind_some]
 rw [Ae (by omega)]
 exact ⟨_, _, rfl, hd, Bh (by omega)⟩
open Classical
end Go.Proofs.Ytcpgnfohmeineaa.Ax
namespace Go.Proofs.Ytcpgnfohmeineaa.Ax
open Go Classical
section
variable {n m : Nat} {f g : Nat → Nat → Bool}
end
end Go.Proofs.Ytcpgnfohmeineaa.Ax
namespace Go.Proofs.Ytcpgnfohmeineaa.Ax
open Go Classical
section
end
theorem Aqk {xs : List Int} (h : xs.length ≤ LIM) : Id xs xs = some true := by
 have hL := Bq
 unfold Id
 rw [if_neg (by simp)]
 have := Cf (body := Dt xs xs) (fun i => (i : Int)) xs.length (.inr ()) (fun i hi => by
  unfold Dt
  rw [if_pos (by omega)]
  repeat rw [Ae (by first | omega | (unfold InI; omega))]
  rw [if_neg (by simp)]
  rfl) (by
  unfold Dt
  rw [if_neg (by omega)])
 have h0 : Ap (Dt xs xs) 0 = some (.inr ()) := this
 rw [h0]; rfl
theorem Aot {xss : List (List Int)} (h : xss.length ≤ LIM) (h1 : ∀ r ∈ xss, r.length ≤ LIM) : Hg xss xss = some true := by
 have hL := Bq
 unfold Hg
 rw [if_neg (by simp)]
 have := Cf (body := Db xss xss) (fun i => (i : Int)) xss.length (.inr ()) (fun i hi => by
  unfold Db
  rw [if_pos (by omega)]
  repeat rw [Ae (by first | omega | (unfold InI; omega))]
  rw [Int.toNat_natCast, Aqk (h1 _ (Bh hi))]
  simp only [Option.bind_some, if_true]
  rfl) (by
  unfold Db
  rw [if_neg (by omega)])
 have h0 : Ap (Db xss xss) 0 = some (.inr ()) := this
 rw [h0]; rfl
section
variable {n m : Nat} {f g : Nat → Nat → Bool}
end
end Go.Proofs.Ytcpgnfohmeineaa.Ax
namespace Go.Proofs.Ytcpgnfohmeineaa.Ax
open Go Classical
def Ani (n r k : Nat) (S : Nat → Bool) : Prop := ∀ x ∈ Bz n r k, S x.toNat = true
def Aq7 (a : SAlgebra) (i k : Nat) (S : Nat → Bool) : Prop := Ani a.Size.toNat (nth a.Ops i).Arity.toNat k S
def App (H : List Bool) : Nat := H.count true
section
variable {a : SAlgebra}
structure ReadyA (a : SAlgebra) (n : Nat) : Prop where
 good : Ed a
 sz : a.Size = (n : Int)
 pos : 0 < n
 le : n ≤ 8
theorem ReadyA.nat {n : Nat} (h : ReadyA a n) : a.Size.toNat = n := by have := h.sz; omega
theorem ReadyA.op {n : Nat} (h : ReadyA a n) {i : Nat} (hi : i < a.Ops.length) : ∃ r : Nat, (nth a.Ops i).Arity = (r : Int) ∧ r ≤ 3 ∧ (nth a.Ops i).Table.length = n ^ r ∧ Dh (nth a.Ops i).Table n ∧ (nth a.Ops i).Table.length ≤ 512 ∧ (∀ k S, Aq7 a i k S ↔ Ani n r k S) := by
 have := h.good.2.2.2 _ (Bh hi)
 rw [h.nat] at this
 obtain ⟨h1, h2, h3, h4⟩ := this
 refine ⟨(nth a.Ops i).Arity.toNat, by omega, by omega, h3, h4, ?_, fun k S => by unfold Aq7; rw [h.nat]⟩
 rw [h3]; exact Xm h.le (by omega)
structure Pass (n : Nat) (G : Nat → Bool) (c0 : Bool) (H0 : List Bool) (c : Bool) (H : List Bool) (done : (Nat → Bool) → Prop) : Prop where
 len : H.length = n
 more : ∀ z, nth H0 z = true → nth H z = true
 low : ∀ z, nth H z = true → G z = true
 up : c = true → c0 = true ∨ App H0 < App H
 no : c = false → c0 = false ∧ H = H0 ∧ done (nth H)
 mono : App H0 ≤ App H
end
end Go.Proofs.Ytcpgnfohmeineaa.Ax
namespace Go.Proofs.Ytcpgnfohmeineaa.Ax
open Go Classical
theorem Akt {α β : Type} {o : Option α} {k : α → Option β} {Q : α → Prop} {R : β → Prop} (h : ∃ a, o = some a ∧ Q a) (h2 : ∀ a, Q a → ∃ b, k a = some b ∧ R b) : ∃ b, o.bind k = some b ∧ R b := by
 obtain ⟨a, e, hq⟩ := h
 rw [e]; exact h2 a hq
theorem Art {β : Type} {c : Prop} [Decidable c] {x y : Option β} {R : β → Prop} (h1 : c → ∃ b, x = some b ∧ R b) (h2 : ¬ c → ∃ b, y = some b ∧ R b) : ∃ b, (if c then x else y) = some b ∧ R b := by
 split
 ·exact h1 ‹_›
 ·exact h2 ‹_›
def Tg (a : SAlgebra) : Prop := a.Ops.length ≤ 10 ∧ ∀ f ∈ a.Ops, f.Table.length ≤ 101
theorem Ahx {a : SAlgebra} (h : Tg a) : Je a := ⟨by have := h.1; omega, fun f hf => by have := h.2 f hf; omega⟩
theorem Ah1 (s : ByteArray) (hs : s.size ≤ 100) : ∃ f, A1 s = some f ∧ f.Table.length ≤ 100 := by
 have hL := Bq
 unfold A1
 obtain ⟨f, e, hf⟩ := Iu (body := D8 s) (fun t => ∃ j : Nat, t.1 = (j : Int) ∧ j ≤ s.size ∧ t.2.Table.length ≤ j) (fun t => s.size - t.1.toNat) (fun f => f.Table.length ≤ 100) (fun t ht => by
  obtain ⟨x4, x3⟩ := t
  obtain ⟨j, g1, g2, g3⟩ := ht
  simp only at g1 g2 g3
  subst g1
  unfold D8
  dsimp only
  by_cases hj : (j : Int) < (s.size : Int)
  ·left
   rw [if_pos hj, Ae (by omega), Ae (by simp; omega), Ae (by unfold InI; omega)]
   exact ⟨_, rfl, ⟨j + 1, rfl, by omega, by simp; omega⟩, by simp only; omega⟩
  ·right
   rw [if_neg hj]
   exact ⟨_, rfl, by omega⟩) (s := ((0 : Int), ({ Arity := 2, Table := Bl Int } : SOp))) ⟨0, rfl, Nat.zero_le _, by simp [Bl]⟩
 rw [e]
 exact ⟨_, rfl, hf⟩
theorem Aii {n : Int} (hn : n = 2 ∨ n = 3) : ∃ f, Eh n = some f ∧ f.Table.length ≤ 100 := by
 have hL := Bq
 unfold Eh
 obtain ⟨f, e, hf⟩ := Iu (body := D7 n) (fun t => ∃ j : Nat, t.1 = (j : Int) ∧ j ≤ 27 ∧ t.2.Table.length ≤ j) (fun t => 27 - t.1.toNat) (fun f => f.Table.length ≤ 100) (fun t ht => by
  obtain ⟨x4, x3⟩ := t
  obtain ⟨j, g1, g2, g3⟩ := ht
  simp only at g1 g2 g3
  subst g1
  unfold D7
  dsimp only
  have d1 : ∀ m : Int, (j : Int).tdiv m = (j : Int) / m := fun m => Int.tdiv_eq_ediv_of_nonneg (by omega)
  have d2 : ∀ m : Int, (j : Int).tmod m = (j : Int) % m := fun m => Int.tmod_eq_emod_of_nonneg (by omega)
  rw [d1, d1, d2]
  rcases hn with rfl | rfl
  ·have d3 : ((j : Int) / 2).tmod 2 = ((j : Int) / 2) % 2 := Int.tmod_eq_emod_of_nonneg (by omega)
   rw [d3]
   by_cases hj : (j : Int) < 2 * 2 * 2
   ·left
    rw [Ae (by unfold InI; omega), Ae (by unfold InI; omega), if_pos hj]
    rw [Ae (by unfold InI; omega), Ae (by unfold InI; omega), Ae (by unfold InI; omega), Ae (by unfold InI; omega), Ae (by omega), Ae (by unfold InI; omega), Ae (by omega), Ae (by unfold InI; omega), Ae (by omega), Ae (by simp; omega), Ae (by unfold InI; omega)]
    exact ⟨_, rfl, ⟨j + 1, rfl, by omega, by simp; omega⟩, by simp only; omega⟩
   ·right
    rw [Ae (by unfold InI; omega), Ae (by unfold InI; omega), if_neg hj]
    exact ⟨_, rfl, by omega⟩
  ·have d3 : ((j : Int) / 3).tmod 3 = ((j : Int) / 3) % 3 := Int.tmod_eq_emod_of_nonneg (by omega)
   rw [d3]
   by_cases hj : (j : Int) < 3 * 3 * 3
   ·left
    rw [Ae (by unfold InI; omega), Ae (by unfold InI; omega), if_pos hj]
    rw [Ae (by unfold InI; omega), Ae (by unfold InI; omega), Ae (by unfold InI; omega), Ae (by unfold InI; omega), Ae (by omega), Ae (by unfold InI; omega), Ae (by omega), Ae (by unfold InI; omega), Ae (by omega), Ae (by simp; omega), Ae (by unfold InI; omega)]
    exact ⟨_, rfl, ⟨j + 1, rfl, by omega, by simp; omega⟩, by simp only; omega⟩
   ·right
    rw [Ae (by unfold InI; omega), Ae (by unfold InI; omega), if_neg hj]
    exact ⟨_, rfl, by omega⟩) (s := ((0 : Int), ({ Arity := 3, Table := Bl Int } : SOp))) ⟨0, rfl, Nat.zero_le _, by simp [Bl]⟩
 rw [e]
 exact ⟨_, rfl, hf⟩
theorem Aet (k : Int) : ∃ a, F4 k = some a ∧ Tg a := by
 have fin0 : ∀ {z : Int}, Tg { Size := z, Ops := Bl SOp } := ⟨by simp [Bl], fun f hf => by simp [Bl] at hf⟩
 have fin1 : ∀ {z : Int} {f : SOp}, f.Table.length ≤ 100 → Tg { Size := z, Ops := [f] } := fun h => ⟨by simp, fun f hf => by simp at hf; subst hf; omega⟩
 have fin2 : ∀ {z : Int} {f g : SOp}, f.Table.length ≤ 100 → g.Table.length ≤ 100 → Tg { Size := z, Ops := [f, g] } := fun h1 h2 => ⟨by simp, fun f hf => by
  simp only [List.mem_cons, List.not_mem_nil, or_false] at hf
  rcases hf with rfl | rfl <;> omega⟩
 have fin3 : ∀ {z : Int} {f g e : SOp}, f.Table.length ≤ 100 → g.Table.length ≤ 100 → e.Table.length ≤ 100 → Tg { Size := z, Ops := [f, g, e] } := fun h1 h2 h3 => ⟨by simp, fun f hf => by
  simp only [List.mem_cons, List.not_mem_nil, or_false] at hf
  rcases hf with rfl | rfl | rfl <;> omega⟩
 unfold F4
 repeat' (first | refine Art (fun _ => ?_) (fun _ => ?_) | refine Akt (Ah1 _ (by decide)) fun f hf => ?_ | refine Akt (Aii (by simp)) fun f hf => ?_)
 all_goals
  first
   | exact ⟨_, rfl, fin0⟩
   | exact ⟨_, rfl, fin1 (by first | assumption | decide)⟩
   | exact ⟨_, rfl, fin2 (by first | assumption | decide) (by first | assumption | decide)⟩
   | exact ⟨_, rfl, fin3 (by first | assumption | decide) (by first | assumption | decide) (by first | assumption | decide)⟩
theorem Aeq {c : Sl1Cur} {k : Nat} (h : Cur k c) (hk : k ≤ 600000000) : ∃ a d, Dg c = some (a, d) ∧ Cur (k + 1000) d ∧ Tg a := by
 have hL := Bq
 unfold Dg
 obtain ⟨b, d, e, hd⟩ := Ahl h (by omega) 4
 rw [e]
 simp only [Option.bind_some]
 by_cases hb : b = true
 ·rw [if_pos hb]
  obtain ⟨n, d2, e2, hd2, hn⟩ := E7 hd (by omega) [2, 2, 3, 3, 4] (by simp)
  rw [e2]
  simp only [Option.bind_some]
  obtain ⟨m, d3, e3, hd3, hm⟩ := E7 hd2 (by omega) [1, 1, 2] (by simp)
  rw [e3]
  simp only [Option.bind_some]
  obtain ⟨N, rfl, hN⟩ : ∃ N : Nat, n = (N : Int) ∧ 2 ≤ N ∧ N ≤ 4 := ⟨n.toNat, by simp at hn; omega, by simp at hn; omega⟩
  obtain ⟨M, rfl, hM⟩ : ∃ M : Nat, m = (M : Int) ∧ 1 ≤ M ∧ M ≤ 2 := ⟨m.toNat, by simp at hm; omega, by simp at hm; omega⟩
  obtain ⟨⟨a, d4⟩, e4, ⟨ha1, ha2, ha3⟩, hd4⟩ := Iu (body := Ce (N : Int)) (fun s => ∃ j : Nat, s.1 = (j : Int) ∧ j ≤ M ∧ s.2.1.Size = (N : Int) ∧ s.2.1.Ops.length = M - j ∧ (∀ f ∈ s.2.1.Ops, 1 ≤ f.Table.length ∧ f.Table.length ≤ 64) ∧ Cur (k + 6 + 200 * (M - j)) s.2.2) (fun s => s.1.toNat)
   (fun t => (t.1.Size = (N : Int) ∧ t.1.Ops.length = M ∧ ∀ f ∈ t.1.Ops, 1 ≤ f.Table.length ∧ f.Table.length ≤ 64) ∧ Cur (k + 500) t.2) (fun s hs => by
   obtain ⟨x6, x5, x1⟩ := s
   obtain ⟨j, g1, g2, g3, g4, g5, g6⟩ := hs
   simp only at g1 g2 g3 g4 g5 g6
   subst g1
   unfold Ce
   dsimp only
   by_cases hj : (j : Int) > 0
   ·left
    rw [if_pos hj]
    obtain ⟨r, d5, e5, hd5, hr⟩ := E7 g6 (by omega) [0, 1, 2, 2, 3] (by simp)
    rw [e5]
    simp only [Option.bind_some]
    obtain ⟨R, rfl, hR⟩ : ∃ R : Nat, r = (R : Int) ∧ R ≤ 3 := ⟨r.toNat, by simp at hr; omega, by simp at hr; omega⟩
    have hop : ∃ f : SOp, ((if (N : Int) = 4 then if (R : Int) = 3 then some ({ Arity := 2, Table := Bl Int } : SOp) else some { Arity := (R : Int), Table := Bl Int } else some { Arity := (R : Int), Table := Bl Int } : Option SOp)) = some f ∧ f.Table = [] ∧ ∃ Q : Nat, f.Arity = (Q : Int) ∧ 1 ≤ N ^ Q ∧ N ^ Q ≤ 64 ∧ Q ≤ 3 := by
     by_cases h4 : (N : Int) = 4
     ·rw [if_pos h4]
      have h4 : N = 4 := by omega
      subst h4
      by_cases h3 : (R : Int) = 3
      ·rw [if_pos h3]; exact ⟨_, rfl, rfl, 2, rfl, by decide⟩
      ·rw [if_neg h3]
       refine ⟨_, rfl, rfl, R, rfl, ?_⟩
       have : R = 0 ∨ R = 1 ∨ R = 2 := by omega
       rcases this with rfl | rfl | rfl <;> decide
     ·rw [if_neg h4]
      refine ⟨_, rfl, rfl, R, rfl, ?_⟩
      have h5 : N = 2 ∨ N = 3 := by omega
      have : R = 0 ∨ R = 1 ∨ R = 2 ∨ R = 3 := by omega
      rcases h5 with rfl | rfl <;> rcases this with rfl | rfl | rfl | rfl <;> decide
    obtain ⟨f, ef, ht, Q, hQ, q1, q2, q3⟩ := hop
    rw [ef]
    simp only [Option.bind_some]
    rw [hQ, Uq (by omega) q3]
    simp only [Option.bind_some]
    obtain ⟨⟨f2, d6⟩, e6, hf2, hd6⟩ := Iu (body := Cg (N : Int) (j : Int) x5) (fun s => ∃ i : Nat, s.1 = (i : Int) ∧ i ≤ N ^ Q ∧ s.2.1.Table.length = N ^ Q - i ∧ Cur (k + 6 + 200 * (M - j) + 2 + 2 * (N ^ Q - i)) s.2.2) (fun s => s.1.toNat) (fun t => t.1.Table.length = N ^ Q ∧ Cur (k + 6 + 200 * (M - j) + 2 + 2 * N ^ Q) t.2) (fun s hs => by
     obtain ⟨x8, x7, x9⟩ := s
     obtain ⟨i, k1, k2, k3, k4⟩ := hs
     simp only at k1 k2 k3 k4
     subst k1
     unfold Cg
     dsimp only
     by_cases hi : (i : Int) > 0
     ·left
      rw [if_pos hi]
      obtain ⟨v, d7, e7, hd7, _⟩ := Do k4 (by omega) (N : Int)
      rw [e7]
      simp only [Option.bind_some]
      rw [Ae (by simp; omega), Ae (by unfold InI; omega)]
      exact ⟨_, rfl, ⟨i - 1, by simp only; omega, by omega, by simp; omega, hd7.mono (by omega)⟩, by simp only; omega⟩
     ·right
      rw [if_neg hi]
      exact ⟨_, rfl, by simp only; omega, k4.mono (by omega)⟩) (s := (((N ^ Q : Nat) : Int), f, d5)) ⟨N ^ Q, rfl, Nat.le_refl _, by simp [ht], hd5.mono (by omega)⟩
    rw [e6]
    simp only [Option.bind_some]
    rw [Ae (by simp; omega), Ae (by unfold InI; omega)]
    simp only at hf2 hd6
    refine ⟨_, rfl, ⟨j - 1, by simp only; omega, by omega, g3, by simp; omega, fun f hf => ?_, hd6.mono (by omega)⟩, by simp only; omega⟩
    rcases List.mem_append.1 hf with h' | h'
    ·exact g5 f h'
    ·rw [List.mem_singleton.1 h']; omega
   ·right
    rw [if_neg hj]
    exact ⟨_, rfl, ⟨g3, by simp only; omega, g5⟩, g6.mono (by omega)⟩) (s := ((M : Int), ({ Size := (N : Int), Ops := Bl SOp } : SAlgebra), d3)) ⟨M, rfl, Nat.le_refl _, rfl, by simp [Bl], fun f hf => by simp [Bl] at hf, hd3.mono (by omega)⟩
  rw [e4]
  simp only [Option.bind_some]
  simp only at ha1 ha2 ha3 hd4
  have h0 : 0 < a.Ops.length := by omega
  have hf0 := ha3 _ (Bh h0)
  have ht : Tg a := ⟨by omega, fun f hf => by have := ha3 f hf; omega⟩
  have hset : ∀ {z : Int} {f : SOp}, f.Table.length ≤ 101 → Tg { Size := z, Ops := a.Ops.set (Int.toNat 0) f } := fun hf => ⟨by simp; omega, fun g hg => by
   rcases List.mem_or_eq_of_mem_set hg with h' | h'
   ·have := ha3 g h'; omega
   ·rw [h']; exact hf⟩
  obtain ⟨w, d5, e5, hd5, w0, _⟩ := Do hd4 (by omega) 16
  rw [e5]
  simp only [Option.bind_some]
  by_cases c0 : w = 0
  ·rw [if_pos c0, Ae (by unfold InI; omega)]
   obtain ⟨r, d6, e6, hd6, _⟩ := E7 hd5 (by omega) [0, 9, (N : Int) + 1] (by simp)
   rw [e6]
   exact ⟨_, _, rfl, hd6.mono (by omega), ht⟩
  rw [if_neg c0]
  by_cases c1 : w = 1
  ·rw [if_pos c1, Ae (by omega), Ae (by simp only [Int.toNat_zero, List.length_singleton]; omega)]
   exact ⟨_, _, rfl, hd5.mono (by omega), hset (by simp only [Int.toNat_zero, List.length_append, List.length_singleton]; omega)⟩
  rw [if_neg c1]
  by_cases c2 : w = 2
  ·rw [if_pos c2, Ae (by omega)]
   obtain ⟨r, d6, e6, hd6, r0, r1⟩ := Do hd5 (by omega) ((nth a.Ops (Int.toNat 0)).Table.length : Int)
   rw [e6]
   simp only [Option.bind_some]
   obtain ⟨s, d7, e7, hd7, _⟩ := E7 hd6 (by omega) [-1, (N : Int)] (by simp)
   rw [e7]
   simp only [Option.bind_some]
   simp only [Int.toNat_zero] at r1 ⊢
   rw [Ae (by omega)]
   exact ⟨_, _, rfl, hd7.mono (by omega), hset (by simp only [List.length_set]; omega)⟩
  rw [if_neg c2]
  by_cases c3 : w = 3
  ·rw [if_pos c3]
   obtain ⟨r, d6, e6, hd6, _⟩ := E7 hd5 (by omega) [-1, 4] (by simp)
   rw [e6]
   simp only [Option.bind_some]
   rw [Ae (by omega)]
   exact ⟨_, _, rfl, hd6.mono (by omega), hset (by simp only [Int.toNat_zero]; omega)⟩
  rw [if_neg c3]
  by_cases c4 : w = 4
  ·rw [if_pos c4]
   obtain ⟨⟨a2, d6⟩, e6, ht2, hd6⟩ := Iu (body := Co (N : Int)) (fun s => s.1.Ops.length ≤ 5 ∧ (∀ f ∈ s.1.Ops, f.Table.length ≤ 64) ∧ Cur (k + 502 + 2 * s.1.Ops.length) s.2) (fun s => 5 - s.1.Ops.length) (fun t => Tg t.1 ∧ Cur (k + 600) t.2) (fun s hs => by
    obtain ⟨x5, x1⟩ := s
    obtain ⟨g1, g2, g3⟩ := hs
    simp only at g1 g2 g3
    unfold Co
    dsimp only
    obtain ⟨r, d7, e7, hd7, r0, r1⟩ := Do g3 (by omega) 2
    rw [e7]
    simp only [Option.bind_some]
    rw [Ae (by unfold InI; omega)]
    by_cases hl : (x5.Ops.length : Int) < 4 + r
    ·left
     rw [if_pos hl, Ae (by omega), Ae (by simp; omega)]
     refine ⟨_, rfl, ⟨by simp; omega, fun f hf => ?_, hd7.mono (by simp; omega)⟩, by simp; omega⟩
     rcases List.mem_append.1 hf with h' | h'
     ·exact g2 f h'
     ·rw [List.mem_singleton.1 h']; simp; omega
    ·right
     rw [if_neg hl]
     exact ⟨_, rfl, ⟨by simp only; omega, fun f hf => by have := g2 f hf; omega⟩, hd7.mono (by omega)⟩) (s := (a, d5)) ⟨by simp only; omega, fun f hf => (ha3 f hf).2, hd5.mono (by omega)⟩
   rw [e6]
   exact ⟨_, _, rfl, hd6.mono (by omega), ht2⟩
  rw [if_neg c4]
  exact ⟨_, _, rfl, hd5.mono (by omega), ht⟩
 ·rw [if_neg hb]
  obtain ⟨r, d2, e2, hd2, _⟩ := Do hd (by omega) 17
  rw [e2]
  simp only [Option.bind_some]
  obtain ⟨a, e3, ht⟩ := Aet r
  rw [e3]
  exact ⟨_, _, rfl, hd2.mono (by omega), ht⟩
theorem Ap1 {code : List Int} (hc : ∀ x ∈ code, 0 ≤ x ∧ x ≤ 255) (hl : code.length ≤ 65536) : Cur 0 ({ code := code, at_ := 0, seed := 0 } : Sl1Cur) := ⟨hc, hl, Int.le_refl _, Int.le_refl _⟩
end Go.Proofs.Ytcpgnfohmeineaa.Ax
namespace Go.Proofs.Ytcpgnfohmeineaa.Ax
open Go Classical
theorem Asd {xs : List Int} (h : xs.length ≤ LIM) : Ie xs = some xs := by
 unfold Ie
 rw [Ae (by show 0 + xs.length ≤ _; omega)]; rfl
def Ze (a b : SAlgebra) (f : List Int) (n m i k : Nat) : Prop := i < a.Ops.length ∧ k < (nth a.Ops i).Table.length ∧ C5 a b f n m i k ∧
 (∀ j, j < i → ∀ l, l < (nth a.Ops j).Table.length → ¬ C5 a b f n m j l) ∧ ∀ l, l < k → ¬ C5 a b f n m i l
section
variable {a b : SAlgebra} {f : List Int} {n m : Nat}
theorem Ze.faulty {i k : Nat} (h : Ze a b f n m i k) : faulty a b f n m := ⟨i, h.1, k, h.2.1, h.2.2.1⟩
theorem Aav {τ1 τ2 τ : Type} (body1 : Int → Int → Option (Int ⊕ (τ1 ⊕ Unit))) (body2 : Int → Option (Int ⊕ (τ2 ⊕ Unit))) (res1 : Nat → Nat → τ1) (res2 : Nat → τ1 → τ2)
  (h1 : ∀ i, i < a.Ops.length → ∀ k, k < (nth a.Ops i).Table.length → body1 (i : Int) (k : Int) = if C5 a b f n m i k then some (.inr (.inl (res1 i k))) else some (.inl ((k + 1 : Nat) : Int)))
  (h1e : ∀ i, i < a.Ops.length → body1 (i : Int) ((nth a.Ops i).Table.length : Int) = some (.inr (.inr ())))
  (h2 : ∀ i, i < a.Ops.length → body2 (i : Int) = (Ap (body1 (i : Int)) 0).bind fun t => match t with | .inl q => some (.inr (.inl (res2 i q))) | .inr _ => some (.inl ((i + 1 : Nat) : Int)))
  (h2e : body2 (a.Ops.length : Int) = some (.inr (.inr ()))) (out : τ2 ⊕ Unit → Option τ) :
  (∃ i k, Ze a b f n m i k ∧ (Ap body2 0).bind out = out (.inl (res2 i (res1 i k)))) ∨ (¬ faulty a b f n m ∧ (Ap body2 0).bind out = out (.inr ())) := by
 have inner : ∀ i, i < a.Ops.length → (∃ k, k < (nth a.Ops i).Table.length ∧ C5 a b f n m i k ∧ (∀ l, l < k → ¬ C5 a b f n m i l) ∧ Ap (body1 (i : Int)) 0 = some (.inl (res1 i k))) ∨
   ((∀ k, k < (nth a.Ops i).Table.length → ¬ C5 a b f n m i k) ∧ Ap (body1 (i : Int)) 0 = some (.inr ())) := by
  intro i hi
  exact Wz (body := body1 (i : Int)) (fun k => (k : Int)) (nth a.Ops i).Table.length (C5 a b f n m i) (fun k => .inl (res1 i k)) (.inr ()) (fun k hk hh => by rw [h1 i hi k hk, if_neg hh]) (fun k hk hh => by rw [h1 i hi k hk, if_pos hh]) (h1e i hi)
 have inner2 : ∀ i, ∃ q : Nat, i < a.Ops.length → (∃ k, k < (nth a.Ops i).Table.length ∧ C5 a b f n m i k) → q < (nth a.Ops i).Table.length ∧ C5 a b f n m i q ∧ (∀ l, l < q → ¬ C5 a b f n m i l) ∧ Ap (body1 (i : Int)) 0 = some (.inl (res1 i q)) := by
  intro i
  by_cases hi : i < a.Ops.length
  ·rcases inner i hi with ⟨k, h3⟩ | ⟨hno, _⟩
   ·exact ⟨k, fun _ _ => h3⟩
   ·exact ⟨0, fun _ ⟨k, hk, hx⟩ => absurd hx (hno k hk)⟩
  ·exact ⟨0, fun hh => absurd hh hi⟩
 obtain ⟨q, hq⟩ : ∃ q : Nat → Nat, ∀ i, i < a.Ops.length → (∃ k, k < (nth a.Ops i).Table.length ∧ C5 a b f n m i k) → q i < (nth a.Ops i).Table.length ∧ C5 a b f n m i (q i) ∧ (∀ l, l < q i → ¬ C5 a b f n m i l) ∧ Ap (body1 (i : Int)) 0 = some (.inl (res1 i (q i))) :=
  ⟨fun i => Classical.choose (inner2 i), fun i => Classical.choose_spec (inner2 i)⟩
 rcases Wz (body := body2) (fun i => (i : Int)) a.Ops.length (fun i => ∃ k, k < (nth a.Ops i).Table.length ∧ C5 a b f n m i k) (fun i => .inl (res2 i (res1 i (q i)))) (.inr ()) (fun i hi hh => by
   rw [h2 i hi]
   rcases inner i hi with ⟨k, hk, hx, _⟩ | ⟨_, e⟩
   ·exact absurd ⟨k, hk, hx⟩ hh
   ·rw [e]; rfl) (fun i hi hh => by
   rw [h2 i hi, (hq i hi hh).2.2.2]; rfl) h2e with ⟨i, hi, hh, hmin, e⟩ | ⟨hno, e⟩
 ·left
  obtain ⟨q1, q2, q3, _⟩ := hq i hi hh
  refine ⟨i, q i, ⟨hi, q1, q2, fun j hj l hl hx => hmin j hj ⟨l, hl, hx⟩, q3⟩, ?_⟩
  rw [show ((0 : Int)) = (((0 : Nat)) : Int) from rfl, e]; rfl
 ·right
  refine ⟨fun ⟨i, hi, hh⟩ => hno i hi hh, ?_⟩
  rw [show ((0 : Int)) = (((0 : Nat)) : Int) from rfl, e]; rfl
theorem Ako (h : Homs a b f n m) : (∃ i k, Ze a b f n m i k ∧ E4 a b f = some ((i : Int), (k : Int))) ∨ (¬ faulty a b f n m ∧ E4 a b f = some (-1, 0)) := by
 obtain ⟨hn, hn8, _, hm⟩ := h.pos
 have hop4 := h.ga.2.2.1
 unfold E4
 refine Aav (Dq a b f) (Dp a b f) (fun _ k => (k : Int)) (fun i q => (q, (i : Int))) ?_ ?_ ?_ ?_ _
 ·intro i hi k hk
  obtain ⟨r, hr, e1, e2, l1, l2, t1, l3⟩ := h.op hi
  have hops := h.ops
  have hv := t1 _ (Bh hk)
  have hlen := h.len
  obtain ⟨c, hc1, hc2⟩ := h.low (k := k) hr
  unfold Dq
  rw [Int.toNat_natCast, if_pos (by omega), Ae (by omega), Int.toNat_natCast, Ae (by omega), Ae (by omega), e1, Ae1 hn hm h.sa h.sb h.len h.fin hr (by omega)]
  simp only [Option.bind_some]
  rw [Ae (by rw [hc1, l2]; omega)]
  have er : (nth a.Ops i).Arity.toNat = r := by omega
  by_cases hF : C5 a b f n m i k
  ·have hF' := hF
   unfold C5 at hF'
   rw [er] at hF'
   rw [if_pos hF', if_pos hF]
  ·have hF' := hF
   unfold C5 at hF'
   rw [er] at hF'
   rw [if_neg hF', if_neg hF, Ae (by unfold InI; omega)]; rfl
 ·intro i hi
  unfold Dq
  rw [Int.toNat_natCast, if_neg (by omega)]
 ·intro i hi
  unfold Dp
  rw [if_pos (by omega), Ae (by omega)]
  congr 1
  funext t
  cases t with
  | inl q => rfl
  | inr u => dsimp only; rw [Ae (by unfold InI; omega)]; rfl
 ·unfold Dp
  rw [if_neg (by omega)]
theorem Akp (h : Homs a b f n m) : (∃ i k, Ze a b f n m i k ∧ E1 a b f = some ((i : Int), Bz n (nth a.Ops i).Arity.toNat k, true)) ∨ (¬ faulty a b f n m ∧ E1 a b f = some (0, [], false)) := by
 obtain ⟨hn, hn8, _, hm⟩ := h.pos
 have hop4 := h.ga.2.2.1
 unfold E1
 refine Aav (Ds a b f) (Dm a b f) (fun i k => Bz n (nth a.Ops i).Arity.toNat k) (fun i q => (q, (i : Int))) ?_ ?_ ?_ ?_ _
 ·intro i hi k hk
  obtain ⟨r, hr, e1, e2, l1, l2, t1, l3⟩ := h.op hi
  have hops := h.ops
  have hv := t1 _ (Bh hk)
  have hlen := h.len
  have hal := B4 n r k
  unfold Ds
  rw [Ae (by omega), Int.toNat_natCast, if_pos (by omega), Ae (by omega), e1, h.sa, Aop hn hn8 hr (by omega)]
  simp only [Option.bind_some]
  rw [Ae (by omega), Ae (by omega), Int.toNat_natCast, Ae (by omega), Ajp (by omega) (by rw [h.len]; exact Pq hn r k)]
  simp only [Option.bind_some]
  rw [Apj hm h.sb (by omega) (by rw [List.length_map, hal]; exact hr) (Aeh hn h.len h.fin r k) (by rw [List.length_map, hal]; exact l2), Aaj]
  simp only [Option.bind_some]
  have er : (nth a.Ops i).Arity.toNat = r := by omega
  by_cases hF : C5 a b f n m i k
  ·have hF' := hF
   unfold C5 at hF'
   rw [er] at hF'
   rw [if_pos hF', if_pos hF, Int.toNat_natCast]
  ·have hF' := hF
   unfold C5 at hF'
   rw [er] at hF'
   rw [if_neg hF', if_neg hF, Ae (by unfold InI; omega)]; rfl
 ·intro i hi
  unfold Ds
  rw [Ae (by omega), Int.toNat_natCast, if_neg (by omega)]
 ·intro i hi
  unfold Dm
  rw [if_pos (by omega)]
  congr 1
  funext t
  cases t with
  | inl q => rfl
  | inr u => dsimp only; rw [Ae (by unfold InI; omega)]; rfl
 ·unfold Dm
  rw [if_neg (by omega)]
end
def Ud (a b : SAlgebra) : Prop := Ed a ∧ Ed b ∧ Ep a = Ep b
def Ag7 (a b : SAlgebra) (f : List Int) : Prop := (f.length : Int) = a.Size ∧ Dh f b.Size
def Aft (a b : SAlgebra) (f : List Int) : Prop := Ud a b ∧ Ag7 a b f ∧ ¬ faulty a b f a.Size.toNat b.Size.toNat
section
variable {a b : SAlgebra} {f : List Int}
theorem Aks (h : Ud a b) (h2 : Ag7 a b f) : Homs a b f a.Size.toNat b.Size.toNat := by
 have h3 := h.1.1
 have h4 := h.2.1.1
 exact ⟨h.1, h.2.1, h.2.2, by omega, by omega, by have := h2.1; omega, by rw [show ((b.Size.toNat : Nat) : Int) = b.Size by omega]; exact h2.2⟩
theorem Aqu (hl : f.length ≤ LIM) : Ij a b f = some (decide (Ag7 a b f)) := by
 unfold Ij
 by_cases h1 : (f.length : Int) = a.Size
 ·rw [if_pos h1, Abm _ _ hl]
  simp only [Option.bind_some]
  congr 1
  rw [decide_eq_decide]
  exact ⟨fun h => ⟨h1, h⟩, fun h => h.2⟩
 ·rw [if_neg h1, decide_eq_false (show ¬ Ag7 a b f from fun h => h1 h.1)]
theorem Aqv (hb : Ed b) (hl : f.length ≤ LIM) : Ib a b f = some (decide (Ag7 a b f)) := by
 unfold Ib
 have hL := Bq
 obtain ⟨m, hm⟩ := Int.eq_ofNat_of_zero_le (show 0 ≤ b.Size by have := hb.1; omega)
 by_cases h1 : (f.length : Int) = a.Size
 ·rw [if_pos h1, hm, Afk m f hl (by have := hb.2.1; omega), ← hm]
  simp only [Option.bind_some]
  congr 1
  rw [decide_eq_decide]
  exact ⟨fun h => ⟨h1, h⟩, fun h => h.2⟩
 ·rw [if_neg h1, decide_eq_false (show ¬ Ag7 a b f from fun h => h1 h.1)]
theorem Aqs (h : Ud a b) (hl : f.length ≤ LIM) : Il a b f = some (decide (Aft a b f)) := by
 unfold Il
 rw [Aqu hl]
 simp only [Option.bind_some]
 by_cases hm : Ag7 a b f
 ·rw [decide_eq_true hm, if_pos rfl]
  rcases Ako (Aks h hm) with ⟨i, k, hf, e⟩ | ⟨hf, e⟩
  ·rw [e, decide_eq_false (show ¬ Aft a b f from fun hh => hh.2.2 hf.faulty)]
   simp only [Option.bind_some]
   rw [decide_eq_false (by omega)]
  ·rw [e, decide_eq_true (show Aft a b f from ⟨h, hm, hf⟩)]
   rfl
 ·rw [decide_eq_false hm, if_neg (by simp), decide_eq_false (show ¬ Aft a b f from fun hh => hm hh.2.1)]
theorem Ase (h : Ud a b) (hl : f.length ≤ LIM) : Ku a b f = some (decide (Aft a b f)) := by
 unfold Ku
 rw [Aqv h.2.1 hl]
 simp only [Option.bind_some]
 by_cases hm : Ag7 a b f
 ·rw [decide_eq_true hm, if_pos rfl]
  rcases Akp (Aks h hm) with ⟨i, k, hf, e⟩ | ⟨hf, e⟩
  ·rw [e, decide_eq_false (show ¬ Aft a b f from fun hh => hh.2.2 hf.faulty)]
   rfl
  ·rw [e, decide_eq_true (show Aft a b f from ⟨h, hm, hf⟩)]
   rfl
 ·rw [decide_eq_false hm, if_neg (by simp), decide_eq_false (show ¬ Aft a b f from fun hh => hm hh.2.1)]
noncomputable def Zy (a b : SAlgebra) (f : List Int) : Bool × Bool := if Ud a b then (decide (Aft a b f), true) else (false, false)
theorem Akg (ha : Je a) (hb : Je b) (hl : f.length ≤ LIM) : In a b f = some (Zy a b f) ∧ I5 a b f = some (Zy a b f) := by
 unfold In I5 Zy
 rw [Aqp ha hb, Aqq ha hb]
 simp only [Option.bind_some]
 by_cases h : Ud a b
 ·rw [show (decide (Ed a ∧ Ed b ∧ Ep a = Ep b)) = true from decide_eq_true h, if_pos rfl, if_pos rfl, if_pos h, Aqs h hl, Ase h hl]
  exact ⟨rfl, rfl⟩
 ·rw [show (decide (Ed a ∧ Ed b ∧ Ep a = Ep b)) = false from decide_eq_false h, if_neg Bool.false_ne_true, if_neg Bool.false_ne_true, if_neg h]
  exact ⟨rfl, rfl⟩
end
section
variable {a b c : SAlgebra} {f g : List Int}
end
section
variable {a b : SAlgebra} {f : List Int}
end
end Go.Proofs.Ytcpgnfohmeineaa.Ax
namespace Go.Proofs.Ytcpgnfohmeineaa.Ax
open Go Classical
theorem Aed {β : Type} (k : ByteArray) (v : β) (k' : ByteArray) : ∀ (l : List (ByteArray × β)), Ea (I2 l k v) k' = if k' = k then some v else Ea l k'
 | [] => by simp [I2, Ea]
 | (a, b) :: r => by
   simp only [I2]
   by_cases h1 : k = a
   ·subst h1
    rw [if_pos rfl]
    simp only [Ea]
    by_cases h2 : k' = k
    ·rw [if_pos h2, if_pos h2]
    ·rw [if_neg h2, if_neg h2, if_neg h2]
   ·rw [if_neg h1]
    simp only [Ea]
    rw [Aed k v k' r]
    by_cases h2 : k' = a
    ·rw [if_pos h2, if_pos h2, if_neg (fun e => h1 (by rw [← e, h2]))]
    ·rw [if_neg h2, if_neg h2]
theorem Ajo (ns : List Int) : ∀ b : ByteArray, (ns.foldl (fun r n => r.push (UInt8.ofNat n.toNat)) b).data.toList = b.data.toList ++ ns.map fun n => UInt8.ofNat n.toNat := by
 induction ns with
 | nil => intro b; simp
 | cons n r ih =>
   intro b
   simp only [List.foldl_cons, List.map_cons]
   rw [ih]
   simp [ByteArray.push]
theorem An4 {a b : Int} (ha : 0 ≤ a ∧ a ≤ 255) (hb : 0 ≤ b ∧ b ≤ 255) (h : UInt8.ofNat a.toNat = UInt8.ofNat b.toNat) : a = b := by
 have := congrArg UInt8.toNat h
 simp [UInt8.toNat_ofNat'] at this
 omega
theorem Al1 {ns ms : List Int} (hn : ∀ x ∈ ns, 0 ≤ x ∧ x ≤ 255) (hm : ∀ x ∈ ms, 0 ≤ x ∧ x ≤ 255) (h : Qr ns = Qr ms) : ns = ms := by
 have e := congrArg (fun b : ByteArray => b.data.toList) h
 simp only [Qr, Ajo] at e
 have e2 : (ns.map fun n : Int => UInt8.ofNat n.toNat) = ms.map fun n : Int => UInt8.ofNat n.toNat := by simpa using e
 clear e h
 induction ns generalizing ms with
 | nil =>
   cases ms with
   | nil => rfl
   | cons _ _ => cases e2
 | cons a r ih =>
   cases ms with
   | nil => cases e2
   | cons b s =>
     simp only [List.map_cons, List.cons.injEq] at e2
     rw [An4 (hn a (by simp)) (hm b (by simp)) e2.1, ih (fun x hx => hn x (by simp [hx])) (fun x hx => hm x (by simp [hx])) e2.2]
def byt (x : Int) : List Int := [IntKind.u8.wrap (x.fdiv (2 ^ min (Int.toNat 8) IntKind.i64.bits)), IntKind.u8.wrap x]
theorem Aox (n : Int) : IntKind.u8.wrap n = n % 256 := by simp [IntKind.wrap, IntKind.bits, IntKind.signed]
theorem An0 {x : Int} (h0 : 0 ≤ x) (h1 : x < 65536) : byt x = [x / 256, x % 256] := by
 unfold byt
 have e : (2 : Int) ^ min (Int.toNat 8) IntKind.i64.bits = 256 := by decide
 rw [e, Aox, Aox, Int.fdiv_eq_ediv_of_nonneg _ (by omega)]
 congr 1
 omega
theorem Ank (x : Int) : ∀ y ∈ byt x, 0 ≤ y ∧ y ≤ 255 := by
 intro y hy
 unfold byt at hy
 simp only [List.mem_cons, List.not_mem_nil, or_false] at hy
 rcases hy with rfl | rfl <;> (rw [Aox]; omega)
def Amk (xs : List Int) : ByteArray := Qr (xs.flatMap byt)
theorem Afm : ∀ {xs ys : List Int}, (∀ x ∈ xs, 0 ≤ x ∧ x < 65536) → (∀ x ∈ ys, 0 ≤ x ∧ x < 65536) → xs.flatMap byt = ys.flatMap byt → xs = ys := by
 intro xs
 induction xs with
 | nil =>
   intro ys _ _ h
   cases ys with
   | nil => rfl
   | cons y r => simp [byt] at h
 | cons x r ih =>
   intro ys hx hy h
   cases ys with
   | nil => simp [byt] at h
   | cons y s =>
     have h1 := hx x (by simp)
     have h2 := hy y (by simp)
     simp only [List.flatMap_cons, An0 h1.1 h1.2, An0 h2.1 h2.2, List.cons_append, List.nil_append, List.cons.injEq] at h
     rw [ih (fun z hz => hx z (by simp [hz])) (fun z hz => hy z (by simp [hz])) h.2.2, show x = y by omega]
theorem An3 {xs ys : List Int} (hx : ∀ x ∈ xs, 0 ≤ x ∧ x < 65536) (hy : ∀ x ∈ ys, 0 ≤ x ∧ x < 65536) (h : Amk xs = Amk ys) : xs = ys := by
 refine Afm hx hy (Al1 ?_ ?_ h)
 ·intro y hy
  obtain ⟨x, _, hy⟩ := List.mem_flatMap.1 hy
  exact Ank x y hy
 ·intro y hy
  obtain ⟨x, _, hy⟩ := List.mem_flatMap.1 hy
  exact Ank x y hy
theorem Aol (xs : List Int) : (xs.flatMap byt).length = 2 * xs.length := by
 induction xs with
 | nil => rfl
 | cons x r ih => simp only [List.flatMap_cons, List.length_append, ih, List.length_cons]; simp [byt]; omega
theorem Ak0 {xs : List Int} (hl : xs.length ≤ 1048576) : Gw xs = some (Amk xs) := by
 have hL := Bq
 unfold Gw
 rw [Ae (by unfold InI; omega), Ae (by omega)]
 have key := Cf (body := Dw xs) (fun i => ((i : Int), (xs.take i).flatMap byt)) xs.length (xs.flatMap byt) (fun i hi => by
  have h1 := Aol (xs.take i)
  unfold Dw
  dsimp only
  rw [if_pos (by omega), Ae (by omega), Int.toNat_natCast, Ae (by rw [h1, List.length_take]; simp only [List.length_cons, List.length_nil]; omega), Ae (by unfold InI; omega), Fy hi, List.flatMap_append]
  simp [byt]) (by
  unfold Dw
  dsimp only
  rw [if_neg (by omega), List.take_length])
 have key' : Ap (Dw xs) (0, Bl Int) = _ := key
 rw [key']; rfl
def Amq (S : List (ByteArray × Bool)) (rows : List (List Int)) : Prop := ∀ k, (Ea S k).getD false = decide (∃ t ∈ rows, Amk t = k)
theorem Ang : Amq (Bl (ByteArray × Bool)) [] := fun k => by simp [Ea]
theorem Amf {S : List (ByteArray × Bool)} {rows : List (List Int)} (h : Amq S rows) (t : List Int) : Amq (I2 S (Amk t) true) (rows ++ [t]) := by
 intro k
 rw [Aed]
 by_cases hk : k = Amk t
 ·rw [if_pos hk]
  exact (decide_eq_true ⟨t, by simp, hk.symm⟩).symm
 ·rw [if_neg hk, h k, decide_eq_decide]
  constructor
  ·rintro ⟨u, hu, e⟩; exact ⟨u, by simp [hu], e⟩
  ·rintro ⟨u, hu, e⟩
   rcases List.mem_append.1 hu with h1 | h1
   ·exact ⟨u, h1, e⟩
   ·rw [List.mem_singleton.1 h1] at e
    exact absurd e.symm hk
theorem Ajh {r : SRelation} (hl : r.Tuples.length ≤ 1048576) (hr : ∀ t ∈ r.Tuples, t.length ≤ 1048576) : ∃ S, Fg r = some S ∧ Amq S r.Tuples := by
 unfold Fg
 obtain ⟨S, e, hS⟩ := Iu (body := D9 r) (fun s => ∃ i : Nat, s.1 = (i : Int) ∧ i ≤ r.Tuples.length ∧ Amq s.2 (r.Tuples.take i)) (fun s => r.Tuples.length - s.1.toNat) (fun S => Amq S r.Tuples) (by
  rintro ⟨x, S⟩ ⟨i, rfl, g1, g2⟩
  dsimp only at g2
  unfold D9
  dsimp only
  by_cases hi : i < r.Tuples.length
  ·rw [if_pos (by omega), Ae (by omega), Int.toNat_natCast, Ak0 (hr _ (Bh hi))]
   simp only [Option.bind_some]
   rw [Ae (by unfold InI; omega)]
   refine .inl ⟨_, rfl, ⟨i + 1, rfl, by omega, ?_⟩, by dsimp only; omega⟩
   dsimp only
   rw [Fy hi]
   exact Amf g2 _
  ·rw [if_neg (by omega)]
   have : i = r.Tuples.length := by omega
   subst this
   rw [List.take_length] at g2
   exact .inr ⟨_, rfl, g2⟩) (s := ((0 : Int), Bl (ByteArray × Bool))) ⟨0, rfl, Nat.zero_le _, Ang⟩
 rw [e]
 exact ⟨S, rfl, hS⟩
theorem Pv {n : Nat} (_hn : 0 < n) : ∀ r k, k < n ^ r → M2 n (Bz n r k) = (k : Int) := by
 intro r
 induction r with
 | zero => intro k hk; simp at hk; subst hk; rfl
 | succ r ih =>
   intro k hk
   have hd : k / n < n ^ r := Nat.div_lt_of_lt_mul (by rw [Nat.mul_comm, ← Nat.pow_succ]; exact hk)
   simp only [Bz]
   rw [L1, ih _ hd, ← Int.natCast_mul, ← Int.natCast_add, Nat.mul_comm, Nat.div_add_mod]
theorem Ow {n : Nat} (hn : 0 < n) : ∀ r (xs : List Int), xs.length = r → Dh xs n → Bz n r (M2 n xs).toNat = xs := by
 intro r
 induction r with
 | zero => intro xs hl _; rw [List.length_eq_zero_iff.1 hl]; rfl
 | succ r ih =>
   intro xs hl hx
   obtain ⟨ys, y, rfl⟩ : ∃ ys y, xs = ys ++ [y] := ⟨xs.take r, nth xs r, by rw [← Fy (by omega), List.take_of_length_le (by omega)]⟩
   have hy := hx y (by simp)
   have hys : Dh ys n := fun z hz => hx z (by simp [hz])
   have hyl : ys.length = r := by simpa using hl
   obtain ⟨c, h1, _⟩ := Ul r ys hyl hys
   obtain ⟨d, rfl⟩ := Int.eq_ofNat_of_zero_le hy.1
   have hd : d < n := by omega
   have e : (M2 n (ys ++ [(d : Int)])).toNat = c * n + d := by
    rw [L1, h1, ← Int.natCast_mul, ← Int.natCast_add, Int.toNat_natCast]
   rw [e]
   simp only [Bz]
   rw [show (c * n + d) / n = c by rw [Nat.mul_comm, Nat.mul_add_div hn, Nat.div_eq_of_lt hd]; omega, show (c * n + d) % n = d by rw [Nat.mul_comm, Nat.mul_add_mod, Nat.mod_eq_of_lt hd]]
   have := ih ys hyl hys
   rw [h1, Int.toNat_natCast] at this
   rw [this]
theorem Sg {n k : Nat} (B : Nat) (hB : B ≤ 1000000) (h : ∀ i, i ≤ k → n ^ i ≤ B) (hk : k ≤ 1000) : Cu n k = some ((n ^ k : Nat) : Int) := by
 unfold Cu
 have key := Cf (body := Bt n) (fun j => (((n ^ j : Nat) : Int), ((k : Int) - (j : Int)))) k ((n ^ k : Nat) : Int) (fun j hj => by
  unfold Bt
  dsimp only
  have hp := h (j + 1) (by omega)
  rw [Nat.pow_succ] at hp
  rw [if_pos (by omega), ← Int.natCast_mul, Nat.pow_succ]
  generalize n ^ j * n = N at hp ⊢
  rw [Ae (by unfold InI; omega), Ae (by unfold InI; omega), show ((k : Int) - (j : Int) - 1) = (k : Int) - ((j + 1 : Nat) : Int) by omega]) (by
  unfold Bt
  dsimp only
  rw [if_neg (by omega)])
 have key' : Ap (Bt n) (1, (k : Int)) = some ((n ^ k : Nat) : Int) := by simpa using key
 rw [key']; rfl
theorem Ag6 {n k : Nat} (B : Nat) (hB : B ≤ 1000000) (h : ∀ i, i ≤ k → n ^ i ≤ B) (hk : k ≤ 1000) : B9 n k = some ((n ^ k : Nat) : Int) := by
 unfold B9
 have key := Cf (body := Bu n) (fun j => (((n ^ j : Nat) : Int), ((k : Int) - (j : Int)))) k ((n ^ k : Nat) : Int) (fun j hj => by
  unfold Bu
  dsimp only
  have hp := h (j + 1) (by omega)
  rw [Nat.pow_succ] at hp
  rw [if_pos (by omega), ← Int.natCast_mul, Nat.pow_succ]
  generalize n ^ j * n = N at hp ⊢
  rw [Ae (by unfold InI; omega), Ae (by unfold InI; omega), show ((k : Int) - (j : Int) - 1) = (k : Int) - ((j + 1 : Nat) : Int) by omega]) (by
  unfold Bu
  dsimp only
  rw [if_neg (by omega)])
 have key' : Ap (Bu n) (1, (k : Int)) = some ((n ^ k : Nat) : Int) := by simpa using key
 rw [key']; rfl
theorem Si {n r k : Nat} (hn : 0 < n) (hn8 : n ≤ 8) (hr : r ≤ 100) (hk : k ≤ 1048576) : B8 n r k = some (Bz n r k) := by
 unfold B8
 rw [Ae (by rw [Bq]; omega), Ae (by unfold InI; omega), Int.toNat_natCast, Aln hn hn8 r k _ (by simp) (by simp; omega) hk]
 simp
theorem Aeb {n r k : Nat} (hn : 0 < n) (hn8 : n ≤ 8) (hr : r ≤ 100) (hk : k ≤ 1048576) : Fp k r n = some (Bz n r k) := by
 have : Fp (k : Int) (r : Int) (n : Int) = B8 (n : Int) (r : Int) (k : Int) := rfl
 rw [this]; exact Si hn hn8 hr hk
end Go.Proofs.Ytcpgnfohmeineaa.Ax
namespace Go.Proofs.Ytcpgnfohmeineaa.Ax
open Go Classical
def hT (n r : Nat) (y : Nat → Int) : Int := M2 n ((List.range r).map y)
theorem Alm (n r : Nat) (y : Nat → Int) : hT n (r + 1) y = hT n r y * (n : Int) + y r := by
 unfold hT; rw [List.range_succ, List.map_append]; exact L1 _ _ _
theorem Mb {n r : Nat} {y z : Nat → Int} (h : ∀ i, i < r → y i = z i) : hT n r y = hT n r z := by
 unfold hT
 congr 1
 exact List.map_congr_left fun i hi => h i (List.mem_range.1 hi)
theorem Aic {n r : Nat} {y : Nat → Int} (h : ∀ i, i < r → 0 ≤ y i ∧ y i < n) : Dh ((List.range r).map y) n := by
 intro v hv
 obtain ⟨i, hi, rfl⟩ := List.mem_map.1 hv
 exact h i (List.mem_range.1 hi)
theorem Gq {n r : Nat} {y : Nat → Int} (hn : n ≤ 8) (hr : r ≤ 3) (h : ∀ i, i < r → 0 ≤ y i ∧ y i < n) : ∃ c : Nat, hT n r y = (c : Int) ∧ c < n ^ r ∧ c < 512 := by
 obtain ⟨c, h1, h2, h3⟩ := P0 hn (xs := (List.range r).map y) (by simpa using hr) (Aic h)
 exact ⟨c, h1, by simpa using h2, h3⟩
theorem Ns {body : (Int × Int) → Option ((Int × Int) ⊕ Int)} (n r : Nat) (y : Nat → Int) (hb : ∀ i, i < r → body ((i : Int), hT n i y) = some (.inl (((i + 1 : Nat) : Int), hT n i y * (n : Int) + y i))) (he : ∀ q, body ((r : Int), q) = some (.inr q)) :
  Ap body (0, 0) = some (hT n r y) := by
 have key := Cf (body := body) (fun i => ((i : Int), hT n i y)) r (hT n r y) (fun i hi => by rw [hb i hi, Alm]) (he _)
 exact key
theorem Ar1 (m : List Int) (a s : Nat) (h : a + s ≤ m.length) : (m.drop a).take s = (List.range s).map fun k => nth m (a + k) := by
 refine List.ext_getElem (by simp; omega) fun i h1 h2 => ?_
 have hi : i < s := by simpa using h2
 simp only [List.getElem_take, List.getElem_drop, List.getElem_map, List.getElem_range]
 rw [Eg (by omega)]
structure OpR (n r : Nat) (f : SOp) : Prop where
 ar : f.Arity = r
 le : r ≤ 2
 len : f.Table.length = n ^ r
 fin : Dh f.Table n
theorem OpR.at {n r : Nat} {f : SOp} (h : OpR n r f) (hn : n ≤ 8) {y : Nat → Int} (hy : ∀ i, i < r → 0 ≤ y i ∧ y i < n) : (∃ c : Nat, hT n r y = (c : Int) ∧ c < f.Table.length ∧ c < 512) ∧ 0 ≤ nth f.Table (hT n r y).toNat ∧ nth f.Table (hT n r y).toNat < n := by
 obtain ⟨c, h1, h2, h3⟩ := Gq hn (by have := h.le; omega) hy
 rw [← h.len] at h2
 exact ⟨⟨c, h1, h2, h3⟩, by rw [h1, Int.toNat_natCast]; exact h.fin _ (Bh h2)⟩
def Rv (n : Nat) (f g : SOp) (r s : Nat) (x : Nat → Nat → Int) : Int := nth f.Table (hT n r fun i => nth g.Table (hT n s fun k => x i k).toNat).toNat
def inM (n r s : Nat) (x : Nat → Nat → Int) : Prop := ∀ i, i < r → ∀ k, k < s → 0 ≤ x i k ∧ x i k < n
def Yf (n : Nat) (f g : SOp) (r s : Nat) : Prop := ∀ x, inM n r s x → Rv n f g r s x = Rv n g f s r fun k i => x i k
theorem Adq {n r s : Nat} {f g : SOp} (h : Yf n f g r s) : Yf n g f s r := fun x hx => (h (fun i k => x k i) fun i hi k hk => hx k hk i hi).symm
theorem Py {n r s : Nat} {f g : SOp} {x z : Nat → Nat → Int} (h : ∀ i, i < r → ∀ k, k < s → x i k = z i k) : Rv n f g r s x = Rv n f g r s z := by
 unfold Rv
 rw [Mb (z := fun i => nth g.Table (hT n s fun k => z i k).toNat) fun i hi => by rw [Mb (h i hi)]]
theorem Ary {n k : Nat} (_h1 : 1 ≤ n) (hn : n ≤ 4) (hk : k ≤ 4) : ∀ i, i ≤ k → n ^ i ≤ 256 := fun i hi =>
 Nat.le_trans (Nat.pow_le_pow_left hn i) (Nat.le_trans (Nat.pow_le_pow_right (by omega) (show i ≤ 4 by omega)) (by decide))
theorem Aoj {r s : Nat} (hr : r ≤ 2) (hs : s ≤ 2) : r * s ≤ 4 := Nat.mul_le_mul hr hs
def Gd (n r s k : Nat) (i j : Nat) : Int := nth (Bz n (r * s) k) (i * s + j)
theorem Aa3 {r s i j : Nat} (hi : i < r) (hj : j < s) : i * s + j < r * s := by
 have : (i + 1) * s ≤ r * s := Nat.mul_le_mul_right _ hi
 rw [Nat.succ_mul] at this; omega
theorem Ajj {n r s k : Nat} (hn : 0 < n) : inM n r s (Gd n r s k) := fun i hi j hj =>
 Pq hn _ k _ (Bh (by rw [B4]; exact Aa3 hi hj))
theorem Aqx {n r s : Nat} (hn : 0 < n) {x : Nat → Nat → Int} (hx : inM n r s x) : ∃ k, k < n ^ (r * s) ∧ ∀ i, i < r → ∀ j, j < s → Gd n r s k i j = x i j := by
 have hin : Dh ((List.range (r * s)).map fun q => x (q / s) (q % s)) n := by
  intro v hv
  obtain ⟨q, hq, rfl⟩ := List.mem_map.1 hv
  have hq := List.mem_range.1 hq
  have hs : 0 < s := by
   rcases Nat.eq_zero_or_pos s with h | h
   ·subst h; simp at hq
   ·exact h
  exact hx _ (Nat.div_lt_of_lt_mul (by rw [Nat.mul_comm]; exact hq)) _ (Nat.mod_lt _ hs)
 have hl : ((List.range (r * s)).map fun q => x (q / s) (q % s)).length = r * s := by simp
 obtain ⟨c, h1, h2⟩ := Ul (r * s) _ hl hin
 refine ⟨c, h2, fun i hi j hj => ?_⟩
 have e := Ow hn (r * s) _ hl hin
 rw [h1, Int.toNat_natCast] at e
 unfold Gd
 rw [e, Eg (by rw [hl]; exact Aa3 hi hj)]
 simp only [List.getElem_map, List.getElem_range]
 have hs : 0 < s := by omega
 rw [show (i * s + j) / s = i by rw [Nat.mul_comm, Nat.mul_add_div hs, Nat.div_eq_of_lt hj]; omega, show (i * s + j) % s = j by rw [Nat.mul_comm, Nat.mul_add_mod, Nat.mod_eq_of_lt hj]]
def Ae7 (n : Nat) (f g : SOp) (r s k : Nat) : Prop := Rv n f g r s (Gd n r s k) ≠ Rv n g f s r fun j i => Gd n r s k i j
theorem Aoz {n r s : Nat} {f g : SOp} (hn : 0 < n) : Yf n f g r s ↔ ¬ ∃ k, 0 ≤ k ∧ k < n ^ (r * s) ∧ Ae7 n f g r s k := by
 constructor
 ·rintro h ⟨k, _, _, hk⟩
  exact hk (h _ (Ajj hn))
 ·intro h x hx
  obtain ⟨k, hk, e⟩ := Aqx hn hx
  have h1 : ¬ Ae7 n f g r s k := fun hh => h ⟨k, Nat.zero_le _, hk, hh⟩
  have h1 := Classical.not_not.1 h1
  rw [Py (z := x) e, Py (f := g) (g := f) (z := fun j i => x i j) (fun j hj i hi => e i hi j hj)] at h1
  exact h1
section
variable {n r s : Nat} {f g : SOp}
theorem Apg (h1 : 1 ≤ n) (hn : n ≤ 4) (hf : OpR n r f) (hg : OpR n s g) {k : Nat} (hk : k < n ^ (r * s)) : Bw (n : Int) f g (k : Int) = if Ae7 n f g r s k then some (.inr (.inl ())) else some (.inl ((k + 1 : Nat) : Int)) := by
 have hr2 := hf.le
 have hs2 := hg.le
 have hrs := Aoj hr2 hs2
 have hp := Ary h1 hn hrs
 have hpk := hp _ (Nat.le_refl _)
 have ers : (r : Int) * (s : Int) = ((r * s : Nat) : Int) := by push_cast; rfl
 have hal := B4 n (r * s) k
 have hM := Ajj (n := n) (r := r) (s := s) (k := k) (by omega)
 unfold Bw
 rw [hf.ar, hg.ar, ers, Ae (by unfold InI; omega), Sg 256 (by omega) hp (by omega)]
 simp only [Option.bind_some]
 rw [if_pos (by omega), Ae (by unfold InI; omega), Aeb (by omega) (by omega) (by omega) (by omega)]
 simp only [Option.bind_some]
 have l1 : Ap (Cz (n : Int) f g (k : Int) (Bz n (r * s) k)) (0, 0) = some (hT n r fun i => nth g.Table (hT n s fun j => Gd n r s k i j).toNat) := by
  refine Ns n r _ (fun i hi => ?_) fun q => by unfold Cz; dsimp only; rw [hf.ar, if_neg (by omega)]
  have hy : ∀ i', i' < i → 0 ≤ nth g.Table (hT n s fun j => Gd n r s k i' j).toNat ∧ nth g.Table (hT n s fun j => Gd n r s k i' j).toNat < n := fun i' hi' => (hg.at (by omega) (hM i' (by omega))).2
  obtain ⟨c, c1, _, c3⟩ := Gq (by omega) (by omega) hy
  obtain ⟨⟨d, d1, d2, _⟩, d4⟩ := hg.at (by omega) (hM i hi)
  have q1 : (i : Int) * (s : Int) = ((i * s : Nat) : Int) := by push_cast; rfl
  have q2 : ((i : Int) + 1) * (s : Int) = (((i + 1) * s : Nat) : Int) := by push_cast; rfl
  have q3 : (i + 1) * s ≤ r * s := Nat.mul_le_mul_right _ hi
  have q4 : (i + 1) * s = i * s + s := Nat.succ_mul _ _
  have q5 : (c : Int) * (n : Int) = ((c * n : Nat) : Int) := by push_cast; rfl
  have q6 : c * n ≤ 512 * 4 := Nat.mul_le_mul (by omega) hn
  have seg : List.take ((i + 1) * s - i * s) (List.drop (i * s) (Bz n (r * s) k)) = (List.range s).map fun j => Gd n r s k i j := by
   rw [q4, show i * s + s - i * s = s by omega, Ar1 _ _ _ (by omega)]; rfl
  have hio : Ey ((List.range s).map fun j => Gd n r s k i j) (n : Int) = some (hT n s fun j => Gd n r s k i j) := Al0 (by omega) (by simp; omega) (Aic (hM i hi))
  unfold Cz
  dsimp only
  rw [hf.ar, hg.ar, if_pos (by omega), c1, q5, q1, q2, Ae (by unfold InI; omega), Ae (by unfold InI; omega), Ae (by unfold InI; omega), Ae (by unfold InI; omega), Ae (by omega), Int.toNat_natCast, Int.toNat_natCast, seg, hio]
  simp only [Option.bind_some]
  rw [d1] at d4
  rw [d1, Ae (by omega), Ae (by unfold InI; omega), Ae (by unfold InI; omega)]
  rfl
 rw [l1]
 simp only [Option.bind_some]
 have l3 : Ap (C1 (n : Int) f g (k : Int) (Bz n (r * s) k) (hT n r fun i => nth g.Table (hT n s fun j => Gd n r s k i j).toNat)) (0, 0) = some (hT n s fun j => nth f.Table (hT n r fun i => Gd n r s k i j).toNat) := by
  refine Ns n s _ (fun j hj => ?_) fun q => by unfold C1; dsimp only; rw [hg.ar, if_neg (by omega)]
  have hy : ∀ j', j' < j → 0 ≤ nth f.Table (hT n r fun i => Gd n r s k i j').toNat ∧ nth f.Table (hT n r fun i => Gd n r s k i j').toNat < n := fun j' hj' => (hf.at (by omega) (fun i hi => hM i hi j' (by omega))).2
  obtain ⟨c, c1, _, c3⟩ := Gq (by omega) (by omega) hy
  obtain ⟨⟨d, d1, d2, _⟩, d4⟩ := hf.at (by omega) (fun i hi => hM i hi j hj)
  have q5 : (c : Int) * (n : Int) = ((c * n : Nat) : Int) := by push_cast; rfl
  have q6 : c * n ≤ 512 * 4 := Nat.mul_le_mul (by omega) hn
  have l2 : ∀ a b : Int, Ap (C0 (n : Int) f g (k : Int) (Bz n (r * s) k) a (j : Int) b) (0, 0) = some (hT n r fun i => Gd n r s k i j) := fun a b => by
   refine Ns n r _ (fun i hi => ?_) fun q => by unfold C0; dsimp only; rw [hf.ar, if_neg (by omega)]
   obtain ⟨c, c1, _, c3⟩ := Gq (n := n) (r := i) (y := fun i => Gd n r s k i j) (by omega) (by omega) (fun i' hi' => hM i' (by omega) j hj)
   have q1 : (i : Int) * (s : Int) = ((i * s : Nat) : Int) := by push_cast; rfl
   have q5 : (c : Int) * (n : Int) = ((c * n : Nat) : Int) := by push_cast; rfl
   have q6 : c * n ≤ 512 * 4 := Nat.mul_le_mul (by omega) hn
   have q7 := Aa3 hi hj
   have q8 := hM i hi j hj
   have q9 : nth (Bz n (r * s) k) ((i * s + j : Nat) : Int).toNat = Gd n r s k i j := rfl
   unfold C0
   dsimp only
   rw [hf.ar, hg.ar, if_pos (by omega), c1, q5, q1, ← Int.natCast_add, q9, Ae (by unfold InI; omega), Ae (by unfold InI; omega), Ae (by unfold InI; omega), Ae (by omega), Ae (by unfold InI; omega), Ae (by unfold InI; omega)]
   rfl
  unfold C1
  dsimp only
  rw [hg.ar, if_pos (by omega), l2]
  simp only [Option.bind_some]
  rw [d1] at d4
  rw [c1, q5, d1, Ae (by unfold InI; omega), Ae (by omega), Ae (by unfold InI; omega), Ae (by unfold InI; omega)]
  rfl
 rw [l3]
 simp only [Option.bind_some]
 obtain ⟨⟨d, d1, d2, _⟩, _⟩ := hf.at (y := fun i => nth g.Table (hT n s fun j => Gd n r s k i j).toNat) (by omega) (fun i hi => (hg.at (by omega) (hM i hi)).2)
 obtain ⟨⟨e, e1, e2, _⟩, _⟩ := hg.at (y := fun j => nth f.Table (hT n r fun i => Gd n r s k i j).toNat) (by omega) (fun j hj => (hf.at (by omega) (fun i hi => hM i hi j hj)).2)
 rw [Ae (by rw [d1]; omega), Ae (by rw [e1]; omega)]
 by_cases hO : Ae7 n f g r s k
 ·rw [if_pos hO]
  exact if_pos hO
 ·rw [if_neg hO]
  refine (if_neg hO).trans ?_
  rw [Ae (by unfold InI; omega)]; rfl
theorem Alb (h1 : 1 ≤ n) (hn : n ≤ 4) (hf : OpR n r f) (hg : OpR n s g) {k : Nat} (hk : k < n ^ (r * s)) : Bo (n : Int) f g (k : Int) = if Ae7 n f g r s k then some (.inr (.inl ())) else some (.inl ((k + 1 : Nat) : Int)) := by
 have hr2 := hf.le
 have hs2 := hg.le
 have hrs := Aoj hr2 hs2
 have hp := Ary h1 hn hrs
 have hpk := hp _ (Nat.le_refl _)
 have ers : (r : Int) * (s : Int) = ((r * s : Nat) : Int) := by push_cast; rfl
 have hal := B4 n (r * s) k
 have hM := Ajj (n := n) (r := r) (s := s) (k := k) (by omega)
 unfold Bo
 rw [hf.ar, hg.ar, ers, Ae (by unfold InI; omega), Ag6 256 (by omega) hp (by omega)]
 simp only [Option.bind_some]
 rw [if_pos (by omega), Ae (by unfold InI; omega), Si (by omega) (by omega) (by omega) (by omega)]
 simp only [Option.bind_some]
 have l2 : Ap (Cc (n : Int) f g (k : Int) (Bz n (r * s) k)) (0, 0) = some (hT n r fun i => nth g.Table (hT n s fun j => Gd n r s k i j).toNat) := by
  refine Ns n r _ (fun i hi => ?_) fun q => by unfold Cc; dsimp only; rw [hf.ar, if_neg (by omega)]
  have hy : ∀ i', i' < i → 0 ≤ nth g.Table (hT n s fun j => Gd n r s k i' j).toNat ∧ nth g.Table (hT n s fun j => Gd n r s k i' j).toNat < n := fun i' hi' => (hg.at (by omega) (hM i' (by omega))).2
  obtain ⟨c, c1, _, c3⟩ := Gq (by omega) (by omega) hy
  obtain ⟨⟨d, d1, d2, _⟩, d4⟩ := hg.at (by omega) (hM i hi)
  have q5 : (c : Int) * (n : Int) = ((c * n : Nat) : Int) := by push_cast; rfl
  have q6 : c * n ≤ 512 * 4 := Nat.mul_le_mul (by omega) hn
  have inner : ∀ b : Int, Ap (Ci (n : Int) f g (k : Int) (Bz n (r * s) k) (i : Int) b) (0, 0) = some (hT n s fun j => Gd n r s k i j) := fun b => by
   refine Ns n s _ (fun j hj => ?_) fun q => by unfold Ci; dsimp only; rw [hg.ar, if_neg (by omega)]
   obtain ⟨c, c1, _, c3⟩ := Gq (n := n) (r := j) (y := fun j => Gd n r s k i j) (by omega) (by omega) (fun j' hj' => hM i hi j' (by omega))
   have q1 : (i : Int) * (s : Int) = ((i * s : Nat) : Int) := by push_cast; rfl
   have q5 : (c : Int) * (n : Int) = ((c * n : Nat) : Int) := by push_cast; rfl
   have q6 : c * n ≤ 512 * 4 := Nat.mul_le_mul (by omega) hn
   have q7 := Aa3 hi hj
   have q8 := hM i hi j hj
   have q9 : nth (Bz n (r * s) k) ((i * s + j : Nat) : Int).toNat = Gd n r s k i j := rfl
   unfold Ci
   dsimp only
   rw [hg.ar, if_pos (by omega), c1, q5, q1, ← Int.natCast_add, q9, Ae (by unfold InI; omega), Ae (by unfold InI; omega), Ae (by unfold InI; omega), Ae (by omega), Ae (by unfold InI; omega), Ae (by unfold InI; omega)]
   rfl
  unfold Cc
  dsimp only
  rw [hf.ar, if_pos (by omega), inner]
  simp only [Option.bind_some]
  rw [d1] at d4
  rw [c1, q5, d1, Ae (by unfold InI; omega), Ae (by omega), Ae (by unfold InI; omega), Ae (by unfold InI; omega)]
  rfl
 rw [l2]
 simp only [Option.bind_some]
 have l4 : Ap (Cm (n : Int) f g (k : Int) (Bz n (r * s) k) (hT n r fun i => nth g.Table (hT n s fun j => Gd n r s k i j).toNat)) (0, 0) = some (hT n s fun j => nth f.Table (hT n r fun i => Gd n r s k i j).toNat) := by
  refine Ns n s _ (fun j hj => ?_) fun q => by unfold Cm; dsimp only; rw [hg.ar, if_neg (by omega)]
  have hy : ∀ j', j' < j → 0 ≤ nth f.Table (hT n r fun i => Gd n r s k i j').toNat ∧ nth f.Table (hT n r fun i => Gd n r s k i j').toNat < n := fun j' hj' => (hf.at (by omega) (fun i hi => hM i hi j' (by omega))).2
  obtain ⟨c, c1, _, c3⟩ := Gq (by omega) (by omega) hy
  obtain ⟨⟨d, d1, d2, _⟩, d4⟩ := hf.at (by omega) (fun i hi => hM i hi j hj)
  have q5 : (c : Int) * (n : Int) = ((c * n : Nat) : Int) := by push_cast; rfl
  have q6 : c * n ≤ 512 * 4 := Nat.mul_le_mul (by omega) hn
  have l3 : ∀ a b : Int, Ap (Ck (n : Int) f g (k : Int) (Bz n (r * s) k) a (j : Int) b) (0, 0) = some (hT n r fun i => Gd n r s k i j) := fun a b => by
   refine Ns n r _ (fun i hi => ?_) fun q => by unfold Ck; dsimp only; rw [hf.ar, if_neg (by omega)]
   obtain ⟨c, c1, _, c3⟩ := Gq (n := n) (r := i) (y := fun i => Gd n r s k i j) (by omega) (by omega) (fun i' hi' => hM i' (by omega) j hj)
   have q1 : (i : Int) * (s : Int) = ((i * s : Nat) : Int) := by push_cast; rfl
   have q5 : (c : Int) * (n : Int) = ((c * n : Nat) : Int) := by push_cast; rfl
   have q6 : c * n ≤ 512 * 4 := Nat.mul_le_mul (by omega) hn
   have q7 := Aa3 hi hj
   have q8 := hM i hi j hj
   have q9 : nth (Bz n (r * s) k) ((i * s + j : Nat) : Int).toNat = Gd n r s k i j := rfl
   unfold Ck
   dsimp only
   rw [hf.ar, hg.ar, if_pos (by omega), c1, q5, q1, ← Int.natCast_add, q9, Ae (by unfold InI; omega), Ae (by unfold InI; omega), Ae (by unfold InI; omega), Ae (by omega), Ae (by unfold InI; omega), Ae (by unfold InI; omega)]
   rfl
  unfold Cm
  dsimp only
  rw [hg.ar, if_pos (by omega), l3]
  simp only [Option.bind_some]
  rw [d1] at d4
  rw [c1, q5, d1, Ae (by unfold InI; omega), Ae (by omega), Ae (by unfold InI; omega), Ae (by unfold InI; omega)]
  rfl
 rw [l4]
 simp only [Option.bind_some]
 obtain ⟨⟨d, d1, d2, _⟩, _⟩ := hf.at (y := fun i => nth g.Table (hT n s fun j => Gd n r s k i j).toNat) (by omega) (fun i hi => (hg.at (by omega) (hM i hi)).2)
 obtain ⟨⟨e, e1, e2, _⟩, _⟩ := hg.at (y := fun j => nth f.Table (hT n r fun i => Gd n r s k i j).toNat) (by omega) (fun j hj => (hf.at (by omega) (fun i hi => hM i hi j hj)).2)
 rw [Ae (by rw [d1]; omega), Ae (by rw [e1]; omega)]
 by_cases hO : Ae7 n f g r s k
 ·rw [if_pos hO]
  exact if_pos hO
 ·rw [if_neg hO]
  refine (if_neg hO).trans ?_
  rw [Ae (by unfold InI; omega)]; rfl
end
def Mt (n : Int) (f g : SOp) : Prop := 1 ≤ n ∧ n ≤ 4 ∧ Y1 n.toNat f ∧ Y1 n.toNat g ∧ f.Arity ≤ 2 ∧ g.Arity ≤ 2
theorem Mt.symm {n : Int} {f g : SOp} (h : Mt n f g) : Mt n g f := ⟨h.1, h.2.1, h.2.2.2.1, h.2.2.1, h.2.2.2.2.2, h.2.2.2.2.1⟩
theorem Mt.ops {n : Int} {f g : SOp} (h : Mt n f g) : OpR n.toNat f.Arity.toNat f ∧ OpR n.toNat g.Arity.toNat g := by
 obtain ⟨h1, h2, h3, h4, h5, h6⟩ := h
 obtain ⟨a1, a2, a3, a4⟩ := h3
 obtain ⟨b1, b2, b3, b4⟩ := h4
 exact ⟨⟨by omega, by omega, a3, a4⟩, ⟨by omega, by omega, b3, b4⟩⟩
noncomputable def Ajx (n : Int) (f g : SOp) : Bool × Bool := if Mt n f g then (decide (Yf n.toNat f g f.Arity.toNat g.Arity.toNat), true) else (false, false)
theorem Alv (n : Int) (f g : SOp) : Ajx n g f = Ajx n f g := by
 unfold Ajx
 by_cases h : Mt n f g
 ·rw [if_pos h, if_pos h.symm]
  congr 1
  rw [decide_eq_decide]
  exact ⟨Adq, Adq⟩
 ·rw [if_neg h, if_neg (fun hh => h hh.symm)]
theorem Rq (n : Int) {f g : SOp} (hf : f.Table.length ≤ 1048576) (hg : g.Table.length ≤ 1048576) : Cj n f g = some (Ajx n f g) ∧ Da n f g = some (Ajx n f g) := by
 have hL := Bq
 unfold Ajx
 by_cases h1 : 1 ≤ n
 ·by_cases h4 : n ≤ 4
  ·obtain ⟨m, hm⟩ := Int.eq_ofNat_of_zero_le (show 0 ≤ n by omega)
   subst hm
   have i1 := Ww (n := m) (by omega) (f := f) (by omega)
   have i2 := Ww (n := m) (by omega) (f := g) (by omega)
   have j1 := Zz (n := m) (by omega) (by omega) (f := f) (by omega)
   have j2 := Zz (n := m) (by omega) (by omega) (f := g) (by omega)
   have l1 := Og (m : Int) 1 4
   rw [decide_eq_true (show (1 : Int) ≤ (m : Int) ∧ (m : Int) ≤ 4 from ⟨h1, h4⟩)] at l1
   unfold Cj Da
   rw [if_neg (by omega), if_neg (by omega), i1, l1]
   simp only [Option.bind_some, if_true]
   rw [j1]
   simp only [Option.bind_some]
   by_cases o1 : Y1 m f
   ·rw [decide_eq_true o1]
    simp only [if_true]
    rw [i2, j2]
    simp only [Option.bind_some]
    by_cases o2 : Y1 m g
    ·rw [decide_eq_true o2]
     simp only [if_true]
     by_cases a1 : f.Arity > 2
     ·rw [if_pos a1, if_pos a1, if_neg (fun hh : Mt (m : Int) f g => by have := hh.2.2.2.2.1; omega)]
      exact ⟨rfl, rfl⟩
     ·rw [if_neg a1, if_neg a1]
      by_cases a2 : g.Arity > 2
      ·rw [if_pos a2, if_pos a2, if_neg (fun hh : Mt (m : Int) f g => by have := hh.2.2.2.2.2; omega)]
       exact ⟨rfl, rfl⟩
      ·rw [if_neg a2, if_neg a2]
       have hC : Mt (m : Int) f g := ⟨h1, h4, by rw [Int.toNat_natCast]; exact o1, by rw [Int.toNat_natCast]; exact o2, by omega, by omega⟩
       rw [if_pos hC]
       obtain ⟨of, og⟩ := hC.ops
       rw [Int.toNat_natCast] at of og
       have hrs := Aoj of.le og.le
       have hpw := Ary (n := m) (by omega) (by omega) hrs
       have hpk := hpw _ (Nat.le_refl _)
       have ers : f.Arity * g.Arity = ((f.Arity.toNat * g.Arity.toNat : Nat) : Int) := by rw [of.ar, og.ar]; push_cast; simp
       have e1 := Gu (body := Bw (m : Int) f g) (fun k => (k : Int)) (m ^ (f.Arity.toNat * g.Arity.toNat)) (Ae7 m f g f.Arity.toNat g.Arity.toNat) () () (fun k hk hb => by rw [Apg (by omega) (by omega) of og hk, if_neg hb]) (fun k hk hb => by rw [Apg (by omega) (by omega) of og hk, if_pos hb]) (by
        unfold Bw
        rw [ers, Ae (by unfold InI; omega), Sg 256 (by omega) hpw (by omega)]
        simp only [Option.bind_some]
        rw [if_neg (by omega)]) 0 (Nat.zero_le _)
       have e2 := Gu (body := Bo (m : Int) f g) (fun k => (k : Int)) (m ^ (f.Arity.toNat * g.Arity.toNat)) (Ae7 m f g f.Arity.toNat g.Arity.toNat) () () (fun k hk hb => by rw [Alb (by omega) (by omega) of og hk, if_neg hb]) (fun k hk hb => by rw [Alb (by omega) (by omega) of og hk, if_pos hb]) (by
        unfold Bo
        rw [ers, Ae (by unfold InI; omega), Ag6 256 (by omega) hpw (by omega)]
        simp only [Option.bind_some]
        rw [if_neg (by omega)]) 0 (Nat.zero_le _)
       have hiff := Aoz (n := m) (r := f.Arity.toNat) (s := g.Arity.toNat) (f := f) (g := g) (by omega)
       have e1' : Ap (Bw (m : Int) f g) 0 = _ := e1
       have e2' : Ap (Bo (m : Int) f g) 0 = _ := e2
       unfold Fu
       rw [Int.toNat_natCast]
       simp only [Option.bind_some]
       by_cases hh : ∃ k, 0 ≤ k ∧ k < m ^ (f.Arity.toNat * g.Arity.toNat) ∧ Ae7 m f g f.Arity.toNat g.Arity.toNat k
       ·rw [e1', e2', if_pos hh, decide_eq_false (fun hc => hiff.1 hc hh)]
        exact ⟨rfl, rfl⟩
       ·rw [e1', e2', if_neg hh, decide_eq_true (hiff.2 hh)]
        exact ⟨rfl, rfl⟩
    ·rw [decide_eq_false o2, if_neg (fun hh : Mt (m : Int) f g => o2 (by have := hh.2.2.2.1; rwa [Int.toNat_natCast] at this))]
     exact ⟨rfl, rfl⟩
   ·rw [decide_eq_false o1, if_neg (fun hh : Mt (m : Int) f g => o1 (by have := hh.2.2.1; rwa [Int.toNat_natCast] at this))]
    exact ⟨rfl, rfl⟩
  ·unfold Cj Da
   have l1 := Og n 1 4
   rw [decide_eq_false (show ¬ (1 ≤ n ∧ n ≤ 4) from fun hh => h4 hh.2)] at l1
   rw [if_neg (by omega), if_pos (by omega), l1, if_neg (fun hh : Mt n f g => h4 hh.2.1)]
   exact ⟨rfl, rfl⟩
 ·unfold Cj Da
  have l1 := Og n 1 4
  rw [decide_eq_false (show ¬ (1 ≤ n ∧ n ≤ 4) from fun hh => h1 hh.1)] at l1
  rw [if_pos (by omega), l1, if_neg (fun hh : Mt n f g => h1 hh.1)]
  exact ⟨rfl, rfl⟩
end Go.Proofs.Ytcpgnfohmeineaa.Ax
namespace Go.Proofs.Ytcpgnfohmeineaa.Ax
open Go Classical
theorem Aq0 (A xs : List Int) (j : Nat) (hA : A.length = j) (hj : j < xs.length) (v : Int) : (A ++ xs.drop j).set j v = (A ++ [v]) ++ xs.drop (j + 1) := by
 rw [List.set_append, if_neg (by omega), hA, Nat.sub_self, List.drop_eq_getElem_cons hj, List.set_cons_zero]
 simp
theorem Aja (xs ys : List Int) (hx : xs.length ≤ 1048576) : ∃ c, Dy xs ys = some c := by
 unfold Dy
 obtain ⟨t, e, _⟩ := Iu (body := Cw xs ys) (fun s => ∃ i : Nat, s = (i : Int) ∧ i ≤ xs.length) (fun s => xs.length - s.toNat) (fun _ => True) (by
  rintro s ⟨i, rfl, h1⟩
  unfold Cw
  by_cases h2 : i < xs.length ∧ i < ys.length
  ·rw [if_pos (by omega), if_pos (by omega)]
   simp only [Option.bind_some]
   rw [Ae (by omega), Ae (by omega)]
   split
   ·rw [Ae (by omega), Ae (by omega)]
    split
    ·exact .inr ⟨_, rfl, trivial⟩
    ·exact .inr ⟨_, rfl, trivial⟩
   ·rw [Ae (by unfold InI; omega)]
    exact .inl ⟨_, rfl, ⟨i + 1, rfl, by omega⟩, by omega⟩
  ·right
   by_cases h3 : i < xs.length
   ·rw [if_pos (by omega), if_neg (by omega)]; exact ⟨_, rfl, trivial⟩
   ·rw [if_neg (by omega)]; exact ⟨_, rfl, trivial⟩) (s := (0 : Int)) ⟨0, rfl, Nat.zero_le _⟩
 rw [e]
 cases t with
 | inl q => exact ⟨_, rfl⟩
 | inr u =>
   simp only [Option.bind_some]
   split
   ·exact ⟨_, rfl⟩
   ·split
    ·exact ⟨_, rfl⟩
    ·exact ⟨_, rfl⟩
theorem An8 (n : Int) {r : SRelation} (hl : r.Tuples.length ≤ 1048576) (hr : ∀ t ∈ r.Tuples, t.length ≤ 1048576) : ∃ b, Em n r = some b := by
 have hL := Bq
 unfold Em
 have fin : ∃ b, ((Ap (Cd n r) 0).bind fun t => match t with | (.inl _) => (some false) | (.inr _) => (some true)) = some b := by
  obtain ⟨t, e, _⟩ := Iu (body := Cd n r) (fun s => ∃ i : Nat, s = (i : Int) ∧ i ≤ r.Tuples.length) (fun s => r.Tuples.length - s.toNat) (fun _ => True) (by
   rintro s ⟨i, rfl, h1⟩
   unfold Cd
   by_cases h2 : i < r.Tuples.length
   ·have ht := hr _ (Bh h2)
    rw [if_pos (by omega), Ae (by omega), Int.toNat_natCast]
    split
    ·exact .inr ⟨_, rfl, trivial⟩
    ·rw [Abm _ _ (by omega)]
     simp only [Option.bind_some]
     split
     ·split
      ·rw [Ae (by unfold InI; omega), Ae (by omega)]
       obtain ⟨c, e⟩ := Aja (nth r.Tuples ((i : Int) - 1).toNat) (nth r.Tuples i) (hr _ (Bh (by omega)))
       rw [e]
       simp only [Option.bind_some]
       split
       ·exact .inr ⟨_, rfl, trivial⟩
       ·rw [Ae (by unfold InI; omega)]
        exact .inl ⟨_, rfl, ⟨i + 1, rfl, by omega⟩, by omega⟩
      ·rw [Ae (by unfold InI; omega)]
       exact .inl ⟨_, rfl, ⟨i + 1, rfl, by omega⟩, by omega⟩
     ·exact .inr ⟨_, rfl, trivial⟩
   ·rw [if_neg (by omega)]
    exact .inr ⟨_, rfl, trivial⟩) (s := (0 : Int)) ⟨0, rfl, Nat.zero_le _⟩
  rw [e]
  cases t <;> exact ⟨_, rfl⟩
 by_cases h1 : r.Arity < 1
 ·rw [if_pos h1]; exact ⟨_, rfl⟩
 ·rw [if_neg h1]
  by_cases h2 : r.Arity > 3
  ·rw [if_pos h2]; exact ⟨_, rfl⟩
  ·rw [if_neg h2]; exact fin
def Bs (n s : Nat) (g : SOp) : List (List Int) := (List.range (n ^ s)).map fun i => Bz n s i ++ [nth g.Table i]
theorem Jd (n s : Nat) (g : SOp) : (Bs n s g).length = n ^ s := by simp [Bs]
theorem Mh {n s : Nat} {g : SOp} {i : Nat} (hi : i < n ^ s) : nth (Bs n s g) i = Bz n s i ++ [nth g.Table i] := by
 rw [Eg (by rw [Jd]; exact hi)]; simp [Bs]
theorem Tl {n s : Nat} {g : SOp} {t : List Int} (ht : t ∈ Bs n s g) : t.length = s + 1 := by
 obtain ⟨i, _, rfl⟩ := List.mem_map.1 ht
 simp [B4]
section
variable {n r s : Nat} {f g : SOp}
theorem Aoo (hn : n ≤ 3) (hs : s ≤ 2) : n ^ s ≤ 9 := Nat.le_trans (Nat.pow_le_pow_left hn s) (Nat.le_trans (Nat.pow_le_pow_right (by omega) hs) (by decide))
theorem Amh (h1 : 1 ≤ n) (hn : n ≤ 3) (hg : OpR n s g) (hok : Y1 n g) : Fw n g = some ({ Arity := (s : Int) + 1, Tuples := Bs n s g }, true) ∧ F8 n g = some ({ Arity := (s : Int) + 1, Tuples := Bs n s g }, true) := by
 have hL := Bq
 have hp := Aoo hn hg.le
 have hlen := hg.len
 have hs2 := hg.le
 have hgl := Jd n s g
 unfold Fw F8 Fo Jz
 rw [if_pos (show (n : Int) ≥ 1 by omega), decide_eq_true (show (n : Int) ≤ 8 by omega), Ww (by omega) (by omega), decide_eq_true hok, Og, decide_eq_true (show (1 : Int) ≤ (n : Int) ∧ (n : Int) ≤ 8 by omega), Zz h1 (by omega) (by omega), decide_eq_true hok]
 simp only [Option.bind_some, if_true]
 rw [if_neg (by rw [hg.ar]; omega), if_neg (by rw [hg.ar]; omega)]
 simp only [Option.bind_some]
 rw [hg.ar, Ae (by unfold InI; omega), Ae (by unfold InI; omega)]
 have k1 := Cf (body := Cy n g) (fun i => ((i : Int), ({ Arity := (s : Int) + 1, Tuples := (Bs n s g).take i } : SRelation))) (n ^ s) ({ Arity := (s : Int) + 1, Tuples := Bs n s g } : SRelation) (fun i hi => by
  have hal := B4 n s i
  unfold Cy
  dsimp only
  rw [if_pos (by omega), Ae (by omega), hg.ar, Aeb (by omega) (by omega) (by omega) (by omega), Int.toNat_natCast]
  simp only [Option.bind_some]
  rw [Ae (by simp; omega), Ae (by simp; omega), Ae (by unfold InI; omega), Fy (by omega), Mh hi]
  rfl) (by
  unfold Cy
  dsimp only
  rw [if_neg (by omega), List.take_of_length_le (by omega)])
 have k2 := Cf (body := Cv n g) (fun i => ((i : Int), ({ Arity := (s : Int) + 1, Tuples := (Bs n s g).take i } : SRelation))) (n ^ s) ({ Arity := (s : Int) + 1, Tuples := Bs n s g } : SRelation) (fun i hi => by
  have hal := B4 n s i
  unfold Cv
  dsimp only
  rw [if_pos (by omega), hg.ar, Si (by omega) (by omega) (by omega) (by omega)]
  simp only [Option.bind_some]
  rw [Ae (by omega), Int.toNat_natCast, Ae (by simp; omega), Ae (by simp; omega), Ae (by unfold InI; omega), Fy (by omega), Mh hi]
  rfl) (by
  unfold Cv
  dsimp only
  rw [if_neg (by omega), List.take_of_length_le (by omega)])
 have k1' : Ap (Cy n g) (0, { Arity := (s : Int) + 1, Tuples := Bl (List Int) }) = _ := k1
 have k2' : Ap (Cv n g) (0, { Arity := (s : Int) + 1, Tuples := Bl (List Int) }) = _ := k2
 rw [k1', k2']
 exact ⟨rfl, rfl⟩
def Ff (n s : Nat) (f g : SOp) (r k : Nat) : List Int := (List.range (s + 1)).map fun j => nth f.Table (hT n r fun i => nth (nth (Bs n s g) (nth (Bz (n ^ s) r k) i).toNat) j).toNat
theorem Asy {R : SRelation} {S : List (ByteArray × Bool)} {N a : Int} {b : List Int} {M : Nat} (hM : R.Tuples.length = M) (h0 : 0 < M) (h9 : M ≤ 9) : ∀ (r k : Nat) (xs : List Int), r ≤ xs.length → xs.length ≤ 1000 → k ≤ 1048576 →
  Ap (B3 N f R S a b) ((r : Int) - 1, (k : Int), xs) = some (Bz M r k ++ xs.drop r) := by
 intro r
 induction r with
 | zero =>
   intro k xs _ _ _
   refine Jo ?_
   unfold B3
   dsimp only
   rw [if_neg (by omega)]
   simp [Bz]
 | succ r ih =>
   intro k xs hr hl hk
   have c1 : (k : Int).tdiv (M : Int) = ((k / M : Nat) : Int) := rfl
   have c2 : (k : Int).tmod (M : Int) = ((k % M : Nat) : Int) := rfl
   have hd : k / M ≤ k := Nat.div_le_self k M
   have step : B3 N f R S a b (((r + 1 : Nat) : Int) - 1, (k : Int), xs) = some (.inl ((r : Int) - 1, ((k / M : Nat) : Int), xs.set r ((k % M : Nat) : Int))) := by
    unfold B3
    dsimp only
    rw [hM, show (((r + 1 : Nat) : Int) - 1) = (r : Int) by omega, c1, c2]
    generalize k / M = kd at hd
    rw [if_pos (by omega), Ae (by omega), Ae (by omega), Ae (by unfold InI; omega), Ae (by unfold InI; omega), Int.toNat_natCast]
   rw [Mn step, ih _ _ (by rw [List.length_set]; omega) (by rw [List.length_set]; exact hl) (by omega)]
   congr 1
   simp only [Bz]
   rw [List.append_assoc]
   congr 1
   have e : (xs.set r ((k % M : Nat) : Int)).drop r = ((k % M : Nat) : Int) :: xs.drop (r + 1) := by
    refine List.ext_getElem (by simp; omega) fun i h1 h2 => ?_
    rw [List.getElem_drop, List.getElem_set]
    cases i with
    | zero => simp
    | succ i =>
      rw [if_neg (by omega), List.getElem_cons_succ, List.getElem_drop]
      congr 1; omega
   rw [e]; rfl
def chX (n s r k : Nat) (i j : Nat) : Int := nth (Bz n s (nth (Bz (n ^ s) r k) i).toNat) j
theorem Aki (h1 : 1 ≤ n) {k i : Nat} (hi : i < r) : ∃ a : Nat, nth (Bz (n ^ s) r k) i = (a : Int) ∧ a < n ^ s := by
 have hp : 0 < n ^ s := Nat.pow_pos (by omega)
 have := Pq hp r k _ (Bh (show i < (Bz (n ^ s) r k).length by rw [B4]; exact hi))
 exact ⟨(nth (Bz (n ^ s) r k) i).toNat, by omega, by omega⟩
theorem Zp (h1 : 1 ≤ n) (k : Nat) : inM n r s (chX n s r k) := fun i _ j hj => Pq (by omega) _ _ _ (Bh (by rw [B4]; exact hj))
theorem Al7 {xs : List Int} {y : Int} {j : Nat} (hj : j < xs.length) : nth (xs ++ [y]) j = nth xs j := by
 rw [Eg (by simp; omega), Eg hj, List.getElem_append_left hj]
theorem Amx {xs : List Int} {y : Int} {j : Nat} (hj : j = xs.length) : nth (xs ++ [y]) j = y := by
 subst hj
 rw [Eg (by simp)]; simp
theorem Aj4 (h1 : 1 ≤ n) {k i j : Nat} (hi : i < r) (hj : j < s) : nth (nth (Bs n s g) (nth (Bz (n ^ s) r k) i).toNat) j = chX n s r k i j := by
 obtain ⟨a, e, ha⟩ := Aki (s := s) h1 (k := k) hi
 unfold chX
 rw [e, Int.toNat_natCast, Mh ha, Al7 (by rw [B4]; exact hj)]
theorem Q4 {xs : List Int} {m : Nat} (h : xs.length = m) : (List.range m).map (fun j => nth xs j) = xs := by
 refine List.ext_getElem (by simp [h]) fun i h1 h2 => ?_
 simp only [List.getElem_map, List.getElem_range]
 rw [Eg h2]
theorem Aj7 (h1 : 1 ≤ n) {k i : Nat} (hi : i < r) : nth (nth (Bs n s g) (nth (Bz (n ^ s) r k) i).toNat) s = nth g.Table (hT n s fun j => chX n s r k i j).toNat := by
 obtain ⟨a, e, ha⟩ := Aki (s := s) h1 (k := k) hi
 have e2 : (hT n s fun j => chX n s r k i j) = (a : Int) := by
  unfold hT chX
  rw [e, Int.toNat_natCast, Q4 (B4 n s a), Pv (by omega) s a ha]
 rw [e2, e, Int.toNat_natCast, Mh ha, Amx (by rw [B4])]
theorem Apk (h1 : 1 ≤ n) {k j : Nat} (hj : j < s) : nth (Ff n s f g r k) j = nth f.Table (hT n r fun i => chX n s r k i j).toNat := by
 unfold Ff
 rw [Eg (by simp; omega)]
 simp only [List.getElem_map, List.getElem_range]
 rw [Mb (z := fun i => chX n s r k i j) fun i hi => Aj4 h1 hi hj]
theorem Aqw (h1 : 1 ≤ n) {k : Nat} : nth (Ff n s f g r k) s = Rv n f g r s (chX n s r k) := by
 unfold Ff Rv
 rw [Eg (by simp)]
 simp only [List.getElem_map, List.getElem_range]
 rw [Mb (z := fun i => nth g.Table (hT n s fun j => chX n s r k i j).toNat) fun i hi => Aj7 h1 hi]
theorem Sh (k : Nat) : (Ff n s f g r k).length = s + 1 := by simp [Ff]
theorem Alk (h1 : 1 ≤ n) (hn : n ≤ 3) (hf : OpR n r f) (hs : s ≤ 2) (k : Nat) : Ff n s f g r k ∈ Bs n s g ↔ Rv n f g r s (chX n s r k) = Rv n g f s r fun j i => chX n s r k i j := by
 have hX := Zp (r := r) (s := s) h1 k
 have hin : ∀ j, j < s → 0 ≤ nth f.Table (hT n r fun i => chX n s r k i j).toNat ∧ nth f.Table (hT n r fun i => chX n s r k i j).toNat < n := fun j hj => (hf.at (by omega) (fun i hi => hX i hi j hj)).2
 have hb := Gq (n := n) (r := s) (by omega) (by omega) hin
 obtain ⟨b, b1, b2, _⟩ := hb
 have hsplit : Ff n s f g r k = ((List.range s).map fun j => nth f.Table (hT n r fun i => chX n s r k i j).toNat) ++ [Rv n f g r s (chX n s r k)] := by
  refine List.ext_getElem (by simp [Ff]) fun j g1 g2 => ?_
  rw [Sh] at g1
  by_cases hj : j < s
  ·rw [List.getElem_append_left (by simpa using hj)]
   simp only [List.getElem_map, List.getElem_range]
   rw [← Apk (f := f) (g := g) (r := r) (k := k) h1 hj, Eg (by rw [Sh]; omega)]
  ·have : j = s := by omega
   subst this
   rw [List.getElem_append_right (by simp)]
   simp only [List.length_map, List.length_range, Nat.sub_self, List.getElem_cons_zero]
   rw [← Aqw (f := f) (g := g) (r := r) (k := k) h1, Eg (by rw [Sh]; omega)]
 have hargs : Bz n s b = (List.range s).map fun j => nth f.Table (hT n r fun i => chX n s r k i j).toNat := by
  have := Ow (by omega) s ((List.range s).map fun j => nth f.Table (hT n r fun i => chX n s r k i j).toNat) (by simp) (Aic hin)
  have b1' : M2 n ((List.range s).map fun j => nth f.Table (hT n r fun i => chX n s r k i j).toNat) = (b : Int) := b1
  rw [b1', Int.toNat_natCast] at this
  exact this
 have hside : (Rv n g f s r fun j i => chX n s r k i j) = nth g.Table b := by
  unfold Rv
  rw [b1, Int.toNat_natCast]
 rw [hside, hsplit]
 constructor
 ·intro hm
  obtain ⟨c, hc, e⟩ := List.mem_map.1 hm
  have hc := List.mem_range.1 hc
  have e' := List.append_inj e (by simp [B4])
  rw [← hargs] at e'
  have hcb : c = b := by
   have h2 := Pv (n := n) (by omega) s c hc
   rw [e'.1, Pv (by omega) s b b2] at h2
   omega
  have := e'.2
  simp only [List.cons.injEq, and_true] at this
  rw [← this, hcb]
 ·intro e
  rw [e, ← hargs]
  exact List.mem_map.2 ⟨b, List.mem_range.2 b2, rfl⟩
theorem Ams (h1 : 1 ≤ n) (hn : n ≤ 3) (hf : OpR n r f) (hs : s ≤ 2) : (∀ k, k < (n ^ s) ^ r → Ff n s f g r k ∈ Bs n s g) ↔ Yf n f g r s := by
 constructor
 ·intro h x hx
  have hp : 0 < n ^ s := Nat.pow_pos (by omega)
  have ha : ∀ i, i < r → ∃ a : Nat, hT n s (fun j => x i j) = (a : Int) ∧ a < n ^ s := fun i hi => by
   obtain ⟨a, a1, a2, _⟩ := Gq (n := n) (r := s) (by omega) (by omega) (hx i hi)
   exact ⟨a, a1, a2⟩
  have hin : Dh ((List.range r).map fun i => hT n s fun j => x i j) ((n ^ s : Nat) : Int) := by
   intro v hv
   obtain ⟨i, hi, rfl⟩ := List.mem_map.1 hv
   obtain ⟨a, a1, a2⟩ := ha i (List.mem_range.1 hi)
   rw [a1]; omega
  obtain ⟨k, k1, k2⟩ := Ul (m := n ^ s) r _ (by simp) hin
  have hk := Ow hp r _ (by simp) hin
  rw [k1, Int.toNat_natCast] at hk
  have hm := (Alk h1 hn hf hs k).1 (h k k2)
  have hxe : ∀ i, i < r → ∀ j, j < s → chX n s r k i j = x i j := by
   intro i hi j hj
   obtain ⟨a, a1, a2⟩ := ha i hi
   have e2 := Ow (by omega) s ((List.range s).map fun j => x i j) (by simp) (Aic (hx i hi))
   unfold chX
   have e3 : nth ((List.range r).map fun i => hT n s fun j => x i j) i = hT n s fun j => x i j := by
    rw [Eg (by simpa using hi)]; simp
   rw [hk, e3]
   unfold hT
   rw [e2, Eg (by simpa using hj)]
   simp
  rw [Py (z := x) hxe, Py (f := g) (g := f) (z := fun j i => x i j) (fun j hj i hi => hxe i hi j hj)] at hm
  exact hm
 ·intro h k _
  exact (Alk h1 hn hf hs k).2 (h _ (Zp h1 k))
theorem As2 (h1 : 1 ≤ n) (hn : n ≤ 3) (hf : OpR n r f) (hg : OpR n s g) {S : List (ByteArray × Bool)} {a : Int} {k : Nat} {xs : List Int} (hx : xs.length = s + 1) :
  Ap (Bn n f { Arity := (s : Int) + 1, Tuples := Bs n s g } S a xs (Bz (n ^ s) r k)) (0, xs) = some (Ff n s f g r k) := by
 have hr2 := hf.le
 have hs2 := hg.le
 have hX := Zp (r := r) (s := s) h1 k
 have hal := B4 (n ^ s) r k
 have hgl := Jd n s g
 have hrl := Sh (n := n) (s := s) (f := f) (g := g) (r := r) k
 have key := Cf (body := Bn n f { Arity := (s : Int) + 1, Tuples := Bs n s g } S a xs (Bz (n ^ s) r k)) (fun j => ((j : Int), (Ff n s f g r k).take j ++ xs.drop j)) (s + 1) (Ff n s f g r k) (fun j hj => by
  have hrow : ∀ i, i < r → (∃ b : Nat, nth (Bz (n ^ s) r k) i = (b : Int) ∧ b < n ^ s) ∧ (nth (Bs n s g) (nth (Bz (n ^ s) r k) i).toNat).length = s + 1 ∧ 0 ≤ nth (nth (Bs n s g) (nth (Bz (n ^ s) r k) i).toNat) j ∧ nth (nth (Bs n s g) (nth (Bz (n ^ s) r k) i).toNat) j < n := by
   intro i hi
   obtain ⟨b, e, hb⟩ := Aki (s := s) h1 (k := k) hi
   refine ⟨⟨b, e, hb⟩, by rw [e, Int.toNat_natCast, Mh hb]; simp [B4], ?_⟩
   by_cases hjs : j < s
   ·rw [Aj4 h1 hi hjs]; exact hX i hi j hjs
   ·have : j = s := by omega
    subst this
    rw [Aj7 h1 hi]; exact (hg.at (by omega) (hX i hi)).2
  obtain ⟨⟨d, d1, d2, _⟩, d4⟩ := hf.at (by omega) (fun i hi => (hrow i hi).2.2)
  have l2 : ∀ b, Ap (Ch n f { Arity := (s : Int) + 1, Tuples := Bs n s g } S a xs (Bz (n ^ s) r k) (j : Int) b) (0, 0) = some (hT n r fun i => nth (nth (Bs n s g) (nth (Bz (n ^ s) r k) i).toNat) j) := fun b => by
   refine Ns n r _ (fun i hi => ?_) fun q => by unfold Ch; dsimp only; rw [if_neg (by omega)]
   obtain ⟨⟨b, b1, b2⟩, b3, b4⟩ := hrow i hi
   obtain ⟨c, c1, _, c3⟩ := Gq (n := n) (r := i) (y := fun i => nth (nth (Bs n s g) (nth (Bz (n ^ s) r k) i).toNat) j) (by omega) (by omega) (fun i' hi' => (hrow i' (by omega)).2.2)
   have q5 : (c : Int) * (n : Int) = ((c * n : Nat) : Int) := by push_cast; rfl
   have q6 : c * n ≤ 512 * 3 := Nat.mul_le_mul (by omega) hn
   unfold Ch
   dsimp only
   rw [if_pos (by omega), Ae (by omega), Int.toNat_natCast, c1, q5, Ae (by unfold InI; omega), Ae (by omega), Int.toNat_natCast, Ae (by omega), Ae (by unfold InI; omega), Ae (by unfold InI; omega)]
   rfl
  unfold Bn
  dsimp only
  rw [if_pos (by omega), l2]
  simp only [Option.bind_some]
  rw [d1] at d4
  rw [d1, Ae (by omega), Ae (by simp; omega), Ae (by unfold InI; omega), Int.toNat_natCast, Aq0 _ _ _ (by simp; omega) (by omega), Fy (by omega)]
  have e : nth (Ff n s f g r k) j = nth f.Table ((d : Int)).toNat := by
   unfold Ff
   rw [Eg (by simp; omega)]
   simp only [List.getElem_map, List.getElem_range]
   rw [d1]
  rw [e]
  rfl) (by
  unfold Bn
  dsimp only
  rw [if_neg (by omega), List.take_of_length_le (by omega), List.drop_of_length_le (by omega), List.append_nil])
 have key' : Ap (Bn n f { Arity := (s : Int) + 1, Tuples := Bs n s g } S a xs (Bz (n ^ s) r k)) (0, xs) = some (Ff n s f g r k) := by simpa using key
 exact key'
theorem Aex (h1 : 1 ≤ n) (hn : n ≤ 3) (hf : OpR n r f) (hg : OpR n s g) : ∃ a b, En n f { Arity := (s : Int) + 1, Tuples := Bs n s g } = some (a, b, decide (¬ Yf n f g r s)) := by
 have hL := Bq
 have hr2 := hf.le
 have hs2 := hg.le
 have hp9 := Aoo hn hs2
 have hp0 : 0 < n ^ s := Nat.pow_pos (by omega)
 have hgl := Jd n s g
 have hp81 : ∀ i, i ≤ r → (n ^ s) ^ i ≤ 81 := fun i hi => Nat.le_trans (Nat.pow_le_pow_left hp9 i) (Nat.le_trans (Nat.pow_le_pow_right (by omega) (show i ≤ 2 by omega)) (by decide))
 have hpr := hp81 r (Nat.le_refl _)
 obtain ⟨S, e, hS⟩ := Ajh (r := { Arity := (s : Int) + 1, Tuples := Bs n s g }) (by rw [hgl]; omega) (fun t ht => by rw [Tl ht]; omega)
 unfold En
 rw [e]
 simp only [Option.bind_some]
 rw [hf.ar, Ae (by omega), Ae (by omega)]
 have body : ∀ k, k < (n ^ s) ^ r → ∀ X Y : List Int, X.length = s + 1 → Y.length = r → Bi n f { Arity := (s : Int) + 1, Tuples := Bs n s g } S ((k : Int), X, Y) =
   if Ff n s f g r k ∈ Bs n s g then some (.inl (((k + 1 : Nat) : Int), Ff n s f g r k, Bz (n ^ s) r k)) else some (.inr (.inl (Ff n s f g r k, Bz (n ^ s) r k))) := by
  intro k hk X Y hX hY
  have hr1 : ∀ v ∈ Ff n s f g r k, 0 ≤ v ∧ v < 65536 := by
   intro v hv
   obtain ⟨j, hj, rfl⟩ := List.mem_map.1 hv
   have hj := List.mem_range.1 hj
   have : ∀ i, i < r → 0 ≤ nth (nth (Bs n s g) (nth (Bz (n ^ s) r k) i).toNat) j ∧ nth (nth (Bs n s g) (nth (Bz (n ^ s) r k) i).toNat) j < n := fun i hi => by
    by_cases hjs : j < s
    ·rw [Aj4 h1 hi hjs]; exact Zp h1 k i hi j hjs
    ·have : j = s := by omega
     subst this
     rw [Aj7 h1 hi]; exact (hg.at (by omega) (Zp h1 k i hi)).2
   have := (hf.at (by omega) this).2
   omega
  have hr2 : ∀ t ∈ Bs n s g, ∀ v ∈ t, 0 ≤ v ∧ v < 65536 := by
   intro t ht v hv
   obtain ⟨b, hb, rfl⟩ := List.mem_map.1 ht
   have hb := List.mem_range.1 hb
   rcases List.mem_append.1 hv with h2 | h2
   ·have := Pq (n := n) (by omega) s b v h2; omega
   ·rw [List.mem_singleton.1 h2]
    have := hg.fin _ (Bh (show b < g.Table.length by rw [hg.len]; exact hb))
    omega
  unfold Bi
  dsimp only
  rw [hgl, hf.ar, Sg 81 (by omega) hp81 (by omega)]
  simp only [Option.bind_some]
  rw [if_pos (by omega), Ae (by unfold InI; omega), Asy (M := n ^ s) hgl hp0 hp9 r k Y (by omega) (by omega) (by omega)]
  simp only [Option.bind_some]
  rw [List.drop_of_length_le (by omega), List.append_nil, As2 h1 hn hf hg hX]
  simp only [Option.bind_some]
  rw [Ak0 (by rw [Sh]; omega)]
  simp only [Option.bind_some]
  rw [hS]
  by_cases hm : Ff n s f g r k ∈ Bs n s g
  ·rw [decide_eq_true ⟨_, hm, rfl⟩, if_pos rfl, if_pos hm, Ae (by unfold InI; omega)]
   rfl
  ·rw [decide_eq_false (by
    rintro ⟨t, ht, he⟩
    rw [An3 (hr2 t ht) hr1 he] at ht
    exact hm ht), if_neg Bool.false_ne_true, if_neg hm]
 obtain ⟨X, hX0, hXs⟩ : ∃ X : Nat → List Int, X 0 = List.replicate (s + 1) 0 ∧ ∀ k, X (k + 1) = Ff n s f g r k := ⟨fun k => match k with | 0 => List.replicate (s + 1) 0 | k + 1 => Ff n s f g r k, rfl, fun _ => rfl⟩
 obtain ⟨Y, hY0, hYs⟩ : ∃ Y : Nat → List Int, Y 0 = List.replicate r 0 ∧ ∀ k, Y (k + 1) = Bz (n ^ s) r k := ⟨fun k => match k with | 0 => List.replicate r 0 | k + 1 => Bz (n ^ s) r k, rfl, fun _ => rfl⟩
 have hXl : ∀ k, (X k).length = s + 1 := fun k => by
  cases k with
  | zero => rw [hX0]; simp
  | succ k => rw [hXs]; exact Sh k
 have hYl : ∀ k, (Y k).length = r := fun k => by
  cases k with
  | zero => rw [hY0]; simp
  | succ k => rw [hYs]; exact B4 _ _ _
 have e0 : (((s : Int) + 1).toNat) = s + 1 := by omega
 have hpick := Wz (body := Bi n f { Arity := (s : Int) + 1, Tuples := Bs n s g } S) (fun k => ((k : Int), X k, Y k)) ((n ^ s) ^ r) (fun k => Ff n s f g r k ∉ Bs n s g) (fun k => .inl (Ff n s f g r k, Bz (n ^ s) r k)) (.inr ()) (fun k hk hh => by
   rw [body k hk _ _ (hXl k) (hYl k), if_pos (Classical.not_not.1 hh), hXs, hYs]) (fun k hk hh => by
   rw [body k hk _ _ (hXl k) (hYl k), if_neg hh]) (by
   unfold Bi
   dsimp only
   rw [hgl, hf.ar, Sg 81 (by omega) hp81 (by omega)]
   simp only [Option.bind_some]
   rw [if_neg (by omega)])
 rw [hX0, hY0] at hpick
 have hki := Ams (g := g) h1 hn hf hs2
 rw [e0, Int.toNat_natCast]
 rcases hpick with ⟨k, hk, hh, _, e2⟩ | ⟨hno, e2⟩
 ·have e2' : Ap (Bi n f { Arity := (s : Int) + 1, Tuples := Bs n s g } S) (0, List.replicate (s + 1) 0, List.replicate r 0) = _ := e2
  rw [e2', decide_eq_true (show ¬ Yf n f g r s from fun hc => hh (hki.2 hc k hk))]
  exact ⟨_, _, rfl⟩
 ·have e2' : Ap (Bi n f { Arity := (s : Int) + 1, Tuples := Bs n s g } S) (0, List.replicate (s + 1) 0, List.replicate r 0) = _ := e2
  rw [e2', decide_eq_false (show ¬ ¬ Yf n f g r s from fun hc => hc (hki.1 fun k hk => Classical.not_not.1 (hno k hk)))]
  exact ⟨_, _, rfl⟩
theorem Aj5 (h1 : 1 ≤ n) (hn : n ≤ 3) (hf : OpR n r f) (hfo : Y1 n f) (hg : OpR n s g) : ∃ q, Fi n f { Arity := (s : Int) + 1, Tuples := Bs n s g } = some q ∧ (q.2 = true → q.1 = decide (Yf n f g r s)) := by
 have hL := Bq
 have hr2 := hf.le
 have hs2 := hg.le
 have hp9 := Aoo hn hs2
 have hgl := Jd n s g
 have hp81 : ∀ i, i ≤ r → (n ^ s) ^ i ≤ 81 := fun i hi => Nat.le_trans (Nat.pow_le_pow_left hp9 i) (Nat.le_trans (Nat.pow_le_pow_right (by omega) (show i ≤ 2 by omega)) (by decide))
 have hpr := hp81 r (Nat.le_refl _)
 have hfp := Aoo (s := r) hn hr2
 have hfl := hf.len
 obtain ⟨b, e⟩ := An8 (n : Int) (r := { Arity := (s : Int) + 1, Tuples := Bs n s g }) (by rw [hgl]; omega) (fun t ht => by rw [Tl ht]; omega)
 obtain ⟨x, y, e2⟩ := Aex h1 hn hf hg
 unfold Fi Ii E8 Fo
 rw [if_pos (show (n : Int) ≥ 1 by omega), decide_eq_true (show (n : Int) ≤ 8 by omega)]
 simp only [Option.bind_some, if_true]
 rw [e]
 simp only [Option.bind_some]
 cases b with
 | false => exact ⟨_, rfl, fun hh => by cases hh⟩
 | true =>
   rw [if_pos rfl, Ww (by omega) (by omega), decide_eq_true hfo]
   simp only [Option.bind_some, if_true]
   rw [hgl, hf.ar, Sg 81 (by omega) hp81 (by omega)]
   simp only [Option.bind_some]
   rw [decide_eq_true (show (((n ^ s) ^ r : Nat) : Int) ≤ 70000 by omega), if_pos rfl, e2]
   refine ⟨_, rfl, fun _ => ?_⟩
   dsimp only
   by_cases hc : Yf n f g r s
   ·rw [decide_eq_false (fun hh => hh hc), decide_eq_true hc]; rfl
   ·rw [decide_eq_true hc, decide_eq_false hc]; rfl
end
end Go.Proofs.Ytcpgnfohmeineaa.Ax
