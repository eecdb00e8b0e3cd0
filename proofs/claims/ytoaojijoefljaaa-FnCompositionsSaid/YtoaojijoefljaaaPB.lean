/-
 Plain facts, joined.
-/
import Derived.Test.YtoaojijoefljaaaPA
namespace Go.Proofs.Ytoaojijoefljaaa.Ax
open Go Classical
def Aze (m i : Nat) : Bool := decide (m / 2 ^ i % 2 = 1)
def Azf (f : Nat → Nat → Bool) (ls : List Int) : Prop := ∀ x ∈ ls, ∀ y ∈ ls, ¬ (x.toNat ≠ y.toNat ∧ f x.toNat y.toNat = true)
section
end
end Go.Proofs.Ytoaojijoefljaaa.Ax
namespace Go.Proofs.Ytoaojijoefljaaa.Ax
open Go Classical
def pc (n m : Nat) : Nat := (S8 n (Aze m)).length
theorem Asy {q q' : Nat → Bool} {x : Nat} (hq : q x = false) (h : ∀ i, q' i = (q i || decide (x = i))) : ∀ n, (S8 n q').length = (S8 n q).length + if x < n then 1 else 0 := by
 intro n
 induction n with
 | zero => simp [S8]
 | succ n ih =>
   rw [Agp, Agp, h n]
   by_cases hxn : x = n
   ·subst hxn
    rw [hq]
    simp only [decide_true, Bool.or_true, if_true, Bool.false_eq_true, if_false]
    rw [List.length_append, ih, if_neg (by omega), if_pos (by omega)]; rfl
   ·rw [decide_eq_false hxn, Bool.or_false]
    by_cases hqn : q n = true
    ·rw [if_pos hqn, if_pos hqn, List.length_append, List.length_append, ih]
     by_cases hx : x < n
     ·rw [if_pos hx, if_pos (by omega)]; simp
     ·rw [if_neg hx, if_neg (by omega)]; rfl
    ·rw [if_neg hqn, if_neg hqn, ih]
     by_cases hx : x < n
     ·rw [if_pos hx, if_pos (by omega)]
     ·rw [if_neg hx, if_neg (by omega)]
def wt (n m : Nat) : Nat := 10 ^ (10 - pc n m)
def phi (n : Nat) (ws : List Int) : Nat → Nat → Int
 | _, 0 => 0
 | M, k + 1 => nth ws M * wt n M + phi n ws (M + 1) k
section
variable {n : Nat} {f : Nat → Nat → Bool}
structure okW (n m : Nat) (ws : List Int) : Prop where
 len : ws.length = 2 ^ n
 pos : ∀ i, i < ws.length → 0 ≤ nth ws i
 sum : phi n ws m (2 ^ n - m) ≤ 10000000000
end
section
end
end Go.Proofs.Ytoaojijoefljaaa.Ax
namespace Go.Proofs.Ytoaojijoefljaaa.Ax
open Go Classical
section
variable {n : Nat} {ps : List (Int × Int)}
end
end Go.Proofs.Ytoaojijoefljaaa.Ax
namespace Go.Proofs.Ytoaojijoefljaaa.Ax
open Go Classical
section
variable {n : Nat} {f : Nat → Nat → Bool}
end
section
end
end Go.Proofs.Ytoaojijoefljaaa.Ax
namespace Go.Proofs.Ytoaojijoefljaaa.Ax
open Go Classical
noncomputable def Ay5 (n : Nat) (g h : Nat → Nat → Nat) (S : Nat → Bool) : Nat → Bool := fun z => decide (S z = true ∨ ∃ x y, x < n ∧ y < n ∧ S x = true ∧ S y = true ∧ (z = g x y ∨ z = h x y))
noncomputable def Amd (n : Nat) (g h : Nat → Nat → Nat) (S : Nat → Bool) : Nat → Nat → Bool
 | 0 => S
 | k + 1 => Ay5 n g h (Amd n g h S k)
section
variable {n : Nat} {g h : Nat → Nat → Nat} {S : Nat → Bool}
def Azg (n : Nat) (g h : Nat → Nat → Nat) (S : Nat → Bool) (k : Nat) : Prop := ∀ z, z < n → Amd n g h S (k + 1) z = Amd n g h S k z
noncomputable def closed (n : Nat) (g h : Nat → Nat → Nat) (S : Nat → Bool) : Nat → Bool := Amd n g h S n
end
end Go.Proofs.Ytoaojijoefljaaa.Ax
namespace Go.Proofs.Ytoaojijoefljaaa.Ax
open Go Classical
theorem Ah8 {xs ys : List Int} (h : xs.length ≤ LIM) : Ie xs ys = some (decide (xs = ys)) := by
 unfold Ie
 rw [Bk] at h
 split
 ·rename_i hl
  rw [decide_eq_false]
  rintro rfl; exact hl rfl
 rename_i hl
 have hl : xs.length = ys.length := by omega
 have := Hf (body := Ek xs ys) (fun i => (i : Int)) xs.length (fun i => ¬ nth xs i = nth ys i) () () (fun i hi hb => by
  unfold Ek
  rw [if_pos (by omega), Af (by omega), Af (by omega)]
  simp only [Int.toNat_natCast]
  rw [if_neg (by simpa using hb), Af (by unfold InI; omega)]; rfl) (fun i hi hb => by
  unfold Ek
  rw [if_pos (by omega), Af (by omega), Af (by omega)]
  simp only [Int.toNat_natCast]
  rw [if_pos hb]) (by unfold Ek; rw [if_neg (by omega)]) 0 (by omega)
 show ((Ar _ ((0 : Nat) : Int)).bind _) = _
 rw [this]
 by_cases hx : ∃ i, 0 ≤ i ∧ i < xs.length ∧ ¬ nth xs i = nth ys i
 ·rw [if_pos hx, decide_eq_false]
  ·rfl
  ·rintro rfl; obtain ⟨i, _, _, hc⟩ := hx; exact hc rfl
 ·rw [if_neg hx, decide_eq_true (Ab5 hl (Ng.1 hx))]
  rfl
section
end
end Go.Proofs.Ytoaojijoefljaaa.Ax
namespace Go.Proofs.Ytoaojijoefljaaa.Ax
open Go Classical
def Uw (a : SAlgebra) : Prop := a.Ops.length ≤ 1048576 ∧ ∀ f ∈ a.Ops, f.Table.length ≤ 1048576
end Go.Proofs.Ytoaojijoefljaaa.Ax
namespace Go.Proofs.Ytoaojijoefljaaa.Ax
open Go Classical
def Ic (n : Nat) (f : SOp) : Prop := 0 ≤ f.Arity ∧ f.Arity ≤ 3 ∧ f.Table.length = n ^ f.Arity.toNat ∧ Ct f.Table n
def Rw (a : SAlgebra) : Prop := 1 ≤ a.Size ∧ a.Size ≤ 8 ∧ a.Ops.length ≤ 4 ∧ ∀ f ∈ a.Ops, Ic a.Size.toNat f
theorem H5 {n k : Nat} (hn : n ≤ 8) (hk : k ≤ 3) : n ^ k ≤ 512 :=
 Nat.le_trans (Nat.pow_le_pow_left hn k) (Nat.le_trans (Nat.pow_le_pow_right (by omega) hk) (by decide))
theorem Rp {n k : Nat} (hn : n ≤ 8) (hk : k ≤ 3) : Ck n k = some ((n ^ k : Nat) : Int) := by
 unfold Ck
 have key := Bs (body := Cn n) (fun j => (((n ^ j : Nat) : Int), ((k : Int) - (j : Int)))) k ((n ^ k : Nat) : Int) (fun j hj => by
  unfold Cn
  dsimp only
  have hp := H5 hn (show j + 1 ≤ 3 by omega)
  rw [Nat.pow_succ] at hp
  rw [if_pos (by omega), ← Int.natCast_mul, Nat.pow_succ]
  generalize n ^ j * n = N at hp ⊢
  rw [Af (by unfold InI; omega), Af (by unfold InI; omega), show ((k : Int) - (j : Int) - 1) = (k : Int) - ((j + 1 : Nat) : Int) by omega]) (by
  unfold Cn
  dsimp only
  rw [if_neg (by omega)])
 have key' : Ar (Cn n) (1, (k : Int)) = some ((n ^ k : Nat) : Int) := by simpa using key
 rw [key']; rfl
theorem Rd {n k : Nat} (hn : n ≤ 8) (hk : k ≤ 3) : Cj n k = some ((n ^ k : Nat) : Int) := by
 unfold Cj
 have key := Bs (body := Co n) (fun j => (((n ^ j : Nat) : Int), ((k : Int) - (j : Int)))) k ((n ^ k : Nat) : Int) (fun j hj => by
  unfold Co
  dsimp only
  have hp := H5 hn (show j + 1 ≤ 3 by omega)
  rw [Nat.pow_succ] at hp
  rw [if_pos (by omega), ← Int.natCast_mul, Nat.pow_succ]
  generalize n ^ j * n = N at hp ⊢
  rw [Af (by unfold InI; omega), Af (by unfold InI; omega), show ((k : Int) - (j : Int) - 1) = (k : Int) - ((j + 1 : Nat) : Int) by omega]) (by
  unfold Co
  dsimp only
  rw [if_neg (by omega)])
 have key' : Ar (Co n) (1, (k : Int)) = some ((n ^ k : Nat) : Int) := by simpa using key
 rw [key']; rfl
theorem Z3 {n : Nat} (hn : n ≤ 8) {f : SOp} (hl : f.Table.length ≤ LIM) : C6 f n = some (decide (Ic n f)) := by
 unfold C6
 by_cases h0 : 0 ≤ f.Arity
 ·rw [if_pos (show f.Arity ≥ 0 from h0)]
  by_cases h3 : f.Arity ≤ 3
  ·have e : Ck (n : Int) f.Arity = some ((n ^ f.Arity.toNat : Nat) : Int) := by
    have := Rp hn (k := f.Arity.toNat) (by omega)
    rwa [show ((f.Arity.toNat : Nat) : Int) = f.Arity by omega] at this
   rw [if_pos h3, e]
   simp only [Option.bind_some]
   by_cases hL : f.Table.length = n ^ f.Arity.toNat
   ·rw [if_pos (by rw [hL]), Amr _ _ hl]
    simp only [Option.bind_some]
    congr 1
    rw [decide_eq_decide]
    exact ⟨fun h => ⟨h0, h3, hL, h⟩, fun h => h.2.2.2⟩
   ·rw [if_neg (fun hc => hL (Int.ofNat_inj.1 hc)), decide_eq_false (fun h => hL h.2.2.1)]
  ·rw [if_neg h3, decide_eq_false (fun h => h3 h.2.1)]
 ·rw [if_neg (by omega), decide_eq_false (fun h => h0 h.1)]
theorem Xz {n : Nat} (hn1 : 1 ≤ n) (hn : n ≤ 8) {f : SOp} (hl : f.Table.length ≤ LIM) : C5 n f = some (decide (Ic n f)) := by
 unfold C5
 rw [Ut]
 simp only [Option.bind_some]
 by_cases h0 : 0 ≤ f.Arity ∧ f.Arity ≤ 3
 ·have e : Cj (n : Int) f.Arity = some ((n ^ f.Arity.toNat : Nat) : Int) := by
   have := Rd hn (k := f.Arity.toNat) (by omega)
   rwa [show ((f.Arity.toNat : Nat) : Int) = f.Arity by omega] at this
  rw [decide_eq_true h0, if_pos rfl, e]
  simp only [Option.bind_some]
  by_cases hL : f.Table.length = n ^ f.Arity.toNat
  ·rw [if_neg (by rw [hL]; simp)]
   simp only [Option.bind_some]
   have hl' := hl
   rw [Bk] at hl'
   have this := Hf (body := F1 n f) (fun i => (i : Int)) f.Table.length (fun i => ¬ (0 ≤ nth f.Table i ∧ nth f.Table i ≤ (n : Int) - 1)) () () (fun i hi hb => by
    unfold F1
    rw [if_pos (by omega), Af (by omega), Af (by unfold InI; omega), Ut]
    simp only [Int.toNat_natCast, Option.bind_some]
    rw [decide_eq_true (Classical.not_not.1 hb), if_pos rfl, Af (by unfold InI; omega)]; rfl) (fun i hi hb => by
    unfold F1
    rw [if_pos (by omega), Af (by omega), Af (by unfold InI; omega), Ut]
    simp only [Int.toNat_natCast, Option.bind_some]
    rw [decide_eq_false hb, if_neg (by simp)]) (by
    unfold F1
    rw [if_neg (by omega)]) 0 (by omega)
   refine (Pc this false true).trans (congrArg some (X6 ?_))
   rw [Ng]
   constructor
   ·intro h
    refine ⟨h0.1, h0.2, hL, fun x hx => ?_⟩
    obtain ⟨i, hi, rfl⟩ := Pa.1 hx
    have := h i hi; omega
   ·intro h i hi
    have := h.2.2.2 _ (A9 hi); omega
  ·rw [if_pos (fun hc => hL (Int.ofNat_inj.1 hc)), decide_eq_false (fun h => hL h.2.2.1)]; rfl
 ·rw [decide_eq_false h0, if_neg (by simp), decide_eq_false (fun h => h0 ⟨h.1, h.2.1⟩)]; rfl
theorem Aod {a : SAlgebra} (h : Uw a) : Hm a = some (decide (Rw a)) := by
 unfold Hm
 by_cases h1 : a.Size < 1
 ·rw [if_pos h1, decide_eq_false (fun hg => by have := hg.1; omega)]; rfl
 rw [if_neg h1]
 by_cases h8 : a.Size > 8
 ·rw [if_pos h8, decide_eq_false (fun hg => by have := hg.2.1; omega)]; rfl
 rw [if_neg h8]
 by_cases h4 : (a.Ops.length : Int) > 4
 ·rw [if_pos h4, decide_eq_false (fun hg => by have := hg.2.2.1; omega)]; rfl
 rw [if_neg h4]
 simp only [Option.bind_some]
 obtain ⟨n, hn⟩ := Int.eq_ofNat_of_zero_le (show 0 ≤ a.Size by omega)
 have this := Hf (body := C3 a) (fun i => (i : Int)) a.Ops.length (fun i => ¬ Ic n (nth a.Ops i)) () () (fun i hi hb => by
  have hl := h.2 _ (A9 hi)
  unfold C3
  rw [if_pos (by omega), Af (by omega), Int.toNat_natCast, hn, Z3 (by omega) (by rw [Bk]; omega)]
  simp only [Option.bind_some]
  rw [decide_eq_true (Classical.not_not.1 hb), if_pos rfl, Af (by unfold InI; omega)]; rfl) (fun i hi hb => by
  have hl := h.2 _ (A9 hi)
  unfold C3
  rw [if_pos (by omega), Af (by omega), Int.toNat_natCast, hn, Z3 (by omega) (by rw [Bk]; omega)]
  simp only [Option.bind_some]
  rw [decide_eq_false hb, if_neg (by simp)]) (by
  unfold C3
  rw [if_neg (by omega)]) 0 (by omega)
 refine (Pc this false true).trans (congrArg some (X6 ?_))
 rw [Ng]
 have hnn : a.Size.toNat = n := by omega
 constructor
 ·intro hh
  refine ⟨by omega, by omega, by omega, fun f hf => ?_⟩
  obtain ⟨i, hi, rfl⟩ := Pa.1 hf
  rw [hnn]; exact hh i hi
 ·intro hg i hi
  have := hg.2.2.2 _ (A9 hi)
  rwa [hnn] at this
theorem Aid {a : SAlgebra} (h : Uw a) : G2 a = some (decide (Rw a)) := by
 unfold G2
 rw [Ut]
 simp only [Option.bind_some]
 by_cases h1 : 1 ≤ a.Size ∧ a.Size ≤ 8
 ·rw [decide_eq_true h1, if_pos rfl]
  by_cases h4 : (a.Ops.length : Int) > 4
  ·rw [if_pos h4, decide_eq_false (fun hg => by have := hg.2.2.1; omega)]; rfl
  rw [if_neg h4]
  simp only [Option.bind_some]
  obtain ⟨n, hn⟩ := Int.eq_ofNat_of_zero_le (show 0 ≤ a.Size by omega)
  have this := Hf (body := Eh a) (fun i => (i : Int)) a.Ops.length (fun i => ¬ Ic n (nth a.Ops i)) () () (fun i hi hb => by
   have hl := h.2 _ (A9 hi)
   unfold Eh
   rw [if_pos (by omega), Af (by omega), Int.toNat_natCast, hn, Xz (by omega) (by omega) (by rw [Bk]; omega)]
   simp only [Option.bind_some]
   rw [decide_eq_true (Classical.not_not.1 hb), if_pos rfl, Af (by unfold InI; omega)]; rfl) (fun i hi hb => by
   have hl := h.2 _ (A9 hi)
   unfold Eh
   rw [if_pos (by omega), Af (by omega), Int.toNat_natCast, hn, Xz (by omega) (by omega) (by rw [Bk]; omega)]
   simp only [Option.bind_some]
   rw [decide_eq_false hb, if_neg (by simp)]) (by
   unfold Eh
   rw [if_neg (by omega)]) 0 (by omega)
  refine (Pc this false true).trans (congrArg some (X6 ?_))
  rw [Ng]
  have hnn : a.Size.toNat = n := by omega
  constructor
  ·intro hh
   refine ⟨by omega, by omega, by omega, fun f hf => ?_⟩
   obtain ⟨i, hi, rfl⟩ := Pa.1 hf
   rw [hnn]; exact hh i hi
  ·intro hg i hi
   have := hg.2.2.2 _ (A9 hi)
   rwa [hnn] at this
 ·rw [decide_eq_false h1, if_neg (by simp), decide_eq_false (fun hg => h1 ⟨hg.1, hg.2.1⟩)]; rfl
def Aoe (a : SAlgebra) : List Int := a.Ops.map (·.Arity)
theorem Ag0 {xs ys : List Int} (h : xs.length ≤ LIM) : H7 xs ys = some (decide (xs = ys)) := by
 unfold H7
 rw [Bk] at h
 by_cases hne : xs.length = ys.length
 ·rw [if_neg (by omega)]
  have this := Hf (body := Dc xs ys) (fun i => (i : Int)) xs.length (fun i => ¬ nth xs i = nth ys i) () () (fun i hi hb => by
   unfold Dc
   rw [if_pos (by omega), Af (by omega), Af (by omega)]
   simp only [Int.toNat_natCast]
   rw [if_neg (fun hc => hc (Classical.not_not.1 hb).symm), Af (by unfold InI; omega)]; rfl) (fun i hi hb => by
   unfold Dc
   rw [if_pos (by omega), Af (by omega), Af (by omega)]
   simp only [Int.toNat_natCast]
   rw [if_pos (fun hc => hb hc.symm)]) (by unfold Dc; rw [if_neg (by omega)]) 0 (by omega)
  refine (Pc this false true).trans (congrArg some (X6 ?_))
  rw [Ng]
  exact ⟨fun hh => Ab5 hne hh, fun hh i _ => by rw [hh]⟩
 ·rw [if_pos (by omega), decide_eq_false (fun hh => hne (by rw [hh]))]
end Go.Proofs.Ytoaojijoefljaaa.Ax
namespace Go.Proofs.Ytoaojijoefljaaa.Ax
open Go Classical
def Dz (n : Nat) : Nat → Nat → List Int
 | 0, _ => []
 | r + 1, k => Dz n r (k / n) ++ [((k % n : Nat) : Int)]
theorem G8 (n : Nat) : ∀ r k, (Dz n r k).length = r := by
 intro r
 induction r with
 | zero => intro k; rfl
 | succ r ih => intro k; simp [Dz, ih]
theorem Afr {n : Nat} (hn : 0 < n) : ∀ r k, Ct (Dz n r k) n := by
 intro r
 induction r with
 | zero => intro k x hx; cases hx
 | succ r ih =>
   intro k x hx
   simp only [Dz] at hx
   rcases List.mem_append.1 hx with hx | hx
   ·exact ih _ x hx
   ·rw [List.mem_singleton.1 hx]
    have := Nat.mod_lt k hn
    omega
def N6 (m : Nat) (xs : List Int) : Int := xs.foldl (fun s x => s * (m : Int) + x) 0
theorem X9 (m : Nat) (xs : List Int) (y : Int) : N6 m (xs ++ [y]) = N6 m xs * (m : Int) + y := by
 unfold N6; rw [List.foldl_append]; rfl
theorem O8 {m : Nat} : ∀ (r : Nat) (xs : List Int), xs.length = r → Ct xs m → ∃ c : Nat, N6 m xs = (c : Int) ∧ c < m ^ r := by
 intro r
 induction r with
 | zero =>
   intro xs hl _
   have : xs = [] := List.length_eq_zero_iff.1 hl
   subst this
   exact ⟨0, rfl, by simp⟩
 | succ r ih =>
   intro xs hl hx
   obtain ⟨ys, y, rfl⟩ : ∃ ys y, xs = ys ++ [y] := by
    refine ⟨xs.take r, nth xs r, ?_⟩
    rw [← D4 (by omega), List.take_of_length_le (by omega)]
   have hy := hx y (by simp)
   obtain ⟨c, h1, h2⟩ := ih ys (by simpa using hl) fun z hz => hx z (by simp [hz])
   obtain ⟨d, rfl⟩ := Int.eq_ofNat_of_zero_le hy.1
   refine ⟨c * m + d, by rw [X9, h1]; push_cast; rfl, ?_⟩
   have h3 := Nat.mul_le_mul_right m (show c + 1 ≤ m ^ r from h2)
   rw [Nat.succ_mul] at h3
   rw [Nat.pow_succ]
   omega
theorem Ag5 {m : Nat} (hm : m ≤ 8) {xs : List Int} (hl : xs.length ≤ 3) (hx : Ct xs m) : ∃ c : Nat, N6 m xs = (c : Int) ∧ c < m ^ xs.length ∧ c < 512 := by
 obtain ⟨c, h1, h2⟩ := O8 xs.length xs rfl hx
 have := H5 hm hl
 exact ⟨c, h1, h2, by omega⟩
theorem Acg {m : Nat} {xs : List Int} {i : Nat} (hi : i < xs.length) : N6 m (xs.take (i + 1)) = N6 m (xs.take i) * (m : Int) + nth xs i := by
 rw [D4 hi, X9]
theorem Acu {m : Nat} (hm : m ≤ 8) {xs : List Int} (hl : xs.length ≤ 3) (hx : Ct xs m) {i : Nat} (hi : i < xs.length) :
  InI (N6 m (xs.take i) * (m : Int)) ∧ InI (N6 m (xs.take i) * (m : Int) + nth xs i) := by
 obtain ⟨c, h1, _, h3⟩ := Ag5 hm (xs := xs.take i) (by rw [List.length_take]; omega) fun z hz => hx z (List.mem_of_mem_take hz)
 have hv := hx _ (A9 hi)
 have h4 : c * m ≤ 512 * 8 := Nat.mul_le_mul (by omega) hm
 rw [h1, ← Int.natCast_mul]
 generalize c * m = d at h4
 unfold InI
 omega
theorem Asu {m : Nat} (hm : m ≤ 8) {xs : List Int} (hl : xs.length ≤ 3) (hx : Ct xs m) : Jh xs m = some (N6 m xs) := by
 unfold Jh
 have key := Bs (body := D0 xs m) (fun i => ((i : Int), N6 m (xs.take i))) xs.length (N6 m xs) (fun i hi => by
  unfold D0
  dsimp only
  obtain ⟨h1, h2⟩ := Acu hm hl hx hi
  rw [if_pos (by omega), Af (by omega), Af h1, Int.toNat_natCast, Af h2, Af (by unfold InI; omega), Acg hi]
  rfl) (by
  unfold D0
  dsimp only
  rw [if_neg (by omega), List.take_length])
 have key' : Ar (D0 xs m) (0, 0) = _ := key
 rw [key']; rfl
def Awx (n m : Nat) (f : List Int) : Nat → Nat → Int
 | 0, _ => 0
 | r + 1, k => Awx n m f r (k / n) * (m : Int) + nth f (k % n)
theorem Atw (n m : Nat) (f : List Int) : ∀ r k, N6 m ((Dz n r k).map fun x => nth f x.toNat) = Awx n m f r k := by
 intro r
 induction r with
 | zero => intro k; rfl
 | succ r ih =>
   intro k
   simp only [Dz, Awx, List.map_append, List.map_cons, List.map_nil, Int.toNat_natCast]
   rw [X9, ih]
theorem As9 {n m : Nat} (hn : 0 < n) {f : List Int} (hf : f.length = n) (hfx : Ct f m) (r k : Nat) : Ct ((Dz n r k).map fun x => nth f x.toNat) m := by
 intro y hy
 obtain ⟨x, hx, rfl⟩ := List.mem_map.1 hy
 have := Afr hn r k x hx
 exact hfx _ (A9 (by omega))
structure Homs (a b : SAlgebra) (f : List Int) (n m : Nat) : Prop where
 ga : Rw a
 gb : Rw b
 ty : Aoe a = Aoe b
 sa : a.Size = n
 sb : b.Size = m
 len : f.length = n
 fin : Ct f m
section
variable {a b : SAlgebra} {f : List Int} {n m : Nat}
theorem Homs.ops (h : Homs a b f n m) : a.Ops.length = b.Ops.length := by
 have := congrArg List.length h.ty
 simpa [Aoe] using this
theorem Homs.op (h : Homs a b f n m) {i : Nat} (hi : i < a.Ops.length) : ∃ r : Nat, r ≤ 3 ∧ (nth a.Ops i).Arity = r ∧ (nth b.Ops i).Arity = r ∧ (nth a.Ops i).Table.length = n ^ r ∧ (nth b.Ops i).Table.length = m ^ r ∧ Ct (nth a.Ops i).Table n ∧ n ^ r ≤ 512 := by
 have hn : a.Size.toNat = n := by have := h.sa; omega
 have hm : b.Size.toNat = m := by have := h.sb; omega
 have hn8 : n ≤ 8 := by have := h.sa; have := h.ga.2.1; omega
 obtain ⟨h1, h2, h3, h4⟩ := h.ga.2.2.2 _ (A9 hi)
 have hib : i < b.Ops.length := by rw [← h.ops]; exact hi
 obtain ⟨_, _, k3, _⟩ := h.gb.2.2.2 _ (A9 hib)
 have e : (nth a.Ops i).Arity = (nth b.Ops i).Arity := by
  have e1 : nth (Aoe a) i = (nth a.Ops i).Arity := D1 _ hi
  have e2 : nth (Aoe b) i = (nth b.Ops i).Arity := D1 _ hib
  rw [← e1, ← e2, h.ty]
 rw [hn] at h3 h4
 rw [hm, ← e] at k3
 exact ⟨(nth a.Ops i).Arity.toNat, by omega, by omega, by omega, h3, k3, h4, H5 hn8 (by omega)⟩
theorem Homs.pos (h : Homs a b f n m) : 0 < n ∧ n ≤ 8 ∧ 0 < m ∧ m ≤ 8 := by
 have := h.sa; have := h.sb; have := h.ga.1; have := h.ga.2.1; have := h.gb.1; have := h.gb.2.1
 omega
theorem Homs.low (h : Homs a b f n m) {r k : Nat} (hr : r ≤ 3) : ∃ c : Nat, Awx n m f r k = (c : Int) ∧ c < m ^ r := by
 obtain ⟨hn, _, _, hm⟩ := h.pos
 obtain ⟨c, h1, h2, _⟩ := Ag5 hm (xs := (Dz n r k).map fun x => nth f x.toNat) (by rw [List.length_map, G8]; exact hr) (As9 hn h.len h.fin r k)
 rw [Atw] at h1
 rw [List.length_map, G8] at h2
 exact ⟨c, h1, h2⟩
end
def uniq (f : List Int) : Prop := ∀ i, i < f.length → nth f i ∉ f.take i
end Go.Proofs.Ytoaojijoefljaaa.Ax
namespace Go.Proofs.Ytoaojijoefljaaa.Ax
open Go Classical
theorem Aj4 {β : Type} (k : ByteArray) (v : β) (k' : ByteArray) : ∀ (l : List (ByteArray × β)), E5 (K5 l k v) k' = if k' = k then some v else E5 l k'
 | [] => by simp [K5, E5]
 | (a, b) :: r => by
   simp only [K5]
   by_cases h1 : k = a
   ·subst h1
    rw [if_pos rfl]
    simp only [E5]
    by_cases h2 : k' = k
    ·rw [if_pos h2, if_pos h2]
    ·rw [if_neg h2, if_neg h2, if_neg h2]
   ·rw [if_neg h1]
    simp only [E5]
    rw [Aj4 k v k' r]
    by_cases h2 : k' = a
    ·rw [if_pos h2, if_pos h2, if_neg (fun e => h1 (by rw [← e, h2]))]
    ·rw [if_neg h2, if_neg h2]
theorem Ape (ns : List Int) : ∀ b : ByteArray, (ns.foldl (fun r n => r.push (UInt8.ofNat n.toNat)) b).data.toList = b.data.toList ++ ns.map fun n => UInt8.ofNat n.toNat := by
 induction ns with
 | nil => intro b; simp
 | cons n r ih =>
   intro b
   simp only [List.foldl_cons, List.map_cons]
   rw [ih]
   simp [ByteArray.push]
theorem Avg {a b : Int} (ha : 0 ≤ a ∧ a ≤ 255) (hb : 0 ≤ b ∧ b ≤ 255) (h : UInt8.ofNat a.toNat = UInt8.ofNat b.toNat) : a = b := by
 have := congrArg UInt8.toNat h
 simp [UInt8.toNat_ofNat'] at this
 omega
theorem Atf {ns ms : List Int} (hn : ∀ x ∈ ns, 0 ≤ x ∧ x ≤ 255) (hm : ∀ x ∈ ms, 0 ≤ x ∧ x ≤ 255) (h : Vp ns = Vp ms) : ns = ms := by
 have e := congrArg (fun b : ByteArray => b.data.toList) h
 simp only [Vp, Ape] at e
 have e2 : (ns.map fun n : Int => UInt8.ofNat n.toNat) = ms.map fun n : Int => UInt8.ofNat n.toNat := by simpa using e
 clear e h
 induction ns generalizing ms with
 | nil =>
   cases ms with
   | nil => rfl
   | cons _ _ => cases e2
 | cons a r ih =>
   cases ms with
   | nil => cases e2
   | cons b s =>
     simp only [List.map_cons, List.cons.injEq] at e2
     rw [Avg (hn a (by simp)) (hm b (by simp)) e2.1, ih (fun x hx => hn x (by simp [hx])) (fun x hx => hm x (by simp [hx])) e2.2]
def byt (x : Int) : List Int := [IntKind.u8.wrap (x.fdiv (2 ^ min (Int.toNat 8) IntKind.i64.bits)), IntKind.u8.wrap x]
theorem Atx (n : Int) : IntKind.u8.wrap n = n % 256 := by simp [IntKind.wrap, IntKind.bits, IntKind.signed]
theorem Auc {x : Int} (h0 : 0 ≤ x) (h1 : x < 65536) : byt x = [x / 256, x % 256] := by
 unfold byt
 have e : (2 : Int) ^ min (Int.toNat 8) IntKind.i64.bits = 256 := by decide
 rw [e, Atx, Atx, Int.fdiv_eq_ediv_of_nonneg _ (by omega)]
 congr 1
 omega
theorem Ati (x : Int) : ∀ y ∈ byt x, 0 ≤ y ∧ y ≤ 255 := by
 intro y hy
 unfold byt at hy
 simp only [List.mem_cons, List.not_mem_nil, or_false] at hy
 rcases hy with rfl | rfl <;> (rw [Atx]; omega)
def Adb (xs : List Int) : ByteArray := Vp (xs.flatMap byt)
theorem Amc : ∀ {xs ys : List Int}, (∀ x ∈ xs, 0 ≤ x ∧ x < 65536) → (∀ x ∈ ys, 0 ≤ x ∧ x < 65536) → xs.flatMap byt = ys.flatMap byt → xs = ys := by
 intro xs
 induction xs with
 | nil =>
   intro ys _ _ h
   cases ys with
   | nil => rfl
   | cons y r => simp [byt] at h
 | cons x r ih =>
   intro ys hx hy h
   cases ys with
   | nil => simp [byt] at h
   | cons y s =>
     have h1 := hx x (by simp)
     have h2 := hy y (by simp)
     simp only [List.flatMap_cons, Auc h1.1 h1.2, Auc h2.1 h2.2, List.cons_append, List.nil_append, List.cons.injEq] at h
     rw [ih (fun z hz => hx z (by simp [hz])) (fun z hz => hy z (by simp [hz])) h.2.2, show x = y by omega]
theorem Anj {xs ys : List Int} (hx : ∀ x ∈ xs, 0 ≤ x ∧ x < 65536) (hy : ∀ x ∈ ys, 0 ≤ x ∧ x < 65536) (h : Adb xs = Adb ys) : xs = ys := by
 refine Amc hx hy (Atf ?_ ?_ h)
 ·intro y hy
  obtain ⟨x, _, hy⟩ := List.mem_flatMap.1 hy
  exact Ati x y hy
 ·intro y hy
  obtain ⟨x, _, hy⟩ := List.mem_flatMap.1 hy
  exact Ati x y hy
theorem At6 (xs : List Int) : (xs.flatMap byt).length = 2 * xs.length := by
 induction xs with
 | nil => rfl
 | cons x r ih => simp only [List.flatMap_cons, List.length_append, ih, List.length_cons]; simp [byt]; omega
theorem Arg {xs : List Int} (hl : xs.length ≤ 1048576) : Jo xs = some (Adb xs) := by
 have hL := Bk
 unfold Jo
 rw [Af (by unfold InI; omega), Af (by omega)]
 have key := Bs (body := E6 xs) (fun i => ((i : Int), (xs.take i).flatMap byt)) xs.length (xs.flatMap byt) (fun i hi => by
  have h1 := At6 (xs.take i)
  unfold E6
  dsimp only
  rw [if_pos (by omega), Af (by omega), Int.toNat_natCast, Af (by rw [h1, List.length_take]; simp only [List.length_cons, List.length_nil]; omega), Af (by unfold InI; omega), D4 hi, List.flatMap_append]
  simp [byt]) (by
  unfold E6
  dsimp only
  rw [if_neg (by omega), List.take_length])
 have key' : Ar (E6 xs) (0, Ao Int) = _ := key
 rw [key']; rfl
def Wq (S : List (ByteArray × Bool)) (rows : List (List Int)) : Prop := ∀ k, (E5 S k).getD false = decide (∃ t ∈ rows, Adb t = k)
theorem At1 : Wq (Ao (ByteArray × Bool)) [] := fun k => by simp [E5]
theorem Ar6 {S : List (ByteArray × Bool)} {rows : List (List Int)} (h : Wq S rows) (t : List Int) : Wq (K5 S (Adb t) true) (rows ++ [t]) := by
 intro k
 rw [Aj4]
 by_cases hk : k = Adb t
 ·rw [if_pos hk]
  exact (decide_eq_true ⟨t, by simp, hk.symm⟩).symm
 ·rw [if_neg hk, h k, decide_eq_decide]
  constructor
  ·rintro ⟨u, hu, e⟩; exact ⟨u, by simp [hu], e⟩
  ·rintro ⟨u, hu, e⟩
   rcases List.mem_append.1 hu with h1 | h1
   ·exact ⟨u, h1, e⟩
   ·rw [List.mem_singleton.1 h1] at e
    exact absurd e.symm hk
theorem Acw {n : Nat} (hn : 0 < n) : ∀ r (xs : List Int), xs.length = r → Ct xs n → Dz n r (N6 n xs).toNat = xs := by
 intro r
 induction r with
 | zero => intro xs hl _; rw [List.length_eq_zero_iff.1 hl]; rfl
 | succ r ih =>
   intro xs hl hx
   obtain ⟨ys, y, rfl⟩ : ∃ ys y, xs = ys ++ [y] := ⟨xs.take r, nth xs r, by rw [← D4 (by omega), List.take_of_length_le (by omega)]⟩
   have hy := hx y (by simp)
   have hys : Ct ys n := fun z hz => hx z (by simp [hz])
   have hyl : ys.length = r := by simpa using hl
   obtain ⟨c, h1, _⟩ := O8 r ys hyl hys
   obtain ⟨d, rfl⟩ := Int.eq_ofNat_of_zero_le hy.1
   have hd : d < n := by omega
   have e : (N6 n (ys ++ [(d : Int)])).toNat = c * n + d := by
    rw [X9, h1, ← Int.natCast_mul, ← Int.natCast_add, Int.toNat_natCast]
   rw [e]
   simp only [Dz]
   rw [show (c * n + d) / n = c by rw [Nat.mul_comm, Nat.mul_add_div hn, Nat.div_eq_of_lt hd]; omega, show (c * n + d) % n = d by rw [Nat.mul_comm, Nat.mul_add_mod, Nat.mod_eq_of_lt hd]]
   have := ih ys hyl hys
   rw [h1, Int.toNat_natCast] at this
   rw [this]
theorem Avf {n k : Nat} (B : Nat) (hB : B ≤ 1000000) (h : ∀ i, i ≤ k → n ^ i ≤ B) (hk : k ≤ 1000) : Ck n k = some ((n ^ k : Nat) : Int) := by
 unfold Ck
 have key := Bs (body := Cn n) (fun j => (((n ^ j : Nat) : Int), ((k : Int) - (j : Int)))) k ((n ^ k : Nat) : Int) (fun j hj => by
  unfold Cn
  dsimp only
  have hp := h (j + 1) (by omega)
  rw [Nat.pow_succ] at hp
  rw [if_pos (by omega), ← Int.natCast_mul, Nat.pow_succ]
  generalize n ^ j * n = N at hp ⊢
  rw [Af (by unfold InI; omega), Af (by unfold InI; omega), show ((k : Int) - (j : Int) - 1) = (k : Int) - ((j + 1 : Nat) : Int) by omega]) (by
  unfold Cn
  dsimp only
  rw [if_neg (by omega)])
 have key' : Ar (Cn n) (1, (k : Int)) = some ((n ^ k : Nat) : Int) := by simpa using key
 rw [key']; rfl
theorem Aur {n k : Nat} (B : Nat) (hB : B ≤ 1000000) (h : ∀ i, i ≤ k → n ^ i ≤ B) (hk : k ≤ 1000) : Cj n k = some ((n ^ k : Nat) : Int) := by
 unfold Cj
 have key := Bs (body := Co n) (fun j => (((n ^ j : Nat) : Int), ((k : Int) - (j : Int)))) k ((n ^ k : Nat) : Int) (fun j hj => by
  unfold Co
  dsimp only
  have hp := h (j + 1) (by omega)
  rw [Nat.pow_succ] at hp
  rw [if_pos (by omega), ← Int.natCast_mul, Nat.pow_succ]
  generalize n ^ j * n = N at hp ⊢
  rw [Af (by unfold InI; omega), Af (by unfold InI; omega), show ((k : Int) - (j : Int) - 1) = (k : Int) - ((j + 1 : Nat) : Int) by omega]) (by
  unfold Co
  dsimp only
  rw [if_neg (by omega)])
 have key' : Ar (Co n) (1, (k : Int)) = some ((n ^ k : Nat) : Int) := by simpa using key
 rw [key']; rfl
end Go.Proofs.Ytoaojijoefljaaa.Ax
namespace Go.Proofs.Ytoaojijoefljaaa.Ax
open Go Classical
def J3 (n P : Nat) (f : SOp) (ts : List (List Int)) : List Int := (List.range P).map fun x => nth f.Table (N6 n (ts.map fun t => nth t x)).toNat
def F4 (n k p : Nat) : List Int := (List.range (n ^ k)).map fun x => nth (Dz n k x) p
theorem Hb (n P : Nat) (f : SOp) (ts : List (List Int)) : (J3 n P f ts).length = P := by simp [J3]
theorem Xb (n k p : Nat) : (F4 n k p).length = n ^ k := by simp [F4]
theorem Nd {n P : Nat} {f : SOp} {ts : List (List Int)} {x : Nat} (hx : x < P) : nth (J3 n P f ts) x = nth f.Table (N6 n (ts.map fun t => nth t x)).toNat := by
 unfold J3; rw [D1 _ (by simpa using hx), Pb hx]
theorem Nl {n k p x : Nat} (hx : x < n ^ k) : nth (F4 n k p) x = nth (Dz n k x) p := by
 unfold F4; rw [D1 _ (by simpa using hx), Pb hx]
def Ib (n P : Nat) (t : List Int) : Prop := t.length = P ∧ Ct t n
theorem Akw {n k p : Nat} (hn : 0 < n) (hp : p < k) : Ib n (n ^ k) (F4 n k p) := by
 refine ⟨Xb _ _ _, fun v hv => ?_⟩
 obtain ⟨x, hx, rfl⟩ := List.mem_map.1 hv
 exact Afr hn k x _ (A9 (by rw [G8]; exact hp))
theorem X4 {n P : Nat} {ts : List (List Int)} (ht : ∀ t ∈ ts, Ib n P t) {x : Nat} (hx : x < P) : Ct (ts.map fun t => nth t x) n := by
 intro v hv
 obtain ⟨t, h1, rfl⟩ := List.mem_map.1 hv
 obtain ⟨h2, h3⟩ := ht t h1
 exact h3 _ (A9 (by omega))
theorem Alb {n P : Nat} {f : SOp} {ts : List (List Int)} (hf : Ic n f) (hl : ts.length = f.Arity.toNat) (ht : ∀ t ∈ ts, Ib n P t) : Ib n P (J3 n P f ts) := by
 refine ⟨Hb _ _ _ _, fun v hv => ?_⟩
 obtain ⟨x, hx, rfl⟩ := List.mem_map.1 hv
 have hx := List.mem_range.1 hx
 obtain ⟨c, h1, h2⟩ := O8 f.Arity.toNat _ (by simpa using hl) (X4 ht hx)
 rw [h1, Int.toNat_natCast]
 exact hf.2.2.2 _ (A9 (by rw [hf.2.2.1]; exact h2))
abbrev Clo := List (List Int) × List SCloneStep
noncomputable def Ni (s : Clo) (c : List Int × SCloneStep) : Clo := if c.1 ∈ s.1 then s else (s.1 ++ [c.1], s.2 ++ [c.2])
def Dl (n P : Nat) (f : SOp) (op : Nat) (T : List (List Int)) (old i : Nat) : List Int × SCloneStep :=
 (J3 n P f ((Dz old f.Arity.toNat i).map fun x => nth T x.toNat), { Op := op, Args := Dz old f.Arity.toNat i })
def Agv (n P : Nat) (f : SOp) (op : Nat) (T : List (List Int)) (old : Nat) : List (List Int × SCloneStep) := (List.range (old ^ f.Arity.toNat)).map (Dl n P f op T old)
def Hd (n P : Nat) (ops : List SOp) (T : List (List Int)) (old : Nat) : List (List Int × SCloneStep) := (List.range ops.length).flatMap fun op => Agv n P (nth ops op) op T old
noncomputable def Iq (s : Clo) (l : List (List Int × SCloneStep)) : Clo := l.foldl Ni s
theorem Aqg (s : Clo) (l : List (List Int × SCloneStep)) (c : List Int × SCloneStep) : Iq s (l ++ [c]) = Ni (Iq s l) c := by simp [Iq]
theorem Akh (s : Clo) (l m : List (List Int × SCloneStep)) : Iq s (l ++ m) = Iq (Iq s l) m := by simp [Iq]
theorem Aam (s : Clo) (c : List Int × SCloneStep) : ∃ a, (Ni s c).1 = s.1 ++ a := by
 unfold Ni; split
 ·exact ⟨[], by simp⟩
 ·exact ⟨[c.1], rfl⟩
theorem La (l : List (List Int × SCloneStep)) : ∀ s : Clo, ∃ a, (Iq s l).1 = s.1 ++ a := by
 induction l with
 | nil => intro s; exact ⟨[], by simp [Iq]⟩
 | cons c l ih =>
   intro s
   obtain ⟨a, ha⟩ := Aam s c
   obtain ⟨b, hb⟩ := ih (Ni s c)
   exact ⟨a ++ b, by show (Iq (Ni s c) l).1 = _; rw [hb, ha, List.append_assoc]⟩
theorem Aj7 (l : List (List Int × SCloneStep)) (s : Clo) : s.1.length ≤ (Iq s l).1.length := by
 obtain ⟨a, ha⟩ := La l s
 rw [ha, List.length_append]; omega
theorem Ava (s : Clo) (c : List Int × SCloneStep) : c.1 ∈ (Ni s c).1 := by
 unfold Ni; split
 ·assumption
 ·simp
theorem Asi (l : List (List Int × SCloneStep)) (s : Clo) {t : List Int} (h : t ∈ s.1) : t ∈ (Iq s l).1 := by
 obtain ⟨a, ha⟩ := La l s
 rw [ha]; exact List.mem_append_left _ h
theorem Ye (l : List (List Int × SCloneStep)) : ∀ (s : Clo), ∀ c ∈ l, c.1 ∈ (Iq s l).1 := by
 induction l with
 | nil => intro s c hc; cases hc
 | cons d l ih =>
   intro s c hc
   rcases List.mem_cons.1 hc with rfl | h
   ·exact Asi l (Ni s c) (Ava s c)
   ·exact ih (Ni s d) c h
def An2 (n k : Nat) (ops : List SOp) (T : List (List Int)) (i : Nat) (s : SCloneStep) (t : List Int) : Prop :=
 (s.Op = -1 ∧ ∃ p : Nat, p < k ∧ s.Args = [(p : Int)] ∧ t = F4 n k p) ∨
 (∃ op : Nat, op < ops.length ∧ s.Op = op ∧ s.Args.length = (nth ops op).Arity.toNat ∧ Ct s.Args i ∧ t = J3 n (n ^ k) (nth ops op) (s.Args.map fun x => nth T x.toNat))
structure InvC (n k : Nat) (ops : List SOp) (s : Clo) : Prop where
 tabs : ∀ t ∈ s.1, Ib n (n ^ k) t
 nodup : s.1.Nodup
 len : s.2.length = s.1.length
 steps : ∀ i, i < s.1.length → An2 n k ops s.1 i (nth s.2 i) (nth s.1 i)
theorem Aeh {n k : Nat} {ops : List SOp} {T T' : List (List Int)} {i : Nat} {s : SCloneStep} {t : List Int} (h : An2 n k ops T i s t) (hT : ∀ j, j < i → nth T j = nth T' j) : An2 n k ops T' i s t := by
 rcases h with h | ⟨op, h1, h2, h3, h4, h5⟩
 ·exact .inl h
 ·refine .inr ⟨op, h1, h2, h3, h4, ?_⟩
  rw [h5]
  congr 1
  refine List.map_congr_left fun x hx => ?_
  have := h4 x hx
  exact hT _ (by omega)
theorem InvC.add {n k : Nat} {ops : List SOp} {s : Clo} (h : InvC n k ops s) {c : List Int × SCloneStep} (hc : Ib n (n ^ k) c.1) (hs : An2 n k ops s.1 s.1.length c.2 c.1) : InvC n k ops (Ni s c) := by
 unfold Ni
 split
 ·exact h
 rename_i hm
 refine ⟨fun t ht => ?_, ?_, by simp [h.len], fun i hi => ?_⟩
 ·rcases List.mem_append.1 ht with h1 | h1
  ·exact h.tabs t h1
  ·rw [List.mem_singleton.1 h1]; exact hc
 ·rw [List.nodup_append]
  refine ⟨h.nodup, by simp, fun a ha b hb => ?_⟩
  rw [List.mem_singleton.1 hb]
  rintro rfl; exact hm ha
 ·dsimp only at hi ⊢
  by_cases hl : i < s.1.length
  ·rw [Cy (by rw [h.len]; exact hl), Cy hl]
   exact Aeh (h.steps i hl) fun j hj => (Cy (by omega)).symm
  ·have e : i = s.1.length := by simp at hi; omega
   subst e
   rw [Qn]
   conv => rw [← h.len, Qn, h.len]
   exact Aeh hs fun j hj => (Cy hj).symm
theorem Qm {old r i : Nat} (hi : i < old ^ r) : Ct (Dz old r i) old := by
 by_cases h0 : 0 < old
 ·exact Afr h0 r i
 ·have : old = 0 := by omega
  subst this
  cases r with
  | zero => intro x hx; cases hx
  | succ r => simp at hi
theorem Ap4 {n k : Nat} {ops : List SOp} (hops : ∀ f ∈ ops, Ic n f) {T : List (List Int)} {old : Nat} (hT : ∀ j, j < old → Ib n (n ^ k) (nth T j)) {op i L : Nat} (hop : op < ops.length) (hi : i < old ^ (nth ops op).Arity.toNat) (hL : old ≤ L) {T' : List (List Int)} (hTT : ∀ j, j < old → nth T' j = nth T j) :
  Ib n (n ^ k) (Dl n (n ^ k) (nth ops op) op T old i).1 ∧ An2 n k ops T' L (Dl n (n ^ k) (nth ops op) op T old i).2 (Dl n (n ^ k) (nth ops op) op T old i).1 := by
 have ha := Qm hi
 constructor
 ·refine Alb (hops _ (A9 hop)) (by simp [G8]) fun t ht => ?_
  obtain ⟨x, hx, rfl⟩ := List.mem_map.1 ht
  have := ha x hx
  exact hT _ (by omega)
 ·refine .inr ⟨op, hop, rfl, G8 _ _ _, fun x hx => by have := ha x hx; omega, ?_⟩
  unfold Dl
  dsimp only
  congr 1
  refine List.map_congr_left fun x hx => ?_
  have := ha x hx
  exact (hTT _ (by omega)).symm
theorem Um {n P : Nat} {ops : List SOp} {T T' : List (List Int)} {old : Nat} (h : ∀ j, j < old → nth T j = nth T' j) : Hd n P ops T old = Hd n P ops T' old := by
 unfold Hd
 refine congrArg (fun g => List.flatMap g (List.range ops.length)) ?_
 funext op
 unfold Agv
 refine List.map_congr_left fun i hi => ?_
 have ha := Qm (List.mem_range.1 hi)
 unfold Dl
 congr 2
 refine List.map_congr_left fun x hx => ?_
 have := ha x hx
 exact h _ (by omega)
theorem Uy {n P : Nat} {ops : List SOp} {T : List (List Int)} {old : Nat} {c : List Int × SCloneStep} : c ∈ Hd n P ops T old ↔ ∃ op, op < ops.length ∧ ∃ i, i < old ^ (nth ops op).Arity.toNat ∧ c = Dl n P (nth ops op) op T old i := by
 unfold Hd Agv
 rw [List.mem_flatMap]
 constructor
 ·rintro ⟨op, h1, h2⟩
  obtain ⟨i, h3, rfl⟩ := List.mem_map.1 h2
  exact ⟨op, List.mem_range.1 h1, i, List.mem_range.1 h3, rfl⟩
 ·rintro ⟨op, h1, i, h3, rfl⟩
  exact ⟨op, List.mem_range.2 h1, List.mem_map.2 ⟨i, List.mem_range.2 h3, rfl⟩⟩
theorem InvC.adds {n k : Nat} {ops : List SOp} (hops : ∀ f ∈ ops, Ic n f) {T : List (List Int)} {old : Nat} (hT : ∀ j, j < old → Ib n (n ^ k) (nth T j)) : ∀ (l : List (List Int × SCloneStep)) {s : Clo}, InvC n k ops s → old ≤ s.1.length → (∀ j, j < old → nth s.1 j = nth T j) → (∀ c ∈ l, c ∈ Hd n (n ^ k) ops T old) → InvC n k ops (Iq s l) := by
 intro l
 induction l with
 | nil => intro s h _ _ _; exact h
 | cons c l ih =>
   intro s h hl hj hc
   obtain ⟨op, h1, i, h2, rfl⟩ := Uy.1 (hc c (by simp))
   obtain ⟨c1, c2⟩ := Ap4 hops hT h1 h2 hl hj
   obtain ⟨a, ha⟩ := Aam s (Dl n (n ^ k) (nth ops op) op T old i)
   refine ih (h.add c1 c2) (by rw [ha, List.length_append]; omega) (fun j hj' => ?_) (fun d hd => hc d (by simp [hd]))
   rw [ha, Cy (by omega)]
   exact hj j hj'
noncomputable def Hz (n P : Nat) (ops : List SOp) (s : Clo) : Clo := Iq s (Hd n P ops s.1 s.1.length)
noncomputable def Sp (n P : Nat) (ops : List SOp) : Nat → Nat → Clo → Option Clo
 | 0, _, _ => none
 | m + 1, old, s => if old < s.1.length then (if (Hz n P ops s).1.length > 60 then none else Sp n P ops m s.1.length (Hz n P ops s)) else some s
noncomputable def Fm (n k : Nat) : Clo := Iq ([], []) ((List.range k).map fun p => (F4 n k p, { Op := -1, Args := [(p : Int)] }))
noncomputable def Ako (n k : Nat) (ops : List SOp) : Option Clo := Sp n (n ^ k) ops 70 0 (Fm n k)
def Ahd (n k : Nat) (ops : List SOp) (T : List (List Int)) : Prop := ∀ op, op < ops.length → ∀ qs : List (List Int), qs.length = (nth ops op).Arity.toNat → (∀ t ∈ qs, t ∈ T) → J3 n (n ^ k) (nth ops op) qs ∈ T
theorem Amt {n k : Nat} {ops : List SOp} {T : List (List Int)} (h : ∀ c ∈ Hd n (n ^ k) ops T T.length, c.1 ∈ T) : Ahd n k ops T := by
 intro op hop qs hl has
 have hidx : ∃ xs : List Int, xs.length = qs.length ∧ Ct xs T.length ∧ xs.map (fun x => nth T x.toNat) = qs := by
  clear hl
  induction qs with
  | nil => exact ⟨[], rfl, nofun, rfl⟩
  | cons a qs ih =>
    obtain ⟨xs, h1, h2, h3⟩ := ih fun t ht => has t (by simp [ht])
    obtain ⟨i, hi, e⟩ := Pa.1 (has a (by simp))
    refine ⟨(i : Int) :: xs, by simp [h1], fun x hx => ?_, by simp [h3, e]⟩
    rcases List.mem_cons.1 hx with rfl | hx
    ·omega
    ·exact h2 x hx
 obtain ⟨xs, h1, h2, h3⟩ := hidx
 have hi : ∃ i, i < T.length ^ (nth ops op).Arity.toNat ∧ Dz T.length (nth ops op).Arity.toNat i = xs := by
  obtain ⟨c, c1, c2⟩ := O8 (m := T.length) (nth ops op).Arity.toNat xs (by omega) h2
  refine ⟨c, c2, ?_⟩
  by_cases h0 : 0 < T.length
  ·have := Acw h0 (nth ops op).Arity.toNat xs (by omega) h2
   rwa [c1, Int.toNat_natCast] at this
  ·have e : T.length = 0 := by omega
   cases xs with
   | nil => rw [show (nth ops op).Arity.toNat = 0 by simp at h1; omega]; rfl
   | cons x xs => have := h2 x (by simp); omega
 obtain ⟨i, hi, e⟩ := hi
 have := h _ (Uy.2 ⟨op, hop, i, hi, rfl⟩)
 unfold Dl at this
 dsimp only at this
 rw [e, h3] at this
 exact this
theorem Atc {n k : Nat} {ops : List SOp} (hops : ∀ f ∈ ops, Ic n f) : ∀ (m old : Nat) (s S : Clo), InvC n k ops s → old ≤ s.1.length → s.1.length ≤ 60 → (∀ c ∈ Hd n (n ^ k) ops s.1 old, c.1 ∈ s.1) → Sp n (n ^ k) ops m old s = some S →
  InvC n k ops S ∧ S.1.length ≤ 60 ∧ Ahd n k ops S.1 ∧ ∃ a, S.1 = s.1 ++ a := by
 intro m
 induction m with
 | zero => intro old s S _ _ _ _ h; cases h
 | succ m ih =>
   intro old s S h hl h60 hc hr
   unfold Sp at hr
   by_cases ho : old < s.1.length
   ·rw [if_pos ho] at hr
    by_cases h6 : (Hz n (n ^ k) ops s).1.length > 60
    ·rw [if_pos h6] at hr; cases hr
    ·rw [if_neg h6] at hr
     have hT : ∀ j, j < s.1.length → Ib n (n ^ k) (nth s.1 j) := fun j hj => h.tabs _ (A9 hj)
     obtain ⟨a, ha⟩ := La (Hd n (n ^ k) ops s.1 s.1.length) s
     have ha' : (Hz n (n ^ k) ops s).1 = s.1 ++ a := ha
     obtain ⟨r1, r2, r3, b, r4⟩ := ih s.1.length (Hz n (n ^ k) ops s) S (InvC.adds hops hT _ h (Nat.le_refl _) (fun _ _ => rfl) fun _ hx => hx) (by rw [ha', List.length_append]; omega) (by omega) (by
      rw [ha', ← Um (T := s.1) fun j hj => (Cy hj).symm, ← ha]
      exact fun c hc => Ye _ s c hc) hr
     exact ⟨r1, r2, r3, a ++ b, by rw [r4, ha', List.append_assoc]⟩
   ·rw [if_neg ho] at hr
    cases hr
    refine ⟨h, h60, Amt ?_, [], by simp⟩
    rw [show s.1.length = old by omega]
    exact hc
theorem Ahy (n k : Nat) (ops : List SOp) : InvC n k ops ([], []) := ⟨nofun, List.nodup_nil, rfl, nofun⟩
def Z1 (n k p : Nat) : List Int × SCloneStep := (F4 n k p, { Op := -1, Args := [(p : Int)] })
theorem R0 (l : List (List Int × SCloneStep)) : ∀ s : Clo, (Iq s l).1.length ≤ s.1.length + l.length := by
 induction l with
 | nil => intro s; simp [Iq]
 | cons c l ih =>
   intro s
   have h1 : (Ni s c).1.length ≤ s.1.length + 1 := by
    unfold Ni; split
    ·omega
    ·simp
   have := ih (Ni s c)
   show (Iq (Ni s c) l).1.length ≤ _
   simp only [List.length_cons]; omega
theorem Adc {n k : Nat} (hn : 0 < n) (ops : List SOp) : ∀ (l : List (List Int × SCloneStep)) {s : Clo}, InvC n k ops s → (∀ c ∈ l, ∃ p, p < k ∧ c = Z1 n k p) → InvC n k ops (Iq s l) := by
 intro l
 induction l with
 | nil => intro s h _; exact h
 | cons c l ih =>
   intro s h hc
   obtain ⟨p, hp, rfl⟩ := hc c (by simp)
   exact ih (h.add (Akw hn hp) (.inl ⟨rfl, p, hp, rfl, rfl⟩)) fun d hd => hc d (by simp [hd])
theorem Adl {n k : Nat} (hn : 0 < n) (ops : List SOp) : InvC n k ops (Fm n k) :=
 Adc hn ops _ (Ahy n k ops) fun c hc => by
  obtain ⟨p, hp, rfl⟩ := List.mem_map.1 hc
  exact ⟨p, List.mem_range.1 hp, rfl⟩
theorem Ya {n k p : Nat} (hp : p < k) : F4 n k p ∈ (Fm n k).1 :=
 Ye _ ([], []) (Z1 n k p) (List.mem_map.2 ⟨p, List.mem_range.2 hp, rfl⟩)
theorem Ac9 (n k : Nat) : (Fm n k).1.length ≤ k := by
 have := R0 ((List.range k).map fun p => (F4 n k p, ({ Op := -1, Args := [(p : Int)] } : SCloneStep))) ([], [])
 simpa [Fm] using this
structure CloC (n k : Nat) (ops : List SOp) (S : Clo) : Prop where
 inv : InvC n k ops S
 le : S.1.length ≤ 60
 closed : Ahd n k ops S.1
 prj : ∀ p, p < k → F4 n k p ∈ S.1
theorem Ash {n k : Nat} (hn : 0 < n) (h1 : 1 ≤ k) {ops : List SOp} (hops : ∀ f ∈ ops, Ic n f) {S : Clo} (h : Ako n k ops = some S) : CloC n k ops S := by
 have hI := Adl (k := k) hn ops
 have hl := Ac9 n k
 have h0 : 0 < (Fm n k).1.length := List.length_pos_of_mem (Ya h1)
 unfold Ako at h
 have h' := h
 unfold Sp at h
 rw [if_pos h0] at h
 by_cases h6 : (Hz n (n ^ k) ops (Fm n k)).1.length > 60
 ·rw [if_pos h6] at h; cases h
 rw [if_neg h6] at h
 have hT : ∀ j, j < (Fm n k).1.length → Ib n (n ^ k) (nth (Fm n k).1 j) := fun j hj => hI.tabs _ (A9 hj)
 obtain ⟨a, ha⟩ := La (Hd n (n ^ k) ops (Fm n k).1 (Fm n k).1.length) (Fm n k)
 have ha' : (Hz n (n ^ k) ops (Fm n k)).1 = (Fm n k).1 ++ a := ha
 obtain ⟨r1, r2, r3, b, r4⟩ := Atc hops 69 (Fm n k).1.length (Hz n (n ^ k) ops (Fm n k)) S (InvC.adds hops hT _ hI (Nat.le_refl _) (fun _ _ => rfl) fun _ hx => hx) (by rw [ha', List.length_append]; omega) (by omega) (by
  rw [ha', ← Um (T := (Fm n k).1) fun j hj => (Cy hj).symm, ← ha]
  exact fun c hc => Ye _ _ c hc) h
 refine ⟨r1, r2, r3, fun p hp => ?_⟩
 rw [r4, ha', List.append_assoc]
 exact List.mem_append_left _ (Ya hp)
theorem Aqk {n k : Nat} (hn : 0 < n) {ops : List SOp} {S : Clo} (h : CloC n k ops S) {qs : List (List Int)} (hl : qs.length = k) (has : ∀ t ∈ qs, t ∈ S.1) : ∀ i, i < S.1.length → J3 n (n ^ k) { Arity := k, Table := nth S.1 i } qs ∈ S.1 := by
 have hok : ∀ t ∈ qs, Ib n (n ^ k) t := fun t ht => h.inv.tabs t (has t ht)
 intro i
 induction i using Nat.strongRecOn with
 | ind i ih =>
   intro hi
   have hrow : ∀ x, x < n ^ k → ∃ c : Nat, N6 n (qs.map fun t => nth t x) = (c : Int) ∧ c < n ^ k ∧ Dz n k c = qs.map fun t => nth t x := fun x hx => by
    have hin := X4 hok hx
    obtain ⟨c, c1, c2⟩ := O8 (m := n) k _ (by simpa using hl) hin
    have := Acw hn k _ (by simpa using hl) hin
    rw [c1, Int.toNat_natCast] at this
    exact ⟨c, c1, c2, this⟩
   rcases h.inv.steps i hi with ⟨_, p, hp, _, e⟩ | ⟨op, hop, _, h3, h4, e⟩
   ·have : J3 n (n ^ k) { Arity := k, Table := nth S.1 i } qs = nth qs p := by
     have hlen := (hok _ (A9 (show p < qs.length by omega))).1
     refine Ab5 (by rw [Hb, hlen]) fun x hx => ?_
     rw [Hb] at hx
     obtain ⟨c, c1, c2, c3⟩ := hrow x hx
     rw [Nd hx, c1, Int.toNat_natCast]
     dsimp only
     rw [e, Nl c2, c3, D1 _ (by omega)]
    rw [this]
    exact has _ (A9 (by omega))
   ·have : J3 n (n ^ k) { Arity := k, Table := nth S.1 i } qs = J3 n (n ^ k) (nth ops op) ((nth S.2 i).Args.map fun x => J3 n (n ^ k) { Arity := k, Table := nth S.1 x.toNat } qs) := by
     refine Ab5 (by rw [Hb, Hb]) fun x hx => ?_
     rw [Hb] at hx
     obtain ⟨c, c1, c2, c3⟩ := hrow x hx
     rw [Nd hx, Nd hx, c1, Int.toNat_natCast]
     dsimp only
     rw [e, Nd c2]
     congr 3
     rw [List.map_map, List.map_map]
     refine List.map_congr_left fun y _ => ?_
     show _ = nth (J3 n (n ^ k) { Arity := (k : Int), Table := nth S.1 y.toNat } qs) x
     rw [Nd hx, c1]; rfl
    rw [this]
    refine h.closed op hop _ (by rw [List.length_map, h3]) fun t ht => ?_
    obtain ⟨y, hy, rfl⟩ := List.mem_map.1 ht
    have := h4 y hy
    exact ih y.toNat (by omega) (by omega)
end Go.Proofs.Ytoaojijoefljaaa.Ax
namespace Go.Proofs.Ytoaojijoefljaaa.Ax
open Go Classical
structure Perm (f : List Int) (n : Nat) : Prop where
 len : f.length = n
 fin : Ct f n
 un : uniq f
theorem Perm.count {f : List Int} {n : Nat} (h : Perm f n) : ∀ i, i ≤ n → (S8 n fun z => decide ((z : Int) ∈ f.take i)).length = i := by
 intro i
 induction i with
 | zero =>
   intro _
   rw [List.length_eq_zero_iff]
   exact Asz.2 fun z _ => by simp
 | succ i ih =>
   intro hi
   have hil : i < f.length := by rw [h.len]; exact hi
   have hv := h.fin _ (A9 hil)
   have hu := h.un i hil
   have hc : nth f i = (((nth f i).toNat : Nat) : Int) := by omega
   have := Asy (q := fun z => decide ((z : Int) ∈ f.take i)) (q' := fun z => decide ((z : Int) ∈ f.take (i + 1))) (x := (nth f i).toNat) (decide_eq_false (by rw [← hc]; exact hu)) (fun z => by
    rw [D4 hil, Bool.eq_iff_iff]
    simp only [decide_eq_true_eq, List.mem_append, List.mem_singleton, Bool.or_eq_true]
    constructor
    ·rintro (h1 | h1)
     ·exact .inl h1
     ·exact .inr (by omega)
    ·rintro (h1 | h1)
     ·exact .inl h1
     ·exact .inr (by omega)) n
   rw [this, ih (by omega), if_pos (by omega)]
section
variable {a : SAlgebra} {f : List Int} {n : Nat}
end
end Go.Proofs.Ytoaojijoefljaaa.Ax
namespace Go.Proofs.Ytoaojijoefljaaa.Ax
open Go Classical
theorem Au9 {xs : List Int} (h : xs.length ≤ LIM) : Jq xs = some xs := by
 unfold Jq
 rw [Af (by show 0 + xs.length ≤ _; omega)]; rfl
section
variable {a b : SAlgebra} {f : List Int} {n m : Nat}
end
section
variable {a b : SAlgebra} {f : List Int}
end
def Tb (f g : List Int) : List Int := f.map fun x => nth g x.toNat
theorem Asw {f g : List Int} (hl : f.length ≤ LIM) (hx : Ct f g.length) : I2 f g = some (Tb f g) := by
 have hL := Bk
 unfold I2
 rw [Af (by omega), Int.toNat_natCast]
 have key := Bs (body := Dx f g) (fun i => ((i : Int), (Tb f g).take i ++ List.replicate (f.length - i) 0)) f.length (Tb f g) (fun i hi => by
  unfold Dx
  dsimp only
  have hv := hx _ (A9 hi)
  have hcl : (Tb f g).length = f.length := by simp [Tb]
  rw [if_pos (by omega), Af (by omega), Int.toNat_natCast, Af (by omega), Af (by simp; omega), Af (by unfold InI; omega), D4 (by omega), show f.length - i = (f.length - (i + 1)) + 1 by omega, List.replicate_succ]
  have e : nth (Tb f g) i = nth g (nth f i).toNat := D1 _ hi
  rw [e]
  congr 3
  have h1 : ((Tb f g).take i).length = i := by simp; omega
  rw [List.set_append, if_neg (by omega), h1, Nat.sub_self, List.set_cons_zero, List.append_assoc]
  rfl) (by
  unfold Dx
  dsimp only
  rw [if_neg (by omega), Nat.sub_self, List.take_of_length_le (by simp [Tb])]
  simp)
 have key' : Ar (Dx f g) (0, List.replicate f.length 0) = some (Tb f g) := by simpa using key
 rw [key']; rfl
section
variable {a b c : SAlgebra} {f g : List Int}
end
section
variable {a b : SAlgebra} {f : List Int}
end
end Go.Proofs.Ytoaojijoefljaaa.Ax
namespace Go.Proofs.Ytoaojijoefljaaa.Ax
open Go Classical
theorem Av3 {n : Nat} (hn : 0 < n) : ∀ (r k : Nat) (xs : List Int), r ≤ xs.length → xs.length ≤ 1000 → k ≤ 1048576 → Ar (Ei n) ((r : Int) - 1, xs, (k : Int)) = some (Dz n r k ++ xs.drop r) := by
 intro r
 induction r with
 | zero =>
   intro k xs _ _ _
   refine Fa ?_
   unfold Ei
   dsimp only
   rw [if_neg (by omega)]
   simp [Dz]
 | succ r ih =>
   intro k xs hr hl hk
   have c1 : (k : Int).tdiv (n : Int) = ((k / n : Nat) : Int) := rfl
   have c2 : (k : Int).tmod (n : Int) = ((k % n : Nat) : Int) := rfl
   have hd : k / n ≤ k := Nat.div_le_self k n
   have step : Ei n (((r + 1 : Nat) : Int) - 1, xs, (k : Int)) = some (.inl ((r : Int) - 1, xs.set r ((k % n : Nat) : Int), ((k / n : Nat) : Int))) := by
    unfold Ei
    dsimp only
    rw [show (((r + 1 : Nat) : Int) - 1) = (r : Int) by omega, c1, c2]
    generalize k / n = kd at hd
    rw [if_pos (by omega), Af (by omega), Af (by omega), Af (by unfold InI; omega), Af (by unfold InI; omega), Int.toNat_natCast]
   rw [Mq step, ih _ _ (by rw [List.length_set]; omega) (by rw [List.length_set]; exact hl) (by omega)]
   congr 1
   simp only [Dz]
   rw [List.append_assoc]
   congr 1
   have e : (xs.set r ((k % n : Nat) : Int)).drop r = ((k % n : Nat) : Int) :: xs.drop (r + 1) := by
    refine List.ext_getElem (by simp; omega) fun i h1 h2 => ?_
    rw [List.getElem_drop, List.getElem_set]
    cases i with
    | zero => simp
    | succ i =>
      rw [if_neg (by omega), List.getElem_cons_succ, List.getElem_drop]
      congr 1; omega
   rw [e]; rfl
theorem Acz {n r k : Nat} (hn : 0 < n) (hr : r ≤ 100) (hk : k ≤ 1048576) : Gx n r k = some (Dz n r k) := by
 unfold Gx
 rw [Af (by rw [Bk]; omega), Af (by unfold InI; omega), Int.toNat_natCast, Av3 hn r k _ (by simp) (by simp; omega) hk]
 simp
theorem Adw {n r k : Nat} (hn : 0 < n) (hr : r ≤ 100) (hk : k ≤ 1048576) : Gw k r n = some (Dz n r k) := by
 have : Gw (k : Int) (r : Int) (n : Int) = Gx (n : Int) (r : Int) (k : Int) := rfl
 rw [this]; exact Acz hn hr hk
section
variable {n P : Nat} {f : SOp} {ts : List (List Int)}
theorem Vm (hn : n ≤ 8) (hf : Ic n f) (hl : ts.length = f.Arity.toNat) (ht : ∀ t ∈ ts, Ib n P t) (hP : P ≤ 1000) : Dh n f ts P = some (J3 n P f ts) := by
 have hL := Bk
 have hf3 := hf.2.1
 have hts : ts.length ≤ 3 := by omega
 have hcl := Hb n P f ts
 unfold Dh
 rw [Af (by omega)]
 have inner : ∀ (x : Nat) (b : List Int), x < P → Ar (Cf n f ts P x b) (0, 0) = some (N6 n (ts.map fun t => nth t x)) := by
  intro x b hx
  have hin := X4 ht hx
  have key := Bs (body := Cf n f ts P x b) (fun i => ((i : Int), N6 n ((ts.map fun t => nth t x).take i))) ts.length (N6 n (ts.map fun t => nth t x)) (fun i hi => by
   have htl := (ht _ (A9 hi)).1
   obtain ⟨h1, h2⟩ := Acu hn (xs := ts.map fun t => nth t x) (by simpa using hts) hin (i := i) (by simpa using hi)
   have hv : nth (ts.map fun t => nth t x) i = nth (nth ts i) x := D1 _ hi
   rw [hv] at h2
   unfold Cf
   dsimp only
   rw [if_pos (by omega), Af (by omega), Af h1, Int.toNat_natCast, Af (by omega), Int.toNat_natCast, Af h2, Af (by unfold InI; omega), Acg (by simpa using hi), hv]
   rfl) (by
   unfold Cf
   dsimp only
   rw [if_neg (by omega), List.take_of_length_le (by simp)])
  exact key
 have key := Bs (body := Ce n f ts P) (fun i => ((i : Int), (J3 n P f ts).take i ++ List.replicate (P - i) 0)) P (J3 n P f ts) (fun i hi => by
  have hin := X4 ht hi
  obtain ⟨c, c1, c2⟩ := O8 f.Arity.toNat _ (by simpa using hl) hin
  rw [← hf.2.2.1] at c2
  have e : (J3 n P f ts).take (i + 1) = (J3 n P f ts).take i ++ [nth f.Table c] := by
   rw [D4 (by omega), Nd hi, c1, Int.toNat_natCast]
  unfold Ce
  dsimp only
  rw [if_pos (by omega), inner i _ hi, c1]
  simp only [Option.bind_some]
  rw [Af (by omega), Af (by simp; omega), Af (by unfold InI; omega)]
  simp only [Int.toNat_natCast]
  rw [Arb _ _ _ hi (by simp; omega), ← e]
  rfl) (by
  unfold Ce
  dsimp only
  rw [if_neg (by omega), List.take_of_length_le (by omega)]
  simp)
 simp only [List.take_zero, List.nil_append, Nat.sub_zero] at key
 simp only [Int.toNat_natCast]
 have key' : Ar (Ce n f ts P) (0, List.replicate P 0) = _ := key
 rw [key']; rfl
theorem U7 (hn : n ≤ 8) (hf : Ic n f) (hl : ts.length = f.Arity.toNat) (ht : ∀ t ∈ ts, Ib n P t) (hP : P ≤ 1000) : Dw n f ts P = some (J3 n P f ts) := by
 have hL := Bk
 have hf3 := hf.2.1
 have hts : ts.length ≤ 3 := by omega
 have hcl := Hb n P f ts
 unfold Dw
 have inner : ∀ (x : Nat) (b : List Int), x < P → Ar (Cv n f ts P x b) (0, 0) = some (N6 n (ts.map fun t => nth t x)) := by
  intro x b hx
  have hin := X4 ht hx
  have key := Bs (body := Cv n f ts P x b) (fun i => ((i : Int), N6 n ((ts.map fun t => nth t x).take i))) ts.length (N6 n (ts.map fun t => nth t x)) (fun i hi => by
   have htl := (ht _ (A9 hi)).1
   obtain ⟨h1, h2⟩ := Acu hn (xs := ts.map fun t => nth t x) (by simpa using hts) hin (i := i) (by simpa using hi)
   have hv : nth (ts.map fun t => nth t x) i = nth (nth ts i) x := D1 _ hi
   rw [hv] at h2
   unfold Cv
   dsimp only
   rw [if_pos (by omega), Af h1, Af (by omega), Int.toNat_natCast, Af (by omega), Int.toNat_natCast, Af h2, Af (by unfold InI; omega), Acg (by simpa using hi), hv]
   rfl) (by
   unfold Cv
   dsimp only
   rw [if_neg (by omega), List.take_of_length_le (by simp)])
  exact key
 have key := Bs (body := Cu n f ts P) (fun i => ((i : Int), (J3 n P f ts).take i)) P (J3 n P f ts) (fun i hi => by
  have hin := X4 ht hi
  obtain ⟨c, c1, c2⟩ := O8 f.Arity.toNat _ (by simpa using hl) hin
  rw [← hf.2.2.1] at c2
  have e : (J3 n P f ts).take (i + 1) = (J3 n P f ts).take i ++ [nth f.Table c] := by
   rw [D4 (by omega), Nd hi, c1, Int.toNat_natCast]
  unfold Cu
  dsimp only
  rw [if_pos (by omega), inner i _ hi, c1]
  simp only [Option.bind_some]
  rw [Af (by omega), Af (by simp only [List.length_take, List.length_cons, List.length_nil]; omega), Af (by unfold InI; omega)]
  simp only [Int.toNat_natCast]
  rw [← e]
  rfl) (by
  unfold Cu
  dsimp only
  rw [if_neg (by omega), List.take_of_length_le (by omega)])
 have key' : Ar (Cu n f ts P) (0, Ao Int) = _ := key
 rw [key']; rfl
end
theorem Ux {n k p : Nat} (hn1 : 0 < n) (hn : n ≤ 8) (hk : k ≤ 3) (hp : p < k) : E1 n k p = some (F4 n k p) := by
 have hL := Bk
 have hpw := H5 hn hk
 have hcl := Xb n k p
 unfold E1
 rw [Rp hn hk]
 simp only [Option.bind_some]
 rw [Af (by omega)]
 have key := Bs (body := Cq n k p ((n ^ k : Nat) : Int)) (fun i => ((i : Int), (F4 n k p).take i ++ List.replicate (n ^ k - i) 0)) (n ^ k) (F4 n k p) (fun i hi => by
  have hal := G8 n k i
  have e : (F4 n k p).take (i + 1) = (F4 n k p).take i ++ [nth (Dz n k i) p] := by
   rw [D4 (by omega), Nl hi]
  unfold Cq
  dsimp only
  rw [if_pos (by omega), Adw hn1 (by omega) (by omega)]
  simp only [Option.bind_some]
  rw [Af (by omega), Af (by simp; omega), Af (by unfold InI; omega)]
  simp only [Int.toNat_natCast]
  rw [Arb _ _ _ hi (by simp; omega), ← e]
  rfl) (by
  unfold Cq
  dsimp only
  rw [if_neg (by omega), List.take_of_length_le (by omega)]
  simp)
 simp only [List.take_zero, List.nil_append, Nat.sub_zero] at key
 simp only [Int.toNat_natCast]
 have key' : Ar (Cq n k p ((n ^ k : Nat) : Int)) (0, List.replicate (n ^ k) 0) = _ := key
 rw [key']; rfl
theorem Ia {n k p : Nat} (hn1 : 0 < n) (hn : n ≤ 8) (hk : k ≤ 3) (hp : p < k) : Ci n k p = some (F4 n k p) := by
 have hL := Bk
 have hpw := H5 hn hk
 have hcl := Xb n k p
 unfold Ci
 have key := Bs (body := Cg n k p) (fun i => ((i : Int), (F4 n k p).take i)) (n ^ k) (F4 n k p) (fun i hi => by
  have hal := G8 n k i
  have e : (F4 n k p).take (i + 1) = (F4 n k p).take i ++ [nth (Dz n k i) p] := by
   rw [D4 (by omega), Nl hi]
  unfold Cg
  dsimp only
  rw [Rd hn hk]
  simp only [Option.bind_some]
  rw [if_pos (by omega), Acz hn1 (by omega) (by omega)]
  simp only [Option.bind_some]
  rw [Af (by omega), Af (by simp only [List.length_take, List.length_cons, List.length_nil]; omega), Af (by unfold InI; omega)]
  simp only [Int.toNat_natCast]
  rw [← e]
  rfl) (by
  unfold Cg
  dsimp only
  rw [Rd hn hk]
  simp only [Option.bind_some]
  rw [if_neg (by omega), List.take_of_length_le (by omega)])
 have key' : Ar (Cg n k p) (0, Ao Int) = _ := key
 rw [key']; rfl
theorem Amn {xs : List Int} (h : xs.length ≤ LIM) : Jp xs = some xs := by
 unfold Jp
 rw [Af (by simpa using h)]
 simp
theorem Ad1 {T : List (List Int)} {t : List Int} (hT : T.length ≤ 1048576) (hr : ∀ u ∈ T, u.length ≤ LIM) : (t ∉ T ∧ D9 T t = some (-1)) ∨ ∃ i, i < T.length ∧ nth T i = t ∧ (∀ j, j < i → nth T j ≠ t) ∧ D9 T t = some (i : Int) := by
 have step : ∀ i, i < T.length → Bt T t (i : Int) = if nth T i = t then some (.inr (.inl (i : Int))) else some (.inl ((i + 1 : Nat) : Int)) := by
  intro i hi
  unfold Bt
  rw [if_pos (by omega), Af (by omega), Int.toNat_natCast, Ah8 (hr _ (A9 hi))]
  simp only [Option.bind_some, decide_eq_true_eq]
  split
  ·rfl
  ·rw [Af (by unfold InI; omega)]; rfl
 have stop : Bt T t (T.length : Int) = some (.inr (.inr ())) := by
  unfold Bt
  rw [if_neg (by omega)]
 unfold D9
 by_cases h : ∃ i, i < T.length ∧ nth T i = t
 ·right
  obtain ⟨i, h1, h2, h3⟩ : ∃ i, i < T.length ∧ nth T i = t ∧ ∀ j, j < i → nth T j ≠ t := by
   have key : ∀ m i, i ≤ m → i < T.length → nth T i = t → ∃ i, i < T.length ∧ nth T i = t ∧ ∀ j, j < i → nth T j ≠ t := by
    intro m
    induction m with
    | zero => intro i hm h1 h2; exact ⟨i, h1, h2, fun j hj => by omega⟩
    | succ m ih =>
      intro i hm h1 h2
      by_cases hy : ∃ j, j < i ∧ nth T j = t
      ·obtain ⟨j, k1, k2⟩ := hy
       exact ih j (by omega) (by omega) k2
      ·exact ⟨i, h1, h2, fun j k1 k2 => hy ⟨j, k1, k2⟩⟩
   obtain ⟨i, h1, h2⟩ := h
   exact key i i (Nat.le_refl _) h1 h2
  refine ⟨i, h1, h2, h3, ?_⟩
  have key := Yf (body := Bt T t) (fun i => (i : Int)) 0 i (.inl (i : Int)) (Nat.zero_le _) (fun j _ hj => by rw [step j (by omega), if_neg (h3 j hj)]) (by rw [step i h1, if_pos h2])
  have key' : Ar (Bt T t) 0 = _ := key
  rw [key']; rfl
 ·left
  refine ⟨fun hm => ?_, ?_⟩
  ·obtain ⟨i, h1, h2⟩ := Pa.1 hm
   exact h ⟨i, h1, h2⟩
  ·have key := Bs (body := Bt T t) (fun i => (i : Int)) T.length (.inr ()) (fun j hj => by rw [step j hj, if_neg (fun e => h ⟨j, hj, e⟩)]) stop
   have key' : Ar (Bt T t) 0 = _ := key
   rw [key']; rfl
def fnd (s : Clo) (S : List (ByteArray × Bool)) : Sfound := { tables := s.1, steps := s.2, seen := S }
theorem Adt {n P : Nat} (hn : n ≤ 8) {t : List Int} (h : Ib n P t) : ∀ x ∈ t, 0 ≤ x ∧ x < 65536 := fun x hx => by have := h.2 x hx; omega
theorem Aee {n P : Nat} (hn : n ≤ 8) (hP : P ≤ 1000) {s : Clo} {S : List (ByteArray × Bool)} (hS : Wq S s.1) (hT : ∀ t ∈ s.1, Ib n P t) (hl : s.1.length ≤ 1000) (hl2 : s.2.length ≤ 1000) {t : List Int} (ht : Ib n P t) {op : Int} {qs : List Int} (ha : qs.length ≤ 1000) :
  ∃ S', Dq (fnd s S) t op qs = some ((), fnd (Ni s (t, { Op := op, Args := qs })) S') ∧ Wq S' (Ni s (t, { Op := op, Args := qs })).1 := by
 have hL := Bk
 have hiff : (∃ u ∈ s.1, Adb u = Adb t) ↔ t ∈ s.1 := by
  constructor
  ·rintro ⟨u, hu, e⟩
   rwa [← Anj (Adt hn (hT u hu)) (Adt hn ht) e]
  ·exact fun h => ⟨t, h, rfl⟩
 have h1 := hS (Adb t)
 have e0 : Dq (fnd s S) t op qs = Dq { tables := s.1, steps := s.2, seen := S } t op qs := rfl
 rw [e0]
 unfold Dq
 rw [Arg (by have := ht.1; omega)]
 simp only [Option.bind_some]
 by_cases hm : t ∈ s.1
 ·have ea : Ni s (t, { Op := op, Args := qs }) = s := if_pos hm
  have h2 : (E5 S (Adb t)).getD false = true := by rw [h1]; exact decide_eq_true (hiff.2 hm)
  rw [ea, if_pos h2]
  exact ⟨S, rfl, hS⟩
 ·have ea : Ni s (t, { Op := op, Args := qs }) = (s.1 ++ [t], s.2 ++ [{ Op := op, Args := qs }]) := if_neg hm
  have h2 : ¬ (E5 S (Adb t)).getD false = true := by rw [h1, decide_eq_false fun h1 => hm (hiff.1 h1)]; simp
  rw [ea, if_neg h2, Af (by simp only [List.length_cons, List.length_nil]; omega), Amn (by omega)]
  simp only [Option.bind_some]
  rw [Af (by simp only [List.length_cons, List.length_nil]; omega)]
  exact ⟨K5 S (Adb t) true, rfl, Ar6 hS t⟩
def Yv (n P : Nat) (R : Sl12Find) (s : Clo) : Prop := (s.1.length ≤ 60 ∧ R = { tables := s.1, steps := s.2, large := false }) ∨ (60 < s.1.length ∧ R.large = true ∧ R.tables.length = 60 ∧ ∀ t ∈ R.tables, Ib n P t)
theorem Aoy {n P : Nat} (hP : P ≤ 1000) {R : Sl12Find} {s : Clo} (h : Yv n P R s) (hT : ∀ t ∈ s.1, Ib n P t) (hl2 : s.2.length ≤ 100000) {c : List Int × SCloneStep} : ∃ R', G0 R c.1 c.2 = some R' ∧ Yv n P R' (Ni s c) := by
 have hL := Bk
 have hlen : s.1.length ≤ (Ni s c).1.length := by
  obtain ⟨a, ha⟩ := Aam s c
  rw [ha, List.length_append]; omega
 unfold G0
 rcases h with ⟨h1, rfl⟩ | ⟨h1, h2, h3, h4⟩
 ·dsimp only
  rw [if_neg (by simp)]
  unfold Yv Ni
  rcases Ad1 (T := s.1) (t := c.1) (by omega) (fun u hu => by have := (hT u hu).1; omega) with ⟨hm, e⟩ | ⟨i, hi, e1, _, e⟩
  ·rw [e, if_neg hm]
   simp only [Option.bind_some]
   rw [if_neg (by omega)]
   simp only [Option.bind_some]
   by_cases h60 : s.1.length = 60
   ·rw [if_pos (by omega)]
    exact ⟨_, rfl, .inr ⟨by simp; omega, rfl, h60, hT⟩⟩
   ·rw [if_neg (by omega), Af (by simp only [List.length_cons, List.length_nil]; omega), Af (by simp only [List.length_cons, List.length_nil]; omega)]
    exact ⟨_, rfl, .inl ⟨by simp; omega, rfl⟩⟩
  ·have hin : c.1 ∈ s.1 := by rw [← e1]; exact A9 hi
   rw [e]
   simp only [Option.bind_some]
   rw [if_pos (by omega)]
   exact ⟨_, rfl, .inl ⟨by rw [if_pos hin]; exact h1, by rw [if_pos hin]⟩⟩
 ·rw [if_pos h2]
  exact ⟨R, rfl, .inr ⟨by omega, h2, h3, h4⟩⟩
end Go.Proofs.Ytoaojijoefljaaa.Ax
namespace Go.Proofs.Ytoaojijoefljaaa.Ax
open Go Classical
theorem Axd {m r : Nat} (hm : m ≤ 60) (hr : r ≤ 3) : ∀ i, i ≤ r → m ^ i ≤ 216000 := fun i hi => by
 by_cases h0 : 0 < m
 ·exact Nat.le_trans (Nat.pow_le_pow_right h0 (show i ≤ 3 by omega)) (Nat.le_trans (Nat.pow_le_pow_left hm 3) (by decide))
 ·have : m = 0 := by omega
  subst this
  cases i with
  | zero => decide
  | succ i => rw [Nat.zero_pow (by omega)]; decide
theorem Aut {α : Type} (A xs : List α) (j : Nat) (hA : A.length = j) (hj : j < xs.length) (v : α) : (A ++ xs.drop j).set j v = (A ++ [v]) ++ xs.drop (j + 1) := by
 rw [List.set_append, if_neg (by omega), hA, Nat.sub_self, List.drop_eq_getElem_cons hj, List.set_cons_zero]
 simp
noncomputable def Hx (s : Clo) (c : Nat → List Int × SCloneStep) (i : Nat) : Clo := Iq s ((List.range i).map c)
theorem Pf (s : Clo) (c : Nat → List Int × SCloneStep) (i : Nat) : Hx s c (i + 1) = Ni (Hx s c i) (c i) := by
 unfold Hx; rw [List.range_succ, List.map_append]; exact Aqg _ _ _
theorem Ani (s : Clo) (c : Nat → List Int × SCloneStep) {i j : Nat} (h : i ≤ j) : (Hx s c i).1.length ≤ (Hx s c j).1.length := by
 induction j with
 | zero => rw [show i = 0 by omega]; exact Nat.le_refl _
 | succ j ih =>
   by_cases hij : i = j + 1
   ·subst hij; exact Nat.le_refl _
   ·refine Nat.le_trans (ih (by omega)) ?_
    rw [Pf]
    obtain ⟨a, ha⟩ := Aam (Hx s c j) (c j)
    rw [ha, List.length_append]; omega
theorem And (s : Clo) (c : Nat → List Int × SCloneStep) (i : Nat) : ∃ a, (Hx s c i).1 = s.1 ++ a := La _ s
noncomputable def seqO (n P : Nat) (ops : List SOp) (T : List (List Int)) (old : Nat) (s : Clo) (m : Nat) : Clo := Iq s ((List.range m).flatMap fun op => Agv n P (nth ops op) op T old)
theorem Acl (n P : Nat) (ops : List SOp) (T : List (List Int)) (old : Nat) (s : Clo) (m : Nat) : seqO n P ops T old s (m + 1) = Hx (seqO n P ops T old s m) (Dl n P (nth ops m) m T old) (old ^ (nth ops m).Arity.toNat) := by
 unfold seqO Hx
 rw [List.range_succ, List.flatMap_append, Akh]
 simp [Agv]
theorem Anb (n P : Nat) (ops : List SOp) (s : Clo) : seqO n P ops s.1 s.1.length s ops.length = Hz n P ops s := rfl
theorem Aup (n P : Nat) (ops : List SOp) (T : List (List Int)) (old : Nat) (s : Clo) (m : Nat) : ∃ a, (seqO n P ops T old s m).1 = s.1 ++ a := La _ s
theorem Aon (n P : Nat) (ops : List SOp) (T : List (List Int)) (old : Nat) (s : Clo) {i j : Nat} (h : i ≤ j) : (seqO n P ops T old s i).1.length ≤ (seqO n P ops T old s j).1.length := by
 induction j with
 | zero => rw [show i = 0 by omega]; exact Nat.le_refl _
 | succ j ih =>
   by_cases hij : i = j + 1
   ·subst hij; exact Nat.le_refl _
   ·refine Nat.le_trans (ih (by omega)) ?_
    rw [Acl]
    obtain ⟨a, ha⟩ := And (seqO n P ops T old s j) (Dl n P (nth ops j) j T old) (old ^ (nth ops j).Arity.toNat)
    rw [ha, List.length_append]; omega
structure RndC (n k : Nat) (ops : List SOp) (T : List (List Int)) (s : Clo) : Prop where
 n1 : 0 < n
 n8 : n ≤ 8
 k3 : k ≤ 3
 pl : n ^ k ≤ 512
 ok : ∀ f ∈ ops, Ic n f
 t0 : 0 < T.length
 t60 : T.length ≤ 60
 tabs : ∀ t ∈ T, Ib n (n ^ k) t
 inv : InvC n k ops s
 pre : ∃ a, s.1 = T ++ a
section
variable {n k : Nat} {ops : List SOp} {T : List (List Int)} {s : Clo}
theorem RndC.nth (h : RndC n k ops T s) {j : Nat} (hj : j < T.length) : nth s.1 j = nth T j := by
 obtain ⟨a, ha⟩ := h.pre
 rw [ha, Cy hj]
theorem RndC.le (h : RndC n k ops T s) : T.length ≤ s.1.length := by
 obtain ⟨a, ha⟩ := h.pre
 rw [ha, List.length_append]; omega
theorem RndC.adds (h : RndC n k ops T s) {l : List (List Int × SCloneStep)} (hl : ∀ c ∈ l, c ∈ Hd n (n ^ k) ops T T.length) : RndC n k ops T (Iq s l) := by
 obtain ⟨a, ha⟩ := h.pre
 obtain ⟨b, hb⟩ := La l s
 exact ⟨h.n1, h.n8, h.k3, h.pl, h.ok, h.t0, h.t60, h.tabs, InvC.adds h.ok (fun j hj => h.tabs _ (A9 hj)) l h.inv h.le (fun j hj => h.nth hj) hl, a ++ b, by rw [hb, ha, List.append_assoc]⟩
theorem Aoh {op : Nat} (hop : op < ops.length) {i : Nat} (hi : i < T.length ^ (Ax.nth ops op).Arity.toNat) : Dl n (n ^ k) (Ax.nth ops op) op T T.length i ∈ Hd n (n ^ k) ops T T.length :=
 Uy.2 ⟨op, hop, i, hi, rfl⟩
theorem RndC.seq (h : RndC n k ops T s) {op : Nat} (hop : op < ops.length) {i : Nat} (hi : i ≤ T.length ^ (Ax.nth ops op).Arity.toNat) : RndC n k ops T (Hx s (Dl n (n ^ k) (Ax.nth ops op) op T T.length) i) :=
 h.adds fun c hc => by
  obtain ⟨j, hj, rfl⟩ := List.mem_map.1 hc
  exact Aoh hop (by have := List.mem_range.1 hj; omega)
theorem RndC.seqO (h : RndC n k ops T s) {m : Nat} (hm : m ≤ ops.length) : RndC n k ops T (seqO n (n ^ k) ops T T.length s m) :=
 h.adds fun c hc => by
  obtain ⟨op, ho, hc⟩ := List.mem_flatMap.1 hc
  obtain ⟨j, hj, rfl⟩ := List.mem_map.1 hc
  exact Aoh (by have := List.mem_range.1 ho; omega) (List.mem_range.1 hj)
theorem RndC.args (h : RndC n k ops T s) {r i : Nat} (hi : i < T.length ^ r) : ((Dz T.length r i).map fun x => Ax.nth s.1 x.toNat) = (Dz T.length r i).map fun x => Ax.nth T x.toNat := by
 refine List.map_congr_left fun x hx => ?_
 have := Qm hi x hx
 exact h.nth (by omega)
theorem RndC.argsOk (h : RndC n k ops T s) {r i : Nat} (hi : i < T.length ^ r) : ∀ t ∈ (Dz T.length r i).map fun x => Ax.nth T x.toNat, Ib n (n ^ k) t := by
 intro t ht
 obtain ⟨x, hx, rfl⟩ := List.mem_map.1 ht
 have := Qm hi x hx
 exact h.tabs _ (A9 (by omega))
theorem Ay2 {n0 k0 x48 x14 : Int} {X8 X : Sfound} {r : List Int} {xs : List (List Int)} (hl : xs.length = r.length) (hr : ∀ x ∈ r, 0 ≤ x ∧ x < X.tables.length) (h1 : r.length ≤ 1000) :
  Ar (Dv n0 ops k0 X8 x48 x14 X r) (0, xs) = some (r.map fun x => Ax.nth X.tables x.toNat) := by
 have key := Bs (body := Dv n0 ops k0 X8 x48 x14 X r) (fun i => ((i : Int), (r.map fun x => Ax.nth X.tables x.toNat).take i ++ xs.drop i)) r.length (r.map fun x => Ax.nth X.tables x.toNat) (fun i hi => by
  have hx := hr _ (A9 hi)
  have e : (r.map fun x => Ax.nth X.tables x.toNat).take (i + 1) = (r.map fun x => Ax.nth X.tables x.toNat).take i ++ [Ax.nth X.tables (Ax.nth r i).toNat] := by
   rw [D4 (by simpa using hi), D1 _ hi]
  unfold Dv
  dsimp only
  rw [if_pos (by omega), Af (by omega), Int.toNat_natCast, Af hx, Af (by simp; omega), Af (by unfold InI; omega), Aut _ _ _ (by simp; omega) (by omega), ← e]
  rfl) (by
  unfold Dv
  dsimp only
  rw [if_neg (by omega), List.take_of_length_le (by simp), List.drop_of_length_le (by omega), List.append_nil])
 simpa using key
theorem Ay9 (h : RndC n k ops T s) (h60 : s.1.length ≤ 60) {op : Nat} (hop : op < ops.length) {X8 : Sfound} (hX : X8.tables = T) {xs : List (List Int)} (hxs : xs.length = (Ax.nth ops op).Arity.toNat) {S : List (ByteArray × Bool)} (hS : Wq S s.1) :
  ∃ t, Ar (E3 n ops k X8 op) (xs, 0, fnd s S) = some t ∧
    ((60 < (Hx s (Dl n (n ^ k) (Ax.nth ops op) op T T.length) (T.length ^ (Ax.nth ops op).Arity.toNat)).1.length ∧ t = .inl ()) ∨
     ((Hx s (Dl n (n ^ k) (Ax.nth ops op) op T T.length) (T.length ^ (Ax.nth ops op).Arity.toNat)).1.length ≤ 60 ∧ ∃ S', t = .inr (fnd (Hx s (Dl n (n ^ k) (Ax.nth ops op) op T T.length) (T.length ^ (Ax.nth ops op).Arity.toNat)) S') ∧ Wq S' (Hx s (Dl n (n ^ k) (Ax.nth ops op) op T T.length) (T.length ^ (Ax.nth ops op).Arity.toNat)).1)) := by
 have hf := h.ok _ (A9 hop)
 have hA := hf.2.1
 have hA0 := hf.1
 obtain ⟨r, hr⟩ : ∃ r : Nat, (Ax.nth ops op).Arity = (r : Int) := ⟨_, (Int.toNat_of_nonneg hA0).symm⟩
 have hrr : (Ax.nth ops op).Arity.toNat = r := by omega
 have hp := Axd (m := T.length) (r := r) h.t60 (by omega)
 have hpN := hp r (Nat.le_refl _)
 have hpl := h.pl
 rw [hrr] at hxs ⊢
 refine Gt (body := E3 n ops k X8 op) (fun z => ∃ i, i ≤ T.length ^ r ∧ z.1.length = r ∧ z.2.1 = (i : Int) ∧ ∃ S, z.2.2 = fnd (Hx s (Dl n (n ^ k) (Ax.nth ops op) op T T.length) i) S ∧ Wq S (Hx s (Dl n (n ^ k) (Ax.nth ops op) op T T.length) i).1 ∧ (Hx s (Dl n (n ^ k) (Ax.nth ops op) op T T.length) i).1.length ≤ 60) (fun z => T.length ^ r - z.2.1.toNat) _ ?_ (s := (xs, 0, fnd s S)) ⟨0, Nat.zero_le _, hxs, rfl, S, rfl, hS, h60⟩
 rintro ⟨ys, z, X⟩ ⟨i, hi, hys, hz, S1, hX1, hS1, hl1⟩
 dsimp only at hys hz hX1
 subst hz; subst hX1
 have hR := h.seq hop (i := i) (by rw [hrr]; exact hi)
 unfold E3
 dsimp only
 rw [hX, Int.toNat_natCast, hr, Avf 216000 (by omega) hp (by omega)]
 simp only [Option.bind_some]
 by_cases hiN : i < T.length ^ r
 ·have hal := G8 T.length r i
  have hin := Qm hiN
  rw [if_pos (by omega), Adw h.t0 (by omega) (by omega)]
  simp only [Option.bind_some]
  rw [Ay2 (by rw [hys, hal]) (fun x hx => by have := hin x hx; have := hR.le; show 0 ≤ x ∧ x < ((Hx s _ i).1.length : Int); omega) (by omega)]
  simp only [Option.bind_some]
  have he : ((Dz T.length r i).map fun x => Ax.nth (fnd (Hx s (Dl n (n ^ k) (Ax.nth ops op) op T T.length) i) S1).tables x.toNat) = (Dz T.length r i).map fun x => Ax.nth T x.toNat := hR.args hiN
  have hok := h.argsOk hiN
  have hcl : ((Dz T.length r i).map fun x => Ax.nth T x.toNat).length = (Ax.nth ops op).Arity.toNat := by rw [List.length_map, hal, hrr]
  rw [he, Rp h.n8 h.k3]
  simp only [Option.bind_some, Int.toNat_natCast]
  rw [Vm h.n8 hf hcl hok (by omega)]
  simp only [Option.bind_some]
  have hlen2 := hR.inv.len
  obtain ⟨S2, e2, hS2⟩ := Aee h.n8 (P := n ^ k) (by omega) hS1 hR.inv.tabs (by omega) (by omega) (Alb hf hcl hok) (op := (op : Int)) (qs := Dz T.length r i) (by omega)
  have ec : (J3 n (n ^ k) (Ax.nth ops op) ((Dz T.length r i).map fun x => Ax.nth T x.toNat), ({ Op := (op : Int), Args := Dz T.length r i } : SCloneStep)) = Dl n (n ^ k) (Ax.nth ops op) op T T.length i := by
   unfold Dl; rw [hrr]
  rw [ec, ← Pf] at e2 hS2
  rw [e2]
  simp only [Option.bind_some]
  have hmono := Ani s (Dl n (n ^ k) (Ax.nth ops op) op T T.length) (show i + 1 ≤ T.length ^ r by omega)
  by_cases hb : 60 < (Hx s (Dl n (n ^ k) (Ax.nth ops op) op T T.length) (i + 1)).1.length
  ·right
   rw [if_pos (by show ((Hx s _ (i + 1)).1.length : Int) > 60; omega)]
   exact ⟨_, rfl, .inl ⟨by omega, rfl⟩⟩
  ·left
   rw [if_neg (by show ¬ ((Hx s _ (i + 1)).1.length : Int) > 60; omega), Af (by unfold InI; omega)]
   exact ⟨_, rfl, ⟨i + 1, by omega, by simp [hal], by dsimp only; omega, S2, rfl, hS2, by omega⟩, by dsimp only; omega⟩
 ·right
  have : i = T.length ^ r := by omega
  subst this
  rw [if_neg (by omega)]
  exact ⟨_, rfl, .inr ⟨hl1, S1, rfl, hS1⟩⟩
theorem Ayz (h : RndC n k ops T s) (h60 : s.1.length ≤ 60) (hO : ops.length ≤ 1000) {X8 : Sfound} (hX : X8.tables = T) {S : List (ByteArray × Bool)} (hS : Wq S s.1) :
  ∃ t, Ar (E4 n ops k X8) (0, fnd s S) = some t ∧
    ((60 < (seqO n (n ^ k) ops T T.length s ops.length).1.length ∧ t = .inl ()) ∨
     ((seqO n (n ^ k) ops T T.length s ops.length).1.length ≤ 60 ∧ ∃ S', t = .inr (fnd (seqO n (n ^ k) ops T T.length s ops.length) S') ∧ Wq S' (seqO n (n ^ k) ops T T.length s ops.length).1)) := by
 have hL := Bk
 refine Gt (body := E4 n ops k X8) (fun z => ∃ m, m ≤ ops.length ∧ z.1 = (m : Int) ∧ ∃ S, z.2 = fnd (seqO n (n ^ k) ops T T.length s m) S ∧ Wq S (seqO n (n ^ k) ops T T.length s m).1 ∧ (seqO n (n ^ k) ops T T.length s m).1.length ≤ 60) (fun z => ops.length - z.1.toNat) _ ?_ (s := (0, fnd s S)) ⟨0, Nat.zero_le _, rfl, S, rfl, hS, h60⟩
 rintro ⟨z, X⟩ ⟨m, hm, hz, S1, hX1, hS1, hl1⟩
 dsimp only at hz hX1
 subst hz; subst hX1
 have hR := h.seqO hm
 unfold E4
 dsimp only
 by_cases hmo : m < ops.length
 ·have hf := h.ok _ (A9 hmo)
  have hA := hf.2.1
  have hA0 := hf.1
  rw [if_pos (by omega), Af (by omega)]
  simp only [Int.toNat_natCast]
  rw [Af (by omega)]
  obtain ⟨t, e, ht⟩ := Ay9 hR hl1 hmo hX (xs := List.replicate (Ax.nth ops m).Arity.toNat (Ao Int)) (by simp) hS1
  rw [e]
  rw [← Acl] at ht
  have hmono := Aon n (n ^ k) ops T T.length s (show m + 1 ≤ ops.length by omega)
  rcases ht with ⟨h1, rfl⟩ | ⟨h1, S2, rfl, hS2⟩
  ·right
   exact ⟨_, rfl, .inl ⟨by omega, rfl⟩⟩
  ·left
   simp only [Option.bind_some]
   rw [Af (by unfold InI; omega)]
   exact ⟨_, rfl, ⟨m + 1, by omega, by dsimp only; omega, S2, rfl, hS2, h1⟩, by dsimp only; omega⟩
 ·right
  have : m = ops.length := by omega
  subst this
  rw [if_neg (by omega)]
  exact ⟨_, rfl, .inr ⟨hl1, S1, rfl, hS1⟩⟩
end
section
variable {n k : Nat} {ops : List SOp}
theorem Azc (hn1 : 0 < n) (hn : n ≤ 8) (hk : k ≤ 3) (hok : ∀ f ∈ ops, Ic n f) (hO : ops.length ≤ 1000) : ∀ (m old : Nat) (s : Clo) (S : List (ByteArray × Bool)), 60 < old + (m + 1) → InvC n k ops s → 0 < s.1.length → s.1.length ≤ 60 → Wq S s.1 →
  ∃ t, Ar (Bl n ops k) ((old : Int), fnd s S) = some t ∧ ((Sp n (n ^ k) ops (m + 1) old s = none ∧ t = .inl ()) ∨ ∃ s' S', Sp n (n ^ k) ops (m + 1) old s = some s' ∧ t = .inr (fnd s' S') ∧ Wq S' s'.1) := by
 intro m
 induction m with
 | zero =>
   intro old s S ho hI h0 h60 hS
   refine ⟨_, Fa (t := .inr (fnd s S)) ?_, .inr ⟨s, S, ?_, rfl, hS⟩⟩
   ·unfold Bl
    dsimp only
    rw [if_neg (by show ¬ (old : Int) < (s.1.length : Int); omega)]
   ·unfold Sp; rw [if_neg (by omega)]
 | succ m ih =>
   intro old s S ho hI h0 h60 hS
   by_cases hlt : old < s.1.length
   ·have hR : RndC n k ops s.1 s := ⟨hn1, hn, hk, H5 hn hk, hok, h0, h60, hI.tabs, hI, [], by simp⟩
    obtain ⟨t, e, ht⟩ := Ayz hR h60 hO (X8 := fnd s S) rfl hS
    rw [Anb] at ht
    rcases ht with ⟨h1, rfl⟩ | ⟨h1, S2, rfl, hS2⟩
    ·refine ⟨.inl (), Fa ?_, .inl ⟨?_, rfl⟩⟩
     ·unfold Bl
      dsimp only
      rw [if_pos (by show (old : Int) < (s.1.length : Int); omega), e]
      rfl
     ·unfold Sp; rw [if_pos hlt, if_pos h1]
    ·have step : Bl n ops k ((old : Int), fnd s S) = some (.inl ((s.1.length : Int), fnd (Hz n (n ^ k) ops s) S2)) := by
      unfold Bl
      dsimp only
      rw [if_pos (by show (old : Int) < (s.1.length : Int); omega), e]
      rfl
     have hI2 : InvC n k ops (Hz n (n ^ k) ops s) := (hR.seqO (m := ops.length) (Nat.le_refl _)).inv
     have hl2 := Aj7 (Hd n (n ^ k) ops s.1 s.1.length) s
     have hl2' : s.1.length ≤ (Hz n (n ^ k) ops s).1.length := hl2
     obtain ⟨t, e2, ht⟩ := ih s.1.length (Hz n (n ^ k) ops s) S2 (by omega) hI2 (by omega) h1 hS2
     refine ⟨t, by rw [Mq step]; exact e2, ?_⟩
     have er : Sp n (n ^ k) ops (m + 1 + 1) old s = Sp n (n ^ k) ops (m + 1) s.1.length (Hz n (n ^ k) ops s) := by
      conv => lhs; unfold Sp
      rw [if_pos hlt, if_neg (by omega)]
     rw [er]; exact ht
   ·refine ⟨_, Fa (t := .inr (fnd s S)) ?_, .inr ⟨s, S, ?_, rfl, hS⟩⟩
    ·unfold Bl
     dsimp only
     rw [if_neg (by show ¬ (old : Int) < (s.1.length : Int); omega)]
    ·unfold Sp; rw [if_neg hlt]
theorem Asa (hn1 : 0 < n) (hn : n ≤ 8) (hk1 : 1 ≤ k) (hk : k ≤ 3) (hok : ∀ f ∈ ops, Ic n f) (hO : ops.length ≤ 1000) :
  (Ako n k ops = none ∧ Hk n ops k = some (none, false)) ∨ ∃ s S, Ako n k ops = some s ∧ Hk n ops k = some (some (fnd s S), true) ∧ Wq S s.1 := by
 have hpl := H5 hn hk
 unfold Hk
 obtain ⟨X, e, S, hX, hS⟩ := Gt (body := Gs n ops k) (fun z => ∃ i, i ≤ k ∧ z.1 = (i : Int) ∧ ∃ S, z.2 = fnd (Hx ([], []) (fun p => Z1 n k p) i) S ∧ Wq S (Hx ([], []) (fun p => Z1 n k p) i).1) (fun z => k - z.1.toNat) (fun X => ∃ S, X = fnd (Fm n k) S ∧ Wq S (Fm n k).1) (by
  rintro ⟨z, X⟩ ⟨i, hi, hz, S, hX, hS⟩
  dsimp only at hz hX
  subst hz; subst hX
  unfold Gs
  dsimp only
  by_cases hik : i < k
  ·rw [if_pos (by omega), Ux hn1 hn hk hik]
   simp only [Option.bind_some]
   have hI : InvC n k ops (Hx ([], []) (fun p => Z1 n k p) i) := Adc hn1 ops _ (Ahy n k ops) fun c hc => by
    obtain ⟨p, hp, rfl⟩ := List.mem_map.1 hc
    exact ⟨p, by have := List.mem_range.1 hp; omega, rfl⟩
   have hb := R0 ((List.range i).map fun p => Z1 n k p) ([], [])
   have hb' : (Hx ([], []) (fun p => Z1 n k p) i).1.length ≤ i := by simpa [Hx] using hb
   have hlen2 := hI.len
   obtain ⟨S2, e2, hS2⟩ := Aee hn (P := n ^ k) (by omega) hS hI.tabs (by omega) (by omega) (Akw hn1 hik) (op := -1) (qs := [(i : Int)]) (by simp)
   have ec : (F4 n k i, ({ Op := -1, Args := [(i : Int)] } : SCloneStep)) = Z1 n k i := rfl
   rw [ec, ← Pf ([], []) (fun p => Z1 n k p) i] at e2 hS2
   rw [e2]
   simp only [Option.bind_some]
   rw [Af (by unfold InI; omega)]
   exact .inl ⟨_, rfl, ⟨i + 1, by omega, by dsimp only; omega, S2, rfl, hS2⟩, by dsimp only; omega⟩
  ·have : i = k := by omega
   subst this
   rw [if_neg (by omega)]
   exact .inr ⟨_, rfl, S, rfl, hS⟩) (s := (0, { tables := Ao (List Int), steps := Ao SCloneStep, seen := Ao (ByteArray × Bool) })) ⟨0, Nat.zero_le _, rfl, Ao (ByteArray × Bool), rfl, At1⟩
 rw [e]
 subst hX
 simp only [Option.bind_some]
 have h0 : 0 < (Fm n k).1.length := List.length_pos_of_mem (Ya hk1)
 have hil := Ac9 n k
 have e0 : Ar (Bl n ops k) (-1, fnd (Fm n k) S) = Ar (Bl n ops k) (((0 : Nat) : Int), fnd (Fm n k) S) := by
  have eb : Bl n ops k (-1, fnd (Fm n k) S) = Bl n ops k (((0 : Nat) : Int), fnd (Fm n k) S) := by
   unfold Bl
   dsimp only
   rw [if_pos (by show (-1 : Int) < ((Fm n k).1.length : Int); omega), if_pos (by show ((0 : Nat) : Int) < ((Fm n k).1.length : Int); omega)]
  rw [Acc, eb, ← Acc]
 rw [e0]
 obtain ⟨t, e5, ht⟩ := Azc hn1 hn hk hok hO 69 0 (Fm n k) S (by omega) (Adl hn1 ops) h0 (by omega) hS
 rw [e5]
 rcases ht with ⟨h1, rfl⟩ | ⟨s', S', h1, rfl, hS'⟩
 ·exact .inl ⟨h1, rfl⟩
 ·exact .inr ⟨s', S', h1, rfl, hS'⟩
end
end Go.Proofs.Ytoaojijoefljaaa.Ax
namespace Go.Proofs.Ytoaojijoefljaaa.Ax
open Go Classical
theorem Am9 {m b : Nat} (hm : 0 < m) : ∀ (r j at' : Nat), j + r ≤ 100 → at' ≤ 1048576 → b ≤ 1048576 → Ar (Ca m ((j + r : Nat) : Int) b) ((j : Int), (at' : Int)) = some (if ∃ x ∈ Dz m r at', (b : Int) ≤ x then .inl () else .inr ()) := by
 intro r
 induction r with
 | zero =>
   intro j at' _ _ _
   refine Fa ?_
   unfold Ca
   dsimp only
   rw [if_neg (by omega), if_neg (by rintro ⟨x, hx, _⟩; cases hx)]
 | succ r ih =>
   intro j at' h1 h2 h3
   have c1 : (at' : Int).tdiv (m : Int) = ((at' / m : Nat) : Int) := rfl
   have c2 : (at' : Int).tmod (m : Int) = ((at' % m : Nat) : Int) := rfl
   have hd : at' / m ≤ at' := Nat.div_le_self at' m
   by_cases hb : b ≤ at' % m
   ·have : Ar (Ca m ((j + (r + 1) : Nat) : Int) b) ((j : Int), (at' : Int)) = some (.inl ()) := Fa (by
     unfold Ca
     dsimp only
     rw [c2, if_pos (by omega), Af (by omega), if_pos (by omega)])
    rw [this, if_pos ⟨((at' % m : Nat) : Int), by simp [Dz], by omega⟩]
   ·have step : Ca m ((j + (r + 1) : Nat) : Int) b ((j : Int), (at' : Int)) = some (.inl (((j + 1 : Nat) : Int), ((at' / m : Nat) : Int))) := by
     unfold Ca
     dsimp only
     rw [c1, c2, if_pos (by omega), Af (by omega), if_neg (by omega)]
     generalize at' / m = kd at hd
     rw [Af ⟨by omega, by unfold InI; omega⟩, Af (by unfold InI; omega)]
     rfl
    have := ih (j + 1) (at' / m) (by omega) (by omega) h3
    rw [show j + 1 + r = j + (r + 1) by omega] at this
    rw [Mq step, this]
    congr 1
    have hiff : (∃ x ∈ Dz m r (at' / m), (b : Int) ≤ x) ↔ ∃ x ∈ Dz m (r + 1) at', (b : Int) ≤ x := by
     constructor
     ·rintro ⟨x, hx, h⟩; exact ⟨x, by simp [Dz, hx], h⟩
     ·rintro ⟨x, hx, h⟩
      simp only [Dz, List.mem_append, List.mem_singleton] at hx
      rcases hx with hx | rfl
      ·exact ⟨x, hx, h⟩
      ·omega
    by_cases hh : ∃ x ∈ Dz m r (at' / m), (b : Int) ≤ x
    ·rw [if_pos hh, if_pos (hiff.1 hh)]
    ·rw [if_neg hh, if_neg fun h => hh (hiff.2 h)]
def Aad (m r i b : Nat) : Prop := (∃ x ∈ Dz m r i, (b : Int) ≤ x) ∨ b = 0
theorem Aqc {m b r i : Nat} (hm : 0 < m) (hr : r ≤ 100) (hi : i ≤ 1048576) (hb : b ≤ 1048576) : H9 m r i b = some (decide (Aad m r i b)) := by
 unfold H9
 have := Am9 (b := b) hm r 0 i (by omega) hi hb
 rw [Nat.zero_add] at this
 have this' : Ar (Ca m r b) (0, (i : Int)) = _ := this
 rw [this']
 by_cases hh : ∃ x ∈ Dz m r i, (b : Int) ≤ x
 ·rw [if_pos hh, decide_eq_true (show Aad m r i b from .inl hh)]; rfl
 ·rw [if_neg hh]
  simp only [Option.bind_some]
  by_cases h0 : b = 0
  ·rw [decide_eq_true (show Aad m r i b from .inr h0), h0]; rfl
  ·rw [decide_eq_false (show ¬ Aad m r i b from fun h => h.elim hh h0)]
   congr 1
   simp; omega
section
variable {n k : Nat} {ops : List SOp} {T : List (List Int)} {s : Clo}
theorem Ay6 {n0 nu kn be si x15 : Int} {op0 : SOp} {R : Sl12Find} {r : List Int} (hr : ∀ x ∈ r, 0 ≤ x ∧ x < R.tables.length) (h1 : r.length ≤ 1000) :
  Ar (Dd n0 op0 nu kn be si x15 R r) (0, Ao (List Int)) = some (r.map fun x => Ax.nth R.tables x.toNat) := by
 have hL := Bk
 have key := Bs (body := Dd n0 op0 nu kn be si x15 R r) (fun i => ((i : Int), (r.map fun x => Ax.nth R.tables x.toNat).take i)) r.length (r.map fun x => Ax.nth R.tables x.toNat) (fun i hi => by
  have hx := hr _ (A9 hi)
  have e : (r.map fun x => Ax.nth R.tables x.toNat).take (i + 1) = (r.map fun x => Ax.nth R.tables x.toNat).take i ++ [Ax.nth R.tables (Ax.nth r i).toNat] := by
   rw [D4 (by simpa using hi), D1 _ hi]
  unfold Dd
  dsimp only
  rw [if_pos (by omega), Af (by omega), Int.toNat_natCast, Af hx, Af (by simp only [List.length_take, List.length_map, List.length_cons, List.length_nil]; omega), Af (by unfold InI; omega), ← e]
  rfl) (by
  unfold Dd
  dsimp only
  rw [if_neg (by omega), List.take_of_length_le (by simp)])
 exact key
theorem Yv.mono {n P : Nat} {R : Sl12Find} {s s' : Clo} (h : Yv n P R s) (hl : R.large = true) (hle : s.1.length ≤ s'.1.length) : Yv n P R s' := by
 rcases h with ⟨_, rfl⟩ | ⟨h1, h2, h3, h4⟩
 ·cases hl
 ·exact .inr ⟨by omega, h2, h3, h4⟩
theorem Ao9 (h : RndC n k ops T s) {op : Nat} (hop : op < ops.length) {R : Sl12Find} (hR : Yv n (n ^ k) R s) {b : Nat} (hb : b ≤ 60)
  (hskip : ∀ i, i < T.length ^ (Ax.nth ops op).Arity.toNat → ¬ Aad T.length (Ax.nth ops op).Arity.toNat i b → (Dl n (n ^ k) (Ax.nth ops op) op T T.length i).1 ∈ s.1) :
  ∃ R', H6 n R (Ax.nth ops op) op T.length b ((n ^ k : Nat) : Int) = some R' ∧ Yv n (n ^ k) R' (Hx s (Dl n (n ^ k) (Ax.nth ops op) op T T.length) (T.length ^ (Ax.nth ops op).Arity.toNat)) := by
 have hf := h.ok _ (A9 hop)
 have hA := hf.2.1
 have hA0 := hf.1
 obtain ⟨r, hr⟩ : ∃ r : Nat, (Ax.nth ops op).Arity = (r : Int) := ⟨_, (Int.toNat_of_nonneg hA0).symm⟩
 have hrr : (Ax.nth ops op).Arity.toNat = r := by omega
 have hp := Axd (m := T.length) (r := r) h.t60 (by omega)
 have hpN := hp r (Nat.le_refl _)
 have hpl := h.pl
 rw [hrr] at hskip ⊢
 unfold H6
 obtain ⟨R', e, hR'⟩ := Gt (body := Fw n (Ax.nth ops op) op T.length b ((n ^ k : Nat) : Int)) (fun z => ∃ i, i ≤ T.length ^ r ∧ z.1 = (i : Int) ∧ Yv n (n ^ k) z.2 (Hx s (Dl n (n ^ k) (Ax.nth ops op) op T T.length) i)) (fun z => T.length ^ r - z.1.toNat) (fun R' => Yv n (n ^ k) R' (Hx s (Dl n (n ^ k) (Ax.nth ops op) op T T.length) (T.length ^ r))) (by
  rintro ⟨z, X⟩ ⟨i, hi, hz, hX⟩
  dsimp only at hz hX
  subst hz
  have hRi := h.seq hop (i := i) (by rw [hrr]; exact hi)
  unfold Fw
  dsimp only
  rw [hr, Aur 216000 (by omega) hp (by omega)]
  simp only [Option.bind_some]
  by_cases hiN : i < T.length ^ r
  ·rw [if_pos (by omega)]
   by_cases hlg : X.large = true
   ·rw [if_pos hlg]
    exact .inr ⟨_, rfl, hX.mono hlg (Ani s _ (by omega))⟩
   ·rw [if_neg hlg]
    simp only [Option.bind_some]
    rw [Aqc h.t0 (by omega) (by omega) (by omega)]
    simp only [Option.bind_some]
    by_cases hfr : Aad T.length r i b
    ·rw [decide_eq_true hfr, if_pos rfl, Acz h.t0 (by omega) (by omega)]
     simp only [Option.bind_some]
     have hal := G8 T.length r i
     have hin := Qm hiN
     have hXt : X.tables = (Hx s (Dl n (n ^ k) (Ax.nth ops op) op T T.length) i).1 := by
      rcases hX with ⟨_, rfl⟩ | ⟨_, h2, _⟩
      ·rfl
      ·exact absurd h2 hlg
     rw [Ay6 (fun x hx => by have := hin x hx; have := hRi.le; rw [hXt]; omega) (by omega)]
     simp only [Option.bind_some]
     rw [hXt, hRi.args hiN]
     have hok := h.argsOk hiN
     have hcl : ((Dz T.length r i).map fun x => Ax.nth T x.toNat).length = (Ax.nth ops op).Arity.toNat := by rw [List.length_map, hal, hrr]
     rw [U7 h.n8 hf hcl hok (by omega)]
     simp only [Option.bind_some]
     have hlen2 := hRi.inv.len
     have ec : (J3 n (n ^ k) (Ax.nth ops op) ((Dz T.length r i).map fun x => Ax.nth T x.toNat), ({ Op := (op : Int), Args := Dz T.length r i } : SCloneStep)) = Dl n (n ^ k) (Ax.nth ops op) op T T.length i := by
      unfold Dl; rw [hrr]
     have hb2 := R0 ((List.range i).map (Dl n (n ^ k) (Ax.nth ops op) op T T.length)) s
     have hs61 : (Hx s (Dl n (n ^ k) (Ax.nth ops op) op T T.length) i).1.length ≤ 60 := by
      rcases hX with ⟨h1, _⟩ | ⟨_, h2, _⟩
      ·exact h1
      ·exact absurd h2 hlg
     obtain ⟨R2, e2, hR2⟩ := Aoy (P := n ^ k) (by omega) hX hRi.inv.tabs (by omega) (c := Dl n (n ^ k) (Ax.nth ops op) op T T.length i)
     rw [← ec] at e2
     rw [e2]
     simp only [Option.bind_some]
     rw [Af (by unfold InI; omega)]
     rw [← Pf] at hR2
     exact .inl ⟨_, rfl, ⟨i + 1, by omega, by dsimp only; omega, hR2⟩, by dsimp only; omega⟩
    ·rw [decide_eq_false hfr, if_neg (by simp), Af (by unfold InI; omega)]
     refine .inl ⟨_, rfl, ⟨i + 1, by omega, by dsimp only; omega, ?_⟩, by dsimp only; omega⟩
     dsimp only
     rw [Pf]
     obtain ⟨a, ha⟩ := And s (Dl n (n ^ k) (Ax.nth ops op) op T T.length) i
     have : Ni (Hx s (Dl n (n ^ k) (Ax.nth ops op) op T T.length) i) (Dl n (n ^ k) (Ax.nth ops op) op T T.length i) = Hx s (Dl n (n ^ k) (Ax.nth ops op) op T T.length) i := by
      unfold Ni
      rw [if_pos (by rw [ha]; exact List.mem_append_left _ (hskip i hiN hfr))]
     rw [this]; exact hX
  ·have : i = T.length ^ r := by omega
   subst this
   rw [if_neg (by omega)]
   exact .inr ⟨_, rfl, hX⟩) (s := (0, R)) ⟨0, Nat.zero_le _, rfl, hR⟩
 rw [e]
 exact ⟨R', rfl, hR'⟩
theorem Avy {old : Nat} (hb : old = 0 ∨ ∀ c ∈ Hd n (n ^ k) ops T old, c.1 ∈ s.1) {op : Nat} (hop : op < ops.length) {i : Nat} (hi : i < T.length ^ (Ax.nth ops op).Arity.toNat) (hfr : ¬ Aad T.length (Ax.nth ops op).Arity.toNat i old) : (Dl n (n ^ k) (Ax.nth ops op) op T T.length i).1 ∈ s.1 := by
 have h0 : 0 < old := by
  rcases Nat.eq_zero_or_pos old with h | h
  ·exact absurd (.inr h) hfr
  ·exact h
 have hin : Ct (Dz T.length (Ax.nth ops op).Arity.toNat i) old := fun x hx => by
  have := Qm hi x hx
  refine ⟨this.1, ?_⟩
  refine Classical.byContradiction fun h => hfr (.inl ⟨x, hx, by omega⟩)
 obtain ⟨c, c1, c2⟩ := O8 (m := old) (Ax.nth ops op).Arity.toNat _ (G8 _ _ _) hin
 have e := Acw h0 (Ax.nth ops op).Arity.toNat _ (G8 _ _ _) hin
 rw [c1, Int.toNat_natCast] at e
 have := hb.resolve_left (by omega) _ (Uy.2 ⟨op, hop, c, c2, rfl⟩)
 unfold Dl at this ⊢
 dsimp only at this ⊢
 rwa [e] at this
theorem Ayd (h : RndC n k ops T s) (hO : ops.length ≤ 1000) {first : List (List Int)} (hf0 : 0 < first.length) (hfl : (Ax.nth first 0).length = n ^ k) {R X : Sl12Find} (hX : X.tables = T) (hR : Yv n (n ^ k) R s) {b : Nat} (hb60 : b ≤ 60) (hb : b = 0 ∨ ∀ c ∈ Hd n (n ^ k) ops T b, c.1 ∈ s.1) :
  ∃ R', Ar (D5 n ops first b X) (0, R) = some R' ∧ Yv n (n ^ k) R' (seqO n (n ^ k) ops T T.length s ops.length) := by
 refine Gt (body := D5 n ops first b X) (fun z => ∃ m, m ≤ ops.length ∧ z.1 = (m : Int) ∧ Yv n (n ^ k) z.2 (seqO n (n ^ k) ops T T.length s m)) (fun z => ops.length - z.1.toNat) _ ?_ (s := (0, R)) ⟨0, Nat.zero_le _, rfl, hR⟩
 rintro ⟨z, Y⟩ ⟨m, hm, hz, hY⟩
 dsimp only at hz hY
 subst hz
 have hRm := h.seqO hm
 unfold D5
 dsimp only
 by_cases hmo : m < ops.length
 ·rw [if_pos (by omega)]
  by_cases hlg : Y.large = true
  ·rw [if_pos hlg]
   exact .inr ⟨_, rfl, hY.mono hlg (Aon n (n ^ k) ops T T.length s (by omega))⟩
  ·rw [if_neg hlg]
   simp only [Option.bind_some]
   obtain ⟨a, ha⟩ := Aup n (n ^ k) ops T T.length s m
   have hb2 : b = 0 ∨ ∀ c ∈ Hd n (n ^ k) ops T b, c.1 ∈ (seqO n (n ^ k) ops T T.length s m).1 := hb.imp id fun hb c hc => by rw [ha]; exact List.mem_append_left _ (hb c hc)
   obtain ⟨R2, e2, hR2⟩ := Ao9 hRm hmo hY hb60 (fun i hi hfr => Avy hb2 hmo hi hfr)
   rw [Af (by omega), Af (by omega), hX]
   simp only [Int.toNat_natCast]
   rw [show Int.toNat 0 = 0 from rfl, hfl, e2]
   simp only [Option.bind_some]
   rw [Af (by unfold InI; omega)]
   rw [← Acl] at hR2
   exact .inl ⟨_, rfl, ⟨m + 1, by omega, by dsimp only; omega, hR2⟩, by dsimp only; omega⟩
 ·have : m = ops.length := by omega
  subst this
  rw [if_neg (by omega)]
  exact .inr ⟨_, rfl, hY⟩
end
section
variable {n k : Nat} {ops : List SOp}
def Avt (n P : Nat) (o : Option Clo) (R : Sl12Find) : Prop := match o with
 | none => R.large = true ∧ R.tables.length = 60 ∧ ∀ t ∈ R.tables, Ib n P t
 | some s => R = { tables := s.1, steps := s.2, large := false }
theorem Ayj (hn1 : 0 < n) (hn : n ≤ 8) (hk : k ≤ 3) (hok : ∀ f ∈ ops, Ic n f) (hO : ops.length ≤ 1000) {first : List (List Int)} (hf0 : 0 < first.length) (hfl : (Ax.nth first 0).length = n ^ k) : ∀ (m old : Nat) (s : Clo), 60 < old + (m + 1) → old ≤ s.1.length → InvC n k ops s → 0 < s.1.length → s.1.length ≤ 60 →
  (old = 0 ∨ ∀ c ∈ Hd n (n ^ k) ops s.1 old, c.1 ∈ s.1) → ∃ R', Ar (Bz n ops first) ((old : Int), { tables := s.1, steps := s.2, large := false }) = some R' ∧ Avt n (n ^ k) (Sp n (n ^ k) ops (m + 1) old s) R' := by
 intro m
 induction m with
 | zero =>
   intro old s ho _ hI h0 h60 _
   refine ⟨_, Fa (t := { tables := s.1, steps := s.2, large := false }) ?_, ?_⟩
   ·unfold Bz
    dsimp only
    rw [if_neg (by omega)]; rfl
   ·unfold Sp; rw [if_neg (by omega)]; rfl
 | succ m ih =>
   intro old s ho hos hI h0 h60 hc
   by_cases hlt : old < s.1.length
   ·have hR : RndC n k ops s.1 s := ⟨hn1, hn, hk, H5 hn hk, hok, h0, h60, hI.tabs, hI, [], by simp⟩
    have hr0 : Yv n (n ^ k) { tables := s.1, steps := s.2, large := false } s := .inl ⟨h60, rfl⟩
    obtain ⟨R', e, hR'⟩ := Ayd hR hO hf0 hfl (X := { tables := s.1, steps := s.2, large := false }) rfl hr0 (by omega) hc
    rw [Anb] at hR'
    have step : Bz n ops first ((old : Int), { tables := s.1, steps := s.2, large := false }) = some (.inl ((s.1.length : Int), R')) := by
     unfold Bz
     dsimp only
     rw [if_pos (by omega), if_neg (by simp)]
     simp only [Option.bind_some]
     rw [e]; rfl
    rw [Mq step]
    have hle := Aj7 (Hd n (n ^ k) ops s.1 s.1.length) s
    have hle' : s.1.length ≤ (Hz n (n ^ k) ops s).1.length := hle
    rcases hR' with ⟨h1, rfl⟩ | ⟨h1, h2, h3, h4⟩
    ·have hI2 : InvC n k ops (Hz n (n ^ k) ops s) := (hR.seqO (m := ops.length) (Nat.le_refl _)).inv
     have er : Sp n (n ^ k) ops (m + 1 + 1) old s = Sp n (n ^ k) ops (m + 1) s.1.length (Hz n (n ^ k) ops s) := by
      conv => lhs; unfold Sp
      rw [if_pos hlt, if_neg (by omega)]
     rw [er]
     obtain ⟨a, ha⟩ := La (Hd n (n ^ k) ops s.1 s.1.length) s
     have ha' : (Hz n (n ^ k) ops s).1 = s.1 ++ a := ha
     refine ih s.1.length (Hz n (n ^ k) ops s) (by omega) (by omega) hI2 (by omega) h1 (.inr fun c hcc => ?_)
     rw [ha', ← Um (T := s.1) fun j hj => (Cy hj).symm] at hcc
     exact Ye _ s c hcc
    ·have er : Sp n (n ^ k) ops (m + 1 + 1) old s = none := by
      unfold Sp
      rw [if_pos hlt, if_pos h1]
     rw [er]
     refine ⟨R', Fa ?_, h2, h3, h4⟩
     unfold Bz
     dsimp only
     by_cases hc2 : (s.1.length : Int) < (R'.tables.length : Int)
     ·rw [if_pos hc2, if_pos h2]; rfl
     ·rw [if_neg hc2]; rfl
   ·refine ⟨_, Fa (t := { tables := s.1, steps := s.2, large := false }) ?_, ?_⟩
    ·unfold Bz
     dsimp only
     rw [if_neg (by omega)]; rfl
    ·unfold Sp; rw [if_neg hlt]; rfl
theorem Ank (hn1 : 0 < n) (hn : n ≤ 8) (hk1 : 1 ≤ k) (hk : k ≤ 3) (hok : ∀ f ∈ ops, Ic n f) (hO : ops.length ≤ 1000) :
  ∃ R, G9 n ops ((List.range k).map (F4 n k)) = some R ∧ Avt n (n ^ k) (Ako n k ops) R := by
 have hpl := H5 hn hk
 have hfl : ((List.range k).map (F4 n k)).length = k := by simp
 unfold G9
 obtain ⟨R1, e1, h1⟩ := Gt (body := Fc n ops ((List.range k).map (F4 n k))) (fun z => ∃ i, i ≤ k ∧ z.1 = (i : Int) ∧ Yv n (n ^ k) z.2 (Hx ([], []) (fun p => Z1 n k p) i)) (fun z => k - z.1.toNat) (fun R => Yv n (n ^ k) R (Fm n k)) (by
  rintro ⟨z, X⟩ ⟨i, hi, hz, hX⟩
  dsimp only at hz hX
  subst hz
  unfold Fc
  dsimp only
  by_cases hik : i < k
  ·have hI : InvC n k ops (Hx ([], []) (fun p => Z1 n k p) i) := Adc hn1 ops _ (Ahy n k ops) fun c hc => by
    obtain ⟨p, hp, rfl⟩ := List.mem_map.1 hc
    exact ⟨p, by have := List.mem_range.1 hp; omega, rfl⟩
   have hb := R0 ((List.range i).map fun p => Z1 n k p) ([], [])
   have hb' : (Hx ([], []) (fun p => Z1 n k p) i).1.length ≤ i := by simpa [Hx] using hb
   have hlen2 := hI.len
   obtain ⟨R2, e2, hR2⟩ := Aoy (P := n ^ k) (by omega) hX hI.tabs (by omega) (c := Z1 n k i)
   rw [if_pos (by omega), Af (by omega), Int.toNat_natCast, D1 _ (by simpa using hik), Pb hik]
   have e2' : G0 X (F4 n k i) { Op := -1, Args := [(i : Int)] } = some R2 := e2
   rw [e2']
   simp only [Option.bind_some]
   rw [Af (by unfold InI; omega)]
   rw [← Pf ([], []) (fun p => Z1 n k p) i] at hR2
   exact .inl ⟨_, rfl, ⟨i + 1, by omega, by dsimp only; omega, hR2⟩, by dsimp only; omega⟩
  ·have : i = k := by omega
   subst this
   rw [if_neg (by omega)]
   exact .inr ⟨_, rfl, hX⟩) (s := (0, { tables := Ao (List Int), steps := Ao SCloneStep, large := false })) ⟨0, Nat.zero_le _, rfl, .inl ⟨by simp [Hx, Iq], rfl⟩⟩
 rw [e1]
 simp only [Option.bind_some]
 have hil := Ac9 n k
 have h0 : 0 < (Fm n k).1.length := List.length_pos_of_mem (Ya hk1)
 rcases h1 with ⟨g1, rfl⟩ | ⟨g1, _⟩
 ·obtain ⟨R', e3, h3⟩ := Ayj hn1 hn hk hok hO (first := (List.range k).map (F4 n k)) (by omega) (by rw [D1 _ (by simp; omega), Pb hk1, Xb]) 69 0 (Fm n k) (by omega) (Nat.zero_le _) (Adl hn1 ops) h0 g1 (.inl rfl)
  have e3' : Ar (Bz n ops ((List.range k).map (F4 n k))) (0, { tables := (Fm n k).1, steps := (Fm n k).2, large := false }) = some R' := e3
  rw [e3']
  exact ⟨R', rfl, h3⟩
 ·omega
theorem Apb {a : SAlgebra} (ha : Rw a) (hn : a.Size = n) (hk1 : 1 ≤ k) (hk : k ≤ 3) : ∃ R, D8 a k = some R ∧ Avt n (n ^ k) (Ako n k a.Ops) R := by
 have hL := Bk
 obtain ⟨g1, g2, g3, g4⟩ := ha
 have hnn : a.Size.toNat = n := by omega
 rw [hnn] at g4
 unfold D8
 have hfl : ((List.range k).map (F4 n k)).length = k := by simp
 have key := Bs (body := Db a k) (fun i => ((i : Int), ((List.range k).map (F4 n k)).take i)) k ((List.range k).map (F4 n k)) (fun i hi => by
  have e : ((List.range k).map (F4 n k)).take (i + 1) = ((List.range k).map (F4 n k)).take i ++ [F4 n k i] := by
   rw [D4 (by omega), D1 _ (by simpa using hi), Pb hi]
  unfold Db
  dsimp only
  rw [if_pos (by omega), hn, Ia (by omega) (by omega) hk hi]
  simp only [Option.bind_some]
  rw [Af (by simp only [List.length_take, List.length_cons, List.length_nil]; omega), Af (by unfold InI; omega), ← e]
  rfl) (by
  unfold Db
  dsimp only
  rw [if_neg (by omega), List.take_of_length_le (by omega)])
 have key' : Ar (Db a k) (0, Ao (List Int)) = _ := key
 rw [key', hn]
 simp only [Option.bind_some]
 obtain ⟨R, e, h⟩ := Ank (n := n) (k := k) (ops := a.Ops) (by omega) (by omega) hk1 hk g4 (by omega)
 rw [e]
 exact ⟨R, rfl, h⟩
end
end Go.Proofs.Ytoaojijoefljaaa.Ax
namespace Go.Proofs.Ytoaojijoefljaaa.Ax
open Go Classical
end Go.Proofs.Ytoaojijoefljaaa.Ax
namespace Go.Proofs.Ytoaojijoefljaaa.Ax
open Go Classical
section
end
end Go.Proofs.Ytoaojijoefljaaa.Ax
namespace Go.Proofs.Ytoaojijoefljaaa.Ax
open Go
def Cur (k : Nat) (c : Sl1Cur) : Prop := (∀ x ∈ c.code, 0 ≤ x ∧ x ≤ 255) ∧ c.code.length ≤ 65536 ∧ 0 ≤ c.at_ ∧ c.at_ ≤ k
theorem Cur.mono {k l : Nat} {c : Sl1Cur} (h : Cur k c) (hl : k ≤ l) : Cur l c := ⟨h.1, h.2.1, h.2.2.1, by have := h.2.2.2; omega⟩
theorem Att {n : Int} (h0 : 0 ≤ n) (h1 : n ≤ 255) : IntKind.u64.wrap n = n := by
 simp [IntKind.wrap, IntKind.bits, IntKind.signed]
 omega
theorem Ajl {c : Sl1Cur} {k : Nat} (h : Cur k c) (hk : k ≤ 1000000000) : ∃ r d, E2 c = some (r, d) ∧ Cur (k + 1) d ∧ 0 ≤ r ∧ r ≤ 255 := by
 obtain ⟨h1, h2, h3, h4⟩ := h
 unfold E2
 have fin : ∀ q : Int, 0 ≤ q → q ≤ 255 → ∃ r d, (ask (InI (c.at_ + 1)) <|
   if c.at_ + 1 ≤ (c.code.length : Int) then
    some (q, ({ code := c.code, at_ := c.at_ + 1, seed := IntKind.u64.wrap (IntKind.u64.wrap (IntKind.u64.wrap (c.seed * 6364136223846793005) + IntKind.u64.wrap q) + 550289) } : Sl1Cur))
   else some (IntKind.i64.wrap (IntKind.u64.wrap (((BitVec.ofInt IntKind.u64.bits ((IntKind.u64.wrap (IntKind.u64.wrap (IntKind.u64.wrap (c.seed * 6364136223846793005) + IntKind.u64.wrap q) + 550289)).fdiv (2 ^ min (Int.toNat 40) IntKind.u64.bits)) &&& BitVec.ofInt IntKind.u64.bits 255).toNat : Nat) : Int)),
    ({ code := c.code, at_ := c.at_ + 1, seed := IntKind.u64.wrap (IntKind.u64.wrap (IntKind.u64.wrap (c.seed * 6364136223846793005) + IntKind.u64.wrap q) + 550289) } : Sl1Cur))) = some (r, d) ∧ Cur (k + 1) d ∧ 0 ≤ r ∧ r ≤ 255 := by
  intro q hq0 hq1
  rw [Af (by unfold InI; omega)]
  split
  ·exact ⟨_, _, rfl, ⟨h1, h2, by show 0 ≤ c.at_ + 1; omega, by show c.at_ + 1 ≤ ((k + 1 : Nat) : Int); omega⟩, hq0, hq1⟩
  ·refine ⟨_, _, rfl, ⟨h1, h2, by show 0 ≤ c.at_ + 1; omega, by show c.at_ + 1 ≤ ((k + 1 : Nat) : Int); omega⟩, ?_⟩
   generalize BitVec.ofInt IntKind.u64.bits ((IntKind.u64.wrap (IntKind.u64.wrap (IntKind.u64.wrap (c.seed * 6364136223846793005) + IntKind.u64.wrap q) + 550289)).fdiv (2 ^ min (Int.toNat 40) IntKind.u64.bits)) = b
   have hb : (b &&& BitVec.ofInt IntKind.u64.bits 255).toNat ≤ 255 := by
    rw [BitVec.toNat_and]
    have : (BitVec.ofInt IntKind.u64.bits 255).toNat = 255 := by decide
    rw [this]
    exact Nat.and_le_right
   generalize (b &&& BitVec.ofInt IntKind.u64.bits 255).toNat = z at hb
   rw [Att (by omega) (by omega), Yh (by omega) (by omega)]
   omega
 by_cases hc : c.at_ < (c.code.length : Int)
 ·rw [if_pos hc, Af ⟨h3, hc⟩]
  have hm := h1 _ (A9 (xs := c.code) (i := c.at_.toNat) (by omega))
  rw [Yh (by omega) (by omega)]
  simp only [Option.bind_some]
  exact fin _ hm.1 hm.2
 ·rw [if_neg hc]
  simp only [Option.bind_some]
  exact fin 0 (by omega) (by omega)
theorem Dn {c : Sl1Cur} {k : Nat} (h : Cur k c) (hk : k ≤ 900000000) (n : Int) : ∃ r d, Ap c n = some (r, d) ∧ Cur (k + 2) d ∧ 0 ≤ r ∧ (r < n ∨ (n ≤ 1 ∧ r = 0)) := by
 unfold Ap
 by_cases h1 : n ≤ 1
 ·rw [if_pos h1]; exact ⟨0, c, rfl, h.mono (by omega), by omega, .inr ⟨h1, rfl⟩⟩
 ·rw [if_neg h1]
  obtain ⟨r, d, e, hd, a1, a2⟩ := Ajl h (by omega)
  simp only [e, Option.bind_some]
  by_cases h2 : n > 200
  ·rw [if_pos h2, Af (by unfold InI; omega)]
   obtain ⟨r2, d2, e2, hd2, b1, b2⟩ := Ajl hd (by omega)
   simp only [e2, Option.bind_some]
   rw [Af (by unfold InI; omega), Af (by omega)]
   refine ⟨_, _, rfl, hd2, Int.tmod_nonneg _ (by omega), .inl ?_⟩
   exact Int.tmod_lt_of_pos _ (by omega)
  ·rw [if_neg h2, Af (by omega)]
   refine ⟨_, _, rfl, hd.mono (by omega), Int.tmod_nonneg _ (by omega), .inl ?_⟩
   exact Int.tmod_lt_of_pos _ (by omega)
theorem Aan {c : Sl1Cur} {k : Nat} (h : Cur k c) (hk : k ≤ 900000000) (n : Int) : ∃ b d, Do c n = some (b, d) ∧ Cur (k + 2) d := by
 unfold Do
 obtain ⟨r, d, e, hd, _, _⟩ := Dn h hk n
 simp only [e, Option.bind_some]
 exact ⟨_, _, rfl, hd⟩
theorem Fu {c : Sl1Cur} {k : Nat} (h : Cur k c) (hk : k ≤ 900000000) (l : List Int) (h0 : 0 < l.length) : ∃ r d, Ay c l = some (r, d) ∧ Cur (k + 2) d ∧ r ∈ l := by
 unfold Ay
 obtain ⟨r, d, e, hd, a1, a2⟩ := Dn h hk (l.length : Int)
 simp only [e, Option.bind_some]
 rw [Af (by omega)]
 exact ⟨_, _, rfl, hd, A9 (by omega)⟩
open Classical
end Go.Proofs.Ytoaojijoefljaaa.Ax
namespace Go.Proofs.Ytoaojijoefljaaa.Ax
open Go Classical
def At2 (n r k : Nat) (S : Nat → Bool) : Prop := ∀ x ∈ Dz n r k, S x.toNat = true
def Axb (a : SAlgebra) (i k : Nat) (S : Nat → Bool) : Prop := At2 a.Size.toNat (nth a.Ops i).Arity.toNat k S
def Awn (H : List Bool) : Nat := H.count true
section
variable {a : SAlgebra}
structure ReadyA (a : SAlgebra) (n : Nat) : Prop where
 good : Rw a
 sz : a.Size = (n : Int)
 pos : 0 < n
 le : n ≤ 8
theorem ReadyA.nat {n : Nat} (h : ReadyA a n) : a.Size.toNat = n := by have := h.sz; omega
theorem ReadyA.op {n : Nat} (h : ReadyA a n) {i : Nat} (hi : i < a.Ops.length) : ∃ r : Nat, (nth a.Ops i).Arity = (r : Int) ∧ r ≤ 3 ∧ (nth a.Ops i).Table.length = n ^ r ∧ Ct (nth a.Ops i).Table n ∧ (nth a.Ops i).Table.length ≤ 512 ∧ (∀ k S, Axb a i k S ↔ At2 n r k S) := by
 have := h.good.2.2.2 _ (A9 hi)
 rw [h.nat] at this
 obtain ⟨h1, h2, h3, h4⟩ := this
 refine ⟨(nth a.Ops i).Arity.toNat, by omega, by omega, h3, h4, ?_, fun k S => by unfold Axb; rw [h.nat]⟩
 rw [h3]; exact H5 h.le (by omega)
structure Pass (n : Nat) (G : Nat → Bool) (c0 : Bool) (H0 : List Bool) (c : Bool) (H : List Bool) (done : (Nat → Bool) → Prop) : Prop where
 len : H.length = n
 more : ∀ z, nth H0 z = true → nth H z = true
 low : ∀ z, nth H z = true → G z = true
 up : c = true → c0 = true ∨ Awn H0 < Awn H
 no : c = false → c0 = false ∧ H = H0 ∧ done (nth H)
 mono : Awn H0 ≤ Awn H
end
end Go.Proofs.Ytoaojijoefljaaa.Ax
namespace Go.Proofs.Ytoaojijoefljaaa.Ax
open Go Classical
theorem Aq0 {α β : Type} {o : Option α} {k : α → Option β} {Q : α → Prop} {R : β → Prop} (h : ∃ a, o = some a ∧ Q a) (h2 : ∀ a, Q a → ∃ b, k a = some b ∧ R b) : ∃ b, o.bind k = some b ∧ R b := by
 obtain ⟨a, e, hq⟩ := h
 rw [e]; exact h2 a hq
theorem Ayb {β : Type} {c : Prop} [Decidable c] {x y : Option β} {R : β → Prop} (h1 : c → ∃ b, x = some b ∧ R b) (h2 : ¬ c → ∃ b, y = some b ∧ R b) : ∃ b, (if c then x else y) = some b ∧ R b := by
 split
 ·exact h1 ‹_›
 ·exact h2 ‹_›
def Za (a : SAlgebra) : Prop := a.Ops.length ≤ 10 ∧ ∀ f ∈ a.Ops, f.Table.length ≤ 101
theorem Aeg {a : SAlgebra} (h : Za a) : Uw a := ⟨by have := h.1; omega, fun f hf => by have := h.2 f hf; omega⟩
theorem Aop (s : ByteArray) (hs : s.size ≤ 100) : ∃ f, Ba s = some f ∧ f.Table.length ≤ 100 := by
 have hL := Bk
 unfold Ba
 obtain ⟨f, e, hf⟩ := Gt (body := F3 s) (fun t => ∃ j : Nat, t.1 = (j : Int) ∧ j ≤ s.size ∧ t.2.Table.length ≤ j) (fun t => s.size - t.1.toNat) (fun f => f.Table.length ≤ 100) (fun t ht => by
  obtain ⟨x4, x3⟩ := t
  obtain ⟨j, g1, g2, g3⟩ := ht
  simp only at g1 g2 g3
  subst g1
  unfold F3
  dsimp only
  by_cases hj : (j : Int) < (s.size : Int)
  ·left
   rw [if_pos hj, Af (by omega), Af (by simp; omega), Af (by unfold InI; omega)]
   exact ⟨_, rfl, ⟨j + 1, rfl, by omega, by simp; omega⟩, by simp only; omega⟩
  ·right
   rw [if_neg hj]
   exact ⟨_, rfl, by omega⟩) (s := ((0 : Int), ({ Arity := 2, Table := Ao Int } : SOp))) ⟨0, rfl, Nat.zero_le _, by simp [Ao]⟩
 rw [e]
 exact ⟨_, rfl, hf⟩
theorem Aof {n : Int} (hn : n = 2 ∨ n = 3) : ∃ f, Gf n = some f ∧ f.Table.length ≤ 100 := by
 have hL := Bk
 unfold Gf
 obtain ⟨f, e, hf⟩ := Gt (body := Fv n) (fun t => ∃ j : Nat, t.1 = (j : Int) ∧ j ≤ 27 ∧ t.2.Table.length ≤ j) (fun t => 27 - t.1.toNat) (fun f => f.Table.length ≤ 100) (fun t ht => by
  obtain ⟨x4, x3⟩ := t
  obtain ⟨j, g1, g2, g3⟩ := ht
  simp only at g1 g2 g3
  subst g1
  unfold Fv
  dsimp only
  have d1 : ∀ m : Int, (j : Int).tdiv m = (j : Int) / m := fun m => Int.tdiv_eq_ediv_of_nonneg (by omega)
  have d2 : ∀ m : Int, (j : Int).tmod m = (j : Int) % m := fun m => Int.tmod_eq_emod_of_nonneg (by omega)
  rw [d1, d1, d2]
  rcases hn with rfl | rfl
  ·have d3 : ((j : Int) / 2).tmod 2 = ((j : Int) / 2) % 2 := Int.tmod_eq_emod_of_nonneg (by omega)
   rw [d3]
   by_cases hj : (j : Int) < 2 * 2 * 2
   ·left
    rw [Af (by unfold InI; omega), Af (by unfold InI; omega), if_pos hj]
    rw [Af (by unfold InI; omega), Af (by unfold InI; omega), Af (by unfold InI; omega), Af (by unfold InI; omega), Af (by omega), Af (by unfold InI; omega), Af (by omega), Af (by unfold InI; omega), Af (by omega), Af (by simp; omega), Af (by unfold InI; omega)]
    exact ⟨_, rfl, ⟨j + 1, rfl, by omega, by simp; omega⟩, by simp only; omega⟩
   ·right
    rw [Af (by unfold InI; omega), Af (by unfold InI; omega), if_neg hj]
    exact ⟨_, rfl, by omega⟩
  ·have d3 : ((j : Int) / 3).tmod 3 = ((j : Int) / 3) % 3 := Int.tmod_eq_emod_of_nonneg (by omega)
   rw [d3]
   by_cases hj : (j : Int) < 3 * 3 * 3
   ·left
    rw [Af (by unfold InI; omega), Af (by unfold InI; omega), if_pos hj]
    rw [Af (by unfold InI; omega), Af (by unfold InI; omega), Af (by unfold InI; omega), Af (by unfold InI; omega), Af (by omega), Af (by unfold InI; omega), Af (by omega), Af (by unfold InI; omega), Af (by omega), Af (by simp; omega), Af (by unfold InI; omega)]
    exact ⟨_, rfl, ⟨j + 1, rfl, by omega, by simp; omega⟩, by simp only; omega⟩
   ·right
    rw [Af (by unfold InI; omega), Af (by unfold InI; omega), if_neg hj]
    exact ⟨_, rfl, by omega⟩) (s := ((0 : Int), ({ Arity := 3, Table := Ao Int } : SOp))) ⟨0, rfl, Nat.zero_le _, by simp [Ao]⟩
 rw [e]
 exact ⟨_, rfl, hf⟩
theorem Al5 (k : Int) : ∃ a, Jb k = some a ∧ Za a := by
 have fin0 : ∀ {z : Int}, Za { Size := z, Ops := Ao SOp } := ⟨by simp [Ao], fun f hf => by simp [Ao] at hf⟩
 have fin1 : ∀ {z : Int} {f : SOp}, f.Table.length ≤ 100 → Za { Size := z, Ops := [f] } := fun h => ⟨by simp, fun f hf => by simp at hf; subst hf; omega⟩
 have fin2 : ∀ {z : Int} {f g : SOp}, f.Table.length ≤ 100 → g.Table.length ≤ 100 → Za { Size := z, Ops := [f, g] } := fun h1 h2 => ⟨by simp, fun f hf => by
  simp only [List.mem_cons, List.not_mem_nil, or_false] at hf
  rcases hf with rfl | rfl <;> omega⟩
 have fin3 : ∀ {z : Int} {f g e : SOp}, f.Table.length ≤ 100 → g.Table.length ≤ 100 → e.Table.length ≤ 100 → Za { Size := z, Ops := [f, g, e] } := fun h1 h2 h3 => ⟨by simp, fun f hf => by
  simp only [List.mem_cons, List.not_mem_nil, or_false] at hf
  rcases hf with rfl | rfl | rfl <;> omega⟩
 unfold Jb
 repeat' (first | refine Ayb (fun _ => ?_) (fun _ => ?_) | refine Aq0 (Aop _ (by decide)) fun f hf => ?_ | refine Aq0 (Aof (by simp)) fun f hf => ?_)
 all_goals
  first
   | exact ⟨_, rfl, fin0⟩
   | exact ⟨_, rfl, fin1 (by first | assumption | decide)⟩
   | exact ⟨_, rfl, fin2 (by first | assumption | decide) (by first | assumption | decide)⟩
   | exact ⟨_, rfl, fin3 (by first | assumption | decide) (by first | assumption | decide) (by first | assumption | decide)⟩
theorem Al3 {c : Sl1Cur} {k : Nat} (h : Cur k c) (hk : k ≤ 600000000) : ∃ a d, Et c = some (a, d) ∧ Cur (k + 1000) d ∧ Za a := by
 have hL := Bk
 unfold Et
 obtain ⟨b, d, e, hd⟩ := Aan h (by omega) 4
 rw [e]
 simp only [Option.bind_some]
 by_cases hb : b = true
 ·rw [if_pos hb]
  obtain ⟨n, d2, e2, hd2, hn⟩ := Fu hd (by omega) [2, 2, 3, 3, 4] (by simp)
  rw [e2]
  simp only [Option.bind_some]
  obtain ⟨m, d3, e3, hd3, hm⟩ := Fu hd2 (by omega) [1, 1, 2] (by simp)
  rw [e3]
  simp only [Option.bind_some]
  obtain ⟨N, rfl, hN⟩ : ∃ N : Nat, n = (N : Int) ∧ 2 ≤ N ∧ N ≤ 4 := ⟨n.toNat, by simp at hn; omega, by simp at hn; omega⟩
  obtain ⟨M, rfl, hM⟩ : ∃ M : Nat, m = (M : Int) ∧ 1 ≤ M ∧ M ≤ 2 := ⟨m.toNat, by simp at hm; omega, by simp at hm; omega⟩
  obtain ⟨⟨a, d4⟩, e4, ⟨ha1, ha2, ha3⟩, hd4⟩ := Gt (body := Dg (N : Int)) (fun s => ∃ j : Nat, s.1 = (j : Int) ∧ j ≤ M ∧ s.2.1.Size = (N : Int) ∧ s.2.1.Ops.length = M - j ∧ (∀ f ∈ s.2.1.Ops, 1 ≤ f.Table.length ∧ f.Table.length ≤ 64) ∧ Cur (k + 6 + 200 * (M - j)) s.2.2) (fun s => s.1.toNat)
   (fun t => (t.1.Size = (N : Int) ∧ t.1.Ops.length = M ∧ ∀ f ∈ t.1.Ops, 1 ≤ f.Table.length ∧ f.Table.length ≤ 64) ∧ Cur (k + 500) t.2) (fun s hs => by
   obtain ⟨x6, x5, x1⟩ := s
   obtain ⟨j, g1, g2, g3, g4, g5, g6⟩ := hs
   simp only at g1 g2 g3 g4 g5 g6
   subst g1
   unfold Dg
   dsimp only
   by_cases hj : (j : Int) > 0
   ·left
    rw [if_pos hj]
    obtain ⟨r, d5, e5, hd5, hr⟩ := Fu g6 (by omega) [0, 1, 2, 2, 3] (by simp)
    rw [e5]
    simp only [Option.bind_some]
    obtain ⟨R, rfl, hR⟩ : ∃ R : Nat, r = (R : Int) ∧ R ≤ 3 := ⟨r.toNat, by simp at hr; omega, by simp at hr; omega⟩
    have hop : ∃ f : SOp, ((if (N : Int) = 4 then if (R : Int) = 3 then some ({ Arity := 2, Table := Ao Int } : SOp) else some { Arity := (R : Int), Table := Ao Int } else some { Arity := (R : Int), Table := Ao Int } : Option SOp)) = some f ∧ f.Table = [] ∧ ∃ Q : Nat, f.Arity = (Q : Int) ∧ 1 ≤ N ^ Q ∧ N ^ Q ≤ 64 ∧ Q ≤ 3 := by
     by_cases h4 : (N : Int) = 4
     ·rw [if_pos h4]
      have h4 : N = 4 := by omega
      subst h4
      by_cases h3 : (R : Int) = 3
      ·rw [if_pos h3]; exact ⟨_, rfl, rfl, 2, rfl, by decide⟩
      ·rw [if_neg h3]
       refine ⟨_, rfl, rfl, R, rfl, ?_⟩
       have : R = 0 ∨ R = 1 ∨ R = 2 := by omega
       rcases this with rfl | rfl | rfl <;> decide
     ·rw [if_neg h4]
      refine ⟨_, rfl, rfl, R, rfl, ?_⟩
      have h5 : N = 2 ∨ N = 3 := by omega
      have : R = 0 ∨ R = 1 ∨ R = 2 ∨ R = 3 := by omega
      rcases h5 with rfl | rfl <;> rcases this with rfl | rfl | rfl | rfl <;> decide
    obtain ⟨f, ef, ht, Q, hQ, q1, q2, q3⟩ := hop
    rw [ef]
    simp only [Option.bind_some]
    rw [hQ, Rd (by omega) q3]
    simp only [Option.bind_some]
    obtain ⟨⟨f2, d6⟩, e6, hf2, hd6⟩ := Gt (body := Dr (N : Int) (j : Int) x5) (fun s => ∃ i : Nat, s.1 = (i : Int) ∧ i ≤ N ^ Q ∧ s.2.1.Table.length = N ^ Q - i ∧ Cur (k + 6 + 200 * (M - j) + 2 + 2 * (N ^ Q - i)) s.2.2) (fun s => s.1.toNat) (fun t => t.1.Table.length = N ^ Q ∧ Cur (k + 6 + 200 * (M - j) + 2 + 2 * N ^ Q) t.2) (fun s hs => by
     obtain ⟨x8, x7, x9⟩ := s
     obtain ⟨i, k1, k2, k3, k4⟩ := hs
     simp only at k1 k2 k3 k4
     subst k1
     unfold Dr
     dsimp only
     by_cases hi : (i : Int) > 0
     ·left
      rw [if_pos hi]
      obtain ⟨v, d7, e7, hd7, _⟩ := Dn k4 (by omega) (N : Int)
      rw [e7]
      simp only [Option.bind_some]
      rw [Af (by simp; omega), Af (by unfold InI; omega)]
      exact ⟨_, rfl, ⟨i - 1, by simp only; omega, by omega, by simp; omega, hd7.mono (by omega)⟩, by simp only; omega⟩
     ·right
      rw [if_neg hi]
      exact ⟨_, rfl, by simp only; omega, k4.mono (by omega)⟩) (s := (((N ^ Q : Nat) : Int), f, d5)) ⟨N ^ Q, rfl, Nat.le_refl _, by simp [ht], hd5.mono (by omega)⟩
    rw [e6]
    simp only [Option.bind_some]
    rw [Af (by simp; omega), Af (by unfold InI; omega)]
    simp only at hf2 hd6
    refine ⟨_, rfl, ⟨j - 1, by simp only; omega, by omega, g3, by simp; omega, fun f hf => ?_, hd6.mono (by omega)⟩, by simp only; omega⟩
    rcases List.mem_append.1 hf with h' | h'
    ·exact g5 f h'
    ·rw [List.mem_singleton.1 h']; omega
   ·right
    rw [if_neg hj]
    exact ⟨_, rfl, ⟨g3, by simp only; omega, g5⟩, g6.mono (by omega)⟩) (s := ((M : Int), ({ Size := (N : Int), Ops := Ao SOp } : SAlgebra), d3)) ⟨M, rfl, Nat.le_refl _, rfl, by simp [Ao], fun f hf => by simp [Ao] at hf, hd3.mono (by omega)⟩
  rw [e4]
  simp only [Option.bind_some]
  simp only at ha1 ha2 ha3 hd4
  have h0 : 0 < a.Ops.length := by omega
  have hf0 := ha3 _ (A9 h0)
  have ht : Za a := ⟨by omega, fun f hf => by have := ha3 f hf; omega⟩
  have hset : ∀ {z : Int} {f : SOp}, f.Table.length ≤ 101 → Za { Size := z, Ops := a.Ops.set (Int.toNat 0) f } := fun hf => ⟨by simp; omega, fun g hg => by
   rcases List.mem_or_eq_of_mem_set hg with h' | h'
   ·have := ha3 g h'; omega
   ·rw [h']; exact hf⟩
  obtain ⟨w, d5, e5, hd5, w0, _⟩ := Dn hd4 (by omega) 16
  rw [e5]
  simp only [Option.bind_some]
  by_cases c0 : w = 0
  ·rw [if_pos c0, Af (by unfold InI; omega)]
   obtain ⟨r, d6, e6, hd6, _⟩ := Fu hd5 (by omega) [0, 9, (N : Int) + 1] (by simp)
   rw [e6]
   exact ⟨_, _, rfl, hd6.mono (by omega), ht⟩
  rw [if_neg c0]
  by_cases c1 : w = 1
  ·rw [if_pos c1, Af (by omega), Af (by simp only [Int.toNat_zero, List.length_singleton]; omega)]
   exact ⟨_, _, rfl, hd5.mono (by omega), hset (by simp only [Int.toNat_zero, List.length_append, List.length_singleton]; omega)⟩
  rw [if_neg c1]
  by_cases c2 : w = 2
  ·rw [if_pos c2, Af (by omega)]
   obtain ⟨r, d6, e6, hd6, r0, r1⟩ := Dn hd5 (by omega) ((nth a.Ops (Int.toNat 0)).Table.length : Int)
   rw [e6]
   simp only [Option.bind_some]
   obtain ⟨s, d7, e7, hd7, _⟩ := Fu hd6 (by omega) [-1, (N : Int)] (by simp)
   rw [e7]
   simp only [Option.bind_some]
   simp only [Int.toNat_zero] at r1 ⊢
   rw [Af (by omega)]
   exact ⟨_, _, rfl, hd7.mono (by omega), hset (by simp only [List.length_set]; omega)⟩
  rw [if_neg c2]
  by_cases c3 : w = 3
  ·rw [if_pos c3]
   obtain ⟨r, d6, e6, hd6, _⟩ := Fu hd5 (by omega) [-1, 4] (by simp)
   rw [e6]
   simp only [Option.bind_some]
   rw [Af (by omega)]
   exact ⟨_, _, rfl, hd6.mono (by omega), hset (by simp only [Int.toNat_zero]; omega)⟩
  rw [if_neg c3]
  by_cases c4 : w = 4
  ·rw [if_pos c4]
   obtain ⟨⟨a2, d6⟩, e6, ht2, hd6⟩ := Gt (body := Dk (N : Int)) (fun s => s.1.Ops.length ≤ 5 ∧ (∀ f ∈ s.1.Ops, f.Table.length ≤ 64) ∧ Cur (k + 502 + 2 * s.1.Ops.length) s.2) (fun s => 5 - s.1.Ops.length) (fun t => Za t.1 ∧ Cur (k + 600) t.2) (fun s hs => by
    obtain ⟨x5, x1⟩ := s
    obtain ⟨g1, g2, g3⟩ := hs
    simp only at g1 g2 g3
    unfold Dk
    dsimp only
    obtain ⟨r, d7, e7, hd7, r0, r1⟩ := Dn g3 (by omega) 2
    rw [e7]
    simp only [Option.bind_some]
    rw [Af (by unfold InI; omega)]
    by_cases hl : (x5.Ops.length : Int) < 4 + r
    ·left
     rw [if_pos hl, Af (by omega), Af (by simp; omega)]
     refine ⟨_, rfl, ⟨by simp; omega, fun f hf => ?_, hd7.mono (by simp; omega)⟩, by simp; omega⟩
     rcases List.mem_append.1 hf with h' | h'
     ·exact g2 f h'
     ·rw [List.mem_singleton.1 h']; simp; omega
    ·right
     rw [if_neg hl]
     exact ⟨_, rfl, ⟨by simp only; omega, fun f hf => by have := g2 f hf; omega⟩, hd7.mono (by omega)⟩) (s := (a, d5)) ⟨by simp only; omega, fun f hf => (ha3 f hf).2, hd5.mono (by omega)⟩
   rw [e6]
   exact ⟨_, _, rfl, hd6.mono (by omega), ht2⟩
  rw [if_neg c4]
  exact ⟨_, _, rfl, hd5.mono (by omega), ht⟩
 ·rw [if_neg hb]
  obtain ⟨r, d2, e2, hd2, _⟩ := Dn hd (by omega) 17
  rw [e2]
  simp only [Option.bind_some]
  obtain ⟨a, e3, ht⟩ := Al5 r
  rw [e3]
  exact ⟨_, _, rfl, hd2.mono (by omega), ht⟩
theorem Arh {code : List Int} (hc : ∀ x ∈ code, 0 ≤ x ∧ x ≤ 255) (hl : code.length ≤ 65536) : Cur 0 ({ code := code, at_ := 0, seed := 0 } : Sl1Cur) := ⟨hc, hl, Int.le_refl _, Int.le_refl _⟩
end Go.Proofs.Ytoaojijoefljaaa.Ax
namespace Go.Proofs.Ytoaojijoefljaaa.Ax
open Go Classical
def Adp (a : SAlgebra) (k : Int) : Prop := Rw a ∧ 1 ≤ k ∧ k ≤ 3 ∧ a.Size.toNat ^ k.toNat ≤ 27
theorem Agl {n : Nat} (hn : n ≤ 8) (k : Int) : Ff n k = some (decide (1 ≤ k ∧ k ≤ 3 ∧ n ^ k.toNat ≤ 27)) := by
 unfold Ff
 by_cases h1 : 1 ≤ k
 ·rw [if_pos h1]
  by_cases h3 : k ≤ 3
  ·rw [if_pos h3]
   have e := Rp hn (k := k.toNat) (by omega)
   rw [show ((k.toNat : Nat) : Int) = k by omega] at e
   rw [e]
   simp only [Option.bind_some]
   congr 1
   rw [decide_eq_decide]
   constructor
   ·intro h; exact ⟨h1, h3, by omega⟩
   ·intro h; omega
  ·rw [if_neg h3, decide_eq_false fun h => h3 h.2.1]
 ·rw [if_neg h1, decide_eq_false fun h => h1 h.1]
theorem W1 {n : Nat} (hn : n ≤ 8) (k : Int) : Ej n k = some (decide (1 ≤ k ∧ k ≤ 3 ∧ n ^ k.toNat ≤ 27)) := by
 unfold Ej
 rw [Ut]
 simp only [Option.bind_some]
 by_cases h1 : 1 ≤ k ∧ k ≤ 3
 ·rw [decide_eq_true h1, if_pos rfl]
  have e := Rd hn (k := k.toNat) (by omega)
  rw [show ((k.toNat : Nat) : Int) = k by omega] at e
  rw [e]
  simp only [Option.bind_some]
  congr 1
  rw [decide_eq_decide]
  constructor
  ·intro h; exact ⟨h1.1, h1.2, by omega⟩
  ·intro h; omega
 ·rw [decide_eq_false h1, if_neg (by simp), decide_eq_false fun h => h1 ⟨h.1, h.2.1⟩]
noncomputable def clA (a : SAlgebra) (k : Int) : Option Clo := if Adp a k then Ako a.Size.toNat k.toNat a.Ops else none
section
variable {a : SAlgebra} {k : Int}
theorem Adp.size (h : Adp a k) : ∃ n m : Nat, a.Size = n ∧ k = m ∧ 1 ≤ n ∧ n ≤ 8 ∧ 1 ≤ m ∧ m ≤ 3 ∧ n ^ m ≤ 27 ∧ a.Size.toNat = n ∧ k.toNat = m := by
 obtain ⟨g1, g2, _, _⟩ := h.1
 obtain ⟨h1, h2, h3⟩ := h.2
 exact ⟨a.Size.toNat, k.toNat, by omega, by omega, by omega, by omega, by omega, by omega, h3, rfl, rfl⟩
theorem Adp.ops (h : Adp a k) : ∀ f ∈ a.Ops, Ic a.Size.toNat f := h.1.2.2.2
theorem Tv {s : Clo} (h : clA a k = some s) : Adp a k ∧ CloC a.Size.toNat k.toNat a.Ops s := by
 unfold clA at h
 by_cases hc : Adp a k
 ·rw [if_pos hc] at h
  obtain ⟨n, m, e1, e2, b1, b2, b3, b4, b5, b6, b7⟩ := hc.size
  exact ⟨hc, Ash (by omega) (by omega) hc.ops h⟩
 ·rw [if_neg hc] at h; cases h
theorem Vv (hs : Uw a) : (clA a k = none ∧ Cs a k = some (none, false)) ∨ ∃ s S, clA a k = some s ∧ Cs a k = some (some (fnd s S), true) ∧ Wq S s.1 := by
 unfold Cs
 rw [Aod hs]
 simp only [Option.bind_some]
 by_cases hg : Rw a
 ·rw [decide_eq_true hg, if_pos rfl]
  have hn : ((a.Size.toNat : Nat) : Int) = a.Size := by have := hg.1; omega
  have e := Agl (n := a.Size.toNat) (by have := hg.2.1; omega) k
  rw [hn] at e
  rw [e]
  simp only [Option.bind_some]
  by_cases hr : 1 ≤ k ∧ k ≤ 3 ∧ a.Size.toNat ^ k.toNat ≤ 27
  ·rw [decide_eq_true hr, if_pos rfl]
   have hc : Adp a k := ⟨hg, hr⟩
   obtain ⟨n, m, e1, e2, b1, b2, b3, b4, b5, b6, b7⟩ := hc.size
   have hcl : clA a k = Ako a.Size.toNat k.toNat a.Ops := if_pos hc
   rw [hcl, b6, b7, e1, e2]
   have hops := hc.ops
   rw [b6] at hops
   simp only [Option.bind_some]
   rcases Asa (n := n) (k := m) (ops := a.Ops) b1 b2 b3 b4 hops (by have := hg.2.2.1; omega) with ⟨g1, g2⟩ | ⟨s, S, g1, g2, g3⟩
   ·rw [g2]; exact .inl ⟨g1, rfl⟩
   ·rw [g2]; exact .inr ⟨s, S, g1, rfl, g3⟩
  ·rw [decide_eq_false hr, if_neg (by simp)]
   exact .inl ⟨if_neg fun h => hr h.2, rfl⟩
 ·rw [decide_eq_false hg, if_neg (by simp)]
  exact .inl ⟨if_neg fun h => hg h.1, rfl⟩
theorem Xu (h : Adp a k) : ∃ R, D8 a k = some R ∧ Avt a.Size.toNat (a.Size.toNat ^ k.toNat) (clA a k) R := by
 obtain ⟨n, m, e1, e2, b1, b2, b3, b4, b5, b6, b7⟩ := h.size
 have hcl : clA a k = Ako a.Size.toNat k.toNat a.Ops := if_pos h
 rw [hcl, b6, b7, e2]
 exact Apb h.1 e1 b3 b4
noncomputable def Adq (a : SAlgebra) (f : SOp) : Bool × Bool := match clA a f.Arity with
 | none => (false, false)
 | some s => if Ic a.Size.toNat f then (decide (f.Table ∈ s.1), true) else (false, false)
theorem Axz {n : Nat} (hn : n ≤ 8) {f : SOp} (hf : Ic n f) : ∀ x ∈ f.Table, 0 ≤ x ∧ x < 65536 := fun x hx => by have := hf.2.2.2 x hx; omega
theorem Avm {s : Clo} (h : CloC a.Size.toNat k.toNat a.Ops s) (hg : Rw a) : ∀ t ∈ s.1, ∀ x ∈ t, 0 ≤ x ∧ x < 65536 := fun t ht => Adt (by have := hg.2.1; omega) (h.inv.tabs t ht)
theorem Avz (hg : Rw a) {f : SOp} (hl : f.Table.length ≤ LIM) : C6 f a.Size = some (decide (Ic a.Size.toNat f)) := by
 have hn : ((a.Size.toNat : Nat) : Int) = a.Size := by have := hg.1; omega
 have := Z3 (n := a.Size.toNat) (by have := hg.2.1; omega) hl
 rwa [hn] at this
theorem Awu (hg : Rw a) {f : SOp} (hl : f.Table.length ≤ LIM) : C5 a.Size f = some (decide (Ic a.Size.toNat f)) := by
 have hn : ((a.Size.toNat : Nat) : Int) = a.Size := by have := hg.1; omega
 have := Xz (n := a.Size.toNat) (by have := hg.1; omega) (by have := hg.2.1; omega) hl
 rwa [hn] at this
theorem Aw6 (hs : Uw a) {f : SOp} (hl : f.Table.length ≤ LIM) : Ly a f = some (decide (Adp a f.Arity ∧ Ic a.Size.toNat f)) := by
 unfold Ly
 rw [Aid hs]
 simp only [Option.bind_some]
 by_cases hg : Rw a
 ·rw [decide_eq_true hg, if_pos rfl]
  have hn : ((a.Size.toNat : Nat) : Int) = a.Size := by have := hg.1; omega
  have e := W1 (n := a.Size.toNat) (by have := hg.2.1; omega) f.Arity
  rw [hn] at e
  rw [e]
  simp only [Option.bind_some]
  by_cases hr : 1 ≤ f.Arity ∧ f.Arity ≤ 3 ∧ a.Size.toNat ^ f.Arity.toNat ≤ 27
  ·rw [decide_eq_true hr, if_pos rfl, Awu hg hl]
   simp only [Option.bind_some]
   congr 1
   rw [decide_eq_decide]
   exact ⟨fun h => ⟨⟨hg, hr⟩, h⟩, fun h => h.2⟩
  ·rw [decide_eq_false hr, if_neg (by simp), decide_eq_false fun h => hr h.1.2]
 ·rw [decide_eq_false hg, if_neg (by simp), decide_eq_false fun h => hg h.1.1]
theorem Asj {T : List (List Int)} {t : List Int} (hT : T.length ≤ 1048576) (hr : ∀ u ∈ T, u.length ≤ LIM) : ∃ r, D9 T t = some r ∧ decide (r ≥ 0) = decide (t ∈ T) := by
 rcases Ad1 (t := t) hT hr with ⟨h1, e⟩ | ⟨i, hi, h1, _, e⟩
 ·exact ⟨-1, e, by rw [decide_eq_false h1]; rfl⟩
 ·exact ⟨_, e, by rw [decide_eq_true (show t ∈ T by rw [← h1]; exact A9 hi)]; simp⟩
theorem Aaw {s : Clo} {n k : Nat} {ops : List SOp} (h : CloC n k ops s) (hp : n ^ k ≤ 27) : ∀ u ∈ s.1, u.length ≤ LIM := fun u hu => by
 have := (h.inv.tabs u hu).1
 have := Bk
 omega
theorem Oq (hs : Uw a) {f : SOp} (hl : f.Table.length ≤ 1048576) : C7 a f = some (Adq a f) ∧ Ed a f = some (Adq a f) := by
 have hL := Bk
 constructor
 ·unfold C7 Adq
  rcases Vv (k := f.Arity) hs with ⟨h1, e⟩ | ⟨s, S, h1, e, hS⟩
  ·rw [e, h1]
   simp
  ·obtain ⟨hc, hcl⟩ := Tv h1
   rw [e, h1]
   simp only [Option.bind_some, if_true]
   rw [Avz hc.1 (by omega)]
   simp only [Option.bind_some]
   by_cases ho : Ic a.Size.toNat f
   ·rw [decide_eq_true ho, if_pos rfl, if_pos ho]
    simp only [Option.bind_some]
    rw [Arg hl]
    simp only [Option.bind_some]
    have hf : (fnd s S).seen = S := rfl
    rw [hf, hS (Adb f.Table)]
    congr 2
    rw [decide_eq_decide]
    constructor
    ·rintro ⟨t, ht, ek⟩
     rwa [← Anj (Avm hcl hc.1 t ht) (Axz (by have := hc.1.2.1; omega) ho) ek]
    ·exact fun h => ⟨_, h, rfl⟩
   ·rw [decide_eq_false ho, if_neg (by simp), if_neg ho]
    rfl
 ·unfold Ed Adq
  rw [Aw6 hs (by omega)]
  simp only [Option.bind_some]
  by_cases hc : Adp a f.Arity
  ·by_cases ho : Ic a.Size.toNat f
   ·rw [decide_eq_true ⟨hc, ho⟩, if_pos rfl]
    obtain ⟨R, e, hR⟩ := Xu hc
    rw [e]
    simp only [Option.bind_some]
    cases h1 : clA a f.Arity with
    | none =>
      rw [h1] at hR
      rw [if_pos hR.1]
    | some s =>
      rw [h1] at hR
      obtain ⟨_, hcl⟩ := Tv h1
      have hR' : R = { tables := s.1, steps := s.2, large := false } := hR
      rw [hR']
      dsimp only
      rw [if_neg (by simp), if_pos ho]
      obtain ⟨r, e2, hr⟩ := Asj (T := s.1) (t := f.Table) (by have := hcl.le; omega) (Aaw hcl hc.2.2.2)
      rw [e2]
      simp only [Option.bind_some]
      rw [hr]
   ·rw [decide_eq_false fun h => ho h.2, if_neg (by simp)]
    cases h1 : clA a f.Arity with
    | none => rfl
    | some s => dsimp only; rw [if_neg ho]
  ·rw [decide_eq_false fun h => hc h.1, if_neg (by simp)]
   have h1 : clA a f.Arity = none := if_neg hc
   rw [h1]
def H8 (k : Int) (T : List (List Int)) : List SOp := T.map fun t => { Arity := k, Table := t }
theorem Arm {T : List (List Int)} (hT : T.length ≤ 1000) (hr : ∀ u ∈ T, u.length ≤ LIM) : Lv k T = some (H8 k T) ∧ Kf k T = some (H8 k T) := by
 have hL := Bk
 have e : ∀ i, i < T.length → (H8 k T).take (i + 1) = (H8 k T).take i ++ [{ Arity := k, Table := nth T i }] := fun i hi => by
  unfold H8
  rw [D4 (by simpa using hi), D1 _ hi]
 have hl : (H8 k T).length = T.length := by simp [H8]
 constructor
 ·unfold Lv
  have key := Bs (body := E8 k T) (fun i => ((i : Int), (H8 k T).take i)) T.length (H8 k T) (fun i hi => by
   unfold E8
   dsimp only
   rw [if_pos (by omega), Af (by omega), Int.toNat_natCast, Amn (hr _ (A9 hi))]
   simp only [Option.bind_some]
   rw [Af (by simp only [List.length_take, List.length_cons, List.length_nil]; omega), Af (by unfold InI; omega), ← e i hi]
   rfl) (by
   unfold E8
   dsimp only
   rw [if_neg (by omega), List.take_of_length_le (by omega)])
  have key' : Ar (E8 k T) (0, Ao SOp) = _ := key
  rw [key']; rfl
 ·unfold Kf
  have key := Bs (body := Eg k T) (fun i => ((i : Int), (H8 k T).take i)) T.length (H8 k T) (fun i hi => by
   unfold Eg
   dsimp only
   rw [if_pos (by omega), Af (by omega), Int.toNat_natCast, Au9 (hr _ (A9 hi))]
   simp only [Option.bind_some]
   rw [Af (by simp only [List.length_take, List.length_cons, List.length_nil]; omega), Af (by unfold InI; omega), ← e i hi]
   rfl) (by
   unfold Eg
   dsimp only
   rw [if_neg (by omega), List.take_of_length_le (by omega)])
  have key' : Ar (Eg k T) (0, Ao SOp) = _ := key
  rw [key']; rfl
noncomputable def tfR (a : SAlgebra) (k : Int) : List SOp × Bool := match clA a k with
 | none => ([], false)
 | some s => (H8 k s.1, true)
theorem Aab (hs : Uw a) : Eu a k = some (tfR a k) ∧ Er a k = some (tfR a k) := by
 have hL := Bk
 constructor
 ·unfold Eu tfR
  rcases Vv (k := k) hs with ⟨h1, e⟩ | ⟨s, S, h1, e, _⟩
  ·rw [e, h1]; rfl
  ·obtain ⟨hc, hcl⟩ := Tv h1
   rw [e, h1]
   simp only [Option.bind_some, if_true]
   have := (Arm (k := k) (T := s.1) (by have := hcl.le; omega) (Aaw hcl hc.2.2.2)).1
   have hft : (fnd s S).tables = s.1 := rfl
   rw [hft, this]; rfl
 ·unfold Er tfR
  rw [Aid hs]
  simp only [Option.bind_some]
  by_cases hg : Rw a
  ·rw [decide_eq_true hg, if_pos rfl]
   have hn : ((a.Size.toNat : Nat) : Int) = a.Size := by have := hg.1; omega
   have e := W1 (n := a.Size.toNat) (by have := hg.2.1; omega) k
   rw [hn] at e
   rw [e]
   simp only [Option.bind_some]
   by_cases hr : 1 ≤ k ∧ k ≤ 3 ∧ a.Size.toNat ^ k.toNat ≤ 27
   ·rw [decide_eq_true hr, if_pos rfl]
    have hc : Adp a k := ⟨hg, hr⟩
    obtain ⟨R, e2, hR⟩ := Xu hc
    simp only [Option.bind_some]
    rw [e2]
    simp only [Option.bind_some]
    cases h1 : clA a k with
    | none =>
      rw [h1] at hR
      rw [if_pos hR.1]
    | some s =>
      rw [h1] at hR
      obtain ⟨_, hcl⟩ := Tv h1
      have hR' : R = { tables := s.1, steps := s.2, large := false } := hR
      rw [hR']
      dsimp only
      rw [if_neg (by simp), (Arm (k := k) (T := s.1) (by have := hcl.le; omega) (Aaw hcl hc.2.2.2)).2]
      rfl
   ·rw [decide_eq_false hr, if_neg (by simp)]
    have h1 : clA a k = none := if_neg fun h => hr h.2
    rw [h1]; rfl
  ·rw [decide_eq_false hg, if_neg (by simp)]
   have h1 : clA a k = none := if_neg fun h => hg h.1
   rw [h1]; rfl
end
theorem Amo {xs ys : List Int} (h : xs.length ≤ LIM) : Gn xs ys = some (decide (xs = ys)) := by
 have hL := Bk
 unfold Gn
 by_cases hl : xs.length = ys.length
 ·rw [if_neg (by omega)]
  have this := Hf (body := Cd xs ys) (fun i => (i : Int)) xs.length (fun i => ¬ nth xs i = nth ys i) () () (fun i hi hb => by
   unfold Cd
   rw [if_pos (by omega)]
   repeat rw [Af (by omega)]
   simp only [Int.toNat_natCast]
   rw [if_neg (by simpa using hb)]
   repeat rw [Af (by first | omega | (unfold InI; omega))]
   rfl) (fun i hi hb => by
   unfold Cd
   rw [if_pos (by omega)]
   repeat rw [Af (by omega)]
   simp only [Int.toNat_natCast]
   rw [if_pos hb]) (by unfold Cd; rw [if_neg (by omega)]) 0 (by omega)
  have this' : Ar (Cd xs ys) 0 = _ := this
  rw [this']
  by_cases hx : ∃ i, 0 ≤ i ∧ i < xs.length ∧ ¬ nth xs i = nth ys i
  ·rw [if_pos hx, decide_eq_false]
   ·rfl
   ·rintro rfl; obtain ⟨i, _, _, hc⟩ := hx; exact hc rfl
  ·rw [if_neg hx, decide_eq_true (Ab5 hl (Ng.1 hx))]
   rfl
 ·rw [if_pos (by omega), decide_eq_false fun e => hl (by rw [e])]
theorem Atn {f g : SOp} (h : f.Table.length ≤ LIM) : H4 f g = some (decide (f = g)) := by
 unfold H4
 by_cases ha : f.Arity = g.Arity
 ·rw [if_pos ha, Amo h]
  simp only [Option.bind_some]
  congr 1
  rw [decide_eq_decide]
  constructor
  ·intro e; cases f; cases g; simp_all
  ·intro e; rw [e]
 ·rw [if_neg ha, decide_eq_false fun e => ha (by rw [e])]
theorem Aao {c : Sl1Cur} {k : Nat} (h : Cur k c) (hk : k ≤ 600000000) : ∃ r d, Dm c = some (r, d) ∧ Cur (k + 4) d := by
 unfold Dm
 obtain ⟨w, d, e, hd, w0, w1⟩ := Dn h (by omega) 24
 rw [e]
 simp only [Option.bind_some]
 have et : w.tdiv 11 = w / 11 := Int.tdiv_eq_ediv_of_nonneg w0
 rw [et, Af ⟨by decide, by unfold InI; omega⟩, Af (by unfold InI; omega), Af (by simp only [List.length_cons, List.length_nil]; omega)]
 obtain ⟨n, d3, e3, hd3, _⟩ := Fu hd (by omega) (List.take ((6 + w / 11).toNat - Int.toNat 0) (List.drop (Int.toNat 0) [1, 1, 2, 2, 2, 3, 0, 4])) (by simp; omega)
 rw [e3]
 exact ⟨_, _, rfl, hd3.mono (by omega)⟩
theorem Aek {c : Sl1Cur} {k : Nat} (h : Cur k c) (hk : k ≤ 600000000) (n : Int) : ∃ f d, Bn c n = some (f, d) ∧ Cur (k + 200) d ∧ f.Table.length ≤ 65 ∧ f.Arity ≤ 3 := by
 have hL := Bk
 have e1 : ∀ a b : Int, I6 a b = some (if a < b then a else b) := fun a b => by
  unfold I6; split <;> rfl
 have e0 : ∀ a b : Int, C9 a b = some (if a > b then a else b) := fun a b => by
  unfold C9; split <;> rfl
 unfold Bn
 rw [e0]
 simp only [Option.bind_some]
 rw [e1]
 simp only [Option.bind_some]
 obtain ⟨m, hm, m1, m4⟩ : ∃ m : Nat, (if (if n > 1 then n else 1) < 4 then (if n > 1 then n else 1) else 4) = (m : Int) ∧ 1 ≤ m ∧ m ≤ 4 :=
  ⟨(if (if n > 1 then n else 1) < 4 then (if n > 1 then n else 1) else 4).toNat, by split <;> split <;> omega, by split <;> split <;> omega, by split <;> split <;> omega⟩
 rw [hm]
 obtain ⟨r, d, e, hd, hr⟩ := Fu h (by omega) [1, 1, 2, 2, 2, 3, 0] (by simp)
 rw [e]
 simp only [Option.bind_some]
 obtain ⟨R, rfl, hR⟩ : ∃ R : Nat, r = (R : Int) ∧ R ≤ 3 := ⟨r.toNat, by simp at hr; omega, by simp at hr; omega⟩
 have hpw : m ^ R ≤ 64 := Nat.le_trans (Nat.pow_le_pow_left m4 R) (Nat.le_trans (Nat.pow_le_pow_right (by omega) hR) (by decide))
 have hp1 : 1 ≤ m ^ R := Nat.pow_pos (by omega)
 rw [Rd (by omega) hR]
 simp only [Option.bind_some]
 obtain ⟨⟨f, d2⟩, e2, ⟨hf1, hf2⟩, hd2⟩ := Gt (body := Cw m) (fun s => ∃ i : Nat, s.1 = (i : Int) ∧ i ≤ m ^ R ∧ s.2.1.Arity = (R : Int) ∧ s.2.1.Table.length = m ^ R - i ∧ Cur (k + 2 + 2 * (m ^ R - i)) s.2.2) (fun s => s.1.toNat) (fun t => (t.1.Arity = (R : Int) ∧ t.1.Table.length = m ^ R) ∧ Cur (k + 140) t.2) (by
  rintro ⟨x, f, c⟩ ⟨i, rfl, g1, g2, g3, g4⟩
  dsimp only at g2 g3 g4
  unfold Cw
  dsimp only
  by_cases hi : i > 0
  ·rw [if_pos (by omega)]
   obtain ⟨v, d3, e3, hd3, _⟩ := Dn g4 (by omega) (m : Int)
   rw [e3]
   simp only [Option.bind_some]
   rw [Af (by simp; omega), Af (by unfold InI; omega)]
   exact .inl ⟨_, rfl, ⟨i - 1, by dsimp only; omega, by omega, g2, by simp; omega, hd3.mono (by omega)⟩, by dsimp only; omega⟩
  ·rw [if_neg (by omega)]
   exact .inr ⟨_, rfl, ⟨g2, by dsimp only; omega⟩, g4.mono (by omega)⟩) (s := (((m ^ R : Nat) : Int), { Arity := (R : Int), Table := Ao Int }, d)) ⟨m ^ R, rfl, Nat.le_refl _, rfl, by simp [Ao], hd.mono (by omega)⟩
 rw [e2]
 simp only [Option.bind_some]
 dsimp only at hf1 hf2 hd2
 obtain ⟨w, d3, e3, hd3, w0, _⟩ := Dn hd2 (by omega) 12
 rw [e3]
 simp only [Option.bind_some]
 by_cases c0 : w = 0
 ·rw [if_pos c0, hf1]
  by_cases h0 : (R : Int) > 0
  ·rw [if_pos h0]
   obtain ⟨p, d4, e4, hd4, p0, p1⟩ := Dn hd3 (by omega) (R : Int)
   rw [e4]
   simp only [Option.bind_some]
   have e5 := Ia (n := m) (k := R) (p := p.toNat) m1 (by omega) hR (by omega)
   rw [show ((p.toNat : Nat) : Int) = p by omega] at e5
   rw [e5]
   exact ⟨_, _, rfl, hd4.mono (by omega), by dsimp only; rw [Xb]; omega, by dsimp only; omega⟩
  ·rw [if_neg h0]
   exact ⟨_, _, rfl, hd3.mono (by omega), by omega, by omega⟩
 rw [if_neg c0]
 by_cases c1 : w = 1
 ·rw [if_pos c1]
  obtain ⟨p, d4, e4, hd4, p0, p1⟩ := Dn hd3 (by omega) (f.Table.length : Int)
  rw [e4]
  simp only [Option.bind_some]
  obtain ⟨v, d5, e5, hd5, _⟩ := Fu hd4 (by omega) [-1, (m : Int), 0] (by simp)
  rw [e5]
  simp only [Option.bind_some]
  rw [Af (by omega)]
  exact ⟨_, _, rfl, hd5.mono (by omega), by simp only [List.length_set]; omega, by dsimp only; omega⟩
 rw [if_neg c1]
 by_cases c2 : w = 2
 ·rw [if_pos c2, Af (by simp; omega)]
  exact ⟨_, _, rfl, hd3.mono (by omega), by simp; omega, by dsimp only; omega⟩
 rw [if_neg c2]
 exact ⟨_, _, rfl, hd3.mono (by omega), by omega, by omega⟩
theorem Ajb {c : Sl1Cur} {k : Nat} (h : Cur k c) (hk : k ≤ 500000000) {a : SAlgebra} (ha : Uw a) : ∃ f d, Ef c a = some (f, d) ∧ Cur (k + 300) d ∧ f.Table.length ≤ 65 := by
 have hL := Bk
 unfold Ef
 obtain ⟨r, d, e, hd⟩ := Aao h (by omega)
 rw [e]
 simp only [Option.bind_some]
 rw [Aid ha]
 simp only [Option.bind_some]
 have other : ∀ c : Sl1Cur, Cur (k + 10) c → ∃ f d, ((Bn c (a.Size)).bind fun (r17, u18) => some (r17, u18)) = some (f, d) ∧ Cur (k + 300) d ∧ f.Table.length ≤ 65 := by
  intro c hc
  obtain ⟨f, d, e, hd, hf, _⟩ := Aek hc (by omega) a.Size
  rw [e]
  exact ⟨f, d, rfl, hd.mono (by omega), hf⟩
 by_cases hg : Rw a
 ·rw [decide_eq_true hg, if_pos rfl]
  have hn : ((a.Size.toNat : Nat) : Int) = a.Size := by have := hg.1; omega
  have e2 := W1 (n := a.Size.toNat) (by have := hg.2.1; omega) r
  rw [hn] at e2
  rw [e2]
  simp only [Option.bind_some]
  by_cases hr : 1 ≤ r ∧ r ≤ 3 ∧ a.Size.toNat ^ r.toNat ≤ 27
  ·rw [decide_eq_true hr, if_pos rfl]
   by_cases h3 : a.Size ≤ 3
   ·rw [if_pos h3]
    obtain ⟨b, d2, e3, hd2⟩ := Aan hd (by omega) 3
    rw [e3]
    simp only [Option.bind_some]
    by_cases hb : b = true
    ·rw [hb]
     simp only [Bool.not_true, Bool.false_eq_true, if_false]
     exact other _ (hd2.mono (by omega))
    ·have hb' : b = false := by simpa using hb
     rw [hb']
     simp only [Bool.not_false, if_true]
     have hc : Adp a r := ⟨hg, hr⟩
     obtain ⟨R, e4, hR⟩ := Xu hc
     rw [e4]
     simp only [Option.bind_some]
     have hRR : 0 < R.tables.length ∧ R.tables.length ≤ 60 ∧ ∀ t ∈ R.tables, t.length ≤ 27 := by
      cases h1 : clA a r with
      | none =>
        rw [h1] at hR
        exact ⟨by have := hR.2.1; omega, by have := hR.2.1; omega, fun t ht => by have := (hR.2.2 t ht).1; omega⟩
      | some s =>
        rw [h1] at hR
        obtain ⟨_, hcl⟩ := Tv h1
        have hR' : R = { tables := s.1, steps := s.2, large := false } := hR
        rw [hR']
        exact ⟨List.length_pos_of_mem (hcl.prj 0 (by have := hr.1; omega)), hcl.le, fun t ht => by have := (hcl.inv.tabs t ht).1; omega⟩
     obtain ⟨p, d5, e5, hd5, p0, p1⟩ := Dn hd2 (by omega) (R.tables.length : Int)
     rw [e5]
     simp only [Option.bind_some]
     have hpl := hRR.2.2 _ (A9 (show p.toNat < R.tables.length by omega))
     rw [Af (by omega), Au9 (by omega)]
     exact ⟨_, _, rfl, hd5.mono (by omega), by dsimp only; omega⟩
   ·rw [if_neg h3]
    simp only [Option.bind_some, Bool.false_eq_true, if_false]
    exact other _ (hd.mono (by omega))
  ·rw [decide_eq_false hr]
   simp only [Bool.false_eq_true, if_false, Option.bind_some]
   exact other _ (hd.mono (by omega))
 ·rw [decide_eq_false hg]
  simp only [Bool.false_eq_true, if_false, Option.bind_some]
  exact other _ (hd.mono (by omega))
theorem Yy {code : List Int} (hc : ∀ x ∈ code, 0 ≤ x ∧ x ≤ 255) (hl : code.length ≤ 65536) : ∃ a f, C2 code = some (a, f) ∧ Uw a ∧ f.Table.length ≤ 65 := by
 unfold C2
 obtain ⟨a, d, e, hd, ha⟩ := Al3 (Arh hc hl) (by omega)
 rw [e]
 simp only [Option.bind_some]
 obtain ⟨f, d2, e2, _, hf⟩ := Ajb hd (by omega) (Aeg ha)
 rw [e2]
 exact ⟨a, f, rfl, Aeg ha, hf⟩
end Go.Proofs.Ytoaojijoefljaaa.Ax
namespace Go.Proofs.Ytoaojijoefljaaa.Ax
open Go Classical
theorem Ab7 {n : Nat} : ∀ r i p, p < r → nth (Dz n r i) p = ((i / n ^ (r - 1 - p) % n : Nat) : Int) := by
 intro r
 induction r with
 | zero => intro i p hp; omega
 | succ r ih =>
   intro i p hp
   have hl := G8 n r (i / n)
   simp only [Dz]
   by_cases hpr : p < r
   ·rw [Cy (by omega), ih _ _ hpr, Nat.div_div_eq_div_mul, ← Nat.pow_succ', show (r - 1 - p).succ = r + 1 - 1 - p by omega]
   ·have : p = r := by omega
    subst this
    have e := Qn (xs := Dz n p (i / n)) (y := ((i % n : Nat) : Int))
    rw [hl] at e
    rw [e, show p + 1 - 1 - p = 0 by omega, Nat.pow_zero, Nat.div_one]
def Hp (n S i : Nat) : Nat := i - i / S % n * S
theorem Amw {n S : Nat} (i : Nat) : Hp n S i = S * n * (i / S / n) + i % S := by
 unfold Hp
 have h1 := Nat.div_add_mod i S
 have h2 := Nat.div_add_mod (i / S) n
 have h3 : S * (i / S) = S * n * (i / S / n) + i / S % n * S := by
  conv => lhs; rw [← h2]
  rw [Nat.mul_add, Nat.mul_assoc, Nat.mul_comm (i / S % n) S]
 omega
theorem Abq (n S i : Nat) : Hp n S i ≤ i := Nat.sub_le _ _
theorem Asp {n : Nat} (e e' i : Nat) (h : e' < e) : Hp n (n ^ e) i / n ^ e' % n = i / n ^ e' % n := by
 obtain ⟨t, rfl⟩ : ∃ t, e = e' + 1 + t := ⟨e - (e' + 1), by omega⟩
 by_cases hn : 0 < n
 ·have hp : 0 < n ^ e' := Nat.pow_pos hn
  have hi : i = Hp n (n ^ (e' + 1 + t)) i + n ^ e' * (n * (i / n ^ (e' + 1 + t) % n * n ^ t)) := by
   have h1 : i / n ^ (e' + 1 + t) % n * n ^ (e' + 1 + t) ≤ i := by
    have := Nat.div_add_mod i (n ^ (e' + 1 + t))
    have h2 : i / n ^ (e' + 1 + t) % n * n ^ (e' + 1 + t) ≤ i / n ^ (e' + 1 + t) * n ^ (e' + 1 + t) := Nat.mul_le_mul_right _ (Nat.mod_le _ _)
    rw [Nat.mul_comm (n ^ (e' + 1 + t))] at this
    generalize i / n ^ (e' + 1 + t) % n * n ^ (e' + 1 + t) = A at h2 ⊢
    generalize i / n ^ (e' + 1 + t) * n ^ (e' + 1 + t) = B at h2 this
    generalize i % n ^ (e' + 1 + t) = C at this
    omega
   have h2 : n ^ e' * (n * (i / n ^ (e' + 1 + t) % n * n ^ t)) = i / n ^ (e' + 1 + t) % n * n ^ (e' + 1 + t) := by
    generalize i / n ^ (e' + 1 + t) % n = d
    rw [Nat.pow_add, Nat.pow_succ]
    simp only [Nat.mul_assoc, Nat.mul_left_comm]
   unfold Hp
   omega
  conv => rhs; rw [hi, Nat.add_mul_div_left _ _ hp, Nat.add_mul_mod_self_left]
 ·have : n = 0 := by omega
  subst this
  rw [Nat.zero_pow (by omega)]
  unfold Hp
  simp
theorem Ap5 {n : Nat} (e e' i : Nat) (h : e < e') : Hp n (n ^ e) i / n ^ e' % n = i / n ^ e' % n := by
 obtain ⟨t, rfl⟩ : ∃ t, e' = e + 1 + t := ⟨e' - (e + 1), by omega⟩
 by_cases hn : 0 < n
 ·have hp : 0 < n ^ e := Nat.pow_pos hn
  have h1 : Hp n (n ^ e) i / n ^ (e + 1) = i / n ^ (e + 1) := by
   rw [Amw, ← Nat.pow_succ, Nat.mul_add_div (Nat.pow_pos hn), Nat.div_eq_of_lt (a := i % n ^ e), Nat.add_zero, Nat.div_div_eq_div_mul, ← Nat.pow_succ]
   exact Nat.lt_of_lt_of_le (Nat.mod_lt _ hp) (Nat.pow_le_pow_right hn (by omega))
  rw [Nat.pow_add n (e + 1) t, ← Nat.div_div_eq_div_mul, ← Nat.div_div_eq_div_mul, h1]
 ·have : n = 0 := by omega
  subst this
  rw [Nat.zero_pow (show 0 < e + 1 + t by omega)]
  simp
theorem Ap9 {n : Nat} (hn : 0 < n) (e i : Nat) : Hp n (n ^ e) i / n ^ e % n = 0 := by
 have hp : 0 < n ^ e := Nat.pow_pos hn
 rw [Amw, Nat.mul_assoc, Nat.mul_add_div hp, Nat.div_eq_of_lt (Nat.mod_lt _ hp), Nat.add_zero, Nat.mul_mod_right]
theorem Ajp {n r i p q : Nat} (hp : p < r) (hq : q < r) (hne : q ≠ p) : nth (Dz n r (Hp n (n ^ (r - 1 - p)) i)) q = nth (Dz n r i) q := by
 rw [Ab7 _ _ _ hq, Ab7 _ _ _ hq]
 congr 1
 rcases Nat.lt_or_gt_of_ne (show r - 1 - q ≠ r - 1 - p by omega) with h | h
 ·exact Asp _ _ _ h
 ·exact Ap5 _ _ _ h
def Zl (n r : Nat) (T : List Int) (p : Nat) : Prop := ∃ i, i < n ^ r ∧ nth T i ≠ nth T (Hp n (n ^ (r - 1 - p)) i)
noncomputable def S4 (n r : Nat) (T : List Int) (m : Nat) : List Int := ((List.range m).filter fun p => decide (Zl n r T p)).map fun p : Nat => (p : Int)
theorem Ajy (n r : Nat) (T : List Int) (m : Nat) : S4 n r T (m + 1) = if Zl n r T m then S4 n r T m ++ [(m : Int)] else S4 n r T m := by
 unfold S4
 rw [List.range_succ, List.filter_append, List.map_append]
 by_cases h : Zl n r T m
 ·rw [if_pos h]; simp [h]
 ·rw [if_neg h]; simp [h]
theorem Ah0 (n r : Nat) (T : List Int) (m : Nat) : (S4 n r T m).length ≤ m := by
 unfold S4
 rw [List.length_map]
 exact Nat.le_trans (List.length_filter_le _ _) (by simp)
theorem An0 {n r : Nat} {T : List Int} {m : Nat} {x : Int} : x ∈ S4 n r T m ↔ ∃ p, p < m ∧ Zl n r T p ∧ x = (p : Int) := by
 unfold S4
 rw [List.mem_map]
 constructor
 ·rintro ⟨p, hp, rfl⟩
  obtain ⟨h1, h2⟩ := List.mem_filter.1 hp
  exact ⟨p, List.mem_range.1 h1, by simpa using h2, rfl⟩
 ·rintro ⟨p, h1, h2, rfl⟩
  exact ⟨p, List.mem_filter.2 ⟨List.mem_range.2 h1, by simpa using h2⟩, rfl⟩
theorem At8 {n r : Nat} {T : List Int} {m p : Nat} (h : ∀ q, q < m → Zl n r T q → q = p) : (S4 n r T m).length ≤ 1 := by
 unfold S4
 rw [List.length_map]
 have hnd : ((List.range m).filter fun p => decide (Zl n r T p)).Nodup := List.nodup_range.filter _
 have hall : ∀ q ∈ (List.range m).filter fun p => decide (Zl n r T p), q = p := fun q hq => by
  obtain ⟨h1, h2⟩ := List.mem_filter.1 hq
  exact h q (List.mem_range.1 h1) (by simpa using h2)
 generalize (List.range m).filter (fun p => decide (Zl n r T p)) = l at hnd hall
 match l, hnd, hall with
 | [], _, _ => simp
 | [_], _, _ => simp
 | a :: b :: l, hnd, hall =>
   have h1 := hall a (by simp)
   have h2 := hall b (by simp)
   simp [h1, h2] at hnd
section
variable {n r : Nat} {f : SOp}
theorem Agb (hn : 0 < n) (hn8 : n ≤ 8) (hr : r ≤ 3) {p i : Nat} (_hi : i < n ^ r) : ((i : Int).tdiv ((n ^ (r - 1 - p) : Nat) : Int)).tmod (n : Int) * ((n ^ (r - 1 - p) : Nat) : Int) = ((i / n ^ (r - 1 - p) % n * n ^ (r - 1 - p) : Nat) : Int) ∧
  (i : Int) - ((i / n ^ (r - 1 - p) % n * n ^ (r - 1 - p) : Nat) : Int) = ((Hp n (n ^ (r - 1 - p)) i : Nat) : Int) ∧ i / n ^ (r - 1 - p) % n * n ^ (r - 1 - p) ≤ i ∧ i / n ^ (r - 1 - p) ≤ i ∧ Hp n (n ^ (r - 1 - p)) i ≤ i ∧ n ^ r ≤ 512 ∧ 0 < n ^ (r - 1 - p) := by
 have h0 := H5 hn8 hr
 have hS : 0 < n ^ (r - 1 - p) := Nat.pow_pos hn
 have h1 : i / n ^ (r - 1 - p) % n * n ^ (r - 1 - p) ≤ i := by
  have := Nat.div_add_mod i (n ^ (r - 1 - p))
  have h2 : i / n ^ (r - 1 - p) % n * n ^ (r - 1 - p) ≤ i / n ^ (r - 1 - p) * n ^ (r - 1 - p) := Nat.mul_le_mul_right _ (Nat.mod_le _ _)
  rw [Nat.mul_comm (n ^ (r - 1 - p))] at this
  generalize i / n ^ (r - 1 - p) % n * n ^ (r - 1 - p) = A at h2 ⊢
  generalize i / n ^ (r - 1 - p) * n ^ (r - 1 - p) = B at h2 this
  generalize i % n ^ (r - 1 - p) = C at this
  omega
 refine ⟨rfl, ?_, h1, Nat.div_le_self _ _, Abq _ _ _, h0, hS⟩
 unfold Hp
 omega
theorem Avv (hn : 0 < n) (hn8 : n ≤ 8) (hr : r ≤ 3) (hf : f.Table.length = n ^ r) {p : Nat} (_hp : p < r) {xs : List Int} (hxs : xs.length ≤ 3) :
  Ar (Bb n f p xs ((n ^ (r - 1 - p) : Nat) : Int)) 0 = some (if Zl n r f.Table p then xs ++ [(p : Int)] else xs) := by
 have hL := Bk
 have step : ∀ i, i < n ^ r → Bb n f p xs ((n ^ (r - 1 - p) : Nat) : Int) (i : Int) = if nth f.Table i ≠ nth f.Table (Hp n (n ^ (r - 1 - p)) i) then some (.inr (xs ++ [(p : Int)])) else some (.inl ((i + 1 : Nat) : Int)) := by
  intro i hi
  obtain ⟨s1, s2, s3, s4, s5, s6, s7⟩ := Agb hn hn8 hr (p := p) hi
  have c1 : (i : Int).tdiv ((n ^ (r - 1 - p) : Nat) : Int) = ((i / n ^ (r - 1 - p) : Nat) : Int) := rfl
  unfold Bb
  rw [s1, s2, c1]
  generalize i / n ^ (r - 1 - p) % n * n ^ (r - 1 - p) = A at s3
  generalize Hp n (n ^ (r - 1 - p)) i = Z at s5
  generalize i / n ^ (r - 1 - p) = B at s4
  generalize n ^ (r - 1 - p) = S at s7
  rw [if_pos (by omega), Af (by omega), Af ⟨by omega, by unfold InI; omega⟩, Af (by omega), Af (by unfold InI; omega), Af (by unfold InI; omega), Af (by omega), Int.toNat_natCast, Int.toNat_natCast]
  split
  ·rw [Af (by simp only [List.length_cons, List.length_nil]; omega)]
  ·rw [Af (by unfold InI; omega)]; rfl
 have stop : Bb n f p xs ((n ^ (r - 1 - p) : Nat) : Int) ((n ^ r : Nat) : Int) = some (.inr xs) := by
  unfold Bb
  rw [if_neg (by omega)]
 by_cases h : Zl n r f.Table p
 ·rw [if_pos h]
  obtain ⟨i, h1, h2, h3⟩ : ∃ i, i < n ^ r ∧ nth f.Table i ≠ nth f.Table (Hp n (n ^ (r - 1 - p)) i) ∧ ∀ j, j < i → ¬ nth f.Table j ≠ nth f.Table (Hp n (n ^ (r - 1 - p)) j) := by
   have key : ∀ m i, i ≤ m → i < n ^ r → nth f.Table i ≠ nth f.Table (Hp n (n ^ (r - 1 - p)) i) → ∃ i, i < n ^ r ∧ nth f.Table i ≠ nth f.Table (Hp n (n ^ (r - 1 - p)) i) ∧ ∀ j, j < i → ¬ nth f.Table j ≠ nth f.Table (Hp n (n ^ (r - 1 - p)) j) := by
    intro m
    induction m with
    | zero => intro i hm h1 h2; exact ⟨i, h1, h2, fun j hj => by omega⟩
    | succ m ih =>
      intro i hm h1 h2
      by_cases hy : ∃ j, j < i ∧ nth f.Table j ≠ nth f.Table (Hp n (n ^ (r - 1 - p)) j)
      ·obtain ⟨j, k1, k2⟩ := hy
       exact ih j (by omega) (by omega) k2
      ·exact ⟨i, h1, h2, fun j k1 k2 => hy ⟨j, k1, k2⟩⟩
   obtain ⟨i, h1, h2⟩ := h
   exact key i i (Nat.le_refl _) h1 h2
  have key := Yf (body := Bb n f p xs ((n ^ (r - 1 - p) : Nat) : Int)) (fun i => (i : Int)) 0 i (xs ++ [(p : Int)]) (Nat.zero_le _) (fun j _ hj => by rw [step j (by omega), if_neg (h3 j hj)]) (by rw [step i h1, if_pos h2])
  exact key
 ·rw [if_neg h]
  have key := Bs (body := Bb n f p xs ((n ^ (r - 1 - p) : Nat) : Int)) (fun i => (i : Int)) (n ^ r) xs (fun j hj => by rw [step j hj, if_neg fun hc => h ⟨j, hj, hc⟩]) stop
  exact key
def Avb (n r : Nat) (T : List Int) (p i : Nat) : Prop := ∃ j, j < i ∧ nth T j ≠ nth T (Hp n (n ^ (r - 1 - p)) j)
theorem Av4 (hn : 0 < n) (hn8 : n ≤ 8) (hr : r ≤ 3) (hf : f.Table.length = n ^ r) {p : Nat} {xs : List Int} :
  Ar (B0 n f p xs ((n ^ (r - 1 - p) : Nat) : Int)) (0, false) = some (decide (Zl n r f.Table p)) := by
 have key := Bs (body := B0 n f p xs ((n ^ (r - 1 - p) : Nat) : Int)) (fun i => ((i : Int), decide (Avb n r f.Table p i))) (n ^ r) (decide (Zl n r f.Table p)) (fun i hi => by
  obtain ⟨s1, s2, s3, s4, s5, s6, s7⟩ := Agb hn hn8 hr (p := p) hi
  have c1 : (i : Int).tdiv ((n ^ (r - 1 - p) : Nat) : Int) = ((i / n ^ (r - 1 - p) : Nat) : Int) := rfl
  have hd : decide (Avb n r f.Table p (i + 1)) = (decide (Avb n r f.Table p i) || decide (nth f.Table i ≠ nth f.Table (Hp n (n ^ (r - 1 - p)) i))) := by
   rw [← Bool.decide_or, decide_eq_decide]
   constructor
   ·rintro ⟨j, h1, h2⟩
    rcases Nat.lt_or_ge j i with h | h
    ·exact .inl ⟨j, h, h2⟩
    ·exact .inr (by rw [show i = j by omega]; exact h2)
   ·rintro (⟨j, h1, h2⟩ | h2)
    ·exact ⟨j, by omega, h2⟩
    ·exact ⟨i, by omega, h2⟩
  rw [hd]
  unfold B0
  dsimp only
  rw [s1, s2, c1]
  generalize i / n ^ (r - 1 - p) % n * n ^ (r - 1 - p) = A at s3
  generalize Hp n (n ^ (r - 1 - p)) i = Z at s5
  generalize i / n ^ (r - 1 - p) = B at s4
  have s7' : ((n ^ (r - 1 - p) : Nat) : Int) ≠ 0 := by omega
  rw [if_pos (by omega), Af ⟨s7', by unfold InI; omega⟩, Af (by omega), Af (by unfold InI; omega), Af (by unfold InI; omega)]
  by_cases hm : Avb n r f.Table p i
  ·rw [decide_eq_true hm, if_pos rfl, Af (by unfold InI; omega)]
   rfl
  ·rw [decide_eq_false hm, if_neg (by simp), Af (by omega), Af (by omega), Af (by unfold InI; omega), Int.toNat_natCast, Int.toNat_natCast]
   have hb : (nth f.Table i != nth f.Table Z) = decide (nth f.Table i ≠ nth f.Table Z) := by
    by_cases he : nth f.Table i = nth f.Table Z <;> simp [he]
   rw [hb]; rfl) (by
  unfold B0
  dsimp only
  rw [if_neg (by omega)]
  rfl)
 have e0 : decide (Avb n r f.Table p 0) = false := decide_eq_false (by rintro ⟨j, hj, _⟩; omega)
 rw [e0] at key
 exact key
end
section
variable {n : Int} {f : SOp}
def Af4 (n : Int) (f : SOp) : Prop := 1 ≤ n ∧ n ≤ 8 ∧ Ic n.toNat f
theorem Afm (n : Int) : En n = some (decide (1 ≤ n ∧ n ≤ 8)) ∧ C8 n = some (decide (1 ≤ n ∧ n ≤ 8)) := by
 constructor
 ·unfold En
  by_cases h : 1 ≤ n
  ·rw [if_pos h]
   congr 1
   rw [decide_eq_decide]
   exact ⟨fun h2 => ⟨h, h2⟩, fun h2 => h2.2⟩
  ·rw [if_neg h, decide_eq_false fun h2 => h h2.1]
 ·unfold C8
  rw [Ut]; rfl
theorem Ab2 (hl : f.Table.length ≤ LIM) : (((En n).bind fun r1 =>
   if (r1) = true then
   (C6 f n).bind fun r3 =>
   if (r3) = true then
    some (.inl ())
   else
    some (.inr ())
   else
   some (.inr ()) : Option (Unit ⊕ Unit))) = some (if Af4 n f then .inl () else .inr ()) ∧ (((C8 n).bind fun r1 =>
   if (r1) = true then
   (C5 n f).bind fun r3 =>
   if (r3) = true then
    some (.inl ())
   else
    some (.inr ())
   else
   some (.inr ()) : Option (Unit ⊕ Unit))) = some (if Af4 n f then .inl () else .inr ()) := by
 obtain ⟨e1, e2⟩ := Afm n
 rw [e1, e2]
 simp only [Option.bind_some]
 by_cases h : 1 ≤ n ∧ n ≤ 8
 ·rw [decide_eq_true h, if_pos rfl, if_pos rfl]
  have hn : ((n.toNat : Nat) : Int) = n := by omega
  have i1 := Z3 (n := n.toNat) (by omega) hl
  have i2 := Xz (n := n.toNat) (by omega) (by omega) hl
  rw [hn] at i1 i2
  rw [i1, i2]
  simp only [Option.bind_some]
  by_cases ho : Ic n.toNat f
  ·rw [decide_eq_true ho, if_pos (show Af4 n f from ⟨h.1, h.2, ho⟩)]
   exact ⟨rfl, rfl⟩
  ·rw [decide_eq_false ho, if_neg (fun hh : Af4 n f => ho hh.2.2)]
   exact ⟨rfl, rfl⟩
 ·rw [decide_eq_false h, if_neg (fun hh : Af4 n f => h ⟨hh.1, hh.2.1⟩)]
  exact ⟨rfl, rfl⟩
noncomputable def Aud (n : Int) (f : SOp) : List Int × Bool := if Af4 n f then (S4 n.toNat f.Arity.toNat f.Table f.Arity.toNat, true) else ([], false)
theorem Xe (hl : f.Table.length ≤ LIM) : C0 n f = some (Aud n f) ∧ D3 n f = some (Aud n f) := by
 have hL := Bk
 unfold C0 D3 Aud
 rw [(Ab2 hl).1, (Ab2 hl).2]
 by_cases h : Af4 n f
 ·rw [if_pos h, if_pos h]
  simp only [Option.bind_some]
  obtain ⟨h1, h2, h3, h4, h5, h6⟩ := h
  obtain ⟨m, hm⟩ := Int.eq_ofNat_of_zero_le (show 0 ≤ n by omega)
  obtain ⟨r, hr⟩ := Int.eq_ofNat_of_zero_le h3
  subst hm
  rw [hr] at h5 ⊢
  rw [Int.toNat_natCast] at h5 ⊢
  rw [Int.toNat_natCast] at h5 ⊢
  have k1 := Bs (body := B4 m f) (fun p => ((p : Int), S4 m r f.Table p)) r (S4 m r f.Table r) (fun p hp => by
   have hle := Ah0 m r f.Table p
   have ep := Rp (n := m) (k := r - 1 - p) (by omega) (by omega)
   unfold B4
   dsimp only
   rw [hr, if_pos (by omega), Af (by unfold InI; omega), Af (by unfold InI; omega), show (r : Int) - 1 - (p : Int) = ((r - 1 - p : Nat) : Int) by omega, ep]
   simp only [Option.bind_some]
   rw [Avv (by omega) (by omega) (by omega) h5 hp (by omega)]
   simp only [Option.bind_some]
   rw [Af (by unfold InI; omega), Ajy]
   rfl) (by
   unfold B4
   dsimp only
   rw [hr, if_neg (by omega)])
  have k2 := Bs (body := B5 m f) (fun p => ((p : Int), S4 m r f.Table p)) r (S4 m r f.Table r) (fun p hp => by
   have hle := Ah0 m r f.Table p
   have ep := Rd (n := m) (k := r - 1 - p) (by omega) (by omega)
   unfold B5
   dsimp only
   rw [hr, if_pos (by omega), Af (by unfold InI; omega), Af (by unfold InI; omega), show (r : Int) - 1 - (p : Int) = ((r - 1 - p : Nat) : Int) by omega, ep]
   simp only [Option.bind_some]
   rw [Av4 (by omega) (by omega) (by omega) h5]
   simp only [Option.bind_some, decide_eq_true_eq]
   rw [Ajy]
   by_cases he : Zl m r f.Table p
   ·rw [if_pos he, if_pos he, Af (by simp only [List.length_cons, List.length_nil]; omega), Af (by unfold InI; omega)]
    rfl
   ·rw [if_neg he, if_neg he, Af (by unfold InI; omega)]
    rfl) (by
   unfold B5
   dsimp only
   rw [hr, if_neg (by omega)])
  have k1' : Ar (B4 m f) (0, Ao Int) = _ := k1
  have k2' : Ar (B5 m f) (0, Ao Int) = _ := k2
  rw [k1', k2']
  exact ⟨rfl, rfl⟩
 ·rw [if_neg h, if_neg h]
  exact ⟨rfl, rfl⟩
def Aqw (n : Nat) (f : SOp) : Prop := ∃ p, p < f.Arity.toNat ∧ f.Table = F4 n f.Arity.toNat p
noncomputable def Aij (n : Int) (f : SOp) : Bool × Bool := if Af4 n f then (decide (Aqw n.toNat f), true) else (false, false)
theorem Aca (hl : f.Table.length ≤ LIM) : Fb n f = some (Aij n f) ∧ Fe n f = some (Aij n f) := by
 unfold Fb Fe Aij
 rw [(Ab2 hl).1, (Ab2 hl).2]
 by_cases h : Af4 n f
 ·rw [if_pos h, if_pos h]
  simp only [Option.bind_some]
  obtain ⟨h1, h2, h3, h4, h5, h6⟩ := h
  obtain ⟨m, hm⟩ := Int.eq_ofNat_of_zero_le (show 0 ≤ n by omega)
  obtain ⟨r, hr⟩ := Int.eq_ofNat_of_zero_le h3
  subst hm
  have hrr : f.Arity.toNat = r := by omega
  have hiff : Aqw (Int.toNat (m : Int)) f ↔ ∃ i, 0 ≤ i ∧ i < r ∧ f.Table = F4 m r i := by
   unfold Aqw
   rw [hrr, Int.toNat_natCast]
   exact ⟨fun ⟨p, a, b⟩ => ⟨p, Nat.zero_le _, a, b⟩, fun ⟨p, _, a, b⟩ => ⟨p, a, b⟩⟩
  have k1 := Hf (body := B6 m f) (fun i => (i : Int)) r (fun i => f.Table = F4 m r i) () () (fun i hi hb => by
   unfold B6
   rw [hr, if_pos (by omega), Ux (by omega) (by omega) (by omega) hi]
   simp only [Option.bind_some]
   rw [Ag0 hl, decide_eq_false hb]
   simp only [Option.bind_some, Bool.false_eq_true, if_false]
   rw [Af (by unfold InI; omega)]; rfl) (fun i hi hb => by
   unfold B6
   rw [hr, if_pos (by omega), Ux (by omega) (by omega) (by omega) hi]
   simp only [Option.bind_some]
   rw [Ag0 hl, decide_eq_true hb]
   simp only [Option.bind_some, if_true]) (by
   unfold B6
   rw [hr, if_neg (by omega)]) 0 (Nat.zero_le _)
  have k2 := Hf (body := B7 m f) (fun i => (i : Int)) r (fun i => f.Table = F4 m r i) () () (fun i hi hb => by
   unfold B7
   rw [hr, if_pos (by omega), Ia (by omega) (by omega) (by omega) hi]
   simp only [Option.bind_some]
   rw [Ah8 hl, decide_eq_false hb]
   simp only [Option.bind_some, Bool.false_eq_true, if_false]
   rw [Af (by unfold InI; omega)]; rfl) (fun i hi hb => by
   unfold B7
   rw [hr, if_pos (by omega), Ia (by omega) (by omega) (by omega) hi]
   simp only [Option.bind_some]
   rw [Ah8 hl, decide_eq_true hb]
   simp only [Option.bind_some, if_true]) (by
   unfold B7
   rw [hr, if_neg (by omega)]) 0 (Nat.zero_le _)
  have k1' : Ar (B6 m f) 0 = _ := k1
  have k2' : Ar (B7 m f) 0 = _ := k2
  rw [k1', k2']
  by_cases hh : ∃ i, 0 ≤ i ∧ i < r ∧ f.Table = F4 m r i
  ·rw [if_pos hh, decide_eq_true (hiff.2 hh)]; exact ⟨rfl, rfl⟩
  ·rw [if_neg hh, decide_eq_false fun hc => hh (hiff.1 hc)]; exact ⟨rfl, rfl⟩
 ·rw [if_neg h, if_neg h]
  exact ⟨rfl, rfl⟩
theorem Awt (hp : (Aij n f).1 = true) : ∃ l, Aud n f = (l, true) ∧ l.length ≤ 1 ∧ (n > 1 → l.length ≠ 0) := by
 unfold Aij at hp
 by_cases h : Af4 n f
 ·rw [if_pos h] at hp
  obtain ⟨p, hpr, ep⟩ : Aqw n.toNat f := by simpa using hp
  refine ⟨_, if_pos h, ?_, ?_⟩
  ·refine At8 (p := p) fun q hq he => ?_
   refine Classical.byContradiction fun hne => ?_
   obtain ⟨i, hi, hd⟩ := he
   rw [ep] at hd
   have hz := Abq n.toNat (n.toNat ^ (f.Arity.toNat - 1 - q)) i
   rw [Nl hi, Nl (by omega), Ajp hq hpr (fun e => hne e.symm)] at hd
   exact hd rfl
  ·intro hn1 h0
   have hN : 1 < n.toNat := by omega
   have hS : 0 < n.toNat ^ (f.Arity.toNat - 1 - p) := Nat.pow_pos (by omega)
   have hlt : n.toNat ^ (f.Arity.toNat - 1 - p) < n.toNat ^ f.Arity.toNat := Nat.pow_lt_pow_right hN (by omega)
   have he : Zl n.toNat f.Arity.toNat f.Table p := by
    refine ⟨n.toNat ^ (f.Arity.toNat - 1 - p), hlt, ?_⟩
    have hz := Abq n.toNat (n.toNat ^ (f.Arity.toNat - 1 - p)) (n.toNat ^ (f.Arity.toNat - 1 - p))
    rw [ep, Nl hlt, Nl (by omega), Ab7 _ _ _ hpr, Ab7 _ _ _ hpr, Ap9 (by omega), Nat.div_self hS, Nat.mod_eq_of_lt hN]
    decide
   have hm : (p : Int) ∈ S4 n.toNat f.Arity.toNat f.Table f.Arity.toNat := An0.2 ⟨p, hpr, he, rfl⟩
   have := List.length_pos_of_mem hm
   omega
 ·rw [if_neg h] at hp; cases hp
end
section
variable {n k : Nat} {f : SOp} {ps : List Int}
def N4 (n : Nat) (f : SOp) (ps : List Int) (k : Nat) : List Int := J3 n (n ^ k) f (ps.map fun p => F4 n k p.toNat)
theorem Ato {x : Nat} (hx : x < n ^ k) : ((ps.map fun p => F4 n k p.toNat).map fun t => nth t x) = ps.map fun p => nth (Dz n k x) p.toNat := by
 rw [List.map_map]
 refine List.map_congr_left fun p _ => ?_
 exact Nl hx
theorem Aln {x : Nat} (hx : x < n ^ k) : nth (N4 n f ps k) x = nth f.Table (N6 n (ps.map fun p => nth (Dz n k x) p.toNat)).toNat := by
 unfold N4
 rw [Nd hx, Ato hx]
theorem Anl (hn : 0 < n) (hps : Ct ps k) : ∀ t ∈ ps.map fun p => F4 n k p.toNat, Ib n (n ^ k) t := fun t ht => by
 obtain ⟨p, hp, rfl⟩ := List.mem_map.1 ht
 have := hps p hp
 exact Akw hn (by omega)
theorem Ayp (hn : 0 < n) (hf : Ic n f) (hl : ps.length = f.Arity.toNat) (hps : Ct ps k) (hk : k ≤ 3) : Ic n { Arity := (k : Int), Table := N4 n f ps k } := by
 have := Alb hf (by rw [List.length_map, hl]) (Anl hn hps)
 exact ⟨by show 0 ≤ (k : Int); omega, by show (k : Int) ≤ 3; omega, this.1, this.2⟩
theorem Awc (hn : 0 < n) (hn8 : n ≤ 8) (hk : k ≤ 3) (hf : Ic n f) (hl : ps.length = f.Arity.toNat) (hps : Ct ps k) : L2 n f ps k = some { Arity := (k : Int), Table := N4 n f ps k } := by
 have hL := Bk
 have hpl := H5 hn8 hk
 have hA := hf.2.1
 have hml : (N4 n f ps k).length = n ^ k := Hb _ _ _ _
 unfold L2
 have key := Bs (body := E9 n f ps k) (fun i => ((i : Int), ({ Arity := (k : Int), Table := (N4 n f ps k).take i } : SOp))) (n ^ k) { Arity := (k : Int), Table := N4 n f ps k } (fun i hi => by
  have hal := G8 n k i
  have hin : Ct (Tb ps (Dz n k i)) n := by
   intro v hv
   obtain ⟨p, hp, rfl⟩ := List.mem_map.1 hv
   have := hps p hp
   exact Afr hn k i _ (A9 (by omega))
  have hcl : (Tb ps (Dz n k i)).length = ps.length := by simp [Tb]
  obtain ⟨c, c1, c2⟩ := O8 f.Arity.toNat _ (by omega) hin
  have e : (N4 n f ps k).take (i + 1) = (N4 n f ps k).take i ++ [nth f.Table c] := by
   rw [D4 (by omega), Aln hi]
   have : (ps.map fun p => nth (Dz n k i) p.toNat) = Tb ps (Dz n k i) := rfl
   rw [this, c1, Int.toNat_natCast]
  unfold E9
  dsimp only
  rw [Rp hn8 hk]
  simp only [Option.bind_some]
  rw [if_pos (by omega), Adw hn (by omega) (by omega)]
  simp only [Option.bind_some]
  rw [Asw (by omega) (fun p hp => by have := hps p hp; rw [hal]; omega)]
  simp only [Option.bind_some]
  rw [Asu hn8 (by omega) hin, c1]
  simp only [Option.bind_some]
  rw [← hf.2.2.1] at c2
  rw [Af (by omega), Int.toNat_natCast, Af (by simp only [List.length_take, List.length_cons, List.length_nil]; omega), Af (by unfold InI; omega), ← e]
  rfl) (by
  unfold E9
  dsimp only
  rw [Rp hn8 hk]
  simp only [Option.bind_some]
  rw [if_neg (by omega), List.take_of_length_le (by omega)])
 have key' : Ar (E9 n f ps k) (0, { Arity := (k : Int), Table := Ao Int }) = _ := key
 rw [key']; rfl
theorem Aig (hn : 0 < n) (hn8 : n ≤ 8) (hk : k ≤ 3) (hf : Ic n f) (hl : ps.length = f.Arity.toNat) (hps : Ct ps k) : Gg n f ps k = some { Arity := (k : Int), Table := N4 n f ps k } := by
 have hL := Bk
 have hpl := H5 hn8 hk
 have hA := hf.2.1
 unfold Gg
 have key := Bs (body := De n f ps k) (fun i => ((i : Int), (ps.map fun p => F4 n k p.toNat).take i)) ps.length (ps.map fun p => F4 n k p.toNat) (fun i hi => by
  have hp := hps _ (A9 hi)
  have e : (ps.map fun p => F4 n k p.toNat).take (i + 1) = (ps.map fun p => F4 n k p.toNat).take i ++ [F4 n k (nth ps i).toNat] := by
   rw [D4 (by simpa using hi), D1 _ hi]
  have e2 := Ia (n := n) (k := k) (p := (nth ps i).toNat) hn hn8 hk (by omega)
  rw [show (((nth ps i).toNat : Nat) : Int) = nth ps i by omega] at e2
  unfold De
  dsimp only
  rw [if_pos (by omega), Af (by omega), Int.toNat_natCast, e2]
  simp only [Option.bind_some]
  rw [Af (by simp only [List.length_take, List.length_map, List.length_cons, List.length_nil]; omega), Af (by unfold InI; omega), ← e]
  rfl) (by
  unfold De
  dsimp only
  rw [if_neg (by omega), List.take_of_length_le (by simp)])
 have key' : Ar (De n f ps k) (0, Ao (List Int)) = _ := key
 rw [key']
 simp only [Option.bind_some]
 rw [Rd hn8 hk]
 simp only [Option.bind_some]
 rw [U7 hn8 hf (by rw [List.length_map, hl]) (Anl hn hps) (by omega)]
 rfl
theorem Avx {p : Nat} (hp : p < k) (hps : Ct ps k) (he : Zl n k (N4 n f ps k) p) : (p : Int) ∈ ps := by
 refine Classical.byContradiction fun hne => ?_
 obtain ⟨i, hi, hd⟩ := he
 have hz := Abq n (n ^ (k - 1 - p)) i
 rw [Aln hi, Aln (by omega)] at hd
 refine hd ?_
 congr 3
 refine List.map_congr_left fun q hq => ?_
 have hqs := hps q hq
 exact (Ajp hp (by omega) (fun e => hne (by rw [show (p : Int) = q by omega]; exact hq))).symm
end
def Aq7 (n : Int) (f : SOp) (ps : List Int) (k : Int) : Prop := Af4 n f ∧ 1 ≤ k ∧ k ≤ 3 ∧ (ps.length : Int) = f.Arity ∧ Ct ps k
noncomputable def Aew (n : Int) (f : SOp) (ps : List Int) (k : Int) : SOp × Bool := if Aq7 n f ps k then ({ Arity := k, Table := N4 n.toNat f ps k.toNat }, true) else ({ Arity := 0, Table := Ao Int }, false)
theorem Alp {n : Int} {f : SOp} {ps : List Int} {k : Int} (hl : f.Table.length ≤ LIM) (hps : ps.length ≤ LIM) : Ir n f ps k = some (Aew n f ps k) ∧ Je n f ps k = some (Aew n f ps k) := by
 have hL := Bk
 unfold Ir Je
 obtain ⟨e1, e2⟩ := Afm n
 rw [e1, e2]
 simp only [Option.bind_some]
 by_cases h : 1 ≤ n ∧ n ≤ 8
 ·rw [decide_eq_true h, if_pos rfl, if_pos rfl]
  have hn : ((n.toNat : Nat) : Int) = n := by omega
  have i1 := Z3 (n := n.toNat) (by omega) hl
  have i2 := Xz (n := n.toNat) (by omega) (by omega) hl
  rw [hn] at i1 i2
  rw [i1, i2, Ut]
  simp only [Option.bind_some]
  by_cases ho : Ic n.toNat f
  ·rw [decide_eq_true ho, if_pos rfl, if_pos rfl]
   by_cases hk : 1 ≤ k ∧ k ≤ 3
   ·rw [if_neg (by omega), if_neg (by omega), decide_eq_true hk]
    by_cases hpl : (ps.length : Int) = f.Arity
    ·rw [if_neg (by omega), if_neg (by omega), Amr _ _ hps]
     have i3 := Ale k.toNat ps hps (by omega)
     have hkn : ((k.toNat : Nat) : Int) = k := by omega
     rw [hkn] at i3
     rw [if_pos rfl, i3]
     simp only [Option.bind_some]
     by_cases hin : Ct ps k
     ·have hok : Aq7 n f ps k := ⟨⟨h.1, h.2, ho⟩, hk.1, hk.2, hpl, hin⟩
      rw [decide_eq_true hin, if_pos rfl, if_pos rfl]
      have hR : Aew n f ps k = ({ Arity := k, Table := N4 n.toNat f ps k.toNat }, true) := if_pos hok
      rw [hR]
      have hin' : Ct ps ((k.toNat : Nat) : Int) := by rw [hkn]; exact hin
      have m1 := Awc (n := n.toNat) (k := k.toNat) (f := f) (ps := ps) (by omega) (by omega) (by omega) ho (by omega) hin'
      have m2 := Aig (n := n.toNat) (k := k.toNat) (f := f) (ps := ps) (by omega) (by omega) (by omega) ho (by omega) hin'
      rw [hn, hkn] at m1 m2
      rw [m1, m2]
      exact ⟨rfl, rfl⟩
     ·have hR : Aew n f ps k = ({ Arity := 0, Table := Ao Int }, false) := if_neg fun hh => hin hh.2.2.2.2
      rw [decide_eq_false hin, hR]
      exact ⟨rfl, rfl⟩
    ·have hR : Aew n f ps k = ({ Arity := 0, Table := Ao Int }, false) := if_neg fun hh => hpl hh.2.2.2.1
     rw [if_pos hpl, if_pos hpl, hR]
     exact ⟨rfl, rfl⟩
   ·have hR : Aew n f ps k = ({ Arity := 0, Table := Ao Int }, false) := if_neg fun hh => hk ⟨hh.2.1, hh.2.2.1⟩
    rw [hR, decide_eq_false hk]
    constructor
    ·by_cases hk1 : k < 1
     ·rw [if_pos hk1]
     ·rw [if_neg hk1, if_pos (by omega)]
    ·split <;> rfl
  ·have hR : Aew n f ps k = ({ Arity := 0, Table := Ao Int }, false) := if_neg fun hh => ho hh.1.2.2
   rw [decide_eq_false ho, hR]
   exact ⟨rfl, rfl⟩
 ·have hR : Aew n f ps k = ({ Arity := 0, Table := Ao Int }, false) := if_neg fun hh => h ⟨hh.1.1, hh.1.2.1⟩
  rw [decide_eq_false h, hR]
  exact ⟨rfl, rfl⟩
end Go.Proofs.Ytoaojijoefljaaa.Ax
namespace Go.Proofs.Ytoaojijoefljaaa.Ax
open Go Classical
section
variable {n k : Nat} {f : SOp} {ts : List (List Int)}
theorem Aqh (hk : k ≤ 3) {t : List Int} (ht : Ib n (n ^ k) t) : Ic n { Arity := (k : Int), Table := t } := ⟨by show 0 ≤ (k : Int); omega, by show (k : Int) ≤ 3; omega, ht.1, ht.2⟩
theorem V5 (hn : 0 < n) (hn8 : n ≤ 8) (hk1 : 1 ≤ k) (hk : k ≤ 3) (hf : Ic n f) (hfa : f.Arity = k) (hl : ts.length = k) (ht : ∀ t ∈ ts, Ib n (n ^ k) t) :
  Df n f (H8 k ts) = some ({ Arity := (k : Int), Table := J3 n (n ^ k) f ts }, true) ∧ Ds n f (H8 k ts) = some ({ Arity := (k : Int), Table := J3 n (n ^ k) f ts }, true) := by
 have hL := Bk
 have hpl := H5 hn8 hk
 have hfl : f.Table.length ≤ LIM := by have := hf.2.2.1; have := H5 hn8 (show f.Arity.toNat ≤ 3 by omega); omega
 have hol : (H8 (k : Int) ts).length = k := by simp [H8, hl]
 have hnth : ∀ i, i < k → nth (H8 (k : Int) ts) i = { Arity := (k : Int), Table := nth ts i } := fun i hi => D1 _ (by omega)
 have hrow : ∀ i, i < k → (nth ts i).length = n ^ k := fun i hi => (ht _ (A9 (by omega))).1
 obtain ⟨e1, e2⟩ := Afm (n : Int)
 have hsz : decide (1 ≤ (n : Int) ∧ (n : Int) ≤ 8) = true := decide_eq_true (by omega)
 rw [hsz] at e1 e2
 have hcl : ts.length = f.Arity.toNat := by omega
 have h00 : Int.toNat 0 = 0 := rfl
 constructor
 ·unfold Df
  rw [e1, Z3 hn8 hfl, decide_eq_true hf]
  simp only [Option.bind_some, if_true]
  rw [if_neg (by omega), if_neg (by omega)]
  simp only [Option.bind_some]
  rw [Af (by omega)]
  have key := Bs (body := Bv n f (H8 k ts)) (fun i => ((i : Int), ts.take i)) k (.inr ts) (fun i hi => by
   unfold Bv
   dsimp only
   rw [if_pos (by omega), Af (by omega), Int.toNat_natCast, h00, hnth i hi, hnth 0 (by omega)]
   dsimp only
   rw [if_neg (by simp), if_neg (by omega), Z3 hn8 (by show (nth ts i).length ≤ LIM; have := hrow i hi; omega), decide_eq_true (Aqh hk (ht _ (A9 (by omega))))]
   simp only [Option.bind_some, if_true]
   rw [Af (by simp only [List.length_take, List.length_cons, List.length_nil]; omega), Af (by unfold InI; omega), D4 (by omega)]
   rfl) (by
   unfold Bv
   dsimp only
   rw [if_neg (by omega), List.take_of_length_le (by omega)])
  have key' : Ar (Bv n f (H8 k ts)) (0, Ao (List Int)) = _ := key
  rw [key', h00, hnth 0 (by omega)]
  simp only [Option.bind_some]
  rw [Rp hn8 hk]
  simp only [Option.bind_some]
  rw [Vm hn8 hf hcl ht (by omega)]
  rfl
 ·unfold Ds
  rw [e2, Xz (by omega) hn8 hfl, decide_eq_true hf]
  simp only [Option.bind_some, if_true]
  rw [if_neg (by omega), if_neg (by omega)]
  simp only [Option.bind_some]
  have key := Bs (body := Bu n f (H8 k ts)) (fun i => ((i : Int), ts.take i)) k (.inr ts) (fun i hi => by
   unfold Bu
   dsimp only
   rw [if_pos (by omega), Af (by omega), Int.toNat_natCast, h00, hnth i hi, hnth 0 (by omega)]
   dsimp only
   rw [Xz (by omega) hn8 (by show (nth ts i).length ≤ LIM; have := hrow i hi; omega), decide_eq_true (Aqh hk (ht _ (A9 (by omega))))]
   simp only [Option.bind_some, if_true]
   rw [Af (by omega), if_neg (by omega), Af (by omega), Af (by omega), if_neg (by simp)]
   simp only [Option.bind_some]
   rw [Af (by omega), Af (by simp only [List.length_take, List.length_cons, List.length_nil]; omega), Af (by unfold InI; omega), D4 (by omega)]
   rfl) (by
   unfold Bu
   dsimp only
   rw [if_neg (by omega), List.take_of_length_le (by omega)])
  have key' : Ar (Bu n f (H8 k ts)) (0, Ao (List Int)) = _ := key
  rw [key', h00, hnth 0 (by omega)]
  simp only [Option.bind_some]
  rw [Af (by omega), Af (by omega), hrow 0 (by omega), U7 hn8 hf hcl ht (by omega)]
  rfl
end
theorem Am7 {code : List Int} (hc : ∀ x ∈ code, 0 ≤ x ∧ x ≤ 255) (hl : code.length ≤ 65536) : ∃ w d n d2 f d3, Ap ({ code := code, at_ := 0, seed := 0 }) (24) = some (w, d) ∧ 0 ≤ w ∧ w ≤ 24 ∧
  Ay d (List.take ((5 + w.tdiv 11).toNat - Int.toNat 0) (List.drop (Int.toNat 0) [1, 2, 2, 3, 4, 0, 9])) = some (n, d2) ∧ Bn d2 n = some (f, d3) ∧ Cur 300 d3 ∧ f.Table.length ≤ 65 ∧ f.Arity ≤ 3 ∧ (n ≤ 4 ∨ n = 9) := by
 obtain ⟨w, d, e, hd, w0, w1⟩ := Dn (Arh hc hl) (by omega) 24
 have et : w.tdiv 11 = w / 11 := Int.tdiv_eq_ediv_of_nonneg w0
 obtain ⟨n, d2, e2, hd2, hn⟩ := Fu hd (by omega) (List.take ((5 + w.tdiv 11).toNat - Int.toNat 0) (List.drop (Int.toNat 0) [1, 2, 2, 3, 4, 0, 9])) (by rw [et]; simp; omega)
 obtain ⟨f, d3, e3, hd3, h1, h2⟩ := Aek hd2 (by omega) n
 refine ⟨w, d, n, d2, f, d3, e, w0, by omega, e2, e3, hd3.mono (by omega), h1, h2, ?_⟩
 have := List.mem_of_mem_drop (List.mem_of_mem_take hn)
 simp at this
 omega
theorem w11 {w : Int} (h0 : 0 ≤ w) (h1 : w ≤ 24) : ((11 : Int) ≠ 0 ∧ InI (w.tdiv 11)) ∧ InI (5 + w.tdiv 11) ∧ ((0 : Int) ≤ 0 ∧ 0 ≤ 5 + w.tdiv 11 ∧ 5 + w.tdiv 11 ≤ (([1, 2, 2, 3, 4, 0, (9 : Int)].length : Nat) : Int)) := by
 have et : w.tdiv 11 = w / 11 := Int.tdiv_eq_ediv_of_nonneg h0
 rw [et]
 exact ⟨⟨by decide, by unfold InI; omega⟩, by unfold InI; omega, by simp only [List.length_cons, List.length_nil]; omega⟩
theorem Alq {code : List Int} (hc : ∀ x ∈ code, 0 ≤ x ∧ x ≤ 255) (hl : code.length ≤ 65536) : ∃ n f ps k, F2 code = some (n, f, ps, k) ∧ f.Table.length ≤ 65 ∧ ps.length ≤ 10 := by
 have hL := Bk
 have e0 : ∀ a b : Int, C9 a b = some (if a > b then a else b) := fun a b => by
  unfold C9; split <;> rfl
 obtain ⟨w, d, n, d2, f, d3, q1, q2, q3, q4, q5, q6, q7, q8, _⟩ := Am7 hc hl
 obtain ⟨a1, a2, a3⟩ := w11 q2 q3
 unfold F2
 rw [q1]
 simp only [Option.bind_some]
 rw [Af a1, Af a2, Af a3, q4]
 simp only [Option.bind_some]
 rw [q5]
 simp only [Option.bind_some]
 obtain ⟨k, d4, e4, hd4⟩ := Aao q6 (by omega)
 rw [e4]
 simp only [Option.bind_some]
 obtain ⟨⟨ps, d5⟩, e5, hp5, hd5⟩ := Gt (body := Eb n f k) (fun s => ∃ i : Nat, s.1 = (i : Int) ∧ i ≤ 3 ∧ s.2.1.length = i ∧ Cur (310 + 2 * i) s.2.2) (fun s => 4 - s.1.toNat) (fun t => t.1.length ≤ 3 ∧ Cur 320 t.2) (by
  rintro ⟨x, ps, c⟩ ⟨i, rfl, g1, g2, g3⟩
  dsimp only at g2 g3
  unfold Eb
  dsimp only
  by_cases hi : (i : Int) < f.Arity
  ·rw [if_pos hi, e0]
   simp only [Option.bind_some]
   obtain ⟨v, d6, e6, hd6, _⟩ := Dn g3 (by omega) (if k > 1 then k else 1)
   rw [e6]
   simp only [Option.bind_some]
   rw [Af (by simp only [List.length_cons, List.length_nil]; omega), Af (by unfold InI; omega)]
   exact .inl ⟨_, rfl, ⟨i + 1, by dsimp only; omega, by omega, by simp; omega, hd6.mono (by omega)⟩, by dsimp only; omega⟩
  ·rw [if_neg hi]
   exact .inr ⟨_, rfl, by dsimp only; omega, g3.mono (by omega)⟩) (s := (0, Ao Int, d4)) ⟨0, rfl, by omega, rfl, hd4.mono (by omega)⟩
 rw [e5]
 simp only [Option.bind_some]
 dsimp only at hp5 hd5
 obtain ⟨b, d6, e6, hd6⟩ := Aan hd5 (by omega) 16
 rw [e6]
 simp only [Option.bind_some]
 by_cases hb : b = true
 ·rw [if_pos hb]
  obtain ⟨v, d7, e7, _⟩ := Fu hd6 (by omega) [0, k] (by simp)
  rw [e7]
  simp only [Option.bind_some]
  rw [Af (by simp only [List.length_cons, List.length_nil]; omega)]
  exact ⟨n, f, _, k, rfl, q7, by simp; omega⟩
 ·rw [if_neg hb]
  exact ⟨n, f, _, k, rfl, q7, by omega⟩
theorem Aap {code : List Int} (hc : ∀ x ∈ code, 0 ≤ x ∧ x ≤ 255) (hl : code.length ≤ 65536) : ∃ n f, Dp code = some (n, f) ∧ f.Table.length ≤ 1000 := by
 have hL := Bk
 have e0 : ∀ a b : Int, C9 a b = some (if a > b then a else b) := fun a b => by
  unfold C9; split <;> rfl
 obtain ⟨w, d, n, d2, f, d3, q1, q2, q3, q4, q5, q6, q7, q8, q9⟩ := Am7 hc hl
 obtain ⟨a1, a2, a3⟩ := w11 q2 q3
 unfold Dp D2
 rw [q1]
 simp only [Option.bind_some]
 rw [Af a1, Af a2, Af a3, q4]
 simp only [Option.bind_some]
 rw [q5]
 simp only [Option.bind_some]
 rw [(Afm n).2]
 simp only [Option.bind_some]
 by_cases h : 1 ≤ n ∧ n ≤ 8
 ·rw [decide_eq_true h, if_pos rfl]
  have hn : ((n.toNat : Nat) : Int) = n := by omega
  have i2 := Xz (n := n.toNat) (f := f) (by omega) (by omega) (by omega)
  rw [hn] at i2
  rw [i2]
  simp only [Option.bind_some]
  by_cases ho : Ic n.toNat f
  ·rw [decide_eq_true ho, if_pos rfl]
   by_cases hA : f.Arity > 0
   ·rw [if_pos hA]
    obtain ⟨b, d4, e4, hd4⟩ := Aan q6 (by omega) 3
    rw [e4]
    simp only [Option.bind_some]
    by_cases hb : b = true
    ·rw [if_pos hb]
     obtain ⟨p, d5, e5, hd5, p0, p1⟩ := Dn hd4 (by omega) f.Arity
     rw [e5]
     simp only [Option.bind_some]
     rw [Af (by unfold InI; omega)]
     obtain ⟨ps, e6, hp6, hin⟩ := Gt (body := Ch n f p) (fun s => ∃ i : Nat, s.1 = (i : Int) ∧ (i : Int) ≤ f.Arity ∧ s.2.1.length = i ∧ Ct s.2.1 (p + 1) ∧ Cur (310 + 2 * i) s.2.2) (fun s => 4 - s.1.toNat) (fun ps => (ps.length : Int) = f.Arity ∧ Ct ps (p + 1)) (by
      rintro ⟨x, ps, c⟩ ⟨i, rfl, g1, g2, g4, g3⟩
      dsimp only at g2 g3 g4
      unfold Ch
      dsimp only
      by_cases hi : (i : Int) < f.Arity
      ·rw [if_pos hi]
       obtain ⟨v, d6, e6, hd6, v0, v1⟩ := Dn g3 (by omega) (p + 1)
       rw [e6]
       simp only [Option.bind_some]
       rw [Af (by simp only [List.length_cons, List.length_nil]; omega), Af (by unfold InI; omega)]
       refine .inl ⟨_, rfl, ⟨i + 1, by dsimp only; omega, by omega, by simp; omega, fun y hy => ?_, hd6.mono (by omega)⟩, by dsimp only; omega⟩
       rcases List.mem_append.1 hy with hy | hy
       ·exact g4 y hy
       ·rw [List.mem_singleton.1 hy]; omega
      ·rw [if_neg hi]
       exact .inr ⟨_, rfl, by omega, g4⟩) (s := (0, Ao Int, d5)) ⟨0, rfl, by omega, rfl, nofun, hd5.mono (by omega)⟩
     rw [e6]
     simp only [Option.bind_some]
     rw [e0]
     simp only [Option.bind_some]
     obtain ⟨K, hK, hK3, hK1⟩ : ∃ K : Nat, (if p + 1 > 2 then p + 1 else 2) = (K : Int) ∧ K ≤ 3 ∧ p + 1 ≤ (K : Int) := ⟨(if p + 1 > 2 then p + 1 else 2).toNat, by split <;> omega, by split <;> omega, by split <;> omega⟩
     rw [hK]
     have m2 := Aig (n := n.toNat) (k := K) (f := f) (ps := ps) (by omega) (by omega) hK3 ho (by omega) (fun y hy => by have := hin y hy; omega)
     rw [hn] at m2
     rw [m2]
     have := H5 (n := n.toNat) (k := K) (by omega) hK3
     exact ⟨n, _, rfl, by show (N4 _ _ _ _).length ≤ 1000; unfold N4; rw [Hb]; omega⟩
    ·rw [if_neg hb]
     exact ⟨n, f, rfl, by omega⟩
   ·rw [if_neg hA]
    exact ⟨n, f, rfl, by omega⟩
  ·rw [decide_eq_false ho]
   exact ⟨n, f, rfl, by omega⟩
 ·rw [decide_eq_false h]
  exact ⟨n, f, rfl, by omega⟩
end Go.Proofs.Ytoaojijoefljaaa.Ax
namespace Go.Proofs.Ytoaojijoefljaaa.Ax
open Go Classical
section
end
end Go.Proofs.Ytoaojijoefljaaa.Ax
namespace Go.Proofs.Ytoaojijoefljaaa.Ax
open Go Classical
end Go.Proofs.Ytoaojijoefljaaa.Ax
namespace Go.Proofs.Ytoaojijoefljaaa.Ax
open Go Classical
section
variable {n : Nat} {f : Nat → Nat → Bool}
end
section
variable {n m : Nat} {f g : Nat → Nat → Bool}
end
end Go.Proofs.Ytoaojijoefljaaa.Ax
namespace Go.Proofs.Ytoaojijoefljaaa.Ax
open Go Classical
section
variable {n m : Nat} {f g : Nat → Nat → Bool}
end
end Go.Proofs.Ytoaojijoefljaaa.Ax
namespace Go.Proofs.Ytoaojijoefljaaa.Ax
open Go Classical
section
end
theorem Awi {xs : List Int} (h : xs.length ≤ LIM) : Gn xs xs = some true := by
 have hL := Bk
 unfold Gn
 rw [if_neg (by simp)]
 have := Bs (body := Cd xs xs) (fun i => (i : Int)) xs.length (.inr ()) (fun i hi => by
  unfold Cd
  rw [if_pos (by omega)]
  repeat rw [Af (by first | omega | (unfold InI; omega))]
  rw [if_neg (by simp)]
  rfl) (by
  unfold Cd
  rw [if_neg (by omega)])
 have h0 : Ar (Cd xs xs) 0 = some (.inr ()) := this
 rw [h0]; rfl
section
variable {n m : Nat} {f g : Nat → Nat → Bool}
end
end Go.Proofs.Ytoaojijoefljaaa.Ax
namespace Go.Proofs.Ytoaojijoefljaaa.Ax
open Go Classical
section
end
theorem Azb {f : SOp} (h : f.Table.length ≤ LIM) : H4 f f = some true := by
 unfold H4
 rw [if_pos rfl, Awi h]; rfl
theorem Axf {fs : List SOp} (h : fs.length ≤ LIM) (h1 : ∀ f ∈ fs, f.Table.length ≤ LIM) : Nr fs fs = some true := by
 have hL := Bk
 unfold Nr
 rw [if_neg (by simp)]
 have := Bs (body := Ft fs fs) (fun i => (i : Int)) fs.length (.inr ()) (fun i hi => by
  unfold Ft
  rw [if_pos (by omega)]
  repeat rw [Af (by first | omega | (unfold InI; omega))]
  rw [Int.toNat_natCast, Azb (h1 _ (A9 hi))]
  simp only [Option.bind_some, if_true]
  rfl) (by
  unfold Ft
  rw [if_neg (by omega)])
 have h0 : Ar (Ft fs fs) 0 = some (.inr ()) := this
 rw [h0]; rfl
end Go.Proofs.Ytoaojijoefljaaa.Ax
namespace Go.Proofs.Ytoaojijoefljaaa.Ax
open Go Classical
theorem Ayn {xs : List Int} (h : xs.length ≤ LIM) (x : Int) : N0 xs x = some (decide (x ∈ xs)) := by
 have hL := Bk
 unfold N0
 have := Hf (body := Es xs x) (fun i => (i : Int)) xs.length (fun i => nth xs i = x) () () (fun i hi hb => by
  unfold Es
  rw [if_pos (by omega), Af (by omega), Int.toNat_natCast, if_neg hb, Af (by unfold InI; omega)]; rfl) (fun i hi hb => by
  unfold Es
  rw [if_pos (by omega), Af (by omega), Int.toNat_natCast, if_pos hb]) (by
  unfold Es
  rw [if_neg (by omega)]) 0 (by omega)
 have h0 : Ar (Es xs x) 0 = _ := this
 rw [h0]
 by_cases hx : x ∈ xs
 ·obtain ⟨i, hi, e⟩ := Pa.1 hx
  rw [if_pos ⟨i, by omega, hi, e⟩, decide_eq_true hx]; rfl
 ·rw [if_neg (by rintro ⟨i, _, hi, e⟩; exact hx (e ▸ A9 hi)), decide_eq_false hx]; rfl
end Go.Proofs.Ytoaojijoefljaaa.Ax
