/-
 Plain facts, joined.
-/
import Derived.Test.YtoaojijoefljaaaPA
namespace Go.Proofs.Ytoaojijoefljaaa.Ax
open Go Classical
def Avi (m i : Nat) : Bool := decide (m / 2 ^ i % 2 = 1)
def Avh (f : Nat → Nat → Bool) (ls : List Int) : Prop := ∀ x ∈ ls, ∀ y ∈ ls, ¬ (x.toNat ≠ y.toNat ∧ f x.toNat y.toNat = true)
section
end
end Go.Proofs.Ytoaojijoefljaaa.Ax
namespace Go.Proofs.Ytoaojijoefljaaa.Ax
open Go Classical
def pc (n m : Nat) : Nat := (Q5 n (Avi m)).length
theorem Ape {q q' : Nat → Bool} {x : Nat} (hq : q x = false) (h : ∀ i, q' i = (q i || decide (x = i))) : ∀ n, (Q5 n q').length = (Q5 n q).length + if x < n then 1 else 0 := by
 intro n
 induction n with
 | zero => simp [Q5]
 | succ n ih =>
   rw [Adv, Adv, h n]
   by_cases hxn : x = n
   ·subst hxn
    rw [hq]
    simp only [decide_true, Bool.or_true, if_true, Bool.false_eq_true, if_false]
    rw [List.length_append, ih, if_neg (by omega), if_pos (by omega)]; rfl
   ·rw [decide_eq_false hxn, Bool.or_false]
    by_cases hqn : q n = true
    ·rw [if_pos hqn, if_pos hqn, List.length_append, List.length_append, ih]
     by_cases hx : x < n
     ·rw [if_pos hx, if_pos (by omega)]; simp
     ·rw [if_neg hx, if_neg (by omega)]; rfl
    ·rw [if_neg hqn, if_neg hqn, ih]
     by_cases hx : x < n
     ·rw [if_pos hx, if_pos (by omega)]
     ·rw [if_neg hx, if_neg (by omega)]
def wt (n m : Nat) : Nat := 10 ^ (10 - pc n m)
def phi (n : Nat) (ws : List Int) : Nat → Nat → Int
 | _, 0 => 0
 | M, k + 1 => nth ws M * wt n M + phi n ws (M + 1) k
section
variable {n : Nat} {f : Nat → Nat → Bool}
structure okW (n m : Nat) (ws : List Int) : Prop where
 len : ws.length = 2 ^ n
 pos : ∀ i, i < ws.length → 0 ≤ nth ws i
 sum : phi n ws m (2 ^ n - m) ≤ 10000000000
end
section
end
end Go.Proofs.Ytoaojijoefljaaa.Ax
namespace Go.Proofs.Ytoaojijoefljaaa.Ax
open Go Classical
section
variable {n : Nat} {ps : List (Int × Int)}
end
end Go.Proofs.Ytoaojijoefljaaa.Ax
namespace Go.Proofs.Ytoaojijoefljaaa.Ax
open Go Classical
section
variable {n : Nat} {f : Nat → Nat → Bool}
end
section
end
end Go.Proofs.Ytoaojijoefljaaa.Ax
namespace Go.Proofs.Ytoaojijoefljaaa.Ax
open Go Classical
noncomputable def Au3 (n : Nat) (g h : Nat → Nat → Nat) (S : Nat → Bool) : Nat → Bool := fun z => decide (S z = true ∨ ∃ x y, x < n ∧ y < n ∧ S x = true ∧ S y = true ∧ (z = g x y ∨ z = h x y))
noncomputable def Ait (n : Nat) (g h : Nat → Nat → Nat) (S : Nat → Bool) : Nat → Nat → Bool
 | 0 => S
 | k + 1 => Au3 n g h (Ait n g h S k)
section
variable {n : Nat} {g h : Nat → Nat → Nat} {S : Nat → Bool}
def Avj (n : Nat) (g h : Nat → Nat → Nat) (S : Nat → Bool) (k : Nat) : Prop := ∀ z, z < n → Ait n g h S (k + 1) z = Ait n g h S k z
noncomputable def closed (n : Nat) (g h : Nat → Nat → Nat) (S : Nat → Bool) : Nat → Bool := Ait n g h S n
end
end Go.Proofs.Ytoaojijoefljaaa.Ax
namespace Go.Proofs.Ytoaojijoefljaaa.Ax
open Go Classical
theorem Aq3 {xs ys : List Int} (h : xs.length ≤ LIM) : I5 xs ys = some (decide (xs = ys)) := by
 unfold I5
 rw [Bs] at h
 split
 ·rename_i hl
  rw [decide_eq_false]
  rintro rfl; exact hl rfl
 rename_i hl
 have hl : xs.length = ys.length := by omega
 have := Lb (body := D0 xs ys) (fun i => (i : Int)) xs.length (fun i => ¬ nth xs i = nth ys i) () () (fun i hi hb => by
  unfold D0
  rw [if_pos (by omega), Af (by omega), Af (by omega)]
  simp only [Int.toNat_natCast]
  rw [if_neg (by simpa using hb), Af (by unfold InI; omega)]; rfl) (fun i hi hb => by
  unfold D0
  rw [if_pos (by omega), Af (by omega), Af (by omega)]
  simp only [Int.toNat_natCast]
  rw [if_pos hb]) (by unfold D0; rw [if_neg (by omega)]) 0 (by omega)
 show ((At _ ((0 : Nat) : Int)).bind _) = _
 rw [this]
 by_cases hx : ∃ i, 0 ≤ i ∧ i < xs.length ∧ ¬ nth xs i = nth ys i
 ·rw [if_pos hx, decide_eq_false]
  ·rfl
  ·rintro rfl; obtain ⟨i, _, _, hc⟩ := hx; exact hc rfl
 ·rw [if_neg hx, decide_eq_true (Ain hl (Nr.1 hx))]
  rfl
section
end
end Go.Proofs.Ytoaojijoefljaaa.Ax
namespace Go.Proofs.Ytoaojijoefljaaa.Ax
open Go Classical
def Jk (a : SAlgebra) : Prop := a.Ops.length ≤ 1048576 ∧ ∀ f ∈ a.Ops, f.Table.length ≤ 1048576
end Go.Proofs.Ytoaojijoefljaaa.Ax
namespace Go.Proofs.Ytoaojijoefljaaa.Ax
open Go Classical
def I1 (n : Nat) (f : SOp) : Prop := 0 ≤ f.Arity ∧ f.Arity ≤ 3 ∧ f.Table.length = n ^ f.Arity.toNat ∧ F3 f.Table n
def Pw (a : SAlgebra) : Prop := 1 ≤ a.Size ∧ a.Size ≤ 8 ∧ a.Ops.length ≤ 4 ∧ ∀ f ∈ a.Ops, I1 a.Size.toNat f
theorem N8 {n k : Nat} (hn : n ≤ 8) (hk : k ≤ 3) : n ^ k ≤ 512 :=
 Nat.le_trans (Nat.pow_le_pow_left hn k) (Nat.le_trans (Nat.pow_le_pow_right (by omega) hk) (by decide))
theorem Vj {n k : Nat} (hn : n ≤ 8) (hk : k ≤ 3) : Cc n k = some ((n ^ k : Nat) : Int) := by
 unfold Cc
 have key := Bw (body := Cg n) (fun j => (((n ^ j : Nat) : Int), ((k : Int) - (j : Int)))) k ((n ^ k : Nat) : Int) (fun j hj => by
  unfold Cg
  dsimp only
  have hp := N8 hn (show j + 1 ≤ 3 by omega)
  rw [Nat.pow_succ] at hp
  rw [if_pos (by omega), ← Int.natCast_mul, Nat.pow_succ]
  generalize n ^ j * n = N at hp ⊢
  rw [Af (by unfold InI; omega), Af (by unfold InI; omega), show ((k : Int) - (j : Int) - 1) = (k : Int) - ((j + 1 : Nat) : Int) by omega]) (by
  unfold Cg
  dsimp only
  rw [if_neg (by omega)])
 have key' : At (Cg n) (1, (k : Int)) = some ((n ^ k : Nat) : Int) := by simpa using key
 rw [key']; rfl
theorem Vh {n k : Nat} (hn : n ≤ 8) (hk : k ≤ 3) : Cu n k = some ((n ^ k : Nat) : Int) := by
 unfold Cu
 have key := Bw (body := Cf n) (fun j => (((n ^ j : Nat) : Int), ((k : Int) - (j : Int)))) k ((n ^ k : Nat) : Int) (fun j hj => by
  unfold Cf
  dsimp only
  have hp := N8 hn (show j + 1 ≤ 3 by omega)
  rw [Nat.pow_succ] at hp
  rw [if_pos (by omega), ← Int.natCast_mul, Nat.pow_succ]
  generalize n ^ j * n = N at hp ⊢
  rw [Af (by unfold InI; omega), Af (by unfold InI; omega), show ((k : Int) - (j : Int) - 1) = (k : Int) - ((j + 1 : Nat) : Int) by omega]) (by
  unfold Cf
  dsimp only
  rw [if_neg (by omega)])
 have key' : At (Cf n) (1, (k : Int)) = some ((n ^ k : Nat) : Int) := by simpa using key
 rw [key']; rfl
theorem Al3 {n : Nat} (hn : n ≤ 8) {f : SOp} (hl : f.Table.length ≤ LIM) : D6 f n = some (decide (I1 n f)) := by
 unfold D6
 by_cases h0 : 0 ≤ f.Arity
 ·rw [if_pos (show f.Arity ≥ 0 from h0)]
  by_cases h3 : f.Arity ≤ 3
  ·have e : Cc (n : Int) f.Arity = some ((n ^ f.Arity.toNat : Nat) : Int) := by
    have := Vj hn (k := f.Arity.toNat) (by omega)
    rwa [show ((f.Arity.toNat : Nat) : Int) = f.Arity by omega] at this
   rw [if_pos h3, e]
   simp only [Option.bind_some]
   by_cases hL : f.Table.length = n ^ f.Arity.toNat
   ·rw [if_pos (by rw [hL]), Ads _ _ hl]
    simp only [Option.bind_some]
    congr 1
    rw [decide_eq_decide]
    exact ⟨fun h => ⟨h0, h3, hL, h⟩, fun h => h.2.2.2⟩
   ·rw [if_neg (fun hc => hL (Int.ofNat_inj.1 hc)), decide_eq_false (fun h => hL h.2.2.1)]
  ·rw [if_neg h3, decide_eq_false (fun h => h3 h.2.1)]
 ·rw [if_neg (by omega), decide_eq_false (fun h => h0 h.1)]
theorem Amh {n : Nat} (hn1 : 1 ≤ n) (hn : n ≤ 8) {f : SOp} (hl : f.Table.length ≤ LIM) : Hl n f = some (decide (I1 n f)) := by
 unfold Hl
 rw [Ae5]
 simp only [Option.bind_some]
 by_cases h0 : 0 ≤ f.Arity ∧ f.Arity ≤ 3
 ·have e : Cu (n : Int) f.Arity = some ((n ^ f.Arity.toNat : Nat) : Int) := by
   have := Vh hn (k := f.Arity.toNat) (by omega)
   rwa [show ((f.Arity.toNat : Nat) : Int) = f.Arity by omega] at this
  rw [decide_eq_true h0, if_pos rfl, e]
  simp only [Option.bind_some]
  by_cases hL : f.Table.length = n ^ f.Arity.toNat
  ·rw [if_neg (by rw [hL]; simp)]
   simp only [Option.bind_some]
   have hl' := hl
   rw [Bs] at hl'
   have this := Lb (body := Fa n f) (fun i => (i : Int)) f.Table.length (fun i => ¬ (0 ≤ nth f.Table i ∧ nth f.Table i ≤ (n : Int) - 1)) () () (fun i hi hb => by
    unfold Fa
    rw [if_pos (by omega), Af (by omega), Af (by unfold InI; omega), Ae5]
    simp only [Int.toNat_natCast, Option.bind_some]
    rw [decide_eq_true (Classical.not_not.1 hb), if_pos rfl, Af (by unfold InI; omega)]; rfl) (fun i hi hb => by
    unfold Fa
    rw [if_pos (by omega), Af (by omega), Af (by unfold InI; omega), Ae5]
    simp only [Int.toNat_natCast, Option.bind_some]
    rw [decide_eq_false hb, if_neg (by simp)]) (by
    unfold Fa
    rw [if_neg (by omega)]) 0 (by omega)
   refine (Q4 this false true).trans (congrArg some (Zn ?_))
   rw [Nr]
   constructor
   ·intro h
    refine ⟨h0.1, h0.2, hL, fun x hx => ?_⟩
    obtain ⟨i, hi, rfl⟩ := Sf.1 hx
    have := h i hi; omega
   ·intro h i hi
    have := h.2.2.2 _ (A5 hi); omega
  ·rw [if_pos (fun hc => hL (Int.ofNat_inj.1 hc)), decide_eq_false (fun h => hL h.2.2.1)]; rfl
 ·rw [decide_eq_false h0, if_neg (by simp), decide_eq_false (fun h => h0 ⟨h.1, h.2.1⟩)]; rfl
theorem U1 {a : SAlgebra} (h : Jk a) : Ct a = some (decide (Pw a)) := by
 unfold Ct
 by_cases h1 : a.Size < 1
 ·rw [if_pos h1, decide_eq_false (fun hg => by have := hg.1; omega)]; rfl
 rw [if_neg h1]
 by_cases h8 : a.Size > 8
 ·rw [if_pos h8, decide_eq_false (fun hg => by have := hg.2.1; omega)]; rfl
 rw [if_neg h8]
 by_cases h4 : (a.Ops.length : Int) > 4
 ·rw [if_pos h4, decide_eq_false (fun hg => by have := hg.2.2.1; omega)]; rfl
 rw [if_neg h4]
 simp only [Option.bind_some]
 obtain ⟨n, hn⟩ := Int.eq_ofNat_of_zero_le (show 0 ≤ a.Size by omega)
 have this := Lb (body := Cw a) (fun i => (i : Int)) a.Ops.length (fun i => ¬ I1 n (nth a.Ops i)) () () (fun i hi hb => by
  have hl := h.2 _ (A5 hi)
  unfold Cw
  rw [if_pos (by omega), Af (by omega), Int.toNat_natCast, hn, Al3 (by omega) (by rw [Bs]; omega)]
  simp only [Option.bind_some]
  rw [decide_eq_true (Classical.not_not.1 hb), if_pos rfl, Af (by unfold InI; omega)]; rfl) (fun i hi hb => by
  have hl := h.2 _ (A5 hi)
  unfold Cw
  rw [if_pos (by omega), Af (by omega), Int.toNat_natCast, hn, Al3 (by omega) (by rw [Bs]; omega)]
  simp only [Option.bind_some]
  rw [decide_eq_false hb, if_neg (by simp)]) (by
  unfold Cw
  rw [if_neg (by omega)]) 0 (by omega)
 refine (Q4 this false true).trans (congrArg some (Zn ?_))
 rw [Nr]
 have hnn : a.Size.toNat = n := by omega
 constructor
 ·intro hh
  refine ⟨by omega, by omega, by omega, fun f hf => ?_⟩
  obtain ⟨i, hi, rfl⟩ := Sf.1 hf
  rw [hnn]; exact hh i hi
 ·intro hg i hi
  have := hg.2.2.2 _ (A5 hi)
  rwa [hnn] at this
theorem Adp {a : SAlgebra} (h : Jk a) : F0 a = some (decide (Pw a)) := by
 unfold F0
 rw [Ae5]
 simp only [Option.bind_some]
 by_cases h1 : 1 ≤ a.Size ∧ a.Size ≤ 8
 ·rw [decide_eq_true h1, if_pos rfl]
  by_cases h4 : (a.Ops.length : Int) > 4
  ·rw [if_pos h4, decide_eq_false (fun hg => by have := hg.2.2.1; omega)]; rfl
  rw [if_neg h4]
  simp only [Option.bind_some]
  obtain ⟨n, hn⟩ := Int.eq_ofNat_of_zero_le (show 0 ≤ a.Size by omega)
  have this := Lb (body := Dy a) (fun i => (i : Int)) a.Ops.length (fun i => ¬ I1 n (nth a.Ops i)) () () (fun i hi hb => by
   have hl := h.2 _ (A5 hi)
   unfold Dy
   rw [if_pos (by omega), Af (by omega), Int.toNat_natCast, hn, Amh (by omega) (by omega) (by rw [Bs]; omega)]
   simp only [Option.bind_some]
   rw [decide_eq_true (Classical.not_not.1 hb), if_pos rfl, Af (by unfold InI; omega)]; rfl) (fun i hi hb => by
   have hl := h.2 _ (A5 hi)
   unfold Dy
   rw [if_pos (by omega), Af (by omega), Int.toNat_natCast, hn, Amh (by omega) (by omega) (by rw [Bs]; omega)]
   simp only [Option.bind_some]
   rw [decide_eq_false hb, if_neg (by simp)]) (by
   unfold Dy
   rw [if_neg (by omega)]) 0 (by omega)
  refine (Q4 this false true).trans (congrArg some (Zn ?_))
  rw [Nr]
  have hnn : a.Size.toNat = n := by omega
  constructor
  ·intro hh
   refine ⟨by omega, by omega, by omega, fun f hf => ?_⟩
   obtain ⟨i, hi, rfl⟩ := Sf.1 hf
   rw [hnn]; exact hh i hi
  ·intro hg i hi
   have := hg.2.2.2 _ (A5 hi)
   rwa [hnn] at this
 ·rw [decide_eq_false h1, if_neg (by simp), decide_eq_false (fun hg => h1 ⟨hg.1, hg.2.1⟩)]; rfl
def Ajn (a : SAlgebra) : List Int := a.Ops.map (·.Arity)
theorem Al5 {xs ys : List Int} (h : xs.length ≤ LIM) : G9 xs ys = some (decide (xs = ys)) := by
 unfold G9
 rw [Bs] at h
 by_cases hne : xs.length = ys.length
 ·rw [if_neg (by omega)]
  have this := Lb (body := C4 xs ys) (fun i => (i : Int)) xs.length (fun i => ¬ nth xs i = nth ys i) () () (fun i hi hb => by
   unfold C4
   rw [if_pos (by omega), Af (by omega), Af (by omega)]
   simp only [Int.toNat_natCast]
   rw [if_neg (fun hc => hc (Classical.not_not.1 hb).symm), Af (by unfold InI; omega)]; rfl) (fun i hi hb => by
   unfold C4
   rw [if_pos (by omega), Af (by omega), Af (by omega)]
   simp only [Int.toNat_natCast]
   rw [if_pos (fun hc => hb hc.symm)]) (by unfold C4; rw [if_neg (by omega)]) 0 (by omega)
  refine (Q4 this false true).trans (congrArg some (Zn ?_))
  rw [Nr]
  exact ⟨fun hh => Ain hne hh, fun hh i _ => by rw [hh]⟩
 ·rw [if_pos (by omega), decide_eq_false (fun hh => hne (by rw [hh]))]
end Go.Proofs.Ytoaojijoefljaaa.Ax
namespace Go.Proofs.Ytoaojijoefljaaa.Ax
open Go Classical
def Eo (n : Nat) : Nat → Nat → List Int
 | 0, _ => []
 | r + 1, k => Eo n r (k / n) ++ [((k % n : Nat) : Int)]
theorem G4 (n : Nat) : ∀ r k, (Eo n r k).length = r := by
 intro r
 induction r with
 | zero => intro k; rfl
 | succ r ih => intro k; simp [Eo, ih]
theorem Ai2 {n : Nat} (hn : 0 < n) : ∀ r k, F3 (Eo n r k) n := by
 intro r
 induction r with
 | zero => intro k x hx; cases hx
 | succ r ih =>
   intro k x hx
   simp only [Eo] at hx
   rcases List.mem_append.1 hx with hx | hx
   ·exact ih _ x hx
   ·rw [List.mem_singleton.1 hx]
    have := Nat.mod_lt k hn
    omega
def Rn (m : Nat) (xs : List Int) : Int := xs.foldl (fun s x => s * (m : Int) + x) 0
theorem Vi (m : Nat) (xs : List Int) (y : Int) : Rn m (xs ++ [y]) = Rn m xs * (m : Int) + y := by
 unfold Rn; rw [List.foldl_append]; rfl
theorem Sa {m : Nat} : ∀ (r : Nat) (xs : List Int), xs.length = r → F3 xs m → ∃ c : Nat, Rn m xs = (c : Int) ∧ c < m ^ r := by
 intro r
 induction r with
 | zero =>
   intro xs hl _
   have : xs = [] := List.length_eq_zero_iff.1 hl
   subst this
   exact ⟨0, rfl, by simp⟩
 | succ r ih =>
   intro xs hl hx
   obtain ⟨ys, y, rfl⟩ : ∃ ys y, xs = ys ++ [y] := by
    refine ⟨xs.take r, nth xs r, ?_⟩
    rw [← Di (by omega), List.take_of_length_le (by omega)]
   have hy := hx y (by simp)
   obtain ⟨c, h1, h2⟩ := ih ys (by simpa using hl) fun z hz => hx z (by simp [hz])
   obtain ⟨d, rfl⟩ := Int.eq_ofNat_of_zero_le hy.1
   refine ⟨c * m + d, by rw [Vi, h1]; push_cast; rfl, ?_⟩
   have h3 := Nat.mul_le_mul_right m (show c + 1 ≤ m ^ r from h2)
   rw [Nat.succ_mul] at h3
   rw [Nat.pow_succ]
   omega
theorem Aea {m : Nat} (hm : m ≤ 8) {xs : List Int} (hl : xs.length ≤ 3) (hx : F3 xs m) : ∃ c : Nat, Rn m xs = (c : Int) ∧ c < m ^ xs.length ∧ c < 512 := by
 obtain ⟨c, h1, h2⟩ := Sa xs.length xs rfl hx
 have := N8 hm hl
 exact ⟨c, h1, h2, by omega⟩
theorem Agx {m : Nat} {xs : List Int} {i : Nat} (hi : i < xs.length) : Rn m (xs.take (i + 1)) = Rn m (xs.take i) * (m : Int) + nth xs i := by
 rw [Di hi, Vi]
theorem Agf {m : Nat} (hm : m ≤ 8) {xs : List Int} (hl : xs.length ≤ 3) (hx : F3 xs m) {i : Nat} (hi : i < xs.length) :
  InI (Rn m (xs.take i) * (m : Int)) ∧ InI (Rn m (xs.take i) * (m : Int) + nth xs i) := by
 obtain ⟨c, h1, _, h3⟩ := Aea hm (xs := xs.take i) (by rw [List.length_take]; omega) fun z hz => hx z (List.mem_of_mem_take hz)
 have hv := hx _ (A5 hi)
 have h4 : c * m ≤ 512 * 8 := Nat.mul_le_mul (by omega) hm
 rw [h1, ← Int.natCast_mul]
 generalize c * m = d at h4
 unfold InI
 omega
def Asj (n m : Nat) (f : List Int) : Nat → Nat → Int
 | 0, _ => 0
 | r + 1, k => Asj n m f r (k / n) * (m : Int) + nth f (k % n)
theorem Aqy (n m : Nat) (f : List Int) : ∀ r k, Rn m ((Eo n r k).map fun x => nth f x.toNat) = Asj n m f r k := by
 intro r
 induction r with
 | zero => intro k; rfl
 | succ r ih =>
   intro k
   simp only [Eo, Asj, List.map_append, List.map_cons, List.map_nil, Int.toNat_natCast]
   rw [Vi, ih]
theorem Apc {n m : Nat} (hn : 0 < n) {f : List Int} (hf : f.length = n) (hfx : F3 f m) (r k : Nat) : F3 ((Eo n r k).map fun x => nth f x.toNat) m := by
 intro y hy
 obtain ⟨x, hx, rfl⟩ := List.mem_map.1 hy
 have := Ai2 hn r k x hx
 exact hfx _ (A5 (by omega))
structure Homs (a b : SAlgebra) (f : List Int) (n m : Nat) : Prop where
 ga : Pw a
 gb : Pw b
 ty : Ajn a = Ajn b
 sa : a.Size = n
 sb : b.Size = m
 len : f.length = n
 fin : F3 f m
section
variable {a b : SAlgebra} {f : List Int} {n m : Nat}
theorem Homs.ops (h : Homs a b f n m) : a.Ops.length = b.Ops.length := by
 have := congrArg List.length h.ty
 simpa [Ajn] using this
theorem Homs.op (h : Homs a b f n m) {i : Nat} (hi : i < a.Ops.length) : ∃ r : Nat, r ≤ 3 ∧ (nth a.Ops i).Arity = r ∧ (nth b.Ops i).Arity = r ∧ (nth a.Ops i).Table.length = n ^ r ∧ (nth b.Ops i).Table.length = m ^ r ∧ F3 (nth a.Ops i).Table n ∧ n ^ r ≤ 512 := by
 have hn : a.Size.toNat = n := by have := h.sa; omega
 have hm : b.Size.toNat = m := by have := h.sb; omega
 have hn8 : n ≤ 8 := by have := h.sa; have := h.ga.2.1; omega
 obtain ⟨h1, h2, h3, h4⟩ := h.ga.2.2.2 _ (A5 hi)
 have hib : i < b.Ops.length := by rw [← h.ops]; exact hi
 obtain ⟨_, _, k3, _⟩ := h.gb.2.2.2 _ (A5 hib)
 have e : (nth a.Ops i).Arity = (nth b.Ops i).Arity := by
  have e1 : nth (Ajn a) i = (nth a.Ops i).Arity := Ed _ hi
  have e2 : nth (Ajn b) i = (nth b.Ops i).Arity := Ed _ hib
  rw [← e1, ← e2, h.ty]
 rw [hn] at h3 h4
 rw [hm, ← e] at k3
 exact ⟨(nth a.Ops i).Arity.toNat, by omega, by omega, by omega, h3, k3, h4, N8 hn8 (by omega)⟩
theorem Homs.pos (h : Homs a b f n m) : 0 < n ∧ n ≤ 8 ∧ 0 < m ∧ m ≤ 8 := by
 have := h.sa; have := h.sb; have := h.ga.1; have := h.ga.2.1; have := h.gb.1; have := h.gb.2.1
 omega
theorem Homs.low (h : Homs a b f n m) {r k : Nat} (hr : r ≤ 3) : ∃ c : Nat, Asj n m f r k = (c : Int) ∧ c < m ^ r := by
 obtain ⟨hn, _, _, hm⟩ := h.pos
 obtain ⟨c, h1, h2, _⟩ := Aea hm (xs := (Eo n r k).map fun x => nth f x.toNat) (by rw [List.length_map, G4]; exact hr) (Apc hn h.len h.fin r k)
 rw [Aqy] at h1
 rw [List.length_map, G4] at h2
 exact ⟨c, h1, h2⟩
end
def uniq (f : List Int) : Prop := ∀ i, i < f.length → nth f i ∉ f.take i
end Go.Proofs.Ytoaojijoefljaaa.Ax
namespace Go.Proofs.Ytoaojijoefljaaa.Ax
open Go Classical
theorem Agp {β : Type} (k : ByteArray) (v : β) (k' : ByteArray) : ∀ (l : List (ByteArray × β)), Dr (I9 l k v) k' = if k' = k then some v else Dr l k'
 | [] => by simp [I9, Dr]
 | (a, b) :: r => by
   simp only [I9]
   by_cases h1 : k = a
   ·subst h1
    rw [if_pos rfl]
    simp only [Dr]
    by_cases h2 : k' = k
    ·rw [if_pos h2, if_pos h2]
    ·rw [if_neg h2, if_neg h2, if_neg h2]
   ·rw [if_neg h1]
    simp only [Dr]
    rw [Agp k v k' r]
    by_cases h2 : k' = a
    ·rw [if_pos h2, if_pos h2, if_neg (fun e => h1 (by rw [← e, h2]))]
    ·rw [if_neg h2, if_neg h2]
theorem Amt (ns : List Int) : ∀ b : ByteArray, (ns.foldl (fun r n => r.push (UInt8.ofNat n.toNat)) b).data.toList = b.data.toList ++ ns.map fun n => UInt8.ofNat n.toNat := by
 induction ns with
 | nil => intro b; simp
 | cons n r ih =>
   intro b
   simp only [List.foldl_cons, List.map_cons]
   rw [ih]
   simp [ByteArray.push]
theorem Aq7 {a b : Int} (ha : 0 ≤ a ∧ a ≤ 255) (hb : 0 ≤ b ∧ b ≤ 255) (h : UInt8.ofNat a.toNat = UInt8.ofNat b.toNat) : a = b := by
 have := congrArg UInt8.toNat h
 simp [UInt8.toNat_ofNat'] at this
 omega
theorem Aol {ns ms : List Int} (hn : ∀ x ∈ ns, 0 ≤ x ∧ x ≤ 255) (hm : ∀ x ∈ ms, 0 ≤ x ∧ x ≤ 255) (h : S6 ns = S6 ms) : ns = ms := by
 have e := congrArg (fun b : ByteArray => b.data.toList) h
 simp only [S6, Amt] at e
 have e2 : (ns.map fun n : Int => UInt8.ofNat n.toNat) = ms.map fun n : Int => UInt8.ofNat n.toNat := by simpa using e
 clear e h
 induction ns generalizing ms with
 | nil =>
   cases ms with
   | nil => rfl
   | cons _ _ => cases e2
 | cons a r ih =>
   cases ms with
   | nil => cases e2
   | cons b s =>
     simp only [List.map_cons, List.cons.injEq] at e2
     rw [Aq7 (hn a (by simp)) (hm b (by simp)) e2.1, ih (fun x hx => hn x (by simp [hx])) (fun x hx => hm x (by simp [hx])) e2.2]
def byt (x : Int) : List Int := [IntKind.u8.wrap (x.fdiv (2 ^ min (Int.toNat 8) IntKind.i64.bits)), IntKind.u8.wrap x]
theorem Art (n : Int) : IntKind.u8.wrap n = n % 256 := by simp [IntKind.wrap, IntKind.bits, IntKind.signed]
theorem Aqm {x : Int} (h0 : 0 ≤ x) (h1 : x < 65536) : byt x = [x / 256, x % 256] := by
 unfold byt
 have e : (2 : Int) ^ min (Int.toNat 8) IntKind.i64.bits = 256 := by decide
 rw [e, Art, Art, Int.fdiv_eq_ediv_of_nonneg _ (by omega)]
 congr 1
 omega
theorem Ard (x : Int) : ∀ y ∈ byt x, 0 ≤ y ∧ y ≤ 255 := by
 intro y hy
 unfold byt at hy
 simp only [List.mem_cons, List.not_mem_nil, or_false] at hy
 rcases hy with rfl | rfl <;> (rw [Art]; omega)
def Xa (xs : List Int) : ByteArray := S6 (xs.flatMap byt)
theorem Ah7 : ∀ {xs ys : List Int}, (∀ x ∈ xs, 0 ≤ x ∧ x < 65536) → (∀ x ∈ ys, 0 ≤ x ∧ x < 65536) → xs.flatMap byt = ys.flatMap byt → xs = ys := by
 intro xs
 induction xs with
 | nil =>
   intro ys _ _ h
   cases ys with
   | nil => rfl
   | cons y r => simp [byt] at h
 | cons x r ih =>
   intro ys hx hy h
   cases ys with
   | nil => simp [byt] at h
   | cons y s =>
     have h1 := hx x (by simp)
     have h2 := hy y (by simp)
     simp only [List.flatMap_cons, Aqm h1.1 h1.2, Aqm h2.1 h2.2, List.cons_append, List.nil_append, List.cons.injEq] at h
     rw [ih (fun z hz => hx z (by simp [hz])) (fun z hz => hy z (by simp [hz])) h.2.2, show x = y by omega]
theorem Ak6 {xs ys : List Int} (hx : ∀ x ∈ xs, 0 ≤ x ∧ x < 65536) (hy : ∀ x ∈ ys, 0 ≤ x ∧ x < 65536) (h : Xa xs = Xa ys) : xs = ys := by
 refine Ah7 hx hy (Aol ?_ ?_ h)
 ·intro y hy
  obtain ⟨x, _, hy⟩ := List.mem_flatMap.1 hy
  exact Ard x y hy
 ·intro y hy
  obtain ⟨x, _, hy⟩ := List.mem_flatMap.1 hy
  exact Ard x y hy
theorem Arv (xs : List Int) : (xs.flatMap byt).length = 2 * xs.length := by
 induction xs with
 | nil => rfl
 | cons x r ih => simp only [List.flatMap_cons, List.length_append, ih, List.length_cons]; simp [byt]; omega
theorem X4 {xs : List Int} (hl : xs.length ≤ 1048576) : Ey xs = some (Xa xs) := by
 have hL := Bs
 unfold Ey
 rw [Af (by unfold InI; omega), Af (by omega)]
 have key := Bw (body := El xs) (fun i => ((i : Int), (xs.take i).flatMap byt)) xs.length (xs.flatMap byt) (fun i hi => by
  have h1 := Arv (xs.take i)
  unfold El
  dsimp only
  rw [if_pos (by omega), Af (by omega), Int.toNat_natCast, Af (by rw [h1, List.length_take]; simp only [List.length_cons, List.length_nil]; omega), Af (by unfold InI; omega), Di hi, List.flatMap_append]
  simp [byt]) (by
  unfold El
  dsimp only
  rw [if_neg (by omega), List.take_length])
 have key' : At (El xs) (0, Ar Int) = _ := key
 rw [key']; rfl
def So (S : List (ByteArray × Bool)) (rows : List (List Int)) : Prop := ∀ k, (Dr S k).getD false = decide (∃ t ∈ rows, Xa t = k)
theorem Ajy : So (Ar (ByteArray × Bool)) [] := fun k => by simp [Dr]
theorem Ag1 {S : List (ByteArray × Bool)} {rows : List (List Int)} (h : So S rows) (t : List Int) : So (I9 S (Xa t) true) (rows ++ [t]) := by
 intro k
 rw [Agp]
 by_cases hk : k = Xa t
 ·rw [if_pos hk]
  exact (decide_eq_true ⟨t, by simp, hk.symm⟩).symm
 ·rw [if_neg hk, h k, decide_eq_decide]
  constructor
  ·rintro ⟨u, hu, e⟩; exact ⟨u, by simp [hu], e⟩
  ·rintro ⟨u, hu, e⟩
   rcases List.mem_append.1 hu with h1 | h1
   ·exact ⟨u, h1, e⟩
   ·rw [List.mem_singleton.1 h1] at e
    exact absurd e.symm hk
theorem Agz {n : Nat} (hn : 0 < n) : ∀ r (xs : List Int), xs.length = r → F3 xs n → Eo n r (Rn n xs).toNat = xs := by
 intro r
 induction r with
 | zero => intro xs hl _; rw [List.length_eq_zero_iff.1 hl]; rfl
 | succ r ih =>
   intro xs hl hx
   obtain ⟨ys, y, rfl⟩ : ∃ ys y, xs = ys ++ [y] := ⟨xs.take r, nth xs r, by rw [← Di (by omega), List.take_of_length_le (by omega)]⟩
   have hy := hx y (by simp)
   have hys : F3 ys n := fun z hz => hx z (by simp [hz])
   have hyl : ys.length = r := by simpa using hl
   obtain ⟨c, h1, _⟩ := Sa r ys hyl hys
   obtain ⟨d, rfl⟩ := Int.eq_ofNat_of_zero_le hy.1
   have hd : d < n := by omega
   have e : (Rn n (ys ++ [(d : Int)])).toNat = c * n + d := by
    rw [Vi, h1, ← Int.natCast_mul, ← Int.natCast_add, Int.toNat_natCast]
   rw [e]
   simp only [Eo]
   rw [show (c * n + d) / n = c by rw [Nat.mul_comm, Nat.mul_add_div hn, Nat.div_eq_of_lt hd]; omega, show (c * n + d) % n = d by rw [Nat.mul_comm, Nat.mul_add_mod, Nat.mod_eq_of_lt hd]]
   have := ih ys hyl hys
   rw [h1, Int.toNat_natCast] at this
   rw [this]
theorem Ajr {n k : Nat} (B : Nat) (hB : B ≤ 1000000) (h : ∀ i, i ≤ k → n ^ i ≤ B) (hk : k ≤ 1000) : Cc n k = some ((n ^ k : Nat) : Int) := by
 unfold Cc
 have key := Bw (body := Cg n) (fun j => (((n ^ j : Nat) : Int), ((k : Int) - (j : Int)))) k ((n ^ k : Nat) : Int) (fun j hj => by
  unfold Cg
  dsimp only
  have hp := h (j + 1) (by omega)
  rw [Nat.pow_succ] at hp
  rw [if_pos (by omega), ← Int.natCast_mul, Nat.pow_succ]
  generalize n ^ j * n = N at hp ⊢
  rw [Af (by unfold InI; omega), Af (by unfold InI; omega), show ((k : Int) - (j : Int) - 1) = (k : Int) - ((j + 1 : Nat) : Int) by omega]) (by
  unfold Cg
  dsimp only
  rw [if_neg (by omega)])
 have key' : At (Cg n) (1, (k : Int)) = some ((n ^ k : Nat) : Int) := by simpa using key
 rw [key']; rfl
theorem Ap4 {n k : Nat} (B : Nat) (hB : B ≤ 1000000) (h : ∀ i, i ≤ k → n ^ i ≤ B) (hk : k ≤ 1000) : Cu n k = some ((n ^ k : Nat) : Int) := by
 unfold Cu
 have key := Bw (body := Cf n) (fun j => (((n ^ j : Nat) : Int), ((k : Int) - (j : Int)))) k ((n ^ k : Nat) : Int) (fun j hj => by
  unfold Cf
  dsimp only
  have hp := h (j + 1) (by omega)
  rw [Nat.pow_succ] at hp
  rw [if_pos (by omega), ← Int.natCast_mul, Nat.pow_succ]
  generalize n ^ j * n = N at hp ⊢
  rw [Af (by unfold InI; omega), Af (by unfold InI; omega), show ((k : Int) - (j : Int) - 1) = (k : Int) - ((j + 1 : Nat) : Int) by omega]) (by
  unfold Cf
  dsimp only
  rw [if_neg (by omega)])
 have key' : At (Cf n) (1, (k : Int)) = some ((n ^ k : Nat) : Int) := by simpa using key
 rw [key']; rfl
end Go.Proofs.Ytoaojijoefljaaa.Ax
namespace Go.Proofs.Ytoaojijoefljaaa.Ax
open Go Classical
def Rb (n P : Nat) (f : SOp) (ts : List (List Int)) : List Int := (List.range P).map fun x => nth f.Table (Rn n (ts.map fun t => nth t x)).toNat
def Ik (n k p : Nat) : List Int := (List.range (n ^ k)).map fun x => nth (Eo n k x) p
theorem X9 (n P : Nat) (f : SOp) (ts : List (List Int)) : (Rb n P f ts).length = P := by simp [Rb]
theorem Ri (n k p : Nat) : (Ik n k p).length = n ^ k := by simp [Ik]
theorem Aj7 {n P : Nat} {f : SOp} {ts : List (List Int)} {x : Nat} (hx : x < P) : nth (Rb n P f ts) x = nth f.Table (Rn n (ts.map fun t => nth t x)).toNat := by
 unfold Rb; rw [Ed _ (by simpa using hx), Rj hx]
theorem Ak9 {n k p x : Nat} (hx : x < n ^ k) : nth (Ik n k p) x = nth (Eo n k x) p := by
 unfold Ik; rw [Ed _ (by simpa using hx), Rj hx]
def Iq (n P : Nat) (t : List Int) : Prop := t.length = P ∧ F3 t n
theorem An5 {n k p : Nat} (hn : 0 < n) (hp : p < k) : Iq n (n ^ k) (Ik n k p) := by
 refine ⟨Ri _ _ _, fun v hv => ?_⟩
 obtain ⟨x, hx, rfl⟩ := List.mem_map.1 hv
 exact Ai2 hn k x _ (A5 (by rw [G4]; exact hp))
theorem Ya {n P : Nat} {ts : List (List Int)} (ht : ∀ t ∈ ts, Iq n P t) {x : Nat} (hx : x < P) : F3 (ts.map fun t => nth t x) n := by
 intro v hv
 obtain ⟨t, h1, rfl⟩ := List.mem_map.1 hv
 obtain ⟨h2, h3⟩ := ht t h1
 exact h3 _ (A5 (by omega))
theorem Anz {n P : Nat} {f : SOp} {ts : List (List Int)} (hf : I1 n f) (hl : ts.length = f.Arity.toNat) (ht : ∀ t ∈ ts, Iq n P t) : Iq n P (Rb n P f ts) := by
 refine ⟨X9 _ _ _ _, fun v hv => ?_⟩
 obtain ⟨x, hx, rfl⟩ := List.mem_map.1 hv
 have hx := List.mem_range.1 hx
 obtain ⟨c, h1, h2⟩ := Sa f.Arity.toNat _ (by simpa using hl) (Ya ht hx)
 rw [h1, Int.toNat_natCast]
 exact hf.2.2.2 _ (A5 (by rw [hf.2.2.1]; exact h2))
abbrev Clo := List (List Int) × List SCloneStep
noncomputable def L8 (s : Clo) (c : List Int × SCloneStep) : Clo := if c.1 ∈ s.1 then s else (s.1 ++ [c.1], s.2 ++ [c.2])
def C9 (n P : Nat) (f : SOp) (op : Nat) (T : List (List Int)) (old i : Nat) : List Int × SCloneStep :=
 (Rb n P f ((Eo old f.Arity.toNat i).map fun x => nth T x.toNat), { Op := op, Args := Eo old f.Arity.toNat i })
def Aef (n P : Nat) (f : SOp) (op : Nat) (T : List (List Int)) (old : Nat) : List (List Int × SCloneStep) := (List.range (old ^ f.Arity.toNat)).map (C9 n P f op T old)
def Gj (n P : Nat) (ops : List SOp) (T : List (List Int)) (old : Nat) : List (List Int × SCloneStep) := (List.range ops.length).flatMap fun op => Aef n P (nth ops op) op T old
noncomputable def Hh (s : Clo) (l : List (List Int × SCloneStep)) : Clo := l.foldl L8 s
theorem Amx (s : Clo) (l : List (List Int × SCloneStep)) (c : List Int × SCloneStep) : Hh s (l ++ [c]) = L8 (Hh s l) c := by simp [Hh]
theorem Ai5 (s : Clo) (l m : List (List Int × SCloneStep)) : Hh s (l ++ m) = Hh (Hh s l) m := by simp [Hh]
theorem Zq (s : Clo) (c : List Int × SCloneStep) : ∃ a, (L8 s c).1 = s.1 ++ a := by
 unfold L8; split
 ·exact ⟨[], by simp⟩
 ·exact ⟨[c.1], rfl⟩
theorem J4 (l : List (List Int × SCloneStep)) : ∀ s : Clo, ∃ a, (Hh s l).1 = s.1 ++ a := by
 induction l with
 | nil => intro s; exact ⟨[], by simp [Hh]⟩
 | cons c l ih =>
   intro s
   obtain ⟨a, ha⟩ := Zq s c
   obtain ⟨b, hb⟩ := ih (L8 s c)
   exact ⟨a ++ b, by show (Hh (L8 s c) l).1 = _; rw [hb, ha, List.append_assoc]⟩
theorem Agn (l : List (List Int × SCloneStep)) (s : Clo) : s.1.length ≤ (Hh s l).1.length := by
 obtain ⟨a, ha⟩ := J4 l s
 rw [ha, List.length_append]; omega
theorem Aqg (s : Clo) (c : List Int × SCloneStep) : c.1 ∈ (L8 s c).1 := by
 unfold L8; split
 ·assumption
 ·simp
theorem Apl (l : List (List Int × SCloneStep)) (s : Clo) {t : List Int} (h : t ∈ s.1) : t ∈ (Hh s l).1 := by
 obtain ⟨a, ha⟩ := J4 l s
 rw [ha]; exact List.mem_append_left _ h
theorem Vo (l : List (List Int × SCloneStep)) : ∀ (s : Clo), ∀ c ∈ l, c.1 ∈ (Hh s l).1 := by
 induction l with
 | nil => intro s c hc; cases hc
 | cons d l ih =>
   intro s c hc
   rcases List.mem_cons.1 hc with rfl | h
   ·exact Apl l (L8 s c) (Aqg s c)
   ·exact ih (L8 s d) c h
def Akt (n k : Nat) (ops : List SOp) (T : List (List Int)) (i : Nat) (s : SCloneStep) (t : List Int) : Prop :=
 (s.Op = -1 ∧ ∃ p : Nat, p < k ∧ s.Args = [(p : Int)] ∧ t = Ik n k p) ∨
 (∃ op : Nat, op < ops.length ∧ s.Op = op ∧ s.Args.length = (nth ops op).Arity.toNat ∧ F3 s.Args i ∧ t = Rb n (n ^ k) (nth ops op) (s.Args.map fun x => nth T x.toNat))
structure InvC (n k : Nat) (ops : List SOp) (s : Clo) : Prop where
 tabs : ∀ t ∈ s.1, Iq n (n ^ k) t
 nodup : s.1.Nodup
 len : s.2.length = s.1.length
 steps : ∀ i, i < s.1.length → Akt n k ops s.1 i (nth s.2 i) (nth s.1 i)
theorem Abl {n k : Nat} {ops : List SOp} {T T' : List (List Int)} {i : Nat} {s : SCloneStep} {t : List Int} (h : Akt n k ops T i s t) (hT : ∀ j, j < i → nth T j = nth T' j) : Akt n k ops T' i s t := by
 rcases h with h | ⟨op, h1, h2, h3, h4, h5⟩
 ·exact .inl h
 ·refine .inr ⟨op, h1, h2, h3, h4, ?_⟩
  rw [h5]
  congr 1
  refine List.map_congr_left fun x hx => ?_
  have := h4 x hx
  exact hT _ (by omega)
theorem InvC.add {n k : Nat} {ops : List SOp} {s : Clo} (h : InvC n k ops s) {c : List Int × SCloneStep} (hc : Iq n (n ^ k) c.1) (hs : Akt n k ops s.1 s.1.length c.2 c.1) : InvC n k ops (L8 s c) := by
 unfold L8
 split
 ·exact h
 rename_i hm
 refine ⟨fun t ht => ?_, ?_, by simp [h.len], fun i hi => ?_⟩
 ·rcases List.mem_append.1 ht with h1 | h1
  ·exact h.tabs t h1
  ·rw [List.mem_singleton.1 h1]; exact hc
 ·rw [List.nodup_append]
  refine ⟨h.nodup, by simp, fun a ha b hb => ?_⟩
  rw [List.mem_singleton.1 hb]
  rintro rfl; exact hm ha
 ·dsimp only at hi ⊢
  by_cases hl : i < s.1.length
  ·rw [C0 (by rw [h.len]; exact hl), C0 hl]
   exact Abl (h.steps i hl) fun j hj => (C0 (by omega)).symm
  ·have e : i = s.1.length := by simp at hi; omega
   subst e
   rw [U8]
   conv => rw [← h.len, U8, h.len]
   exact Abl hs fun j hj => (C0 hj).symm
theorem L4 {old r i : Nat} (hi : i < old ^ r) : F3 (Eo old r i) old := by
 by_cases h0 : 0 < old
 ·exact Ai2 h0 r i
 ·have : old = 0 := by omega
  subst this
  cases r with
  | zero => intro x hx; cases hx
  | succ r => simp at hi
theorem Amf {n k : Nat} {ops : List SOp} (hops : ∀ f ∈ ops, I1 n f) {T : List (List Int)} {old : Nat} (hT : ∀ j, j < old → Iq n (n ^ k) (nth T j)) {op i L : Nat} (hop : op < ops.length) (hi : i < old ^ (nth ops op).Arity.toNat) (hL : old ≤ L) {T' : List (List Int)} (hTT : ∀ j, j < old → nth T' j = nth T j) :
  Iq n (n ^ k) (C9 n (n ^ k) (nth ops op) op T old i).1 ∧ Akt n k ops T' L (C9 n (n ^ k) (nth ops op) op T old i).2 (C9 n (n ^ k) (nth ops op) op T old i).1 := by
 have ha := L4 hi
 constructor
 ·refine Anz (hops _ (A5 hop)) (by simp [G4]) fun t ht => ?_
  obtain ⟨x, hx, rfl⟩ := List.mem_map.1 ht
  have := ha x hx
  exact hT _ (by omega)
 ·refine .inr ⟨op, hop, rfl, G4 _ _ _, fun x hx => by have := ha x hx; omega, ?_⟩
  unfold C9
  dsimp only
  congr 1
  refine List.map_congr_left fun x hx => ?_
  have := ha x hx
  exact (hTT _ (by omega)).symm
theorem Sd {n P : Nat} {ops : List SOp} {T T' : List (List Int)} {old : Nat} (h : ∀ j, j < old → nth T j = nth T' j) : Gj n P ops T old = Gj n P ops T' old := by
 unfold Gj
 refine congrArg (fun g => List.flatMap g (List.range ops.length)) ?_
 funext op
 unfold Aef
 refine List.map_congr_left fun i hi => ?_
 have ha := L4 (List.mem_range.1 hi)
 unfold C9
 congr 2
 refine List.map_congr_left fun x hx => ?_
 have := ha x hx
 exact h _ (by omega)
theorem Ry {n P : Nat} {ops : List SOp} {T : List (List Int)} {old : Nat} {c : List Int × SCloneStep} : c ∈ Gj n P ops T old ↔ ∃ op, op < ops.length ∧ ∃ i, i < old ^ (nth ops op).Arity.toNat ∧ c = C9 n P (nth ops op) op T old i := by
 unfold Gj Aef
 rw [List.mem_flatMap]
 constructor
 ·rintro ⟨op, h1, h2⟩
  obtain ⟨i, h3, rfl⟩ := List.mem_map.1 h2
  exact ⟨op, List.mem_range.1 h1, i, List.mem_range.1 h3, rfl⟩
 ·rintro ⟨op, h1, i, h3, rfl⟩
  exact ⟨op, List.mem_range.2 h1, List.mem_map.2 ⟨i, List.mem_range.2 h3, rfl⟩⟩
theorem InvC.adds {n k : Nat} {ops : List SOp} (hops : ∀ f ∈ ops, I1 n f) {T : List (List Int)} {old : Nat} (hT : ∀ j, j < old → Iq n (n ^ k) (nth T j)) : ∀ (l : List (List Int × SCloneStep)) {s : Clo}, InvC n k ops s → old ≤ s.1.length → (∀ j, j < old → nth s.1 j = nth T j) → (∀ c ∈ l, c ∈ Gj n (n ^ k) ops T old) → InvC n k ops (Hh s l) := by
 intro l
 induction l with
 | nil => intro s h _ _ _; exact h
 | cons c l ih =>
   intro s h hl hj hc
   obtain ⟨op, h1, i, h2, rfl⟩ := Ry.1 (hc c (by simp))
   obtain ⟨c1, c2⟩ := Amf hops hT h1 h2 hl hj
   obtain ⟨a, ha⟩ := Zq s (C9 n (n ^ k) (nth ops op) op T old i)
   refine ih (h.add c1 c2) (by rw [ha, List.length_append]; omega) (fun j hj' => ?_) (fun d hd => hc d (by simp [hd]))
   rw [ha, C0 (by omega)]
   exact hj j hj'
noncomputable def Gr (n P : Nat) (ops : List SOp) (s : Clo) : Clo := Hh s (Gj n P ops s.1 s.1.length)
noncomputable def Qa (n P : Nat) (ops : List SOp) : Nat → Nat → Clo → Option Clo
 | 0, _, _ => none
 | m + 1, old, s => if old < s.1.length then (if (Gr n P ops s).1.length > 60 then none else Qa n P ops m s.1.length (Gr n P ops s)) else some s
noncomputable def E4 (n k : Nat) : Clo := Hh ([], []) ((List.range k).map fun p => (Ik n k p, { Op := -1, Args := [(p : Int)] }))
noncomputable def Aia (n k : Nat) (ops : List SOp) : Option Clo := Qa n (n ^ k) ops 70 0 (E4 n k)
def Ado (n k : Nat) (ops : List SOp) (T : List (List Int)) : Prop := ∀ op, op < ops.length → ∀ qs : List (List Int), qs.length = (nth ops op).Arity.toNat → (∀ t ∈ qs, t ∈ T) → Rb n (n ^ k) (nth ops op) qs ∈ T
theorem Akz {n k : Nat} {ops : List SOp} {T : List (List Int)} (h : ∀ c ∈ Gj n (n ^ k) ops T T.length, c.1 ∈ T) : Ado n k ops T := by
 intro op hop qs hl has
 have hidx : ∃ xs : List Int, xs.length = qs.length ∧ F3 xs T.length ∧ xs.map (fun x => nth T x.toNat) = qs := by
  clear hl
  induction qs with
  | nil => exact ⟨[], rfl, nofun, rfl⟩
  | cons a qs ih =>
    obtain ⟨xs, h1, h2, h3⟩ := ih fun t ht => has t (by simp [ht])
    obtain ⟨i, hi, e⟩ := Sf.1 (has a (by simp))
    refine ⟨(i : Int) :: xs, by simp [h1], fun x hx => ?_, by simp [h3, e]⟩
    rcases List.mem_cons.1 hx with rfl | hx
    ·omega
    ·exact h2 x hx
 obtain ⟨xs, h1, h2, h3⟩ := hidx
 have hi : ∃ i, i < T.length ^ (nth ops op).Arity.toNat ∧ Eo T.length (nth ops op).Arity.toNat i = xs := by
  obtain ⟨c, c1, c2⟩ := Sa (m := T.length) (nth ops op).Arity.toNat xs (by omega) h2
  refine ⟨c, c2, ?_⟩
  by_cases h0 : 0 < T.length
  ·have := Agz h0 (nth ops op).Arity.toNat xs (by omega) h2
   rwa [c1, Int.toNat_natCast] at this
  ·have e : T.length = 0 := by omega
   cases xs with
   | nil => rw [show (nth ops op).Arity.toNat = 0 by simp at h1; omega]; rfl
   | cons x xs => have := h2 x (by simp); omega
 obtain ⟨i, hi, e⟩ := hi
 have := h _ (Ry.2 ⟨op, hop, i, hi, rfl⟩)
 unfold C9 at this
 dsimp only at this
 rw [e, h3] at this
 exact this
theorem Aor {n k : Nat} {ops : List SOp} (hops : ∀ f ∈ ops, I1 n f) : ∀ (m old : Nat) (s S : Clo), InvC n k ops s → old ≤ s.1.length → s.1.length ≤ 60 → (∀ c ∈ Gj n (n ^ k) ops s.1 old, c.1 ∈ s.1) → Qa n (n ^ k) ops m old s = some S →
  InvC n k ops S ∧ S.1.length ≤ 60 ∧ Ado n k ops S.1 ∧ ∃ a, S.1 = s.1 ++ a := by
 intro m
 induction m with
 | zero => intro old s S _ _ _ _ h; cases h
 | succ m ih =>
   intro old s S h hl h60 hc hr
   unfold Qa at hr
   by_cases ho : old < s.1.length
   ·rw [if_pos ho] at hr
    by_cases h6 : (Gr n (n ^ k) ops s).1.length > 60
    ·rw [if_pos h6] at hr; cases hr
    ·rw [if_neg h6] at hr
     have hT : ∀ j, j < s.1.length → Iq n (n ^ k) (nth s.1 j) := fun j hj => h.tabs _ (A5 hj)
     obtain ⟨a, ha⟩ := J4 (Gj n (n ^ k) ops s.1 s.1.length) s
     have ha' : (Gr n (n ^ k) ops s).1 = s.1 ++ a := ha
     obtain ⟨r1, r2, r3, b, r4⟩ := ih s.1.length (Gr n (n ^ k) ops s) S (InvC.adds hops hT _ h (Nat.le_refl _) (fun _ _ => rfl) fun _ hx => hx) (by rw [ha', List.length_append]; omega) (by omega) (by
      rw [ha', ← Sd (T := s.1) fun j hj => (C0 hj).symm, ← ha]
      exact fun c hc => Vo _ s c hc) hr
     exact ⟨r1, r2, r3, a ++ b, by rw [r4, ha', List.append_assoc]⟩
   ·rw [if_neg ho] at hr
    cases hr
    refine ⟨h, h60, Akz ?_, [], by simp⟩
    rw [show s.1.length = old by omega]
    exact hc
theorem Adk (n k : Nat) (ops : List SOp) : InvC n k ops ([], []) := ⟨nofun, List.nodup_nil, rfl, nofun⟩
def Xn (n k p : Nat) : List Int × SCloneStep := (Ik n k p, { Op := -1, Args := [(p : Int)] })
theorem P0 (l : List (List Int × SCloneStep)) : ∀ s : Clo, (Hh s l).1.length ≤ s.1.length + l.length := by
 induction l with
 | nil => intro s; simp [Hh]
 | cons c l ih =>
   intro s
   have h1 : (L8 s c).1.length ≤ s.1.length + 1 := by
    unfold L8; split
    ·omega
    ·simp
   have := ih (L8 s c)
   show (Hh (L8 s c) l).1.length ≤ _
   simp only [List.length_cons]; omega
theorem Z4 {n k : Nat} (hn : 0 < n) (ops : List SOp) : ∀ (l : List (List Int × SCloneStep)) {s : Clo}, InvC n k ops s → (∀ c ∈ l, ∃ p, p < k ∧ c = Xn n k p) → InvC n k ops (Hh s l) := by
 intro l
 induction l with
 | nil => intro s h _; exact h
 | cons c l ih =>
   intro s h hc
   obtain ⟨p, hp, rfl⟩ := hc c (by simp)
   exact ih (h.add (An5 hn hp) (.inl ⟨rfl, p, hp, rfl, rfl⟩)) fun d hd => hc d (by simp [hd])
theorem Aao {n k : Nat} (hn : 0 < n) (ops : List SOp) : InvC n k ops (E4 n k) :=
 Z4 hn ops _ (Adk n k ops) fun c hc => by
  obtain ⟨p, hp, rfl⟩ := List.mem_map.1 hc
  exact ⟨p, List.mem_range.1 hp, rfl⟩
theorem Vk {n k p : Nat} (hp : p < k) : Ik n k p ∈ (E4 n k).1 :=
 Vo _ ([], []) (Xn n k p) (List.mem_map.2 ⟨p, List.mem_range.2 hp, rfl⟩)
theorem Aan (n k : Nat) : (E4 n k).1.length ≤ k := by
 have := P0 ((List.range k).map fun p => (Ik n k p, ({ Op := -1, Args := [(p : Int)] } : SCloneStep))) ([], [])
 simpa [E4] using this
structure CloC (n k : Nat) (ops : List SOp) (S : Clo) : Prop where
 inv : InvC n k ops S
 le : S.1.length ≤ 60
 closed : Ado n k ops S.1
 prj : ∀ p, p < k → Ik n k p ∈ S.1
theorem Apk {n k : Nat} (hn : 0 < n) (h1 : 1 ≤ k) {ops : List SOp} (hops : ∀ f ∈ ops, I1 n f) {S : Clo} (h : Aia n k ops = some S) : CloC n k ops S := by
 have hI := Aao (k := k) hn ops
 have hl := Aan n k
 have h0 : 0 < (E4 n k).1.length := List.length_pos_of_mem (Vk h1)
 unfold Aia at h
 have h' := h
 unfold Qa at h
 rw [if_pos h0] at h
 by_cases h6 : (Gr n (n ^ k) ops (E4 n k)).1.length > 60
 ·rw [if_pos h6] at h; cases h
 rw [if_neg h6] at h
 have hT : ∀ j, j < (E4 n k).1.length → Iq n (n ^ k) (nth (E4 n k).1 j) := fun j hj => hI.tabs _ (A5 hj)
 obtain ⟨a, ha⟩ := J4 (Gj n (n ^ k) ops (E4 n k).1 (E4 n k).1.length) (E4 n k)
 have ha' : (Gr n (n ^ k) ops (E4 n k)).1 = (E4 n k).1 ++ a := ha
 obtain ⟨r1, r2, r3, b, r4⟩ := Aor hops 69 (E4 n k).1.length (Gr n (n ^ k) ops (E4 n k)) S (InvC.adds hops hT _ hI (Nat.le_refl _) (fun _ _ => rfl) fun _ hx => hx) (by rw [ha', List.length_append]; omega) (by omega) (by
  rw [ha', ← Sd (T := (E4 n k).1) fun j hj => (C0 hj).symm, ← ha]
  exact fun c hc => Vo _ _ c hc) h
 refine ⟨r1, r2, r3, fun p hp => ?_⟩
 rw [r4, ha', List.append_assoc]
 exact List.mem_append_left _ (Vk hp)
end Go.Proofs.Ytoaojijoefljaaa.Ax
namespace Go.Proofs.Ytoaojijoefljaaa.Ax
open Go Classical
structure Perm (f : List Int) (n : Nat) : Prop where
 len : f.length = n
 fin : F3 f n
 un : uniq f
theorem Perm.count {f : List Int} {n : Nat} (h : Perm f n) : ∀ i, i ≤ n → (Q5 n fun z => decide ((z : Int) ∈ f.take i)).length = i := by
 intro i
 induction i with
 | zero =>
   intro _
   rw [List.length_eq_zero_iff]
   exact Apj.2 fun z _ => by simp
 | succ i ih =>
   intro hi
   have hil : i < f.length := by rw [h.len]; exact hi
   have hv := h.fin _ (A5 hil)
   have hu := h.un i hil
   have hc : nth f i = (((nth f i).toNat : Nat) : Int) := by omega
   have := Ape (q := fun z => decide ((z : Int) ∈ f.take i)) (q' := fun z => decide ((z : Int) ∈ f.take (i + 1))) (x := (nth f i).toNat) (decide_eq_false (by rw [← hc]; exact hu)) (fun z => by
    rw [Di hil, Bool.eq_iff_iff]
    simp only [decide_eq_true_eq, List.mem_append, List.mem_singleton, Bool.or_eq_true]
    constructor
    ·rintro (h1 | h1)
     ·exact .inl h1
     ·exact .inr (by omega)
    ·rintro (h1 | h1)
     ·exact .inl h1
     ·exact .inr (by omega)) n
   rw [this, ih (by omega), if_pos (by omega)]
section
variable {a : SAlgebra} {f : List Int} {n : Nat}
end
end Go.Proofs.Ytoaojijoefljaaa.Ax
namespace Go.Proofs.Ytoaojijoefljaaa.Ax
open Go Classical
theorem Ami {xs : List Int} (h : xs.length ≤ LIM) : Gv xs = some xs := by
 unfold Gv
 rw [Af (by show 0 + xs.length ≤ _; omega)]; rfl
section
variable {a b : SAlgebra} {f : List Int} {n m : Nat}
end
section
variable {a b : SAlgebra} {f : List Int}
end
section
variable {a b c : SAlgebra} {f g : List Int}
end
section
variable {a b : SAlgebra} {f : List Int}
end
end Go.Proofs.Ytoaojijoefljaaa.Ax
namespace Go.Proofs.Ytoaojijoefljaaa.Ax
open Go Classical
theorem Asz {n : Nat} (hn : 0 < n) : ∀ (r k : Nat) (xs : List Int), r ≤ xs.length → xs.length ≤ 1000 → k ≤ 1048576 → At (D2 n) ((r : Int) - 1, xs, (k : Int)) = some (Eo n r k ++ xs.drop r) := by
 intro r
 induction r with
 | zero =>
   intro k xs _ _ _
   refine En ?_
   unfold D2
   dsimp only
   rw [if_neg (by omega)]
   simp [Eo]
 | succ r ih =>
   intro k xs hr hl hk
   have c1 : (k : Int).tdiv (n : Int) = ((k / n : Nat) : Int) := rfl
   have c2 : (k : Int).tmod (n : Int) = ((k % n : Nat) : Int) := rfl
   have hd : k / n ≤ k := Nat.div_le_self k n
   have step : D2 n (((r + 1 : Nat) : Int) - 1, xs, (k : Int)) = some (.inl ((r : Int) - 1, xs.set r ((k % n : Nat) : Int), ((k / n : Nat) : Int))) := by
    unfold D2
    dsimp only
    rw [show (((r + 1 : Nat) : Int) - 1) = (r : Int) by omega, c1, c2]
    generalize k / n = kd at hd
    rw [if_pos (by omega), Af (by omega), Af (by omega), Af (by unfold InI; omega), Af (by unfold InI; omega), Int.toNat_natCast]
   rw [Lv step, ih _ _ (by rw [List.length_set]; omega) (by rw [List.length_set]; exact hl) (by omega)]
   congr 1
   simp only [Eo]
   rw [List.append_assoc]
   congr 1
   have e : (xs.set r ((k % n : Nat) : Int)).drop r = ((k % n : Nat) : Int) :: xs.drop (r + 1) := by
    refine List.ext_getElem (by simp; omega) fun i h1 h2 => ?_
    rw [List.getElem_drop, List.getElem_set]
    cases i with
    | zero => simp
    | succ i =>
      rw [if_neg (by omega), List.getElem_cons_succ, List.getElem_drop]
      congr 1; omega
   rw [e]; rfl
theorem Zx {n r k : Nat} (hn : 0 < n) (hr : r ≤ 100) (hk : k ≤ 1048576) : F2 n r k = some (Eo n r k) := by
 unfold F2
 rw [Af (by rw [Bs]; omega), Af (by unfold InI; omega), Int.toNat_natCast, Asz hn r k _ (by simp) (by simp; omega) hk]
 simp
theorem Aaq {n r k : Nat} (hn : 0 < n) (hr : r ≤ 100) (hk : k ≤ 1048576) : F4 k r n = some (Eo n r k) := by
 have : F4 (k : Int) (r : Int) (n : Int) = F2 (n : Int) (r : Int) (k : Int) := rfl
 rw [this]; exact Zx hn hr hk
section
variable {n P : Nat} {f : SOp} {ts : List (List Int)}
theorem Mx (hn : n ≤ 8) (hf : I1 n f) (hl : ts.length = f.Arity.toNat) (ht : ∀ t ∈ ts, Iq n P t) (hP : P ≤ 1000) : Cn n f ts P = some (Rb n P f ts) := by
 have hL := Bs
 have hf3 := hf.2.1
 have hts : ts.length ≤ 3 := by omega
 have hcl := X9 n P f ts
 unfold Cn
 rw [Af (by omega)]
 have inner : ∀ (x : Nat) (b : List Int), x < P → At (B6 n f ts P x b) (0, 0) = some (Rn n (ts.map fun t => nth t x)) := by
  intro x b hx
  have hin := Ya ht hx
  have key := Bw (body := B6 n f ts P x b) (fun i => ((i : Int), Rn n ((ts.map fun t => nth t x).take i))) ts.length (Rn n (ts.map fun t => nth t x)) (fun i hi => by
   have htl := (ht _ (A5 hi)).1
   obtain ⟨h1, h2⟩ := Agf hn (xs := ts.map fun t => nth t x) (by simpa using hts) hin (i := i) (by simpa using hi)
   have hv : nth (ts.map fun t => nth t x) i = nth (nth ts i) x := Ed _ hi
   rw [hv] at h2
   unfold B6
   dsimp only
   rw [if_pos (by omega), Af (by omega), Af h1, Int.toNat_natCast, Af (by omega), Int.toNat_natCast, Af h2, Af (by unfold InI; omega), Agx (by simpa using hi), hv]
   rfl) (by
   unfold B6
   dsimp only
   rw [if_neg (by omega), List.take_of_length_le (by simp)])
  exact key
 have key := Bw (body := B7 n f ts P) (fun i => ((i : Int), (Rb n P f ts).take i ++ List.replicate (P - i) 0)) P (Rb n P f ts) (fun i hi => by
  have hin := Ya ht hi
  obtain ⟨c, c1, c2⟩ := Sa f.Arity.toNat _ (by simpa using hl) hin
  rw [← hf.2.2.1] at c2
  have e : (Rb n P f ts).take (i + 1) = (Rb n P f ts).take i ++ [nth f.Table c] := by
   rw [Di (by omega), Aj7 hi, c1, Int.toNat_natCast]
  unfold B7
  dsimp only
  rw [if_pos (by omega), inner i _ hi, c1]
  simp only [Option.bind_some]
  rw [Af (by omega), Af (by simp; omega), Af (by unfold InI; omega)]
  simp only [Int.toNat_natCast]
  rw [An2 _ _ _ hi (by simp; omega), ← e]
  rfl) (by
  unfold B7
  dsimp only
  rw [if_neg (by omega), List.take_of_length_le (by omega)]
  simp)
 simp only [List.take_zero, List.nil_append, Nat.sub_zero] at key
 simp only [Int.toNat_natCast]
 have key' : At (B7 n f ts P) (0, List.replicate P 0) = _ := key
 rw [key']; rfl
theorem Ahu (hn : n ≤ 8) (hf : I1 n f) (hl : ts.length = f.Arity.toNat) (ht : ∀ t ∈ ts, Iq n P t) (hP : P ≤ 1000) : Fq n f ts P = some (Rb n P f ts) := by
 have hL := Bs
 have hf3 := hf.2.1
 have hts : ts.length ≤ 3 := by omega
 have hcl := X9 n P f ts
 unfold Fq
 have inner : ∀ (x : Nat) (b : List Int), x < P → At (Cp n f ts P x b) (0, 0) = some (Rn n (ts.map fun t => nth t x)) := by
  intro x b hx
  have hin := Ya ht hx
  have key := Bw (body := Cp n f ts P x b) (fun i => ((i : Int), Rn n ((ts.map fun t => nth t x).take i))) ts.length (Rn n (ts.map fun t => nth t x)) (fun i hi => by
   have htl := (ht _ (A5 hi)).1
   obtain ⟨h1, h2⟩ := Agf hn (xs := ts.map fun t => nth t x) (by simpa using hts) hin (i := i) (by simpa using hi)
   have hv : nth (ts.map fun t => nth t x) i = nth (nth ts i) x := Ed _ hi
   rw [hv] at h2
   unfold Cp
   dsimp only
   rw [if_pos (by omega), Af h1, Af (by omega), Int.toNat_natCast, Af (by omega), Int.toNat_natCast, Af h2, Af (by unfold InI; omega), Agx (by simpa using hi), hv]
   rfl) (by
   unfold Cp
   dsimp only
   rw [if_neg (by omega), List.take_of_length_le (by simp)])
  exact key
 have key := Bw (body := Cj n f ts P) (fun i => ((i : Int), (Rb n P f ts).take i)) P (Rb n P f ts) (fun i hi => by
  have hin := Ya ht hi
  obtain ⟨c, c1, c2⟩ := Sa f.Arity.toNat _ (by simpa using hl) hin
  rw [← hf.2.2.1] at c2
  have e : (Rb n P f ts).take (i + 1) = (Rb n P f ts).take i ++ [nth f.Table c] := by
   rw [Di (by omega), Aj7 hi, c1, Int.toNat_natCast]
  unfold Cj
  dsimp only
  rw [if_pos (by omega), inner i _ hi, c1]
  simp only [Option.bind_some]
  rw [Af (by omega), Af (by simp only [List.length_take, List.length_cons, List.length_nil]; omega), Af (by unfold InI; omega)]
  simp only [Int.toNat_natCast]
  rw [← e]
  rfl) (by
  unfold Cj
  dsimp only
  rw [if_neg (by omega), List.take_of_length_le (by omega)])
 have key' : At (Cj n f ts P) (0, Ar Int) = _ := key
 rw [key']; rfl
end
theorem Sj {n k p : Nat} (hn1 : 0 < n) (hn : n ≤ 8) (hk : k ≤ 3) (hp : p < k) : Dh n k p = some (Ik n k p) := by
 have hL := Bs
 have hpw := N8 hn hk
 have hcl := Ri n k p
 unfold Dh
 rw [Vj hn hk]
 simp only [Option.bind_some]
 rw [Af (by omega)]
 have key := Bw (body := Ck n k p ((n ^ k : Nat) : Int)) (fun i => ((i : Int), (Ik n k p).take i ++ List.replicate (n ^ k - i) 0)) (n ^ k) (Ik n k p) (fun i hi => by
  have hal := G4 n k i
  have e : (Ik n k p).take (i + 1) = (Ik n k p).take i ++ [nth (Eo n k i) p] := by
   rw [Di (by omega), Ak9 hi]
  unfold Ck
  dsimp only
  rw [if_pos (by omega), Aaq hn1 (by omega) (by omega)]
  simp only [Option.bind_some]
  rw [Af (by omega), Af (by simp; omega), Af (by unfold InI; omega)]
  simp only [Int.toNat_natCast]
  rw [An2 _ _ _ hi (by simp; omega), ← e]
  rfl) (by
  unfold Ck
  dsimp only
  rw [if_neg (by omega), List.take_of_length_le (by omega)]
  simp)
 simp only [List.take_zero, List.nil_append, Nat.sub_zero] at key
 simp only [Int.toNat_natCast]
 have key' : At (Ck n k p ((n ^ k : Nat) : Int)) (0, List.replicate (n ^ k) 0) = _ := key
 rw [key']; rfl
theorem S5 {n k p : Nat} (hn1 : 0 < n) (hn : n ≤ 8) (hk : k ≤ 3) (hp : p < k) : C8 n k p = some (Ik n k p) := by
 have hL := Bs
 have hpw := N8 hn hk
 have hcl := Ri n k p
 unfold C8
 have key := Bw (body := B5 n k p) (fun i => ((i : Int), (Ik n k p).take i)) (n ^ k) (Ik n k p) (fun i hi => by
  have hal := G4 n k i
  have e : (Ik n k p).take (i + 1) = (Ik n k p).take i ++ [nth (Eo n k i) p] := by
   rw [Di (by omega), Ak9 hi]
  unfold B5
  dsimp only
  rw [Vh hn hk]
  simp only [Option.bind_some]
  rw [if_pos (by omega), Zx hn1 (by omega) (by omega)]
  simp only [Option.bind_some]
  rw [Af (by omega), Af (by simp only [List.length_take, List.length_cons, List.length_nil]; omega), Af (by unfold InI; omega)]
  simp only [Int.toNat_natCast]
  rw [← e]
  rfl) (by
  unfold B5
  dsimp only
  rw [Vh hn hk]
  simp only [Option.bind_some]
  rw [if_neg (by omega), List.take_of_length_le (by omega)])
 have key' : At (B5 n k p) (0, Ar Int) = _ := key
 rw [key']; rfl
theorem Ak0 {xs : List Int} (h : xs.length ≤ LIM) : Im xs = some xs := by
 unfold Im
 rw [Af (by simpa using h)]
 simp
theorem Uc {T : List (List Int)} {t : List Int} (hT : T.length ≤ 1048576) (hr : ∀ u ∈ T, u.length ≤ LIM) : (t ∉ T ∧ Cy T t = some (-1)) ∨ ∃ i, i < T.length ∧ nth T i = t ∧ (∀ j, j < i → nth T j ≠ t) ∧ Cy T t = some (i : Int) := by
 have step : ∀ i, i < T.length → Bn T t (i : Int) = if nth T i = t then some (.inr (.inl (i : Int))) else some (.inl ((i + 1 : Nat) : Int)) := by
  intro i hi
  unfold Bn
  rw [if_pos (by omega), Af (by omega), Int.toNat_natCast, Aq3 (hr _ (A5 hi))]
  simp only [Option.bind_some, decide_eq_true_eq]
  split
  ·rfl
  ·rw [Af (by unfold InI; omega)]; rfl
 have stop : Bn T t (T.length : Int) = some (.inr (.inr ())) := by
  unfold Bn
  rw [if_neg (by omega)]
 unfold Cy
 by_cases h : ∃ i, i < T.length ∧ nth T i = t
 ·right
  obtain ⟨i, h1, h2, h3⟩ : ∃ i, i < T.length ∧ nth T i = t ∧ ∀ j, j < i → nth T j ≠ t := by
   have key : ∀ m i, i ≤ m → i < T.length → nth T i = t → ∃ i, i < T.length ∧ nth T i = t ∧ ∀ j, j < i → nth T j ≠ t := by
    intro m
    induction m with
    | zero => intro i hm h1 h2; exact ⟨i, h1, h2, fun j hj => by omega⟩
    | succ m ih =>
      intro i hm h1 h2
      by_cases hy : ∃ j, j < i ∧ nth T j = t
      ·obtain ⟨j, k1, k2⟩ := hy
       exact ih j (by omega) (by omega) k2
      ·exact ⟨i, h1, h2, fun j k1 k2 => hy ⟨j, k1, k2⟩⟩
   obtain ⟨i, h1, h2⟩ := h
   exact key i i (Nat.le_refl _) h1 h2
  refine ⟨i, h1, h2, h3, ?_⟩
  have key := Vg (body := Bn T t) (fun i => (i : Int)) 0 i (.inl (i : Int)) (Nat.zero_le _) (fun j _ hj => by rw [step j (by omega), if_neg (h3 j hj)]) (by rw [step i h1, if_pos h2])
  have key' : At (Bn T t) 0 = _ := key
  rw [key']; rfl
 ·left
  refine ⟨fun hm => ?_, ?_⟩
  ·obtain ⟨i, h1, h2⟩ := Sf.1 hm
   exact h ⟨i, h1, h2⟩
  ·have key := Bw (body := Bn T t) (fun i => (i : Int)) T.length (.inr ()) (fun j hj => by rw [step j hj, if_neg (fun e => h ⟨j, hj, e⟩)]) stop
   have key' : At (Bn T t) 0 = _ := key
   rw [key']; rfl
def fnd (s : Clo) (S : List (ByteArray × Bool)) : Sfound := { tables := s.1, steps := s.2, seen := S }
theorem Aam {n P : Nat} (hn : n ≤ 8) {t : List Int} (h : Iq n P t) : ∀ x ∈ t, 0 ≤ x ∧ x < 65536 := fun x hx => by have := h.2 x hx; omega
theorem Abr {n P : Nat} (hn : n ≤ 8) (hP : P ≤ 1000) {s : Clo} {S : List (ByteArray × Bool)} (hS : So S s.1) (hT : ∀ t ∈ s.1, Iq n P t) (hl : s.1.length ≤ 1000) (hl2 : s.2.length ≤ 1000) {t : List Int} (ht : Iq n P t) {op : Int} {qs : List Int} (ha : qs.length ≤ 1000) :
  ∃ S', Dc (fnd s S) t op qs = some ((), fnd (L8 s (t, { Op := op, Args := qs })) S') ∧ So S' (L8 s (t, { Op := op, Args := qs })).1 := by
 have hL := Bs
 have hiff : (∃ u ∈ s.1, Xa u = Xa t) ↔ t ∈ s.1 := by
  constructor
  ·rintro ⟨u, hu, e⟩
   rwa [← Ak6 (Aam hn (hT u hu)) (Aam hn ht) e]
  ·exact fun h => ⟨t, h, rfl⟩
 have h1 := hS (Xa t)
 have e0 : Dc (fnd s S) t op qs = Dc { tables := s.1, steps := s.2, seen := S } t op qs := rfl
 rw [e0]
 unfold Dc
 rw [X4 (by have := ht.1; omega)]
 simp only [Option.bind_some]
 by_cases hm : t ∈ s.1
 ·have ea : L8 s (t, { Op := op, Args := qs }) = s := if_pos hm
  have h2 : (Dr S (Xa t)).getD false = true := by rw [h1]; exact decide_eq_true (hiff.2 hm)
  rw [ea, if_pos h2]
  exact ⟨S, rfl, hS⟩
 ·have ea : L8 s (t, { Op := op, Args := qs }) = (s.1 ++ [t], s.2 ++ [{ Op := op, Args := qs }]) := if_neg hm
  have h2 : ¬ (Dr S (Xa t)).getD false = true := by rw [h1, decide_eq_false fun h1 => hm (hiff.1 h1)]; simp
  rw [ea, if_neg h2, Af (by simp only [List.length_cons, List.length_nil]; omega), Ak0 (by omega)]
  simp only [Option.bind_some]
  rw [Af (by simp only [List.length_cons, List.length_nil]; omega)]
  exact ⟨I9 S (Xa t) true, rfl, Ag1 hS t⟩
def V6 (n P : Nat) (R : Sl12Find) (s : Clo) : Prop := (s.1.length ≤ 60 ∧ R = { tables := s.1, steps := s.2, large := false }) ∨ (60 < s.1.length ∧ R.large = true ∧ R.tables.length = 60 ∧ ∀ t ∈ R.tables, Iq n P t)
theorem Ajs {n P : Nat} (hP : P ≤ 1000) {R : Sl12Find} {s : Clo} (h : V6 n P R s) (hT : ∀ t ∈ s.1, Iq n P t) (hl2 : s.2.length ≤ 100000) {c : List Int × SCloneStep} : ∃ R', F1 R c.1 c.2 = some R' ∧ V6 n P R' (L8 s c) := by
 have hL := Bs
 have hlen : s.1.length ≤ (L8 s c).1.length := by
  obtain ⟨a, ha⟩ := Zq s c
  rw [ha, List.length_append]; omega
 unfold F1
 rcases h with ⟨h1, rfl⟩ | ⟨h1, h2, h3, h4⟩
 ·dsimp only
  rw [if_neg (by simp)]
  unfold V6 L8
  rcases Uc (T := s.1) (t := c.1) (by omega) (fun u hu => by have := (hT u hu).1; omega) with ⟨hm, e⟩ | ⟨i, hi, e1, _, e⟩
  ·rw [e, if_neg hm]
   simp only [Option.bind_some]
   rw [if_neg (by omega)]
   simp only [Option.bind_some]
   by_cases h60 : s.1.length = 60
   ·rw [if_pos (by omega)]
    exact ⟨_, rfl, .inr ⟨by simp; omega, rfl, h60, hT⟩⟩
   ·rw [if_neg (by omega), Af (by simp only [List.length_cons, List.length_nil]; omega), Af (by simp only [List.length_cons, List.length_nil]; omega)]
    exact ⟨_, rfl, .inl ⟨by simp; omega, rfl⟩⟩
  ·have hin : c.1 ∈ s.1 := by rw [← e1]; exact A5 hi
   rw [e]
   simp only [Option.bind_some]
   rw [if_pos (by omega)]
   exact ⟨_, rfl, .inl ⟨by rw [if_pos hin]; exact h1, by rw [if_pos hin]⟩⟩
 ·rw [if_pos h2]
  exact ⟨R, rfl, .inr ⟨by omega, h2, h3, h4⟩⟩
end Go.Proofs.Ytoaojijoefljaaa.Ax
namespace Go.Proofs.Ytoaojijoefljaaa.Ax
open Go Classical
theorem Aq8 {m r : Nat} (hm : m ≤ 60) (hr : r ≤ 3) : ∀ i, i ≤ r → m ^ i ≤ 216000 := fun i hi => by
 by_cases h0 : 0 < m
 ·exact Nat.le_trans (Nat.pow_le_pow_right h0 (show i ≤ 3 by omega)) (Nat.le_trans (Nat.pow_le_pow_left hm 3) (by decide))
 ·have : m = 0 := by omega
  subst this
  cases i with
  | zero => decide
  | succ i => rw [Nat.zero_pow (by omega)]; decide
theorem Ajj {α : Type} (A xs : List α) (j : Nat) (hA : A.length = j) (hj : j < xs.length) (v : α) : (A ++ xs.drop j).set j v = (A ++ [v]) ++ xs.drop (j + 1) := by
 rw [List.set_append, if_neg (by omega), hA, Nat.sub_self, List.drop_eq_getElem_cons hj, List.set_cons_zero]
 simp
noncomputable def Gz (s : Clo) (c : Nat → List Int × SCloneStep) (i : Nat) : Clo := Hh s ((List.range i).map c)
theorem Ni (s : Clo) (c : Nat → List Int × SCloneStep) (i : Nat) : Gz s c (i + 1) = L8 (Gz s c i) (c i) := by
 unfold Gz; rw [List.range_succ, List.map_append]; exact Amx _ _ _
theorem Ako (s : Clo) (c : Nat → List Int × SCloneStep) {i j : Nat} (h : i ≤ j) : (Gz s c i).1.length ≤ (Gz s c j).1.length := by
 induction j with
 | zero => rw [show i = 0 by omega]; exact Nat.le_refl _
 | succ j ih =>
   by_cases hij : i = j + 1
   ·subst hij; exact Nat.le_refl _
   ·refine Nat.le_trans (ih (by omega)) ?_
    rw [Ni]
    obtain ⟨a, ha⟩ := Zq (Gz s c j) (c j)
    rw [ha, List.length_append]; omega
theorem Akx (s : Clo) (c : Nat → List Int × SCloneStep) (i : Nat) : ∃ a, (Gz s c i).1 = s.1 ++ a := J4 _ s
noncomputable def seqO (n P : Nat) (ops : List SOp) (T : List (List Int)) (old : Nat) (s : Clo) (m : Nat) : Clo := Hh s ((List.range m).flatMap fun op => Aef n P (nth ops op) op T old)
theorem Aa0 (n P : Nat) (ops : List SOp) (T : List (List Int)) (old : Nat) (s : Clo) (m : Nat) : seqO n P ops T old s (m + 1) = Gz (seqO n P ops T old s m) (C9 n P (nth ops m) m T old) (old ^ (nth ops m).Arity.toNat) := by
 unfold seqO Gz
 rw [List.range_succ, List.flatMap_append, Ai5]
 simp [Aef]
theorem Akv (n P : Nat) (ops : List SOp) (s : Clo) : seqO n P ops s.1 s.1.length s ops.length = Gr n P ops s := rfl
theorem Aq0 (n P : Nat) (ops : List SOp) (T : List (List Int)) (old : Nat) (s : Clo) (m : Nat) : ∃ a, (seqO n P ops T old s m).1 = s.1 ++ a := J4 _ s
theorem Ajg (n P : Nat) (ops : List SOp) (T : List (List Int)) (old : Nat) (s : Clo) {i j : Nat} (h : i ≤ j) : (seqO n P ops T old s i).1.length ≤ (seqO n P ops T old s j).1.length := by
 induction j with
 | zero => rw [show i = 0 by omega]; exact Nat.le_refl _
 | succ j ih =>
   by_cases hij : i = j + 1
   ·subst hij; exact Nat.le_refl _
   ·refine Nat.le_trans (ih (by omega)) ?_
    rw [Aa0]
    obtain ⟨a, ha⟩ := Akx (seqO n P ops T old s j) (C9 n P (nth ops j) j T old) (old ^ (nth ops j).Arity.toNat)
    rw [ha, List.length_append]; omega
structure RndC (n k : Nat) (ops : List SOp) (T : List (List Int)) (s : Clo) : Prop where
 n1 : 0 < n
 n8 : n ≤ 8
 k3 : k ≤ 3
 pl : n ^ k ≤ 512
 ok : ∀ f ∈ ops, I1 n f
 t0 : 0 < T.length
 t60 : T.length ≤ 60
 tabs : ∀ t ∈ T, Iq n (n ^ k) t
 inv : InvC n k ops s
 pre : ∃ a, s.1 = T ++ a
section
variable {n k : Nat} {ops : List SOp} {T : List (List Int)} {s : Clo}
theorem RndC.nth (h : RndC n k ops T s) {j : Nat} (hj : j < T.length) : nth s.1 j = nth T j := by
 obtain ⟨a, ha⟩ := h.pre
 rw [ha, C0 hj]
theorem RndC.le (h : RndC n k ops T s) : T.length ≤ s.1.length := by
 obtain ⟨a, ha⟩ := h.pre
 rw [ha, List.length_append]; omega
theorem RndC.adds (h : RndC n k ops T s) {l : List (List Int × SCloneStep)} (hl : ∀ c ∈ l, c ∈ Gj n (n ^ k) ops T T.length) : RndC n k ops T (Hh s l) := by
 obtain ⟨a, ha⟩ := h.pre
 obtain ⟨b, hb⟩ := J4 l s
 exact ⟨h.n1, h.n8, h.k3, h.pl, h.ok, h.t0, h.t60, h.tabs, InvC.adds h.ok (fun j hj => h.tabs _ (A5 hj)) l h.inv h.le (fun j hj => h.nth hj) hl, a ++ b, by rw [hb, ha, List.append_assoc]⟩
theorem Alh {op : Nat} (hop : op < ops.length) {i : Nat} (hi : i < T.length ^ (Ax.nth ops op).Arity.toNat) : C9 n (n ^ k) (Ax.nth ops op) op T T.length i ∈ Gj n (n ^ k) ops T T.length :=
 Ry.2 ⟨op, hop, i, hi, rfl⟩
theorem RndC.seq (h : RndC n k ops T s) {op : Nat} (hop : op < ops.length) {i : Nat} (hi : i ≤ T.length ^ (Ax.nth ops op).Arity.toNat) : RndC n k ops T (Gz s (C9 n (n ^ k) (Ax.nth ops op) op T T.length) i) :=
 h.adds fun c hc => by
  obtain ⟨j, hj, rfl⟩ := List.mem_map.1 hc
  exact Alh hop (by have := List.mem_range.1 hj; omega)
theorem RndC.seqO (h : RndC n k ops T s) {m : Nat} (hm : m ≤ ops.length) : RndC n k ops T (seqO n (n ^ k) ops T T.length s m) :=
 h.adds fun c hc => by
  obtain ⟨op, ho, hc⟩ := List.mem_flatMap.1 hc
  obtain ⟨j, hj, rfl⟩ := List.mem_map.1 hc
  exact Alh (by have := List.mem_range.1 ho; omega) (List.mem_range.1 hj)
theorem RndC.args (h : RndC n k ops T s) {r i : Nat} (hi : i < T.length ^ r) : ((Eo T.length r i).map fun x => Ax.nth s.1 x.toNat) = (Eo T.length r i).map fun x => Ax.nth T x.toNat := by
 refine List.map_congr_left fun x hx => ?_
 have := L4 hi x hx
 exact h.nth (by omega)
theorem RndC.argsOk (h : RndC n k ops T s) {r i : Nat} (hi : i < T.length ^ r) : ∀ t ∈ (Eo T.length r i).map fun x => Ax.nth T x.toNat, Iq n (n ^ k) t := by
 intro t ht
 obtain ⟨x, hx, rfl⟩ := List.mem_map.1 ht
 have := L4 hi x hx
 exact h.tabs _ (A5 (by omega))
theorem Au1 {n0 k0 x48 x14 : Int} {X8 X : Sfound} {r : List Int} {xs : List (List Int)} (hl : xs.length = r.length) (hr : ∀ x ∈ r, 0 ≤ x ∧ x < X.tables.length) (h1 : r.length ≤ 1000) :
  At (Df n0 ops k0 X8 x48 x14 X r) (0, xs) = some (r.map fun x => Ax.nth X.tables x.toNat) := by
 have key := Bw (body := Df n0 ops k0 X8 x48 x14 X r) (fun i => ((i : Int), (r.map fun x => Ax.nth X.tables x.toNat).take i ++ xs.drop i)) r.length (r.map fun x => Ax.nth X.tables x.toNat) (fun i hi => by
  have hx := hr _ (A5 hi)
  have e : (r.map fun x => Ax.nth X.tables x.toNat).take (i + 1) = (r.map fun x => Ax.nth X.tables x.toNat).take i ++ [Ax.nth X.tables (Ax.nth r i).toNat] := by
   rw [Di (by simpa using hi), Ed _ hi]
  unfold Df
  dsimp only
  rw [if_pos (by omega), Af (by omega), Int.toNat_natCast, Af hx, Af (by simp; omega), Af (by unfold InI; omega), Ajj _ _ _ (by simp; omega) (by omega), ← e]
  rfl) (by
  unfold Df
  dsimp only
  rw [if_neg (by omega), List.take_of_length_le (by simp), List.drop_of_length_le (by omega), List.append_nil])
 simpa using key
theorem Au2 (h : RndC n k ops T s) (h60 : s.1.length ≤ 60) {op : Nat} (hop : op < ops.length) {X8 : Sfound} (hX : X8.tables = T) {xs : List (List Int)} (hxs : xs.length = (Ax.nth ops op).Arity.toNat) {S : List (ByteArray × Bool)} (hS : So S s.1) :
  ∃ t, At (Ej n ops k X8 op) (xs, 0, fnd s S) = some t ∧
    ((60 < (Gz s (C9 n (n ^ k) (Ax.nth ops op) op T T.length) (T.length ^ (Ax.nth ops op).Arity.toNat)).1.length ∧ t = .inl ()) ∨
     ((Gz s (C9 n (n ^ k) (Ax.nth ops op) op T T.length) (T.length ^ (Ax.nth ops op).Arity.toNat)).1.length ≤ 60 ∧ ∃ S', t = .inr (fnd (Gz s (C9 n (n ^ k) (Ax.nth ops op) op T T.length) (T.length ^ (Ax.nth ops op).Arity.toNat)) S') ∧ So S' (Gz s (C9 n (n ^ k) (Ax.nth ops op) op T T.length) (T.length ^ (Ax.nth ops op).Arity.toNat)).1)) := by
 have hf := h.ok _ (A5 hop)
 have hA := hf.2.1
 have hA0 := hf.1
 obtain ⟨r, hr⟩ : ∃ r : Nat, (Ax.nth ops op).Arity = (r : Int) := ⟨_, (Int.toNat_of_nonneg hA0).symm⟩
 have hrr : (Ax.nth ops op).Arity.toNat = r := by omega
 have hp := Aq8 (m := T.length) (r := r) h.t60 (by omega)
 have hpN := hp r (Nat.le_refl _)
 have hpl := h.pl
 rw [hrr] at hxs ⊢
 refine Ft (body := Ej n ops k X8 op) (fun z => ∃ i, i ≤ T.length ^ r ∧ z.1.length = r ∧ z.2.1 = (i : Int) ∧ ∃ S, z.2.2 = fnd (Gz s (C9 n (n ^ k) (Ax.nth ops op) op T T.length) i) S ∧ So S (Gz s (C9 n (n ^ k) (Ax.nth ops op) op T T.length) i).1 ∧ (Gz s (C9 n (n ^ k) (Ax.nth ops op) op T T.length) i).1.length ≤ 60) (fun z => T.length ^ r - z.2.1.toNat) _ ?_ (s := (xs, 0, fnd s S)) ⟨0, Nat.zero_le _, hxs, rfl, S, rfl, hS, h60⟩
 rintro ⟨ys, z, X⟩ ⟨i, hi, hys, hz, S1, hX1, hS1, hl1⟩
 dsimp only at hys hz hX1
 subst hz; subst hX1
 have hR := h.seq hop (i := i) (by rw [hrr]; exact hi)
 unfold Ej
 dsimp only
 rw [hX, Int.toNat_natCast, hr, Ajr 216000 (by omega) hp (by omega)]
 simp only [Option.bind_some]
 by_cases hiN : i < T.length ^ r
 ·have hal := G4 T.length r i
  have hin := L4 hiN
  rw [if_pos (by omega), Aaq h.t0 (by omega) (by omega)]
  simp only [Option.bind_some]
  rw [Au1 (by rw [hys, hal]) (fun x hx => by have := hin x hx; have := hR.le; show 0 ≤ x ∧ x < ((Gz s _ i).1.length : Int); omega) (by omega)]
  simp only [Option.bind_some]
  have he : ((Eo T.length r i).map fun x => Ax.nth (fnd (Gz s (C9 n (n ^ k) (Ax.nth ops op) op T T.length) i) S1).tables x.toNat) = (Eo T.length r i).map fun x => Ax.nth T x.toNat := hR.args hiN
  have hok := h.argsOk hiN
  have hcl : ((Eo T.length r i).map fun x => Ax.nth T x.toNat).length = (Ax.nth ops op).Arity.toNat := by rw [List.length_map, hal, hrr]
  rw [he, Vj h.n8 h.k3]
  simp only [Option.bind_some, Int.toNat_natCast]
  rw [Mx h.n8 hf hcl hok (by omega)]
  simp only [Option.bind_some]
  have hlen2 := hR.inv.len
  obtain ⟨S2, e2, hS2⟩ := Abr h.n8 (P := n ^ k) (by omega) hS1 hR.inv.tabs (by omega) (by omega) (Anz hf hcl hok) (op := (op : Int)) (qs := Eo T.length r i) (by omega)
  have ec : (Rb n (n ^ k) (Ax.nth ops op) ((Eo T.length r i).map fun x => Ax.nth T x.toNat), ({ Op := (op : Int), Args := Eo T.length r i } : SCloneStep)) = C9 n (n ^ k) (Ax.nth ops op) op T T.length i := by
   unfold C9; rw [hrr]
  rw [ec, ← Ni] at e2 hS2
  rw [e2]
  simp only [Option.bind_some]
  have hmono := Ako s (C9 n (n ^ k) (Ax.nth ops op) op T T.length) (show i + 1 ≤ T.length ^ r by omega)
  by_cases hb : 60 < (Gz s (C9 n (n ^ k) (Ax.nth ops op) op T T.length) (i + 1)).1.length
  ·right
   rw [if_pos (by show ((Gz s _ (i + 1)).1.length : Int) > 60; omega)]
   exact ⟨_, rfl, .inl ⟨by omega, rfl⟩⟩
  ·left
   rw [if_neg (by show ¬ ((Gz s _ (i + 1)).1.length : Int) > 60; omega), Af (by unfold InI; omega)]
   exact ⟨_, rfl, ⟨i + 1, by omega, by simp [hal], by dsimp only; omega, S2, rfl, hS2, by omega⟩, by dsimp only; omega⟩
 ·right
  have : i = T.length ^ r := by omega
  subst this
  rw [if_neg (by omega)]
  exact ⟨_, rfl, .inr ⟨hl1, S1, rfl, hS1⟩⟩
theorem Ava (h : RndC n k ops T s) (h60 : s.1.length ≤ 60) (hO : ops.length ≤ 1000) {X8 : Sfound} (hX : X8.tables = T) {S : List (ByteArray × Bool)} (hS : So S s.1) :
  ∃ t, At (Ei n ops k X8) (0, fnd s S) = some t ∧
    ((60 < (seqO n (n ^ k) ops T T.length s ops.length).1.length ∧ t = .inl ()) ∨
     ((seqO n (n ^ k) ops T T.length s ops.length).1.length ≤ 60 ∧ ∃ S', t = .inr (fnd (seqO n (n ^ k) ops T T.length s ops.length) S') ∧ So S' (seqO n (n ^ k) ops T T.length s ops.length).1)) := by
 have hL := Bs
 refine Ft (body := Ei n ops k X8) (fun z => ∃ m, m ≤ ops.length ∧ z.1 = (m : Int) ∧ ∃ S, z.2 = fnd (seqO n (n ^ k) ops T T.length s m) S ∧ So S (seqO n (n ^ k) ops T T.length s m).1 ∧ (seqO n (n ^ k) ops T T.length s m).1.length ≤ 60) (fun z => ops.length - z.1.toNat) _ ?_ (s := (0, fnd s S)) ⟨0, Nat.zero_le _, rfl, S, rfl, hS, h60⟩
 rintro ⟨z, X⟩ ⟨m, hm, hz, S1, hX1, hS1, hl1⟩
 dsimp only at hz hX1
 subst hz; subst hX1
 have hR := h.seqO hm
 unfold Ei
 dsimp only
 by_cases hmo : m < ops.length
 ·have hf := h.ok _ (A5 hmo)
  have hA := hf.2.1
  have hA0 := hf.1
  rw [if_pos (by omega), Af (by omega)]
  simp only [Int.toNat_natCast]
  rw [Af (by omega)]
  obtain ⟨t, e, ht⟩ := Au2 hR hl1 hmo hX (xs := List.replicate (Ax.nth ops m).Arity.toNat (Ar Int)) (by simp) hS1
  rw [e]
  rw [← Aa0] at ht
  have hmono := Ajg n (n ^ k) ops T T.length s (show m + 1 ≤ ops.length by omega)
  rcases ht with ⟨h1, rfl⟩ | ⟨h1, S2, rfl, hS2⟩
  ·right
   exact ⟨_, rfl, .inl ⟨by omega, rfl⟩⟩
  ·left
   simp only [Option.bind_some]
   rw [Af (by unfold InI; omega)]
   exact ⟨_, rfl, ⟨m + 1, by omega, by dsimp only; omega, S2, rfl, hS2, h1⟩, by dsimp only; omega⟩
 ·right
  have : m = ops.length := by omega
  subst this
  rw [if_neg (by omega)]
  exact ⟨_, rfl, .inr ⟨hl1, S1, rfl, hS1⟩⟩
end
section
variable {n k : Nat} {ops : List SOp}
theorem Avb (hn1 : 0 < n) (hn : n ≤ 8) (hk : k ≤ 3) (hok : ∀ f ∈ ops, I1 n f) (hO : ops.length ≤ 1000) : ∀ (m old : Nat) (s : Clo) (S : List (ByteArray × Bool)), 60 < old + (m + 1) → InvC n k ops s → 0 < s.1.length → s.1.length ≤ 60 → So S s.1 →
  ∃ t, At (Bg n ops k) ((old : Int), fnd s S) = some t ∧ ((Qa n (n ^ k) ops (m + 1) old s = none ∧ t = .inl ()) ∨ ∃ s' S', Qa n (n ^ k) ops (m + 1) old s = some s' ∧ t = .inr (fnd s' S') ∧ So S' s'.1) := by
 intro m
 induction m with
 | zero =>
   intro old s S ho hI h0 h60 hS
   refine ⟨_, En (t := .inr (fnd s S)) ?_, .inr ⟨s, S, ?_, rfl, hS⟩⟩
   ·unfold Bg
    dsimp only
    rw [if_neg (by show ¬ (old : Int) < (s.1.length : Int); omega)]
   ·unfold Qa; rw [if_neg (by omega)]
 | succ m ih =>
   intro old s S ho hI h0 h60 hS
   by_cases hlt : old < s.1.length
   ·have hR : RndC n k ops s.1 s := ⟨hn1, hn, hk, N8 hn hk, hok, h0, h60, hI.tabs, hI, [], by simp⟩
    obtain ⟨t, e, ht⟩ := Ava hR h60 hO (X8 := fnd s S) rfl hS
    rw [Akv] at ht
    rcases ht with ⟨h1, rfl⟩ | ⟨h1, S2, rfl, hS2⟩
    ·refine ⟨.inl (), En ?_, .inl ⟨?_, rfl⟩⟩
     ·unfold Bg
      dsimp only
      rw [if_pos (by show (old : Int) < (s.1.length : Int); omega), e]
      rfl
     ·unfold Qa; rw [if_pos hlt, if_pos h1]
    ·have step : Bg n ops k ((old : Int), fnd s S) = some (.inl ((s.1.length : Int), fnd (Gr n (n ^ k) ops s) S2)) := by
      unfold Bg
      dsimp only
      rw [if_pos (by show (old : Int) < (s.1.length : Int); omega), e]
      rfl
     have hI2 : InvC n k ops (Gr n (n ^ k) ops s) := (hR.seqO (m := ops.length) (Nat.le_refl _)).inv
     have hl2 := Agn (Gj n (n ^ k) ops s.1 s.1.length) s
     have hl2' : s.1.length ≤ (Gr n (n ^ k) ops s).1.length := hl2
     obtain ⟨t, e2, ht⟩ := ih s.1.length (Gr n (n ^ k) ops s) S2 (by omega) hI2 (by omega) h1 hS2
     refine ⟨t, by rw [Lv step]; exact e2, ?_⟩
     have er : Qa n (n ^ k) ops (m + 1 + 1) old s = Qa n (n ^ k) ops (m + 1) s.1.length (Gr n (n ^ k) ops s) := by
      conv => lhs; unfold Qa
      rw [if_pos hlt, if_neg (by omega)]
     rw [er]; exact ht
   ·refine ⟨_, En (t := .inr (fnd s S)) ?_, .inr ⟨s, S, ?_, rfl, hS⟩⟩
    ·unfold Bg
     dsimp only
     rw [if_neg (by show ¬ (old : Int) < (s.1.length : Int); omega)]
    ·unfold Qa; rw [if_neg hlt]
theorem Aok (hn1 : 0 < n) (hn : n ≤ 8) (hk1 : 1 ≤ k) (hk : k ≤ 3) (hok : ∀ f ∈ ops, I1 n f) (hO : ops.length ≤ 1000) :
  (Aia n k ops = none ∧ Ga n ops k = some (none, false)) ∨ ∃ s S, Aia n k ops = some s ∧ Ga n ops k = some (some (fnd s S), true) ∧ So S s.1 := by
 have hpl := N8 hn hk
 unfold Ga
 obtain ⟨X, e, S, hX, hS⟩ := Ft (body := Fv n ops k) (fun z => ∃ i, i ≤ k ∧ z.1 = (i : Int) ∧ ∃ S, z.2 = fnd (Gz ([], []) (fun p => Xn n k p) i) S ∧ So S (Gz ([], []) (fun p => Xn n k p) i).1) (fun z => k - z.1.toNat) (fun X => ∃ S, X = fnd (E4 n k) S ∧ So S (E4 n k).1) (by
  rintro ⟨z, X⟩ ⟨i, hi, hz, S, hX, hS⟩
  dsimp only at hz hX
  subst hz; subst hX
  unfold Fv
  dsimp only
  by_cases hik : i < k
  ·rw [if_pos (by omega), Sj hn1 hn hk hik]
   simp only [Option.bind_some]
   have hI : InvC n k ops (Gz ([], []) (fun p => Xn n k p) i) := Z4 hn1 ops _ (Adk n k ops) fun c hc => by
    obtain ⟨p, hp, rfl⟩ := List.mem_map.1 hc
    exact ⟨p, by have := List.mem_range.1 hp; omega, rfl⟩
   have hb := P0 ((List.range i).map fun p => Xn n k p) ([], [])
   have hb' : (Gz ([], []) (fun p => Xn n k p) i).1.length ≤ i := by simpa [Gz] using hb
   have hlen2 := hI.len
   obtain ⟨S2, e2, hS2⟩ := Abr hn (P := n ^ k) (by omega) hS hI.tabs (by omega) (by omega) (An5 hn1 hik) (op := -1) (qs := [(i : Int)]) (by simp)
   have ec : (Ik n k i, ({ Op := -1, Args := [(i : Int)] } : SCloneStep)) = Xn n k i := rfl
   rw [ec, ← Ni ([], []) (fun p => Xn n k p) i] at e2 hS2
   rw [e2]
   simp only [Option.bind_some]
   rw [Af (by unfold InI; omega)]
   exact .inl ⟨_, rfl, ⟨i + 1, by omega, by dsimp only; omega, S2, rfl, hS2⟩, by dsimp only; omega⟩
  ·have : i = k := by omega
   subst this
   rw [if_neg (by omega)]
   exact .inr ⟨_, rfl, S, rfl, hS⟩) (s := (0, { tables := Ar (List Int), steps := Ar SCloneStep, seen := Ar (ByteArray × Bool) })) ⟨0, Nat.zero_le _, rfl, Ar (ByteArray × Bool), rfl, Ajy⟩
 rw [e]
 subst hX
 simp only [Option.bind_some]
 have h0 : 0 < (E4 n k).1.length := List.length_pos_of_mem (Vk hk1)
 have hil := Aan n k
 have e0 : At (Bg n ops k) (-1, fnd (E4 n k) S) = At (Bg n ops k) (((0 : Nat) : Int), fnd (E4 n k) S) := by
  have eb : Bg n ops k (-1, fnd (E4 n k) S) = Bg n ops k (((0 : Nat) : Int), fnd (E4 n k) S) := by
   unfold Bg
   dsimp only
   rw [if_pos (by show (-1 : Int) < ((E4 n k).1.length : Int); omega), if_pos (by show ((0 : Nat) : Int) < ((E4 n k).1.length : Int); omega)]
  rw [Zr, eb, ← Zr]
 rw [e0]
 obtain ⟨t, e5, ht⟩ := Avb hn1 hn hk hok hO 69 0 (E4 n k) S (by omega) (Aao hn1 ops) h0 (by omega) hS
 rw [e5]
 rcases ht with ⟨h1, rfl⟩ | ⟨s', S', h1, rfl, hS'⟩
 ·exact .inl ⟨h1, rfl⟩
 ·exact .inr ⟨s', S', h1, rfl, hS'⟩
end
end Go.Proofs.Ytoaojijoefljaaa.Ax
namespace Go.Proofs.Ytoaojijoefljaaa.Ax
open Go Classical
theorem Ajk {m b : Nat} (hm : 0 < m) : ∀ (r j at' : Nat), j + r ≤ 100 → at' ≤ 1048576 → b ≤ 1048576 → At (Bx m ((j + r : Nat) : Int) b) ((j : Int), (at' : Int)) = some (if ∃ x ∈ Eo m r at', (b : Int) ≤ x then .inl () else .inr ()) := by
 intro r
 induction r with
 | zero =>
   intro j at' _ _ _
   refine En ?_
   unfold Bx
   dsimp only
   rw [if_neg (by omega), if_neg (by rintro ⟨x, hx, _⟩; cases hx)]
 | succ r ih =>
   intro j at' h1 h2 h3
   have c1 : (at' : Int).tdiv (m : Int) = ((at' / m : Nat) : Int) := rfl
   have c2 : (at' : Int).tmod (m : Int) = ((at' % m : Nat) : Int) := rfl
   have hd : at' / m ≤ at' := Nat.div_le_self at' m
   by_cases hb : b ≤ at' % m
   ·have : At (Bx m ((j + (r + 1) : Nat) : Int) b) ((j : Int), (at' : Int)) = some (.inl ()) := En (by
     unfold Bx
     dsimp only
     rw [c2, if_pos (by omega), Af (by omega), if_pos (by omega)])
    rw [this, if_pos ⟨((at' % m : Nat) : Int), by simp [Eo], by omega⟩]
   ·have step : Bx m ((j + (r + 1) : Nat) : Int) b ((j : Int), (at' : Int)) = some (.inl (((j + 1 : Nat) : Int), ((at' / m : Nat) : Int))) := by
     unfold Bx
     dsimp only
     rw [c1, c2, if_pos (by omega), Af (by omega), if_neg (by omega)]
     generalize at' / m = kd at hd
     rw [Af ⟨by omega, by unfold InI; omega⟩, Af (by unfold InI; omega)]
     rfl
    have := ih (j + 1) (at' / m) (by omega) (by omega) h3
    rw [show j + 1 + r = j + (r + 1) by omega] at this
    rw [Lv step, this]
    congr 1
    have hiff : (∃ x ∈ Eo m r (at' / m), (b : Int) ≤ x) ↔ ∃ x ∈ Eo m (r + 1) at', (b : Int) ≤ x := by
     constructor
     ·rintro ⟨x, hx, h⟩; exact ⟨x, by simp [Eo, hx], h⟩
     ·rintro ⟨x, hx, h⟩
      simp only [Eo, List.mem_append, List.mem_singleton] at hx
      rcases hx with hx | rfl
      ·exact ⟨x, hx, h⟩
      ·omega
    by_cases hh : ∃ x ∈ Eo m r (at' / m), (b : Int) ≤ x
    ·rw [if_pos hh, if_pos (hiff.1 hh)]
    ·rw [if_neg hh, if_neg fun h => hh (hiff.2 h)]
def Xy (m r i b : Nat) : Prop := (∃ x ∈ Eo m r i, (b : Int) ≤ x) ∨ b = 0
theorem Amp {m b r i : Nat} (hm : 0 < m) (hr : r ≤ 100) (hi : i ≤ 1048576) (hb : b ≤ 1048576) : G8 m r i b = some (decide (Xy m r i b)) := by
 unfold G8
 have := Ajk (b := b) hm r 0 i (by omega) hi hb
 rw [Nat.zero_add] at this
 have this' : At (Bx m r b) (0, (i : Int)) = _ := this
 rw [this']
 by_cases hh : ∃ x ∈ Eo m r i, (b : Int) ≤ x
 ·rw [if_pos hh, decide_eq_true (show Xy m r i b from .inl hh)]; rfl
 ·rw [if_neg hh]
  simp only [Option.bind_some]
  by_cases h0 : b = 0
  ·rw [decide_eq_true (show Xy m r i b from .inr h0), h0]; rfl
  ·rw [decide_eq_false (show ¬ Xy m r i b from fun h => h.elim hh h0)]
   congr 1
   simp; omega
section
variable {n k : Nat} {ops : List SOp} {T : List (List Int)} {s : Clo}
theorem Au9 {n0 nu kn be si x15 : Int} {op0 : SOp} {R : Sl12Find} {r : List Int} (hr : ∀ x ∈ r, 0 ≤ x ∧ x < R.tables.length) (h1 : r.length ≤ 1000) :
  At (C2 n0 op0 nu kn be si x15 R r) (0, Ar (List Int)) = some (r.map fun x => Ax.nth R.tables x.toNat) := by
 have hL := Bs
 have key := Bw (body := C2 n0 op0 nu kn be si x15 R r) (fun i => ((i : Int), (r.map fun x => Ax.nth R.tables x.toNat).take i)) r.length (r.map fun x => Ax.nth R.tables x.toNat) (fun i hi => by
  have hx := hr _ (A5 hi)
  have e : (r.map fun x => Ax.nth R.tables x.toNat).take (i + 1) = (r.map fun x => Ax.nth R.tables x.toNat).take i ++ [Ax.nth R.tables (Ax.nth r i).toNat] := by
   rw [Di (by simpa using hi), Ed _ hi]
  unfold C2
  dsimp only
  rw [if_pos (by omega), Af (by omega), Int.toNat_natCast, Af hx, Af (by simp only [List.length_take, List.length_map, List.length_cons, List.length_nil]; omega), Af (by unfold InI; omega), ← e]
  rfl) (by
  unfold C2
  dsimp only
  rw [if_neg (by omega), List.take_of_length_le (by simp)])
 exact key
theorem V6.mono {n P : Nat} {R : Sl12Find} {s s' : Clo} (h : V6 n P R s) (hl : R.large = true) (hle : s.1.length ≤ s'.1.length) : V6 n P R s' := by
 rcases h with ⟨_, rfl⟩ | ⟨h1, h2, h3, h4⟩
 ·cases hl
 ·exact .inr ⟨by omega, h2, h3, h4⟩
theorem Amv (h : RndC n k ops T s) {op : Nat} (hop : op < ops.length) {R : Sl12Find} (hR : V6 n (n ^ k) R s) {b : Nat} (hb : b ≤ 60)
  (hskip : ∀ i, i < T.length ^ (Ax.nth ops op).Arity.toNat → ¬ Xy T.length (Ax.nth ops op).Arity.toNat i b → (C9 n (n ^ k) (Ax.nth ops op) op T T.length i).1 ∈ s.1) :
  ∃ R', G7 n R (Ax.nth ops op) op T.length b ((n ^ k : Nat) : Int) = some R' ∧ V6 n (n ^ k) R' (Gz s (C9 n (n ^ k) (Ax.nth ops op) op T T.length) (T.length ^ (Ax.nth ops op).Arity.toNat)) := by
 have hf := h.ok _ (A5 hop)
 have hA := hf.2.1
 have hA0 := hf.1
 obtain ⟨r, hr⟩ : ∃ r : Nat, (Ax.nth ops op).Arity = (r : Int) := ⟨_, (Int.toNat_of_nonneg hA0).symm⟩
 have hrr : (Ax.nth ops op).Arity.toNat = r := by omega
 have hp := Aq8 (m := T.length) (r := r) h.t60 (by omega)
 have hpN := hp r (Nat.le_refl _)
 have hpl := h.pl
 rw [hrr] at hskip ⊢
 unfold G7
 obtain ⟨R', e, hR'⟩ := Ft (body := Fe n (Ax.nth ops op) op T.length b ((n ^ k : Nat) : Int)) (fun z => ∃ i, i ≤ T.length ^ r ∧ z.1 = (i : Int) ∧ V6 n (n ^ k) z.2 (Gz s (C9 n (n ^ k) (Ax.nth ops op) op T T.length) i)) (fun z => T.length ^ r - z.1.toNat) (fun R' => V6 n (n ^ k) R' (Gz s (C9 n (n ^ k) (Ax.nth ops op) op T T.length) (T.length ^ r))) (by
  rintro ⟨z, X⟩ ⟨i, hi, hz, hX⟩
  dsimp only at hz hX
  subst hz
  have hRi := h.seq hop (i := i) (by rw [hrr]; exact hi)
  unfold Fe
  dsimp only
  rw [hr, Ap4 216000 (by omega) hp (by omega)]
  simp only [Option.bind_some]
  by_cases hiN : i < T.length ^ r
  ·rw [if_pos (by omega)]
   by_cases hlg : X.large = true
   ·rw [if_pos hlg]
    exact .inr ⟨_, rfl, hX.mono hlg (Ako s _ (by omega))⟩
   ·rw [if_neg hlg]
    simp only [Option.bind_some]
    rw [Amp h.t0 (by omega) (by omega) (by omega)]
    simp only [Option.bind_some]
    by_cases hfr : Xy T.length r i b
    ·rw [decide_eq_true hfr, if_pos rfl, Zx h.t0 (by omega) (by omega)]
     simp only [Option.bind_some]
     have hal := G4 T.length r i
     have hin := L4 hiN
     have hXt : X.tables = (Gz s (C9 n (n ^ k) (Ax.nth ops op) op T T.length) i).1 := by
      rcases hX with ⟨_, rfl⟩ | ⟨_, h2, _⟩
      ·rfl
      ·exact absurd h2 hlg
     rw [Au9 (fun x hx => by have := hin x hx; have := hRi.le; rw [hXt]; omega) (by omega)]
     simp only [Option.bind_some]
     rw [hXt, hRi.args hiN]
     have hok := h.argsOk hiN
     have hcl : ((Eo T.length r i).map fun x => Ax.nth T x.toNat).length = (Ax.nth ops op).Arity.toNat := by rw [List.length_map, hal, hrr]
     rw [Ahu h.n8 hf hcl hok (by omega)]
     simp only [Option.bind_some]
     have hlen2 := hRi.inv.len
     have ec : (Rb n (n ^ k) (Ax.nth ops op) ((Eo T.length r i).map fun x => Ax.nth T x.toNat), ({ Op := (op : Int), Args := Eo T.length r i } : SCloneStep)) = C9 n (n ^ k) (Ax.nth ops op) op T T.length i := by
      unfold C9; rw [hrr]
     have hb2 := P0 ((List.range i).map (C9 n (n ^ k) (Ax.nth ops op) op T T.length)) s
     have hs61 : (Gz s (C9 n (n ^ k) (Ax.nth ops op) op T T.length) i).1.length ≤ 60 := by
      rcases hX with ⟨h1, _⟩ | ⟨_, h2, _⟩
      ·exact h1
      ·exact absurd h2 hlg
     obtain ⟨R2, e2, hR2⟩ := Ajs (P := n ^ k) (by omega) hX hRi.inv.tabs (by omega) (c := C9 n (n ^ k) (Ax.nth ops op) op T T.length i)
     rw [← ec] at e2
     rw [e2]
     simp only [Option.bind_some]
     rw [Af (by unfold InI; omega)]
     rw [← Ni] at hR2
     exact .inl ⟨_, rfl, ⟨i + 1, by omega, by dsimp only; omega, hR2⟩, by dsimp only; omega⟩
    ·rw [decide_eq_false hfr, if_neg (by simp), Af (by unfold InI; omega)]
     refine .inl ⟨_, rfl, ⟨i + 1, by omega, by dsimp only; omega, ?_⟩, by dsimp only; omega⟩
     dsimp only
     rw [Ni]
     obtain ⟨a, ha⟩ := Akx s (C9 n (n ^ k) (Ax.nth ops op) op T T.length) i
     have : L8 (Gz s (C9 n (n ^ k) (Ax.nth ops op) op T T.length) i) (C9 n (n ^ k) (Ax.nth ops op) op T T.length i) = Gz s (C9 n (n ^ k) (Ax.nth ops op) op T T.length) i := by
      unfold L8
      rw [if_pos (by rw [ha]; exact List.mem_append_left _ (hskip i hiN hfr))]
     rw [this]; exact hX
  ·have : i = T.length ^ r := by omega
   subst this
   rw [if_neg (by omega)]
   exact .inr ⟨_, rfl, hX⟩) (s := (0, R)) ⟨0, Nat.zero_le _, rfl, hR⟩
 rw [e]
 exact ⟨R', rfl, hR'⟩
theorem Ata {old : Nat} (hb : old = 0 ∨ ∀ c ∈ Gj n (n ^ k) ops T old, c.1 ∈ s.1) {op : Nat} (hop : op < ops.length) {i : Nat} (hi : i < T.length ^ (Ax.nth ops op).Arity.toNat) (hfr : ¬ Xy T.length (Ax.nth ops op).Arity.toNat i old) : (C9 n (n ^ k) (Ax.nth ops op) op T T.length i).1 ∈ s.1 := by
 have h0 : 0 < old := by
  rcases Nat.eq_zero_or_pos old with h | h
  ·exact absurd (.inr h) hfr
  ·exact h
 have hin : F3 (Eo T.length (Ax.nth ops op).Arity.toNat i) old := fun x hx => by
  have := L4 hi x hx
  refine ⟨this.1, ?_⟩
  refine Classical.byContradiction fun h => hfr (.inl ⟨x, hx, by omega⟩)
 obtain ⟨c, c1, c2⟩ := Sa (m := old) (Ax.nth ops op).Arity.toNat _ (G4 _ _ _) hin
 have e := Agz h0 (Ax.nth ops op).Arity.toNat _ (G4 _ _ _) hin
 rw [c1, Int.toNat_natCast] at e
 have := hb.resolve_left (by omega) _ (Ry.2 ⟨op, hop, c, c2, rfl⟩)
 unfold C9 at this ⊢
 dsimp only at this ⊢
 rwa [e] at this
theorem Ats (h : RndC n k ops T s) (hO : ops.length ≤ 1000) {first : List (List Int)} (hf0 : 0 < first.length) (hfl : (Ax.nth first 0).length = n ^ k) {R X : Sl12Find} (hX : X.tables = T) (hR : V6 n (n ^ k) R s) {b : Nat} (hb60 : b ≤ 60) (hb : b = 0 ∨ ∀ c ∈ Gj n (n ^ k) ops T b, c.1 ∈ s.1) :
  ∃ R', At (Do n ops first b X) (0, R) = some R' ∧ V6 n (n ^ k) R' (seqO n (n ^ k) ops T T.length s ops.length) := by
 refine Ft (body := Do n ops first b X) (fun z => ∃ m, m ≤ ops.length ∧ z.1 = (m : Int) ∧ V6 n (n ^ k) z.2 (seqO n (n ^ k) ops T T.length s m)) (fun z => ops.length - z.1.toNat) _ ?_ (s := (0, R)) ⟨0, Nat.zero_le _, rfl, hR⟩
 rintro ⟨z, Y⟩ ⟨m, hm, hz, hY⟩
 dsimp only at hz hY
 subst hz
 have hRm := h.seqO hm
 unfold Do
 dsimp only
 by_cases hmo : m < ops.length
 ·rw [if_pos (by omega)]
  by_cases hlg : Y.large = true
  ·rw [if_pos hlg]
   exact .inr ⟨_, rfl, hY.mono hlg (Ajg n (n ^ k) ops T T.length s (by omega))⟩
  ·rw [if_neg hlg]
   simp only [Option.bind_some]
   obtain ⟨a, ha⟩ := Aq0 n (n ^ k) ops T T.length s m
   have hb2 : b = 0 ∨ ∀ c ∈ Gj n (n ^ k) ops T b, c.1 ∈ (seqO n (n ^ k) ops T T.length s m).1 := hb.imp id fun hb c hc => by rw [ha]; exact List.mem_append_left _ (hb c hc)
   obtain ⟨R2, e2, hR2⟩ := Amv hRm hmo hY hb60 (fun i hi hfr => Ata hb2 hmo hi hfr)
   rw [Af (by omega), Af (by omega), hX]
   simp only [Int.toNat_natCast]
   rw [show Int.toNat 0 = 0 from rfl, hfl, e2]
   simp only [Option.bind_some]
   rw [Af (by unfold InI; omega)]
   rw [← Aa0] at hR2
   exact .inl ⟨_, rfl, ⟨m + 1, by omega, by dsimp only; omega, hR2⟩, by dsimp only; omega⟩
 ·have : m = ops.length := by omega
  subst this
  rw [if_neg (by omega)]
  exact .inr ⟨_, rfl, hY⟩
end
section
variable {n k : Nat} {ops : List SOp}
def As0 (n P : Nat) (o : Option Clo) (R : Sl12Find) : Prop := match o with
 | none => R.large = true ∧ R.tables.length = 60 ∧ ∀ t ∈ R.tables, Iq n P t
 | some s => R = { tables := s.1, steps := s.2, large := false }
theorem Auo (hn1 : 0 < n) (hn : n ≤ 8) (hk : k ≤ 3) (hok : ∀ f ∈ ops, I1 n f) (hO : ops.length ≤ 1000) {first : List (List Int)} (hf0 : 0 < first.length) (hfl : (Ax.nth first 0).length = n ^ k) : ∀ (m old : Nat) (s : Clo), 60 < old + (m + 1) → old ≤ s.1.length → InvC n k ops s → 0 < s.1.length → s.1.length ≤ 60 →
  (old = 0 ∨ ∀ c ∈ Gj n (n ^ k) ops s.1 old, c.1 ∈ s.1) → ∃ R', At (Bq n ops first) ((old : Int), { tables := s.1, steps := s.2, large := false }) = some R' ∧ As0 n (n ^ k) (Qa n (n ^ k) ops (m + 1) old s) R' := by
 intro m
 induction m with
 | zero =>
   intro old s ho _ hI h0 h60 _
   refine ⟨_, En (t := { tables := s.1, steps := s.2, large := false }) ?_, ?_⟩
   ·unfold Bq
    dsimp only
    rw [if_neg (by omega)]; rfl
   ·unfold Qa; rw [if_neg (by omega)]; rfl
 | succ m ih =>
   intro old s ho hos hI h0 h60 hc
   by_cases hlt : old < s.1.length
   ·have hR : RndC n k ops s.1 s := ⟨hn1, hn, hk, N8 hn hk, hok, h0, h60, hI.tabs, hI, [], by simp⟩
    have hr0 : V6 n (n ^ k) { tables := s.1, steps := s.2, large := false } s := .inl ⟨h60, rfl⟩
    obtain ⟨R', e, hR'⟩ := Ats hR hO hf0 hfl (X := { tables := s.1, steps := s.2, large := false }) rfl hr0 (by omega) hc
    rw [Akv] at hR'
    have step : Bq n ops first ((old : Int), { tables := s.1, steps := s.2, large := false }) = some (.inl ((s.1.length : Int), R')) := by
     unfold Bq
     dsimp only
     rw [if_pos (by omega), if_neg (by simp)]
     simp only [Option.bind_some]
     rw [e]; rfl
    rw [Lv step]
    have hle := Agn (Gj n (n ^ k) ops s.1 s.1.length) s
    have hle' : s.1.length ≤ (Gr n (n ^ k) ops s).1.length := hle
    rcases hR' with ⟨h1, rfl⟩ | ⟨h1, h2, h3, h4⟩
    ·have hI2 : InvC n k ops (Gr n (n ^ k) ops s) := (hR.seqO (m := ops.length) (Nat.le_refl _)).inv
     have er : Qa n (n ^ k) ops (m + 1 + 1) old s = Qa n (n ^ k) ops (m + 1) s.1.length (Gr n (n ^ k) ops s) := by
      conv => lhs; unfold Qa
      rw [if_pos hlt, if_neg (by omega)]
     rw [er]
     obtain ⟨a, ha⟩ := J4 (Gj n (n ^ k) ops s.1 s.1.length) s
     have ha' : (Gr n (n ^ k) ops s).1 = s.1 ++ a := ha
     refine ih s.1.length (Gr n (n ^ k) ops s) (by omega) (by omega) hI2 (by omega) h1 (.inr fun c hcc => ?_)
     rw [ha', ← Sd (T := s.1) fun j hj => (C0 hj).symm] at hcc
     exact Vo _ s c hcc
    ·have er : Qa n (n ^ k) ops (m + 1 + 1) old s = none := by
      unfold Qa
      rw [if_pos hlt, if_pos h1]
     rw [er]
     refine ⟨R', En ?_, h2, h3, h4⟩
     unfold Bq
     dsimp only
     by_cases hc2 : (s.1.length : Int) < (R'.tables.length : Int)
     ·rw [if_pos hc2, if_pos h2]; rfl
     ·rw [if_neg hc2]; rfl
   ·refine ⟨_, En (t := { tables := s.1, steps := s.2, large := false }) ?_, ?_⟩
    ·unfold Bq
     dsimp only
     rw [if_neg (by omega)]; rfl
    ·unfold Qa; rw [if_neg hlt]; rfl
theorem Akg (hn1 : 0 < n) (hn : n ≤ 8) (hk1 : 1 ≤ k) (hk : k ≤ 3) (hok : ∀ f ∈ ops, I1 n f) (hO : ops.length ≤ 1000) :
  ∃ R, Gb n ops ((List.range k).map (Ik n k)) = some R ∧ As0 n (n ^ k) (Aia n k ops) R := by
 have hpl := N8 hn hk
 have hfl : ((List.range k).map (Ik n k)).length = k := by simp
 unfold Gb
 obtain ⟨R1, e1, h1⟩ := Ft (body := Ew n ops ((List.range k).map (Ik n k))) (fun z => ∃ i, i ≤ k ∧ z.1 = (i : Int) ∧ V6 n (n ^ k) z.2 (Gz ([], []) (fun p => Xn n k p) i)) (fun z => k - z.1.toNat) (fun R => V6 n (n ^ k) R (E4 n k)) (by
  rintro ⟨z, X⟩ ⟨i, hi, hz, hX⟩
  dsimp only at hz hX
  subst hz
  unfold Ew
  dsimp only
  by_cases hik : i < k
  ·have hI : InvC n k ops (Gz ([], []) (fun p => Xn n k p) i) := Z4 hn1 ops _ (Adk n k ops) fun c hc => by
    obtain ⟨p, hp, rfl⟩ := List.mem_map.1 hc
    exact ⟨p, by have := List.mem_range.1 hp; omega, rfl⟩
   have hb := P0 ((List.range i).map fun p => Xn n k p) ([], [])
   have hb' : (Gz ([], []) (fun p => Xn n k p) i).1.length ≤ i := by simpa [Gz] using hb
   have hlen2 := hI.len
   obtain ⟨R2, e2, hR2⟩ := Ajs (P := n ^ k) (by omega) hX hI.tabs (by omega) (c := Xn n k i)
   rw [if_pos (by omega), Af (by omega), Int.toNat_natCast, Ed _ (by simpa using hik), Rj hik]
   have e2' : F1 X (Ik n k i) { Op := -1, Args := [(i : Int)] } = some R2 := e2
   rw [e2']
   simp only [Option.bind_some]
   rw [Af (by unfold InI; omega)]
   rw [← Ni ([], []) (fun p => Xn n k p) i] at hR2
   exact .inl ⟨_, rfl, ⟨i + 1, by omega, by dsimp only; omega, hR2⟩, by dsimp only; omega⟩
  ·have : i = k := by omega
   subst this
   rw [if_neg (by omega)]
   exact .inr ⟨_, rfl, hX⟩) (s := (0, { tables := Ar (List Int), steps := Ar SCloneStep, large := false })) ⟨0, Nat.zero_le _, rfl, .inl ⟨by simp [Gz, Hh], rfl⟩⟩
 rw [e1]
 simp only [Option.bind_some]
 have hil := Aan n k
 have h0 : 0 < (E4 n k).1.length := List.length_pos_of_mem (Vk hk1)
 rcases h1 with ⟨g1, rfl⟩ | ⟨g1, _⟩
 ·obtain ⟨R', e3, h3⟩ := Auo hn1 hn hk hok hO (first := (List.range k).map (Ik n k)) (by omega) (by rw [Ed _ (by simp; omega), Rj hk1, Ri]) 69 0 (E4 n k) (by omega) (Nat.zero_le _) (Aao hn1 ops) h0 g1 (.inl rfl)
  have e3' : At (Bq n ops ((List.range k).map (Ik n k))) (0, { tables := (E4 n k).1, steps := (E4 n k).2, large := false }) = some R' := e3
  rw [e3']
  exact ⟨R', rfl, h3⟩
 ·omega
theorem Anb {a : SAlgebra} (ha : Pw a) (hn : a.Size = n) (hk1 : 1 ≤ k) (hk : k ≤ 3) : ∃ R, Cz a k = some R ∧ As0 n (n ^ k) (Aia n k a.Ops) R := by
 have hL := Bs
 obtain ⟨g1, g2, g3, g4⟩ := ha
 have hnn : a.Size.toNat = n := by omega
 rw [hnn] at g4
 unfold Cz
 have hfl : ((List.range k).map (Ik n k)).length = k := by simp
 have key := Bw (body := C3 a k) (fun i => ((i : Int), ((List.range k).map (Ik n k)).take i)) k ((List.range k).map (Ik n k)) (fun i hi => by
  have e : ((List.range k).map (Ik n k)).take (i + 1) = ((List.range k).map (Ik n k)).take i ++ [Ik n k i] := by
   rw [Di (by omega), Ed _ (by simpa using hi), Rj hi]
  unfold C3
  dsimp only
  rw [if_pos (by omega), hn, S5 (by omega) (by omega) hk hi]
  simp only [Option.bind_some]
  rw [Af (by simp only [List.length_take, List.length_cons, List.length_nil]; omega), Af (by unfold InI; omega), ← e]
  rfl) (by
  unfold C3
  dsimp only
  rw [if_neg (by omega), List.take_of_length_le (by omega)])
 have key' : At (C3 a k) (0, Ar (List Int)) = _ := key
 rw [key', hn]
 simp only [Option.bind_some]
 obtain ⟨R, e, h⟩ := Akg (n := n) (k := k) (ops := a.Ops) (by omega) (by omega) hk1 hk g4 (by omega)
 rw [e]
 exact ⟨R, rfl, h⟩
end
end Go.Proofs.Ytoaojijoefljaaa.Ax
namespace Go.Proofs.Ytoaojijoefljaaa.Ax
open Go Classical
end Go.Proofs.Ytoaojijoefljaaa.Ax
namespace Go.Proofs.Ytoaojijoefljaaa.Ax
open Go Classical
section
end
end Go.Proofs.Ytoaojijoefljaaa.Ax
namespace Go.Proofs.Ytoaojijoefljaaa.Ax
open Go
def Cur (k : Nat) (c : Sl1Cur) : Prop := (∀ x ∈ c.code, 0 ≤ x ∧ x ≤ 255) ∧ c.code.length ≤ 65536 ∧ 0 ≤ c.at_ ∧ c.at_ ≤ k
theorem Cur.mono {k l : Nat} {c : Sl1Cur} (h : Cur k c) (hl : k ≤ l) : Cur l c := ⟨h.1, h.2.1, h.2.2.1, by have := h.2.2.2; omega⟩
theorem Aqq {n : Int} (h0 : 0 ≤ n) (h1 : n ≤ 255) : IntKind.u64.wrap n = n := by
 simp [IntKind.wrap, IntKind.bits, IntKind.signed]
 omega
theorem Agm {c : Sl1Cur} {k : Nat} (h : Cur k c) (hk : k ≤ 1000000000) : ∃ r d, Eh c = some (r, d) ∧ Cur (k + 1) d ∧ 0 ≤ r ∧ r ≤ 255 := by
 obtain ⟨h1, h2, h3, h4⟩ := h
 unfold Eh
 have fin : ∀ q : Int, 0 ≤ q → q ≤ 255 → ∃ r d, (ask (InI (c.at_ + 1)) <|
   if c.at_ + 1 ≤ (c.code.length : Int) then
    some (q, ({ code := c.code, at_ := c.at_ + 1, seed := IntKind.u64.wrap (IntKind.u64.wrap (IntKind.u64.wrap (c.seed * 6364136223846793005) + IntKind.u64.wrap q) + 550289) } : Sl1Cur))
   else some (IntKind.i64.wrap (IntKind.u64.wrap (((BitVec.ofInt IntKind.u64.bits ((IntKind.u64.wrap (IntKind.u64.wrap (IntKind.u64.wrap (c.seed * 6364136223846793005) + IntKind.u64.wrap q) + 550289)).fdiv (2 ^ min (Int.toNat 40) IntKind.u64.bits)) &&& BitVec.ofInt IntKind.u64.bits 255).toNat : Nat) : Int)),
    ({ code := c.code, at_ := c.at_ + 1, seed := IntKind.u64.wrap (IntKind.u64.wrap (IntKind.u64.wrap (c.seed * 6364136223846793005) + IntKind.u64.wrap q) + 550289) } : Sl1Cur))) = some (r, d) ∧ Cur (k + 1) d ∧ 0 ≤ r ∧ r ≤ 255 := by
  intro q hq0 hq1
  rw [Af (by unfold InI; omega)]
  split
  ·exact ⟨_, _, rfl, ⟨h1, h2, by show 0 ≤ c.at_ + 1; omega, by show c.at_ + 1 ≤ ((k + 1 : Nat) : Int); omega⟩, hq0, hq1⟩
  ·refine ⟨_, _, rfl, ⟨h1, h2, by show 0 ≤ c.at_ + 1; omega, by show c.at_ + 1 ≤ ((k + 1 : Nat) : Int); omega⟩, ?_⟩
   generalize BitVec.ofInt IntKind.u64.bits ((IntKind.u64.wrap (IntKind.u64.wrap (IntKind.u64.wrap (c.seed * 6364136223846793005) + IntKind.u64.wrap q) + 550289)).fdiv (2 ^ min (Int.toNat 40) IntKind.u64.bits)) = b
   have hb : (b &&& BitVec.ofInt IntKind.u64.bits 255).toNat ≤ 255 := by
    rw [BitVec.toNat_and]
    have : (BitVec.ofInt IntKind.u64.bits 255).toNat = 255 := by decide
    rw [this]
    exact Nat.and_le_right
   generalize (b &&& BitVec.ofInt IntKind.u64.bits 255).toNat = z at hb
   rw [Aqq (by omega) (by omega), Vl (by omega) (by omega)]
   omega
 by_cases hc : c.at_ < (c.code.length : Int)
 ·rw [if_pos hc, Af ⟨h3, hc⟩]
  have hm := h1 _ (A5 (xs := c.code) (i := c.at_.toNat) (by omega))
  rw [Vl (by omega) (by omega)]
  simp only [Option.bind_some]
  exact fin _ hm.1 hm.2
 ·rw [if_neg hc]
  simp only [Option.bind_some]
  exact fin 0 (by omega) (by omega)
theorem E5 {c : Sl1Cur} {k : Nat} (h : Cur k c) (hk : k ≤ 900000000) (n : Int) : ∃ r d, Av c n = some (r, d) ∧ Cur (k + 2) d ∧ 0 ≤ r ∧ (r < n ∨ (n ≤ 1 ∧ r = 0)) := by
 unfold Av
 by_cases h1 : n ≤ 1
 ·rw [if_pos h1]; exact ⟨0, c, rfl, h.mono (by omega), by omega, .inr ⟨h1, rfl⟩⟩
 ·rw [if_neg h1]
  obtain ⟨r, d, e, hd, a1, a2⟩ := Agm h (by omega)
  simp only [e, Option.bind_some]
  by_cases h2 : n > 200
  ·rw [if_pos h2, Af (by unfold InI; omega)]
   obtain ⟨r2, d2, e2, hd2, b1, b2⟩ := Agm hd (by omega)
   simp only [e2, Option.bind_some]
   rw [Af (by unfold InI; omega), Af (by omega)]
   refine ⟨_, _, rfl, hd2, Int.tmod_nonneg _ (by omega), .inl ?_⟩
   exact Int.tmod_lt_of_pos _ (by omega)
  ·rw [if_neg h2, Af (by omega)]
   refine ⟨_, _, rfl, hd.mono (by omega), Int.tmod_nonneg _ (by omega), .inl ?_⟩
   exact Int.tmod_lt_of_pos _ (by omega)
theorem Alc {c : Sl1Cur} {k : Nat} (h : Cur k c) (hk : k ≤ 900000000) (n : Int) : ∃ b d, E6 c n = some (b, d) ∧ Cur (k + 2) d := by
 unfold E6
 obtain ⟨r, d, e, hd, _, _⟩ := E5 h hk n
 simp only [e, Option.bind_some]
 exact ⟨_, _, rfl, hd⟩
theorem Gu {c : Sl1Cur} {k : Nat} (h : Cur k c) (hk : k ≤ 900000000) (l : List Int) (h0 : 0 < l.length) : ∃ r d, A6 c l = some (r, d) ∧ Cur (k + 2) d ∧ r ∈ l := by
 unfold A6
 obtain ⟨r, d, e, hd, a1, a2⟩ := E5 h hk (l.length : Int)
 simp only [e, Option.bind_some]
 rw [Af (by omega)]
 exact ⟨_, _, rfl, hd, A5 (by omega)⟩
open Classical
end Go.Proofs.Ytoaojijoefljaaa.Ax
namespace Go.Proofs.Ytoaojijoefljaaa.Ax
open Go Classical
def Aqo (n r k : Nat) (S : Nat → Bool) : Prop := ∀ x ∈ Eo n r k, S x.toNat = true
def Atf (a : SAlgebra) (i k : Nat) (S : Nat → Bool) : Prop := Aqo a.Size.toNat (nth a.Ops i).Arity.toNat k S
def Ar5 (H : List Bool) : Nat := H.count true
section
variable {a : SAlgebra}
structure ReadyA (a : SAlgebra) (n : Nat) : Prop where
 good : Pw a
 sz : a.Size = (n : Int)
 pos : 0 < n
 le : n ≤ 8
theorem ReadyA.nat {n : Nat} (h : ReadyA a n) : a.Size.toNat = n := by have := h.sz; omega
theorem ReadyA.op {n : Nat} (h : ReadyA a n) {i : Nat} (hi : i < a.Ops.length) : ∃ r : Nat, (nth a.Ops i).Arity = (r : Int) ∧ r ≤ 3 ∧ (nth a.Ops i).Table.length = n ^ r ∧ F3 (nth a.Ops i).Table n ∧ (nth a.Ops i).Table.length ≤ 512 ∧ (∀ k S, Atf a i k S ↔ Aqo n r k S) := by
 have := h.good.2.2.2 _ (A5 hi)
 rw [h.nat] at this
 obtain ⟨h1, h2, h3, h4⟩ := this
 refine ⟨(nth a.Ops i).Arity.toNat, by omega, by omega, h3, h4, ?_, fun k S => by unfold Atf; rw [h.nat]⟩
 rw [h3]; exact N8 h.le (by omega)
structure Pass (n : Nat) (G : Nat → Bool) (c0 : Bool) (H0 : List Bool) (c : Bool) (H : List Bool) (done : (Nat → Bool) → Prop) : Prop where
 len : H.length = n
 more : ∀ z, nth H0 z = true → nth H z = true
 low : ∀ z, nth H z = true → G z = true
 up : c = true → c0 = true ∨ Ar5 H0 < Ar5 H
 no : c = false → c0 = false ∧ H = H0 ∧ done (nth H)
 mono : Ar5 H0 ≤ Ar5 H
end
end Go.Proofs.Ytoaojijoefljaaa.Ax
namespace Go.Proofs.Ytoaojijoefljaaa.Ax
open Go Classical
theorem An4 {α β : Type} {o : Option α} {k : α → Option β} {Q : α → Prop} {R : β → Prop} (h : ∃ a, o = some a ∧ Q a) (h2 : ∀ a, Q a → ∃ b, k a = some b ∧ R b) : ∃ b, o.bind k = some b ∧ R b := by
 obtain ⟨a, e, hq⟩ := h
 rw [e]; exact h2 a hq
theorem At0 {β : Type} {c : Prop} [Decidable c] {x y : Option β} {R : β → Prop} (h1 : c → ∃ b, x = some b ∧ R b) (h2 : ¬ c → ∃ b, y = some b ∧ R b) : ∃ b, (if c then x else y) = some b ∧ R b := by
 split
 ·exact h1 ‹_›
 ·exact h2 ‹_›
def Ww (a : SAlgebra) : Prop := a.Ops.length ≤ 10 ∧ ∀ f ∈ a.Ops, f.Table.length ≤ 101
theorem Abh {a : SAlgebra} (h : Ww a) : Jk a := ⟨by have := h.1; omega, fun f hf => by have := h.2 f hf; omega⟩
theorem Akm (s : ByteArray) (hs : s.size ≤ 100) : ∃ f, A8 s = some f ∧ f.Table.length ≤ 100 := by
 have hL := Bs
 unfold A8
 obtain ⟨f, e, hf⟩ := Ft (body := Fd s) (fun t => ∃ j : Nat, t.1 = (j : Int) ∧ j ≤ s.size ∧ t.2.Table.length ≤ j) (fun t => s.size - t.1.toNat) (fun f => f.Table.length ≤ 100) (fun t ht => by
  obtain ⟨x4, x3⟩ := t
  obtain ⟨j, g1, g2, g3⟩ := ht
  simp only at g1 g2 g3
  subst g1
  unfold Fd
  dsimp only
  by_cases hj : (j : Int) < (s.size : Int)
  ·left
   rw [if_pos hj, Af (by omega), Af (by simp; omega), Af (by unfold InI; omega)]
   exact ⟨_, rfl, ⟨j + 1, rfl, by omega, by simp; omega⟩, by simp only; omega⟩
  ·right
   rw [if_neg hj]
   exact ⟨_, rfl, by omega⟩) (s := ((0 : Int), ({ Arity := 2, Table := Ar Int } : SOp))) ⟨0, rfl, Nat.zero_le _, by simp [Ar]⟩
 rw [e]
 exact ⟨_, rfl, hf⟩
theorem Aln {n : Int} (hn : n = 2 ∨ n = 3) : ∃ f, Fm n = some f ∧ f.Table.length ≤ 100 := by
 have hL := Bs
 unfold Fm
 obtain ⟨f, e, hf⟩ := Ft (body := Fb n) (fun t => ∃ j : Nat, t.1 = (j : Int) ∧ j ≤ 27 ∧ t.2.Table.length ≤ j) (fun t => 27 - t.1.toNat) (fun f => f.Table.length ≤ 100) (fun t ht => by
  obtain ⟨x4, x3⟩ := t
  obtain ⟨j, g1, g2, g3⟩ := ht
  simp only at g1 g2 g3
  subst g1
  unfold Fb
  dsimp only
  have d1 : ∀ m : Int, (j : Int).tdiv m = (j : Int) / m := fun m => Int.tdiv_eq_ediv_of_nonneg (by omega)
  have d2 : ∀ m : Int, (j : Int).tmod m = (j : Int) % m := fun m => Int.tmod_eq_emod_of_nonneg (by omega)
  rw [d1, d1, d2]
  rcases hn with rfl | rfl
  ·have d3 : ((j : Int) / 2).tmod 2 = ((j : Int) / 2) % 2 := Int.tmod_eq_emod_of_nonneg (by omega)
   rw [d3]
   by_cases hj : (j : Int) < 2 * 2 * 2
   ·left
    rw [Af (by unfold InI; omega), Af (by unfold InI; omega), if_pos hj]
    rw [Af (by unfold InI; omega), Af (by unfold InI; omega), Af (by unfold InI; omega), Af (by unfold InI; omega), Af (by omega), Af (by unfold InI; omega), Af (by omega), Af (by unfold InI; omega), Af (by omega), Af (by simp; omega), Af (by unfold InI; omega)]
    exact ⟨_, rfl, ⟨j + 1, rfl, by omega, by simp; omega⟩, by simp only; omega⟩
   ·right
    rw [Af (by unfold InI; omega), Af (by unfold InI; omega), if_neg hj]
    exact ⟨_, rfl, by omega⟩
  ·have d3 : ((j : Int) / 3).tmod 3 = ((j : Int) / 3) % 3 := Int.tmod_eq_emod_of_nonneg (by omega)
   rw [d3]
   by_cases hj : (j : Int) < 3 * 3 * 3
   ·left
    rw [Af (by unfold InI; omega), Af (by unfold InI; omega), if_pos hj]
    rw [Af (by unfold InI; omega), Af (by unfold InI; omega), Af (by unfold InI; omega), Af (by unfold InI; omega), Af (by omega), Af (by unfold InI; omega), Af (by omega), Af (by unfold InI; omega), Af (by omega), Af (by simp; omega), Af (by unfold InI; omega)]
    exact ⟨_, rfl, ⟨j + 1, rfl, by omega, by simp; omega⟩, by simp only; omega⟩
   ·right
    rw [Af (by unfold InI; omega), Af (by unfold InI; omega), if_neg hj]
    exact ⟨_, rfl, by omega⟩) (s := ((0 : Int), ({ Arity := 3, Table := Ar Int } : SOp))) ⟨0, rfl, Nat.zero_le _, by simp [Ar]⟩
 rw [e]
 exact ⟨_, rfl, hf⟩
theorem Ai4 (k : Int) : ∃ a, H6 k = some a ∧ Ww a := by
 have fin0 : ∀ {z : Int}, Ww { Size := z, Ops := Ar SOp } := ⟨by simp [Ar], fun f hf => by simp [Ar] at hf⟩
 have fin1 : ∀ {z : Int} {f : SOp}, f.Table.length ≤ 100 → Ww { Size := z, Ops := [f] } := fun h => ⟨by simp, fun f hf => by simp at hf; subst hf; omega⟩
 have fin2 : ∀ {z : Int} {f g : SOp}, f.Table.length ≤ 100 → g.Table.length ≤ 100 → Ww { Size := z, Ops := [f, g] } := fun h1 h2 => ⟨by simp, fun f hf => by
  simp only [List.mem_cons, List.not_mem_nil, or_false] at hf
  rcases hf with rfl | rfl <;> omega⟩
 have fin3 : ∀ {z : Int} {f g e : SOp}, f.Table.length ≤ 100 → g.Table.length ≤ 100 → e.Table.length ≤ 100 → Ww { Size := z, Ops := [f, g, e] } := fun h1 h2 h3 => ⟨by simp, fun f hf => by
  simp only [List.mem_cons, List.not_mem_nil, or_false] at hf
  rcases hf with rfl | rfl | rfl <;> omega⟩
 unfold H6
 repeat' (first | refine At0 (fun _ => ?_) (fun _ => ?_) | refine An4 (Akm _ (by decide)) fun f hf => ?_ | refine An4 (Aln (by simp)) fun f hf => ?_)
 all_goals
  first
   | exact ⟨_, rfl, fin0⟩
   | exact ⟨_, rfl, fin1 (by first | assumption | decide)⟩
   | exact ⟨_, rfl, fin2 (by first | assumption | decide) (by first | assumption | decide)⟩
   | exact ⟨_, rfl, fin3 (by first | assumption | decide) (by first | assumption | decide) (by first | assumption | decide)⟩
theorem Aib {c : Sl1Cur} {k : Nat} (h : Cur k c) (hk : k ≤ 600000000) : ∃ a d, Ec c = some (a, d) ∧ Cur (k + 1000) d ∧ Ww a := by
 have hL := Bs
 unfold Ec
 obtain ⟨b, d, e, hd⟩ := Alc h (by omega) 4
 rw [e]
 simp only [Option.bind_some]
 by_cases hb : b = true
 ·rw [if_pos hb]
  obtain ⟨n, d2, e2, hd2, hn⟩ := Gu hd (by omega) [2, 2, 3, 3, 4] (by simp)
  rw [e2]
  simp only [Option.bind_some]
  obtain ⟨m, d3, e3, hd3, hm⟩ := Gu hd2 (by omega) [1, 1, 2] (by simp)
  rw [e3]
  simp only [Option.bind_some]
  obtain ⟨N, rfl, hN⟩ : ∃ N : Nat, n = (N : Int) ∧ 2 ≤ N ∧ N ≤ 4 := ⟨n.toNat, by simp at hn; omega, by simp at hn; omega⟩
  obtain ⟨M, rfl, hM⟩ : ∃ M : Nat, m = (M : Int) ∧ 1 ≤ M ∧ M ≤ 2 := ⟨m.toNat, by simp at hm; omega, by simp at hm; omega⟩
  obtain ⟨⟨a, d4⟩, e4, ⟨ha1, ha2, ha3⟩, hd4⟩ := Ft (body := C7 (N : Int)) (fun s => ∃ j : Nat, s.1 = (j : Int) ∧ j ≤ M ∧ s.2.1.Size = (N : Int) ∧ s.2.1.Ops.length = M - j ∧ (∀ f ∈ s.2.1.Ops, 1 ≤ f.Table.length ∧ f.Table.length ≤ 64) ∧ Cur (k + 6 + 200 * (M - j)) s.2.2) (fun s => s.1.toNat)
   (fun t => (t.1.Size = (N : Int) ∧ t.1.Ops.length = M ∧ ∀ f ∈ t.1.Ops, 1 ≤ f.Table.length ∧ f.Table.length ≤ 64) ∧ Cur (k + 500) t.2) (fun s hs => by
   obtain ⟨x6, x5, x1⟩ := s
   obtain ⟨j, g1, g2, g3, g4, g5, g6⟩ := hs
   simp only at g1 g2 g3 g4 g5 g6
   subst g1
   unfold C7
   dsimp only
   by_cases hj : (j : Int) > 0
   ·left
    rw [if_pos hj]
    obtain ⟨r, d5, e5, hd5, hr⟩ := Gu g6 (by omega) [0, 1, 2, 2, 3] (by simp)
    rw [e5]
    simp only [Option.bind_some]
    obtain ⟨R, rfl, hR⟩ : ∃ R : Nat, r = (R : Int) ∧ R ≤ 3 := ⟨r.toNat, by simp at hr; omega, by simp at hr; omega⟩
    have hop : ∃ f : SOp, ((if (N : Int) = 4 then if (R : Int) = 3 then some ({ Arity := 2, Table := Ar Int } : SOp) else some { Arity := (R : Int), Table := Ar Int } else some { Arity := (R : Int), Table := Ar Int } : Option SOp)) = some f ∧ f.Table = [] ∧ ∃ Q : Nat, f.Arity = (Q : Int) ∧ 1 ≤ N ^ Q ∧ N ^ Q ≤ 64 ∧ Q ≤ 3 := by
     by_cases h4 : (N : Int) = 4
     ·rw [if_pos h4]
      have h4 : N = 4 := by omega
      subst h4
      by_cases h3 : (R : Int) = 3
      ·rw [if_pos h3]; exact ⟨_, rfl, rfl, 2, rfl, by decide⟩
      ·rw [if_neg h3]
       refine ⟨_, rfl, rfl, R, rfl, ?_⟩
       have : R = 0 ∨ R = 1 ∨ R = 2 := by omega
       rcases this with rfl | rfl | rfl <;> decide
     ·rw [if_neg h4]
      refine ⟨_, rfl, rfl, R, rfl, ?_⟩
      have h5 : N = 2 ∨ N = 3 := by omega
      have : R = 0 ∨ R = 1 ∨ R = 2 ∨ R = 3 := by omega
      rcases h5 with rfl | rfl <;> rcases this with rfl | rfl | rfl | rfl <;> decide
    obtain ⟨f, ef, ht, Q, hQ, q1, q2, q3⟩ := hop
    rw [ef]
    simp only [Option.bind_some]
    rw [hQ, Vh (by omega) q3]
    simp only [Option.bind_some]
    obtain ⟨⟨f2, d6⟩, e6, hf2, hd6⟩ := Ft (body := C5 (N : Int) (j : Int) x5) (fun s => ∃ i : Nat, s.1 = (i : Int) ∧ i ≤ N ^ Q ∧ s.2.1.Table.length = N ^ Q - i ∧ Cur (k + 6 + 200 * (M - j) + 2 + 2 * (N ^ Q - i)) s.2.2) (fun s => s.1.toNat) (fun t => t.1.Table.length = N ^ Q ∧ Cur (k + 6 + 200 * (M - j) + 2 + 2 * N ^ Q) t.2) (fun s hs => by
     obtain ⟨x8, x7, x9⟩ := s
     obtain ⟨i, k1, k2, k3, k4⟩ := hs
     simp only at k1 k2 k3 k4
     subst k1
     unfold C5
     dsimp only
     by_cases hi : (i : Int) > 0
     ·left
      rw [if_pos hi]
      obtain ⟨v, d7, e7, hd7, _⟩ := E5 k4 (by omega) (N : Int)
      rw [e7]
      simp only [Option.bind_some]
      rw [Af (by simp; omega), Af (by unfold InI; omega)]
      exact ⟨_, rfl, ⟨i - 1, by simp only; omega, by omega, by simp; omega, hd7.mono (by omega)⟩, by simp only; omega⟩
     ·right
      rw [if_neg hi]
      exact ⟨_, rfl, by simp only; omega, k4.mono (by omega)⟩) (s := (((N ^ Q : Nat) : Int), f, d5)) ⟨N ^ Q, rfl, Nat.le_refl _, by simp [ht], hd5.mono (by omega)⟩
    rw [e6]
    simp only [Option.bind_some]
    rw [Af (by simp; omega), Af (by unfold InI; omega)]
    simp only at hf2 hd6
    refine ⟨_, rfl, ⟨j - 1, by simp only; omega, by omega, g3, by simp; omega, fun f hf => ?_, hd6.mono (by omega)⟩, by simp only; omega⟩
    rcases List.mem_append.1 hf with h' | h'
    ·exact g5 f h'
    ·rw [List.mem_singleton.1 h']; omega
   ·right
    rw [if_neg hj]
    exact ⟨_, rfl, ⟨g3, by simp only; omega, g5⟩, g6.mono (by omega)⟩) (s := ((M : Int), ({ Size := (N : Int), Ops := Ar SOp } : SAlgebra), d3)) ⟨M, rfl, Nat.le_refl _, rfl, by simp [Ar], fun f hf => by simp [Ar] at hf, hd3.mono (by omega)⟩
  rw [e4]
  simp only [Option.bind_some]
  simp only at ha1 ha2 ha3 hd4
  have h0 : 0 < a.Ops.length := by omega
  have hf0 := ha3 _ (A5 h0)
  have ht : Ww a := ⟨by omega, fun f hf => by have := ha3 f hf; omega⟩
  have hset : ∀ {z : Int} {f : SOp}, f.Table.length ≤ 101 → Ww { Size := z, Ops := a.Ops.set (Int.toNat 0) f } := fun hf => ⟨by simp; omega, fun g hg => by
   rcases List.mem_or_eq_of_mem_set hg with h' | h'
   ·have := ha3 g h'; omega
   ·rw [h']; exact hf⟩
  obtain ⟨w, d5, e5, hd5, w0, _⟩ := E5 hd4 (by omega) 16
  rw [e5]
  simp only [Option.bind_some]
  by_cases c0 : w = 0
  ·rw [if_pos c0, Af (by unfold InI; omega)]
   obtain ⟨r, d6, e6, hd6, _⟩ := Gu hd5 (by omega) [0, 9, (N : Int) + 1] (by simp)
   rw [e6]
   exact ⟨_, _, rfl, hd6.mono (by omega), ht⟩
  rw [if_neg c0]
  by_cases c1 : w = 1
  ·rw [if_pos c1, Af (by omega), Af (by simp only [Int.toNat_zero, List.length_singleton]; omega)]
   exact ⟨_, _, rfl, hd5.mono (by omega), hset (by simp only [Int.toNat_zero, List.length_append, List.length_singleton]; omega)⟩
  rw [if_neg c1]
  by_cases c2 : w = 2
  ·rw [if_pos c2, Af (by omega)]
   obtain ⟨r, d6, e6, hd6, r0, r1⟩ := E5 hd5 (by omega) ((nth a.Ops (Int.toNat 0)).Table.length : Int)
   rw [e6]
   simp only [Option.bind_some]
   obtain ⟨s, d7, e7, hd7, _⟩ := Gu hd6 (by omega) [-1, (N : Int)] (by simp)
   rw [e7]
   simp only [Option.bind_some]
   simp only [Int.toNat_zero] at r1 ⊢
   rw [Af (by omega)]
   exact ⟨_, _, rfl, hd7.mono (by omega), hset (by simp only [List.length_set]; omega)⟩
  rw [if_neg c2]
  by_cases c3 : w = 3
  ·rw [if_pos c3]
   obtain ⟨r, d6, e6, hd6, _⟩ := Gu hd5 (by omega) [-1, 4] (by simp)
   rw [e6]
   simp only [Option.bind_some]
   rw [Af (by omega)]
   exact ⟨_, _, rfl, hd6.mono (by omega), hset (by simp only [Int.toNat_zero]; omega)⟩
  rw [if_neg c3]
  by_cases c4 : w = 4
  ·rw [if_pos c4]
   obtain ⟨⟨a2, d6⟩, e6, ht2, hd6⟩ := Ft (body := Da (N : Int)) (fun s => s.1.Ops.length ≤ 5 ∧ (∀ f ∈ s.1.Ops, f.Table.length ≤ 64) ∧ Cur (k + 502 + 2 * s.1.Ops.length) s.2) (fun s => 5 - s.1.Ops.length) (fun t => Ww t.1 ∧ Cur (k + 600) t.2) (fun s hs => by
    obtain ⟨x5, x1⟩ := s
    obtain ⟨g1, g2, g3⟩ := hs
    simp only at g1 g2 g3
    unfold Da
    dsimp only
    obtain ⟨r, d7, e7, hd7, r0, r1⟩ := E5 g3 (by omega) 2
    rw [e7]
    simp only [Option.bind_some]
    rw [Af (by unfold InI; omega)]
    by_cases hl : (x5.Ops.length : Int) < 4 + r
    ·left
     rw [if_pos hl, Af (by omega), Af (by simp; omega)]
     refine ⟨_, rfl, ⟨by simp; omega, fun f hf => ?_, hd7.mono (by simp; omega)⟩, by simp; omega⟩
     rcases List.mem_append.1 hf with h' | h'
     ·exact g2 f h'
     ·rw [List.mem_singleton.1 h']; simp; omega
    ·right
     rw [if_neg hl]
     exact ⟨_, rfl, ⟨by simp only; omega, fun f hf => by have := g2 f hf; omega⟩, hd7.mono (by omega)⟩) (s := (a, d5)) ⟨by simp only; omega, fun f hf => (ha3 f hf).2, hd5.mono (by omega)⟩
   rw [e6]
   exact ⟨_, _, rfl, hd6.mono (by omega), ht2⟩
  rw [if_neg c4]
  exact ⟨_, _, rfl, hd5.mono (by omega), ht⟩
 ·rw [if_neg hb]
  obtain ⟨r, d2, e2, hd2, _⟩ := E5 hd (by omega) 17
  rw [e2]
  simp only [Option.bind_some]
  obtain ⟨a, e3, ht⟩ := Ai4 r
  rw [e3]
  exact ⟨_, _, rfl, hd2.mono (by omega), ht⟩
theorem Ar2 {code : List Int} (hc : ∀ x ∈ code, 0 ≤ x ∧ x ≤ 255) (hl : code.length ≤ 65536) : Cur 0 ({ code := code, at_ := 0, seed := 0 } : Sl1Cur) := ⟨hc, hl, Int.le_refl _, Int.le_refl _⟩
end Go.Proofs.Ytoaojijoefljaaa.Ax
namespace Go.Proofs.Ytoaojijoefljaaa.Ax
open Go Classical
def Xj (a : SAlgebra) (k : Int) : Prop := Pw a ∧ 1 ≤ k ∧ k ≤ 3 ∧ a.Size.toNat ^ k.toNat ≤ 27
theorem Nt {n : Nat} (hn : n ≤ 8) (k : Int) : B0 n k = some (decide (1 ≤ k ∧ k ≤ 3 ∧ n ^ k.toNat ≤ 27)) := by
 unfold B0
 by_cases h1 : 1 ≤ k
 ·rw [if_pos h1]
  by_cases h3 : k ≤ 3
  ·rw [if_pos h3]
   have e := Vj hn (k := k.toNat) (by omega)
   rw [show ((k.toNat : Nat) : Int) = k by omega] at e
   rw [e]
   simp only [Option.bind_some]
   congr 1
   rw [decide_eq_decide]
   constructor
   ·intro h; exact ⟨h1, h3, by omega⟩
   ·intro h; omega
  ·rw [if_neg h3, decide_eq_false fun h => h3 h.2.1]
 ·rw [if_neg h1, decide_eq_false fun h => h1 h.1]
theorem Tu {n : Nat} (hn : n ≤ 8) (k : Int) : Dx n k = some (decide (1 ≤ k ∧ k ≤ 3 ∧ n ^ k.toNat ≤ 27)) := by
 unfold Dx
 rw [Ae5]
 simp only [Option.bind_some]
 by_cases h1 : 1 ≤ k ∧ k ≤ 3
 ·rw [decide_eq_true h1, if_pos rfl]
  have e := Vh hn (k := k.toNat) (by omega)
  rw [show ((k.toNat : Nat) : Int) = k by omega] at e
  rw [e]
  simp only [Option.bind_some]
  congr 1
  rw [decide_eq_decide]
  constructor
  ·intro h; exact ⟨h1.1, h1.2, by omega⟩
  ·intro h; omega
 ·rw [decide_eq_false h1, if_neg (by simp), decide_eq_false fun h => h1 ⟨h.1, h.2.1⟩]
noncomputable def clA (a : SAlgebra) (k : Int) : Option Clo := if Xj a k then Aia a.Size.toNat k.toNat a.Ops else none
section
variable {a : SAlgebra} {k : Int}
theorem Xj.size (h : Xj a k) : ∃ n m : Nat, a.Size = n ∧ k = m ∧ 1 ≤ n ∧ n ≤ 8 ∧ 1 ≤ m ∧ m ≤ 3 ∧ n ^ m ≤ 27 ∧ a.Size.toNat = n ∧ k.toNat = m := by
 obtain ⟨g1, g2, _, _⟩ := h.1
 obtain ⟨h1, h2, h3⟩ := h.2
 exact ⟨a.Size.toNat, k.toNat, by omega, by omega, by omega, by omega, by omega, by omega, h3, rfl, rfl⟩
theorem Xj.ops (h : Xj a k) : ∀ f ∈ a.Ops, I1 a.Size.toNat f := h.1.2.2.2
theorem G5 {s : Clo} (h : clA a k = some s) : Xj a k ∧ CloC a.Size.toNat k.toNat a.Ops s := by
 unfold clA at h
 by_cases hc : Xj a k
 ·rw [if_pos hc] at h
  obtain ⟨n, m, e1, e2, b1, b2, b3, b4, b5, b6, b7⟩ := hc.size
  exact ⟨hc, Apk (by omega) (by omega) hc.ops h⟩
 ·rw [if_neg hc] at h; cases h
theorem Ja (hs : Jk a) : (clA a k = none ∧ Bv a k = some (none, false)) ∨ ∃ s S, clA a k = some s ∧ Bv a k = some (some (fnd s S), true) ∧ So S s.1 := by
 unfold Bv
 rw [U1 hs]
 simp only [Option.bind_some]
 by_cases hg : Pw a
 ·rw [decide_eq_true hg, if_pos rfl]
  have hn : ((a.Size.toNat : Nat) : Int) = a.Size := by have := hg.1; omega
  have e := Nt (n := a.Size.toNat) (by have := hg.2.1; omega) k
  rw [hn] at e
  rw [e]
  simp only [Option.bind_some]
  by_cases hr : 1 ≤ k ∧ k ≤ 3 ∧ a.Size.toNat ^ k.toNat ≤ 27
  ·rw [decide_eq_true hr, if_pos rfl]
   have hc : Xj a k := ⟨hg, hr⟩
   obtain ⟨n, m, e1, e2, b1, b2, b3, b4, b5, b6, b7⟩ := hc.size
   have hcl : clA a k = Aia a.Size.toNat k.toNat a.Ops := if_pos hc
   rw [hcl, b6, b7, e1, e2]
   have hops := hc.ops
   rw [b6] at hops
   simp only [Option.bind_some]
   rcases Aok (n := n) (k := m) (ops := a.Ops) b1 b2 b3 b4 hops (by have := hg.2.2.1; omega) with ⟨g1, g2⟩ | ⟨s, S, g1, g2, g3⟩
   ·rw [g2]; exact .inl ⟨g1, rfl⟩
   ·rw [g2]; exact .inr ⟨s, S, g1, rfl, g3⟩
  ·rw [decide_eq_false hr, if_neg (by simp)]
   exact .inl ⟨if_neg fun h => hr h.2, rfl⟩
 ·rw [decide_eq_false hg, if_neg (by simp)]
  exact .inl ⟨if_neg fun h => hg h.1, rfl⟩
theorem Mf (h : Xj a k) : ∃ R, Cz a k = some R ∧ As0 a.Size.toNat (a.Size.toNat ^ k.toNat) (clA a k) R := by
 obtain ⟨n, m, e1, e2, b1, b2, b3, b4, b5, b6, b7⟩ := h.size
 have hcl : clA a k = Aia a.Size.toNat k.toNat a.Ops := if_pos h
 rw [hcl, b6, b7, e2]
 exact Anb h.1 e1 b3 b4
noncomputable def Tm (a : SAlgebra) (f : SOp) : Bool × Bool := match clA a f.Arity with
 | none => (false, false)
 | some s => if I1 a.Size.toNat f then (decide (f.Table ∈ s.1), true) else (false, false)
theorem Atm {n : Nat} (hn : n ≤ 8) {f : SOp} (hf : I1 n f) : ∀ x ∈ f.Table, 0 ≤ x ∧ x < 65536 := fun x hx => by have := hf.2.2.2 x hx; omega
theorem Anm {s : Clo} (h : CloC a.Size.toNat k.toNat a.Ops s) (hg : Pw a) : ∀ t ∈ s.1, ∀ x ∈ t, 0 ≤ x ∧ x < 65536 := fun t ht => Aam (by have := hg.2.1; omega) (h.inv.tabs t ht)
theorem Aim (hg : Pw a) {f : SOp} (hl : f.Table.length ≤ LIM) : D6 f a.Size = some (decide (I1 a.Size.toNat f)) := by
 have hn : ((a.Size.toNat : Nat) : Int) = a.Size := by have := hg.1; omega
 have := Al3 (n := a.Size.toNat) (by have := hg.2.1; omega) hl
 rwa [hn] at this
theorem Atb (hg : Pw a) {f : SOp} (hl : f.Table.length ≤ LIM) : Hl a.Size f = some (decide (I1 a.Size.toNat f)) := by
 have hn : ((a.Size.toNat : Nat) : Int) = a.Size := by have := hg.1; omega
 have := Amh (n := a.Size.toNat) (by have := hg.1; omega) (by have := hg.2.1; omega) hl
 rwa [hn] at this
theorem Anl (hs : Jk a) {f : SOp} (hl : f.Table.length ≤ LIM) : Ia a f = some (decide (Xj a f.Arity ∧ I1 a.Size.toNat f)) := by
 unfold Ia
 rw [Adp hs]
 simp only [Option.bind_some]
 by_cases hg : Pw a
 ·rw [decide_eq_true hg, if_pos rfl]
  have hn : ((a.Size.toNat : Nat) : Int) = a.Size := by have := hg.1; omega
  have e := Tu (n := a.Size.toNat) (by have := hg.2.1; omega) f.Arity
  rw [hn] at e
  rw [e]
  simp only [Option.bind_some]
  by_cases hr : 1 ≤ f.Arity ∧ f.Arity ≤ 3 ∧ a.Size.toNat ^ f.Arity.toNat ≤ 27
  ·rw [decide_eq_true hr, if_pos rfl, Atb hg hl]
   simp only [Option.bind_some]
   congr 1
   rw [decide_eq_decide]
   exact ⟨fun h => ⟨⟨hg, hr⟩, h⟩, fun h => h.2⟩
  ·rw [decide_eq_false hr, if_neg (by simp), decide_eq_false fun h => hr h.1.2]
 ·rw [decide_eq_false hg, if_neg (by simp), decide_eq_false fun h => hg h.1.1]
theorem Agr {T : List (List Int)} {t : List Int} (hT : T.length ≤ 1048576) (hr : ∀ u ∈ T, u.length ≤ LIM) : ∃ r, Cy T t = some r ∧ decide (r ≥ 0) = decide (t ∈ T) := by
 rcases Uc (t := t) hT hr with ⟨h1, e⟩ | ⟨i, hi, h1, _, e⟩
 ·exact ⟨-1, e, by rw [decide_eq_false h1]; rfl⟩
 ·exact ⟨_, e, by rw [decide_eq_true (show t ∈ T by rw [← h1]; exact A5 hi)]; simp⟩
theorem N2 {s : Clo} {n k : Nat} {ops : List SOp} (h : CloC n k ops s) (hp : n ^ k ≤ 27) : ∀ u ∈ s.1, u.length ≤ LIM := fun u hu => by
 have := (h.inv.tabs u hu).1
 have := Bs
 omega
theorem Wh (hs : Jk a) {f : SOp} (hl : f.Table.length ≤ 1048576) : Dt a f = some (Tm a f) ∧ Du a f = some (Tm a f) := by
 have hL := Bs
 constructor
 ·unfold Dt Tm
  rcases Ja (k := f.Arity) hs with ⟨h1, e⟩ | ⟨s, S, h1, e, hS⟩
  ·rw [e, h1]
   simp
  ·obtain ⟨hc, hcl⟩ := G5 h1
   rw [e, h1]
   simp only [Option.bind_some, if_true]
   rw [Aim hc.1 (by omega)]
   simp only [Option.bind_some]
   by_cases ho : I1 a.Size.toNat f
   ·rw [decide_eq_true ho, if_pos rfl, if_pos ho]
    simp only [Option.bind_some]
    rw [X4 hl]
    simp only [Option.bind_some]
    have hf : (fnd s S).seen = S := rfl
    rw [hf, hS (Xa f.Table)]
    congr 2
    rw [decide_eq_decide]
    constructor
    ·rintro ⟨t, ht, ek⟩
     rwa [← Ak6 (Anm hcl hc.1 t ht) (Atm (by have := hc.1.2.1; omega) ho) ek]
    ·exact fun h => ⟨_, h, rfl⟩
   ·rw [decide_eq_false ho, if_neg (by simp), if_neg ho]
    rfl
 ·unfold Du Tm
  rw [Anl hs (by omega)]
  simp only [Option.bind_some]
  by_cases hc : Xj a f.Arity
  ·by_cases ho : I1 a.Size.toNat f
   ·rw [decide_eq_true ⟨hc, ho⟩, if_pos rfl]
    obtain ⟨R, e, hR⟩ := Mf hc
    rw [e]
    simp only [Option.bind_some]
    cases h1 : clA a f.Arity with
    | none =>
      rw [h1] at hR
      rw [if_pos hR.1]
    | some s =>
      rw [h1] at hR
      obtain ⟨_, hcl⟩ := G5 h1
      have hR' : R = { tables := s.1, steps := s.2, large := false } := hR
      rw [hR']
      dsimp only
      rw [if_neg (by simp), if_pos ho]
      obtain ⟨r, e2, hr⟩ := Agr (T := s.1) (t := f.Table) (by have := hcl.le; omega) (N2 hcl hc.2.2.2)
      rw [e2]
      simp only [Option.bind_some]
      rw [hr]
   ·rw [decide_eq_false fun h => ho h.2, if_neg (by simp)]
    cases h1 : clA a f.Arity with
    | none => rfl
    | some s => dsimp only; rw [if_neg ho]
  ·rw [decide_eq_false fun h => hc h.1, if_neg (by simp)]
   have h1 : clA a f.Arity = none := if_neg hc
   rw [h1]
theorem Aoe {st : List SCloneStep} (hl : st.length ≤ 1000) (ha : ∀ s ∈ st, s.Args.length ≤ LIM) : Hq st = some st := by
 have hL := Bs
 unfold Hq
 have key := Bw (body := Dm st) (fun i => ((i : Int), st.take i)) st.length st (fun i hi => by
  unfold Dm
  dsimp only
  rw [if_pos (by omega)]
  repeat rw [Af (by omega)]
  rw [Int.toNat_natCast, Ami (ha _ (A5 hi))]
  simp only [Option.bind_some]
  rw [Af (by omega), Af (by simp only [List.length_take, List.length_cons, List.length_nil]; omega), Af (by unfold InI; omega), Di hi]
  rfl) (by
  unfold Dm
  dsimp only
  rw [if_neg (by omega), List.take_length])
 have key' : At (Dm st) (0, Ar SCloneStep) = _ := key
 rw [key']; rfl
theorem Api {s : Clo} {n k : Nat} {ops : List SOp} (h : CloC n k ops s) (hops : ∀ f ∈ ops, I1 n f) : ∀ st ∈ s.2, st.Args.length ≤ 3 := by
 intro st hst
 obtain ⟨i, hi, rfl⟩ := Sf.1 hst
 rw [h.inv.len] at hi
 rcases h.inv.steps i hi with ⟨_, p, _, e, _⟩ | ⟨op, hop, _, e, _, _⟩
 ·rw [e]; simp
 ·rw [e]; have := (hops _ (A5 hop)).2.1; omega
theorem Zb (hs : Jk a) {f : SOp} (hl : f.Table.length ≤ 1048576) : ∃ r, Es a f = some r ∧ Eu a f = some r ∧ r.1.length ≤ 60 ∧ (∀ st ∈ r.1, st.Args.length ≤ 3) ∧
  ((r.2 = false ∧ Tm a f ≠ (true, true)) ∨ (r.2 = true ∧ Tm a f = (true, true) ∧ ∃ s i, clA a f.Arity = some s ∧ I1 a.Size.toNat f ∧ i < s.1.length ∧ nth s.1 i = f.Table ∧ r.1 = s.2.take (i + 1))) := by
 have hL := Bs
 unfold Es Eu
 rw [Anl hs (by omega)]
 simp only [Option.bind_some]
 rcases Ja (k := f.Arity) hs with ⟨h1, e⟩ | ⟨s, S, h1, e, hS⟩
 ·rw [e]
  simp only [Option.bind_some]
  have hno : Tm a f ≠ (true, true) := by unfold Tm; rw [h1]; simp
  refine ⟨(Ar SCloneStep, false), by simp, ?_, by simp, by simp, .inl ⟨rfl, hno⟩⟩
  by_cases hc : Xj a f.Arity ∧ I1 a.Size.toNat f
  ·rw [decide_eq_true hc, if_pos rfl]
   obtain ⟨R, e2, hR⟩ := Mf hc.1
   rw [h1] at hR
   have hpl := hc.1.2.2.2
   rw [e2]
   simp only [Option.bind_some]
   obtain ⟨r, e3, _⟩ := Agr (T := R.tables) (t := f.Table) (by have := hR.2.1; omega) (fun u hu => by have := (hR.2.2 u hu).1; omega)
   rw [e3]
   simp only [Option.bind_some]
   rw [if_pos hR.1]; rfl
  ·rw [decide_eq_false hc, if_neg (by simp)]
 ·obtain ⟨hc, hcl⟩ := G5 h1
  have hpl := hc.2.2.2
  have hle := hcl.le
  have hln := hcl.inv.len
  rw [e]
  simp only [Option.bind_some, if_true]
  rw [Aim hc.1 (by omega)]
  simp only [Option.bind_some]
  by_cases ho : I1 a.Size.toNat f
  ·rw [decide_eq_true ho, if_pos rfl, decide_eq_true ⟨hc, ho⟩, if_pos rfl]
   simp only [Option.bind_some]
   obtain ⟨R, e2, hR⟩ := Mf hc
   rw [h1] at hR
   have hR' : R = { tables := s.1, steps := s.2, large := false } := hR
   rw [e2, hR']
   simp only [Option.bind_some]
   have hft : (fnd s S).tables = s.1 := rfl
   have hfs : (fnd s S).steps = s.2 := rfl
   have step : ∀ i, i < s.1.length → Be f (fnd s S) (i : Int) = if nth s.1 i = f.Table then some (.inr (.inl (s.2.take (i + 1)))) else some (.inl ((i + 1 : Nat) : Int)) := by
    intro i hi
    unfold Be
    rw [hft, hfs, if_pos (by omega), Af (by omega), Int.toNat_natCast, Al5 (N2 hcl hpl _ (A5 hi))]
    simp only [Option.bind_some, decide_eq_true_eq]
    split
    ·rw [Af (by unfold InI; omega), Af (by omega)]
     congr 2
    ·rw [Af (by unfold InI; omega)]; rfl
   have stop : Be f (fnd s S) (s.1.length : Int) = some (.inr (.inr ())) := by
    unfold Be
    rw [hft, if_neg (by omega)]
   have htf : Tm a f = (decide (f.Table ∈ s.1), true) := by unfold Tm; rw [h1]; dsimp only; rw [if_pos ho]
   rcases Uc (T := s.1) (t := f.Table) (by omega) (N2 hcl hpl) with ⟨hm, e3⟩ | ⟨i, hi, hi1, hi2, e3⟩
   ·have key := Bw (body := Be f (fnd s S)) (fun i => (i : Int)) s.1.length (.inr ()) (fun j hj => by rw [step j hj, if_neg fun h => hm (by rw [← h]; exact A5 hj)]) stop
    have key' : At (Be f (fnd s S)) 0 = _ := key
    rw [key', e3]
    simp only [Option.bind_some]
    refine ⟨(Ar SCloneStep, false), rfl, ?_, by simp, by simp, .inl ⟨rfl, ?_⟩⟩
    ·rw [if_neg (by simp), if_pos (by omega)]; rfl
    ·rw [htf, decide_eq_false hm]; simp
   ·have key := Vg (body := Be f (fnd s S)) (fun i => (i : Int)) 0 i (.inl (s.2.take (i + 1))) (Nat.zero_le _) (fun j _ hj => by rw [step j (by omega), if_neg (hi2 j hj)]) (by rw [step i hi, if_pos hi1])
    have key' : At (Be f (fnd s S)) 0 = _ := key
    rw [key', e3]
    simp only [Option.bind_some]
    have hargs : ∀ st ∈ s.2.take (i + 1), st.Args.length ≤ 3 := fun st hst => Api hcl hc.ops st (List.mem_of_mem_take hst)
    refine ⟨(s.2.take (i + 1), true), rfl, ?_, by rw [List.length_take]; omega, hargs, .inr ⟨rfl, ?_, s, i, h1, ho, hi, hi1, rfl⟩⟩
    ·rw [if_neg (by simp), if_neg (by omega)]
     simp only [Option.bind_some]
     rw [Af (by unfold InI; omega), Af (by omega)]
     have et : List.take (((i : Int) + 1).toNat - Int.toNat 0) (List.drop (Int.toNat 0) s.2) = s.2.take (i + 1) := by
      simp
     rw [et, Aoe (by rw [List.length_take]; omega) (fun st hst => by have := hargs st hst; omega)]
     rfl
    ·rw [htf, decide_eq_true (show f.Table ∈ s.1 by rw [← hi1]; exact A5 hi)]
  ·rw [decide_eq_false ho, if_neg (by simp), decide_eq_false fun h => ho h.2, if_neg (by simp)]
   refine ⟨(Ar SCloneStep, false), rfl, rfl, by simp, by simp, .inl ⟨rfl, ?_⟩⟩
   unfold Tm
   rw [h1]
   dsimp only
   rw [if_neg ho]; simp
def Hg (k : Int) (T : List (List Int)) : List SOp := T.map fun t => { Arity := k, Table := t }
theorem Ag8 {T : List (List Int)} (hT : T.length ≤ 1000) (hr : ∀ u ∈ T, u.length ≤ LIM) : Ib k T = some (Hg k T) ∧ I4 k T = some (Hg k T) := by
 have hL := Bs
 have e : ∀ i, i < T.length → (Hg k T).take (i + 1) = (Hg k T).take i ++ [{ Arity := k, Table := nth T i }] := fun i hi => by
  unfold Hg
  rw [Di (by simpa using hi), Ed _ hi]
 have hl : (Hg k T).length = T.length := by simp [Hg]
 constructor
 ·unfold Ib
  have key := Bw (body := Ep k T) (fun i => ((i : Int), (Hg k T).take i)) T.length (Hg k T) (fun i hi => by
   unfold Ep
   dsimp only
   rw [if_pos (by omega), Af (by omega), Int.toNat_natCast, Ak0 (hr _ (A5 hi))]
   simp only [Option.bind_some]
   rw [Af (by simp only [List.length_take, List.length_cons, List.length_nil]; omega), Af (by unfold InI; omega), ← e i hi]
   rfl) (by
   unfold Ep
   dsimp only
   rw [if_neg (by omega), List.take_of_length_le (by omega)])
  have key' : At (Ep k T) (0, Ar SOp) = _ := key
  rw [key']; rfl
 ·unfold I4
  have key := Bw (body := D1 k T) (fun i => ((i : Int), (Hg k T).take i)) T.length (Hg k T) (fun i hi => by
   unfold D1
   dsimp only
   rw [if_pos (by omega), Af (by omega), Int.toNat_natCast, Ami (hr _ (A5 hi))]
   simp only [Option.bind_some]
   rw [Af (by simp only [List.length_take, List.length_cons, List.length_nil]; omega), Af (by unfold InI; omega), ← e i hi]
   rfl) (by
   unfold D1
   dsimp only
   rw [if_neg (by omega), List.take_of_length_le (by omega)])
  have key' : At (D1 k T) (0, Ar SOp) = _ := key
  rw [key']; rfl
noncomputable def tfR (a : SAlgebra) (k : Int) : List SOp × Bool := match clA a k with
 | none => ([], false)
 | some s => (Hg k s.1, true)
theorem W2 (hs : Jk a) : Ee a k = some (tfR a k) ∧ Ea a k = some (tfR a k) := by
 have hL := Bs
 constructor
 ·unfold Ee tfR
  rcases Ja (k := k) hs with ⟨h1, e⟩ | ⟨s, S, h1, e, _⟩
  ·rw [e, h1]; rfl
  ·obtain ⟨hc, hcl⟩ := G5 h1
   rw [e, h1]
   simp only [Option.bind_some, if_true]
   have := (Ag8 (k := k) (T := s.1) (by have := hcl.le; omega) (N2 hcl hc.2.2.2)).1
   have hft : (fnd s S).tables = s.1 := rfl
   rw [hft, this]; rfl
 ·unfold Ea tfR
  rw [Adp hs]
  simp only [Option.bind_some]
  by_cases hg : Pw a
  ·rw [decide_eq_true hg, if_pos rfl]
   have hn : ((a.Size.toNat : Nat) : Int) = a.Size := by have := hg.1; omega
   have e := Tu (n := a.Size.toNat) (by have := hg.2.1; omega) k
   rw [hn] at e
   rw [e]
   simp only [Option.bind_some]
   by_cases hr : 1 ≤ k ∧ k ≤ 3 ∧ a.Size.toNat ^ k.toNat ≤ 27
   ·rw [decide_eq_true hr, if_pos rfl]
    have hc : Xj a k := ⟨hg, hr⟩
    obtain ⟨R, e2, hR⟩ := Mf hc
    simp only [Option.bind_some]
    rw [e2]
    simp only [Option.bind_some]
    cases h1 : clA a k with
    | none =>
      rw [h1] at hR
      rw [if_pos hR.1]
    | some s =>
      rw [h1] at hR
      obtain ⟨_, hcl⟩ := G5 h1
      have hR' : R = { tables := s.1, steps := s.2, large := false } := hR
      rw [hR']
      dsimp only
      rw [if_neg (by simp), (Ag8 (k := k) (T := s.1) (by have := hcl.le; omega) (N2 hcl hc.2.2.2)).2]
      rfl
   ·rw [decide_eq_false hr, if_neg (by simp)]
    have h1 : clA a k = none := if_neg fun h => hr h.2
    rw [h1]; rfl
  ·rw [decide_eq_false hg, if_neg (by simp)]
   have h1 : clA a k = none := if_neg fun h => hg h.1
   rw [h1]; rfl
theorem Ak3 (hs : Jk a) {s : Clo} (h : clA a k = some s) : F8 a k = some ((s.1.length : Int), true) := by
 unfold F8
 rcases Ja (k := k) hs with ⟨h1, e⟩ | ⟨s', S, h1, e, _⟩
 ·rw [h] at h1; cases h1
 ·rw [h] at h1; cases h1
  rw [e]; rfl
theorem Agq {s : Clo} (h : clA a k = some s) {m : Nat} (hm : m ≤ s.1.length) : Gk a k (s.2.take m) = some (s.1.take m, true) := by
 have hL := Bs
 obtain ⟨hc, hcl⟩ := G5 h
 obtain ⟨n, K, e1, e2, b1, b2, b3, b4, b5, b6, b7⟩ := hc.size
 have hops := hc.ops
 rw [b6] at hops
 rw [b6, b7] at hcl
 have hle := hcl.le
 have hln := hcl.inv.len
 have hsl : (s.2.take m).length = m := by rw [List.length_take]; omega
 have hn4 := hc.1.2.2.1
 unfold Gk
 rw [if_neg (by omega)]
 have key := Bw (body := Dk a k (s.2.take m)) (fun i => ((i : Int), s.1.take i)) m (.inr (s.1.take m)) (fun i hi => by
  have hst : nth (s.2.take m) i = nth s.2 i := by rw [Hk (by omega), Hk (by omega), List.getElem_take]
  have hti : (s.1.take i).length = i := by rw [List.length_take]; omega
  have en : s.1.take (i + 1) = s.1.take i ++ [nth s.1 i] := Di (by omega)
  unfold Dk
  dsimp only
  rw [if_pos (by omega), Af (by omega), Int.toNat_natCast, hst]
  rcases hcl.inv.steps i (by omega) with ⟨g1, p, g2, g3, g4⟩ | ⟨op, g1, g2, g3, g4, g5⟩
  ·rw [if_pos g1, g3, if_neg (by simp), Ads _ _ (by simp only [List.length_cons, List.length_nil]; omega), decide_eq_true (show F3 [(p : Int)] k from fun x hx => by rw [List.mem_singleton.1 hx]; omega)]
   simp only [Option.bind_some, if_true]
   have e0 : nth [(p : Int)] (Int.toNat 0) = (p : Int) := rfl
   rw [Af (by simp), e0, e1, e2, Sj b1 b2 b4 g2]
   simp only [Option.bind_some]
   rw [Af (by simp only [List.length_cons, List.length_nil]; omega), Af (by unfold InI; omega), ← g4, ← en]
   rfl
  ·have hf := hops _ (A5 g1)
   have hA := hf.2.1
   have hA0 := hf.1
   rw [if_neg (by omega), if_neg (by omega), if_neg (by omega), Af (by omega), g2, Int.toNat_natCast, if_neg (by omega), Ads _ _ (by omega), decide_eq_true g4]
   simp only [Option.bind_some, if_true]
   have inner : At (Dj a k (s.2.take m) (i : Int) (s.1.take i)) (0, Ar (List Int)) = some ((nth s.2 i).Args.map fun x => nth s.1 x.toNat) := by
    have key := Bw (body := Dj a k (s.2.take m) (i : Int) (s.1.take i)) (fun j => ((j : Int), ((nth s.2 i).Args.map fun x => nth s.1 x.toNat).take j)) (nth s.2 i).Args.length ((nth s.2 i).Args.map fun x => nth s.1 x.toNat) (fun j hj => by
     have hx := g4 _ (A5 hj)
     have e : ((nth s.2 i).Args.map fun x => nth s.1 x.toNat).take (j + 1) = ((nth s.2 i).Args.map fun x => nth s.1 x.toNat).take j ++ [nth s.1 (nth (nth s.2 i).Args j).toNat] := by
      rw [Di (by simpa using hj), Ed _ hj]
     have ex : nth (s.1.take i) (nth (nth s.2 i).Args j).toNat = nth s.1 (nth (nth s.2 i).Args j).toNat := by rw [Hk (xs := s.1.take i) (by omega), List.getElem_take, Hk (xs := s.1) (by omega)]
     unfold Dj
     dsimp only
     rw [Int.toNat_natCast, hst, if_pos (by omega), Af (by omega), Int.toNat_natCast, Af (by omega), ex, Af (by simp only [List.length_take, List.length_map, List.length_cons, List.length_nil]; omega), Af (by unfold InI; omega), ← e]
     rfl) (by
     unfold Dj
     dsimp only
     rw [Int.toNat_natCast, hst, if_neg (by omega), List.take_of_length_le (by simp)])
    exact key
   rw [inner]
   simp only [Option.bind_some]
   have hok : ∀ t ∈ (nth s.2 i).Args.map fun x => nth s.1 x.toNat, Iq n (n ^ K) t := fun t ht => by
    obtain ⟨x, hx, rfl⟩ := List.mem_map.1 ht
    have := g4 x hx
    exact hcl.inv.tabs _ (A5 (by omega))
   rw [Af (by omega), e1, e2, Vj b2 b4]
   simp only [Option.bind_some]
   rw [Mx b2 hf (by rw [List.length_map, g3]) hok (by omega)]
   simp only [Option.bind_some]
   rw [Af (by simp only [List.length_cons, List.length_nil]; omega), Af (by unfold InI; omega), ← g5, ← en]
   rfl) (by
  unfold Dk
  dsimp only
  rw [if_neg (by omega)])
 have key' : At (Dk a k (s.2.take m)) (0, Ar (List Int)) = _ := key
 rw [key']; rfl
theorem Aq5 {β : Type} (hs : Jk a) (hc : Xj a k) (x : Option β) (y : Option β) : ((((Ct (a)).bind fun r1 =>
   if (r1) = true then
   (B0 (a.Size) (k)).bind fun r3 =>
   if (r3) = true then
    some (.inl ())
   else
    some (.inr ())
   else
   some (.inr ()) : Option (Unit ⊕ Unit))).bind fun t => match t with
 | (.inl _) => x
 | (.inr _) => y) = x := by
 rw [U1 hs, decide_eq_true hc.1]
 simp only [Option.bind_some, if_true]
 have hn : ((a.Size.toNat : Nat) : Int) = a.Size := by have := hc.1.1; omega
 have e := Nt (n := a.Size.toNat) (by have := hc.1.2.1; omega) k
 rw [hn, decide_eq_true hc.2] at e
 rw [e]; rfl
theorem Ac1 (hs : Jk a) {s : Clo} (h : clA a k = some s) {m : Nat} (hm : m ≤ s.1.length) : Ev a k (s.2.take m) = some (true, true) := by
 obtain ⟨hc, hcl⟩ := G5 h
 unfold Ev
 refine (Aq5 hs hc _ _).trans ?_
 rw [Agq h hm]; rfl
theorem Xq (hs : Jk a) {s : Clo} (h : clA a k = some s) {m : Nat} (hm : m ≤ s.1.length) : C6 a k (s.2.take m) = some (Hg k (s.1.take m), true) := by
 obtain ⟨hc, hcl⟩ := G5 h
 unfold C6
 refine (Aq5 hs hc _ _).trans ?_
 rw [Agq h hm]
 simp only [Option.bind_some, if_true]
 rw [(Ag8 (k := k) (T := s.1.take m) (by rw [List.length_take]; have := hcl.le; omega) (fun u hu => N2 hcl hc.2.2.2 u (List.mem_of_mem_take hu))).1]
 rfl
theorem Auf {list : List SOp} {q : List (ByteArray × Bool)} {x73 x15 : Int} {r : List Int} {xs : List (List Int)} (hl : xs.length = r.length) (hr : ∀ x ∈ r, 0 ≤ x ∧ x < list.length) (h1 : r.length ≤ 1000) :
  At (Cd a k list q x73 x15 r) (0, xs) = some (r.map fun x => (nth list x.toNat).Table) := by
 have key := Bw (body := Cd a k list q x73 x15 r) (fun i => ((i : Int), (r.map fun x => (nth list x.toNat).Table).take i ++ xs.drop i)) r.length (r.map fun x => (nth list x.toNat).Table) (fun i hi => by
  have hx := hr _ (A5 hi)
  have e : (r.map fun x => (nth list x.toNat).Table).take (i + 1) = (r.map fun x => (nth list x.toNat).Table).take i ++ [(nth list (nth r i).toNat).Table] := by
   rw [Di (by simpa using hi), Ed _ hi]
  unfold Cd
  dsimp only
  rw [if_pos (by omega), Af (by omega), Int.toNat_natCast, Af hx, Af (by simp; omega), Af (by unfold InI; omega), Ajj _ _ _ (by simp; omega) (by omega), ← e]
  rfl) (by
  unfold Cd
  dsimp only
  rw [if_neg (by omega), List.take_of_length_le (by simp), List.drop_of_length_le (by omega), List.append_nil])
 simpa using key
theorem Ac7 (hs : Jk a) {s : Clo} (h : clA a k = some s) : Er a k (Hg k s.1) = some (true, true) := by
 have hL := Bs
 obtain ⟨hc, hcl⟩ := G5 h
 obtain ⟨n, K, e1, e2, b1, b2, b3, b4, b5, b6, b7⟩ := hc.size
 have hops := hc.ops
 have hkey := Anm hcl hc.1
 rw [b6] at hops
 rw [b6, b7] at hcl
 have hle := hcl.le
 have hn4 := hc.1.2.2.1
 have hl : (Hg k s.1).length = s.1.length := by simp [Hg]
 have hnth : ∀ i, i < s.1.length → nth (Hg k s.1) i = { Arity := k, Table := nth s.1 i } := fun i hi => Ed _ hi
 have h0 : 0 < s.1.length := List.length_pos_of_mem (hcl.prj 0 (by omega))
 unfold Er
 rw [U1 hs, decide_eq_true hc.1]
 simp only [Option.bind_some, if_true]
 have hn : ((a.Size.toNat : Nat) : Int) = a.Size := by have := hc.1.1; omega
 have e := Nt (n := a.Size.toNat) (by have := hc.1.2.1; omega) k
 rw [hn, decide_eq_true hc.2] at e
 rw [e]
 simp only [Option.bind_some, if_true]
 rw [if_neg (by omega)]
 simp only [Option.bind_some]
 obtain ⟨t, e3, S, ht, hS⟩ := Ft (body := Dg a k (Hg k s.1)) (fun z => ∃ i : Nat, z.1 = (i : Int) ∧ i ≤ s.1.length ∧ So z.2 (s.1.take i)) (fun z => s.1.length - z.1.toNat) (fun t => ∃ S, t = .inr S ∧ So S s.1) (by
  rintro ⟨z, S⟩ ⟨i, hz, hi, hS⟩
  dsimp only at hz hS
  subst hz
  unfold Dg
  dsimp only
  by_cases hil : i < s.1.length
  ·have htb := hcl.inv.tabs _ (A5 hil)
   have hot : I1 n { Arity := k, Table := nth s.1 i } := ⟨by show 0 ≤ k; omega, by show k ≤ 3; omega, by show (nth s.1 i).length = n ^ k.toNat; rw [b7]; exact htb.1, htb.2⟩
   have htl := htb.1
   rw [if_pos (by omega), Af (by omega), Int.toNat_natCast, hnth i hil]
   dsimp only
   rw [if_neg (by simp), Aim hc.1 (by show (nth s.1 i).length ≤ LIM; omega), b6, decide_eq_true hot]
   simp only [Option.bind_some, if_true]
   rw [X4 (by show (nth s.1 i).length ≤ 1048576; omega)]
   simp only [Option.bind_some]
   rw [Af (by unfold InI; omega)]
   refine .inl ⟨_, rfl, ⟨i + 1, rfl, by omega, ?_⟩, by dsimp only; omega⟩
   dsimp only
   rw [Di hil]
   exact Ag1 hS _
  ·have : i = s.1.length := by omega
   subst this
   rw [List.take_length] at hS
   rw [if_neg (by omega)]
   exact .inr ⟨_, rfl, S, rfl, hS⟩) (s := (0, Ar (ByteArray × Bool))) ⟨0, rfl, Nat.zero_le _, Ajy⟩
 rw [e3]
 subst ht
 simp only [Option.bind_some]
 have hhas : ∀ u, u ∈ s.1 → (Dr S (Xa u)).getD false = true := fun u hu => by
  rw [hS (Xa u)]; exact decide_eq_true ⟨u, hu, rfl⟩
 have k2 := Bw (body := Cb a k (Hg k s.1) S) (fun i => (i : Int)) K (.inr ()) (fun p hp => by
  have hpl := Ri n K p
  unfold Cb
  rw [if_pos (by omega), e1, e2, Sj b1 b2 b4 hp]
  simp only [Option.bind_some]
  rw [X4 (by omega)]
  simp only [Option.bind_some]
  rw [if_pos (hhas _ (hcl.prj p hp)), Af (by unfold InI; omega)]
  rfl) (by
  unfold Cb
  rw [if_neg (by omega)])
 have k2' : At (Cb a k (Hg k s.1) S) 0 = _ := k2
 rw [k2']
 simp only [Option.bind_some]
 have k5 := Bw (body := Ca a k (Hg k s.1) S) (fun i => (i : Int)) a.Ops.length (.inr ()) (fun op hop => by
  have hf := hops _ (A5 hop)
  have hA := hf.2.1
  have hA0 := hf.1
  obtain ⟨r, hr⟩ : ∃ r : Nat, (nth a.Ops op).Arity = (r : Int) := ⟨_, (Int.toNat_of_nonneg hA0).symm⟩
  have hrr : (nth a.Ops op).Arity.toNat = r := by omega
  have hp := Aq8 (m := s.1.length) (r := r) hle (by omega)
  have hpN := hp r (Nat.le_refl _)
  unfold Ca
  rw [if_pos (by omega), Af (by omega)]
  simp only [Int.toNat_natCast]
  rw [Af (by omega)]
  obtain ⟨t, e4, ht⟩ := Ft (body := Dl a k (Hg k s.1) S (op : Int)) (fun z => ∃ i : Nat, z.2 = (i : Int) ∧ i ≤ s.1.length ^ r ∧ z.1.length = r) (fun z => s.1.length ^ r - z.2.toNat) (fun t => t = .inr ()) (by
   rintro ⟨ys, z⟩ ⟨i, hz, hi, hys⟩
   dsimp only at hz hys
   subst hz
   unfold Dl
   dsimp only
   rw [Int.toNat_natCast, hr, hl, Ajr 216000 (by omega) hp (by omega)]
   simp only [Option.bind_some]
   by_cases hiN : i < s.1.length ^ r
   ·have hal := G4 s.1.length r i
    have hin := L4 hiN
    rw [if_pos (by omega), Aaq h0 (by omega) (by omega)]
    simp only [Option.bind_some]
    rw [Auf (by rw [hys, hal]) (fun x hx => by have := hin x hx; rw [hl]; omega) (by omega)]
    simp only [Option.bind_some]
    have he : ((Eo s.1.length r i).map fun x => (nth (Hg k s.1) x.toNat).Table) = (Eo s.1.length r i).map fun x => nth s.1 x.toNat := List.map_congr_left fun x hx => by
     have := hin x hx
     rw [hnth _ (by omega)]
    have hmem : ∀ t ∈ (Eo s.1.length r i).map fun x => nth s.1 x.toNat, t ∈ s.1 := fun t ht => by
     obtain ⟨x, hx, rfl⟩ := List.mem_map.1 ht
     have := hin x hx
     exact A5 (by omega)
    have hcll : ((Eo s.1.length r i).map fun x => nth s.1 x.toNat).length = (nth a.Ops op).Arity.toNat := by rw [List.length_map, hal, hrr]
    rw [he, e1, e2, Vj b2 b4]
    simp only [Option.bind_some]
    rw [Mx b2 hf hcll (fun t ht => hcl.inv.tabs t (hmem t ht)) (by omega)]
    simp only [Option.bind_some]
    rw [X4 (by rw [X9]; omega)]
    simp only [Option.bind_some]
    rw [if_pos (hhas _ (hcl.closed op hop _ hcll hmem)), Af (by unfold InI; omega)]
    exact .inl ⟨_, rfl, ⟨i + 1, by dsimp only; omega, by omega, by simp [hal]⟩, by dsimp only; omega⟩
   ·rw [if_neg (by omega)]
    exact .inr ⟨_, rfl, rfl⟩) (s := (List.replicate (nth a.Ops op).Arity.toNat (Ar Int), 0)) ⟨0, rfl, Nat.zero_le _, by simp [hrr]⟩
  subst ht
  rw [e4]
  simp only [Option.bind_some]
  rw [Af (by unfold InI; omega)]
  rfl) (by
  unfold Ca
  rw [if_neg (by omega)])
 have k5' : At (Ca a k (Hg k s.1) S) 0 = _ := k5
 rw [k5']; rfl
end
theorem Aki {xs ys : List Int} (h : xs.length ≤ LIM) : Fo xs ys = some (decide (xs = ys)) := by
 have hL := Bs
 unfold Fo
 by_cases hl : xs.length = ys.length
 ·rw [if_neg (by omega)]
  have this := Lb (body := B4 xs ys) (fun i => (i : Int)) xs.length (fun i => ¬ nth xs i = nth ys i) () () (fun i hi hb => by
   unfold B4
   rw [if_pos (by omega)]
   repeat rw [Af (by omega)]
   simp only [Int.toNat_natCast]
   rw [if_neg (by simpa using hb)]
   repeat rw [Af (by first | omega | (unfold InI; omega))]
   rfl) (fun i hi hb => by
   unfold B4
   rw [if_pos (by omega)]
   repeat rw [Af (by omega)]
   simp only [Int.toNat_natCast]
   rw [if_pos hb]) (by unfold B4; rw [if_neg (by omega)]) 0 (by omega)
  have this' : At (B4 xs ys) 0 = _ := this
  rw [this']
  by_cases hx : ∃ i, 0 ≤ i ∧ i < xs.length ∧ ¬ nth xs i = nth ys i
  ·rw [if_pos hx, decide_eq_false]
   ·rfl
   ·rintro rfl; obtain ⟨i, _, _, hc⟩ := hx; exact hc rfl
  ·rw [if_neg hx, decide_eq_true (Ain hl (Nr.1 hx))]
   rfl
 ·rw [if_pos (by omega), decide_eq_false fun e => hl (by rw [e])]
theorem Apz {f g : SOp} (h : f.Table.length ≤ LIM) : G1 f g = some (decide (f = g)) := by
 unfold G1
 by_cases ha : f.Arity = g.Arity
 ·rw [if_pos ha, Aki h]
  simp only [Option.bind_some]
  congr 1
  rw [decide_eq_decide]
  constructor
  ·intro e; cases f; cases g; simp_all
  ·intro e; rw [e]
 ·rw [if_neg ha, decide_eq_false fun e => ha (by rw [e])]
theorem Apv {st : List SCloneStep} (hl : st.length ≤ 1000) (ha : ∀ s ∈ st, s.Args.length ≤ LIM) : Ha st st = some true := by
 unfold Ha
 rw [if_neg (by simp)]
 have key := Bw (body := D3 st st) (fun i => (i : Int)) st.length (.inr ()) (fun i hi => by
  unfold D3
  rw [if_pos (by omega)]
  repeat rw [Af (by omega)]
  rw [if_neg (by simp)]
  repeat rw [Af (by omega)]
  rw [Int.toNat_natCast, Aki (ha _ (A5 hi))]
  simp only [Option.bind_some, decide_true, if_true]
  rfl) (by
  unfold D3
  rw [if_neg (by omega)])
 have key' : At (D3 st st) 0 = _ := key
 rw [key']; rfl
theorem Ah0 {c : Sl1Cur} {k : Nat} (h : Cur k c) (hk : k ≤ 600000000) : ∃ r d, D7 c = some (r, d) ∧ Cur (k + 4) d := by
 unfold D7
 obtain ⟨w, d, e, hd, w0, w1⟩ := E5 h (by omega) 24
 rw [e]
 simp only [Option.bind_some]
 have et : w.tdiv 11 = w / 11 := Int.tdiv_eq_ediv_of_nonneg w0
 rw [et, Af ⟨by decide, by unfold InI; omega⟩, Af (by unfold InI; omega), Af (by simp only [List.length_cons, List.length_nil]; omega)]
 obtain ⟨n, d3, e3, hd3, _⟩ := Gu hd (by omega) (List.take ((6 + w / 11).toNat - Int.toNat 0) (List.drop (Int.toNat 0) [1, 1, 2, 2, 2, 3, 0, 4])) (by simp; omega)
 rw [e3]
 exact ⟨_, _, rfl, hd3.mono (by omega)⟩
theorem Akd {c : Sl1Cur} {k : Nat} (h : Cur k c) (hk : k ≤ 600000000) (n : Int) : ∃ f d, Ci c n = some (f, d) ∧ Cur (k + 200) d ∧ f.Table.length ≤ 65 ∧ f.Arity ≤ 3 := by
 have hL := Bs
 have e1 : ∀ a b : Int, Hx a b = some (if a < b then a else b) := fun a b => by
  unfold Hx; split <;> rfl
 have e0 : ∀ a b : Int, I8 a b = some (if a > b then a else b) := fun a b => by
  unfold I8; split <;> rfl
 unfold Ci
 rw [e0]
 simp only [Option.bind_some]
 rw [e1]
 simp only [Option.bind_some]
 obtain ⟨m, hm, m1, m4⟩ : ∃ m : Nat, (if (if n > 1 then n else 1) < 4 then (if n > 1 then n else 1) else 4) = (m : Int) ∧ 1 ≤ m ∧ m ≤ 4 :=
  ⟨(if (if n > 1 then n else 1) < 4 then (if n > 1 then n else 1) else 4).toNat, by split <;> split <;> omega, by split <;> split <;> omega, by split <;> split <;> omega⟩
 rw [hm]
 obtain ⟨r, d, e, hd, hr⟩ := Gu h (by omega) [1, 1, 2, 2, 2, 3, 0] (by simp)
 rw [e]
 simp only [Option.bind_some]
 obtain ⟨R, rfl, hR⟩ : ∃ R : Nat, r = (R : Int) ∧ R ≤ 3 := ⟨r.toNat, by simp at hr; omega, by simp at hr; omega⟩
 have hpw : m ^ R ≤ 64 := Nat.le_trans (Nat.pow_le_pow_left m4 R) (Nat.le_trans (Nat.pow_le_pow_right (by omega) hR) (by decide))
 have hp1 : 1 ≤ m ^ R := Nat.pow_pos (by omega)
 rw [Vh (by omega) hR]
 simp only [Option.bind_some]
 obtain ⟨⟨f, d2⟩, e2, ⟨hf1, hf2⟩, hd2⟩ := Ft (body := Cm m) (fun s => ∃ i : Nat, s.1 = (i : Int) ∧ i ≤ m ^ R ∧ s.2.1.Arity = (R : Int) ∧ s.2.1.Table.length = m ^ R - i ∧ Cur (k + 2 + 2 * (m ^ R - i)) s.2.2) (fun s => s.1.toNat) (fun t => (t.1.Arity = (R : Int) ∧ t.1.Table.length = m ^ R) ∧ Cur (k + 140) t.2) (by
  rintro ⟨x, f, c⟩ ⟨i, rfl, g1, g2, g3, g4⟩
  dsimp only at g2 g3 g4
  unfold Cm
  dsimp only
  by_cases hi : i > 0
  ·rw [if_pos (by omega)]
   obtain ⟨v, d3, e3, hd3, _⟩ := E5 g4 (by omega) (m : Int)
   rw [e3]
   simp only [Option.bind_some]
   rw [Af (by simp; omega), Af (by unfold InI; omega)]
   exact .inl ⟨_, rfl, ⟨i - 1, by dsimp only; omega, by omega, g2, by simp; omega, hd3.mono (by omega)⟩, by dsimp only; omega⟩
  ·rw [if_neg (by omega)]
   exact .inr ⟨_, rfl, ⟨g2, by dsimp only; omega⟩, g4.mono (by omega)⟩) (s := (((m ^ R : Nat) : Int), { Arity := (R : Int), Table := Ar Int }, d)) ⟨m ^ R, rfl, Nat.le_refl _, rfl, by simp [Ar], hd.mono (by omega)⟩
 rw [e2]
 simp only [Option.bind_some]
 dsimp only at hf1 hf2 hd2
 obtain ⟨w, d3, e3, hd3, w0, _⟩ := E5 hd2 (by omega) 12
 rw [e3]
 simp only [Option.bind_some]
 by_cases c0 : w = 0
 ·rw [if_pos c0, hf1]
  by_cases h0 : (R : Int) > 0
  ·rw [if_pos h0]
   obtain ⟨p, d4, e4, hd4, p0, p1⟩ := E5 hd3 (by omega) (R : Int)
   rw [e4]
   simp only [Option.bind_some]
   have e5 := S5 (n := m) (k := R) (p := p.toNat) m1 (by omega) hR (by omega)
   rw [show ((p.toNat : Nat) : Int) = p by omega] at e5
   rw [e5]
   exact ⟨_, _, rfl, hd4.mono (by omega), by dsimp only; rw [Ri]; omega, by dsimp only; omega⟩
  ·rw [if_neg h0]
   exact ⟨_, _, rfl, hd3.mono (by omega), by omega, by omega⟩
 rw [if_neg c0]
 by_cases c1 : w = 1
 ·rw [if_pos c1]
  obtain ⟨p, d4, e4, hd4, p0, p1⟩ := E5 hd3 (by omega) (f.Table.length : Int)
  rw [e4]
  simp only [Option.bind_some]
  obtain ⟨v, d5, e5, hd5, _⟩ := Gu hd4 (by omega) [-1, (m : Int), 0] (by simp)
  rw [e5]
  simp only [Option.bind_some]
  rw [Af (by omega)]
  exact ⟨_, _, rfl, hd5.mono (by omega), by simp only [List.length_set]; omega, by dsimp only; omega⟩
 rw [if_neg c1]
 by_cases c2 : w = 2
 ·rw [if_pos c2, Af (by simp; omega)]
  exact ⟨_, _, rfl, hd3.mono (by omega), by simp; omega, by dsimp only; omega⟩
 rw [if_neg c2]
 exact ⟨_, _, rfl, hd3.mono (by omega), by omega, by omega⟩
theorem Ae7 {c : Sl1Cur} {k : Nat} (h : Cur k c) (hk : k ≤ 500000000) {a : SAlgebra} (ha : Jk a) : ∃ f d, Dw c a = some (f, d) ∧ Cur (k + 300) d ∧ f.Table.length ≤ 65 := by
 have hL := Bs
 unfold Dw
 obtain ⟨r, d, e, hd⟩ := Ah0 h (by omega)
 rw [e]
 simp only [Option.bind_some]
 rw [Adp ha]
 simp only [Option.bind_some]
 have other : ∀ c : Sl1Cur, Cur (k + 10) c → ∃ f d, ((Ci c (a.Size)).bind fun (r17, u18) => some (r17, u18)) = some (f, d) ∧ Cur (k + 300) d ∧ f.Table.length ≤ 65 := by
  intro c hc
  obtain ⟨f, d, e, hd, hf, _⟩ := Akd hc (by omega) a.Size
  rw [e]
  exact ⟨f, d, rfl, hd.mono (by omega), hf⟩
 by_cases hg : Pw a
 ·rw [decide_eq_true hg, if_pos rfl]
  have hn : ((a.Size.toNat : Nat) : Int) = a.Size := by have := hg.1; omega
  have e2 := Tu (n := a.Size.toNat) (by have := hg.2.1; omega) r
  rw [hn] at e2
  rw [e2]
  simp only [Option.bind_some]
  by_cases hr : 1 ≤ r ∧ r ≤ 3 ∧ a.Size.toNat ^ r.toNat ≤ 27
  ·rw [decide_eq_true hr, if_pos rfl]
   by_cases h3 : a.Size ≤ 3
   ·rw [if_pos h3]
    obtain ⟨b, d2, e3, hd2⟩ := Alc hd (by omega) 3
    rw [e3]
    simp only [Option.bind_some]
    by_cases hb : b = true
    ·rw [hb]
     simp only [Bool.not_true, Bool.false_eq_true, if_false]
     exact other _ (hd2.mono (by omega))
    ·have hb' : b = false := by simpa using hb
     rw [hb']
     simp only [Bool.not_false, if_true]
     have hc : Xj a r := ⟨hg, hr⟩
     obtain ⟨R, e4, hR⟩ := Mf hc
     rw [e4]
     simp only [Option.bind_some]
     have hRR : 0 < R.tables.length ∧ R.tables.length ≤ 60 ∧ ∀ t ∈ R.tables, t.length ≤ 27 := by
      cases h1 : clA a r with
      | none =>
        rw [h1] at hR
        exact ⟨by have := hR.2.1; omega, by have := hR.2.1; omega, fun t ht => by have := (hR.2.2 t ht).1; omega⟩
      | some s =>
        rw [h1] at hR
        obtain ⟨_, hcl⟩ := G5 h1
        have hR' : R = { tables := s.1, steps := s.2, large := false } := hR
        rw [hR']
        exact ⟨List.length_pos_of_mem (hcl.prj 0 (by have := hr.1; omega)), hcl.le, fun t ht => by have := (hcl.inv.tabs t ht).1; omega⟩
     obtain ⟨p, d5, e5, hd5, p0, p1⟩ := E5 hd2 (by omega) (R.tables.length : Int)
     rw [e5]
     simp only [Option.bind_some]
     have hpl := hRR.2.2 _ (A5 (show p.toNat < R.tables.length by omega))
     rw [Af (by omega), Ami (by omega)]
     exact ⟨_, _, rfl, hd5.mono (by omega), by dsimp only; omega⟩
   ·rw [if_neg h3]
    simp only [Option.bind_some, Bool.false_eq_true, if_false]
    exact other _ (hd.mono (by omega))
  ·rw [decide_eq_false hr]
   simp only [Bool.false_eq_true, if_false, Option.bind_some]
   exact other _ (hd.mono (by omega))
 ·rw [decide_eq_false hg]
  simp only [Bool.false_eq_true, if_false, Option.bind_some]
  exact other _ (hd.mono (by omega))
theorem V7 {code : List Int} (hc : ∀ x ∈ code, 0 ≤ x ∧ x ≤ 255) (hl : code.length ≤ 65536) : ∃ a f, Cv code = some (a, f) ∧ Jk a ∧ f.Table.length ≤ 65 := by
 unfold Cv
 obtain ⟨a, d, e, hd, ha⟩ := Aib (Ar2 hc hl) (by omega)
 rw [e]
 simp only [Option.bind_some]
 obtain ⟨f, d2, e2, _, hf⟩ := Ae7 hd (by omega) (Abh ha)
 rw [e2]
 exact ⟨a, f, rfl, Abh ha, hf⟩
end Go.Proofs.Ytoaojijoefljaaa.Ax
namespace Go.Proofs.Ytoaojijoefljaaa.Ax
open Go Classical
section
end
end Go.Proofs.Ytoaojijoefljaaa.Ax
namespace Go.Proofs.Ytoaojijoefljaaa.Ax
open Go Classical
end Go.Proofs.Ytoaojijoefljaaa.Ax
namespace Go.Proofs.Ytoaojijoefljaaa.Ax
open Go Classical
section
variable {n : Nat} {f : Nat → Nat → Bool}
end
section
variable {n m : Nat} {f g : Nat → Nat → Bool}
end
end Go.Proofs.Ytoaojijoefljaaa.Ax
namespace Go.Proofs.Ytoaojijoefljaaa.Ax
open Go Classical
section
variable {n m : Nat} {f g : Nat → Nat → Bool}
end
end Go.Proofs.Ytoaojijoefljaaa.Ax
namespace Go.Proofs.Ytoaojijoefljaaa.Ax
open Go Classical
section
end
theorem As6 {xs : List Int} (h : xs.length ≤ LIM) : Fo xs xs = some true := by
 have hL := Bs
 unfold Fo
 rw [if_neg (by simp)]
 have := Bw (body := B4 xs xs) (fun i => (i : Int)) xs.length (.inr ()) (fun i hi => by
  unfold B4
  rw [if_pos (by omega)]
  repeat rw [Af (by first | omega | (unfold InI; omega))]
  rw [if_neg (by simp)]
  rfl) (by
  unfold B4
  rw [if_neg (by omega)])
 have h0 : At (B4 xs xs) 0 = some (.inr ()) := this
 rw [h0]; rfl
section
variable {n m : Nat} {f g : Nat → Nat → Bool}
end
end Go.Proofs.Ytoaojijoefljaaa.Ax
namespace Go.Proofs.Ytoaojijoefljaaa.Ax
open Go Classical
section
end
theorem Au5 {f : SOp} (h : f.Table.length ≤ LIM) : G1 f f = some true := by
 unfold G1
 rw [if_pos rfl, As6 h]; rfl
theorem Auv {fs : List SOp} (h : fs.length ≤ LIM) (h1 : ∀ f ∈ fs, f.Table.length ≤ LIM) : Md fs fs = some true := by
 have hL := Bs
 unfold Md
 rw [if_neg (by simp)]
 have := Bw (body := Fg fs fs) (fun i => (i : Int)) fs.length (.inr ()) (fun i hi => by
  unfold Fg
  rw [if_pos (by omega)]
  repeat rw [Af (by first | omega | (unfold InI; omega))]
  rw [Int.toNat_natCast, Au5 (h1 _ (A5 hi))]
  simp only [Option.bind_some, if_true]
  rfl) (by
  unfold Fg
  rw [if_neg (by omega)])
 have h0 : At (Fg fs fs) 0 = some (.inr ()) := this
 rw [h0]; rfl
end Go.Proofs.Ytoaojijoefljaaa.Ax
