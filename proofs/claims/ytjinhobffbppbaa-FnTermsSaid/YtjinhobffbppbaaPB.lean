/-
 Plain facts, joined.
-/
import Derived.Test.YtjinhobffbppbaaPA
namespace Go.Proofs.Ytjinhobffbppbaa.Ax
open Go Classical
def App (m i : Nat) : Bool := decide (m / 2 ^ i % 2 = 1)
def Apo (f : Nat → Nat → Bool) (ls : List Int) : Prop := ∀ x ∈ ls, ∀ y ∈ ls, ¬ (x.toNat ≠ y.toNat ∧ f x.toNat y.toNat = true)
section
end
end Go.Proofs.Ytjinhobffbppbaa.Ax
namespace Go.Proofs.Ytjinhobffbppbaa.Ax
open Go Classical
def pc (n m : Nat) : Nat := (Ay n (App m)).length
theorem Ai3 {q q' : Nat → Bool} {x : Nat} (hq : q x = false) (h : ∀ i, q' i = (q i || decide (x = i))) : ∀ n, (Ay n q').length = (Ay n q).length + if x < n then 1 else 0 := by
 intro n
 induction n with
 | zero => simp [Ay]
 | succ n ih =>
   rw [Nu, Nu, h n]
   by_cases hxn : x = n
   ·subst hxn
    rw [hq]
    simp only [decide_true, Bool.or_true, if_true, Bool.false_eq_true, if_false]
    rw [List.length_append, ih, if_neg (by omega), if_pos (by omega)]; rfl
   ·rw [decide_eq_false hxn, Bool.or_false]
    by_cases hqn : q n = true
    ·rw [if_pos hqn, if_pos hqn, List.length_append, List.length_append, ih]
     by_cases hx : x < n
     ·rw [if_pos hx, if_pos (by omega)]; simp
     ·rw [if_neg hx, if_neg (by omega)]; rfl
    ·rw [if_neg hqn, if_neg hqn, ih]
     by_cases hx : x < n
     ·rw [if_pos hx, if_pos (by omega)]
     ·rw [if_neg hx, if_neg (by omega)]
def wt (n m : Nat) : Nat := 10 ^ (10 - pc n m)
def phi (n : Nat) (ws : List Int) : Nat → Nat → Int
 | _, 0 => 0
 | M, k + 1 => nth ws M * wt n M + phi n ws (M + 1) k
section
variable {n : Nat} {f : Nat → Nat → Bool}
structure okW (n m : Nat) (ws : List Int) : Prop where
 len : ws.length = 2 ^ n
 pos : ∀ i, i < ws.length → 0 ≤ nth ws i
 sum : phi n ws m (2 ^ n - m) ≤ 10000000000
end
section
end
end Go.Proofs.Ytjinhobffbppbaa.Ax
namespace Go.Proofs.Ytjinhobffbppbaa.Ax
open Go Classical
section
variable {n : Nat} {ps : List (Int × Int)}
end
end Go.Proofs.Ytjinhobffbppbaa.Ax
namespace Go.Proofs.Ytjinhobffbppbaa.Ax
open Go Classical
section
variable {n : Nat} {f : Nat → Nat → Bool}
end
section
end
end Go.Proofs.Ytjinhobffbppbaa.Ax
namespace Go.Proofs.Ytjinhobffbppbaa.Ax
open Go Classical
theorem Ae9 {xs : List Int} : Ve xs ↔ xs.Pairwise (· < ·) := by
 constructor
 ·intro h
  refine List.pairwise_iff_getElem.2 fun i j hi hj hij => ?_
  have := X6 h hij hj
  rwa [C1 hi, C1 hj] at this
 ·intro h i h1 h2
  have := List.pairwise_iff_getElem.1 h (i - 1) i (by omega) h2 (by omega)
  rwa [C1 (by omega), C1 h2]
noncomputable def Apk (n : Nat) (g h : Nat → Nat → Nat) (S : Nat → Bool) : Nat → Bool := fun z => decide (S z = true ∨ ∃ x y, x < n ∧ y < n ∧ S x = true ∧ S y = true ∧ (z = g x y ∨ z = h x y))
noncomputable def Ab4 (n : Nat) (g h : Nat → Nat → Nat) (S : Nat → Bool) : Nat → Nat → Bool
 | 0 => S
 | k + 1 => Apk n g h (Ab4 n g h S k)
section
variable {n : Nat} {g h : Nat → Nat → Nat} {S : Nat → Bool}
def Apq (n : Nat) (g h : Nat → Nat → Nat) (S : Nat → Bool) (k : Nat) : Prop := ∀ z, z < n → Ab4 n g h S (k + 1) z = Ab4 n g h S k z
noncomputable def closed (n : Nat) (g h : Nat → Nat → Nat) (S : Nat → Bool) : Nat → Bool := Ab4 n g h S n
def Apn (n : Nat) (S : Nat → Bool) : List Nat := (List.range n).filter S
end
end Go.Proofs.Ytjinhobffbppbaa.Ax
namespace Go.Proofs.Ytjinhobffbppbaa.Ax
open Go Classical
theorem An8 {n : Nat} {S : Nat → Bool} {z k : Nat} (hz : z < n) (hk : k ≤ (Ay n S).length) (h1 : ∀ j, j < k → nth (Ay n S) j < (z : Int)) (h2 : k < (Ay n S).length → (z : Int) < nth (Ay n S) k) :
  (Ay n S).take k ++ [(z : Int)] ++ (Ay n S).drop k = Ay n fun a => decide (S a = true ∨ a = z) := by
 have hr := Vx n S
 have e := List.take_append_drop k (Ay n S)
 refine Akb (Ae9.2 ?_) (Vx _ _) fun x => ?_
 ·rw [List.append_assoc, List.pairwise_append]
  have hp := Ae9.1 hr
  rw [← e, List.pairwise_append] at hp
  have ht : ∀ a ∈ (Ay n S).take k, a < (z : Int) := by
   intro a ha
   obtain ⟨j, hj, rfl⟩ := I7.1 ha
   have hj' : j < k := by rw [List.length_take] at hj; omega
   have := h1 j hj'
   rw [C1 hj, List.getElem_take]
   rwa [C1 (by omega)] at this
  have hd : ∀ a ∈ (Ay n S).drop k, (z : Int) < a := by
   intro a ha
   obtain ⟨j, hj, rfl⟩ := I7.1 ha
   rw [List.length_drop] at hj
   have h3 := h2 (by omega)
   have h4 : nth ((Ay n S).drop k) j = nth (Ay n S) (k + j) := by
    rw [C1 (by rw [List.length_drop]; omega), C1 (by omega), List.getElem_drop]
   rw [h4]
   by_cases hj0 : j = 0
   ·subst hj0; exact h3
   ·have := X6 hr (i := k) (j := k + j) (by omega) (by omega); omega
  refine ⟨hp.1, ?_, ?_⟩
  ·rw [List.singleton_append, List.pairwise_cons]
   exact ⟨hd, hp.2.1⟩
  ·intro a ha b hb
   rcases List.mem_append.1 hb with hb | hb
   ·rw [List.mem_singleton.1 hb]; exact ht a ha
   ·exact hp.2.2 a ha b hb
 ·have hm : x ∈ Ay n S ↔ x ∈ (Ay n S).take k ∨ x ∈ (Ay n S).drop k := by rw [← List.mem_append, e]
  rw [List.mem_append, List.mem_append, List.mem_singleton]
  have : (x ∈ Ay n S ∨ x = (z : Int)) ↔ x ∈ Ay n fun a => decide (S a = true ∨ a = z) := by
   rw [Kd, Kd]
   constructor
   ·rintro (⟨i, a, b, rfl⟩ | rfl)
    ·exact ⟨i, a, decide_eq_true (.inl b), rfl⟩
    ·exact ⟨z, hz, decide_eq_true (.inr rfl), rfl⟩
   ·rintro ⟨i, a, b, rfl⟩
    rcases of_decide_eq_true b with c | c
    ·exact .inl ⟨i, a, c, rfl⟩
    ·exact .inr (by omega)
  rw [← this, hm]
  constructor
  ·rintro ((h | h) | h)
   ·exact .inl (.inl h)
   ·exact .inr h
   ·exact .inl (.inr h)
  ·rintro ((h | h) | h)
   ·exact .inl (.inl h)
   ·exact .inr h
   ·exact .inl (.inr h)
theorem Ao0 {n : Nat} {S : Nat → Bool} {z k : Nat} (hk : k < (Ay n S).length) (h : nth (Ay n S) k = (z : Int)) : Ay n S = Ay n fun a => decide (S a = true ∨ a = z) := by
 obtain ⟨i, a, b, c⟩ := Kd.1 (Be hk)
 rw [h] at c
 refine Pn fun j _ => ?_
 by_cases hj : j = z
 ·have : j = i := by omega
  subst this
  rw [b]; exact (decide_eq_true (.inl rfl)).symm
 ·cases hS : S j <;> simp [hj]
theorem Ant {n : Nat} (hn : n ≤ 1000) (S : Nat → Bool) {z : Nat} (hz : z < n) : Hk (Ay n S) (z : Int) = some (Ay n fun a => decide (S a = true ∨ a = z)) := by
 unfold Hk
 have hl := Tr n S
 rw [show ((0 : Int)) = (((0 : Nat)) : Int) from rfl]
 have key : ∃ k : Nat, k ≤ (Ay n S).length ∧ (∀ j, j < k → nth (Ay n S) j < (z : Int)) ∧ (k < (Ay n S).length → ¬ nth (Ay n S) k < (z : Int)) ∧ Bb (Cu (Ay n S) (z : Int)) (((0 : Nat)) : Int) = some (k : Int) := by
  rcases Ajv (body := Cu (Ay n S) (z : Int)) (fun i => (i : Int)) (Ay n S).length (fun i => ¬ nth (Ay n S) i < (z : Int)) (fun i => (i : Int)) ((Ay n S).length : Int) (fun i hi hh => by
    unfold Cu
    rw [if_pos (by omega), Af (by omega), Int.toNat_natCast, if_pos (Classical.not_not.1 hh), Af (by unfold InI; omega)]; rfl) (fun i hi hh => by
    unfold Cu
    rw [if_pos (by omega), Af (by omega), Int.toNat_natCast, if_neg hh]) (by
    unfold Cu
    rw [if_neg (by omega)]) with ⟨i, hi, hh, hj, e⟩ | ⟨hno, e⟩
  ·exact ⟨i, by omega, fun j h => Classical.not_not.1 (hj j h), fun _ => hh, e⟩
  ·exact ⟨_, Nat.le_refl _, fun j h => Classical.not_not.1 (hno j h), fun h => absurd h (Nat.lt_irrefl _), e⟩
 obtain ⟨k, hk, h1, h2, e⟩ := key
 rw [e]
 simp only [Option.bind_some]
 have tail : (¬ k < (Ay n S).length ∨ nth (Ay n S) k ≠ (z : Int)) → (ask (0 ≤ (((0 : Nat)) : Int) ∧ (((0 : Nat)) : Int) ≤ (k : Int) ∧ (k : Int) ≤ (((Ay n S).length : Nat) : Int)) <|
   ask ((Au Int).length + (List.take ((k : Int).toNat - Int.toNat ((((0 : Nat)) : Int))) (List.drop (Int.toNat ((((0 : Nat)) : Int))) (Ay n S))).length ≤ LIM) <|
   ask ((Au Int ++ List.take ((k : Int).toNat - Int.toNat ((((0 : Nat)) : Int))) (List.drop (Int.toNat ((((0 : Nat)) : Int))) (Ay n S))).length + ([(z : Int)]).length ≤ LIM) <|
   ask (0 ≤ (k : Int) ∧ (k : Int) ≤ ((Ay n S).length : Int) ∧ ((Ay n S).length : Int) ≤ (((Ay n S).length : Nat) : Int)) <|
   ask ((Au Int ++ List.take ((k : Int).toNat - Int.toNat ((((0 : Nat)) : Int))) (List.drop (Int.toNat ((((0 : Nat)) : Int))) (Ay n S)) ++ [(z : Int)]).length + (List.take (((Ay n S).length : Int).toNat - (k : Int).toNat) (List.drop (k : Int).toNat (Ay n S))).length ≤ LIM) <|
   some (Au Int ++ List.take ((k : Int).toNat - Int.toNat ((((0 : Nat)) : Int))) (List.drop (Int.toNat ((((0 : Nat)) : Int))) (Ay n S)) ++ [(z : Int)] ++ List.take (((Ay n S).length : Int).toNat - (k : Int).toNat) (List.drop (k : Int).toNat (Ay n S)))) = some (Ay n fun a => decide (S a = true ∨ a = z)) := by
  intro h3
  simp only [Int.toNat_natCast, List.drop_zero, Nat.sub_zero, List.nil_append]
  have ed : List.take ((Ay n S).length - k) (List.drop k (Ay n S)) = List.drop k (Ay n S) := List.take_of_length_le (by rw [List.length_drop]; omega)
  rw [ed]
  have ht : (List.take k (Ay n S)).length ≤ 1000 := by rw [List.length_take]; omega
  have hd : (List.drop k (Ay n S)).length ≤ 1000 := by rw [List.length_drop]; omega
  rw [Af (by omega), Af (by rw [Bv]; simp only [List.length_nil]; omega), Af (by rw [Bv]; simp only [List.length_cons, List.length_nil]; omega), Af (by omega), Af (by rw [Bv]; simp only [List.length_append, List.length_cons, List.length_nil]; omega)]
  rw [An8 hz hk h1 fun h => by have h4 := h2 h; rcases h3 with h3 | h3 <;> omega]
 by_cases hkl : k < (Ay n S).length
 ·rw [if_pos (by omega), Af (by omega), Int.toNat_natCast]
  by_cases hv : nth (Ay n S) k = (z : Int)
  ·rw [if_pos hv]
   simp only [Option.bind_some]
   rw [← Ao0 hkl hv]
  ·rw [if_neg hv]
   exact tail (.inr hv)
 ·rw [if_neg (by omega)]
  exact tail (.inl hkl)
theorem Ak8 {n : Nat} (hn : n ≤ LIM) (S : Nat → Bool) : Gu (Ms n S) = some (Ay n S) := by
 unfold Gu
 have hn' := hn
 rw [Bv] at hn'
 have hl := Te n S
 rw [Ag4 n S (fun i acc hi ha => by
  unfold E9
  dsimp only
  rw [if_pos (by omega), Af (by omega), Int.toNat_natCast, Wt hi]
  by_cases hp : S i = true
  ·rw [if_pos hp, if_pos hp, Af (by rw [Bv]; simp; omega), Af (by unfold InI; omega)]; rfl
  ·rw [if_neg hp, if_neg hp, Af (by unfold InI; omega)]; rfl) (fun acc => by
  unfold E9
  dsimp only
  rw [if_neg (by omega)])]
 rfl
section
end
end Go.Proofs.Ytjinhobffbppbaa.Ax
namespace Go.Proofs.Ytjinhobffbppbaa.Ax
open Go Classical
def Hw (a : SAlgebra) : Prop := a.Ops.length ≤ 1048576 ∧ ∀ f ∈ a.Ops, f.Table.length ≤ 1048576
end Go.Proofs.Ytjinhobffbppbaa.Ax
namespace Go.Proofs.Ytjinhobffbppbaa.Ax
open Go Classical
end Go.Proofs.Ytjinhobffbppbaa.Ax
namespace Go.Proofs.Ytjinhobffbppbaa.Ax
open Go Classical
section
end
end Go.Proofs.Ytjinhobffbppbaa.Ax
namespace Go.Proofs.Ytjinhobffbppbaa.Ax
open Go Classical
def Amh (n : Nat) (f : SOp) : Prop := 0 ≤ f.Arity ∧ f.Arity ≤ 3 ∧ f.Table.length = n ^ f.Arity.toNat ∧ Cn f.Table n
def Bu (a : SAlgebra) : Prop := 1 ≤ a.Size ∧ a.Size ≤ 8 ∧ a.Ops.length ≤ 4 ∧ ∀ f ∈ a.Ops, Amh a.Size.toNat f
theorem Yh {n k : Nat} (hn : n ≤ 8) (hk : k ≤ 3) : n ^ k ≤ 512 :=
 Nat.le_trans (Nat.pow_le_pow_left hn k) (Nat.le_trans (Nat.pow_le_pow_right (by omega) hk) (by decide))
theorem Ank {n k : Nat} (hn : n ≤ 8) (hk : k ≤ 3) : F9 n k = some ((n ^ k : Nat) : Int) := by
 unfold F9
 have key := Ey (body := Dm n) (fun j => (((n ^ j : Nat) : Int), ((k : Int) - (j : Int)))) k ((n ^ k : Nat) : Int) (fun j hj => by
  unfold Dm
  dsimp only
  have hp := Yh hn (show j + 1 ≤ 3 by omega)
  rw [Nat.pow_succ] at hp
  rw [if_pos (by omega), ← Int.natCast_mul, Nat.pow_succ]
  generalize n ^ j * n = N at hp ⊢
  rw [Af (by unfold InI; omega), Af (by unfold InI; omega), show ((k : Int) - (j : Int) - 1) = (k : Int) - ((j + 1 : Nat) : Int) by omega]) (by
  unfold Dm
  dsimp only
  rw [if_neg (by omega)])
 have key' : Bb (Dm n) (1, (k : Int)) = some ((n ^ k : Nat) : Int) := by simpa using key
 rw [key']; rfl
theorem Ah1 {n k : Nat} (hn : n ≤ 8) (hk : k ≤ 3) : Fc n k = some ((n ^ k : Nat) : Int) := by
 unfold Fc
 have key := Ey (body := Dn n) (fun j => (((n ^ j : Nat) : Int), ((k : Int) - (j : Int)))) k ((n ^ k : Nat) : Int) (fun j hj => by
  unfold Dn
  dsimp only
  have hp := Yh hn (show j + 1 ≤ 3 by omega)
  rw [Nat.pow_succ] at hp
  rw [if_pos (by omega), ← Int.natCast_mul, Nat.pow_succ]
  generalize n ^ j * n = N at hp ⊢
  rw [Af (by unfold InI; omega), Af (by unfold InI; omega), show ((k : Int) - (j : Int) - 1) = (k : Int) - ((j + 1 : Nat) : Int) by omega]) (by
  unfold Dn
  dsimp only
  rw [if_neg (by omega)])
 have key' : Bb (Dn n) (1, (k : Int)) = some ((n ^ k : Nat) : Int) := by simpa using key
 rw [key']; rfl
theorem Alp {n : Nat} (hn : n ≤ 8) {f : SOp} (hl : f.Table.length ≤ LIM) : Jd f n = some (decide (Amh n f)) := by
 unfold Jd
 by_cases h0 : 0 ≤ f.Arity
 ·rw [if_pos (show f.Arity ≥ 0 from h0)]
  by_cases h3 : f.Arity ≤ 3
  ·have e : F9 (n : Int) f.Arity = some ((n ^ f.Arity.toNat : Nat) : Int) := by
    have := Ank hn (k := f.Arity.toNat) (by omega)
    rwa [show ((f.Arity.toNat : Nat) : Int) = f.Arity by omega] at this
   rw [if_pos h3, e]
   simp only [Option.bind_some]
   by_cases hL : f.Table.length = n ^ f.Arity.toNat
   ·rw [if_pos (by rw [hL]), Aek _ _ hl]
    simp only [Option.bind_some]
    congr 1
    rw [decide_eq_decide]
    exact ⟨fun h => ⟨h0, h3, hL, h⟩, fun h => h.2.2.2⟩
   ·rw [if_neg (fun hc => hL (Int.ofNat_inj.1 hc)), decide_eq_false (fun h => hL h.2.2.1)]
  ·rw [if_neg h3, decide_eq_false (fun h => h3 h.2.1)]
 ·rw [if_neg (by omega), decide_eq_false (fun h => h0 h.1)]
theorem Akt {n : Nat} (hn1 : 1 ≤ n) (hn : n ≤ 8) {f : SOp} (hl : f.Table.length ≤ LIM) : Jb n f = some (decide (Amh n f)) := by
 unfold Jb
 rw [Lz]
 simp only [Option.bind_some]
 by_cases h0 : 0 ≤ f.Arity ∧ f.Arity ≤ 3
 ·have e : Fc (n : Int) f.Arity = some ((n ^ f.Arity.toNat : Nat) : Int) := by
   have := Ah1 hn (k := f.Arity.toNat) (by omega)
   rwa [show ((f.Arity.toNat : Nat) : Int) = f.Arity by omega] at this
  rw [decide_eq_true h0, if_pos rfl, e]
  simp only [Option.bind_some]
  by_cases hL : f.Table.length = n ^ f.Arity.toNat
  ·rw [if_neg (by rw [hL]; simp)]
   simp only [Option.bind_some]
   have hl' := hl
   rw [Bv] at hl'
   have this := Ii (body := D4 n f) (fun i => (i : Int)) f.Table.length (fun i => ¬ (0 ≤ nth f.Table i ∧ nth f.Table i ≤ (n : Int) - 1)) () () (fun i hi hb => by
    unfold D4
    rw [if_pos (by omega), Af (by omega), Af (by unfold InI; omega), Lz]
    simp only [Int.toNat_natCast, Option.bind_some]
    rw [decide_eq_true (Classical.not_not.1 hb), if_pos rfl, Af (by unfold InI; omega)]; rfl) (fun i hi hb => by
    unfold D4
    rw [if_pos (by omega), Af (by omega), Af (by unfold InI; omega), Lz]
    simp only [Int.toNat_natCast, Option.bind_some]
    rw [decide_eq_false hb, if_neg (by simp)]) (by
    unfold D4
    rw [if_neg (by omega)]) 0 (by omega)
   refine (I1 this false true).trans (congrArg some (Nx ?_))
   rw [Kx]
   constructor
   ·intro h
    refine ⟨h0.1, h0.2, hL, fun x hx => ?_⟩
    obtain ⟨i, hi, rfl⟩ := I7.1 hx
    have := h i hi; omega
   ·intro h i hi
    have := h.2.2.2 _ (Be hi); omega
  ·rw [if_pos (fun hc => hL (Int.ofNat_inj.1 hc)), decide_eq_false (fun h => hL h.2.2.1)]; rfl
 ·rw [decide_eq_false h0, if_neg (by simp), decide_eq_false (fun h => h0 ⟨h.1, h.2.1⟩)]; rfl
theorem Af9 {a : SAlgebra} (h : Hw a) : Ew a = some (decide (Bu a)) := by
 unfold Ew
 by_cases h1 : a.Size < 1
 ·rw [if_pos h1, decide_eq_false (fun hg => by have := hg.1; omega)]; rfl
 rw [if_neg h1]
 by_cases h8 : a.Size > 8
 ·rw [if_pos h8, decide_eq_false (fun hg => by have := hg.2.1; omega)]; rfl
 rw [if_neg h8]
 by_cases h4 : (a.Ops.length : Int) > 4
 ·rw [if_pos h4, decide_eq_false (fun hg => by have := hg.2.2.1; omega)]; rfl
 rw [if_neg h4]
 simp only [Option.bind_some]
 obtain ⟨n, hn⟩ := Int.eq_ofNat_of_zero_le (show 0 ≤ a.Size by omega)
 have this := Ii (body := B4 a) (fun i => (i : Int)) a.Ops.length (fun i => ¬ Amh n (nth a.Ops i)) () () (fun i hi hb => by
  have hl := h.2 _ (Be hi)
  unfold B4
  rw [if_pos (by omega), Af (by omega), Int.toNat_natCast, hn, Alp (by omega) (by rw [Bv]; omega)]
  simp only [Option.bind_some]
  rw [decide_eq_true (Classical.not_not.1 hb), if_pos rfl, Af (by unfold InI; omega)]; rfl) (fun i hi hb => by
  have hl := h.2 _ (Be hi)
  unfold B4
  rw [if_pos (by omega), Af (by omega), Int.toNat_natCast, hn, Alp (by omega) (by rw [Bv]; omega)]
  simp only [Option.bind_some]
  rw [decide_eq_false hb, if_neg (by simp)]) (by
  unfold B4
  rw [if_neg (by omega)]) 0 (by omega)
 refine (I1 this false true).trans (congrArg some (Nx ?_))
 rw [Kx]
 have hnn : a.Size.toNat = n := by omega
 constructor
 ·intro hh
  refine ⟨by omega, by omega, by omega, fun f hf => ?_⟩
  obtain ⟨i, hi, rfl⟩ := I7.1 hf
  rw [hnn]; exact hh i hi
 ·intro hg i hi
  have := hg.2.2.2 _ (Be hi)
  rwa [hnn] at this
theorem Aew {a : SAlgebra} (h : Hw a) : Fs a = some (decide (Bu a)) := by
 unfold Fs
 rw [Lz]
 simp only [Option.bind_some]
 by_cases h1 : 1 ≤ a.Size ∧ a.Size ≤ 8
 ·rw [decide_eq_true h1, if_pos rfl]
  by_cases h4 : (a.Ops.length : Int) > 4
  ·rw [if_pos h4, decide_eq_false (fun hg => by have := hg.2.2.1; omega)]; rfl
  rw [if_neg h4]
  simp only [Option.bind_some]
  obtain ⟨n, hn⟩ := Int.eq_ofNat_of_zero_le (show 0 ≤ a.Size by omega)
  have this := Ii (body := C0 a) (fun i => (i : Int)) a.Ops.length (fun i => ¬ Amh n (nth a.Ops i)) () () (fun i hi hb => by
   have hl := h.2 _ (Be hi)
   unfold C0
   rw [if_pos (by omega), Af (by omega), Int.toNat_natCast, hn, Akt (by omega) (by omega) (by rw [Bv]; omega)]
   simp only [Option.bind_some]
   rw [decide_eq_true (Classical.not_not.1 hb), if_pos rfl, Af (by unfold InI; omega)]; rfl) (fun i hi hb => by
   have hl := h.2 _ (Be hi)
   unfold C0
   rw [if_pos (by omega), Af (by omega), Int.toNat_natCast, hn, Akt (by omega) (by omega) (by rw [Bv]; omega)]
   simp only [Option.bind_some]
   rw [decide_eq_false hb, if_neg (by simp)]) (by
   unfold C0
   rw [if_neg (by omega)]) 0 (by omega)
  refine (I1 this false true).trans (congrArg some (Nx ?_))
  rw [Kx]
  have hnn : a.Size.toNat = n := by omega
  constructor
  ·intro hh
   refine ⟨by omega, by omega, by omega, fun f hf => ?_⟩
   obtain ⟨i, hi, rfl⟩ := I7.1 hf
   rw [hnn]; exact hh i hi
  ·intro hg i hi
   have := hg.2.2.2 _ (Be hi)
   rwa [hnn] at this
 ·rw [decide_eq_false h1, if_neg (by simp), decide_eq_false (fun hg => h1 ⟨hg.1, hg.2.1⟩)]; rfl
def Af8 (a : SAlgebra) : List Int := a.Ops.map (·.Arity)
end Go.Proofs.Ytjinhobffbppbaa.Ax
namespace Go.Proofs.Ytjinhobffbppbaa.Ax
open Go Classical
def Aao (n : Nat) : Nat → Nat → List Int
 | 0, _ => []
 | r + 1, k => Aao n r (k / n) ++ [((k % n : Nat) : Int)]
theorem Aga (n : Nat) : ∀ r k, (Aao n r k).length = r := by
 intro r
 induction r with
 | zero => intro k; rfl
 | succ r ih => intro k; simp [Aao, ih]
theorem Amx {n : Nat} (hn : 0 < n) : ∀ r k, Cn (Aao n r k) n := by
 intro r
 induction r with
 | zero => intro k x hx; cases hx
 | succ r ih =>
   intro k x hx
   simp only [Aao] at hx
   rcases List.mem_append.1 hx with hx | hx
   ·exact ih _ x hx
   ·rw [List.mem_singleton.1 hx]
    have := Nat.mod_lt k hn
    omega
def Rc (m : Nat) (xs : List Int) : Int := xs.foldl (fun s x => s * (m : Int) + x) 0
theorem To (m : Nat) (xs : List Int) (y : Int) : Rc m (xs ++ [y]) = Rc m xs * (m : Int) + y := by
 unfold Rc; rw [List.foldl_append]; rfl
theorem Ah2 {m : Nat} : ∀ (r : Nat) (xs : List Int), xs.length = r → Cn xs m → ∃ c : Nat, Rc m xs = (c : Int) ∧ c < m ^ r := by
 intro r
 induction r with
 | zero =>
   intro xs hl _
   have : xs = [] := List.length_eq_zero_iff.1 hl
   subst this
   exact ⟨0, rfl, by simp⟩
 | succ r ih =>
   intro xs hl hx
   obtain ⟨ys, y, rfl⟩ : ∃ ys y, xs = ys ++ [y] := by
    refine ⟨xs.take r, nth xs r, ?_⟩
    rw [← Fp (by omega), List.take_of_length_le (by omega)]
   have hy := hx y (by simp)
   obtain ⟨c, h1, h2⟩ := ih ys (by simpa using hl) fun z hz => hx z (by simp [hz])
   obtain ⟨d, rfl⟩ := Int.eq_ofNat_of_zero_le hy.1
   refine ⟨c * m + d, by rw [To, h1]; push_cast; rfl, ?_⟩
   have h3 := Nat.mul_le_mul_right m (show c + 1 ≤ m ^ r from h2)
   rw [Nat.succ_mul] at h3
   rw [Nat.pow_succ]
   omega
theorem Xo {m : Nat} (hm : m ≤ 8) {xs : List Int} (hl : xs.length ≤ 3) (hx : Cn xs m) : ∃ c : Nat, Rc m xs = (c : Int) ∧ c < m ^ xs.length ∧ c < 512 := by
 obtain ⟨c, h1, h2⟩ := Ah2 xs.length xs rfl hx
 have := Yh hm hl
 exact ⟨c, h1, h2, by omega⟩
theorem Ai6 {m : Nat} {xs : List Int} {i : Nat} (hi : i < xs.length) : Rc m (xs.take (i + 1)) = Rc m (xs.take i) * (m : Int) + nth xs i := by
 rw [Fp hi, To]
theorem Ai5 {m : Nat} (hm : m ≤ 8) {xs : List Int} (hl : xs.length ≤ 3) (hx : Cn xs m) {i : Nat} (hi : i < xs.length) :
  InI (Rc m (xs.take i) * (m : Int)) ∧ InI (Rc m (xs.take i) * (m : Int) + nth xs i) := by
 obtain ⟨c, h1, _, h3⟩ := Xo hm (xs := xs.take i) (by rw [List.length_take]; omega) fun z hz => hx z (List.mem_of_mem_take hz)
 have hv := hx _ (Be hi)
 have h4 : c * m ≤ 512 * 8 := Nat.mul_le_mul (by omega) hm
 rw [h1, ← Int.natCast_mul]
 generalize c * m = d at h4
 unfold InI
 omega
def Amu (n m : Nat) (f : List Int) : Nat → Nat → Int
 | 0, _ => 0
 | r + 1, k => Amu n m f r (k / n) * (m : Int) + nth f (k % n)
theorem Ama (n m : Nat) (f : List Int) : ∀ r k, Rc m ((Aao n r k).map fun x => nth f x.toNat) = Amu n m f r k := by
 intro r
 induction r with
 | zero => intro k; rfl
 | succ r ih =>
   intro k
   simp only [Aao, Amu, List.map_append, List.map_cons, List.map_nil, Int.toNat_natCast]
   rw [To, ih]
theorem Aju {n m : Nat} (hn : 0 < n) {f : List Int} (hf : f.length = n) (hfx : Cn f m) (r k : Nat) : Cn ((Aao n r k).map fun x => nth f x.toNat) m := by
 intro y hy
 obtain ⟨x, hx, rfl⟩ := List.mem_map.1 hy
 have := Amx hn r k x hx
 exact hfx _ (Be (by omega))
structure Homs (a b : SAlgebra) (f : List Int) (n m : Nat) : Prop where
 ga : Bu a
 gb : Bu b
 ty : Af8 a = Af8 b
 sa : a.Size = n
 sb : b.Size = m
 len : f.length = n
 fin : Cn f m
section
variable {a b : SAlgebra} {f : List Int} {n m : Nat}
theorem Homs.ops (h : Homs a b f n m) : a.Ops.length = b.Ops.length := by
 have := congrArg List.length h.ty
 simpa [Af8] using this
theorem Homs.op (h : Homs a b f n m) {i : Nat} (hi : i < a.Ops.length) : ∃ r : Nat, r ≤ 3 ∧ (nth a.Ops i).Arity = r ∧ (nth b.Ops i).Arity = r ∧ (nth a.Ops i).Table.length = n ^ r ∧ (nth b.Ops i).Table.length = m ^ r ∧ Cn (nth a.Ops i).Table n ∧ n ^ r ≤ 512 := by
 have hn : a.Size.toNat = n := by have := h.sa; omega
 have hm : b.Size.toNat = m := by have := h.sb; omega
 have hn8 : n ≤ 8 := by have := h.sa; have := h.ga.2.1; omega
 obtain ⟨h1, h2, h3, h4⟩ := h.ga.2.2.2 _ (Be hi)
 have hib : i < b.Ops.length := by rw [← h.ops]; exact hi
 obtain ⟨_, _, k3, _⟩ := h.gb.2.2.2 _ (Be hib)
 have e : (nth a.Ops i).Arity = (nth b.Ops i).Arity := by
  have e1 : nth (Af8 a) i = (nth a.Ops i).Arity := S8 _ hi
  have e2 : nth (Af8 b) i = (nth b.Ops i).Arity := S8 _ hib
  rw [← e1, ← e2, h.ty]
 rw [hn] at h3 h4
 rw [hm, ← e] at k3
 exact ⟨(nth a.Ops i).Arity.toNat, by omega, by omega, by omega, h3, k3, h4, Yh hn8 (by omega)⟩
theorem Homs.pos (h : Homs a b f n m) : 0 < n ∧ n ≤ 8 ∧ 0 < m ∧ m ≤ 8 := by
 have := h.sa; have := h.sb; have := h.ga.1; have := h.ga.2.1; have := h.gb.1; have := h.gb.2.1
 omega
theorem Homs.low (h : Homs a b f n m) {r k : Nat} (hr : r ≤ 3) : ∃ c : Nat, Amu n m f r k = (c : Int) ∧ c < m ^ r := by
 obtain ⟨hn, _, _, hm⟩ := h.pos
 obtain ⟨c, h1, h2, _⟩ := Xo hm (xs := (Aao n r k).map fun x => nth f x.toNat) (by rw [List.length_map, Aga]; exact hr) (Aju hn h.len h.fin r k)
 rw [Ama] at h1
 rw [List.length_map, Aga] at h2
 exact ⟨c, h1, h2⟩
end
def uniq (f : List Int) : Prop := ∀ i, i < f.length → nth f i ∉ f.take i
end Go.Proofs.Ytjinhobffbppbaa.Ax
namespace Go.Proofs.Ytjinhobffbppbaa.Ax
open Go Classical
structure Perm (f : List Int) (n : Nat) : Prop where
 len : f.length = n
 fin : Cn f n
 un : uniq f
theorem Perm.count {f : List Int} {n : Nat} (h : Perm f n) : ∀ i, i ≤ n → (Ay n fun z => decide ((z : Int) ∈ f.take i)).length = i := by
 intro i
 induction i with
 | zero =>
   intro _
   rw [List.length_eq_zero_iff]
   exact Abz.2 fun z _ => by simp
 | succ i ih =>
   intro hi
   have hil : i < f.length := by rw [h.len]; exact hi
   have hv := h.fin _ (Be hil)
   have hu := h.un i hil
   have hc : nth f i = (((nth f i).toNat : Nat) : Int) := by omega
   have := Ai3 (q := fun z => decide ((z : Int) ∈ f.take i)) (q' := fun z => decide ((z : Int) ∈ f.take (i + 1))) (x := (nth f i).toNat) (decide_eq_false (by rw [← hc]; exact hu)) (fun z => by
    rw [Fp hil, Bool.eq_iff_iff]
    simp only [decide_eq_true_eq, List.mem_append, List.mem_singleton, Bool.or_eq_true]
    constructor
    ·rintro (h1 | h1)
     ·exact .inl h1
     ·exact .inr (by omega)
    ·rintro (h1 | h1)
     ·exact .inl h1
     ·exact .inr (by omega)) n
   rw [this, ih (by omega), if_pos (by omega)]
section
variable {a : SAlgebra} {f : List Int} {n : Nat}
end
end Go.Proofs.Ytjinhobffbppbaa.Ax
namespace Go.Proofs.Ytjinhobffbppbaa.Ax
open Go
def Cur (k : Nat) (c : Sl1Cur) : Prop := (∀ x ∈ c.code, 0 ≤ x ∧ x ≤ 255) ∧ c.code.length ≤ 65536 ∧ 0 ≤ c.at_ ∧ c.at_ ≤ k
theorem Cur.mono {k l : Nat} {c : Sl1Cur} (h : Cur k c) (hl : k ≤ l) : Cur l c := ⟨h.1, h.2.1, h.2.2.1, by have := h.2.2.2; omega⟩
theorem Ame {n : Int} (h0 : 0 ≤ n) (h1 : n ≤ 255) : IntKind.u64.wrap n = n := by
 simp [IntKind.wrap, IntKind.bits, IntKind.signed]
 omega
theorem Abt {c : Sl1Cur} {k : Nat} (h : Cur k c) (hk : k ≤ 1000000000) : ∃ r d, Df c = some (r, d) ∧ Cur (k + 1) d ∧ 0 ≤ r ∧ r ≤ 255 := by
 obtain ⟨h1, h2, h3, h4⟩ := h
 unfold Df
 have fin : ∀ q : Int, 0 ≤ q → q ≤ 255 → ∃ r d, (ask (InI (c.at_ + 1)) <|
   if c.at_ + 1 ≤ (c.code.length : Int) then
    some (q, ({ code := c.code, at_ := c.at_ + 1, seed := IntKind.u64.wrap (IntKind.u64.wrap (IntKind.u64.wrap (c.seed * 6364136223846793005) + IntKind.u64.wrap q) + 550289) } : Sl1Cur))
   else some (IntKind.i64.wrap (IntKind.u64.wrap (((BitVec.ofInt IntKind.u64.bits ((IntKind.u64.wrap (IntKind.u64.wrap (IntKind.u64.wrap (c.seed * 6364136223846793005) + IntKind.u64.wrap q) + 550289)).fdiv (2 ^ min (Int.toNat 40) IntKind.u64.bits)) &&& BitVec.ofInt IntKind.u64.bits 255).toNat : Nat) : Int)),
    ({ code := c.code, at_ := c.at_ + 1, seed := IntKind.u64.wrap (IntKind.u64.wrap (IntKind.u64.wrap (c.seed * 6364136223846793005) + IntKind.u64.wrap q) + 550289) } : Sl1Cur))) = some (r, d) ∧ Cur (k + 1) d ∧ 0 ≤ r ∧ r ≤ 255 := by
  intro q hq0 hq1
  rw [Af (by unfold InI; omega)]
  split
  ·exact ⟨_, _, rfl, ⟨h1, h2, by show 0 ≤ c.at_ + 1; omega, by show c.at_ + 1 ≤ ((k + 1 : Nat) : Int); omega⟩, hq0, hq1⟩
  ·refine ⟨_, _, rfl, ⟨h1, h2, by show 0 ≤ c.at_ + 1; omega, by show c.at_ + 1 ≤ ((k + 1 : Nat) : Int); omega⟩, ?_⟩
   generalize BitVec.ofInt IntKind.u64.bits ((IntKind.u64.wrap (IntKind.u64.wrap (IntKind.u64.wrap (c.seed * 6364136223846793005) + IntKind.u64.wrap q) + 550289)).fdiv (2 ^ min (Int.toNat 40) IntKind.u64.bits)) = b
   have hb : (b &&& BitVec.ofInt IntKind.u64.bits 255).toNat ≤ 255 := by
    rw [BitVec.toNat_and]
    have : (BitVec.ofInt IntKind.u64.bits 255).toNat = 255 := by decide
    rw [this]
    exact Nat.and_le_right
   generalize (b &&& BitVec.ofInt IntKind.u64.bits 255).toNat = z at hb
   rw [Ame (by omega) (by omega), Lc (by omega) (by omega)]
   omega
 by_cases hc : c.at_ < (c.code.length : Int)
 ·rw [if_pos hc, Af ⟨h3, hc⟩]
  have hm := h1 _ (Be (xs := c.code) (i := c.at_.toNat) (by omega))
  rw [Lc (by omega) (by omega)]
  simp only [Option.bind_some]
  exact fin _ hm.1 hm.2
 ·rw [if_neg hc]
  simp only [Option.bind_some]
  exact fin 0 (by omega) (by omega)
theorem Dh {c : Sl1Cur} {k : Nat} (h : Cur k c) (hk : k ≤ 900000000) (n : Int) : ∃ r d, Al c n = some (r, d) ∧ Cur (k + 2) d ∧ 0 ≤ r ∧ (r < n ∨ (n ≤ 1 ∧ r = 0)) := by
 unfold Al
 by_cases h1 : n ≤ 1
 ·rw [if_pos h1]; exact ⟨0, c, rfl, h.mono (by omega), by omega, .inr ⟨h1, rfl⟩⟩
 ·rw [if_neg h1]
  obtain ⟨r, d, e, hd, a1, a2⟩ := Abt h (by omega)
  simp only [e, Option.bind_some]
  by_cases h2 : n > 200
  ·rw [if_pos h2, Af (by unfold InI; omega)]
   obtain ⟨r2, d2, e2, hd2, b1, b2⟩ := Abt hd (by omega)
   simp only [e2, Option.bind_some]
   rw [Af (by unfold InI; omega), Af (by omega)]
   refine ⟨_, _, rfl, hd2, Int.tmod_nonneg _ (by omega), .inl ?_⟩
   exact Int.tmod_lt_of_pos _ (by omega)
  ·rw [if_neg h2, Af (by omega)]
   refine ⟨_, _, rfl, hd.mono (by omega), Int.tmod_nonneg _ (by omega), .inl ?_⟩
   exact Int.tmod_lt_of_pos _ (by omega)
theorem Xy {c : Sl1Cur} {k : Nat} (h : Cur k c) (hk : k ≤ 900000000) (n : Int) : ∃ b d, C7 c n = some (b, d) ∧ Cur (k + 2) d := by
 unfold C7
 obtain ⟨r, d, e, hd, _, _⟩ := Dh h hk n
 simp only [e, Option.bind_some]
 exact ⟨_, _, rfl, hd⟩
theorem En {c : Sl1Cur} {k : Nat} (h : Cur k c) (hk : k ≤ 900000000) (l : List Int) (h0 : 0 < l.length) : ∃ r d, Ak c l = some (r, d) ∧ Cur (k + 2) d ∧ r ∈ l := by
 unfold Ak
 obtain ⟨r, d, e, hd, a1, a2⟩ := Dh h hk (l.length : Int)
 simp only [e, Option.bind_some]
 rw [Af (by omega)]
 exact ⟨_, _, rfl, hd, Be (by omega)⟩
open Classical
end Go.Proofs.Ytjinhobffbppbaa.Ax
namespace Go.Proofs.Ytjinhobffbppbaa.Ax
open Go Classical
def Alo (n r k : Nat) (S : Nat → Bool) : Prop := ∀ x ∈ Aao n r k, S x.toNat = true
def Anz (a : SAlgebra) (i k : Nat) (S : Nat → Bool) : Prop := Alo a.Size.toNat (nth a.Ops i).Arity.toNat k S
def Am7 (H : List Bool) : Nat := H.count true
section
variable {a : SAlgebra}
structure ReadyA (a : SAlgebra) (n : Nat) : Prop where
 good : Bu a
 sz : a.Size = (n : Int)
 pos : 0 < n
 le : n ≤ 8
theorem ReadyA.nat {n : Nat} (h : ReadyA a n) : a.Size.toNat = n := by have := h.sz; omega
theorem ReadyA.op {n : Nat} (h : ReadyA a n) {i : Nat} (hi : i < a.Ops.length) : ∃ r : Nat, (nth a.Ops i).Arity = (r : Int) ∧ r ≤ 3 ∧ (nth a.Ops i).Table.length = n ^ r ∧ Cn (nth a.Ops i).Table n ∧ (nth a.Ops i).Table.length ≤ 512 ∧ (∀ k S, Anz a i k S ↔ Alo n r k S) := by
 have := h.good.2.2.2 _ (Be hi)
 rw [h.nat] at this
 obtain ⟨h1, h2, h3, h4⟩ := this
 refine ⟨(nth a.Ops i).Arity.toNat, by omega, by omega, h3, h4, ?_, fun k S => by unfold Anz; rw [h.nat]⟩
 rw [h3]; exact Yh h.le (by omega)
structure Pass (n : Nat) (G : Nat → Bool) (c0 : Bool) (H0 : List Bool) (c : Bool) (H : List Bool) (done : (Nat → Bool) → Prop) : Prop where
 len : H.length = n
 more : ∀ z, nth H0 z = true → nth H z = true
 low : ∀ z, nth H z = true → G z = true
 up : c = true → c0 = true ∨ Am7 H0 < Am7 H
 no : c = false → c0 = false ∧ H = H0 ∧ done (nth H)
 mono : Am7 H0 ≤ Am7 H
end
end Go.Proofs.Ytjinhobffbppbaa.Ax
namespace Go.Proofs.Ytjinhobffbppbaa.Ax
open Go Classical
theorem M9 {α β : Type} {o : Option α} {k : α → Option β} {Q : α → Prop} {R : β → Prop} (h : ∃ a, o = some a ∧ Q a) (h2 : ∀ a, Q a → ∃ b, k a = some b ∧ R b) : ∃ b, o.bind k = some b ∧ R b := by
 obtain ⟨a, e, hq⟩ := h
 rw [e]; exact h2 a hq
theorem Aol {β : Type} {c : Prop} [Decidable c] {x y : Option β} {R : β → Prop} (h1 : c → ∃ b, x = some b ∧ R b) (h2 : ¬ c → ∃ b, y = some b ∧ R b) : ∃ b, (if c then x else y) = some b ∧ R b := by
 split
 ·exact h1 ‹_›
 ·exact h2 ‹_›
def K3 (a : SAlgebra) : Prop := a.Ops.length ≤ 10 ∧ ∀ f ∈ a.Ops, f.Table.length ≤ 101
theorem Oy {a : SAlgebra} (h : K3 a) : Hw a := ⟨by have := h.1; omega, fun f hf => by have := h.2 f hf; omega⟩
theorem Aef (s : ByteArray) (hs : s.size ≤ 100) : ∃ f, A2 s = some f ∧ f.Table.length ≤ 100 := by
 have hL := Bv
 unfold A2
 obtain ⟨f, e, hf⟩ := E5 (body := D7 s) (fun t => ∃ j : Nat, t.1 = (j : Int) ∧ j ≤ s.size ∧ t.2.Table.length ≤ j) (fun t => s.size - t.1.toNat) (fun f => f.Table.length ≤ 100) (fun t ht => by
  obtain ⟨x4, x3⟩ := t
  obtain ⟨j, g1, g2, g3⟩ := ht
  simp only at g1 g2 g3
  subst g1
  unfold D7
  dsimp only
  by_cases hj : (j : Int) < (s.size : Int)
  ·left
   rw [if_pos hj, Af (by omega), Af (by simp; omega), Af (by unfold InI; omega)]
   exact ⟨_, rfl, ⟨j + 1, rfl, by omega, by simp; omega⟩, by simp only; omega⟩
  ·right
   rw [if_neg hj]
   exact ⟨_, rfl, by omega⟩) (s := ((0 : Int), ({ Arity := 2, Table := Au Int } : SOp))) ⟨0, rfl, Nat.zero_le _, by simp [Au]⟩
 rw [e]
 exact ⟨_, rfl, hf⟩
theorem Ad8 {n : Int} (hn : n = 2 ∨ n = 3) : ∃ f, Ec n = some f ∧ f.Table.length ≤ 100 := by
 have hL := Bv
 unfold Ec
 obtain ⟨f, e, hf⟩ := E5 (body := D8 n) (fun t => ∃ j : Nat, t.1 = (j : Int) ∧ j ≤ 27 ∧ t.2.Table.length ≤ j) (fun t => 27 - t.1.toNat) (fun f => f.Table.length ≤ 100) (fun t ht => by
  obtain ⟨x4, x3⟩ := t
  obtain ⟨j, g1, g2, g3⟩ := ht
  simp only at g1 g2 g3
  subst g1
  unfold D8
  dsimp only
  have d1 : ∀ m : Int, (j : Int).tdiv m = (j : Int) / m := fun m => Int.tdiv_eq_ediv_of_nonneg (by omega)
  have d2 : ∀ m : Int, (j : Int).tmod m = (j : Int) % m := fun m => Int.tmod_eq_emod_of_nonneg (by omega)
  rw [d1, d1, d2]
  rcases hn with rfl | rfl
  ·have d3 : ((j : Int) / 2).tmod 2 = ((j : Int) / 2) % 2 := Int.tmod_eq_emod_of_nonneg (by omega)
   rw [d3]
   by_cases hj : (j : Int) < 2 * 2 * 2
   ·left
    rw [Af (by unfold InI; omega), Af (by unfold InI; omega), if_pos hj]
    rw [Af (by unfold InI; omega), Af (by unfold InI; omega), Af (by unfold InI; omega), Af (by unfold InI; omega), Af (by omega), Af (by unfold InI; omega), Af (by omega), Af (by unfold InI; omega), Af (by omega), Af (by simp; omega), Af (by unfold InI; omega)]
    exact ⟨_, rfl, ⟨j + 1, rfl, by omega, by simp; omega⟩, by simp only; omega⟩
   ·right
    rw [Af (by unfold InI; omega), Af (by unfold InI; omega), if_neg hj]
    exact ⟨_, rfl, by omega⟩
  ·have d3 : ((j : Int) / 3).tmod 3 = ((j : Int) / 3) % 3 := Int.tmod_eq_emod_of_nonneg (by omega)
   rw [d3]
   by_cases hj : (j : Int) < 3 * 3 * 3
   ·left
    rw [Af (by unfold InI; omega), Af (by unfold InI; omega), if_pos hj]
    rw [Af (by unfold InI; omega), Af (by unfold InI; omega), Af (by unfold InI; omega), Af (by unfold InI; omega), Af (by omega), Af (by unfold InI; omega), Af (by omega), Af (by unfold InI; omega), Af (by omega), Af (by simp; omega), Af (by unfold InI; omega)]
    exact ⟨_, rfl, ⟨j + 1, rfl, by omega, by simp; omega⟩, by simp only; omega⟩
   ·right
    rw [Af (by unfold InI; omega), Af (by unfold InI; omega), if_neg hj]
    exact ⟨_, rfl, by omega⟩) (s := ((0 : Int), ({ Arity := 3, Table := Au Int } : SOp))) ⟨0, rfl, Nat.zero_le _, by simp [Au]⟩
 rw [e]
 exact ⟨_, rfl, hf⟩
theorem Aco (k : Int) : ∃ a, F3 k = some a ∧ K3 a := by
 have fin0 : ∀ {z : Int}, K3 { Size := z, Ops := Au SOp } := ⟨by simp [Au], fun f hf => by simp [Au] at hf⟩
 have fin1 : ∀ {z : Int} {f : SOp}, f.Table.length ≤ 100 → K3 { Size := z, Ops := [f] } := fun h => ⟨by simp, fun f hf => by simp at hf; subst hf; omega⟩
 have fin2 : ∀ {z : Int} {f g : SOp}, f.Table.length ≤ 100 → g.Table.length ≤ 100 → K3 { Size := z, Ops := [f, g] } := fun h1 h2 => ⟨by simp, fun f hf => by
  simp only [List.mem_cons, List.not_mem_nil, or_false] at hf
  rcases hf with rfl | rfl <;> omega⟩
 have fin3 : ∀ {z : Int} {f g e : SOp}, f.Table.length ≤ 100 → g.Table.length ≤ 100 → e.Table.length ≤ 100 → K3 { Size := z, Ops := [f, g, e] } := fun h1 h2 h3 => ⟨by simp, fun f hf => by
  simp only [List.mem_cons, List.not_mem_nil, or_false] at hf
  rcases hf with rfl | rfl | rfl <;> omega⟩
 unfold F3
 repeat' (first | refine Aol (fun _ => ?_) (fun _ => ?_) | refine M9 (Aef _ (by decide)) fun f hf => ?_ | refine M9 (Ad8 (by simp)) fun f hf => ?_)
 all_goals
  first
   | exact ⟨_, rfl, fin0⟩
   | exact ⟨_, rfl, fin1 (by first | assumption | decide)⟩
   | exact ⟨_, rfl, fin2 (by first | assumption | decide) (by first | assumption | decide)⟩
   | exact ⟨_, rfl, fin3 (by first | assumption | decide) (by first | assumption | decide) (by first | assumption | decide)⟩
theorem R7 {c : Sl1Cur} {k : Nat} (h : Cur k c) (hk : k ≤ 600000000) : ∃ a d, Ch c = some (a, d) ∧ Cur (k + 1000) d ∧ K3 a := by
 have hL := Bv
 unfold Ch
 obtain ⟨b, d, e, hd⟩ := Xy h (by omega) 4
 rw [e]
 simp only [Option.bind_some]
 by_cases hb : b = true
 ·rw [if_pos hb]
  obtain ⟨n, d2, e2, hd2, hn⟩ := En hd (by omega) [2, 2, 3, 3, 4] (by simp)
  rw [e2]
  simp only [Option.bind_some]
  obtain ⟨m, d3, e3, hd3, hm⟩ := En hd2 (by omega) [1, 1, 2] (by simp)
  rw [e3]
  simp only [Option.bind_some]
  obtain ⟨N, rfl, hN⟩ : ∃ N : Nat, n = (N : Int) ∧ 2 ≤ N ∧ N ≤ 4 := ⟨n.toNat, by simp at hn; omega, by simp at hn; omega⟩
  obtain ⟨M, rfl, hM⟩ : ∃ M : Nat, m = (M : Int) ∧ 1 ≤ M ∧ M ≤ 2 := ⟨m.toNat, by simp at hm; omega, by simp at hm; omega⟩
  obtain ⟨⟨a, d4⟩, e4, ⟨ha1, ha2, ha3⟩, hd4⟩ := E5 (body := Cc (N : Int)) (fun s => ∃ j : Nat, s.1 = (j : Int) ∧ j ≤ M ∧ s.2.1.Size = (N : Int) ∧ s.2.1.Ops.length = M - j ∧ (∀ f ∈ s.2.1.Ops, 1 ≤ f.Table.length ∧ f.Table.length ≤ 64) ∧ Cur (k + 6 + 200 * (M - j)) s.2.2) (fun s => s.1.toNat)
   (fun t => (t.1.Size = (N : Int) ∧ t.1.Ops.length = M ∧ ∀ f ∈ t.1.Ops, 1 ≤ f.Table.length ∧ f.Table.length ≤ 64) ∧ Cur (k + 500) t.2) (fun s hs => by
   obtain ⟨x6, x5, x1⟩ := s
   obtain ⟨j, g1, g2, g3, g4, g5, g6⟩ := hs
   simp only at g1 g2 g3 g4 g5 g6
   subst g1
   unfold Cc
   dsimp only
   by_cases hj : (j : Int) > 0
   ·left
    rw [if_pos hj]
    obtain ⟨r, d5, e5, hd5, hr⟩ := En g6 (by omega) [0, 1, 2, 2, 3] (by simp)
    rw [e5]
    simp only [Option.bind_some]
    obtain ⟨R, rfl, hR⟩ : ∃ R : Nat, r = (R : Int) ∧ R ≤ 3 := ⟨r.toNat, by simp at hr; omega, by simp at hr; omega⟩
    have hop : ∃ f : SOp, ((if (N : Int) = 4 then if (R : Int) = 3 then some ({ Arity := 2, Table := Au Int } : SOp) else some { Arity := (R : Int), Table := Au Int } else some { Arity := (R : Int), Table := Au Int } : Option SOp)) = some f ∧ f.Table = [] ∧ ∃ Q : Nat, f.Arity = (Q : Int) ∧ 1 ≤ N ^ Q ∧ N ^ Q ≤ 64 ∧ Q ≤ 3 := by
     by_cases h4 : (N : Int) = 4
     ·rw [if_pos h4]
      have h4 : N = 4 := by omega
      subst h4
      by_cases h3 : (R : Int) = 3
      ·rw [if_pos h3]; exact ⟨_, rfl, rfl, 2, rfl, by decide⟩
      ·rw [if_neg h3]
       refine ⟨_, rfl, rfl, R, rfl, ?_⟩
       have : R = 0 ∨ R = 1 ∨ R = 2 := by omega
       rcases this with rfl | rfl | rfl <;> decide
     ·rw [if_neg h4]
      refine ⟨_, rfl, rfl, R, rfl, ?_⟩
      have h5 : N = 2 ∨ N = 3 := by omega
      have : R = 0 ∨ R = 1 ∨ R = 2 ∨ R = 3 := by omega
      rcases h5 with rfl | rfl <;> rcases this with rfl | rfl | rfl | rfl <;> decide
    obtain ⟨f, ef, ht, Q, hQ, q1, q2, q3⟩ := hop
    rw [ef]
    simp only [Option.bind_some]
    rw [hQ, Ah1 (by omega) q3]
    simp only [Option.bind_some]
    obtain ⟨⟨f2, d6⟩, e6, hf2, hd6⟩ := E5 (body := Cd (N : Int) (j : Int) x5) (fun s => ∃ i : Nat, s.1 = (i : Int) ∧ i ≤ N ^ Q ∧ s.2.1.Table.length = N ^ Q - i ∧ Cur (k + 6 + 200 * (M - j) + 2 + 2 * (N ^ Q - i)) s.2.2) (fun s => s.1.toNat) (fun t => t.1.Table.length = N ^ Q ∧ Cur (k + 6 + 200 * (M - j) + 2 + 2 * N ^ Q) t.2) (fun s hs => by
     obtain ⟨x8, x7, x9⟩ := s
     obtain ⟨i, k1, k2, k3, k4⟩ := hs
     simp only at k1 k2 k3 k4
     subst k1
     unfold Cd
     dsimp only
     by_cases hi : (i : Int) > 0
     ·left
      rw [if_pos hi]
      obtain ⟨v, d7, e7, hd7, _⟩ := Dh k4 (by omega) (N : Int)
      rw [e7]
      simp only [Option.bind_some]
      rw [Af (by simp; omega), Af (by unfold InI; omega)]
      exact ⟨_, rfl, ⟨i - 1, by simp only; omega, by omega, by simp; omega, hd7.mono (by omega)⟩, by simp only; omega⟩
     ·right
      rw [if_neg hi]
      exact ⟨_, rfl, by simp only; omega, k4.mono (by omega)⟩) (s := (((N ^ Q : Nat) : Int), f, d5)) ⟨N ^ Q, rfl, Nat.le_refl _, by simp [ht], hd5.mono (by omega)⟩
    rw [e6]
    simp only [Option.bind_some]
    rw [Af (by simp; omega), Af (by unfold InI; omega)]
    simp only at hf2 hd6
    refine ⟨_, rfl, ⟨j - 1, by simp only; omega, by omega, g3, by simp; omega, fun f hf => ?_, hd6.mono (by omega)⟩, by simp only; omega⟩
    rcases List.mem_append.1 hf with h' | h'
    ·exact g5 f h'
    ·rw [List.mem_singleton.1 h']; omega
   ·right
    rw [if_neg hj]
    exact ⟨_, rfl, ⟨g3, by simp only; omega, g5⟩, g6.mono (by omega)⟩) (s := ((M : Int), ({ Size := (N : Int), Ops := Au SOp } : SAlgebra), d3)) ⟨M, rfl, Nat.le_refl _, rfl, by simp [Au], fun f hf => by simp [Au] at hf, hd3.mono (by omega)⟩
  rw [e4]
  simp only [Option.bind_some]
  simp only at ha1 ha2 ha3 hd4
  have h0 : 0 < a.Ops.length := by omega
  have hf0 := ha3 _ (Be h0)
  have ht : K3 a := ⟨by omega, fun f hf => by have := ha3 f hf; omega⟩
  have hset : ∀ {z : Int} {f : SOp}, f.Table.length ≤ 101 → K3 { Size := z, Ops := a.Ops.set (Int.toNat 0) f } := fun hf => ⟨by simp; omega, fun g hg => by
   rcases List.mem_or_eq_of_mem_set hg with h' | h'
   ·have := ha3 g h'; omega
   ·rw [h']; exact hf⟩
  obtain ⟨w, d5, e5, hd5, w0, _⟩ := Dh hd4 (by omega) 16
  rw [e5]
  simp only [Option.bind_some]
  by_cases c0 : w = 0
  ·rw [if_pos c0, Af (by unfold InI; omega)]
   obtain ⟨r, d6, e6, hd6, _⟩ := En hd5 (by omega) [0, 9, (N : Int) + 1] (by simp)
   rw [e6]
   exact ⟨_, _, rfl, hd6.mono (by omega), ht⟩
  rw [if_neg c0]
  by_cases c1 : w = 1
  ·rw [if_pos c1, Af (by omega), Af (by simp only [Int.toNat_zero, List.length_singleton]; omega)]
   exact ⟨_, _, rfl, hd5.mono (by omega), hset (by simp only [Int.toNat_zero, List.length_append, List.length_singleton]; omega)⟩
  rw [if_neg c1]
  by_cases c2 : w = 2
  ·rw [if_pos c2, Af (by omega)]
   obtain ⟨r, d6, e6, hd6, r0, r1⟩ := Dh hd5 (by omega) ((nth a.Ops (Int.toNat 0)).Table.length : Int)
   rw [e6]
   simp only [Option.bind_some]
   obtain ⟨s, d7, e7, hd7, _⟩ := En hd6 (by omega) [-1, (N : Int)] (by simp)
   rw [e7]
   simp only [Option.bind_some]
   simp only [Int.toNat_zero] at r1 ⊢
   rw [Af (by omega)]
   exact ⟨_, _, rfl, hd7.mono (by omega), hset (by simp only [List.length_set]; omega)⟩
  rw [if_neg c2]
  by_cases c3 : w = 3
  ·rw [if_pos c3]
   obtain ⟨r, d6, e6, hd6, _⟩ := En hd5 (by omega) [-1, 4] (by simp)
   rw [e6]
   simp only [Option.bind_some]
   rw [Af (by omega)]
   exact ⟨_, _, rfl, hd6.mono (by omega), hset (by simp only [Int.toNat_zero]; omega)⟩
  rw [if_neg c3]
  by_cases c4 : w = 4
  ·rw [if_pos c4]
   obtain ⟨⟨a2, d6⟩, e6, ht2, hd6⟩ := E5 (body := Cf (N : Int)) (fun s => s.1.Ops.length ≤ 5 ∧ (∀ f ∈ s.1.Ops, f.Table.length ≤ 64) ∧ Cur (k + 502 + 2 * s.1.Ops.length) s.2) (fun s => 5 - s.1.Ops.length) (fun t => K3 t.1 ∧ Cur (k + 600) t.2) (fun s hs => by
    obtain ⟨x5, x1⟩ := s
    obtain ⟨g1, g2, g3⟩ := hs
    simp only at g1 g2 g3
    unfold Cf
    dsimp only
    obtain ⟨r, d7, e7, hd7, r0, r1⟩ := Dh g3 (by omega) 2
    rw [e7]
    simp only [Option.bind_some]
    rw [Af (by unfold InI; omega)]
    by_cases hl : (x5.Ops.length : Int) < 4 + r
    ·left
     rw [if_pos hl, Af (by omega), Af (by simp; omega)]
     refine ⟨_, rfl, ⟨by simp; omega, fun f hf => ?_, hd7.mono (by simp; omega)⟩, by simp; omega⟩
     rcases List.mem_append.1 hf with h' | h'
     ·exact g2 f h'
     ·rw [List.mem_singleton.1 h']; simp; omega
    ·right
     rw [if_neg hl]
     exact ⟨_, rfl, ⟨by simp only; omega, fun f hf => by have := g2 f hf; omega⟩, hd7.mono (by omega)⟩) (s := (a, d5)) ⟨by simp only; omega, fun f hf => (ha3 f hf).2, hd5.mono (by omega)⟩
   rw [e6]
   exact ⟨_, _, rfl, hd6.mono (by omega), ht2⟩
  rw [if_neg c4]
  exact ⟨_, _, rfl, hd5.mono (by omega), ht⟩
 ·rw [if_neg hb]
  obtain ⟨r, d2, e2, hd2, _⟩ := Dh hd (by omega) 17
  rw [e2]
  simp only [Option.bind_some]
  obtain ⟨a, e3, ht⟩ := Aco r
  rw [e3]
  exact ⟨_, _, rfl, hd2.mono (by omega), ht⟩
theorem Aif {code : List Int} (hc : ∀ x ∈ code, 0 ≤ x ∧ x ≤ 255) (hl : code.length ≤ 65536) : Cur 0 ({ code := code, at_ := 0, seed := 0 } : Sl1Cur) := ⟨hc, hl, Int.le_refl _, Int.le_refl _⟩
end Go.Proofs.Ytjinhobffbppbaa.Ax
namespace Go.Proofs.Ytjinhobffbppbaa.Ax
open Go Classical
def arT (a : SAlgebra) (x : Int) : Nat := (nth a.Ops (-1 - x).toNat).Arity.toNat
def Sf (a : SAlgebra) (x : Int) : Prop := x < 6 ∧ -(a.Ops.length : Int) ≤ x
def nxT (a : SAlgebra) (m : Nat) (x : Int) : Nat := if 0 ≤ x then m else m + arT a x
def WF (a : SAlgebra) : Nat → List Int → Prop
 | m, [] => m = 0
 | 0, _ :: _ => False
 | m + 1, x :: l => Sf a x ∧ WF a (nxT a m x) l
noncomputable def Qu (a : SAlgebra) : Nat → List Int → Option Nat
 | 0, _ => some 0
 | _ + 1, [] => none
 | m + 1, x :: l => if Sf a x then (Qu a (nxT a m x) l).map (· + 1) else none
section
variable {a : SAlgebra}
theorem WF.nil {m : Nat} : WF a m [] ↔ m = 0 := by cases m <;> simp [WF]
theorem WF.zero {l : List Int} (h : WF a 0 l) : l = [] := by cases l with
 | nil => rfl
 | cons x r => cases h
theorem WF.cons {m : Nat} {x : Int} {l : List Int} (h : WF a m (x :: l)) : ∃ k, m = k + 1 ∧ Sf a x ∧ WF a (nxT a k x) l := by
 cases m with
 | zero => cases h
 | succ k => exact ⟨k, rfl, h⟩
theorem Ah5 : ∀ {l : List Int} {m k : Nat}, Qu a m l = some k → k ≤ l.length ∧ WF a m (l.take k)
 | [], m, k, h => by
   cases m with
   | zero => cases h; exact ⟨Nat.le_refl _, rfl⟩
   | succ m => cases h
 | x :: l, 0, k, h => by cases h; exact ⟨Nat.zero_le _, rfl⟩
 | x :: l, m + 1, k, h => by
   simp only [Qu] at h
   split at h
   ·rename_i hs
    obtain ⟨j, h1, rfl⟩ := Option.map_eq_some_iff.1 h
    obtain ⟨h2, h3⟩ := Ah5 h1
    exact ⟨by simp; omega, hs, h3⟩
   ·cases h
theorem Ws : ∀ {p : List Int} {m : Nat} (q : List Int), WF a m p → Qu a m (p ++ q) = some p.length
 | [], m, q, h => by
   rw [WF.nil.1 h]
   cases q <;> rfl
 | x :: p, 0, q, h => by cases h
 | x :: p, m + 1, q, h => by
   simp only [List.cons_append, Qu]
   rw [if_pos h.1, Ws q h.2]
   rfl
theorem WF.append : ∀ {p q : List Int} {m k : Nat}, WF a m p → WF a k q → WF a (m + k) (p ++ q)
 | [], q, m, k, h, h2 => by rw [WF.nil.1 h, Nat.zero_add]; exact h2
 | x :: p, q, 0, k, h, _ => by cases h
 | x :: p, q, m + 1, k, h, h2 => by
   have e : m + 1 + k = (m + k) + 1 := by omega
   rw [e]
   refine ⟨h.1, ?_⟩
   have := WF.append h.2 h2
   have e2 : nxT a m x + k = nxT a (m + k) x := by unfold nxT; split <;> omega
   rw [e2] at this
   exact this
theorem WF.one : ∀ {l : List Int} {m k : Nat}, WF a m l → WF a k l → m = k
 | [], m, k, h, h2 => (WF.nil.1 h).trans (WF.nil.1 h2).symm
 | x :: l, m, k, h, h2 => by
   obtain ⟨m', rfl, _, h3⟩ := h.cons
   obtain ⟨k', rfl, _, h4⟩ := h2.cons
   have := WF.one h3 h4
   unfold nxT at this
   split at this <;> omega
theorem WF.split : ∀ {l : List Int} (m : Nat) {k : Nat}, WF a (m + k) l → ∃ p q, l = p ++ q ∧ WF a m p ∧ WF a k q
 | [], m, k, h => by
   have := WF.nil.1 h
   exact ⟨[], [], rfl, WF.nil.2 (by omega), WF.nil.2 (by omega)⟩
 | x :: l, 0, k, h => ⟨[], x :: l, rfl, rfl, by simpa using h⟩
 | x :: l, m + 1, k, h => by
   have e : m + 1 + k = (m + k) + 1 := by omega
   rw [e] at h
   have e2 : nxT a (m + k) x = nxT a m x + k := by unfold nxT; split <;> omega
   have h2 := h.2
   rw [e2] at h2
   obtain ⟨p, q, rfl, h3, h4⟩ := WF.split (nxT a m x) h2
   exact ⟨x :: p, q, rfl, ⟨h.1, h3⟩, h4⟩
theorem WF.suffix : ∀ {l : List Int} {m : Nat} (i : Nat), WF a m l → ∃ k, WF a k (l.drop i)
 | l, m, 0, h => ⟨m, h⟩
 | [], m, i + 1, h => ⟨0, rfl⟩
 | x :: l, m, i + 1, h => by
   obtain ⟨k, rfl, _, h2⟩ := h.cons
   exact WF.suffix i h2
theorem WF.swap : ∀ {p X Y : List Int} {m k : Nat}, WF a m (p ++ X) → WF a k X → WF a k Y → WF a m (p ++ Y)
 | [], X, Y, m, k, h, h2, h3 => by
   have := WF.one h h2
   subst this; exact h3
 | x :: p, X, Y, m, k, h, h2, h3 => by
   obtain ⟨m', rfl, hs, h4⟩ := WF.cons (l := p ++ X) h
   exact ⟨hs, WF.swap h4 h2 h3⟩
theorem WF.sym : ∀ {l : List Int} {m : Nat}, WF a m l → ∀ x ∈ l, Sf a x
 | [], _, _, x, hx => by cases hx
 | y :: l, m, h, x, hx => by
   obtain ⟨k, rfl, hs, h2⟩ := h.cons
   rcases List.mem_cons.1 hx with rfl | hx
   ·exact hs
   ·exact WF.sym h2 x hx
theorem WF.pos {l : List Int} {m : Nat} (h : WF a (m + 1) l) : 0 < l.length := by
 cases l with
 | nil => exact absurd (WF.nil.1 h) (by omega)
 | cons x r => simp
theorem Alm : ∀ {l : List Int} {m : Nat}, WF a m l → m ≤ l.length
 | [], m, h => by rw [WF.nil.1 h]; exact Nat.le_refl _
 | x :: l, m, h => by
   obtain ⟨k, rfl, _, h2⟩ := h.cons
   have := Alm h2
   unfold nxT at this
   simp only [List.length_cons]
   split at this <;> omega
def Ep {β : Type} (a : SAlgebra) (v : Int → β) (f : Int → List β → β) : List Int → List β → List β
 | [], st => st
 | x :: l, st => if 0 ≤ x then v x :: Ep a v f l st else f x ((Ep a v f l st).take (arT a x)) :: (Ep a v f l st).drop (arT a x)
section
variable {β : Type} {v : Int → β} {f : Int → List β → β}
theorem Fm : ∀ (p q : List Int) (st : List β), Ep a v f (p ++ q) st = Ep a v f p (Ep a v f q st)
 | [], _, _ => rfl
 | x :: p, q, st => by simp only [List.cons_append, Ep, Fm p q st]
theorem Zh : ∀ {l : List Int} {m : Nat}, WF a m l → ∃ vs : List β, vs.length = m ∧ ∀ st, Ep a v f l st = vs ++ st
 | [], m, h => ⟨[], (WF.nil.1 h).symm, fun _ => rfl⟩
 | x :: l, m, h => by
   obtain ⟨k, rfl, _, h2⟩ := h.cons
   obtain ⟨ws, h3, h4⟩ := Zh h2
   by_cases hx : 0 ≤ x
   ·refine ⟨v x :: ws, by simp [h3, nxT, hx], fun st => ?_⟩
    simp only [Ep, if_pos hx, h4, List.cons_append]
   ·have hl : ws.length = k + arT a x := by rw [h3]; simp [nxT, hx]
    refine ⟨f x (ws.take (arT a x)) :: ws.drop (arT a x), by simp; omega, fun st => ?_⟩
    simp only [Ep, if_neg hx, h4]
    rw [List.take_append_of_le_length (by omega), List.drop_append_of_le_length (by omega)]
    rfl
def W7 [Inhabited β] (a : SAlgebra) (v : Int → β) (f : Int → List β → β) (t : List Int) : β := nth (Ep a v f t []) 0
theorem P0 [Inhabited β] {t : List Int} (h : WF a 1 t) (st : List β) : Ep a v f t st = W7 a v f t :: st := by
 obtain ⟨vs, h1, h2⟩ := Zh (v := v) (f := f) h
 obtain ⟨w, rfl⟩ := List.length_eq_one_iff.1 h1
 unfold W7
 rw [h2, h2]
 rfl
theorem Md {l : List Int} {m : Nat} (h : WF a m l) : (Ep a v f l []).length = m := by
 obtain ⟨vs, h1, h2⟩ := Zh (v := v) (f := f) h
 rw [h2]; simpa using h1
end
def He (terms : List (List Int)) (t : List Int) : List Int := t.flatMap fun x => if x < 0 then [x] else nth terms x.toNat
theorem Abb {terms : List (List Int)} {x : Int} {l : List Int} : He terms (x :: l) = (if x < 0 then [x] else nth terms x.toNat) ++ He terms l := rfl
theorem Ajp {terms : List (List Int)} {x : Int} {l : List Int} : He terms (l ++ [x]) = He terms l ++ (if x < 0 then [x] else nth terms x.toNat) := by
 unfold He; rw [List.flatMap_append]; simp
theorem Aiy {terms : List (List Int)} (ht : ∀ r ∈ terms, WF a 1 r) : ∀ {l : List Int} {m : Nat}, WF a m l → (∀ x ∈ l, x < (terms.length : Int)) → WF a m (He terms l)
 | [], m, h, _ => h
 | x :: l, m, h, hl => by
   obtain ⟨k, rfl, hs, h2⟩ := h.cons
   have ih := Aiy ht h2 fun y hy => hl y (List.mem_cons_of_mem _ hy)
   have hx := hl x List.mem_cons_self
   rw [Abb]
   by_cases h0 : x < 0
   ·rw [if_pos h0]; exact ⟨hs, ih⟩
   ·rw [if_neg h0]
    have := WF.append (ht _ (Be (show x.toNat < terms.length by omega))) ih
    rw [nxT, if_pos (by omega)] at this
    rwa [Nat.add_comm 1 k] at this
theorem Abv {β : Type} [Inhabited β] {v : Int → β} {f : Int → List β → β} {terms : List (List Int)} (ht : ∀ r ∈ terms, WF a 1 r) : ∀ {l : List Int}, (∀ x ∈ l, x < (terms.length : Int)) → ∀ st,
  Ep a v f (He terms l) st = Ep a (fun x => W7 a v f (nth terms x.toNat)) f l st
 | [], _, _ => rfl
 | x :: l, hl, st => by
   have ih := Abv (v := v) (f := f) ht (l := l) (fun y hy => hl y (List.mem_cons_of_mem _ hy)) st
   have hx := hl x List.mem_cons_self
   rw [Abb, Fm, ih]
   by_cases h0 : x < 0
   ·rw [if_pos h0]
    simp only [Ep, if_neg (show ¬ 0 ≤ x by omega)]
   ·rw [if_neg h0, P0 (ht _ (Be (show x.toNat < terms.length by omega)))]
    simp only [Ep, if_pos (show 0 ≤ x by omega)]
theorem Vd {β : Type} {v w : Int → β} {f : Int → List β → β} : ∀ {l : List Int}, (∀ x ∈ l, 0 ≤ x → v x = w x) → ∀ st, Ep a v f l st = Ep a w f l st
 | [], _, _ => rfl
 | x :: l, h, st => by
   simp only [Ep]
   rw [Vd (fun y hy => h y (List.mem_cons_of_mem _ hy)) st]
   by_cases hx : 0 ≤ x
   ·rw [if_pos hx, if_pos hx, h x List.mem_cons_self hx]
   ·rw [if_neg hx, if_neg hx]
noncomputable def endA (a : SAlgebra) (t : List Int) (i : Nat) : Int := match Qu a 1 (t.drop i) with
 | some k => ((i + k : Nat) : Int)
 | none => -1
theorem Xh {m : Nat} (h : m ≤ 10) : IntKind.i64.wrap (0 - (m : Int)) = -(m : Int) := by
 rw [Lc (by omega) (by omega)]; omega
theorem Bu.op (hg : Bu a) {x : Int} (h1 : x < 0) (h2 : -(a.Ops.length : Int) ≤ x) : (-1 - x).toNat < a.Ops.length ∧ (nth a.Ops (-1 - x).toNat).Arity = (arT a x : Int) ∧ arT a x ≤ 3 ∧ (nth a.Ops (-1 - x).toNat).Table.length = a.Size.toNat ^ arT a x ∧ Cn (nth a.Ops (-1 - x).toNat).Table a.Size.toNat := by
 have hi : (-1 - x).toNat < a.Ops.length := by omega
 obtain ⟨o1, o2, o3, o4⟩ := hg.2.2.2 _ (Be hi)
 unfold arT
 refine ⟨hi, by omega, by omega, o3, ?_⟩
 exact o4
theorem Agk (hg : Bu a) {t : List Int} (hl : t.length ≤ 1000) : ∀ (k i m : Nat), i + k = t.length → m + 3 * k ≤ 100000 →
  Bb (Bm a t) ((m : Int), (i : Int)) = some (match Qu a m (t.drop i) with | some e => .inr ((i + e : Nat) : Int) | none => .inl ()) := by
 have h4 := hg.2.2.1
 intro k
 induction k with
 | zero =>
   intro i m hi hm
   have ed : t.drop i = [] := List.drop_eq_nil_of_le (by omega)
   rw [ed]
   refine Dp ?_
   unfold Bm
   dsimp only
   cases m with
   | zero => rw [if_neg (by omega)]; rfl
   | succ m => rw [if_pos (by omega), if_pos (by omega)]; rfl
 | succ k ih =>
   intro i m hi hm
   have hlt : i < t.length := by omega
   rw [Py hlt]
   cases m with
   | zero =>
     refine Dp ?_
     unfold Bm
     dsimp only
     rw [if_neg (by omega)]; rfl
   | succ m =>
     generalize hx : nth t i = x
     simp only [Qu]
     have hb : ((if x ≥ 6 then
       some true
       else
       some (decide (x < IntKind.i64.wrap (0 - (a.Ops.length : Int)))) : Option Bool)) = some (decide (¬ Sf a x)) := by
      rw [Xh (by omega)]
      by_cases c : x ≥ 6
      ·have hn : ¬ Sf a x := fun hh => by have := hh.1; omega
       rw [if_pos c, decide_eq_true hn]
      ·rw [if_neg c]
       congr 1
       rw [decide_eq_decide]
       unfold Sf
       omega
     by_cases hs : Sf a x
     ·rw [if_pos hs]
      by_cases h0 : 0 ≤ x
      ·have step : Bm a t (((m + 1 : Nat) : Int), (i : Int)) = some (.inl ((m : Int), ((i + 1 : Nat) : Int))) := by
        unfold Bm
        dsimp only
        rw [if_pos (by omega), if_neg (by omega), Af (by omega), Int.toNat_natCast, hx, hb]
        simp only [Option.bind_some]
        rw [decide_eq_false (fun hh => hh hs), if_neg (by simp), if_pos h0, Af (by unfold InI; omega), Af (by unfold InI; omega)]
        congr 3; omega
       rw [G5 step, ih (i + 1) m (by omega) (by omega), nxT, if_pos h0]
       cases Qu a m (t.drop (i + 1)) with
       | none => rfl
       | some e => simp only [Option.map_some]; congr 3; omega
      ·obtain ⟨o1, o2, o3, _, _⟩ := hg.op (x := x) (by omega) hs.2
       have step : Bm a t (((m + 1 : Nat) : Int), (i : Int)) = some (.inl (((m + arT a x : Nat) : Int), ((i + 1 : Nat) : Int))) := by
        unfold Bm
        dsimp only
        rw [if_pos (by omega), if_neg (by omega), Af (by omega), Int.toNat_natCast, hx, hb]
        simp only [Option.bind_some]
        rw [decide_eq_false (fun hh => hh hs), if_neg (by simp), if_neg (by omega), Af (by unfold InI; omega), Af (by omega), o2, Af (by unfold InI; omega), Af (by unfold InI; omega), Af (by unfold InI; omega)]
        congr 3; omega
       rw [G5 step, ih (i + 1) (m + arT a x) (by omega) (by omega), nxT, if_neg h0]
       cases Qu a (m + arT a x) (t.drop (i + 1)) with
       | none => rfl
       | some e => simp only [Option.map_some]; congr 3; omega
     ·rw [if_neg hs]
      refine Dp ?_
      unfold Bm
      dsimp only
      rw [if_pos (by omega), if_neg (by omega), Af (by omega), Int.toNat_natCast, hx, hb]
      simp only [Option.bind_some]
      rw [decide_eq_true hs, if_pos rfl]
theorem Acz (hg : Bu a) {t : List Int} (hl : t.length ≤ 1000) {i : Nat} (hi : i ≤ t.length) : Ej a t i = some (endA a t i) := by
 unfold Ej endA
 have := Agk hg hl (t.length - i) i 1 (by omega) (by omega)
 have e : Bb (Bm a t) (1, (i : Int)) = _ := this
 rw [e]
 cases Qu a 1 (t.drop i) <;> rfl
theorem Ahw (hg : Bu a) {t : List Int} (hl : t.length ≤ 1000) : ∀ (k i m : Nat), i + k = t.length → m + 3 * k ≤ 100000 →
  ∃ r, Bb (Bh a t) ((i : Int), ((m + 1 : Nat) : Int)) = some r ∧ (match r with | .inl q => q | .inr _ => -1) = (match Qu a (m + 1) (t.drop i) with | some e => ((i + e : Nat) : Int) | none => -1) := by
 have h4 := hg.2.2.1
 intro k
 induction k with
 | zero =>
   intro i m hi hm
   have ed : t.drop i = [] := List.drop_eq_nil_of_le (by omega)
   rw [ed]
   refine ⟨.inr (), Dp ?_, rfl⟩
   unfold Bh
   dsimp only
   rw [if_neg (by omega)]
 | succ k ih =>
   intro i m hi hm
   have hlt : i < t.length := by omega
   rw [Py hlt]
   generalize hx : nth t i = x
   simp only [Qu]
   by_cases h0 : 0 ≤ x
   ·have nx : nxT a m x = m := by unfold nxT; rw [if_pos h0]
    by_cases hs : x ≥ 6
    ·rw [if_neg (fun hh : Sf a x => by have := hh.1; omega)]
     refine ⟨.inl (-1), Dp ?_, rfl⟩
     unfold Bh
     dsimp only
     rw [if_pos (by omega), Af (by unfold InI; omega), Af (by omega), Int.toNat_natCast, hx, if_neg (by omega), Af (by omega), if_pos hs]
    ·rw [if_pos (show Sf a x from ⟨by omega, by omega⟩), nx]
     cases m with
     | zero =>
       refine ⟨.inl ((i + 1 : Nat) : Int), Dp ?_, by cases t.drop (i + 1) <;> rfl⟩
       unfold Bh
       dsimp only
       rw [if_pos (by omega), Af (by unfold InI; omega), Af (by omega), Int.toNat_natCast, hx, if_neg (by omega), Af (by omega), if_neg hs, if_pos (by omega), Af (by unfold InI; omega)]
       rfl
     | succ m =>
       obtain ⟨r, e1, e2⟩ := ih (i + 1) m (by omega) (by omega)
       refine ⟨r, ?_, ?_⟩
       ·have step : Bh a t ((i : Int), ((m + 1 + 1 : Nat) : Int)) = some (.inl (((i + 1 : Nat) : Int), ((m + 1 : Nat) : Int))) := by
         unfold Bh
         dsimp only
         rw [if_pos (by omega), Af (by unfold InI; omega), Af (by omega), Int.toNat_natCast, hx, if_neg (by omega), Af (by omega), if_neg hs, if_neg (by omega), Af (by unfold InI; omega)]
         congr 3
         omega
        rw [G5 step]; exact e1
       ·rw [e2]
        cases Qu a (m + 1) (t.drop (i + 1)) with
        | none => rfl
        | some e =>
          show ((i + 1 + e : Nat) : Int) = ((i + (e + 1) : Nat) : Int)
          omega
   ·by_cases hs : -(a.Ops.length : Int) ≤ x
    ·have hsy : Sf a x := ⟨by omega, hs⟩
     obtain ⟨o1, o2, o3, _, _⟩ := hg.op (x := x) (by omega) hs
     have nx : nxT a m x = m + arT a x := by unfold nxT; rw [if_neg h0]
     have hin : Cv x (IntKind.i64.wrap (0 - (a.Ops.length : Int))) (-1) = some true := by
      rw [Xh (by omega), Lz]
      simp; omega
     rw [if_pos hsy, nx]
     by_cases hz : m + arT a x = 0
     ·rw [hz]
      refine ⟨.inl ((i + 1 : Nat) : Int), Dp ?_, by cases t.drop (i + 1) <;> rfl⟩
      unfold Bh
      dsimp only
      rw [if_pos (by omega), Af (by unfold InI; omega), Af (by omega), Int.toNat_natCast, hx, if_pos (by omega), Af (by omega), hin]
      simp only [Option.bind_some, if_true]
      rw [Af (by omega), Af (by unfold InI; omega), Af (by omega), o2, Af (by unfold InI; omega), if_pos (by omega), Af (by unfold InI; omega)]
      rfl
     ·obtain ⟨m', hm'⟩ : ∃ m', m + arT a x = m' + 1 := ⟨m + arT a x - 1, by omega⟩
      rw [hm']
      obtain ⟨r, e1, e2⟩ := ih (i + 1) m' (by omega) (by omega)
      refine ⟨r, ?_, ?_⟩
      ·have step : Bh a t ((i : Int), ((m + 1 : Nat) : Int)) = some (.inl (((i + 1 : Nat) : Int), ((m' + 1 : Nat) : Int))) := by
        unfold Bh
        dsimp only
        rw [if_pos (by omega), Af (by unfold InI; omega), Af (by omega), Int.toNat_natCast, hx, if_pos (by omega), Af (by omega), hin]
        simp only [Option.bind_some, if_true]
        rw [Af (by omega), Af (by unfold InI; omega), Af (by omega), o2, Af (by unfold InI; omega), if_neg (by omega), Af (by unfold InI; omega)]
        congr 3
        omega
       rw [G5 step]; exact e1
      ·rw [e2]
       cases Qu a (m' + 1) (t.drop (i + 1)) with
       | none => rfl
       | some e =>
         show ((i + 1 + e : Nat) : Int) = ((i + (e + 1) : Nat) : Int)
         omega
    ·rw [if_neg (fun hh : Sf a x => hs hh.2)]
     have hin : Cv x (IntKind.i64.wrap (0 - (a.Ops.length : Int))) (-1) = some false := by
      rw [Xh (by omega), Lz]
      simp; omega
     refine ⟨.inl (-1), Dp ?_, rfl⟩
     unfold Bh
     dsimp only
     rw [if_pos (by omega), Af (by unfold InI; omega), Af (by omega), Int.toNat_natCast, hx, if_pos (by omega), Af (by omega), hin]
     simp only [Option.bind_some, Bool.false_eq_true, if_false]
theorem Wr (hg : Bu a) {t : List Int} (hl : t.length ≤ 1000) {i : Nat} (hi : i ≤ t.length) : C9 a t i = some (endA a t i) := by
 unfold C9 endA
 obtain ⟨r, e1, e2⟩ := Ahw hg hl (t.length - i) i 0 (by omega) (by omega)
 have e : Bb (Bh a t) ((i : Int), 1) = _ := e1
 rw [e]
 simp only [Nat.zero_add] at e2
 rw [← e2]
 cases r <;> rfl
def isT (a : SAlgebra) (t : List Int) : Prop := t.length ≤ 60 ∧ WF a 1 t
theorem Afr {t : List Int} : endA a t 0 = (t.length : Int) ↔ WF a 1 t := by
 unfold endA
 rw [List.drop_zero]
 constructor
 ·intro h
  cases he : Qu a 1 t with
  | none => rw [he] at h; simp only at h; omega
  | some k =>
    rw [he] at h
    simp only at h
    have := (Ah5 he).2
    rwa [List.take_of_length_le (by omega)] at this
 ·intro h
  have := Ws [] h
  rw [List.append_nil] at this
  rw [this]; simp
theorem Ow (hg : Bu a) {t : List Int} : El a t = some (decide (isT a t)) := by
 unfold El
 by_cases hl : t.length ≤ 60
 ·have := Acz hg (t := t) (by omega) (i := 0) (by omega)
  have e : Ej a t 0 = _ := this
  rw [if_pos (by omega), e]
  simp only [Option.bind_some]
  congr 1
  rw [Bool.eq_iff_iff, beq_iff_eq, Afr, decide_eq_true_eq]
  exact ⟨fun h => ⟨hl, h⟩, fun h => h.2⟩
 ·rw [if_neg (by omega), decide_eq_false (fun h => hl h.1)]
theorem O7 (hg : Bu a) {t : List Int} : Em a t = some (decide (isT a t)) := by
 unfold Em
 by_cases h0 : t.length > 0
 ·rw [if_pos (by omega)]
  by_cases hl : t.length ≤ 60
  ·have := Wr hg (t := t) (by omega) (i := 0) (by omega)
   have e : C9 a t 0 = _ := this
   rw [if_pos (by omega), e]
   simp only [Option.bind_some]
   congr 1
   rw [Bool.eq_iff_iff, beq_iff_eq, Afr, decide_eq_true_eq]
   exact ⟨fun h => ⟨hl, h⟩, fun h => h.2⟩
  ·rw [if_neg (by omega), decide_eq_false (fun h => hl h.1)]
 ·rw [if_neg (by omega), decide_eq_false (fun h => h0 h.2.pos)]
theorem Hm (hs : Hw a) {t : List Int} : B0 a t = some (decide (Bu a ∧ isT a t)) := by
 unfold B0
 rw [Af9 hs]
 simp only [Option.bind_some]
 by_cases hg : Bu a
 ·rw [decide_eq_true hg, if_pos rfl, Ow hg]
  simp only [Option.bind_some]
  congr 1
  rw [decide_eq_decide]
  exact ⟨fun h => ⟨hg, h⟩, fun h => h.2⟩
 ·rw [decide_eq_false hg, if_neg (by simp), decide_eq_false (fun h => hg h.1)]
theorem Is (hs : Hw a) {t : List Int} : Cr a t = some (decide (Bu a ∧ isT a t)) := by
 unfold Cr
 rw [Aew hs]
 simp only [Option.bind_some]
 by_cases hg : Bu a
 ·rw [decide_eq_true hg, if_pos rfl, O7 hg]
  simp only [Option.bind_some]
  congr 1
  rw [decide_eq_decide]
  exact ⟨fun h => ⟨hg, h⟩, fun h => h.2⟩
 ·rw [decide_eq_false hg, if_neg (by simp), decide_eq_false (fun h => hg h.1)]
theorem Ag2 (hg : Bu a) {ts : List (List Int)} (hl : ts.length ≤ 1000) : Fo a ts = some (decide (∀ r ∈ ts, isT a r)) := by
 unfold Fo
 have := Ii (body := Cb a ts) (fun i => (i : Int)) ts.length (fun i => ¬ isT a (nth ts i)) () () (fun i hi hb => by
  unfold Cb
  rw [if_pos (by omega), Af (by omega), Int.toNat_natCast, Ow hg, decide_eq_true (Classical.not_not.1 hb)]
  simp only [Option.bind_some, if_true]
  rw [Af (by unfold InI; omega)]; rfl) (fun i hi hb => by
  unfold Cb
  rw [if_pos (by omega), Af (by omega), Int.toNat_natCast, Ow hg, decide_eq_false hb]
  simp only [Option.bind_some]
  rw [if_neg (by simp)]) (by
  unfold Cb
  rw [if_neg (by omega)]) 0 (by omega)
 refine (I1 this false true).trans (congrArg some (Nx ?_))
 rw [Kx]
 constructor
 ·intro h x hx; obtain ⟨i, hi, rfl⟩ := I7.1 hx; exact h i hi
 ·intro h i hi; exact h _ (Be hi)
theorem Alr (hg : Bu a) {ts : List (List Int)} (hl : ts.length ≤ 1000) : Gx a ts = some (decide (∀ r ∈ ts, isT a r)) := by
 unfold Gx
 have := Ii (body := C4 a ts) (fun i => (i : Int)) ts.length (fun i => ¬ isT a (nth ts i)) () () (fun i hi hb => by
  unfold C4
  rw [if_pos (by omega), Af (by omega), Int.toNat_natCast, O7 hg, decide_eq_true (Classical.not_not.1 hb)]
  simp only [Option.bind_some, if_true]
  rw [Af (by unfold InI; omega)]; rfl) (fun i hi hb => by
  unfold C4
  rw [if_pos (by omega), Af (by omega), Int.toNat_natCast, O7 hg, decide_eq_false hb]
  simp only [Option.bind_some]
  rw [if_neg (by simp)]) (by
  unfold C4
  rw [if_neg (by omega)]) 0 (by omega)
 refine (I1 this false true).trans (congrArg some (Nx ?_))
 rw [Kx]
 constructor
 ·intro h x hx; obtain ⟨i, hi, rfl⟩ := I7.1 hx; exact h i hi
 ·intro h i hi; exact h _ (Be hi)
end
end Go.Proofs.Ytjinhobffbppbaa.Ax
namespace Go.Proofs.Ytjinhobffbppbaa.Ax
open Go Classical
section
variable {a : SAlgebra}
noncomputable def opV (a : SAlgebra) (x : Int) (args : List Int) : Int := nth (nth a.Ops (-1 - x).toNat).Table (Rc a.Size.toNat args).toNat
noncomputable def stk (a : SAlgebra) (vs : List Int) (l : List Int) : List Int := Ep a (fun x => nth vs x.toNat) (opV a) l []
noncomputable def L7 (a : SAlgebra) (vs t : List Int) : Int := W7 a (fun x => nth vs x.toNat) (opV a) t
theorem Aiz {n : Nat} {args : List Int} (hx : Cn args n) : ∃ c : Nat, Rc n args = (c : Int) ∧ c < n ^ args.length := Ah2 args.length args rfl hx
theorem Aor (hg : Bu a) {x : Int} (h1 : x < 0) (h2 : -(a.Ops.length : Int) ≤ x) {args : List Int} (hl : args.length = arT a x) (hx : Cn args a.Size.toNat) : 0 ≤ opV a x args ∧ opV a x args < a.Size.toNat := by
 obtain ⟨o1, o2, o3, o4, o5⟩ := hg.op h1 h2
 obtain ⟨c, e, hc⟩ := Aiz hx
 unfold opV
 rw [e, Int.toNat_natCast]
 rw [hl, ← o4] at hc
 exact o5 _ (Be hc)
theorem Zi (hg : Bu a) {vs : List Int} : ∀ {l : List Int} {m : Nat}, WF a m l → (∀ x ∈ l, 0 ≤ x → x < (vs.length : Int)) → Cn vs a.Size.toNat → Cn (stk a vs l) a.Size.toNat
 | [], _, _, _, _ => fun z hz => by cases hz
 | x :: l, m, h, hv, hs => by
   obtain ⟨k, rfl, hsy, h2⟩ := h.cons
   have ih := Zi hg h2 (fun y hy => hv y (List.mem_cons_of_mem _ hy)) hs
   have hl := Md (v := fun x => nth vs x.toNat) (f := opV a) h2
   unfold stk at ih ⊢
   simp only [Ep]
   by_cases h0 : 0 ≤ x
   ·rw [if_pos h0]
    intro z hz
    rcases List.mem_cons.1 hz with rfl | hz
    ·have := hv x List.mem_cons_self h0
     exact hs _ (Be (by omega))
    ·exact ih z hz
   ·rw [if_neg h0]
    have hn : nxT a k x = k + arT a x := by unfold nxT; rw [if_neg h0]
    intro z hz
    rcases List.mem_cons.1 hz with rfl | hz
    ·exact Aor hg (by omega) hsy.2 (by rw [List.length_take]; omega) fun y hy => ih y (List.mem_of_mem_take hy)
    ·exact ih z (List.mem_of_mem_drop hz)
theorem Aet {st : List Int} {k : Nat} (hk : k < st.length) : nth st.reverse (st.length - 1 - k) = nth st k := by
 rw [C1 (by simp; omega), C1 hk, List.getElem_reverse]
 congr 1
 omega
theorem Ag5 (hg : Bu a) {t vs : List Int} {i : Nat} {x : Int} (hx : nth t i = x) (h0 : x < 0) (h1 : -(a.Ops.length : Int) ≤ x) {st : List Int} (hl : arT a x ≤ st.length) (hin : Cn st a.Size.toNat) (hlen : st.length ≤ 1000) :
  Bb (D5 a t vs (i : Int) st.reverse) (0, 0) = some (Rc a.Size.toNat (st.take (arT a x))) := by
 obtain ⟨o1, o2, o3, o4, o5⟩ := hg.op h0 h1
 have hz : a.Size = ((a.Size.toNat : Nat) : Int) := by have := hg.1; omega
 have h8 : a.Size.toNat ≤ 8 := by have := hg.2.1; omega
 have hlt : (st.take (arT a x)).length = arT a x := by rw [List.length_take]; omega
 have hta : Cn (st.take (arT a x)) a.Size.toNat := fun y hy => hin y (List.mem_of_mem_take hy)
 have hrl : st.reverse.length = st.length := List.length_reverse
 have key := Ey (body := D5 a t vs (i : Int) st.reverse) (fun j => ((j : Int), Rc a.Size.toNat ((st.take (arT a x)).take j))) (arT a x) (Rc a.Size.toNat (st.take (arT a x))) (fun j hj => by
  obtain ⟨g1, g2⟩ := Ai5 h8 (xs := st.take (arT a x)) (by omega) hta (i := j) (by omega)
  have hjl : j < (st.take (arT a x)).length := by omega
  have en : nth st.reverse (((st.length : Nat) : Int) - 1 - (j : Int)).toNat = nth (st.take (arT a x)) j := by
   have e1 : (((st.length : Nat) : Int) - 1 - (j : Int)).toNat = st.length - 1 - j := by omega
   rw [e1, Aet (by omega), C1 (by omega), C1 hjl, List.getElem_take]
  unfold D5
  dsimp only
  rw [Int.toNat_natCast, hx, o2, if_pos (by omega), hz, Int.toNat_natCast, Af g1, hrl, Af (by unfold InI; omega), Af (by unfold InI; omega), Af (by omega), en, Af g2, Af (by unfold InI; omega), Ai6 hjl]
  rfl) (by
  unfold D5
  dsimp only
  rw [Int.toNat_natCast, hx, o2, if_neg (by omega), List.take_of_length_le (by omega)])
 exact key
theorem An5 (hg : Bu a) {t vs : List Int} (ht : isT a t) (hv : ∀ x ∈ t, 0 ≤ x → x < (vs.length : Int)) (hs : Cn vs a.Size.toNat) : Jk a t vs = some (L7 a vs t) := by
 have hL := Bv
 have hl := ht.1
 have hpos := ht.2.pos
 have h8 : a.Size.toNat ≤ 8 := by have := hg.2.1; omega
 have h4 := hg.2.2.1
 unfold Jk
 rw [Af (by omega), Af (by unfold InI; omega)]
 have hk : ∀ i, i ≤ t.length → ∃ k, WF a k (t.drop i) ∧ (stk a vs (t.drop i)).length = k ∧ Cn (stk a vs (t.drop i)) a.Size.toNat ∧ k ≤ t.length - i := fun i hi => by
  obtain ⟨k, h1⟩ := ht.2.suffix i
  refine ⟨k, h1, Md h1, Zi hg h1 (fun x hx => hv x (List.mem_of_mem_drop hx)) hs, ?_⟩
  have := Alm h1
  simpa using this
 have key := Ey (body := Es a t vs) (fun j => (((t.length : Nat) : Int) - 1 - (j : Int), (stk a vs (t.drop (t.length - j))).reverse)) t.length ((stk a vs t).reverse) (fun j hj => by
  obtain ⟨i, hi⟩ : ∃ i, i + 1 + j = t.length := ⟨t.length - 1 - j, by omega⟩
  have e1 : t.length - j = i + 1 := by omega
  have e2 : t.length - (j + 1) = i := by omega
  have e3 : ((t.length : Nat) : Int) - 1 - (j : Int) = (i : Int) := by omega
  have e4 : ((t.length : Nat) : Int) - 1 - ((j + 1 : Nat) : Int) = (i : Int) - 1 := by omega
  have hil : i < t.length := by omega
  obtain ⟨k, w1, w2, w3, w4⟩ := hk (i + 1) (by omega)
  obtain ⟨k', w1', w2', _, _⟩ := hk i (by omega)
  have hmem := Be hil
  rw [e1, e2, e3, e4]
  rw [Py hil] at w1' w2' ⊢
  generalize hx : nth t i = x at *
  obtain ⟨m, rfl, hsy, w5⟩ := w1'.cons
  have hm := WF.one w5 w1
  have hst : stk a vs (x :: t.drop (i + 1)) = if 0 ≤ x then nth vs x.toNat :: stk a vs (t.drop (i + 1)) else opV a x ((stk a vs (t.drop (i + 1))).take (arT a x)) :: (stk a vs (t.drop (i + 1))).drop (arT a x) := rfl
  rw [hst]
  generalize stk a vs (t.drop (i + 1)) = st at w2 w3 ⊢
  have hrl : st.reverse.length = st.length := List.length_reverse
  unfold Es
  dsimp only
  rw [if_pos (by omega), Af (by omega), Int.toNat_natCast, hx]
  by_cases h0 : 0 ≤ x
  ·have hxv := hv x hmem h0
   rw [if_pos h0, if_pos h0, Af (by omega), Af (by simp; omega), Af (by unfold InI; omega), List.reverse_cons]
  ·have hn : nxT a m x = m + arT a x := by unfold nxT; rw [if_neg h0]
   obtain ⟨o1, o2, o3, o4, o5⟩ := hg.op (x := x) (by omega) hsy.2
   obtain ⟨c, ec, hc⟩ := Aiz (n := a.Size.toNat) (args := st.take (arT a x)) fun y hy => w3 y (List.mem_of_mem_take hy)
   have htl : (st.take (arT a x)).length = arT a x := by rw [List.length_take]; omega
   rw [htl, ← o4] at hc
   rw [if_neg h0, if_neg h0, Af (by unfold InI; omega), Af (by omega), Ag5 hg hx (by omega) hsy.2 (by omega) w3 (by omega)]
   simp only [Option.bind_some]
   have et : List.take ((((st.length : Nat) : Int) - (arT a x : Int)).toNat - Int.toNat 0) (List.drop (Int.toNat 0) st.reverse) = (st.drop (arT a x)).reverse := by
    have e5 : (((st.length : Nat) : Int) - (arT a x : Int)).toNat - Int.toNat 0 = st.length - arT a x := by simp
    rw [e5, List.reverse_drop]
    rfl
   rw [ec, Af (by omega), hrl, o2, Af (by unfold InI; omega), Af (by omega), et, Af (by simp; omega), Af (by unfold InI; omega), List.reverse_cons]
   unfold opV
   rw [ec]) (by
  unfold Es
  dsimp only
  rw [if_neg (by omega), Nat.sub_self, List.drop_zero])
 have e0 : (((t.length : Nat) : Int) - 1, Au Int) = (((t.length : Nat) : Int) - 1 - ((0 : Nat) : Int), (stk a vs (t.drop (t.length - 0))).reverse) := by
  rw [Nat.sub_zero, List.drop_eq_nil_of_le (Nat.le_refl _)]
  simp [stk, Ep, Au]
 rw [e0, key]
 simp only [Option.bind_some]
 have h1 : (stk a vs t).length = 1 := Md ht.2
 rw [Af (by simp; omega)]
 congr 1
 obtain ⟨w, hw⟩ := List.length_eq_one_iff.1 h1
 unfold L7 W7
 show nth (stk a vs t).reverse 0 = nth (stk a vs t) 0
 rw [hw]; rfl
theorem Aeq {t : List Int} (hl : t.length ≤ 1000) (n : Nat) : E1 t n = some (decide (∀ x ∈ t, x < (n : Int))) := by
 unfold E1
 have := Ii (body := B5 t n) (fun i => (i : Int)) t.length (fun i => ¬ nth t i < (n : Int)) () () (fun i hi hb => by
  unfold B5
  have hb := Classical.not_not.1 hb
  rw [if_pos (by omega), Af (by omega), Int.toNat_natCast, if_neg (by omega), Af (by unfold InI; omega)]; rfl) (fun i hi hb => by
  unfold B5
  rw [if_pos (by omega), Af (by omega), Int.toNat_natCast, if_pos (by omega)]) (by
  unfold B5
  rw [if_neg (by omega)]) 0 (by omega)
 refine (I1 this false true).trans (congrArg some (Nx ?_))
 rw [Kx]
 constructor
 ·intro h x hx; obtain ⟨i, hi, rfl⟩ := I7.1 hx; exact h i hi
 ·intro h i hi; exact h _ (Be hi)
theorem Fd (hsm : Hw a) (hg : Bu a) {t vs : List Int} (ht : isT a t) (hl : vs.length ≤ 6) (hs : Cn vs a.Size.toNat) (hv : ∀ x ∈ t, x < (vs.length : Int)) : Bs a t vs = some (L7 a vs t, true) := by
 have hL := Bv
 have hz : a.Size = ((a.Size.toNat : Nat) : Int) := by have := hg.1; omega
 unfold Bs
 rw [Hm hsm, decide_eq_true (show Bu a ∧ isT a t from ⟨hg, ht⟩)]
 simp only [Option.bind_some, if_true]
 rw [if_neg (by omega), hz, Aek _ _ (by omega), decide_eq_true hs]
 simp only [Option.bind_some, if_true]
 rw [Aeq (by have := ht.1; omega), decide_eq_true hv]
 simp only [Option.bind_some, if_true]
 rw [An5 hg ht (fun x hx _ => hv x hx) hs]
 rfl
theorem J8 {t : List Int} (ht : isT a t) : ∀ x ∈ t, x < ((6 : Nat) : Int) := fun x hx => (ht.2.sym x hx).1
def N1 (t : List Int) (ts : List (List Int)) : Prop := (∀ x ∈ t, x < (ts.length : Int)) ∧ (He ts t).length ≤ 60
theorem Abh {ts : List (List Int)} {t : List Int} {i : Nat} (hi : i < t.length) : He ts (t.take (i + 1)) = He ts (t.take i) ++ (if nth t i < 0 then [nth t i] else nth ts (nth t i).toNat) := by
 rw [Fp hi, Ajp]
theorem Aii {ts : List (List Int)} {t : List Int} (i : Nat) : (He ts (t.take i)).length ≤ (He ts t).length := by
 have e : He ts t = He ts (t.take i) ++ He ts (t.drop i) := by
  have : t = t.take i ++ t.drop i := (List.take_append_drop i t).symm
  conv => lhs; rw [this]
  unfold He; rw [List.flatMap_append]
 rw [e]; simp
theorem Ac8 {t : List Int} {ts : List (List Int)} (hl : t.length ≤ 60) (ht : ∀ r ∈ ts, r.length ≤ 60) : Ei t ts = some (if N1 t ts then (He ts t, true) else ([], false)) := by
 have hL := Bv
 unfold Ei
 obtain ⟨r, e, hr⟩ := E5 (body := Dc t ts) (fun s => ∃ i : Nat, s.1 = (i : Int) ∧ i ≤ t.length ∧ s.2 = He ts (t.take i) ∧ (∀ x ∈ t.take i, x < (ts.length : Int)) ∧ s.2.length ≤ 60 + i) (fun s => t.length - s.1.toNat)
  (fun r => match r with | .inl _ => ¬ N1 t ts | .inr q => q = He ts t ∧ ∀ x ∈ t, x < (ts.length : Int)) (fun s hs => by
  obtain ⟨x6, q⟩ := s
  obtain ⟨i, g1, g2, g3, g4, g5⟩ := hs
  simp only at g1 g3 g5
  subst g1
  unfold Dc
  dsimp only
  by_cases hlt : i < t.length
  ·have hst := Abh (ts := ts) hlt
   have hle := Aii (ts := ts) (t := t) (i + 1)
   have hmem := Be hlt
   rw [if_pos (by omega), Af (by omega), Int.toNat_natCast]
   have hall : nth t i < (ts.length : Int) → ∀ x ∈ t.take (i + 1), x < (ts.length : Int) := fun hx y hy => by
    rw [Fp hlt] at hy
    rcases List.mem_append.1 hy with hy | hy
    ·exact g4 y hy
    ·rw [List.mem_singleton.1 hy]; exact hx
   by_cases h0 : nth t i < 0
   ·left
    rw [if_pos h0] at hst
    rw [if_pos h0, Af (by simp; omega), Af (by unfold InI; omega)]
    exact ⟨_, rfl, ⟨i + 1, rfl, hlt, by simp only; rw [hst, g3], hall (by omega), by simp; omega⟩, by simp only; omega⟩
   ·rw [if_neg h0] at hst
    rw [if_neg h0]
    by_cases hx : nth t i ≥ (ts.length : Int)
    ·right
     rw [if_pos hx]
     exact ⟨_, rfl, fun hok => by have := hok.1 _ hmem; omega⟩
    ·have hrl := ht _ (Be (show (nth t i).toNat < ts.length by omega))
     rw [if_neg hx, Af (by omega), Af (by omega)]
     by_cases h60 : (((q ++ nth ts (nth t i).toNat).length : Nat) : Int) > 60
     ·right
      rw [if_pos h60]
      refine ⟨_, rfl, fun hok => ?_⟩
      have := hok.2
      rw [hst, ← g3] at hle
      omega
     ·left
      rw [if_neg h60, Af (by unfold InI; omega)]
      exact ⟨_, rfl, ⟨i + 1, rfl, hlt, by simp only; rw [hst, g3], hall (by omega), by simp only; omega⟩, by simp only; omega⟩
  ·right
   have ei : i = t.length := by omega
   subst ei
   rw [if_neg (by omega)]
   rw [List.take_length] at g3 g4
   exact ⟨_, rfl, g3, g4⟩) (s := ((0 : Int), Au Int)) ⟨0, rfl, Nat.zero_le _, rfl, by simp, by simp [Au]⟩
 rw [e]
 cases r with
 | inl u =>
   rw [if_neg hr]; rfl
 | inr q =>
   obtain ⟨rfl, h2⟩ := hr
   simp only [Option.bind_some]
   by_cases h60 : (((He ts t).length : Nat) : Int) > 60
   ·rw [if_pos h60, if_neg (fun hok : N1 t ts => by have := hok.2; omega)]
   ·rw [if_neg h60, if_pos (show N1 t ts from ⟨h2, by omega⟩)]
theorem Yt {t : List Int} {ts : List (List Int)} (hl : t.length ≤ 60) (ht : ∀ r ∈ ts, r.length ≤ 60) : Dt t ts = some (if N1 t ts then (He ts t, true) else ([], false)) := by
 have hL := Bv
 unfold Dt
 obtain ⟨r, e, hr⟩ := E5 (body := Cp t ts) (fun s => ∃ i : Nat, s.1 = (i : Int) ∧ i ≤ t.length ∧ s.2 = He ts (t.take i) ∧ (∀ x ∈ t.take i, x < (ts.length : Int)) ∧ s.2.length ≤ 60) (fun s => t.length - s.1.toNat)
  (fun r => match r with | .inl _ => ¬ N1 t ts | .inr q => q = He ts t ∧ N1 t ts) (fun s hs => by
  obtain ⟨x6, q⟩ := s
  obtain ⟨i, g1, g2, g3, g4, g5⟩ := hs
  simp only at g1 g3 g5
  subst g1
  unfold Cp
  dsimp only
  by_cases hlt : i < t.length
  ·have hst := Abh (ts := ts) hlt
   have hle := Aii (ts := ts) (t := t) (i + 1)
   have hmem := Be hlt
   rw [if_pos (by omega), Af (by omega), Int.toNat_natCast]
   have hall : nth t i < (ts.length : Int) → ∀ x ∈ t.take (i + 1), x < (ts.length : Int) := fun hx y hy => by
    rw [Fp hlt] at hy
    rcases List.mem_append.1 hy with hy | hy
    ·exact g4 y hy
    ·rw [List.mem_singleton.1 hy]; exact hx
   by_cases hx : nth t i ≥ (ts.length : Int)
   ·right
    rw [if_pos hx]
    exact ⟨_, rfl, fun hok => by have := hok.1 _ hmem; omega⟩
   ·rw [if_neg hx, Af (by omega)]
    have fin : ∀ y : List Int, (if nth t i < 0 then [nth t i] else nth ts (nth t i).toNat) = y → (((q ++ y).length : Nat) : Int) > 60 → ¬ N1 t ts := fun y hy h60 hok => by
     have := hok.2
     rw [hst, hy, ← g3] at hle
     omega
    by_cases h0 : nth t i < 0
    ·rw [if_pos h0, Af (by omega), Af (by simp; omega)]
     by_cases h60 : (((q ++ [nth t i]).length : Nat) : Int) > 60
     ·right
      rw [if_pos h60]
      exact ⟨_, rfl, fin _ (if_pos h0) h60⟩
     ·left
      rw [if_neg h60, Af (by unfold InI; omega)]
      rw [if_pos h0] at hst
      exact ⟨_, rfl, ⟨i + 1, rfl, hlt, by simp only; rw [hst, g3], hall (by omega), by simp only; omega⟩, by simp only; omega⟩
    ·have hrl := ht _ (Be (show (nth t i).toNat < ts.length by omega))
     rw [if_neg h0, Af (by omega), Af (by omega), Af (by omega)]
     by_cases h60 : (((q ++ nth ts (nth t i).toNat).length : Nat) : Int) > 60
     ·right
      rw [if_pos h60]
      exact ⟨_, rfl, fin _ (if_neg h0) h60⟩
     ·left
      rw [if_neg h60, Af (by unfold InI; omega)]
      rw [if_neg h0] at hst
      exact ⟨_, rfl, ⟨i + 1, rfl, hlt, by simp only; rw [hst, g3], hall (by omega), by simp only; omega⟩, by simp only; omega⟩
  ·right
   have ei : i = t.length := by omega
   subst ei
   rw [if_neg (by omega)]
   rw [List.take_length] at g3 g4
   exact ⟨_, rfl, g3, g4, by rw [← g3]; exact g5⟩) (s := ((0 : Int), Au Int)) ⟨0, rfl, Nat.zero_le _, rfl, by simp, by simp [Au]⟩
 rw [e]
 cases r with
 | inl u => rw [if_neg hr]; rfl
 | inr q =>
   obtain ⟨rfl, h2⟩ := hr
   rw [if_pos h2]; rfl
noncomputable def Aff (a : SAlgebra) (t : List Int) (ts : List (List Int)) : List Int × Bool := if Bu a ∧ isT a t ∧ ts.length ≤ 6 ∧ (∀ r ∈ ts, isT a r) ∧ N1 t ts then (He ts t, true) else ([], false)
theorem V3 (hsm : Hw a) {t : List Int} {ts : List (List Int)} (hl : ts.length ≤ 1000) : Dr a t ts = some (Aff a t ts) ∧ Ds a t ts = some (Aff a t ts) := by
 have no : ¬ (Bu a ∧ isT a t ∧ ts.length ≤ 6 ∧ (∀ r ∈ ts, isT a r) ∧ N1 t ts) → Aff a t ts = ([], false) := fun h => if_neg h
 unfold Dr Ds
 rw [Hm hsm, Is hsm]
 simp only [Option.bind_some]
 by_cases h1 : Bu a ∧ isT a t
 ·rw [decide_eq_true h1, if_pos rfl, if_pos rfl]
  by_cases h2 : ts.length ≤ 6
  ·have h6 : ¬ ((ts.length : Int) > 6) := by omega
   rw [if_neg h6, if_neg h6, Ag2 h1.1 hl, Alr h1.1 hl]
   simp only [Option.bind_some]
   by_cases h3 : ∀ r ∈ ts, isT a r
   ·rw [decide_eq_true h3, if_pos rfl, if_pos rfl, Ac8 h1.2.1 (fun r hr => (h3 r hr).1), Yt h1.2.1 (fun r hr => (h3 r hr).1)]
    simp only [Option.bind_some]
    by_cases h4 : N1 t ts
    ·have er : Aff a t ts = (He ts t, true) := if_pos ⟨h1.1, h1.2, h2, h3, h4⟩
     rw [if_pos h4, er]; exact ⟨rfl, rfl⟩
    ·rw [if_neg h4, no fun hh => h4 hh.2.2.2.2]; exact ⟨rfl, rfl⟩
   ·rw [decide_eq_false h3, no fun hh => h3 hh.2.2.2.1]; exact ⟨rfl, rfl⟩
  ·have h6 : (ts.length : Int) > 6 := by omega
   rw [if_pos h6, if_pos h6, no fun hh => h2 hh.2.2.1]; exact ⟨rfl, rfl⟩
 ·rw [decide_eq_false h1, no fun hh => h1 ⟨hh.1, hh.2.1⟩]; exact ⟨rfl, rfl⟩
theorem Aj4 {vs t : List Int} {ts : List (List Int)} (ht : WF a 1 t) (hts : ∀ r ∈ ts, isT a r) (hx : ∀ x ∈ t, x < (ts.length : Int)) : WF a 1 (He ts t) ∧ L7 a vs (He ts t) = L7 a (ts.map (L7 a vs)) t := by
 refine ⟨Aiy (fun r hr => (hts r hr).2) ht hx, ?_⟩
 unfold L7 W7
 rw [Abv (fun r hr => (hts r hr).2) hx]
 refine congrArg (fun l => nth l 0) (Vd (fun x hm h0 => ?_) [])
 have := hx x hm
 rw [S8 _ (show x.toNat < ts.length by omega)]
 rfl
end
end Go.Proofs.Ytjinhobffbppbaa.Ax
namespace Go.Proofs.Ytjinhobffbppbaa.Ax
open Go Classical
theorem Ae4 {xs : List Int} (h : xs.length ≤ LIM) : Ga xs = some xs := by
 unfold Ga
 rw [Af (by show 0 + xs.length ≤ _; omega)]; rfl
theorem Aht {xs : List Int} (h : xs.length ≤ LIM) : Fk xs = some xs := by
 unfold Fk
 rw [Af (by show 0 + xs.length ≤ _; omega)]; rfl
section
variable {a : SAlgebra}
structure Place (a : SAlgebra) (t : List Int) (i : Nat) (p q : List Int) (k : Nat) : Prop where
 eq : t.drop i = p ++ q
 one : WF a 1 p
 rest : WF a k q
 lt : i < t.length
 all : WF a (k + 1) (p ++ q)
theorem Alj {t : List Int} (ht : WF a 1 t) {i : Nat} (hi : i < t.length) : ∃ p q k, Place a t i p q k := by
 obtain ⟨k, hk⟩ := ht.suffix i
 cases k with
 | zero =>
   have := hk.zero
   have := congrArg List.length this
   simp at this
   omega
 | succ k =>
   rw [Nat.add_comm] at hk
   obtain ⟨p, q, e, h1, h2⟩ := WF.split 1 hk
   exact ⟨p, q, k, e, h1, h2, hi, by rw [← e, Nat.add_comm]; exact hk⟩
theorem Place.len {t p q : List Int} {i k : Nat} (h : Place a t i p q k) : i + (p.length + q.length) = t.length ∧ 0 < p.length := by
 have := congrArg List.length h.eq
 have h2 := h.lt
 simp at this
 exact ⟨by omega, h.one.pos⟩
theorem Place.whole {t p q : List Int} {i k : Nat} (h : Place a t i p q k) : t = t.take i ++ (p ++ q) := by rw [← h.eq, List.take_append_drop]
theorem Place.endA {t p q : List Int} {i k : Nat} (h : Place a t i p q k) : endA a t i = ((i + p.length : Nat) : Int) := by
 unfold Ax.endA
 rw [h.eq, Ws q h.one]
theorem Place.part {t p q : List Int} {i k : Nat} (h : Place a t i p q k) : List.take ((i + p.length) - i) (List.drop i t) = p ∧ List.drop (i + p.length) t = q := by
 refine ⟨?_, ?_⟩
 ·rw [h.eq, Nat.add_sub_cancel_left]; simp
 ·rw [← List.drop_drop, h.eq]; simp
theorem Place.put {t p q by' : List Int} {i k : Nat} (ht : WF a 1 t) (h : Place a t i p q k) (hb : WF a 1 by') : WF a 1 (t.take i ++ (by' ++ q)) := by
 have e := h.whole
 rw [e] at ht
 refine WF.swap ht h.all ?_
 rw [Nat.add_comm]
 exact hb.append h.rest
theorem Place.value {t p q by' vs : List Int} {i k : Nat} (h : Place a t i p q k) (hb : WF a 1 by') (hv : L7 a vs p = L7 a vs by') : L7 a vs t = L7 a vs (t.take i ++ (by' ++ q)) := by
 conv => lhs; rw [h.whole]
 unfold L7 W7 at hv ⊢
 rw [Fm, Fm, Fm (t.take i), Fm by' q, P0 h.one, P0 hb]
 unfold W7
 rw [hv]
def inT (a : SAlgebra) (t : List Int) (at' : Int) : Prop := Bu a ∧ isT a t ∧ 0 ≤ at' ∧ at' < (t.length : Int)
theorem Afb (hsm : Hw a) {t p q : List Int} {i k : Nat} (hg : Bu a) (ht : isT a t) (h : Place a t i p q k) : Cz a t i = some (p, true) ∧ C2 a t i = some (p, true) := by
 have hL := Bv
 have hl := ht.1
 obtain ⟨h1, h2⟩ := h.len
 obtain ⟨h3, _⟩ := h.part
 have hi := h.lt
 have e4 : List.take (((i + p.length : Nat) : Int).toNat - ((i : Nat) : Int).toNat) (List.drop ((i : Nat) : Int).toNat t) = p := by
  rw [Int.toNat_natCast, Int.toNat_natCast]; exact h3
 unfold Cz C2
 rw [Hm hsm, Is hsm, decide_eq_true (show Bu a ∧ isT a t from ⟨hg, ht⟩)]
 simp only [Option.bind_some, if_true]
 rw [if_neg (by omega), if_neg (by omega), Af (by unfold InI; omega), Lz, decide_eq_true (by omega)]
 simp only [Option.bind_some, if_true]
 rw [Acz hg (by omega) (by omega), Wr hg (by omega) (by omega), h.endA]
 simp only [Option.bind_some]
 rw [Af (by omega), e4, Af (by omega), Ae4 (by omega), Aht (by omega)]
 exact ⟨rfl, rfl⟩
theorem Agp (hsm : Hw a) {t : List Int} {at' : Int} (hl : t.length ≤ 1000) (h : ¬ inT a t at') : Cz a t at' = some ([], false) ∧ C2 a t at' = some ([], false) := by
 unfold Cz C2
 rw [Hm hsm, Is hsm]
 simp only [Option.bind_some]
 by_cases h1 : Bu a ∧ isT a t
 ·have hpos := h1.2.2.pos
  have hno : ¬ (0 ≤ at' ∧ at' ≤ (t.length : Int) - 1) := fun hh => h ⟨h1.1, h1.2, hh.1, by omega⟩
  rw [decide_eq_true h1, if_pos rfl, if_pos rfl, Af (by unfold InI; omega), Lz, decide_eq_false hno]
  simp only [Option.bind_some, Bool.false_eq_true, if_false]
  refine ⟨?_, by trivial⟩
  by_cases h0 : at' < 0
  ·rw [if_pos h0]; rfl
  ·rw [if_neg h0, if_pos (by omega)]; rfl
 ·rw [decide_eq_false h1]; exact ⟨rfl, rfl⟩
theorem Vh (hsm : Hw a) {t p q by' : List Int} {i k : Nat} (hg : Bu a) (ht : isT a t) (hb : isT a by') (h : Place a t i p q k) :
  Ci a t i by' = some (if (t.take i ++ (by' ++ q)).length ≤ 60 then (t.take i ++ (by' ++ q), true) else ([], false)) ∧ Cy a t i by' = some (if (t.take i ++ (by' ++ q)).length ≤ 60 then (t.take i ++ (by' ++ q), true) else ([], false)) := by
 have hL := Bv
 have hl := ht.1
 have hbl := hb.1
 obtain ⟨h1, h2⟩ := h.len
 obtain ⟨_, h3⟩ := h.part
 have hi := h.lt
 have e4 : List.take (((t.length : Nat) : Int).toNat - ((i + p.length : Nat) : Int).toNat) (List.drop ((i + p.length : Nat) : Int).toNat t) = q := by
  rw [Int.toNat_natCast, Int.toNat_natCast, h3]
  exact List.take_of_length_le (by omega)
 have e5 : List.take (((i : Nat) : Int).toNat - Int.toNat 0) (List.drop (Int.toNat 0) t) = t.take i := by simp
 have e6 : t.take i ++ by' ++ q = t.take i ++ (by' ++ q) := List.append_assoc _ _ _
 have hlt : (t.take i).length = i := by rw [List.length_take]; omega
 have k1 : E7 a t i by' = some (t.take i ++ (by' ++ q)) := by
  unfold E7
  rw [Af (by omega), e5, Ae4 (by omega)]
  simp only [Option.bind_some]
  rw [Af (by omega), Acz hg (by omega) (by omega), h.endA]
  simp only [Option.bind_some]
  rw [Af (by omega), e4, Af (by simp; omega), e6]
 have k2 : Gs a t i by' = some (t.take i ++ (by' ++ q)) := by
  unfold Gs
  rw [Af (by omega), e5, Aht (by omega)]
  simp only [Option.bind_some]
  rw [Af (by omega), Wr hg (by omega) (by omega), h.endA]
  simp only [Option.bind_some]
  rw [Af (by omega), e4, Af (by simp; omega), e6]
 unfold Ci Cy
 rw [Hm hsm, Is hsm, decide_eq_true (show Bu a ∧ isT a t from ⟨hg, ht⟩)]
 simp only [Option.bind_some, if_true]
 rw [Ow hg, O7 hg, decide_eq_true hb]
 simp only [Option.bind_some, if_true]
 rw [if_neg (by omega), if_neg (by omega), Af (by unfold InI; omega), Lz, decide_eq_true (by omega)]
 simp only [Option.bind_some, if_true]
 rw [k1, k2]
 simp only [Option.bind_some]
 by_cases h60 : (t.take i ++ (by' ++ q)).length ≤ 60
 ·have h6 : ¬ (((t.take i ++ (by' ++ q)).length : Nat) : Int) > 60 := by omega
  rw [if_neg h6, if_pos h60]; exact ⟨rfl, rfl⟩
 ·have h6 : (((t.take i ++ (by' ++ q)).length : Nat) : Int) > 60 := by omega
  rw [if_pos h6, if_neg h60]; exact ⟨rfl, rfl⟩
theorem X1 (hsm : Hw a) {t by' : List Int} {at' : Int} (hl : t.length ≤ 1000) (h : ¬ (inT a t at' ∧ isT a by')) : Ci a t at' by' = some ([], false) ∧ Cy a t at' by' = some ([], false) := by
 unfold Ci Cy
 rw [Hm hsm, Is hsm]
 simp only [Option.bind_some]
 by_cases h1 : Bu a ∧ isT a t
 ·have hpos := h1.2.2.pos
  rw [decide_eq_true h1, if_pos rfl, if_pos rfl, Ow h1.1, O7 h1.1]
  simp only [Option.bind_some]
  by_cases hb : isT a by'
  ·have hno : ¬ (0 ≤ at' ∧ at' ≤ (t.length : Int) - 1) := fun hh => h ⟨⟨h1.1, h1.2, hh.1, by omega⟩, hb⟩
   rw [decide_eq_true hb, if_pos rfl, if_pos rfl, Af (by unfold InI; omega), Lz, decide_eq_false hno]
   simp only [Option.bind_some, Bool.false_eq_true, if_false]
   refine ⟨?_, by trivial⟩
   by_cases h0 : at' < 0
   ·rw [if_pos h0]; rfl
   ·rw [if_neg h0, if_pos (by omega)]; rfl
  ·rw [decide_eq_false hb]; exact ⟨rfl, rfl⟩
 ·rw [decide_eq_false h1]; exact ⟨rfl, rfl⟩
def mxF (d : Int) (l : List Int) : Int := l.foldl (fun m x => if x > m then x else m) d
def evD (a : SAlgebra) (l : List Int) : List Int := Ep a (fun _ => (0 : Int)) (fun _ args => mxF 0 args + 1) l []
def Of (a : SAlgebra) (t : List Int) : Int := W7 a (fun _ => (0 : Int)) (fun _ args => mxF 0 args + 1) t
theorem Acv {B : Int} : ∀ {l : List Int} {d : Int}, d ≤ B → (∀ x ∈ l, x ≤ B) → d ≤ mxF d l ∧ mxF d l ≤ B
 | [], d, h, _ => ⟨Int.le_refl _, h⟩
 | x :: l, d, h, hl => by
   have hx := hl x List.mem_cons_self
   have := Acv (l := l) (d := if x > d then x else d) (by split <;> omega) fun y hy => hl y (List.mem_cons_of_mem _ hy)
   have e : mxF d (x :: l) = mxF (if x > d then x else d) l := rfl
   rw [e]
   refine ⟨?_, this.2⟩
   have := this.1
   split at this <;> omega
theorem Ua : ∀ {l : List Int} {m : Nat}, WF a m l → ∀ x ∈ evD a l, 0 ≤ x ∧ x ≤ (l.length : Int)
 | [], _, _, x, hx => by cases hx
 | y :: l, m, h, x, hx => by
   obtain ⟨k, rfl, _, h2⟩ := h.cons
   have ih := Ua h2
   unfold evD at ih hx
   simp only [Ep] at hx
   simp only [List.length_cons]
   split at hx
   ·rcases List.mem_cons.1 hx with rfl | hx
    ·omega
    ·have := ih x hx; omega
   ·rcases List.mem_cons.1 hx with rfl | hx
    ·have := Acv (B := (l.length : Int)) (d := 0) (by omega) (l := (Ep a (fun _ => (0 : Int)) (fun _ args => mxF 0 args + 1) l []).take (arT a y)) fun z hz => (ih z (List.mem_of_mem_take hz)).2
     omega
    ·have := ih x (List.mem_of_mem_drop hx); omega
theorem Amv {l : List Int} {m : Nat} (h : WF a m l) : (evD a l).length = m := Md h
theorem Abq {p q : List Int} (h : WF a 1 p) : evD a (p ++ q) = Of a p :: evD a q := by
 unfold evD Of
 rw [Fm, P0 h]
theorem Ah7 {x : Int} {l : List Int} (h0 : ¬ 0 ≤ x) (h : WF a (arT a x) l) : Of a (x :: l) = mxF 0 (evD a l) + 1 := by
 have hl := Amv h
 unfold Of W7
 simp only [Ep, if_neg h0]
 show mxF 0 ((evD a l).take (arT a x)) + 1 = _
 rw [List.take_of_length_le (by omega)]
theorem Aep {x : Int} {l : List Int} (h0 : 0 ≤ x) : Of a (x :: l) = 0 := by
 unfold Of W7
 simp only [Ep, if_pos h0]
 rfl
theorem Xn {α : Type} {f : Nat → Option α} (h : ∀ n, LeO (f n) (f (n + 1))) : upO f := by
 intro n m v hnm e
 obtain ⟨k, rfl⟩ : ∃ k, m = n + k := ⟨m - n, by omega⟩
 clear hnm
 induction k with
 | zero => exact e
 | succ k ih => exact h (n + k) v ih
theorem Adp {s1 s2 : SAlgebra → List Int → Int → Option (Int × Int)} (h : ∀ b t i, LeO (s1 b t i) (s2 b t i)) (b : SAlgebra) (t : List Int) (i : Int) : LeO (Cj s1 b t i) (Cj s2 b t i) := by
 unfold Cj
 refine LeO.ask (LeO.ask (LeO.ite (LeO.refl _) (LeO.ask (LeO.ask (LeO.bind (LeO.loop (fun s => ?_) _) fun _ => LeO.refl _)))))
 obtain ⟨x, y, z⟩ := s
 unfold De
 dsimp only
 exact LeO.ite (LeO.bind (h _ _ _) fun _ => LeO.refl _) (LeO.refl _)
theorem Ag8 (b : SAlgebra) (t : List Int) (i : Int) : upO fun n => Bw n b t i := by
 have step : ∀ n b t i, LeO (Bw n b t i) (Bw (n + 1) b t i) := by
  intro n
  induction n with
  | zero => intro b t i v e; cases e
  | succ n ih => intro b t i; exact Adp ih b t i
 exact Xn fun n => step n b t i
theorem Ab3 {s1 s2 : SAlgebra → List Int → Option Int} (h : ∀ b t, LeO (s1 b t) (s2 b t)) (b : SAlgebra) (t : List Int) : LeO (Ce s1 b t) (Ce s2 b t) := by
 unfold Ce
 refine LeO.ask (LeO.ite (LeO.refl _) (LeO.bind (LeO.refl _) fun r => LeO.bind (LeO.loop (fun s => ?_) _) fun _ => LeO.refl _))
 obtain ⟨x, y⟩ := s
 unfold B8
 dsimp only
 exact LeO.ite (LeO.ask (LeO.bind (h _ _) fun _ => LeO.refl _)) (LeO.refl _)
theorem Age (b : SAlgebra) (t : List Int) : upO fun n => Bq n b t := by
 have step : ∀ n b t, LeO (Bq n b t) (Bq (n + 1) b t) := by
  intro n
  induction n with
  | zero => intro b t v e; cases e
  | succ n ih => intro b t; exact Ab3 ih b t
 exact Xn fun n => step n b t
theorem Abi {t p q : List Int} {i : Nat} (h : t.drop i = p ++ q) : t.drop (i + p.length) = q := by
 rw [← List.drop_drop, h]; simp
theorem Vq (hg : Bu a) : ∀ (n : Nat) {p : List Int}, p.length ≤ n → ∀ {t q : List Int} {i : Nat}, t.drop i = p ++ q → WF a 1 p → t.length ≤ 60 → Bw n a t (i : Int) = some (Of a p, ((i + p.length : Nat) : Int))
 | 0, p, hp, _, _, _, _, h, _ => by have := h.pos; omega
 | n + 1, p, hp, t, q, i, hd, h, h60 => by
   cases p with
   | nil => exact absurd h.pos (by simp)
   | cons x p' =>
     have hlt : i < t.length := by
      rcases Nat.lt_or_ge i t.length with c | c
      ·exact c
      ·rw [List.drop_eq_nil_of_le c] at hd; cases hd
     have h4 := hg.2.2.1
     have hlen := congrArg List.length hd
     simp only [List.length_drop, List.length_append, List.length_cons] at hlen hp
     rw [Py hlt] at hd
     have hx : nth t i = x := (List.cons.inj hd).1
     have hd' : t.drop (i + 1) = p' ++ q := (List.cons.inj hd).2
     obtain ⟨hsy, h2⟩ : Sf a x ∧ WF a (nxT a 0 x) p' := h
     show Cj (Bw n) a t (i : Int) = _
     unfold Cj
     rw [Af (by omega), Af (by unfold InI; omega), Int.toNat_natCast, hx]
     by_cases h0 : 0 ≤ x
     ·rw [nxT, if_pos h0] at h2
      have := h2.zero
      subst this
      rw [if_pos h0, Aep h0]
      rfl
     ·rw [nxT, if_neg h0, Nat.zero_add] at h2
      obtain ⟨o1, o2, o3, _, _⟩ := hg.op (x := x) (by omega) hsy.2
      have hb := Ua h2
      have hM := Acv (B := (p'.length : Int)) (d := 0) (by omega) (l := evD a p') fun z hz => (hb z hz).2
      rw [if_neg h0, Af (by unfold InI; omega), Af (by omega), o2]
      obtain ⟨r, e, hr⟩ := E5 (body := De (Bw n) a t) (fun s => ∃ (m j : Nat) (pr : List Int), s.1 = (m : Int) ∧ s.2.2 = (j : Int) ∧ WF a m pr ∧ t.drop j = pr ++ q ∧ j + pr.length = i + 1 + p'.length ∧ pr.length ≤ p'.length ∧ m ≤ 3 ∧ mxF s.2.1 (evD a pr) = mxF 0 (evD a p'))
       (fun s => s.1.toNat) (fun r => r = (mxF 0 (evD a p'), ((i + 1 + p'.length : Nat) : Int))) (fun s hs => by
       obtain ⟨x10, x9, x2⟩ := s
       obtain ⟨m, j, pr, g1, g2, g3, g4, g5, g6, g7, g8⟩ := hs
       simp only at g1 g2 g8
       subst g1 g2
       unfold De
       dsimp only
       cases m with
       | zero =>
         right
         have := g3.zero
         subst this
         rw [if_neg (by omega)]
         refine ⟨_, rfl, ?_⟩
         have e1 : mxF x9 (evD a []) = x9 := rfl
         rw [e1] at g8
         rw [g8]
         simp only [List.length_nil] at g5
         rw [← g5]
         rfl
       | succ m =>
         left
         rw [Nat.add_comm] at g3
         obtain ⟨p1, p2, rfl, k1, k2⟩ := WF.split 1 g3
         rw [List.length_append] at g5 g6
         rw [List.append_assoc] at g4
         rw [if_pos (by omega), Vq hg n (p := p1) (by omega) g4 k1 h60]
         simp only [Option.bind_some]
         rw [Af (by unfold InI; omega)]
         refine ⟨_, rfl, ⟨m, j + p1.length, p2, by simp only; omega, rfl, k2, Abi g4, by omega, by omega, by omega, ?_⟩, by simp only; omega⟩
         rw [Abq k1] at g8
         exact g8) (s := (((arT a x : Nat) : Int), (0 : Int), ((i : Int) + 1))) ⟨arT a x, i + 1, p', rfl, by simp only; omega, h2, hd', by omega, Nat.le_refl _, o3, rfl⟩
      rw [e, hr]
      simp only [Option.bind_some]
      rw [Af (by unfold InI; omega), Ah7 h0 h2]
      congr 2
      simp only [List.length_cons]
      omega
theorem Aja (hg : Bu a) {x : Int} {p' : List Int} {m : Nat} (h : WF a m p') (hl : p'.length ≤ 59) : ∃ ps, F0 a (x :: p') = some ps ∧ ps.flatten = p' ∧ (∀ r ∈ ps, WF a 1 r) ∧ ps.length ≤ 60 := by
 have hL := Bv
 unfold F0
 obtain ⟨ps, e, h1, h2, h3⟩ := E5 (body := Eh a (x :: p')) (fun s => ∃ (j k : Nat) (pr : List Int), s.1 = (j : Int) ∧ WF a k pr ∧ (x :: p').drop j = pr ∧ j + pr.length = (x :: p').length ∧ s.2.flatten ++ pr = p' ∧ (∀ r ∈ s.2, WF a 1 r) ∧ s.2.length ≤ j)
  (fun s => 60 - s.1.toNat) (fun ps => ps.flatten = p' ∧ (∀ r ∈ ps, WF a 1 r) ∧ ps.length ≤ 60) (fun s hs => by
  obtain ⟨x6, acc⟩ := s
  obtain ⟨j, k, pr, g1, g2, g3, g4, g5, g6, g7⟩ := hs
  simp only at g1 g5 g6 g7
  subst g1
  simp only [List.length_cons] at g4
  unfold Eh
  dsimp only
  by_cases hlt : j < (x :: p').length
  ·left
   simp only [List.length_cons] at hlt
   cases k with
   | zero =>
     have := g2.zero
     subst this
     simp at g4; omega
   | succ k =>
     rw [Nat.add_comm] at g2
     obtain ⟨p1, p2, rfl, k1, k2⟩ := WF.split 1 g2
     have hpos := k1.pos
     rw [List.length_append] at g4
     have hend : endA a (x :: p') j = ((j + p1.length : Nat) : Int) := by
      unfold endA
      rw [g3, Ws p2 k1]
     have e4 : List.take (((j + p1.length : Nat) : Int).toNat - ((j : Nat) : Int).toNat) (List.drop ((j : Nat) : Int).toNat (x :: p')) = p1 := by
      rw [Int.toNat_natCast, Int.toNat_natCast, g3, Nat.add_sub_cancel_left]; simp
     rw [if_pos (by simp only [List.length_cons]; omega), Wr hg (by simp; omega) (by simp; omega), hend]
     simp only [Option.bind_some]
     rw [Af (by simp only [List.length_cons]; omega), e4, Aht (by omega)]
     simp only [Option.bind_some]
     rw [Af (by simp; omega)]
     refine ⟨_, rfl, ⟨j + p1.length, k, p2, rfl, k2, Abi g3, by simp only [List.length_cons]; omega, by simp only [List.flatten_append, List.flatten_cons, List.flatten_nil, List.append_nil, List.append_assoc]; exact g5, fun r hr => ?_, by simp; omega⟩, by simp only; omega⟩
     rcases List.mem_append.1 hr with hr | hr
     ·exact g6 r hr
     ·rw [List.mem_singleton.1 hr]; exact k1
  ·right
   simp only [List.length_cons] at hlt
   have hn : pr = [] := List.length_eq_zero_iff.1 (by omega)
   subst hn
   rw [if_neg (by simp only [List.length_cons]; omega)]
   exact ⟨_, rfl, by simpa using g5, g6, by simp at g4; omega⟩) (s := ((1 : Int), Au (List Int))) ⟨1, m, p', rfl, h, rfl, by simp; omega, by simp [Au], by simp [Au], by simp [Au]⟩
 rw [e]
 exact ⟨ps, rfl, h1, h2, h3⟩
theorem Aev : ∀ {ps : List (List Int)}, (∀ r ∈ ps, WF a 1 r) → evD a ps.flatten = ps.map (Of a)
 | [], _ => rfl
 | p :: ps, h => by
   rw [List.flatten_cons, Abq (h p List.mem_cons_self), Aev fun r hr => h r (List.mem_cons_of_mem _ hr)]
   rfl
theorem Amc (d : Int) (l : List Int) (x : Int) : mxF d (l ++ [x]) = if x > mxF d l then x else mxF d l := by
 unfold mxF; rw [List.foldl_append]; rfl
theorem Vu (hg : Bu a) : ∀ (n : Nat) {p : List Int}, p.length ≤ n → WF a 1 p → p.length ≤ 60 → Bq n a p = some (Of a p)
 | 0, p, hp, h, _ => by have := h.pos; omega
 | n + 1, p, hp, h, h60 => by
   cases p with
   | nil => exact absurd h.pos (by simp)
   | cons x p' =>
     simp only [List.length_cons] at hp h60
     obtain ⟨hsy, h2⟩ : Sf a x ∧ WF a (nxT a 0 x) p' := h
     show Ce (Bq n) a (x :: p') = _
     unfold Ce
     have e0 : nth (x :: p') (Int.toNat 0) = x := rfl
     rw [Af (by simp), e0]
     by_cases h0 : 0 ≤ x
     ·rw [if_pos h0, Aep h0]
     ·rw [nxT, if_neg h0, Nat.zero_add] at h2
      obtain ⟨ps, e, f1, f2, f3⟩ := Aja hg (x := x) h2 (by omega)
      have hev := Aev f2
      rw [f1] at hev
      have hb := Ua h2
      have hM := Acv (B := (p'.length : Int)) (d := 0) (by omega) (l := evD a p') fun z hz => (hb z hz).2
      have hlen : ∀ r ∈ ps, r.length ≤ p'.length := fun r hr => by
       rw [← f1]
       exact (List.sublist_flatten_of_mem hr).length_le
      rw [if_neg h0, e]
      simp only [Option.bind_some]
      have key := Ey (body := B8 (Bq n) a ps) (fun j => ((j : Int), mxF 0 ((ps.take j).map (Of a)))) ps.length (mxF 0 (ps.map (Of a))) (fun j hj => by
       have hr := Be hj
       have hrl := hlen _ hr
       unfold B8
       dsimp only
       rw [if_pos (by omega), Af (by omega), Int.toNat_natCast, Vu hg n (by omega) (f2 _ hr) (by omega)]
       simp only [Option.bind_some]
       rw [Ako]
       simp only [Option.bind_some]
       rw [Af (by unfold InI; omega), Fp hj, List.map_append]
       congr 3
       have e2 : List.map (Of a) [nth ps j] = [Of a (nth ps j)] := rfl
       rw [e2, Amc]
       split <;> split <;> omega) (by
       unfold B8
       dsimp only
       rw [if_neg (by omega), List.take_length])
      have key' : Bb (B8 (Bq n) a ps) (0, 0) = _ := key
      rw [key']
      simp only [Option.bind_some]
      rw [← hev, Af (by unfold InI; omega), Ah7 h0 h2]
theorem Agq (hsm : Hw a) {t : List Int} : E0 a t = some (if Bu a ∧ isT a t then (Of a t, true) else (0, false)) ∧ E3 a t = some (if Bu a ∧ isT a t then (Of a t, true) else (0, false)) := by
 unfold E0 E3
 rw [Hm hsm, Is hsm]
 simp only [Option.bind_some]
 by_cases h : Bu a ∧ isT a t
 ·have e1 : (Oh fun n => Bw n a t 0) = some (Of a t, ((0 + t.length : Nat) : Int)) :=
   Adb (Ag8 a t 0) (Vq h.1 t.length (Nat.le_refl _) (i := 0) (q := []) (by simp) h.2.2 h.2.1)
  have e2 : (Oh fun n => Bq n a t) = some (Of a t) := Adb (Age a t) (Vu h.1 t.length (Nat.le_refl _) h.2.2 h.2.1)
  rw [decide_eq_true h, if_pos rfl, if_pos rfl, if_pos h, e1, e2]
  exact ⟨rfl, rfl⟩
 ·rw [decide_eq_false h, if_neg h]; exact ⟨rfl, rfl⟩
theorem Ai2 {t : List Int} (hl : t.length ≤ 1000) (ht : ∀ x ∈ t, x < ((6 : Nat) : Int)) : Gt [t] = some (Ay 6 fun z => decide ((z : Int) ∈ t)) := by
 have hL := Bv
 unfold Gt
 have inner : Bb (C5 [t] 0) (0, Ms 6 fun z => decide ((z : Int) ∈ t.take 0)) = some (Ms 6 fun z => decide ((z : Int) ∈ t)) := by
  have key := Ey (body := C5 [t] 0) (fun j => ((j : Int), Ms 6 fun z => decide ((z : Int) ∈ t.take j))) t.length (Ms 6 fun z => decide ((z : Int) ∈ t)) (fun j hj => by
   have hx := ht _ (Be hj)
   have hbl := Te 6 fun z => decide ((z : Int) ∈ t.take j)
   have e0 : nth [t] (Int.toNat 0) = t := rfl
   unfold C5
   dsimp only
   rw [e0, if_pos (by omega), Af (by omega), Int.toNat_natCast]
   by_cases h0 : nth t j ≥ 0
   ·rw [if_pos h0, Af (by rw [hbl]; omega), Af (by unfold InI; omega), Alk (by omega)]
    congr 3
    refine Yw fun z _ => ?_
    rw [Fp hj]
    by_cases hz : z = (nth t j).toNat
    ·rw [if_pos hz]
     exact (decide_eq_true (by rw [List.mem_append, List.mem_singleton]; right; omega)).symm
    ·rw [if_neg hz, decide_eq_decide, List.mem_append, List.mem_singleton]
     exact ⟨.inl, fun hh => hh.resolve_right (by omega)⟩
   ·rw [if_neg h0, Af (by unfold InI; omega)]
    congr 3
    refine Yw fun z _ => ?_
    rw [Fp hj, decide_eq_decide, List.mem_append, List.mem_singleton]
    exact ⟨.inl, fun hh => hh.resolve_right (by omega)⟩) (by
   have e0 : nth [t] (Int.toNat 0) = t := rfl
   unfold C5
   dsimp only
   rw [e0, if_neg (by omega), List.take_length])
  exact key
 have e1 : List.replicate (Int.toNat 6) false = Ms 6 fun z => decide ((z : Int) ∈ t.take 0) := by
  refine Ahy (by rw [Te]; rfl) fun z hz => ?_
  have hz6 : z < 6 := by simpa using hz
  rw [Wt hz6, Aav _ (by simpa using hz)]
  simp
 have step : C3 [t] (0, Ms 6 fun z => decide ((z : Int) ∈ t.take 0)) = some (.inl (1, Ms 6 fun z => decide ((z : Int) ∈ t))) := by
  unfold C3
  dsimp only
  rw [if_pos (by simp), Af (by simp), inner]
  simp only [Option.bind_some]
  rw [Af (by unfold InI; omega)]
  rfl
 have stop : C3 [t] (1, Ms 6 fun z => decide ((z : Int) ∈ t)) = some (.inr (Ms 6 fun z => decide ((z : Int) ∈ t))) := by
  unfold C3
  dsimp only
  rw [if_neg (by simp)]
 rw [e1, G5 step, Dp stop]
 simp only [Option.bind_some]
 rw [Ak8 (by omega)]
 rfl
theorem Ak9 {t : List Int} (hl : t.length ≤ 1000) (ht : ∀ x ∈ t, x < ((6 : Nat) : Int)) : Gr t = some (Ay 6 fun z => decide ((z : Int) ∈ t)) := by
 unfold Gr
 have key := Ey (body := D2 t) (fun j => ((j : Int), Ay 6 fun z => decide ((z : Int) ∈ t.take j))) t.length (Ay 6 fun z => decide ((z : Int) ∈ t)) (fun j hj => by
  have hx := ht _ (Be hj)
  unfold D2
  dsimp only
  rw [if_pos (by omega), Af (by omega), Int.toNat_natCast]
  by_cases h0 : nth t j ≥ 0
  ·have ex : nth t j = (((nth t j).toNat : Nat) : Int) := by omega
   have hput := Ant (n := 6) (by omega) (fun z => decide ((z : Int) ∈ t.take j)) (z := (nth t j).toNat) (by omega)
   rw [← ex] at hput
   rw [if_pos h0, Af (by omega), hput]
   simp only [Option.bind_some]
   rw [Af (by unfold InI; omega)]
   congr 3
   refine Pn fun z _ => ?_
   rw [Fp hj, decide_eq_decide, List.mem_append, List.mem_singleton, decide_eq_true_eq]
   constructor
   ·rintro (hh | hh)
    ·exact .inl hh
    ·right; omega
   ·rintro (hh | hh)
    ·exact .inl hh
    ·right; omega
  ·rw [if_neg h0, Af (by unfold InI; omega)]
   congr 3
   refine Pn fun z _ => ?_
   rw [Fp hj, decide_eq_decide, List.mem_append, List.mem_singleton]
   exact ⟨.inl, fun hh => hh.resolve_right (by omega)⟩) (by
  unfold D2
  dsimp only
  rw [if_neg (by omega), List.take_length])
 have e0 : ((0 : Int), Au Int) = (((0 : Nat) : Int), Ay 6 fun z => decide ((z : Int) ∈ t.take 0)) := by
  have : (Ay 6 fun z => decide ((z : Int) ∈ t.take 0)) = [] := Abz.2 fun i _ => by simp
  rw [this]; rfl
 rw [e0, key]; rfl
theorem Aj8 (hsm : Hw a) {t : List Int} : ∃ r, Ft a t = some r ∧ Fq a t = some r ∧ r.1.length ≤ 6 := by
 unfold Ft Fq
 rw [Hm hsm, Is hsm]
 simp only [Option.bind_some]
 by_cases h : Bu a ∧ isT a t
 ·have hl := h.2.1
  rw [decide_eq_true h, if_pos rfl, if_pos rfl, Ai2 (by omega) (J8 h.2), Ak9 (by omega) (J8 h.2)]
  exact ⟨_, rfl, rfl, Tr _ _⟩
 ·rw [decide_eq_false h]
  exact ⟨_, rfl, rfl, by simp [Au]⟩
end
end Go.Proofs.Ytjinhobffbppbaa.Ax
namespace Go.Proofs.Ytjinhobffbppbaa.Ax
open Go Classical
theorem Afh {s1 s2 : Sl1Cur → SAlgebra → Int → Int → Option (List Int × Sl1Cur)} (h : ∀ c b d v, LeO (s1 c b d v) (s2 c b d v)) (c : Sl1Cur) (b : SAlgebra) (d v : Int) : LeO (Bl s1 c b d v) (Bl s2 c b d v) := by
 unfold Bl
 refine LeO.bind (LeO.refl _) fun q => LeO.bind (LeO.refl _) fun t => ?_
 cases t with
 | inl p => exact LeO.refl _
 | inr e =>
   refine LeO.bind (LeO.refl _) fun r => LeO.ask (LeO.bind (LeO.loop (fun s => ?_) _) fun _ => LeO.refl _)
   obtain ⟨x, y, z⟩ := s
   unfold B2
   dsimp only
   exact LeO.ask (LeO.ite (LeO.ask (LeO.bind (h _ _ _ _) fun _ => LeO.refl _)) (LeO.refl _))
theorem Ajb (c : Sl1Cur) (b : SAlgebra) (d v : Int) : upO fun n => Av n c b d v := by
 have step : ∀ n c b d v, LeO (Av n c b d v) (Av (n + 1) c b d v) := by
  intro n
  induction n with
  | zero => intro c b d v w e; cases e
  | succ n ih => intro c b d v; exact Afh ih c b d v
 exact Xn fun n => step n c b d v
def bB : Nat → Nat
 | 0 => 10
 | d + 1 => 10 + 3 * bB d
def bL : Nat → Nat
 | 0 => 1
 | d + 1 => 1 + 3 * bL d
theorem An1 {d : Nat} (h : d ≤ 3) : bB d ≤ 400 ∧ 10 ≤ bB d ∧ bL d ≤ 40 ∧ 1 ≤ bL d := by
 have : d = 0 ∨ d = 1 ∨ d = 2 ∨ d = 3 := by omega
 rcases this with rfl | rfl | rfl | rfl <;> decide
section
variable {a : SAlgebra}
theorem Afa (hg : Bu a) : ∀ (d : Nat), d ≤ 3 → ∀ {c : Sl1Cur} {k : Nat}, Cur k c → k + 1000 * d ≤ 500000000 → ∀ {v : Int}, 0 ≤ v →
  ∃ p : List Int × Sl1Cur, Av (d + 1) c a (d : Int) v = some p ∧ (Cur (k + bB d) p.2 ∧ 1 ≤ p.1.length ∧ p.1.length ≤ bL d) := by
 have hL := Bv
 have h4 := hg.2.2.1
 intro d
 induction d using Nat.strongRecOn with
 | ind d ih =>
   intro hd c k h hk v hv
   obtain ⟨b1, b2, b3, b4⟩ := An1 hd
   show ∃ p, Bl (Av d) c a (d : Int) v = some p ∧ _
   unfold Bl
   refine M9 (Q := fun q : List Int => q.length ≤ 4) ?_ fun q hq => ?_
   ·exact E5 (body := Cs c a (d : Int) v) (fun s => ∃ j : Nat, s.1 = (j : Int) ∧ j ≤ a.Ops.length ∧ s.2.length ≤ j) (fun s => a.Ops.length - s.1.toNat) (fun q => q.length ≤ 4) (fun s hs => by
     obtain ⟨x10, x9⟩ := s
     obtain ⟨j, g1, g2, g3⟩ := hs
     simp only at g1 g3
     subst g1
     unfold Cs
     dsimp only
     by_cases hlt : j < a.Ops.length
     ·left
      rw [if_pos (by omega), Af (by omega)]
      by_cases h0 : (nth a.Ops ((j : Int)).toNat).Arity = 0
      ·rw [if_pos h0, Af (by unfold InI; omega), Af (by simp; omega), Af (by unfold InI; omega)]
       exact ⟨_, rfl, ⟨j + 1, rfl, hlt, by simp; omega⟩, by simp only; omega⟩
      ·rw [if_neg h0, Af (by unfold InI; omega)]
       exact ⟨_, rfl, ⟨j + 1, rfl, hlt, by simp only; omega⟩, by simp only; omega⟩
     ·right
      rw [if_neg (by omega)]
      exact ⟨_, rfl, by omega⟩) (s := ((0 : Int), Au Int)) ⟨0, rfl, Nat.zero_le _, by simp [Au]⟩
   refine M9 (Q := fun t : (List Int × Sl1Cur) ⊕ Sl1Cur => match t with
    | .inl p => Cur (k + 8) p.2 ∧ p.1.length = 1
    | .inr e => Cur (k + 8) e ∧ d ≠ 0 ∧ a.Ops.length ≠ 0) ?_ ?_
   ·refine M9 (Q := fun p : Bool × Sl1Cur => Cur (k + 2) p.2 ∧ (p.1 = false → d ≠ 0 ∧ a.Ops.length ≠ 0)) ?_ ?_
    ·by_cases h0 : (d : Int) = 0
     ·rw [if_pos h0]
      exact ⟨_, rfl, h.mono (by omega), fun hh => by cases hh⟩
     ·rw [if_neg h0]
      by_cases h1 : (a.Ops.length : Int) = 0
      ·rw [if_pos h1]
       exact ⟨_, rfl, h.mono (by omega), fun hh => by cases hh⟩
      ·rw [if_neg h1]
       obtain ⟨b, e, e1, he⟩ := Xy h (by omega) 4
       rw [e1]
       exact ⟨_, rfl, he, fun _ => ⟨by omega, by omega⟩⟩
    ·rintro ⟨b, e⟩ ⟨he, hf⟩
     dsimp only at he hf ⊢
     by_cases hb : b = true
     ·rw [if_pos hb]
      refine M9 (Q := fun p : Bool × Sl1Cur => Cur (k + 4) p.2) ?_ ?_
      ·by_cases h0 : v = 0
       ·rw [if_pos h0]; exact ⟨_, rfl, he.mono (by omega)⟩
       ·rw [if_neg h0]
        by_cases h1 : (q.length : Int) > 0
        ·rw [if_pos h1]
         obtain ⟨b', e', e1, he'⟩ := Xy he (by omega) 4
         rw [e1]
         exact ⟨_, rfl, he'⟩
        ·rw [if_neg h1]; exact ⟨_, rfl, he.mono (by omega)⟩
      ·rintro ⟨b', e'⟩ he'
       dsimp only at he' ⊢
       by_cases hb' : b' = true
       ·rw [if_pos hb']
        by_cases h0 : (q.length : Int) = 0
        ·rw [if_pos h0]; exact ⟨_, rfl, he'.mono (by omega), rfl⟩
        ·rw [if_neg h0]
         obtain ⟨r, e2, e1, he2, _⟩ := En he' (by omega) q (by omega)
         rw [e1]
         exact ⟨_, rfl, he2.mono (by omega), rfl⟩
       ·rw [if_neg hb']
        obtain ⟨r, e2, e1, he2, _⟩ := Dh he' (by omega) v
        rw [e1]
        exact ⟨_, rfl, he2.mono (by omega), rfl⟩
     ·rw [if_neg hb]
      obtain ⟨k1, k2⟩ := hf (by simpa using hb)
      exact ⟨_, rfl, he.mono (by omega), k1, k2⟩
   ·rintro (⟨r, e⟩ | e) ht
    ·obtain ⟨k1, k2⟩ := ht
     dsimp only at k1 k2 ⊢
     exact ⟨_, rfl, k1.mono (by omega), by simp only; omega, by simp only; omega⟩
    ·obtain ⟨k1, k2, k3⟩ := ht
     dsimp only at k1 ⊢
     obtain ⟨d', rfl⟩ : ∃ d', d = d' + 1 := ⟨d - 1, by omega⟩
     obtain ⟨r, e2, e1, he2, r0, r1⟩ := Dh k1 (by omega) (a.Ops.length : Int)
     rw [e1]
     simp only [Option.bind_some]
     have hri : r.toNat < a.Ops.length := by omega
     obtain ⟨o1, o2, _, _⟩ := hg.2.2.2 _ (Be hri)
     rw [Af (by unfold InI; omega)]
     have eB : bB (d' + 1) = 10 + 3 * bB d' := rfl
     have eL : bL (d' + 1) = 1 + 3 * bL d' := rfl
     refine M9 (Q := fun p : List Int × Sl1Cur => Cur (k + bB (d' + 1)) p.2 ∧ 1 ≤ p.1.length ∧ p.1.length ≤ bL (d' + 1)) ?_ ?_
     ·exact E5 (body := B2 (Av (d' + 1)) a ((d' + 1 : Nat) : Int) v r) (fun s => ∃ j : Nat, s.1 = (j : Int) ∧ j ≤ 3 ∧ 1 ≤ s.2.1.length ∧ s.2.1.length ≤ 1 + j * bL d' ∧ Cur (k + 10 + j * bB d') s.2.2) (fun s => 3 - s.1.toNat)
       (fun p => Cur (k + bB (d' + 1)) p.2 ∧ 1 ≤ p.1.length ∧ p.1.length ≤ bL (d' + 1)) (fun s hs => by
       obtain ⟨x13, x12, x96⟩ := s
       obtain ⟨j, g1, g2, g3, g4, g5⟩ := hs
       simp only at g1 g3 g4 g5
       subst g1
       have hj1 : j * bL d' ≤ 3 * bL d' := Nat.mul_le_mul_right _ g2
       have hj2 : j * bB d' ≤ 3 * bB d' := Nat.mul_le_mul_right _ g2
       unfold B2
       dsimp only
       rw [Af (by omega)]
       by_cases hlt : (j : Int) < (nth a.Ops r.toNat).Arity
       ·left
        obtain ⟨⟨r32, u33⟩, e3, p1, p2, p3⟩ := ih d' (by omega) (by omega) g5 (by omega) hv
        have e4 : (((d' + 1 : Nat) : Int) - 1) = (d' : Int) := by omega
        rw [if_pos hlt, Af (by unfold InI; omega), e4, e3]
        simp only [Option.bind_some]
        simp only at p1 p2 p3
        rw [Af (by omega), Af (by unfold InI; omega)]
        refine ⟨_, rfl, ⟨j + 1, rfl, by omega, by simp; omega, ?_, ?_⟩, by simp only; omega⟩
        ·rw [Nat.succ_mul]; simp; omega
        ·rw [Nat.succ_mul]; exact p1.mono (by omega)
       ·right
        rw [if_neg hlt]
        exact ⟨_, rfl, g5.mono (by omega), g3, by simp only; omega⟩) (s := ((0 : Int), [-1 - r], e2)) ⟨0, rfl, by omega, by simp, by simp, he2.mono (by omega)⟩
     ·rintro ⟨x, y⟩ hxy
      exact ⟨_, rfl, hxy⟩
end
theorem P1 {c : Sl1Cur} {k : Nat} (h : Cur k c) (hk : k ≤ 400000000) {a : SAlgebra} (ha : K3 a) : ∃ xs d, Bj c a = some (xs, d) ∧ Cur (k + 600) d ∧ xs.length ≤ 41 := by
 have hL := Bv
 unfold Bj
 rw [Aew (Oy ha)]
 simp only [Option.bind_some]
 by_cases hg : Bu a
 ·have h4 := hg.2.2.1
  rw [decide_eq_true hg, if_pos rfl]
  obtain ⟨r3, u4, e1, hd1, a1, a2⟩ := Dh h (by omega) 3
  rw [e1]
  simp only [Option.bind_some]
  rw [Af (by unfold InI; omega)]
  obtain ⟨r6, u7, e2, hd2, hm⟩ := En hd1 (by omega) [1, 2, 3, 3, 6] (by simp)
  rw [e2]
  simp only [Option.bind_some]
  obtain ⟨dd, hdd, hdd3⟩ : ∃ dd : Nat, 1 + r3 = (dd : Int) ∧ dd ≤ 3 := ⟨(1 + r3).toNat, by omega, by omega⟩
  obtain ⟨⟨r8, u9⟩, e3, k1, k2, k3⟩ := Afa hg dd hdd3 hd2 (by omega) (v := r6) (by simp at hm; omega)
  obtain ⟨b1, b2, b3, b4⟩ := An1 hdd3
  simp only at k1 k2 k3
  have e4 : (Oh fun n => Av n u7 a (1 + r3) r6) = some (r8, u9) := by
   rw [hdd]; exact Adb (Ajb u7 a _ r6) e3
  rw [e4]
  simp only [Option.bind_some]
  obtain ⟨r39, u40, e5, hd5, _⟩ := Dh k1 (by omega) 32
  rw [e5]
  simp only [Option.bind_some]
  by_cases c0 : r39 = 0
  ·rw [if_pos c0, Af (by simp; omega)]
   exact ⟨_, _, rfl, hd5.mono (by omega), by simp; omega⟩
  ·rw [if_neg c0]
   by_cases c1 : r39 = 1
   ·rw [if_pos c1]
    obtain ⟨r43, u44, e6, hd6, q1, q2⟩ := Dh hd5 (by omega) (r8.length : Int)
    rw [e6]
    simp only [Option.bind_some]
    rw [Af (by unfold InI; omega)]
    obtain ⟨r46, u47, e7, hd7, _⟩ := En hd6 (by omega) [-1 - (a.Ops.length : Int), 6, -9223372036854775808, 9223372036854775807] (by simp)
    rw [e7]
    simp only [Option.bind_some]
    rw [Af (by omega)]
    exact ⟨_, _, rfl, hd7.mono (by omega), by simp; omega⟩
   ·rw [if_neg c1]
    by_cases c2 : r39 = 2
    ·rw [if_pos c2, Af (by omega)]
     exact ⟨_, _, rfl, hd5.mono (by omega), by simp; omega⟩
    ·rw [if_neg c2]
     exact ⟨_, _, rfl, hd5.mono (by omega), by omega⟩
 ·rw [decide_eq_false hg, if_neg (by simp)]
  exact ⟨_, _, rfl, h.mono (by omega), by simp⟩
theorem Ae1 {c : Sl1Cur} {k : Nat} (h : Cur k c) (hk : k ≤ 300000000) {a : SAlgebra} (ha : K3 a) : ∃ ts d, Du c a = some (ts, d) ∧ Cur (k + 5000) d ∧ ts.length ≤ 7 ∧ ∀ r ∈ ts, r.length ≤ 41 := by
 have hL := Bv
 unfold Du
 obtain ⟨m, d2, e2, hd2, hm⟩ := En h (by omega) [3, 6, 6, 2, 1, 0, 7] (by simp)
 rw [e2]
 simp only [Option.bind_some]
 obtain ⟨t, rfl, ht⟩ : ∃ t : Nat, m = (t : Int) ∧ t ≤ 7 := by
  refine ⟨m.toNat, ?_, ?_⟩ <;> · simp at hm; omega
 obtain ⟨⟨ts, d3⟩, e3, h3, h4, h5⟩ := E5 (body := Cq a) (fun s => ∃ j : Nat, s.1 = (j : Int) ∧ s.2.1.length + j ≤ 7 ∧ (∀ r ∈ s.2.1, r.length ≤ 41) ∧ Cur (k + 4 + 600 * s.2.1.length) s.2.2) (fun s => s.1.toNat) (fun u => u.1.length ≤ 7 ∧ (∀ r ∈ u.1, r.length ≤ 41) ∧ Cur (k + 5000) u.2) (fun s hs => by
  obtain ⟨x6, x5, x22⟩ := s
  obtain ⟨j, g1, g2, g3, g4⟩ := hs
  simp only at g1 g2 g3 g4
  subst g1
  unfold Cq
  dsimp only
  by_cases hj : (j : Int) > 0
  ·left
   rw [if_pos hj]
   obtain ⟨r4, u5, e8, h8, h9⟩ := P1 g4 (by omega) ha
   rw [e8]
   simp only [Option.bind_some]
   rw [Af (by simp; omega), Af (by unfold InI; omega)]
   refine ⟨_, rfl, ⟨j - 1, by simp only; omega, by simp; omega, fun r hr => ?_, h8.mono (by simp; omega)⟩, by simp only; omega⟩
   rcases List.mem_append.1 hr with hr | hr
   ·exact g3 r hr
   ·rw [List.mem_singleton.1 hr]; exact h9
  ·right
   rw [if_neg hj]
   exact ⟨_, rfl, by simp only; omega, g3, g4.mono (by omega)⟩) (s := ((t : Int), Au (List Int), d2)) ⟨t, rfl, by simp [Au]; omega, by simp [Au], by simpa [Au] using hd2.mono (by omega)⟩
 rw [e3]
 exact ⟨_, _, rfl, h5, h3, h4⟩
theorem R4 {code : List Int} (hc : ∀ x ∈ code, 0 ≤ x ∧ x ≤ 255) (hl : code.length ≤ 65536) : ∃ a t ts, Cg code = some (a, t, ts) ∧ K3 a ∧ t.length ≤ 41 ∧ ts.length ≤ 7 ∧ ∀ r ∈ ts, r.length ≤ 41 := by
 unfold Cg
 obtain ⟨a, d, e, hd, ha⟩ := R7 (Aif hc hl) (by omega)
 rw [e]
 simp only [Option.bind_some]
 obtain ⟨t, d2, e2, hd2, ht⟩ := P1 hd (by omega) ha
 rw [e2]
 simp only [Option.bind_some]
 obtain ⟨ts, d3, e3, _, h1, h2⟩ := Ae1 hd2 (by omega) ha
 rw [e3]
 exact ⟨_, _, _, rfl, ha, ht, h1, h2⟩
theorem Yk {code : List Int} (hc : ∀ x ∈ code, 0 ≤ x ∧ x ≤ 255) (hl : code.length ≤ 65536) : ∃ a t i b, Db code = some (a, t, i, b) ∧ K3 a ∧ t.length ≤ 41 ∧ b.length ≤ 41 := by
 unfold Db
 obtain ⟨a, d, e, hd, ha⟩ := R7 (Aif hc hl) (by omega)
 rw [e]
 simp only [Option.bind_some]
 obtain ⟨t, d2, e2, hd2, ht⟩ := P1 hd (by omega) ha
 rw [e2]
 simp only [Option.bind_some]
 rw [Af (by unfold InI; omega)]
 obtain ⟨r6, d3, e3, hd3, a1, a2⟩ := Dh hd2 (by omega) ((t.length : Int) + 1)
 rw [e3]
 simp only [Option.bind_some]
 obtain ⟨r8, d4, e4, hd4, b1, b2⟩ := Dh hd3 (by omega) 24
 rw [e4]
 simp only [Option.bind_some]
 have hq : r8.tdiv 23 = r8 / 23 := Int.tdiv_eq_ediv_of_nonneg b1
 rw [hq, Af ⟨by omega, by unfold InI; omega⟩, Af (by unfold InI; omega)]
 obtain ⟨b, d5, e5, _, hb⟩ := P1 hd4 (by omega) ha
 rw [e5]
 exact ⟨_, _, _, _, rfl, ha, ht, hb⟩
theorem Abf {code : List Int} (hc : ∀ x ∈ code, 0 ≤ x ∧ x ≤ 255) (hl : code.length ≤ 65536) (m : Int) : ∃ vs, Ev code m = some vs ∧ vs.length = 6 ∧ (1 ≤ m → m ≤ 8 → Cn vs m) := by
 have hL := Bv
 unfold Ev
 obtain ⟨q, e, q1, q2⟩ : ∃ q : Int, ((if m < 1 then
   some 1
   else
   if m > 8 then
    some 1
   else
    some m : Option Int)) = some q ∧ 1 ≤ q ∧ (1 ≤ m → m ≤ 8 → q = m) := by
  by_cases h1 : m < 1
  ·rw [if_pos h1]; exact ⟨_, rfl, by omega, fun h => by omega⟩
  ·rw [if_neg h1]
   by_cases h2 : m > 8
   ·rw [if_pos h2]; exact ⟨_, rfl, by omega, fun _ h => by omega⟩
   ·rw [if_neg h2]; exact ⟨_, rfl, by omega, fun _ _ => rfl⟩
 rw [e]
 simp only [Option.bind_some]
 obtain ⟨vs, e2, h1, h2⟩ := E5 (body := Ee code q) (fun s => ∃ j : Nat, s.1 = (j : Int) ∧ j ≤ 6 ∧ s.2.length = j ∧ Cn s.2 q) (fun s => 6 - s.1.toNat) (fun vs => vs.length = 6 ∧ Cn vs q) (fun s hs => by
  obtain ⟨x6, x5⟩ := s
  obtain ⟨j, g1, g2, g3, g4⟩ := hs
  simp only at g1 g3 g4
  subst g1
  unfold Ee
  dsimp only
  by_cases hj : (j : Int) < 6
  ·left
   obtain ⟨r, er, hr⟩ : ∃ r : Int, Kf code ((j : Int) + 2) = some r ∧ 0 ≤ r := by
    unfold Kf
    by_cases hlt : (j : Int) + 2 < (code.length : Int)
    ·rw [if_pos hlt, Af (by omega)]
     have hb := hc _ (Be (show ((j : Int) + 2).toNat < code.length by omega))
     exact ⟨_, rfl, by rw [Lc (by omega) (by omega)]; exact hb.1⟩
    ·rw [if_neg hlt, Af (by unfold InI; omega), Af (by unfold InI; omega)]
     refine ⟨_, rfl, ?_⟩
     rw [Int.tmod_eq_emod_of_nonneg (by omega)]
     omega
   have hmod : r.tmod q = r % q := Int.tmod_eq_emod_of_nonneg hr
   rw [if_pos hj, Af (by unfold InI; omega), er]
   simp only [Option.bind_some]
   rw [Af (by omega), hmod, Af (by simp; omega), Af (by unfold InI; omega)]
   refine ⟨_, rfl, ⟨j + 1, rfl, by omega, by simp; omega, fun z hz => ?_⟩, by simp only; omega⟩
   rcases List.mem_append.1 hz with hz | hz
   ·exact g4 z hz
   ·rw [List.mem_singleton.1 hz]
    exact ⟨Int.emod_nonneg _ (by omega), Int.emod_lt_of_pos _ (by omega)⟩
  ·right
   rw [if_neg hj]
   exact ⟨_, rfl, by omega, g4⟩) (s := ((0 : Int), Au Int)) ⟨0, rfl, by omega, rfl, fun z hz => by cases hz⟩
 rw [e2]
 exact ⟨_, rfl, h1, fun a1 a2 => by rw [← q2 a1 a2]; exact h2⟩
theorem P3 {xs : List Int} (h : xs.length ≤ LIM) : Bp xs xs = some true := by
 have hL := Bv
 unfold Bp
 rw [if_neg (by simp)]
 have := Ey (body := Dq xs xs) (fun i => (i : Int)) xs.length (.inr ()) (fun i hi => by
  unfold Dq
  rw [if_pos (by omega)]
  repeat rw [Af (by first | omega | (unfold InI; omega))]
  rw [if_neg (by simp)]
  repeat rw [Af (by first | omega | (unfold InI; omega))]
  rfl) (by
  unfold Dq
  rw [if_neg (by omega)])
 have h0 : Bb (Dq xs xs) 0 = some (.inr ()) := this
 rw [h0]; rfl
end Go.Proofs.Ytjinhobffbppbaa.Ax
