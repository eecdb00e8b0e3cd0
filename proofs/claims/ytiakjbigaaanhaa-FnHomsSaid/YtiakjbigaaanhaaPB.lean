/-
 Plain facts, joined.
-/
import Derived.Test.YtiakjbigaaanhaaPA
namespace Go.Proofs.Ytiakjbigaaanhaa.Ax
open Go Classical
theorem Apk {n : Nat} (h : n ≤ 20) : (2 : Nat) ^ n ≤ 1048576 := by
 have : (2 : Nat) ^ n ≤ 2 ^ 20 := Nat.pow_le_pow_right (by omega) h
 omega
theorem Awx {n : Nat} (h : n ≤ 20) : Asa 1 (n : Int) = ((2 ^ n : Nat) : Int) := by
 have h1 := Apk h
 have e : min ((n : Int)).toNat IntKind.i64.bits = n := by
  have : IntKind.i64.bits = 64 := rfl
  rw [this, Int.toNat_natCast]; omega
 unfold Asa
 rw [e, Int.one_mul, show ((2 : Int) ^ n) = ((2 ^ n : Nat) : Int) by simp]
 generalize 2 ^ n = q at h1 ⊢
 exact Qd (by omega) (by omega)
theorem Aq7 (m : Nat) {x : Nat} (h : x ≤ 20) : Ap1 (m : Int) (x : Int) = ((m / 2 ^ x : Nat) : Int) := by
 have e : min ((x : Int)).toNat IntKind.i64.bits = x := by
  have : IntKind.i64.bits = 64 := rfl
  rw [this, Int.toNat_natCast]; omega
 unfold Ap1
 rw [e, Int.fdiv_eq_ediv_of_nonneg _ (Int.pow_nonneg (by omega)), show ((2 : Int) ^ x) = ((2 ^ x : Nat) : Int) by simp]
 rfl
theorem Awh {m : Nat} (h : m ≤ 1048576) : Asg (m : Int) 1 = ((m % 2 : Nat) : Int) := by
 unfold Asg
 have e : (BitVec.ofInt IntKind.i64.bits (m : Int) &&& BitVec.ofInt IntKind.i64.bits 1).toNat = m % 2 := by
  have hb : IntKind.i64.bits = 64 := rfl
  rw [hb, BitVec.toNat_and, BitVec.toNat_ofInt, BitVec.toNat_ofInt]
  have e1 : ((m : Int) % ((2 ^ 64 : Nat) : Int)).toNat = m := by omega
  have e2 : ((1 : Int) % ((2 ^ 64 : Nat) : Int)).toNat = 1 := by decide
  rw [e1, e2, Nat.and_one_is_mod]
 rw [e]
 exact Qd (by omega) (by omega)
def Um (m i : Nat) : Bool := decide (m / 2 ^ i % 2 = 1)
theorem Aqg {q : Nat → Bool} {i : Nat} : ∀ {n : Nat}, i ≤ n → (∀ j, i ≤ j → j < n → q j = false) → B0 n q = B0 i q := by
 intro n
 induction n with
 | zero => intro h _; have : i = 0 := by omega
           subst this; rfl
 | succ n ih =>
   intro h hq
   by_cases hi : i = n + 1
   ·subst hi; rfl
   ·rw [E2, hq n (by omega) (by omega), if_neg (by simp)]
    exact ih (by omega) fun j h1 h2 => hq j h1 (by omega)
theorem Avo {m i j : Nat} (h : m / 2 ^ i = 0) (hj : i ≤ j) : Um m j = false := by
 have h1 : m < 2 ^ i := by
  rcases Nat.lt_or_ge m (2 ^ i) with h1 | h1
  ·exact h1
  ·have := Nat.div_pos h1 (Nat.pow_pos (by omega)); omega
 have h2 : (2 : Nat) ^ i ≤ 2 ^ j := Nat.pow_le_pow_right (by omega) hj
 unfold Um
 rw [Nat.div_eq_of_lt (by omega)]; simp
theorem As4 {body : (Int × List Int) → Option ((Int × List Int) ⊕ List Int)} {m n : Nat} (hm : m < 2 ^ n)
  (h0 : ∀ (i : Nat) acc, i ≤ n → m / 2 ^ i = 0 → body ((i : Int), acc) = some (.inr acc))
  (h1 : ∀ (i : Nat) acc, i < n → acc.length ≤ i → ¬ m / 2 ^ i = 0 → body ((i : Int), acc) = some (.inl (((i + 1 : Nat) : Int), if Um m i then acc ++ [(i : Int)] else acc))) : Am body (0, Al Int) = some (B0 n (Um m)) := by
 have e0 : ((0 : Int), Al Int) = (((0 : Nat) : Int), B0 0 (Um m)) := rfl
 rw [e0]
 rcases Wf (body := body) (fun i => ((i : Int), B0 i (Um m))) n (fun i => m / 2 ^ i = 0) (fun i => B0 i (Um m)) (B0 n (Um m)) (fun i hi hh => by
   rw [h1 i _ hi (Sw _ _) hh, E2]) (fun i hi hh => h0 i _ (by omega) hh) (h0 n _ (Nat.le_refl _) (Nat.div_eq_of_lt hm)) with ⟨i, hi, hh, _, e⟩ | ⟨_, e⟩
 ·rw [e, Aqg (q := Um m) (n := n) (by omega) fun j hj _ => Avo hh hj]
 ·exact e
theorem Axw (m i : Nat) : m / 2 ^ i ≤ m := Nat.div_le_self _ _
theorem Av1 {m n : Nat} (hn : n ≤ 20) (hm : m < 2 ^ n) : Iw (m : Int) = some (B0 n (Um m)) := by
 unfold Iw
 have hp := Apk hn
 rw [As4 (body := Et (m : Int)) hm (fun i acc hi hh => by
  unfold Et
  dsimp only
  rw [Af (by omega), Aq7 m (by omega), hh, if_neg (by omega)]) (fun i acc hi ha hh => by
  unfold Et Um
  dsimp only
  have hd := Axw m i
  rw [Af (by omega), Aq7 m (by omega)]
  generalize m / 2 ^ i = q at *
  rw [if_pos (by omega), Af (by omega), Awh (by omega)]
  by_cases hb : q % 2 = 1
  ·rw [if_pos (by omega), Af (by rw [Aw]; simp; omega), Af (by unfold InI; omega), decide_eq_true hb, if_pos rfl]; rfl
  ·rw [if_neg (by omega), Af (by unfold InI; omega), decide_eq_false hb, if_neg (by simp)]; rfl)]
 rfl
def Azf (a b : List Int) : Prop := ∃ i, i < a.length ∧ (∀ j, j < i → nth a j = nth b j) ∧ nth a i < nth b i
theorem Avh {a b : List Int} (hl : a.length = b.length) (h : a.length ≤ LIM) : It a b = some (decide (Azf a b)) := by
 unfold It
 rw [Aw] at h
 rw [show ((0 : Int)) = (((0 : Nat)) : Int) from rfl]
 rcases Wf (body := Dn a b) (fun i => (i : Int)) a.length (fun i => nth a i ≠ nth b i) (fun i => .inl (decide (nth a i < nth b i))) (.inr ()) (fun i hi hh => by
   unfold Dn
   rw [if_pos (by omega), Af (by omega), Af (by omega), Int.toNat_natCast, if_neg hh, Af (by unfold InI; omega)]; rfl) (fun i hi hh => by
   unfold Dn
   rw [if_pos (by omega), Af (by omega), Af (by omega), Int.toNat_natCast, if_pos hh, Af (by omega), Af (by omega)]) (by
   unfold Dn
   rw [if_neg (by omega)]) with ⟨i, hi, hh, hf, e⟩ | ⟨hn, e⟩
 ·rw [e]
  simp only [Option.bind_some]
  congr 1
  rw [decide_eq_decide]
  constructor
  ·intro hlt
   exact ⟨i, hi, fun j hj => Classical.not_not.1 (hf j hj), hlt⟩
  ·rintro ⟨k, hk, h1, h2⟩
   rcases Nat.lt_trichotomy k i with hki | hki | hki
   ·have := Classical.not_not.1 (hf k hki); omega
   ·subst hki; exact h2
   ·exact absurd (h1 i hki) hh
 ·rw [e, decide_eq_false]
  ·rfl
  ·rintro ⟨k, hk, _, h2⟩
   have := Classical.not_not.1 (hn k hk); omega
def Azl (f : Nat → Nat → Bool) (ls : List Int) : Prop := ∀ x ∈ ls, ∀ y ∈ ls, ¬ (x.toNat ≠ y.toNat ∧ f x.toNat y.toNat = true)
theorem Au8 (n : Nat) (q : Nat → Bool) : Bh (B0 n q) n := by
 intro x hx
 obtain ⟨z, h1, _, rfl⟩ := K0.1 hx
 omega
section
variable {p : SPoset}
end
end Go.Proofs.Ytiakjbigaaanhaa.Ax
namespace Go.Proofs.Ytiakjbigaaanhaa.Ax
open Go Classical
def pc (n m : Nat) : Nat := (B0 n (Um m)).length
theorem Asu {q q' : Nat → Bool} {x : Nat} (hq : q x = false) (h : ∀ i, q' i = (q i || decide (x = i))) : ∀ n, (B0 n q').length = (B0 n q).length + if x < n then 1 else 0 := by
 intro n
 induction n with
 | zero => simp [B0]
 | succ n ih =>
   rw [E2, E2, h n]
   by_cases hxn : x = n
   ·subst hxn
    rw [hq]
    simp only [decide_true, Bool.or_true, if_true, Bool.false_eq_true, if_false]
    rw [List.length_append, ih, if_neg (by omega), if_pos (by omega)]; rfl
   ·rw [decide_eq_false hxn, Bool.or_false]
    by_cases hqn : q n = true
    ·rw [if_pos hqn, if_pos hqn, List.length_append, List.length_append, ih]
     by_cases hx : x < n
     ·rw [if_pos hx, if_pos (by omega)]; simp
     ·rw [if_neg hx, if_neg (by omega)]; rfl
    ·rw [if_neg hqn, if_neg hqn, ih]
     by_cases hx : x < n
     ·rw [if_pos hx, if_pos (by omega)]
     ·rw [if_neg hx, if_neg (by omega)]
def wt (n m : Nat) : Nat := 10 ^ (10 - pc n m)
def phi (n : Nat) (ws : List Int) : Nat → Nat → Int
 | _, 0 => 0
 | M, k + 1 => nth ws M * wt n M + phi n ws (M + 1) k
section
variable {n : Nat} {f : Nat → Nat → Bool}
structure okW (n m : Nat) (ws : List Int) : Prop where
 len : ws.length = 2 ^ n
 pos : ∀ i, i < ws.length → 0 ≤ nth ws i
 sum : phi n ws m (2 ^ n - m) ≤ 10000000000
end
section
variable {p : SPoset}
end
end Go.Proofs.Ytiakjbigaaanhaa.Ax
namespace Go.Proofs.Ytiakjbigaaanhaa.Ax
open Go Classical
section
variable {n : Nat} {ps : List (Int × Int)}
end
end Go.Proofs.Ytiakjbigaaanhaa.Ax
namespace Go.Proofs.Ytiakjbigaaanhaa.Ax
open Go Classical
theorem Auf {q q' : Nat → Bool} : ∀ (n : Nat), (∀ i, i < n → q i = true → q' i = true) → (B0 n q).length ≤ (B0 n q').length := by
 intro n
 induction n with
 | zero => intro _; simp [B0]
 | succ n ih =>
   intro h
   have := ih fun i hi => h i (by omega)
   rw [E2, E2]
   by_cases hq : q n = true
   ·rw [if_pos hq, if_pos (h n (by omega) hq), List.length_append, List.length_append]; simp; omega
   ·rw [if_neg hq]
    split
    ·rw [List.length_append]; omega
    ·exact this
theorem Aue {q q' : Nat → Bool} {x : Nat} (hx : q x = false) (hx' : q' x = true) : ∀ (n : Nat), x < n → (∀ i, i < n → q i = true → q' i = true) → (B0 n q).length < (B0 n q').length := by
 intro n
 induction n with
 | zero => intro h _; omega
 | succ n ih =>
   intro hn h
   rw [E2, E2]
   by_cases hxn : x = n
   ·subst hxn
    have := Auf x fun i hi => h i (by omega)
    rw [hx, hx', if_neg (by simp), if_pos rfl, List.length_append]; simp; omega
   ·have := ih (by omega) fun i hi => h i (by omega)
    by_cases hq : q n = true
    ·rw [if_pos hq, if_pos (h n (by omega) hq), List.length_append, List.length_append]; simp; omega
    ·rw [if_neg hq]
     split
     ·rw [List.length_append]; omega
     ·exact this
theorem Atb (n : Nat) : (B0 n fun _ => true).length = n := by
 induction n with
 | zero => rfl
 | succ n ih => rw [E2, if_pos rfl, List.length_append, ih]; rfl
section
variable {n : Nat} {f : Nat → Nat → Bool}
end
section
variable {p : SPoset}
end
end Go.Proofs.Ytiakjbigaaanhaa.Ax
namespace Go.Proofs.Ytiakjbigaaanhaa.Ax
open Go Classical
noncomputable def Aze (n : Nat) (g h : Nat → Nat → Nat) (S : Nat → Bool) : Nat → Bool := fun z => decide (S z = true ∨ ∃ x y, x < n ∧ y < n ∧ S x = true ∧ S y = true ∧ (z = g x y ∨ z = h x y))
noncomputable def Alw (n : Nat) (g h : Nat → Nat → Nat) (S : Nat → Bool) : Nat → Nat → Bool
 | 0 => S
 | k + 1 => Aze n g h (Alw n g h S k)
section
variable {n : Nat} {g h : Nat → Nat → Nat} {S : Nat → Bool}
def Azm (n : Nat) (g h : Nat → Nat → Nat) (S : Nat → Bool) (k : Nat) : Prop := ∀ z, z < n → Alw n g h S (k + 1) z = Alw n g h S k z
noncomputable def closed (n : Nat) (g h : Nat → Nat → Nat) (S : Nat → Bool) : Nat → Bool := Alw n g h S n
theorem Aqy {xs : List Int} (hx : Bh xs n) (hr : V6 xs) : B0 n (fun z => decide ((z : Int) ∈ xs)) = xs := by
 refine Ato (Acg _ _) hr fun x => ?_
 rw [K0]
 constructor
 ·rintro ⟨i, _, h1, rfl⟩; simpa using h1
 ·intro h1
  have := hx x h1
  exact ⟨x.toNat, by omega, by simpa [show ((x.toNat : Nat) : Int) = x by omega] using h1, by omega⟩
def Azj (n : Nat) (S : Nat → Bool) : List Nat := (List.range n).filter S
end
end Go.Proofs.Ytiakjbigaaanhaa.Ax
namespace Go.Proofs.Ytiakjbigaaanhaa.Ax
open Go Classical
theorem Z8 {xs ys : List Int} (h : xs.length ≤ LIM) : G2 xs ys = some (decide (xs = ys)) := by
 unfold G2
 rw [Aw] at h
 split
 ·rename_i hl
  rw [decide_eq_false]
  rintro rfl; exact hl rfl
 rename_i hl
 have hl : xs.length = ys.length := by omega
 have := E9 (body := Da xs ys) (fun i => (i : Int)) xs.length (fun i => ¬ nth xs i = nth ys i) () () (fun i hi hb => by
  unfold Da
  rw [if_pos (by omega), Af (by omega), Af (by omega)]
  simp only [Int.toNat_natCast]
  rw [if_neg (by simpa using hb), Af (by unfold InI; omega)]; rfl) (fun i hi hb => by
  unfold Da
  rw [if_pos (by omega), Af (by omega), Af (by omega)]
  simp only [Int.toNat_natCast]
  rw [if_pos hb]) (by unfold Da; rw [if_neg (by omega)]) 0 (by omega)
 show ((Am _ ((0 : Nat) : Int)).bind _) = _
 rw [this]
 by_cases hx : ∃ i, 0 ≤ i ∧ i < xs.length ∧ ¬ nth xs i = nth ys i
 ·rw [if_pos hx, decide_eq_false]
  ·rfl
  ·rintro rfl; obtain ⟨i, _, _, hc⟩ := hx; exact hc rfl
 ·rw [if_neg hx, decide_eq_true (Wd hl (Mg.1 hx))]
  rfl
section
variable {p : SPoset}
end
end Go.Proofs.Ytiakjbigaaanhaa.Ax
namespace Go.Proofs.Ytiakjbigaaanhaa.Ax
open Go Classical
def Ek (a : SAlgebra) : Prop := a.Ops.length ≤ 1048576 ∧ ∀ f ∈ a.Ops, f.Table.length ≤ 1048576
end Go.Proofs.Ytiakjbigaaanhaa.Ax
namespace Go.Proofs.Ytiakjbigaaanhaa.Ax
open Go Classical
end Go.Proofs.Ytiakjbigaaanhaa.Ax
namespace Go.Proofs.Ytiakjbigaaanhaa.Ax
open Go Classical
section
variable {p q : SPoset}
end
end Go.Proofs.Ytiakjbigaaanhaa.Ax
namespace Go.Proofs.Ytiakjbigaaanhaa.Ax
open Go Classical
def Ave (n : Nat) (f : SOp) : Prop := 0 ≤ f.Arity ∧ f.Arity ≤ 3 ∧ f.Table.length = n ^ f.Arity.toNat ∧ Bh f.Table n
def Bk (a : SAlgebra) : Prop := 1 ≤ a.Size ∧ a.Size ≤ 8 ∧ a.Ops.length ≤ 4 ∧ ∀ f ∈ a.Ops, Ave a.Size.toNat f
theorem Ya {n k : Nat} (hn : n ≤ 8) (hk : k ≤ 3) : n ^ k ≤ 512 :=
 Nat.le_trans (Nat.pow_le_pow_left hn k) (Nat.le_trans (Nat.pow_le_pow_right (by omega) hk) (by decide))
theorem Axh {n k : Nat} (hn : n ≤ 8) (hk : k ≤ 3) : Ic n k = some ((n ^ k : Nat) : Int) := by
 unfold Ic
 have key := Ca (body := D7 n) (fun j => (((n ^ j : Nat) : Int), ((k : Int) - (j : Int)))) k ((n ^ k : Nat) : Int) (fun j hj => by
  unfold D7
  dsimp only
  have hp := Ya hn (show j + 1 ≤ 3 by omega)
  rw [Nat.pow_succ] at hp
  rw [if_pos (by omega), ← Int.natCast_mul, Nat.pow_succ]
  generalize n ^ j * n = N at hp ⊢
  rw [Af (by unfold InI; omega), Af (by unfold InI; omega), show ((k : Int) - (j : Int) - 1) = (k : Int) - ((j + 1 : Nat) : Int) by omega]) (by
  unfold D7
  dsimp only
  rw [if_neg (by omega)])
 have key' : Am (D7 n) (1, (k : Int)) = some ((n ^ k : Nat) : Int) := by simpa using key
 rw [key']; rfl
theorem Aln {n k : Nat} (hn : n ≤ 8) (hk : k ≤ 3) : Fd n k = some ((n ^ k : Nat) : Int) := by
 unfold Fd
 have key := Ca (body := Eb n) (fun j => (((n ^ j : Nat) : Int), ((k : Int) - (j : Int)))) k ((n ^ k : Nat) : Int) (fun j hj => by
  unfold Eb
  dsimp only
  have hp := Ya hn (show j + 1 ≤ 3 by omega)
  rw [Nat.pow_succ] at hp
  rw [if_pos (by omega), ← Int.natCast_mul, Nat.pow_succ]
  generalize n ^ j * n = N at hp ⊢
  rw [Af (by unfold InI; omega), Af (by unfold InI; omega), show ((k : Int) - (j : Int) - 1) = (k : Int) - ((j + 1 : Nat) : Int) by omega]) (by
  unfold Eb
  dsimp only
  rw [if_neg (by omega)])
 have key' : Am (Eb n) (1, (k : Int)) = some ((n ^ k : Nat) : Int) := by simpa using key
 rw [key']; rfl
theorem Avg {n : Nat} (hn : n ≤ 8) {f : SOp} (hl : f.Table.length ≤ LIM) : Mp f n = some (decide (Ave n f)) := by
 unfold Mp
 by_cases h0 : 0 ≤ f.Arity
 ·rw [if_pos (show f.Arity ≥ 0 from h0)]
  by_cases h3 : f.Arity ≤ 3
  ·have e : Ic (n : Int) f.Arity = some ((n ^ f.Arity.toNat : Nat) : Int) := by
    have := Axh hn (k := f.Arity.toNat) (by omega)
    rwa [show ((f.Arity.toNat : Nat) : Int) = f.Arity by omega] at this
   rw [if_pos h3, e]
   simp only [Option.bind_some]
   by_cases hL : f.Table.length = n ^ f.Arity.toNat
   ·rw [if_pos (by rw [hL]), Yo _ _ hl]
    simp only [Option.bind_some]
    congr 1
    rw [decide_eq_decide]
    exact ⟨fun h => ⟨h0, h3, hL, h⟩, fun h => h.2.2.2⟩
   ·rw [if_neg (fun hc => hL (Int.ofNat_inj.1 hc)), decide_eq_false (fun h => hL h.2.2.1)]
  ·rw [if_neg h3, decide_eq_false (fun h => h3 h.2.1)]
 ·rw [if_neg (by omega), decide_eq_false (fun h => h0 h.1)]
theorem Avq {n : Nat} (hn1 : 1 ≤ n) (hn : n ≤ 8) {f : SOp} (hl : f.Table.length ≤ LIM) : Ml n f = some (decide (Ave n f)) := by
 unfold Ml
 rw [Wc]
 simp only [Option.bind_some]
 by_cases h0 : 0 ≤ f.Arity ∧ f.Arity ≤ 3
 ·have e : Fd (n : Int) f.Arity = some ((n ^ f.Arity.toNat : Nat) : Int) := by
   have := Aln hn (k := f.Arity.toNat) (by omega)
   rwa [show ((f.Arity.toNat : Nat) : Int) = f.Arity by omega] at this
  rw [decide_eq_true h0, if_pos rfl, e]
  simp only [Option.bind_some]
  by_cases hL : f.Table.length = n ^ f.Arity.toNat
  ·rw [if_neg (by rw [hL]; simp)]
   simp only [Option.bind_some]
   have hl' := hl
   rw [Aw] at hl'
   have this := E9 (body := Ey n f) (fun i => (i : Int)) f.Table.length (fun i => ¬ (0 ≤ nth f.Table i ∧ nth f.Table i ≤ (n : Int) - 1)) () () (fun i hi hb => by
    unfold Ey
    rw [if_pos (by omega), Af (by omega), Af (by unfold InI; omega), Wc]
    simp only [Int.toNat_natCast, Option.bind_some]
    rw [decide_eq_true (Classical.not_not.1 hb), if_pos rfl, Af (by unfold InI; omega)]; rfl) (fun i hi hb => by
    unfold Ey
    rw [if_pos (by omega), Af (by omega), Af (by unfold InI; omega), Wc]
    simp only [Int.toNat_natCast, Option.bind_some]
    rw [decide_eq_false hb, if_neg (by simp)]) (by
    unfold Ey
    rw [if_neg (by omega)]) 0 (by omega)
   refine (Fv this false true).trans (congrArg some (L1 ?_))
   rw [Mg]
   constructor
   ·intro h
    refine ⟨h0.1, h0.2, hL, fun x hx => ?_⟩
    obtain ⟨i, hi, rfl⟩ := N0.1 hx
    have := h i hi; omega
   ·intro h i hi
    have := h.2.2.2 _ (At hi); omega
  ·rw [if_pos (fun hc => hL (Int.ofNat_inj.1 hc)), decide_eq_false (fun h => hL h.2.2.1)]; rfl
 ·rw [decide_eq_false h0, if_neg (by simp), decide_eq_false (fun h => h0 ⟨h.1, h.2.1⟩)]; rfl
theorem L8 {a : SAlgebra} (h : Ek a) : B8 a = some (decide (Bk a)) := by
 unfold B8
 by_cases h1 : a.Size < 1
 ·rw [if_pos h1, decide_eq_false (fun hg => by have := hg.1; omega)]; rfl
 rw [if_neg h1]
 by_cases h8 : a.Size > 8
 ·rw [if_pos h8, decide_eq_false (fun hg => by have := hg.2.1; omega)]; rfl
 rw [if_neg h8]
 by_cases h4 : (a.Ops.length : Int) > 4
 ·rw [if_pos h4, decide_eq_false (fun hg => by have := hg.2.2.1; omega)]; rfl
 rw [if_neg h4]
 simp only [Option.bind_some]
 obtain ⟨n, hn⟩ := Int.eq_ofNat_of_zero_le (show 0 ≤ a.Size by omega)
 have this := E9 (body := Cb a) (fun i => (i : Int)) a.Ops.length (fun i => ¬ Ave n (nth a.Ops i)) () () (fun i hi hb => by
  have hl := h.2 _ (At hi)
  unfold Cb
  rw [if_pos (by omega), Af (by omega), Int.toNat_natCast, hn, Avg (by omega) (by rw [Aw]; omega)]
  simp only [Option.bind_some]
  rw [decide_eq_true (Classical.not_not.1 hb), if_pos rfl, Af (by unfold InI; omega)]; rfl) (fun i hi hb => by
  have hl := h.2 _ (At hi)
  unfold Cb
  rw [if_pos (by omega), Af (by omega), Int.toNat_natCast, hn, Avg (by omega) (by rw [Aw]; omega)]
  simp only [Option.bind_some]
  rw [decide_eq_false hb, if_neg (by simp)]) (by
  unfold Cb
  rw [if_neg (by omega)]) 0 (by omega)
 refine (Fv this false true).trans (congrArg some (L1 ?_))
 rw [Mg]
 have hnn : a.Size.toNat = n := by omega
 constructor
 ·intro hh
  refine ⟨by omega, by omega, by omega, fun f hf => ?_⟩
  obtain ⟨i, hi, rfl⟩ := N0.1 hf
  rw [hnn]; exact hh i hi
 ·intro hg i hi
  have := hg.2.2.2 _ (At hi)
  rwa [hnn] at this
theorem Ru {a : SAlgebra} (h : Ek a) : Cv a = some (decide (Bk a)) := by
 unfold Cv
 rw [Wc]
 simp only [Option.bind_some]
 by_cases h1 : 1 ≤ a.Size ∧ a.Size ≤ 8
 ·rw [decide_eq_true h1, if_pos rfl]
  by_cases h4 : (a.Ops.length : Int) > 4
  ·rw [if_pos h4, decide_eq_false (fun hg => by have := hg.2.2.1; omega)]; rfl
  rw [if_neg h4]
  simp only [Option.bind_some]
  obtain ⟨n, hn⟩ := Int.eq_ofNat_of_zero_le (show 0 ≤ a.Size by omega)
  have this := E9 (body := Dd a) (fun i => (i : Int)) a.Ops.length (fun i => ¬ Ave n (nth a.Ops i)) () () (fun i hi hb => by
   have hl := h.2 _ (At hi)
   unfold Dd
   rw [if_pos (by omega), Af (by omega), Int.toNat_natCast, hn, Avq (by omega) (by omega) (by rw [Aw]; omega)]
   simp only [Option.bind_some]
   rw [decide_eq_true (Classical.not_not.1 hb), if_pos rfl, Af (by unfold InI; omega)]; rfl) (fun i hi hb => by
   have hl := h.2 _ (At hi)
   unfold Dd
   rw [if_pos (by omega), Af (by omega), Int.toNat_natCast, hn, Avq (by omega) (by omega) (by rw [Aw]; omega)]
   simp only [Option.bind_some]
   rw [decide_eq_false hb, if_neg (by simp)]) (by
   unfold Dd
   rw [if_neg (by omega)]) 0 (by omega)
  refine (Fv this false true).trans (congrArg some (L1 ?_))
  rw [Mg]
  have hnn : a.Size.toNat = n := by omega
  constructor
  ·intro hh
   refine ⟨by omega, by omega, by omega, fun f hf => ?_⟩
   obtain ⟨i, hi, rfl⟩ := N0.1 hf
   rw [hnn]; exact hh i hi
  ·intro hg i hi
   have := hg.2.2.2 _ (At hi)
   rwa [hnn] at this
 ·rw [decide_eq_false h1, if_neg (by simp), decide_eq_false (fun hg => h1 ⟨hg.1, hg.2.1⟩)]; rfl
def Bx (a : SAlgebra) : List Int := a.Ops.map (·.Arity)
theorem Aev {a : SAlgebra} {i : Nat} (hi : i < a.Ops.length) : (a.Ops.take (i + 1)).map (·.Arity) = (a.Ops.take i).map (·.Arity) ++ [(nth a.Ops i).Arity] := by
 rw [Ff hi, List.map_append]; rfl
theorem Ano {a : SAlgebra} (h : Ek a) : G4 a = some (Bx a) := by
 unfold G4
 have h0 := h.1
 have key := Ca (body := Dm a) (fun i => ((i : Int), (a.Ops.take i).map (·.Arity))) a.Ops.length (Bx a) (fun i hi => by
  unfold Dm
  dsimp only
  rw [if_pos (by omega), Af (by omega), Int.toNat_natCast, Af (by rw [Aw]; simp only [List.length_map, List.length_take, List.length_cons, List.length_nil]; omega), Af (by unfold InI; omega), Aev hi]
  rfl) (by
  unfold Dm
  dsimp only
  rw [if_neg (by omega), List.take_length]
  rfl)
 have key' : Am (Dm a) (0, Al Int) = _ := key
 rw [key']; rfl
theorem Sp {a : SAlgebra} (h : Ek a) : G5 a = some (Bx a) := by
 unfold G5
 have h0 := h.1
 have key := Ca (body := Df a) (fun i => ((i : Int), (a.Ops.take i).map (·.Arity))) a.Ops.length (Bx a) (fun i hi => by
  unfold Df
  dsimp only
  rw [if_pos (by omega), Af (by omega), Int.toNat_natCast, Af (by rw [Aw]; simp only [List.length_map, List.length_take, List.length_cons, List.length_nil]; omega), Af (by unfold InI; omega), Aev hi]
  rfl) (by
  unfold Df
  dsimp only
  rw [if_neg (by omega), List.take_length]
  rfl)
 have key' : Am (Df a) (0, Al Int) = _ := key
 rw [key']; rfl
theorem We {a : SAlgebra} (h : Ek a) : (Bx a).length ≤ LIM := by
 have := h.1
 unfold Bx; rw [List.length_map, Aw]; omega
theorem Aqq {xs ys : List Int} (h : xs.length ≤ LIM) : Gw xs ys = some (decide (xs = ys)) := by
 unfold Gw
 rw [Aw] at h
 by_cases hne : xs.length = ys.length
 ·rw [if_neg (by omega)]
  have this := E9 (body := Cm xs ys) (fun i => (i : Int)) xs.length (fun i => ¬ nth xs i = nth ys i) () () (fun i hi hb => by
   unfold Cm
   rw [if_pos (by omega), Af (by omega), Af (by omega)]
   simp only [Int.toNat_natCast]
   rw [if_neg (fun hc => hc (Classical.not_not.1 hb).symm), Af (by unfold InI; omega)]; rfl) (fun i hi hb => by
   unfold Cm
   rw [if_pos (by omega), Af (by omega), Af (by omega)]
   simp only [Int.toNat_natCast]
   rw [if_pos (fun hc => hb hc.symm)]) (by unfold Cm; rw [if_neg (by omega)]) 0 (by omega)
  refine (Fv this false true).trans (congrArg some (L1 ?_))
  rw [Mg]
  exact ⟨fun hh => Wd hne hh, fun hh i _ => by rw [hh]⟩
 ·rw [if_pos (by omega), decide_eq_false (fun hh => hne (by rw [hh]))]
end Go.Proofs.Ytiakjbigaaanhaa.Ax
namespace Go.Proofs.Ytiakjbigaaanhaa.Ax
open Go Classical
def Fi (n : Nat) : Nat → Nat → List Int
 | 0, _ => []
 | r + 1, k => Fi n r (k / n) ++ [((k % n : Nat) : Int)]
theorem Hj (n : Nat) : ∀ r k, (Fi n r k).length = r := by
 intro r
 induction r with
 | zero => intro k; rfl
 | succ r ih => intro k; simp [Fi, ih]
theorem Tg {n : Nat} (hn : 0 < n) : ∀ r k, Bh (Fi n r k) n := by
 intro r
 induction r with
 | zero => intro k x hx; cases hx
 | succ r ih =>
   intro k x hx
   simp only [Fi] at hx
   rcases List.mem_append.1 hx with hx | hx
   ·exact ih _ x hx
   ·rw [List.mem_singleton.1 hx]
    have := Nat.mod_lt k hn
    omega
theorem Axd {n : Nat} (hn : 0 < n) (hn8 : n ≤ 8) : ∀ (r k : Nat) (xs : List Int), r ≤ xs.length → xs.length ≤ 1000 → k ≤ 1048576 → Am (Dg n) ((r : Int) - 1, xs, (k : Int)) = some (Fi n r k ++ xs.drop r) := by
 intro r
 induction r with
 | zero =>
   intro k xs _ _ _
   refine O0 ?_
   unfold Dg
   dsimp only
   rw [if_neg (by omega)]
   simp [Fi]
 | succ r ih =>
   intro k xs hr hl hk
   have c1 : (k : Int).tdiv (n : Int) = ((k / n : Nat) : Int) := rfl
   have c2 : (k : Int).tmod (n : Int) = ((k % n : Nat) : Int) := rfl
   have hd : k / n ≤ k := Nat.div_le_self k n
   have step : Dg n (((r + 1 : Nat) : Int) - 1, xs, (k : Int)) = some (.inl ((r : Int) - 1, xs.set r ((k % n : Nat) : Int), ((k / n : Nat) : Int))) := by
    unfold Dg
    dsimp only
    rw [show (((r + 1 : Nat) : Int) - 1) = (r : Int) by omega, c1, c2]
    generalize k / n = kd at hd
    rw [if_pos (by omega), Af (by omega), Af (by omega), Af (by unfold InI; omega), Af (by unfold InI; omega), Int.toNat_natCast]
   rw [Ta step, ih _ _ (by rw [List.length_set]; omega) (by rw [List.length_set]; exact hl) (by omega)]
   congr 1
   simp only [Fi]
   rw [List.append_assoc]
   congr 1
   have e : (xs.set r ((k % n : Nat) : Int)).drop r = ((k % n : Nat) : Int) :: xs.drop (r + 1) := by
    refine List.ext_getElem (by simp; omega) fun i h1 h2 => ?_
    rw [List.getElem_drop, List.getElem_set]
    cases i with
    | zero => simp
    | succ i =>
      rw [if_neg (by omega), List.getElem_cons_succ, List.getElem_drop]
      congr 1; omega
   rw [e]; rfl
theorem R4 {n r k : Nat} (hn : 0 < n) (hn8 : n ≤ 8) (hr : r ≤ 3) (hk : k ≤ 1048576) : Cw n r k = some (Fi n r k) := by
 unfold Cw
 rw [Af (by rw [Aw]; omega), Af (by unfold InI; omega), Int.toNat_natCast, Axd hn hn8 r k _ (by simp) (by simp; omega) hk]
 simp
theorem At2 {n r k : Nat} (hn : 0 < n) (hn8 : n ≤ 8) (hr : r ≤ 3) (hk : k ≤ 1048576) : Io k r n = some (Fi n r k) := by
 have : Io (k : Int) (r : Int) (n : Int) = Cw (n : Int) (r : Int) (k : Int) := rfl
 rw [this]; exact R4 hn hn8 hr hk
def R1 (m : Nat) (xs : List Int) : Int := xs.foldl (fun s x => s * (m : Int) + x) 0
theorem Wo (m : Nat) (xs : List Int) (y : Int) : R1 m (xs ++ [y]) = R1 m xs * (m : Int) + y := by
 unfold R1; rw [List.foldl_append]; rfl
theorem Axj {m : Nat} : ∀ (r : Nat) (xs : List Int), xs.length = r → Bh xs m → ∃ c : Nat, R1 m xs = (c : Int) ∧ c < m ^ r := by
 intro r
 induction r with
 | zero =>
   intro xs hl _
   have : xs = [] := List.length_eq_zero_iff.1 hl
   subst this
   exact ⟨0, rfl, by simp⟩
 | succ r ih =>
   intro xs hl hx
   obtain ⟨ys, y, rfl⟩ : ∃ ys y, xs = ys ++ [y] := by
    refine ⟨xs.take r, nth xs r, ?_⟩
    rw [← Ff (by omega), List.take_of_length_le (by omega)]
   have hy := hx y (by simp)
   obtain ⟨c, h1, h2⟩ := ih ys (by simpa using hl) fun z hz => hx z (by simp [hz])
   obtain ⟨d, rfl⟩ := Int.eq_ofNat_of_zero_le hy.1
   refine ⟨c * m + d, by rw [Wo, h1]; push_cast; rfl, ?_⟩
   have h3 := Nat.mul_le_mul_right m (show c + 1 ≤ m ^ r from h2)
   rw [Nat.succ_mul] at h3
   rw [Nat.pow_succ]
   omega
theorem Lk {m : Nat} (hm : m ≤ 8) {xs : List Int} (hl : xs.length ≤ 3) (hx : Bh xs m) : ∃ c : Nat, R1 m xs = (c : Int) ∧ c < m ^ xs.length ∧ c < 512 := by
 obtain ⟨c, h1, h2⟩ := Axj xs.length xs rfl hx
 have := Ya hm hl
 exact ⟨c, h1, h2, by omega⟩
theorem Aa6 {m : Nat} {xs : List Int} {i : Nat} (hi : i < xs.length) : R1 m (xs.take (i + 1)) = R1 m (xs.take i) * (m : Int) + nth xs i := by
 rw [Ff hi, Wo]
theorem Abj {m : Nat} (hm : m ≤ 8) {xs : List Int} (hl : xs.length ≤ 3) (hx : Bh xs m) {i : Nat} (hi : i < xs.length) :
  InI (R1 m (xs.take i) * (m : Int)) ∧ InI (R1 m (xs.take i) * (m : Int) + nth xs i) := by
 obtain ⟨c, h1, _, h3⟩ := Lk hm (xs := xs.take i) (by rw [List.length_take]; omega) fun z hz => hx z (List.mem_of_mem_take hz)
 have hv := hx _ (At hi)
 have h4 : c * m ≤ 512 * 8 := Nat.mul_le_mul (by omega) hm
 rw [h1, ← Int.natCast_mul]
 generalize c * m = d at h4
 unfold InI
 omega
theorem Asc {m : Nat} (hm : m ≤ 8) {xs : List Int} (hl : xs.length ≤ 3) (hx : Bh xs m) : Hg xs m = some (R1 m xs) := by
 unfold Hg
 have key := Ca (body := C0 xs m) (fun i => ((i : Int), R1 m (xs.take i))) xs.length (R1 m xs) (fun i hi => by
  unfold C0
  dsimp only
  obtain ⟨h1, h2⟩ := Abj hm hl hx hi
  rw [if_pos (by omega), Af (by omega), Af h1, Int.toNat_natCast, Af h2, Af (by unfold InI; omega), Aa6 hi]
  rfl) (by
  unfold C0
  dsimp only
  rw [if_neg (by omega), List.take_length])
 have key' : Am (C0 xs m) (0, 0) = _ := key
 rw [key']; rfl
theorem Amc {b : SAlgebra} {m : Nat} (hm : m ≤ 8) (hb : b.Size = m) {i : Nat} (hi : i < b.Ops.length) {xs : List Int} (hl : xs.length ≤ 3) (hx : Bh xs m) (hT : (nth b.Ops i).Table.length = m ^ xs.length) :
  Ev b i xs = some (nth (nth b.Ops i).Table (R1 m xs).toNat) := by
 unfold Ev
 have key := Ca (body := C2 b i xs) (fun j => ((j : Int), R1 m (xs.take j))) xs.length (R1 m xs) (fun j hj => by
  unfold C2
  dsimp only
  obtain ⟨h1, h2⟩ := Abj hm hl hx hj
  rw [hb, if_pos (by omega), Af h1, Af (by omega), Int.toNat_natCast, Af h2, Af (by unfold InI; omega), Aa6 hj]
  rfl) (by
  unfold C2
  dsimp only
  rw [if_neg (by omega), List.take_length])
 have key' : Am (C2 b i xs) (0, 0) = _ := key
 rw [key']
 simp only [Option.bind_some]
 obtain ⟨c, h1, h2, _⟩ := Lk hm hl hx
 rw [Af (by omega), Int.toNat_natCast, Af (by rw [h1, hT]; omega)]
def Ls (n m : Nat) (f : List Int) : Nat → Nat → Int
 | 0, _ => 0
 | r + 1, k => Ls n m f r (k / n) * (m : Int) + nth f (k % n)
theorem Uw (n m : Nat) (f : List Int) : ∀ r k, R1 m ((Fi n r k).map fun x => nth f x.toNat) = Ls n m f r k := by
 intro r
 induction r with
 | zero => intro k; rfl
 | succ r ih =>
   intro k
   simp only [Fi, Ls, List.map_append, List.map_cons, List.map_nil, Int.toNat_natCast]
   rw [Wo, ih]
theorem Atq (A C S M L : Int) : A + C * S + S * M * L = A + S * (L * M + C) := by
 rw [Int.mul_add, Int.mul_comm C S, Int.add_assoc, Int.add_comm (S * C), Int.mul_assoc, Int.mul_comm M L]
theorem At1 {n m : Nat} (hn : 0 < n) (hm : m ≤ 8) {a b : SAlgebra} (ha : a.Size = n) (hb : b.Size = m) {f : List Int} (hf : f.length = n) (hfx : Bh f m) {ar : Nat} (har : ar ≤ 3) : ∀ (r j s acc k : Nat), j + r = ar → s * 8 ^ r ≤ 512 → acc ≤ 4096 * j → k ≤ 1048576 →
  Am (Bt ar a b f) ((j : Int), (s : Int), (acc : Int), (k : Int)) = some ((acc : Int) + (s : Int) * Ls n m f r k) := by
 intro r
 induction r with
 | zero =>
   intro j s acc k hj _ _ _
   refine O0 ?_
   unfold Bt
   dsimp only
   rw [if_neg (by omega)]
   simp [Ls]
 | succ r ih =>
   intro j s acc k hj hs hacc hk
   have hkn := Nat.mod_lt k hn
   have hv := hfx _ (At (show k % n < f.length by omega))
   obtain ⟨c, hc⟩ := Int.eq_ofNat_of_zero_le hv.1
   have hd : k / n ≤ k := Nat.div_le_self k n
   have hp : 0 < 8 ^ r := Nat.pow_pos (by omega)
   rw [Nat.pow_succ] at hs
   have hs8 : s * 8 ≤ 512 := by
    have : s * 8 * 1 ≤ s * 8 * 8 ^ r := Nat.mul_le_mul_left _ hp
    rw [Nat.mul_assoc, Nat.mul_assoc, Nat.mul_comm 8 (8 ^ r)] at this
    omega
   have hsm : s * m ≤ s * 8 := Nat.mul_le_mul_left _ hm
   have hcs : c * s ≤ 8 * 64 := Nat.mul_le_mul (by omega) (by omega)
   have c1 : (k : Int).tdiv (n : Int) = ((k / n : Nat) : Int) := rfl
   have c2 : (k : Int).tmod (n : Int) = ((k % n : Nat) : Int) := rfl
   have step : Bt ar a b f ((j : Int), (s : Int), (acc : Int), (k : Int)) = some (.inl (((j + 1 : Nat) : Int), ((s * m : Nat) : Int), ((acc + c * s : Nat) : Int), ((k / n : Nat) : Int))) := by
    unfold Bt
    dsimp only
    rw [ha, hb, c1, c2, Int.toNat_natCast, hc]
    have e1 : (c : Int) * (s : Int) = ((c * s : Nat) : Int) := by push_cast; rfl
    have e2 : (s : Int) * (m : Int) = ((s * m : Nat) : Int) := by push_cast; rfl
    rw [e1, e2]
    generalize k / n = kd at hd
    generalize k % n = km at hkn
    generalize c * s = cs at hcs
    generalize s * m = sm at hsm
    rw [if_pos (by omega)]
    repeat rw [Af (by first | omega | (unfold InI; omega))]
    rfl
   have hb2 : s * m * 8 ^ r ≤ 512 := by
    have h1 : s * m * 8 ^ r ≤ s * 8 * 8 ^ r := Nat.mul_le_mul_right _ hsm
    rw [Nat.mul_assoc s 8, Nat.mul_comm 8 (8 ^ r)] at h1
    omega
   rw [Ta step, ih (j + 1) (s * m) (acc + c * s) (k / n) (by omega) hb2 (by omega) (by omega)]
   simp only [Ls, hc]
   congr 1
   push_cast
   exact Atq _ _ _ _ _
theorem Amb {n m : Nat} (hn : 0 < n) (hm : m ≤ 8) {a b : SAlgebra} (ha : a.Size = n) (hb : b.Size = m) {f : List Int} (hf : f.length = n) (hfx : Bh f m) {ar : Nat} (har : ar ≤ 3) {k : Nat} (hk : k ≤ 1048576) :
  Fc k ar a b f = some (Ls n m f ar k) := by
 unfold Fc
 have h8 : 1 * 8 ^ ar ≤ 512 := by rw [Nat.one_mul]; exact Ya (by omega) har
 have key := At1 hn hm ha hb hf hfx har ar 0 1 0 k (by omega) h8 (by omega) hk
 have key' : Am (Bt ar a b f) (0, 1, 0, (k : Int)) = some (Ls n m f ar k) := by simpa using key
 rw [key']; rfl
theorem Se {n m : Nat} (hn : 0 < n) {f : List Int} (hf : f.length = n) (hfx : Bh f m) (r k : Nat) : Bh ((Fi n r k).map fun x => nth f x.toNat) m := by
 intro y hy
 obtain ⟨x, hx, rfl⟩ := List.mem_map.1 hy
 have := Tg hn r k x hx
 exact hfx _ (At (by omega))
theorem Afi {f xs : List Int} (hl : xs.length ≤ 3) (hx : Bh xs f.length) : Cf f xs = some (xs.map fun x => nth f x.toNat) := by
 unfold Cf
 have key := Ca (body := Bj f xs) (fun i => ((i : Int), (xs.take i).map fun x => nth f x.toNat)) xs.length (xs.map fun x => nth f x.toNat) (fun i hi => by
  unfold Bj
  dsimp only
  have hv := hx _ (At hi)
  rw [if_pos (by omega), Af (by omega), Int.toNat_natCast, Af (by omega), Af (by rw [Aw]; simp only [List.length_map, List.length_take, List.length_cons, List.length_nil]; omega), Af (by unfold InI; omega), Ff hi, List.map_append]
  rfl) (by
  unfold Bj
  dsimp only
  rw [if_neg (by omega), List.take_length])
 have key' : Am (Bj f xs) (0, Al Int) = _ := key
 rw [key']; rfl
structure Homs (a b : SAlgebra) (f : List Int) (n m : Nat) : Prop where
 ga : Bk a
 gb : Bk b
 ty : Bx a = Bx b
 sa : a.Size = n
 sb : b.Size = m
 len : f.length = n
 fin : Bh f m
def B5 (a b : SAlgebra) (f : List Int) (n m i k : Nat) : Prop := nth f (nth (nth a.Ops i).Table k).toNat ≠ nth (nth b.Ops i).Table (Ls n m f (nth a.Ops i).Arity.toNat k).toNat
def faulty (a b : SAlgebra) (f : List Int) (n m : Nat) : Prop := ∃ i, i < a.Ops.length ∧ ∃ k, k < (nth a.Ops i).Table.length ∧ B5 a b f n m i k
section
variable {a b : SAlgebra} {f : List Int} {n m : Nat}
theorem Homs.ops (h : Homs a b f n m) : a.Ops.length = b.Ops.length := by
 have := congrArg List.length h.ty
 simpa [Bx] using this
theorem Homs.op (h : Homs a b f n m) {i : Nat} (hi : i < a.Ops.length) : ∃ r : Nat, r ≤ 3 ∧ (nth a.Ops i).Arity = r ∧ (nth b.Ops i).Arity = r ∧ (nth a.Ops i).Table.length = n ^ r ∧ (nth b.Ops i).Table.length = m ^ r ∧ Bh (nth a.Ops i).Table n ∧ n ^ r ≤ 512 := by
 have hn : a.Size.toNat = n := by have := h.sa; omega
 have hm : b.Size.toNat = m := by have := h.sb; omega
 have hn8 : n ≤ 8 := by have := h.sa; have := h.ga.2.1; omega
 obtain ⟨h1, h2, h3, h4⟩ := h.ga.2.2.2 _ (At hi)
 have hib : i < b.Ops.length := by rw [← h.ops]; exact hi
 obtain ⟨_, _, k3, _⟩ := h.gb.2.2.2 _ (At hib)
 have e : (nth a.Ops i).Arity = (nth b.Ops i).Arity := by
  have e1 : nth (Bx a) i = (nth a.Ops i).Arity := Mj _ hi
  have e2 : nth (Bx b) i = (nth b.Ops i).Arity := Mj _ hib
  rw [← e1, ← e2, h.ty]
 rw [hn] at h3 h4
 rw [hm, ← e] at k3
 exact ⟨(nth a.Ops i).Arity.toNat, by omega, by omega, by omega, h3, k3, h4, Ya hn8 (by omega)⟩
theorem Homs.pos (h : Homs a b f n m) : 0 < n ∧ n ≤ 8 ∧ 0 < m ∧ m ≤ 8 := by
 have := h.sa; have := h.sb; have := h.ga.1; have := h.ga.2.1; have := h.gb.1; have := h.gb.2.1
 omega
theorem Homs.low (h : Homs a b f n m) {r k : Nat} (hr : r ≤ 3) : ∃ c : Nat, Ls n m f r k = (c : Int) ∧ c < m ^ r := by
 obtain ⟨hn, _, _, hm⟩ := h.pos
 obtain ⟨c, h1, h2, _⟩ := Lk hm (xs := (Fi n r k).map fun x => nth f x.toNat) (by rw [List.length_map, Hj]; exact hr) (Se hn h.len h.fin r k)
 rw [Uw] at h1
 rw [List.length_map, Hj] at h2
 exact ⟨c, h1, h2⟩
end
def uniq (f : List Int) : Prop := ∀ i, i < f.length → nth f i ∉ f.take i
theorem Ap6 {f : List Int} (hl : f.length ≤ LIM) (n : Int) (hn1 : n ≤ 8) : Hp f n = some (decide ((f.length : Int) = n ∧ Bh f n ∧ uniq f)) := by
 unfold Hp
 by_cases h1 : (f.length : Int) = n
 ·rw [if_neg (by simpa using h1), Yo _ _ hl]
  simp only [Option.bind_some]
  by_cases h2 : Bh f n
  ·rw [decide_eq_true h2, if_pos rfl]
   simp only [Option.bind_some]
   subst h1
   rw [Af (by rw [Aw]; omega), Int.toNat_natCast]
   have this := E9 (body := Cx f) (fun i => ((i : Int), Nz f.length fun z => decide ((z : Int) ∈ f.take i))) f.length (fun i => nth f i ∈ f.take i) () () (fun i hi hb => by
    have hv := h2 _ (At hi)
    have hc : nth f i = (((nth f i).toNat : Nat) : Int) := by omega
    have hlen := Kh f.length fun z => decide ((z : Int) ∈ f.take i)
    unfold Cx
    dsimp only
    rw [if_pos (by omega), Af (by omega), Int.toNat_natCast, Af (by omega), J4 (by omega), if_neg (by rw [← hc]; simpa using hb), Af (by omega), Af (by unfold InI; omega), Aem (by omega)]
    refine congrArg (fun x => some (Sum.inl (_, x))) (Lg fun z _ => ?_)
    rw [Ff hi]
    by_cases hz : z = (nth f i).toNat
    ·rw [if_pos hz]
     refine (decide_eq_true ?_).symm
     rw [List.mem_append, List.mem_singleton]; right; omega
    ·rw [if_neg hz, decide_eq_decide, List.mem_append, List.mem_singleton]
     exact ⟨.inl, fun h => h.resolve_right (by omega)⟩) (fun i hi hb => by
    have hv := h2 _ (At hi)
    have hc : nth f i = (((nth f i).toNat : Nat) : Int) := by omega
    have hlen := Kh f.length fun z => decide ((z : Int) ∈ f.take i)
    unfold Cx
    dsimp only
    rw [if_pos (by omega), Af (by omega), Int.toNat_natCast, Af (by omega), J4 (by omega), if_pos (by rw [← hc]; simpa using hb)]) (by
    unfold Cx
    dsimp only
    rw [if_neg (by omega)]) 0 (by omega)
   have e0 : (Nz f.length fun z => decide ((z : Int) ∈ f.take 0)) = List.replicate f.length false := by
    rw [Xd]; exact Lg fun z _ => by simp
   simp only [e0] at this
   refine (Fv this false true).trans (congrArg some (L1 ?_))
   constructor
   ·intro hno
    exact ⟨rfl, h2, fun i hi hm => hno ⟨i, by omega, hi, hm⟩⟩
   ·rintro ⟨_, _, hu⟩ ⟨i, _, hi, hm⟩
    exact hu i hi hm
  ·rw [decide_eq_false h2, if_neg (by simp), decide_eq_false (fun h => h2 h.2.1)]; rfl
 ·rw [if_pos (by simpa using h1), decide_eq_false (fun h => h1 h.1)]; rfl
theorem Aul {f : List Int} (hl : f.length ≤ 1048576) {n : Nat} (h2 : Bh f n) : Dr f = some (decide (uniq f)) := by
 unfold Dr
 have body : ∀ i, i < f.length → B9 f (i : Int) = if nth f i ∈ f.take i then some (.inr (.inl ())) else some (.inl ((i + 1 : Nat) : Int)) := by
  intro i hi
  have hv := h2 _ (At hi)
  unfold B9
  rw [if_pos (by omega), Af (by omega), Int.toNat_natCast, if_pos (by omega), Af (by omega), Af (by omega)]
  have e : List.take (i - Int.toNat 0) (List.drop (Int.toNat 0) f) = f.take i := by simp
  rw [e, Aeg _ _ (by rw [Aw, List.length_take]; omega)]
  simp only [Option.bind_some]
  by_cases hm : nth f i ∈ f.take i
  ·rw [decide_eq_true hm, if_pos rfl, if_pos hm]
  ·rw [decide_eq_false hm, if_neg (by simp), if_neg hm, Af (by unfold InI; omega)]; rfl
 have this := E9 (body := B9 f) (fun i => (i : Int)) f.length (fun i => nth f i ∈ f.take i) () () (fun i hi hb => by rw [body i hi, if_neg hb]) (fun i hi hb => by rw [body i hi, if_pos hb]) (by
  unfold B9
  rw [if_neg (by omega)]) 0 (by omega)
 refine (Fv this false true).trans (congrArg some (L1 ?_))
 exact ⟨fun hno i hi hm => hno ⟨i, by omega, hi, hm⟩, fun hu ⟨i, _, hi, hm⟩ => hu i hi hm⟩
theorem Yi {a b : SAlgebra} (h : Ek a) (h' : Ek b) : Cg a b = some (decide (Bk a ∧ Bk b ∧ Bx a = Bx b)) := by
 unfold Cg
 rw [L8 h, L8 h']
 simp only [Option.bind_some]
 by_cases ga : Bk a
 ·by_cases gb : Bk b
  ·rw [decide_eq_true ga, decide_eq_true gb]
   simp only [if_true]
   unfold Nw Iy
   rw [L8 h, L8 h', decide_eq_true ga, decide_eq_true gb]
   simp only [Option.bind_some, if_true]
   rw [Ano h, Ano h']
   simp only [Option.bind_some]
   rw [Aqq (We h)]
   simp only [Option.bind_some, if_true]
   congr 1
   rw [decide_eq_decide]
   exact ⟨fun ht => ⟨ga, gb, ht⟩, fun hh => hh.2.2⟩
  ·rw [decide_eq_true ga, decide_eq_false gb, decide_eq_false (show ¬ (Bk a ∧ Bk b ∧ Bx a = Bx b) from fun hh => gb hh.2.1)]; simp
 ·rw [decide_eq_false ga, decide_eq_false (show ¬ (Bk a ∧ Bk b ∧ Bx a = Bx b) from fun hh => ga hh.1)]; simp
theorem Wl {a b : SAlgebra} (h : Ek a) (h' : Ek b) : Dp a b = some (decide (Bk a ∧ Bk b ∧ Bx a = Bx b)) := by
 unfold Dp
 rw [Ru h, Ru h']
 simp only [Option.bind_some]
 by_cases ga : Bk a
 ·by_cases gb : Bk b
  ·rw [decide_eq_true ga, decide_eq_true gb]
   simp only [if_true]
   unfold Dq
   rw [Sp h, Sp h']
   simp only [Option.bind_some]
   rw [Z8 (We h)]
   simp only [Option.bind_some]
   congr 1
   rw [decide_eq_decide]
   exact ⟨fun ht => ⟨ga, gb, ht⟩, fun hh => hh.2.2⟩
  ·rw [decide_eq_true ga, decide_eq_false gb, decide_eq_false (show ¬ (Bk a ∧ Bk b ∧ Bx a = Bx b) from fun hh => gb hh.2.1)]; simp
 ·rw [decide_eq_false ga, decide_eq_false (show ¬ (Bk a ∧ Bk b ∧ Bx a = Bx b) from fun hh => ga hh.1)]; simp
end Go.Proofs.Ytiakjbigaaanhaa.Ax
namespace Go.Proofs.Ytiakjbigaaanhaa.Ax
open Go Classical
theorem Auo {f : List Int} (hl : f.length ≤ LIM) {n : Nat} (hn1 : n ≤ 100) : G6 f n = some (decide ((f.length : Int) = n ∧ Bh f n ∧ uniq f)) := by
 unfold G6
 by_cases h1 : (f.length : Int) = n
 ·rw [if_neg (by simpa using h1), Zq n f hl (by rw [Aw]; omega)]
  simp only [Option.bind_some]
  by_cases h2 : Bh f n
  ·rw [decide_eq_true h2, if_pos rfl]
   simp only [Option.bind_some]
   have hn : n = f.length := by omega
   subst hn
   rw [Af (by rw [Aw]; omega), Int.toNat_natCast]
   have this := E9 (body := Dl f f.length) (fun i => ((i : Int), Nz f.length fun z => decide ((z : Int) ∈ f.take i))) f.length (fun i => nth f i ∈ f.take i) () () (fun i hi hb => by
    have hv := h2 _ (At hi)
    have hc : nth f i = (((nth f i).toNat : Nat) : Int) := by omega
    have hlen := Kh f.length fun z => decide ((z : Int) ∈ f.take i)
    unfold Dl
    dsimp only
    rw [if_pos (by omega), Af (by omega), Int.toNat_natCast, Af (by omega), J4 (by omega), if_neg (by rw [← hc]; simpa using hb), Af (by omega), Af (by omega), Af (by unfold InI; omega), Aem (by omega)]
    refine congrArg (fun x => some (Sum.inl (_, x))) (Lg fun z _ => ?_)
    rw [Ff hi]
    by_cases hz : z = (nth f i).toNat
    ·rw [if_pos hz]
     refine (decide_eq_true ?_).symm
     rw [List.mem_append, List.mem_singleton]; right; omega
    ·rw [if_neg hz, decide_eq_decide, List.mem_append, List.mem_singleton]
     exact ⟨.inl, fun h => h.resolve_right (by omega)⟩) (fun i hi hb => by
    have hv := h2 _ (At hi)
    have hc : nth f i = (((nth f i).toNat : Nat) : Int) := by omega
    have hlen := Kh f.length fun z => decide ((z : Int) ∈ f.take i)
    unfold Dl
    dsimp only
    rw [if_pos (by omega), Af (by omega), Int.toNat_natCast, Af (by omega), J4 (by omega), if_pos (by rw [← hc]; simpa using hb)]) (by
    unfold Dl
    dsimp only
    rw [if_neg (by omega)]) 0 (by omega)
   have e0 : (Nz f.length fun z => decide ((z : Int) ∈ f.take 0)) = List.replicate f.length false := by
    rw [Xd]; exact Lg fun z _ => by simp
   simp only [e0] at this
   refine (Fv this false true).trans (congrArg some (L1 ?_))
   constructor
   ·intro hno
    exact ⟨rfl, h2, fun i hi hm => hno ⟨i, by omega, hi, hm⟩⟩
   ·rintro ⟨_, _, hu⟩ ⟨i, _, hi, hm⟩
    exact hu i hi hm
  ·rw [decide_eq_false h2, if_neg (by simp), decide_eq_false (fun h => h2 h.2.1)]; rfl
 ·rw [if_pos (by simpa using h1), decide_eq_false (fun h => h1 h.1)]; rfl
structure Perm (f : List Int) (n : Nat) : Prop where
 len : f.length = n
 fin : Bh f n
 un : uniq f
theorem Perm.count {f : List Int} {n : Nat} (h : Perm f n) : ∀ i, i ≤ n → (B0 n fun z => decide ((z : Int) ∈ f.take i)).length = i := by
 intro i
 induction i with
 | zero =>
   intro _
   rw [List.length_eq_zero_iff]
   exact As3.2 fun z _ => by simp
 | succ i ih =>
   intro hi
   have hil : i < f.length := by rw [h.len]; exact hi
   have hv := h.fin _ (At hil)
   have hu := h.un i hil
   have hc : nth f i = (((nth f i).toNat : Nat) : Int) := by omega
   have := Asu (q := fun z => decide ((z : Int) ∈ f.take i)) (q' := fun z => decide ((z : Int) ∈ f.take (i + 1))) (x := (nth f i).toNat) (decide_eq_false (by rw [← hc]; exact hu)) (fun z => by
    rw [Ff hil, Bool.eq_iff_iff]
    simp only [decide_eq_true_eq, List.mem_append, List.mem_singleton, Bool.or_eq_true]
    constructor
    ·rintro (h1 | h1)
     ·exact .inl h1
     ·exact .inr (by omega)
    ·rintro (h1 | h1)
     ·exact .inl h1
     ·exact .inr (by omega)) n
   rw [this, ih (by omega), if_pos (by omega)]
theorem Perm.onto {f : List Int} {n : Nat} (h : Perm f n) {v : Nat} (hv : v < n) : ∃ x, x < n ∧ nth f x = (v : Int) := by
 have hc := h.count n (Nat.le_refl _)
 have hm : (v : Int) ∈ f := by
  apply Classical.byContradiction
  intro hno
  have hlt := Aue (q := fun z => decide ((z : Int) ∈ f.take n)) (q' := fun _ => true) (x := v) (decide_eq_false fun hm => hno (List.mem_of_mem_take hm)) rfl n hv fun _ _ _ => rfl
  rw [Atb, hc] at hlt
  omega
 obtain ⟨x, hx, e⟩ := N0.1 hm
 exact ⟨x, by rw [← h.len]; exact hx, e⟩
theorem Auc {f : List Int} {n : Nat} (h : Perm f n) (hn : 0 < n) : ∀ r p, p < n ^ r → ∃ k, k < n ^ r ∧ Ls n n f r k = (p : Int) := by
 intro r
 induction r with
 | zero =>
   intro p hp
   have : p = 0 := by simpa using hp
   subst this
   exact ⟨0, by simp, rfl⟩
 | succ r ih =>
   intro p hp
   rw [Nat.pow_succ] at hp
   obtain ⟨k, hk, e⟩ := ih (p / n) (Nat.div_lt_of_lt_mul (by rw [Nat.mul_comm]; exact hp))
   obtain ⟨x, hx, ex⟩ := h.onto (Nat.mod_lt p hn)
   have d1 : (k * n + x) / n = k := by rw [Nat.mul_comm, Nat.mul_add_div hn, Nat.div_eq_of_lt hx]; omega
   have d2 : (k * n + x) % n = x := by rw [Nat.mul_comm, Nat.mul_add_mod, Nat.mod_eq_of_lt hx]
   refine ⟨k * n + x, ?_, ?_⟩
   ·have h1 := Nat.mul_le_mul_right n (show k + 1 ≤ n ^ r by omega)
    rw [Nat.succ_mul] at h1
    rw [Nat.pow_succ]; omega
   ·simp only [Ls]
    rw [d1, d2, e, ex]
    have := Nat.div_add_mod p n
    rw [Nat.mul_comm] at this
    exact_mod_cast this
def wr (f T : List Int) (n r : Nat) (t0 : List Int) : Nat → List Int
 | 0 => t0
 | k + 1 => (wr f T n r t0 k).set (Ls n n f r k).toNat (nth f (nth T k).toNat)
theorem Ap8 (f T : List Int) (n r : Nat) (t0 : List Int) : ∀ k, (wr f T n r t0 k).length = t0.length := by
 intro k
 induction k with
 | zero => rfl
 | succ k ih => simp [wr, ih]
def Ae1 (f : List Int) (n : Nat) (o : SOp) : SOp := ⟨o.Arity, wr f o.Table n o.Arity.toNat (List.replicate o.Table.length 0) o.Table.length⟩
section
variable {a : SAlgebra} {f : List Int} {n : Nat}
theorem Avn (ga : Bk a) (hn : a.Size = n) {i : Nat} (hi : i < a.Ops.length) : ∃ r : Nat, r ≤ 3 ∧ (nth a.Ops i).Arity = r ∧ (nth a.Ops i).Table.length = n ^ r ∧ Bh (nth a.Ops i).Table n ∧ n ^ r ≤ 512 ∧ 0 < n ∧ n ≤ 8 := by
 have hnn : a.Size.toNat = n := by omega
 have := ga.1
 have := ga.2.1
 obtain ⟨h1, h2, h3, h4⟩ := ga.2.2.2 _ (At hi)
 rw [hnn] at h3 h4
 exact ⟨(nth a.Ops i).Arity.toNat, by omega, by omega, h3, h4, Ya (by omega) (by omega), by omega, by omega⟩
theorem At0 (h : Perm f n) (hn : 0 < n) (hn8 : n ≤ 8) {r : Nat} (hr : r ≤ 3) (k : Nat) : ∃ c : Nat, Ls n n f r k = (c : Int) ∧ c < n ^ r := by
 obtain ⟨c, h1, h2, _⟩ := Lk hn8 (xs := (Fi n r k).map fun x => nth f x.toNat) (by rw [List.length_map, Hj]; exact hr) (Se hn h.len h.fin r k)
 rw [Uw] at h1
 rw [List.length_map, Hj] at h2
 exact ⟨c, h1, h2⟩
theorem Ax8 (ga : Bk a) (hn : a.Size = n) (h : Perm f n) {i : Nat} (hi : i < a.Ops.length) (x5 : SAlgebra) : Am (Ci a f (i : Int) x5) (0, (⟨(nth a.Ops i).Arity, List.replicate (nth a.Ops i).Table.length 0⟩ : SOp)) = some (Ae1 f n (nth a.Ops i)) := by
 obtain ⟨r, hr, e1, l1, t1, l3, hn0, hn8⟩ := Avn ga hn hi
 have hlf := h.len
 have er : (nth a.Ops i).Arity.toNat = r := by omega
 exact Ca (body := Ci a f (i : Int) x5) (fun k => ((k : Int), (⟨(nth a.Ops i).Arity, wr f (nth a.Ops i).Table n (nth a.Ops i).Arity.toNat (List.replicate (nth a.Ops i).Table.length 0) k⟩ : SOp))) (nth a.Ops i).Table.length (Ae1 f n (nth a.Ops i)) (fun k hk => by
  have hv := t1 _ (At hk)
  have hwl : (wr f (nth a.Ops i).Table n r (List.replicate (nth a.Ops i).Table.length 0) k).length = (nth a.Ops i).Table.length := by rw [Ap8, List.length_replicate]
  obtain ⟨c, hc1, hc2⟩ := At0 h hn0 hn8 hr k
  unfold Ci
  dsimp only
  simp only [hwl, e1, hn, Int.toNat_natCast]
  rw [if_pos (by omega), R4 hn0 hn8 hr (by omega)]
  simp only [Option.bind_some]
  have hal := Hj n r k
  have key := Ca (body := Ck a f (i : Int) x5 (k : Int) (⟨(r : Int), wr f (nth a.Ops i).Table n r (List.replicate (nth a.Ops i).Table.length 0) k⟩ : SOp) (Fi n r k)) (fun j => ((j : Int), R1 n (((Fi n r k).map fun x => nth f x.toNat).take j))) (Fi n r k).length (Ls n n f r k) (fun j hj => by
   have hx := Tg hn0 r k _ (At hj)
   have hml : ((Fi n r k).map fun x => nth f x.toNat).length ≤ 3 := by rw [List.length_map, hal]; exact hr
   have hjl : j < ((Fi n r k).map fun x => nth f x.toNat).length := by rw [List.length_map]; exact hj
   obtain ⟨s1, s2⟩ := Abj hn8 hml (Se hn0 h.len h.fin r k) hjl
   rw [Mj _ hj] at s2
   unfold Ck
   dsimp only
   rw [hn, if_pos (by omega), Af s1, Af (by omega), Int.toNat_natCast, Af (by omega), Af s2, Af (by unfold InI; omega), Aa6 hjl, Mj _ hj]
   rfl) (by
   unfold Ck
   dsimp only
   rw [if_neg (by omega)]
   have e : ((Fi n r k).map fun x => nth f x.toNat).take (Fi n r k).length = (Fi n r k).map fun x => nth f x.toNat := List.take_of_length_le (by rw [List.length_map]; exact Nat.le_refl _)
   rw [e, Uw])
  have key' : Am (Ck a f (i : Int) x5 (k : Int) (⟨(r : Int), wr f (nth a.Ops i).Table n r (List.replicate (nth a.Ops i).Table.length 0) k⟩ : SOp) (Fi n r k)) (0, 0) = some (Ls n n f r k) := key
  rw [key']
  simp only [Option.bind_some]
  rw [Af (by omega), Af (by omega), Af (by omega), Af (by rw [hc1]; omega), Af (by unfold InI; omega)]
  rfl) (by
  unfold Ci
  dsimp only
  rw [Ap8, List.length_replicate, if_neg (by omega)]
  rfl)
theorem Apz (ga : Bk a) (hn : a.Size = n) (h : Perm f n) : E8 a f = some ⟨a.Size, a.Ops.map (Ae1 f n)⟩ := by
 have h4 := ga.2.2.1
 unfold E8
 have key := Ca (body := Ch a f) (fun i => ((i : Int), (⟨a.Size, (a.Ops.take i).map (Ae1 f n)⟩ : SAlgebra))) a.Ops.length ⟨a.Size, a.Ops.map (Ae1 f n)⟩ (fun i hi => by
  obtain ⟨r, hr, e1, l1, t1, l3, hn0, hn8⟩ := Avn ga hn hi
  unfold Ch
  dsimp only
  simp only [Int.toNat_natCast]
  rw [if_pos (by omega)]
  repeat rw [Af (by first | omega | (rw [Aw]; omega))]
  rw [Ax8 ga hn h hi]
  simp only [Option.bind_some]
  rw [Af (by rw [Aw]; simp only [List.length_map, List.length_take, List.length_cons, List.length_nil]; omega), Af (by unfold InI; omega), Ff hi, List.map_append]
  rfl) (by
  unfold Ch
  dsimp only
  rw [if_neg (by omega), List.take_length])
 have key' : Am (Ch a f) (0, { Size := a.Size, Ops := Al SOp }) = _ := key
 rw [key']; rfl
end
end Go.Proofs.Ytiakjbigaaanhaa.Ax
namespace Go.Proofs.Ytiakjbigaaanhaa.Ax
open Go
def Cur (k : Nat) (c : Sl1Cur) : Prop := (∀ x ∈ c.code, 0 ≤ x ∧ x ≤ 255) ∧ c.code.length ≤ 65536 ∧ 0 ≤ c.at_ ∧ c.at_ ≤ k
theorem Cur.mono {k l : Nat} {c : Sl1Cur} (h : Cur k c) (hl : k ≤ l) : Cur l c := ⟨h.1, h.2.1, h.2.2.1, by have := h.2.2.2; omega⟩
theorem Avc {n : Int} (h0 : 0 ≤ n) (h1 : n ≤ 255) : IntKind.u64.wrap n = n := by
 simp [IntKind.wrap, IntKind.bits, IntKind.signed]
 omega
theorem Akb {c : Sl1Cur} {k : Nat} (h : Cur k c) (hk : k ≤ 1000000000) : ∃ r d, Dx c = some (r, d) ∧ Cur (k + 1) d ∧ 0 ≤ r ∧ r ≤ 255 := by
 obtain ⟨h1, h2, h3, h4⟩ := h
 unfold Dx
 have fin : ∀ q : Int, 0 ≤ q → q ≤ 255 → ∃ r d, (ask (InI (c.at_ + 1)) <|
   if c.at_ + 1 ≤ (c.code.length : Int) then
    some (q, ({ code := c.code, at_ := c.at_ + 1, seed := IntKind.u64.wrap (IntKind.u64.wrap (IntKind.u64.wrap (c.seed * 6364136223846793005) + IntKind.u64.wrap q) + 550289) } : Sl1Cur))
   else some (IntKind.i64.wrap (IntKind.u64.wrap (((BitVec.ofInt IntKind.u64.bits ((IntKind.u64.wrap (IntKind.u64.wrap (IntKind.u64.wrap (c.seed * 6364136223846793005) + IntKind.u64.wrap q) + 550289)).fdiv (2 ^ min (Int.toNat 40) IntKind.u64.bits)) &&& BitVec.ofInt IntKind.u64.bits 255).toNat : Nat) : Int)),
    ({ code := c.code, at_ := c.at_ + 1, seed := IntKind.u64.wrap (IntKind.u64.wrap (IntKind.u64.wrap (c.seed * 6364136223846793005) + IntKind.u64.wrap q) + 550289) } : Sl1Cur))) = some (r, d) ∧ Cur (k + 1) d ∧ 0 ≤ r ∧ r ≤ 255 := by
  intro q hq0 hq1
  rw [Af (by unfold InI; omega)]
  split
  ·exact ⟨_, _, rfl, ⟨h1, h2, by show 0 ≤ c.at_ + 1; omega, by show c.at_ + 1 ≤ ((k + 1 : Nat) : Int); omega⟩, hq0, hq1⟩
  ·refine ⟨_, _, rfl, ⟨h1, h2, by show 0 ≤ c.at_ + 1; omega, by show c.at_ + 1 ≤ ((k + 1 : Nat) : Int); omega⟩, ?_⟩
   generalize BitVec.ofInt IntKind.u64.bits ((IntKind.u64.wrap (IntKind.u64.wrap (IntKind.u64.wrap (c.seed * 6364136223846793005) + IntKind.u64.wrap q) + 550289)).fdiv (2 ^ min (Int.toNat 40) IntKind.u64.bits)) = b
   have hb : (b &&& BitVec.ofInt IntKind.u64.bits 255).toNat ≤ 255 := by
    rw [BitVec.toNat_and]
    have : (BitVec.ofInt IntKind.u64.bits 255).toNat = 255 := by decide
    rw [this]
    exact Nat.and_le_right
   generalize (b &&& BitVec.ofInt IntKind.u64.bits 255).toNat = z at hb
   rw [Avc (by omega) (by omega), Qd (by omega) (by omega)]
   omega
 by_cases hc : c.at_ < (c.code.length : Int)
 ·rw [if_pos hc, Af ⟨h3, hc⟩]
  have hm := h1 _ (At (xs := c.code) (i := c.at_.toNat) (by omega))
  rw [Qd (by omega) (by omega)]
  simp only [Option.bind_some]
  exact fin _ hm.1 hm.2
 ·rw [if_neg hc]
  simp only [Option.bind_some]
  exact fin 0 (by omega) (by omega)
theorem Ce {c : Sl1Cur} {k : Nat} (h : Cur k c) (hk : k ≤ 900000000) (n : Int) : ∃ r d, Ak c n = some (r, d) ∧ Cur (k + 2) d ∧ 0 ≤ r ∧ (r < n ∨ (n ≤ 1 ∧ r = 0)) := by
 unfold Ak
 by_cases h1 : n ≤ 1
 ·rw [if_pos h1]; exact ⟨0, c, rfl, h.mono (by omega), by omega, .inr ⟨h1, rfl⟩⟩
 ·rw [if_neg h1]
  obtain ⟨r, d, e, hd, a1, a2⟩ := Akb h (by omega)
  simp only [e, Option.bind_some]
  by_cases h2 : n > 200
  ·rw [if_pos h2, Af (by unfold InI; omega)]
   obtain ⟨r2, d2, e2, hd2, b1, b2⟩ := Akb hd (by omega)
   simp only [e2, Option.bind_some]
   rw [Af (by unfold InI; omega), Af (by omega)]
   refine ⟨_, _, rfl, hd2, Int.tmod_nonneg _ (by omega), .inl ?_⟩
   exact Int.tmod_lt_of_pos _ (by omega)
  ·rw [if_neg h2, Af (by omega)]
   refine ⟨_, _, rfl, hd.mono (by omega), Int.tmod_nonneg _ (by omega), .inl ?_⟩
   exact Int.tmod_lt_of_pos _ (by omega)
theorem Vk {c : Sl1Cur} {k : Nat} (h : Cur k c) (hk : k ≤ 900000000) (n : Int) : ∃ b d, Bz c n = some (b, d) ∧ Cur (k + 2) d := by
 unfold Bz
 obtain ⟨r, d, e, hd, _, _⟩ := Ce h hk n
 simp only [e, Option.bind_some]
 exact ⟨_, _, rfl, hd⟩
theorem Hf {c : Sl1Cur} {k : Nat} (h : Cur k c) (hk : k ≤ 900000000) (l : List Int) (h0 : 0 < l.length) : ∃ r d, A7 c l = some (r, d) ∧ Cur (k + 2) d ∧ r ∈ l := by
 unfold A7
 obtain ⟨r, d, e, hd, a1, a2⟩ := Ce h hk (l.length : Int)
 simp only [e, Option.bind_some]
 rw [Af (by omega)]
 exact ⟨_, _, rfl, hd, At (by omega)⟩
theorem Aqd {c : Sl1Cur} {k : Nat} (h : Cur k c) (hk : k ≤ 800000000) (n : Nat) (hn : n ≤ 10) : ∃ l d, C4 c (n : Int) = some (l, d) ∧ Cur (k + 40) d ∧ l.length ≤ 11 := by
 unfold C4
 obtain ⟨⟨l, d⟩, e, hl, hd⟩ := Bq (body := Cz (n : Int)) (fun s => ∃ i : Nat, s.1 = (i : Int) ∧ i ≤ n ∧ s.2.1.length = i ∧ Cur (k + 2 * i) s.2.2) (fun s => n - s.1.toNat)
  (fun t => t.1.length = n ∧ Cur (k + 2 * n) t.2) (fun s hs => by
   obtain ⟨x6, x5, x53⟩ := s
   obtain ⟨i, e1, e2, e3, e4⟩ := hs
   simp only at e1 e3 e4
   subst e1
   unfold Cz
   dsimp only
   by_cases hi : i < n
   ·left
    rw [if_pos (by omega), Af (by unfold InI; omega)]
    obtain ⟨r, d, e5, hd, a1, a2⟩ := Ce e4 (by omega) ((x5.length : Int) + 1)
    simp only [e5, Option.bind_some]
    have hr : r ≤ (x5.length : Int) := by omega
    have ht : (List.take (r.toNat - Int.toNat 0) (List.drop (Int.toNat 0) x5)).length = r.toNat := by simp; omega
    have hd2 : (List.take ((x5.length : Int).toNat - r.toNat) (List.drop r.toNat x5)).length = x5.length - r.toNat := by simp
    have hL := Aw
    have h0 : (Al Int).length = 0 := rfl
    rw [Af ⟨by omega, a1, hr⟩, Af (by rw [h0, ht]; omega), Af (by rw [List.length_append, h0, ht]; simp; omega), Af ⟨a1, hr, by omega⟩, Af (by rw [List.length_append, List.length_append, h0, ht, hd2]; simp; omega),
     Af (by unfold InI; omega)]
    refine ⟨_, rfl, ⟨i + 1, by simp, by omega, ?_, hd.mono (by omega)⟩, ?_⟩
    ·simp only [List.length_append, h0, ht, hd2]; simp; omega
    ·simp only; omega
   ·right
    rw [if_neg (by omega)]
    have : i = n := by omega
    subst this
    exact ⟨_, rfl, e3, e4⟩) (s := (0, Al Int, c)) ⟨0, by simp, by omega, rfl, h⟩
 simp only at hl hd
 rw [e]
 simp only [Option.bind_some]
 obtain ⟨r, d2, e2, hd2, a1, a2⟩ := Ce hd (by omega) 24
 simp only [e2, Option.bind_some]
 have hL := Aw
 by_cases h0 : r = 0
 ·rw [if_pos h0, Af (by simp; omega)]
  exact ⟨_, _, rfl, hd2.mono (by omega), by simp; omega⟩
 ·rw [if_neg h0]
  by_cases h1 : r = 1
  ·rw [if_pos h1]
   by_cases h3 : (n : Int) > 0
   ·rw [if_pos h3]
    obtain ⟨r3, d3, e3, hd3, b1, b2⟩ := Ce hd2 (by omega) (n : Int)
    simp only [e3, Option.bind_some]
    obtain ⟨r4, d4, e4, hd4, b3⟩ := Hf hd3 (by omega) [0, -1, (n : Int)] (by simp)
    simp only [e4, Option.bind_some]
    rw [Af (by omega)]
    exact ⟨_, _, rfl, hd4.mono (by omega), by simp; omega⟩
   ·rw [if_neg h3]; exact ⟨_, _, rfl, hd2.mono (by omega), by omega⟩
  ·rw [if_neg h1]; exact ⟨_, _, rfl, hd2.mono (by omega), by omega⟩
open Classical
end Go.Proofs.Ytiakjbigaaanhaa.Ax
namespace Go.Proofs.Ytiakjbigaaanhaa.Ax
open Go Classical
def Af7 (n r k : Nat) (S : Nat → Bool) : Prop := ∀ x ∈ Fi n r k, S x.toNat = true
theorem Ack {n r k : Nat} {S T : Nat → Bool} (h : ∀ z, S z = true → T z = true) (hi : Af7 n r k S) : Af7 n r k T := fun x hx => h _ (hi x hx)
def Ac3 (a : SAlgebra) (i k : Nat) : Nat := (nth (nth a.Ops i).Table k).toNat
def Acv (a : SAlgebra) (i k : Nat) (S : Nat → Bool) : Prop := Af7 a.Size.toNat (nth a.Ops i).Arity.toNat k S
def Pk (a : SAlgebra) (S : Nat → Bool) : Prop := ∀ i, i < a.Ops.length → ∀ k, k < (nth a.Ops i).Table.length → Acv a i k S → S (Ac3 a i k) = true
noncomputable def Aaf (a : SAlgebra) (S : Nat → Bool) : Nat → Bool := fun z => decide (∀ T : Nat → Bool, (∀ x, S x = true → T x = true) → Pk a T → T z = true)
theorem Aas {a : SAlgebra} {S : Nat → Bool} (z : Nat) (h : S z = true) : Aaf a S z = true := decide_eq_true fun _ hT _ => hT z h
theorem Acc {a : SAlgebra} {S : Nat → Bool} : Pk a (Aaf a S) := by
 intro i hi k hk ha
 refine decide_eq_true fun T hT hc => ?_
 exact hc i hi k hk fun x hx => of_decide_eq_true (ha x hx) T hT hc
theorem Afq {a : SAlgebra} {S T : Nat → Bool} (hT : ∀ x, S x = true → T x = true) (hc : Pk a T) (z : Nat) (h : Aaf a S z = true) : T z = true := of_decide_eq_true h T hT hc
theorem Ase {a : SAlgebra} {S : Nat → Bool} (hc : Pk a S) : Aaf a S = S := by
 funext z
 cases h : S z with
 | true => exact Aas z h
 | false =>
   cases h2 : Aaf a S z with
   | false => rfl
   | true => rw [Afq (fun _ h => h) hc z h2] at h; cases h
def Agi (H : List Bool) : Nat := H.count true
theorem Axl (H : List Bool) : Agi H ≤ H.length := List.count_le_length
theorem Auv {H : List Bool} {v z : Nat} (hv : v < H.length) : nth (H.set v true) z = true ↔ z = v ∨ nth H z = true := by
 by_cases hz : z < H.length
 ·rw [Qk _ _ _ _ hz]
  by_cases e : v = z
  ·subst e; simp
  ·rw [if_neg e]
   exact ⟨.inr, fun h => h.resolve_left (Ne.symm e)⟩
 ·have h1 : nth H z = false := by rw [Alk, List.getD_eq_getElem?_getD, List.getElem?_eq_none (by omega)]; rfl
  have h2 : nth (H.set v true) z = false := by rw [Alk, List.getD_eq_getElem?_getD, List.getElem?_eq_none (by simp; omega)]; rfl
  rw [h1, h2]
  constructor
  ·intro h; cases h
  ·rintro (h | h)
   ·omega
   ·cases h
theorem Awa {H : List Bool} {z : Nat} (h : nth H z = true) : z < H.length := by
 apply Classical.byContradiction
 intro hc
 rw [Alk, List.getD_eq_getElem?_getD, List.getElem?_eq_none (by omega)] at h
 cases h
theorem Att {H K : List Bool} (hl : H.length = K.length) (h : ∀ z, nth H z = true → nth K z = true) : Agi H ≤ Agi K ∧ (Agi K ≤ Agi H → H = K) := by
 induction H generalizing K with
 | nil => cases K with
   | nil => exact ⟨Nat.le_refl _, fun _ => rfl⟩
   | cons => simp at hl
 | cons x r ih =>
   cases K with
   | nil => simp at hl
   | cons y s =>
     have hl' : r.length = s.length := by simpa using hl
     obtain ⟨h1, h2⟩ := ih hl' fun z hz => h (z + 1) hz
     have h0 : x = true → y = true := fun hx => h 0 hx
     unfold Agi at *
     cases x <;> cases y
     ·simp only [List.count_cons]
      exact ⟨by simpa using h1, fun hh => by rw [h2 (by simpa using hh)]⟩
     ·simp only [List.count_cons]
      refine ⟨by simp; omega, fun hh => ?_⟩
      simp at hh; omega
     ·exact absurd (h0 rfl) (by simp)
     ·simp only [List.count_cons]
      exact ⟨by simpa using h1, fun hh => by rw [h2 (by simpa using hh)]⟩
section
variable {a : SAlgebra}
structure ReadyA (a : SAlgebra) (n : Nat) : Prop where
 good : Bk a
 sz : a.Size = (n : Int)
 pos : 0 < n
 le : n ≤ 8
theorem Ay2 (hg : Bk a) : ReadyA a a.Size.toNat := ⟨hg, by have := hg.1; omega, by have := hg.1; omega, by have := hg.2.1; omega⟩
theorem ReadyA.nat {n : Nat} (h : ReadyA a n) : a.Size.toNat = n := by have := h.sz; omega
theorem ReadyA.op {n : Nat} (h : ReadyA a n) {i : Nat} (hi : i < a.Ops.length) : ∃ r : Nat, (nth a.Ops i).Arity = (r : Int) ∧ r ≤ 3 ∧ (nth a.Ops i).Table.length = n ^ r ∧ Bh (nth a.Ops i).Table n ∧ (nth a.Ops i).Table.length ≤ 512 ∧ (∀ k S, Acv a i k S ↔ Af7 n r k S) := by
 have := h.good.2.2.2 _ (At hi)
 rw [h.nat] at this
 obtain ⟨h1, h2, h3, h4⟩ := this
 refine ⟨(nth a.Ops i).Arity.toNat, by omega, by omega, h3, h4, ?_, fun k S => by unfold Acv; rw [h.nat]⟩
 rw [h3]; exact Ya h.le (by omega)
theorem ReadyA.val {n : Nat} (h : ReadyA a n) {i k : Nat} (hi : i < a.Ops.length) (hk : k < (nth a.Ops i).Table.length) : nth (nth a.Ops i).Table k = (Ac3 a i k : Int) ∧ Ac3 a i k < n := by
 obtain ⟨r, _, _, _, h4, _⟩ := h.op hi
 have := h4 _ (At hk)
 unfold Ac3
 omega
structure Pass (n : Nat) (G : Nat → Bool) (c0 : Bool) (H0 : List Bool) (c : Bool) (H : List Bool) (done : (Nat → Bool) → Prop) : Prop where
 len : H.length = n
 more : ∀ z, nth H0 z = true → nth H z = true
 low : ∀ z, nth H z = true → G z = true
 up : c = true → c0 = true ∨ Agi H0 < Agi H
 no : c = false → c0 = false ∧ H = H0 ∧ done (nth H)
 mono : Agi H0 ≤ Agi H
def U9 (a : SAlgebra) (n : Nat) (xs : List Int) : Prop := Bh xs n ∧ V6 xs ∧ B0 n (Aaf a fun z => decide ((z : Int) ∈ xs)) = xs
theorem Azb {n : Nat} {H : List Bool} (hH : H.length = n) {x6 x7 : Int} {o : List Bool} {xs : List Int} (hx : Bh xs n) (hl : xs.length ≤ 3) :
  Am (Dk a H x6 x7 o xs) (0, true) = some (decide (∀ x ∈ xs, nth H x.toNat = true)) := by
 have key := Ca (body := Dk a H x6 x7 o xs) (fun i => ((i : Int), decide (∀ x ∈ xs.take i, nth H x.toNat = true))) xs.length (decide (∀ x ∈ xs, nth H x.toNat = true)) (fun i hi => by
  have hc := hx _ (At hi)
  have ht := Ff hi
  unfold Dk
  dsimp only
  rw [if_pos (by omega)]
  by_cases hb : ∀ x ∈ xs.take i, nth H x.toNat = true
  ·rw [decide_eq_true hb, if_pos rfl, Af (by omega), Int.toNat_natCast, Af (by rw [hH]; omega), Af (by unfold InI; omega)]
   congr 3
   rw [ht, Bool.eq_iff_iff, decide_eq_true_eq]
   constructor
   ·intro h1 x hm
    rcases List.mem_append.1 hm with hm | hm
    ·exact hb x hm
    ·rw [List.mem_singleton.1 hm]; exact h1
   ·intro h1; exact h1 _ (by simp)
  ·rw [decide_eq_false hb, if_neg (by simp), Af (by unfold InI; omega)]
   congr 3
   refine (decide_eq_false fun h1 => hb fun x hm => h1 x ?_).symm
   rw [ht]; exact List.mem_append_left _ hm) (by
  unfold Dk
  dsimp only
  rw [if_neg (by omega), List.take_length])
 simpa using key
theorem Azh {n : Nat} (h : ReadyA a n) {H : List Bool} (hH : H.length = n) {i : Nat} (hi : i < a.Ops.length) {H0 : List Bool} (hl : H0.length = n) :
  ∃ K, Am (Es a H (i : Int)) (0, H0) = some K ∧ K.length = n ∧ ∀ z, nth K z = true ↔ nth H0 z = true ∨ ∃ k, k < (nth a.Ops i).Table.length ∧ Acv a i k (nth H) ∧ z = Ac3 a i k := by
 obtain ⟨r, hr, hr3, _, htab, h512, hargs⟩ := h.op hi
 refine Bq (body := Es a H (i : Int)) (fun s => ∃ k : Nat, s.1 = (k : Int) ∧ k ≤ (nth a.Ops i).Table.length ∧ s.2.length = n ∧ ∀ z, nth s.2 z = true ↔ nth H0 z = true ∨ ∃ j, j < k ∧ Acv a i j (nth H) ∧ z = Ac3 a i j)
  (fun s => (nth a.Ops i).Table.length - s.1.toNat) _ (fun s hs => ?_) ⟨0, rfl, Nat.zero_le _, hl, fun z => ⟨.inl, fun hz => hz.resolve_right (by rintro ⟨j, hj, _⟩; omega)⟩⟩
 obtain ⟨x, K⟩ := s
 obtain ⟨k, hk, hkl, h1, h2⟩ := hs
 simp only at hk hkl h1 h2
 subst hk
 unfold Es
 dsimp only
 rw [Af (by omega), Int.toNat_natCast]
 by_cases hlt : k < (nth a.Ops i).Table.length
 ·left
  obtain ⟨ev, hv⟩ := h.val hi hlt
  have hal := Hj n r k
  rw [if_pos (by omega), Af (by omega), hr, h.sz, R4 h.pos h.le hr3 (by omega)]
  simp only [Option.bind_some]
  rw [Azb hH (Tg h.pos r k) (by omega)]
  simp only [Option.bind_some]
  by_cases ha : Af7 n r k (nth H)
  ·rw [decide_eq_true (show ∀ x ∈ Fi n r k, nth H x.toNat = true from ha), if_pos rfl, Af (by omega), Af (by omega), Int.toNat_natCast, ev, Af (by rw [h1]; omega), Int.toNat_natCast, Af (by unfold InI; omega)]
   have hvl : Ac3 a i k < K.length := by rw [h1]; exact hv
   refine ⟨_, rfl, ⟨k + 1, rfl, hlt, by rw [List.length_set]; exact h1, fun z => ?_⟩, by simp only; omega⟩
   rw [Auv hvl, h2]
   constructor
   ·rintro (rfl | hz | ⟨j, hj, hb, e⟩)
    ·exact .inr ⟨k, by omega, (hargs _ _).2 ha, rfl⟩
    ·exact .inl hz
    ·exact .inr ⟨j, by omega, hb, e⟩
   ·rintro (hz | ⟨j, hj, hb, e⟩)
    ·exact .inr (.inl hz)
    ·by_cases ej : j = k
     ·subst ej; exact .inl e
     ·exact .inr (.inr ⟨j, by omega, hb, e⟩)
  ·rw [decide_eq_false (show ¬ ∀ x ∈ Fi n r k, nth H x.toNat = true from ha), if_neg (by simp), Af (by unfold InI; omega)]
   refine ⟨_, rfl, ⟨k + 1, rfl, hlt, h1, fun z => ?_⟩, by simp only; omega⟩
   simp only
   rw [h2]
   constructor
   ·rintro (hz | ⟨j, hj, hb, e⟩)
    ·exact .inl hz
    ·exact .inr ⟨j, by omega, hb, e⟩
   ·rintro (hz | ⟨j, hj, hb, e⟩)
    ·exact .inl hz
    ·by_cases ej : j = k
     ·subst ej; exact absurd ((hargs _ _).1 hb) ha
     ·exact .inr ⟨j, by omega, hb, e⟩
 ·right
  rw [if_neg (by omega)]
  have e : k = (nth a.Ops i).Table.length := by omega
  subst e
  exact ⟨_, rfl, h1, h2⟩
theorem Auj {n : Nat} (h : ReadyA a n) {H : List Bool} (hH : H.length = n) :
  ∃ K, Iv a H = some K ∧ K.length = n ∧ ∀ z, nth K z = true ↔ nth H z = true ∨ ∃ i k, i < a.Ops.length ∧ k < (nth a.Ops i).Table.length ∧ Acv a i k (nth H) ∧ z = Ac3 a i k := by
 have hL := Aw
 have h4 := h.good.2.2.1
 have h8 := h.le
 unfold Iv
 rw [Af (by simp only [List.length_nil]; omega)]
 obtain ⟨K, e, h1, h2⟩ := Bq (body := F4 a H) (fun s => ∃ i : Nat, s.1 = (i : Int) ∧ i ≤ a.Ops.length ∧ s.2.length = n ∧ ∀ z, nth s.2 z = true ↔ nth H z = true ∨ ∃ j k, j < i ∧ k < (nth a.Ops j).Table.length ∧ Acv a j k (nth H) ∧ z = Ac3 a j k)
  (fun s => a.Ops.length - s.1.toNat) (fun K => K.length = n ∧ ∀ z, nth K z = true ↔ nth H z = true ∨ ∃ i k, i < a.Ops.length ∧ k < (nth a.Ops i).Table.length ∧ Acv a i k (nth H) ∧ z = Ac3 a i k) (fun s hs => by
  obtain ⟨x, K⟩ := s
  obtain ⟨i, hi, hil, h1, h2⟩ := hs
  simp only at hi hil h1 h2
  subst hi
  unfold F4
  dsimp only
  by_cases hlt : i < a.Ops.length
  ·left
   obtain ⟨K1, e1, h3, h5⟩ := Azh h hH hlt h1
   rw [if_pos (by omega), e1]
   simp only [Option.bind_some]
   rw [Af (by unfold InI; omega)]
   refine ⟨_, rfl, ⟨i + 1, rfl, hlt, h3, fun z => ?_⟩, by simp only; omega⟩
   simp only
   rw [h5, h2]
   constructor
   ·rintro ((hz | ⟨j, k, a1, a2, a3, a4⟩) | ⟨k, a2, a3, a4⟩)
    ·exact .inl hz
    ·exact .inr ⟨j, k, by omega, a2, a3, a4⟩
    ·exact .inr ⟨i, k, by omega, a2, a3, a4⟩
   ·rintro (hz | ⟨j, k, a1, a2, a3, a4⟩)
    ·exact .inl (.inl hz)
    ·by_cases ej : j = i
     ·subst ej; exact .inr ⟨k, a2, a3, a4⟩
     ·exact .inl (.inr ⟨j, k, by omega, a2, a3, a4⟩)
  ·right
   rw [if_neg (by omega)]
   have e : i = a.Ops.length := by omega
   subst e
   exact ⟨_, rfl, h1, h2⟩) (s := ((0 : Int), Al Bool ++ H)) ⟨0, rfl, Nat.zero_le _, hH, fun z => ⟨.inl, fun hz => hz.resolve_right (by rintro ⟨j, _, hj, _⟩; omega)⟩⟩
 rw [e]
 exact ⟨K, rfl, h1, h2⟩
theorem Ax1 {n : Nat} (hn : n ≤ LIM) {xs : List Int} (hx : Bh xs n) (hl : xs.length ≤ LIM) : Mt n xs = some (Nz n fun z => decide ((z : Int) ∈ xs)) := by
 unfold Mt
 have hn' := hn
 rw [Aw] at hl hn'
 rw [Af (by rw [Aw]; omega)]
 have key := Ca (body := F9 xs) (fun i => ((i : Int), Nz n fun z => decide ((z : Int) ∈ xs.take i))) xs.length (Nz n fun z => decide ((z : Int) ∈ xs)) (fun i hi => by
  unfold F9
  dsimp only
  have hc := hx _ (At hi)
  have hlen := Kh n fun z => decide ((z : Int) ∈ xs.take i)
  rw [if_pos (by omega), Af (by omega), Int.toNat_natCast, Af (by rw [hlen]; omega), Af (by unfold InI; omega), Aem (by omega)]
  congr 3
  refine Lg fun z _ => ?_
  rw [Ff hi]
  by_cases hz : z = (nth xs i).toNat
  ·rw [if_pos hz]
   refine (decide_eq_true ?_).symm
   rw [List.mem_append, List.mem_singleton]; right; omega
  ·rw [if_neg hz, decide_eq_decide, List.mem_append, List.mem_singleton]
   exact ⟨.inl, fun h => h.resolve_right (by omega)⟩) (by
  unfold F9
  dsimp only
  rw [if_neg (by omega), List.take_length])
 have e0 : (Nz n fun z => decide ((z : Int) ∈ xs.take 0)) = List.replicate n false := by
  rw [Xd]; exact Lg fun z _ => by simp
 simp only [e0] at key
 rw [Int.toNat_natCast]
 show (Am _ (((0 : Nat) : Int), _)).bind _ = _
 rw [key]; rfl
theorem Atu {n : Nat} (hn : n ≤ LIM) (S : Nat → Bool) : Im (Nz n S) = some (B0 n S) := by
 unfold Im
 have hn' := hn
 rw [Aw] at hn'
 have hl := Kh n S
 rw [Apr n S (fun i acc hi ha => by
  unfold F5
  dsimp only
  rw [if_pos (by omega), Af (by omega), Int.toNat_natCast, J4 hi]
  by_cases hp : S i = true
  ·rw [if_pos hp, if_pos hp, Af (by rw [Aw]; simp; omega), Af (by unfold InI; omega)]; rfl
  ·rw [if_neg hp, if_neg hp, Af (by unfold InI; omega)]; rfl) (fun acc => by
  unfold F5
  dsimp only
  rw [if_neg (by omega)])]
 rfl
theorem Ass {n : Nat} (h : ReadyA a n) {xs : List Int} (hx : Bh xs n) (hl : xs.length ≤ LIM) : Hw a xs = some (B0 n (Aaf a fun z => decide ((z : Int) ∈ xs))) := by
 have hL := Aw
 have h8 := h.le
 generalize hS : (fun z : Nat => decide ((z : Int) ∈ xs)) = S
 have hSn : ∀ z, S z = true → z < n := fun z hz => by
  subst hS
  have := hx _ (of_decide_eq_true hz); omega
 have hb := Kh n S
 have hin : ∀ z, nth (Nz n S) z = true ↔ S z = true := fun z => by
  constructor
  ·intro hz
   have hl := Awa hz
   rw [hb] at hl
   rwa [J4 hl] at hz
  ·intro hz; rw [J4 (hSn z hz)]; exact hz
 unfold Hw
 rw [h.sz, Ax1 (by omega) hx hl, hS]
 simp only [Option.bind_some]
 obtain ⟨H, e, h1, h2, h3, h4⟩ := Bq (body := Fp a) (fun s => ∃ j : Nat, s.1 = (j : Int) ∧ j ≤ n + 1 ∧ s.2.length = n ∧ (∀ z, S z = true → nth s.2 z = true) ∧ (∀ z, nth s.2 z = true → Aaf a S z = true) ∧ (Pk a (nth s.2) ∨ j ≤ Agi s.2))
  (fun s => (n + 1) - s.1.toNat) (fun H => H.length = n ∧ (∀ z, S z = true → nth H z = true) ∧ (∀ z, nth H z = true → Aaf a S z = true) ∧ Pk a (nth H)) (fun s hs => by
  obtain ⟨x, H⟩ := s
  obtain ⟨j, hj, hjn, h1, h2, h3, h4⟩ := hs
  simp only at hj hjn h1 h2 h3 h4
  subst hj
  unfold Fp
  dsimp only
  rw [h.sz]
  have hcl := Axl H
  by_cases hlt : j ≤ n
  ·left
   obtain ⟨K, eK, k1, k2⟩ := Auj h h1
   rw [if_pos (by omega), eK]
   simp only [Option.bind_some]
   rw [Af (by unfold InI; omega)]
   have hmore : ∀ z, nth H z = true → nth K z = true := fun z hz => (k2 z).2 (.inl hz)
   refine ⟨_, rfl, ⟨j + 1, rfl, by omega, k1, fun z hz => hmore z (h2 z hz), fun z hz => ?_, ?_⟩, by simp only; omega⟩
   ·rcases (k2 z).1 hz with hz | ⟨i, k, a1, a2, a3, a4⟩
    ·exact h3 z hz
    ·rw [a4]; exact Acc i a1 k a2 (Ack h3 a3)
   ·simp only
    obtain ⟨m1, m2⟩ := Att (h1.trans k1.symm) hmore
    by_cases hc : Pk a (nth H)
    ·left
     have : H = K := by
      refine Wd (h1.trans k1.symm) fun z hz => ?_
      rw [Bool.eq_iff_iff, k2]
      constructor
      ·exact .inl
      ·rintro (hz | ⟨i, k, a1, a2, a3, a4⟩)
       ·exact hz
       ·rw [a4]; exact hc i a1 k a2 a3
     rw [← this]; exact hc
    ·right
     have hj := h4.resolve_left hc
     apply Classical.byContradiction
     intro hno
     have e := m2 (by omega)
     refine hc fun i a1 k a2 a3 => ?_
     rw [e]
     exact (k2 _).2 (.inr ⟨i, k, a1, a2, a3, rfl⟩)
  ·right
   rw [if_neg (by omega)]
   exact ⟨_, rfl, h1, h2, h3, h4.resolve_right (by omega)⟩) (s := ((0 : Int), Nz n S)) ⟨0, rfl, by omega, hb, fun z hz => (hin z).2 hz, fun z hz => Aas z ((hin z).1 hz), .inr (Nat.zero_le _)⟩
 rw [e]
 simp only [Option.bind_some]
 have eH : H = Nz n (Aaf a S) := by
  refine Wd (by rw [h1, Kh]) fun z hz => ?_
  rw [h1] at hz
  rw [J4 hz]
  cases hh : Aaf a S z with
  | true => exact Afq h2 h4 z hh
  | false =>
    cases h5 : nth H z with
    | false => rfl
    | true => rw [h3 z h5] at hh; cases hh
 rw [eH, Atu (by omega)]; rfl
theorem Ayk {n : Nat} (h : ReadyA a n) {xs : List Int} (hl : xs.length ≤ LIM) : Mq a xs = some (decide (U9 a n xs)) := by
 have hL := Aw
 have h8 := h.le
 unfold Mq
 rw [h.sz, Af (by unfold InI; omega), Ap9 _ _ _ hl]
 simp only [Option.bind_some]
 by_cases hr : Ak5 xs 0 (n - 1)
 ·obtain ⟨h3, h4⟩ := (Afd xs n).1 hr
  rw [decide_eq_true hr, if_pos rfl, Ass h h4 hl]
  simp only [Option.bind_some]
  have hsl := Sw n (Aaf a fun z => decide ((z : Int) ∈ xs))
  rw [Z8 (by omega)]
  simp only [Option.bind_some]
  congr 1
  rw [decide_eq_decide]
  exact ⟨fun hc => ⟨h4, h3, hc⟩, fun hc => hc.2.2⟩
 ·rw [decide_eq_false hr, if_neg (by simp), decide_eq_false]
  rintro ⟨h4, h3, _⟩
  exact hr ((Afd xs n).2 ⟨h3, h4⟩)
theorem Ap2 {n : Nat} (h : ReadyA a n) {xs : List Int} : U9 a n xs ↔ Bh xs n ∧ V6 xs ∧ Pk a fun z => decide ((z : Int) ∈ xs) := by
 constructor
 ·rintro ⟨h1, h2, h3⟩
  refine ⟨h1, h2, fun i hi k hk ha => ?_⟩
  have hv := (h.val hi hk).2
  have h4 : Aaf a (fun z => decide ((z : Int) ∈ xs)) (Ac3 a i k) = true := Acc i hi k hk (Ack (fun z hz => Aas z hz) ha)
  have h5 : ((Ac3 a i k : Nat) : Int) ∈ B0 n (Aaf a fun z => decide ((z : Int) ∈ xs)) := K0.2 ⟨_, hv, h4, rfl⟩
  rw [h3] at h5
  exact decide_eq_true h5
 ·rintro ⟨h1, h2, h3⟩
  exact ⟨h1, h2, by rw [Ase h3]; exact Aqy h1 h2⟩
end
end Go.Proofs.Ytiakjbigaaanhaa.Ax
namespace Go.Proofs.Ytiakjbigaaanhaa.Ax
open Go Classical
theorem Arb {α β : Type} {o : Option α} {k : α → Option β} {Q : α → Prop} {R : β → Prop} (h : ∃ a, o = some a ∧ Q a) (h2 : ∀ a, Q a → ∃ b, k a = some b ∧ R b) : ∃ b, o.bind k = some b ∧ R b := by
 obtain ⟨a, e, hq⟩ := h
 rw [e]; exact h2 a hq
theorem Ayp {β : Type} {c : Prop} [Decidable c] {x y : Option β} {R : β → Prop} (h1 : c → ∃ b, x = some b ∧ R b) (h2 : ¬ c → ∃ b, y = some b ∧ R b) : ∃ b, (if c then x else y) = some b ∧ R b := by
 split
 ·exact h1 ‹_›
 ·exact h2 ‹_›
def Ep (a : SAlgebra) : Prop := a.Ops.length ≤ 10 ∧ ∀ f ∈ a.Ops, f.Table.length ≤ 101
theorem Bm {a : SAlgebra} (h : Ep a) : Ek a := ⟨by have := h.1; omega, fun f hf => by have := h.2 f hf; omega⟩
theorem Ang (s : ByteArray) (hs : s.size ≤ 100) : ∃ f, A5 s = some f ∧ f.Table.length ≤ 100 := by
 have hL := Aw
 unfold A5
 obtain ⟨f, e, hf⟩ := Bq (body := Ew s) (fun t => ∃ j : Nat, t.1 = (j : Int) ∧ j ≤ s.size ∧ t.2.Table.length ≤ j) (fun t => s.size - t.1.toNat) (fun f => f.Table.length ≤ 100) (fun t ht => by
  obtain ⟨x4, x3⟩ := t
  obtain ⟨j, g1, g2, g3⟩ := ht
  simp only at g1 g2 g3
  subst g1
  unfold Ew
  dsimp only
  by_cases hj : (j : Int) < (s.size : Int)
  ·left
   rw [if_pos hj, Af (by omega), Af (by simp; omega), Af (by unfold InI; omega)]
   exact ⟨_, rfl, ⟨j + 1, rfl, by omega, by simp; omega⟩, by simp only; omega⟩
  ·right
   rw [if_neg hj]
   exact ⟨_, rfl, by omega⟩) (s := ((0 : Int), ({ Arity := 2, Table := Al Int } : SOp))) ⟨0, rfl, Nat.zero_le _, by simp [Al]⟩
 rw [e]
 exact ⟨_, rfl, hf⟩
theorem Am8 {n : Int} (hn : n = 2 ∨ n = 3) : ∃ f, E7 n = some f ∧ f.Table.length ≤ 100 := by
 have hL := Aw
 unfold E7
 obtain ⟨f, e, hf⟩ := Bq (body := Ez n) (fun t => ∃ j : Nat, t.1 = (j : Int) ∧ j ≤ 27 ∧ t.2.Table.length ≤ j) (fun t => 27 - t.1.toNat) (fun f => f.Table.length ≤ 100) (fun t ht => by
  obtain ⟨x4, x3⟩ := t
  obtain ⟨j, g1, g2, g3⟩ := ht
  simp only at g1 g2 g3
  subst g1
  unfold Ez
  dsimp only
  have d1 : ∀ m : Int, (j : Int).tdiv m = (j : Int) / m := fun m => Int.tdiv_eq_ediv_of_nonneg (by omega)
  have d2 : ∀ m : Int, (j : Int).tmod m = (j : Int) % m := fun m => Int.tmod_eq_emod_of_nonneg (by omega)
  rw [d1, d1, d2]
  rcases hn with rfl | rfl
  ·have d3 : ((j : Int) / 2).tmod 2 = ((j : Int) / 2) % 2 := Int.tmod_eq_emod_of_nonneg (by omega)
   rw [d3]
   by_cases hj : (j : Int) < 2 * 2 * 2
   ·left
    rw [Af (by unfold InI; omega), Af (by unfold InI; omega), if_pos hj]
    rw [Af (by unfold InI; omega), Af (by unfold InI; omega), Af (by unfold InI; omega), Af (by unfold InI; omega), Af (by omega), Af (by unfold InI; omega), Af (by omega), Af (by unfold InI; omega), Af (by omega), Af (by simp; omega), Af (by unfold InI; omega)]
    exact ⟨_, rfl, ⟨j + 1, rfl, by omega, by simp; omega⟩, by simp only; omega⟩
   ·right
    rw [Af (by unfold InI; omega), Af (by unfold InI; omega), if_neg hj]
    exact ⟨_, rfl, by omega⟩
  ·have d3 : ((j : Int) / 3).tmod 3 = ((j : Int) / 3) % 3 := Int.tmod_eq_emod_of_nonneg (by omega)
   rw [d3]
   by_cases hj : (j : Int) < 3 * 3 * 3
   ·left
    rw [Af (by unfold InI; omega), Af (by unfold InI; omega), if_pos hj]
    rw [Af (by unfold InI; omega), Af (by unfold InI; omega), Af (by unfold InI; omega), Af (by unfold InI; omega), Af (by omega), Af (by unfold InI; omega), Af (by omega), Af (by unfold InI; omega), Af (by omega), Af (by simp; omega), Af (by unfold InI; omega)]
    exact ⟨_, rfl, ⟨j + 1, rfl, by omega, by simp; omega⟩, by simp only; omega⟩
   ·right
    rw [Af (by unfold InI; omega), Af (by unfold InI; omega), if_neg hj]
    exact ⟨_, rfl, by omega⟩) (s := ((0 : Int), ({ Arity := 3, Table := Al Int } : SOp))) ⟨0, rfl, Nat.zero_le _, by simp [Al]⟩
 rw [e]
 exact ⟨_, rfl, hf⟩
theorem Am4 (k : Int) : ∃ a, Hq k = some a ∧ Ep a := by
 have fin0 : ∀ {z : Int}, Ep { Size := z, Ops := Al SOp } := ⟨by simp [Al], fun f hf => by simp [Al] at hf⟩
 have fin1 : ∀ {z : Int} {f : SOp}, f.Table.length ≤ 100 → Ep { Size := z, Ops := [f] } := fun h => ⟨by simp, fun f hf => by simp at hf; subst hf; omega⟩
 have fin2 : ∀ {z : Int} {f g : SOp}, f.Table.length ≤ 100 → g.Table.length ≤ 100 → Ep { Size := z, Ops := [f, g] } := fun h1 h2 => ⟨by simp, fun f hf => by
  simp only [List.mem_cons, List.not_mem_nil, or_false] at hf
  rcases hf with rfl | rfl <;> omega⟩
 have fin3 : ∀ {z : Int} {f g e : SOp}, f.Table.length ≤ 100 → g.Table.length ≤ 100 → e.Table.length ≤ 100 → Ep { Size := z, Ops := [f, g, e] } := fun h1 h2 h3 => ⟨by simp, fun f hf => by
  simp only [List.mem_cons, List.not_mem_nil, or_false] at hf
  rcases hf with rfl | rfl | rfl <;> omega⟩
 unfold Hq
 repeat' (first | refine Ayp (fun _ => ?_) (fun _ => ?_) | refine Arb (Ang _ (by decide)) fun f hf => ?_ | refine Arb (Am8 (by simp)) fun f hf => ?_)
 all_goals
  first
   | exact ⟨_, rfl, fin0⟩
   | exact ⟨_, rfl, fin1 (by first | assumption | decide)⟩
   | exact ⟨_, rfl, fin2 (by first | assumption | decide) (by first | assumption | decide)⟩
   | exact ⟨_, rfl, fin3 (by first | assumption | decide) (by first | assumption | decide) (by first | assumption | decide)⟩
theorem Nt {c : Sl1Cur} {k : Nat} (h : Cur k c) (hk : k ≤ 600000000) : ∃ a d, Bu c = some (a, d) ∧ Cur (k + 1000) d ∧ Ep a := by
 have hL := Aw
 unfold Bu
 obtain ⟨b, d, e, hd⟩ := Vk h (by omega) 4
 rw [e]
 simp only [Option.bind_some]
 by_cases hb : b = true
 ·rw [if_pos hb]
  obtain ⟨n, d2, e2, hd2, hn⟩ := Hf hd (by omega) [2, 2, 3, 3, 4] (by simp)
  rw [e2]
  simp only [Option.bind_some]
  obtain ⟨m, d3, e3, hd3, hm⟩ := Hf hd2 (by omega) [1, 1, 2] (by simp)
  rw [e3]
  simp only [Option.bind_some]
  obtain ⟨N, rfl, hN⟩ : ∃ N : Nat, n = (N : Int) ∧ 2 ≤ N ∧ N ≤ 4 := ⟨n.toNat, by simp at hn; omega, by simp at hn; omega⟩
  obtain ⟨M, rfl, hM⟩ : ∃ M : Nat, m = (M : Int) ∧ 1 ≤ M ∧ M ≤ 2 := ⟨m.toNat, by simp at hm; omega, by simp at hm; omega⟩
  obtain ⟨⟨a, d4⟩, e4, ⟨ha1, ha2, ha3⟩, hd4⟩ := Bq (body := Cn (N : Int)) (fun s => ∃ j : Nat, s.1 = (j : Int) ∧ j ≤ M ∧ s.2.1.Size = (N : Int) ∧ s.2.1.Ops.length = M - j ∧ (∀ f ∈ s.2.1.Ops, 1 ≤ f.Table.length ∧ f.Table.length ≤ 64) ∧ Cur (k + 6 + 200 * (M - j)) s.2.2) (fun s => s.1.toNat)
   (fun t => (t.1.Size = (N : Int) ∧ t.1.Ops.length = M ∧ ∀ f ∈ t.1.Ops, 1 ≤ f.Table.length ∧ f.Table.length ≤ 64) ∧ Cur (k + 500) t.2) (fun s hs => by
   obtain ⟨x6, x5, x1⟩ := s
   obtain ⟨j, g1, g2, g3, g4, g5, g6⟩ := hs
   simp only at g1 g2 g3 g4 g5 g6
   subst g1
   unfold Cn
   dsimp only
   by_cases hj : (j : Int) > 0
   ·left
    rw [if_pos hj]
    obtain ⟨r, d5, e5, hd5, hr⟩ := Hf g6 (by omega) [0, 1, 2, 2, 3] (by simp)
    rw [e5]
    simp only [Option.bind_some]
    obtain ⟨R, rfl, hR⟩ : ∃ R : Nat, r = (R : Int) ∧ R ≤ 3 := ⟨r.toNat, by simp at hr; omega, by simp at hr; omega⟩
    have hop : ∃ f : SOp, ((if (N : Int) = 4 then if (R : Int) = 3 then some ({ Arity := 2, Table := Al Int } : SOp) else some { Arity := (R : Int), Table := Al Int } else some { Arity := (R : Int), Table := Al Int } : Option SOp)) = some f ∧ f.Table = [] ∧ ∃ Q : Nat, f.Arity = (Q : Int) ∧ 1 ≤ N ^ Q ∧ N ^ Q ≤ 64 ∧ Q ≤ 3 := by
     by_cases h4 : (N : Int) = 4
     ·rw [if_pos h4]
      have h4 : N = 4 := by omega
      subst h4
      by_cases h3 : (R : Int) = 3
      ·rw [if_pos h3]; exact ⟨_, rfl, rfl, 2, rfl, by decide⟩
      ·rw [if_neg h3]
       refine ⟨_, rfl, rfl, R, rfl, ?_⟩
       have : R = 0 ∨ R = 1 ∨ R = 2 := by omega
       rcases this with rfl | rfl | rfl <;> decide
     ·rw [if_neg h4]
      refine ⟨_, rfl, rfl, R, rfl, ?_⟩
      have h5 : N = 2 ∨ N = 3 := by omega
      have : R = 0 ∨ R = 1 ∨ R = 2 ∨ R = 3 := by omega
      rcases h5 with rfl | rfl <;> rcases this with rfl | rfl | rfl | rfl <;> decide
    obtain ⟨f, ef, ht, Q, hQ, q1, q2, q3⟩ := hop
    rw [ef]
    simp only [Option.bind_some]
    rw [hQ, Aln (by omega) q3]
    simp only [Option.bind_some]
    obtain ⟨⟨f2, d6⟩, e6, hf2, hd6⟩ := Bq (body := Co (N : Int) (j : Int) x5) (fun s => ∃ i : Nat, s.1 = (i : Int) ∧ i ≤ N ^ Q ∧ s.2.1.Table.length = N ^ Q - i ∧ Cur (k + 6 + 200 * (M - j) + 2 + 2 * (N ^ Q - i)) s.2.2) (fun s => s.1.toNat) (fun t => t.1.Table.length = N ^ Q ∧ Cur (k + 6 + 200 * (M - j) + 2 + 2 * N ^ Q) t.2) (fun s hs => by
     obtain ⟨x8, x7, x9⟩ := s
     obtain ⟨i, k1, k2, k3, k4⟩ := hs
     simp only at k1 k2 k3 k4
     subst k1
     unfold Co
     dsimp only
     by_cases hi : (i : Int) > 0
     ·left
      rw [if_pos hi]
      obtain ⟨v, d7, e7, hd7, _⟩ := Ce k4 (by omega) (N : Int)
      rw [e7]
      simp only [Option.bind_some]
      rw [Af (by simp; omega), Af (by unfold InI; omega)]
      exact ⟨_, rfl, ⟨i - 1, by simp only; omega, by omega, by simp; omega, hd7.mono (by omega)⟩, by simp only; omega⟩
     ·right
      rw [if_neg hi]
      exact ⟨_, rfl, by simp only; omega, k4.mono (by omega)⟩) (s := (((N ^ Q : Nat) : Int), f, d5)) ⟨N ^ Q, rfl, Nat.le_refl _, by simp [ht], hd5.mono (by omega)⟩
    rw [e6]
    simp only [Option.bind_some]
    rw [Af (by simp; omega), Af (by unfold InI; omega)]
    simp only at hf2 hd6
    refine ⟨_, rfl, ⟨j - 1, by simp only; omega, by omega, g3, by simp; omega, fun f hf => ?_, hd6.mono (by omega)⟩, by simp only; omega⟩
    rcases List.mem_append.1 hf with h' | h'
    ·exact g5 f h'
    ·rw [List.mem_singleton.1 h']; omega
   ·right
    rw [if_neg hj]
    exact ⟨_, rfl, ⟨g3, by simp only; omega, g5⟩, g6.mono (by omega)⟩) (s := ((M : Int), ({ Size := (N : Int), Ops := Al SOp } : SAlgebra), d3)) ⟨M, rfl, Nat.le_refl _, rfl, by simp [Al], fun f hf => by simp [Al] at hf, hd3.mono (by omega)⟩
  rw [e4]
  simp only [Option.bind_some]
  simp only at ha1 ha2 ha3 hd4
  have h0 : 0 < a.Ops.length := by omega
  have hf0 := ha3 _ (At h0)
  have ht : Ep a := ⟨by omega, fun f hf => by have := ha3 f hf; omega⟩
  have hset : ∀ {z : Int} {f : SOp}, f.Table.length ≤ 101 → Ep { Size := z, Ops := a.Ops.set (Int.toNat 0) f } := fun hf => ⟨by simp; omega, fun g hg => by
   rcases List.mem_or_eq_of_mem_set hg with h' | h'
   ·have := ha3 g h'; omega
   ·rw [h']; exact hf⟩
  obtain ⟨w, d5, e5, hd5, w0, _⟩ := Ce hd4 (by omega) 16
  rw [e5]
  simp only [Option.bind_some]
  by_cases c0 : w = 0
  ·rw [if_pos c0, Af (by unfold InI; omega)]
   obtain ⟨r, d6, e6, hd6, _⟩ := Hf hd5 (by omega) [0, 9, (N : Int) + 1] (by simp)
   rw [e6]
   exact ⟨_, _, rfl, hd6.mono (by omega), ht⟩
  rw [if_neg c0]
  by_cases c1 : w = 1
  ·rw [if_pos c1, Af (by omega), Af (by simp only [Int.toNat_zero, List.length_singleton]; omega)]
   exact ⟨_, _, rfl, hd5.mono (by omega), hset (by simp only [Int.toNat_zero, List.length_append, List.length_singleton]; omega)⟩
  rw [if_neg c1]
  by_cases c2 : w = 2
  ·rw [if_pos c2, Af (by omega)]
   obtain ⟨r, d6, e6, hd6, r0, r1⟩ := Ce hd5 (by omega) ((nth a.Ops (Int.toNat 0)).Table.length : Int)
   rw [e6]
   simp only [Option.bind_some]
   obtain ⟨s, d7, e7, hd7, _⟩ := Hf hd6 (by omega) [-1, (N : Int)] (by simp)
   rw [e7]
   simp only [Option.bind_some]
   simp only [Int.toNat_zero] at r1 ⊢
   rw [Af (by omega)]
   exact ⟨_, _, rfl, hd7.mono (by omega), hset (by simp only [List.length_set]; omega)⟩
  rw [if_neg c2]
  by_cases c3 : w = 3
  ·rw [if_pos c3]
   obtain ⟨r, d6, e6, hd6, _⟩ := Hf hd5 (by omega) [-1, 4] (by simp)
   rw [e6]
   simp only [Option.bind_some]
   rw [Af (by omega)]
   exact ⟨_, _, rfl, hd6.mono (by omega), hset (by simp only [Int.toNat_zero]; omega)⟩
  rw [if_neg c3]
  by_cases c4 : w = 4
  ·rw [if_pos c4]
   obtain ⟨⟨a2, d6⟩, e6, ht2, hd6⟩ := Bq (body := Cr (N : Int)) (fun s => s.1.Ops.length ≤ 5 ∧ (∀ f ∈ s.1.Ops, f.Table.length ≤ 64) ∧ Cur (k + 502 + 2 * s.1.Ops.length) s.2) (fun s => 5 - s.1.Ops.length) (fun t => Ep t.1 ∧ Cur (k + 600) t.2) (fun s hs => by
    obtain ⟨x5, x1⟩ := s
    obtain ⟨g1, g2, g3⟩ := hs
    simp only at g1 g2 g3
    unfold Cr
    dsimp only
    obtain ⟨r, d7, e7, hd7, r0, r1⟩ := Ce g3 (by omega) 2
    rw [e7]
    simp only [Option.bind_some]
    rw [Af (by unfold InI; omega)]
    by_cases hl : (x5.Ops.length : Int) < 4 + r
    ·left
     rw [if_pos hl, Af (by omega), Af (by simp; omega)]
     refine ⟨_, rfl, ⟨by simp; omega, fun f hf => ?_, hd7.mono (by simp; omega)⟩, by simp; omega⟩
     rcases List.mem_append.1 hf with h' | h'
     ·exact g2 f h'
     ·rw [List.mem_singleton.1 h']; simp; omega
    ·right
     rw [if_neg hl]
     exact ⟨_, rfl, ⟨by simp only; omega, fun f hf => by have := g2 f hf; omega⟩, hd7.mono (by omega)⟩) (s := (a, d5)) ⟨by simp only; omega, fun f hf => (ha3 f hf).2, hd5.mono (by omega)⟩
   rw [e6]
   exact ⟨_, _, rfl, hd6.mono (by omega), ht2⟩
  rw [if_neg c4]
  exact ⟨_, _, rfl, hd5.mono (by omega), ht⟩
 ·rw [if_neg hb]
  obtain ⟨r, d2, e2, hd2, _⟩ := Ce hd (by omega) 17
  rw [e2]
  simp only [Option.bind_some]
  obtain ⟨a, e3, ht⟩ := Am4 r
  rw [e3]
  exact ⟨_, _, rfl, hd2.mono (by omega), ht⟩
theorem Alc {code : List Int} (hc : ∀ x ∈ code, 0 ≤ x ∧ x ≤ 255) (hl : code.length ≤ 65536) : Cur 0 ({ code := code, at_ := 0, seed := 0 } : Sl1Cur) := ⟨hc, hl, Int.le_refl _, Int.le_refl _⟩
end Go.Proofs.Ytiakjbigaaanhaa.Ax
namespace Go.Proofs.Ytiakjbigaaanhaa.Ax
open Go Classical
theorem Al8 {xs : List Int} (h : xs.length ≤ LIM) : Ei xs = some xs := by
 unfold Ei
 rw [Af (by show 0 + xs.length ≤ _; omega)]; rfl
theorem Aga {xs : List Int} (h : xs.length ≤ LIM) : Gm xs xs = some true := by
 have hL := Aw
 unfold Gm
 rw [if_neg (by simp)]
 have := Ca (body := Ee xs xs) (fun i => (i : Int)) xs.length (.inr ()) (fun i hi => by
  unfold Ee
  rw [if_pos (by omega)]
  repeat rw [Af (by first | omega | (unfold InI; omega))]
  rw [if_neg (by simp)]
  repeat rw [Af (by first | omega | (unfold InI; omega))]
  rfl) (by
  unfold Ee
  rw [if_neg (by omega)])
 have h0 : Am (Ee xs xs) 0 = some (.inr ()) := this
 rw [h0]; rfl
def Vp (a b : SAlgebra) (f : List Int) (n m i k : Nat) : Prop := i < a.Ops.length ∧ k < (nth a.Ops i).Table.length ∧ B5 a b f n m i k ∧
 (∀ j, j < i → ∀ l, l < (nth a.Ops j).Table.length → ¬ B5 a b f n m j l) ∧ ∀ l, l < k → ¬ B5 a b f n m i l
section
variable {a b : SAlgebra} {f : List Int} {n m : Nat}
theorem Anw {i k i' k' : Nat} (h : Vp a b f n m i k) (h' : Vp a b f n m i' k') : i = i' ∧ k = k' := by
 obtain ⟨h1, h2, h3, h4, h5⟩ := h
 obtain ⟨g1, g2, g3, g4, g5⟩ := h'
 have e : i = i' := by
  rcases Nat.lt_trichotomy i i' with hl | hl | hl
  ·exact absurd h3 (g4 i hl k h2)
  ·exact hl
  ·exact absurd g3 (h4 i' hl k' g2)
 subst e
 refine ⟨rfl, ?_⟩
 rcases Nat.lt_trichotomy k k' with hl | hl | hl
 ·exact absurd h3 (g5 k hl)
 ·exact hl
 ·exact absurd g3 (h5 k' hl)
theorem Vp.faulty {i k : Nat} (h : Vp a b f n m i k) : faulty a b f n m := ⟨i, h.1, k, h.2.1, h.2.2.1⟩
theorem Age {τ1 τ2 τ : Type} (body1 : Int → Int → Option (Int ⊕ (τ1 ⊕ Unit))) (body2 : Int → Option (Int ⊕ (τ2 ⊕ Unit))) (res1 : Nat → Nat → τ1) (res2 : Nat → τ1 → τ2)
  (h1 : ∀ i, i < a.Ops.length → ∀ k, k < (nth a.Ops i).Table.length → body1 (i : Int) (k : Int) = if B5 a b f n m i k then some (.inr (.inl (res1 i k))) else some (.inl ((k + 1 : Nat) : Int)))
  (h1e : ∀ i, i < a.Ops.length → body1 (i : Int) ((nth a.Ops i).Table.length : Int) = some (.inr (.inr ())))
  (h2 : ∀ i, i < a.Ops.length → body2 (i : Int) = (Am (body1 (i : Int)) 0).bind fun t => match t with | .inl q => some (.inr (.inl (res2 i q))) | .inr _ => some (.inl ((i + 1 : Nat) : Int)))
  (h2e : body2 (a.Ops.length : Int) = some (.inr (.inr ()))) (out : τ2 ⊕ Unit → Option τ) :
  (∃ i k, Vp a b f n m i k ∧ (Am body2 0).bind out = out (.inl (res2 i (res1 i k)))) ∨ (¬ faulty a b f n m ∧ (Am body2 0).bind out = out (.inr ())) := by
 have inner : ∀ i, i < a.Ops.length → (∃ k, k < (nth a.Ops i).Table.length ∧ B5 a b f n m i k ∧ (∀ l, l < k → ¬ B5 a b f n m i l) ∧ Am (body1 (i : Int)) 0 = some (.inl (res1 i k))) ∨
   ((∀ k, k < (nth a.Ops i).Table.length → ¬ B5 a b f n m i k) ∧ Am (body1 (i : Int)) 0 = some (.inr ())) := by
  intro i hi
  exact Wf (body := body1 (i : Int)) (fun k => (k : Int)) (nth a.Ops i).Table.length (B5 a b f n m i) (fun k => .inl (res1 i k)) (.inr ()) (fun k hk hh => by rw [h1 i hi k hk, if_neg hh]) (fun k hk hh => by rw [h1 i hi k hk, if_pos hh]) (h1e i hi)
 have inner2 : ∀ i, ∃ q : Nat, i < a.Ops.length → (∃ k, k < (nth a.Ops i).Table.length ∧ B5 a b f n m i k) → q < (nth a.Ops i).Table.length ∧ B5 a b f n m i q ∧ (∀ l, l < q → ¬ B5 a b f n m i l) ∧ Am (body1 (i : Int)) 0 = some (.inl (res1 i q)) := by
  intro i
  by_cases hi : i < a.Ops.length
  ·rcases inner i hi with ⟨k, h3⟩ | ⟨hno, _⟩
   ·exact ⟨k, fun _ _ => h3⟩
   ·exact ⟨0, fun _ ⟨k, hk, hx⟩ => absurd hx (hno k hk)⟩
  ·exact ⟨0, fun hh => absurd hh hi⟩
 obtain ⟨q, hq⟩ : ∃ q : Nat → Nat, ∀ i, i < a.Ops.length → (∃ k, k < (nth a.Ops i).Table.length ∧ B5 a b f n m i k) → q i < (nth a.Ops i).Table.length ∧ B5 a b f n m i (q i) ∧ (∀ l, l < q i → ¬ B5 a b f n m i l) ∧ Am (body1 (i : Int)) 0 = some (.inl (res1 i (q i))) :=
  ⟨fun i => Classical.choose (inner2 i), fun i => Classical.choose_spec (inner2 i)⟩
 rcases Wf (body := body2) (fun i => (i : Int)) a.Ops.length (fun i => ∃ k, k < (nth a.Ops i).Table.length ∧ B5 a b f n m i k) (fun i => .inl (res2 i (res1 i (q i)))) (.inr ()) (fun i hi hh => by
   rw [h2 i hi]
   rcases inner i hi with ⟨k, hk, hx, _⟩ | ⟨_, e⟩
   ·exact absurd ⟨k, hk, hx⟩ hh
   ·rw [e]; rfl) (fun i hi hh => by
   rw [h2 i hi, (hq i hi hh).2.2.2]; rfl) h2e with ⟨i, hi, hh, hmin, e⟩ | ⟨hno, e⟩
 ·left
  obtain ⟨q1, q2, q3, _⟩ := hq i hi hh
  refine ⟨i, q i, ⟨hi, q1, q2, fun j hj l hl hx => hmin j hj ⟨l, hl, hx⟩, q3⟩, ?_⟩
  rw [show ((0 : Int)) = (((0 : Nat)) : Int) from rfl, e]; rfl
 ·right
  refine ⟨fun ⟨i, hi, hh⟩ => hno i hi hh, ?_⟩
  rw [show ((0 : Int)) = (((0 : Nat)) : Int) from rfl, e]; rfl
theorem Af9 (h : Homs a b f n m) : (∃ i k, Vp a b f n m i k ∧ E3 a b f = some ((i : Int), (k : Int))) ∨ (¬ faulty a b f n m ∧ E3 a b f = some (-1, 0)) := by
 obtain ⟨hn, hn8, _, hm⟩ := h.pos
 have hop4 := h.ga.2.2.1
 unfold E3
 refine Age (Dv a b f) (D4 a b f) (fun _ k => (k : Int)) (fun i q => (q, (i : Int))) ?_ ?_ ?_ ?_ _
 ·intro i hi k hk
  obtain ⟨r, hr, e1, e2, l1, l2, t1, l3⟩ := h.op hi
  have hops := h.ops
  have hv := t1 _ (At hk)
  have hlen := h.len
  obtain ⟨c, hc1, hc2⟩ := h.low (k := k) hr
  unfold Dv
  rw [Int.toNat_natCast, if_pos (by omega), Af (by omega), Int.toNat_natCast, Af (by omega), Af (by omega), e1, Amb hn hm h.sa h.sb h.len h.fin hr (by omega)]
  simp only [Option.bind_some]
  rw [Af (by rw [hc1, l2]; omega)]
  have er : (nth a.Ops i).Arity.toNat = r := by omega
  by_cases hF : B5 a b f n m i k
  ·have hF' := hF
   unfold B5 at hF'
   rw [er] at hF'
   rw [if_pos hF', if_pos hF]
  ·have hF' := hF
   unfold B5 at hF'
   rw [er] at hF'
   rw [if_neg hF', if_neg hF, Af (by unfold InI; omega)]; rfl
 ·intro i hi
  unfold Dv
  rw [Int.toNat_natCast, if_neg (by omega)]
 ·intro i hi
  unfold D4
  rw [if_pos (by omega), Af (by omega)]
  congr 1
  funext t
  cases t with
  | inl q => rfl
  | inr u => dsimp only; rw [Af (by unfold InI; omega)]; rfl
 ·unfold D4
  rw [if_neg (by omega)]
theorem Xw (h : Homs a b f n m) : (∃ i k, Vp a b f n m i k ∧ E4 a b f = some ((i : Int), Fi n (nth a.Ops i).Arity.toNat k, true)) ∨ (¬ faulty a b f n m ∧ E4 a b f = some (0, [], false)) := by
 obtain ⟨hn, hn8, _, hm⟩ := h.pos
 have hop4 := h.ga.2.2.1
 unfold E4
 refine Age (D2 a b f) (D0 a b f) (fun i k => Fi n (nth a.Ops i).Arity.toNat k) (fun i q => (q, (i : Int))) ?_ ?_ ?_ ?_ _
 ·intro i hi k hk
  obtain ⟨r, hr, e1, e2, l1, l2, t1, l3⟩ := h.op hi
  have hops := h.ops
  have hv := t1 _ (At hk)
  have hlen := h.len
  have hal := Hj n r k
  unfold D2
  rw [Af (by omega), Int.toNat_natCast, if_pos (by omega), Af (by omega), e1, h.sa, R4 hn hn8 hr (by omega)]
  simp only [Option.bind_some]
  rw [Af (by omega), Af (by omega), Int.toNat_natCast, Af (by omega), Afi (by omega) (by rw [h.len]; exact Tg hn r k)]
  simp only [Option.bind_some]
  rw [Amc hm h.sb (by omega) (by rw [List.length_map, hal]; exact hr) (Se hn h.len h.fin r k) (by rw [List.length_map, hal]; exact l2), Uw]
  simp only [Option.bind_some]
  have er : (nth a.Ops i).Arity.toNat = r := by omega
  by_cases hF : B5 a b f n m i k
  ·have hF' := hF
   unfold B5 at hF'
   rw [er] at hF'
   rw [if_pos hF', if_pos hF, Int.toNat_natCast]
  ·have hF' := hF
   unfold B5 at hF'
   rw [er] at hF'
   rw [if_neg hF', if_neg hF, Af (by unfold InI; omega)]; rfl
 ·intro i hi
  unfold D2
  rw [Af (by omega), Int.toNat_natCast, if_neg (by omega)]
 ·intro i hi
  unfold D0
  rw [if_pos (by omega)]
  congr 1
  funext t
  cases t with
  | inl q => rfl
  | inr u => dsimp only; rw [Af (by unfold InI; omega)]; rfl
 ·unfold D0
  rw [if_neg (by omega)]
end
def I2 (a b : SAlgebra) : Prop := Bk a ∧ Bk b ∧ Bx a = Bx b
def Aez (a b : SAlgebra) (f : List Int) : Prop := (f.length : Int) = a.Size ∧ Bh f b.Size
def My (a b : SAlgebra) (f : List Int) : Prop := I2 a b ∧ Aez a b f ∧ ¬ faulty a b f a.Size.toNat b.Size.toNat
section
variable {a b : SAlgebra} {f : List Int}
theorem Qc (h : I2 a b) (h2 : Aez a b f) : Homs a b f a.Size.toNat b.Size.toNat := by
 have h3 := h.1.1
 have h4 := h.2.1.1
 exact ⟨h.1, h.2.1, h.2.2, by omega, by omega, by have := h2.1; omega, by rw [show ((b.Size.toNat : Nat) : Int) = b.Size by omega]; exact h2.2⟩
theorem Arw (hl : f.length ≤ LIM) : Ib a b f = some (decide (Aez a b f)) := by
 unfold Ib
 by_cases h1 : (f.length : Int) = a.Size
 ·rw [if_pos h1, Yo _ _ hl]
  simp only [Option.bind_some]
  congr 1
  rw [decide_eq_decide]
  exact ⟨fun h => ⟨h1, h⟩, fun h => h.2⟩
 ·rw [if_neg h1, decide_eq_false (show ¬ Aez a b f from fun h => h1 h.1)]
theorem Arj (hb : Bk b) (hl : f.length ≤ LIM) : H5 a b f = some (decide (Aez a b f)) := by
 unfold H5
 have hL := Aw
 obtain ⟨m, hm⟩ := Int.eq_ofNat_of_zero_le (show 0 ≤ b.Size by have := hb.1; omega)
 by_cases h1 : (f.length : Int) = a.Size
 ·rw [if_pos h1, hm, Zq m f hl (by have := hb.2.1; omega), ← hm]
  simp only [Option.bind_some]
  congr 1
  rw [decide_eq_decide]
  exact ⟨fun h => ⟨h1, h⟩, fun h => h.2⟩
 ·rw [if_neg h1, decide_eq_false (show ¬ Aez a b f from fun h => h1 h.1)]
theorem Aeh (h : I2 a b) (hl : f.length ≤ LIM) : Fa a b f = some (decide (My a b f)) := by
 unfold Fa
 rw [Arw hl]
 simp only [Option.bind_some]
 by_cases hm : Aez a b f
 ·rw [decide_eq_true hm, if_pos rfl]
  rcases Af9 (Qc h hm) with ⟨i, k, hf, e⟩ | ⟨hf, e⟩
  ·rw [e, decide_eq_false (show ¬ My a b f from fun hh => hh.2.2 hf.faulty)]
   simp only [Option.bind_some]
   rw [decide_eq_false (by omega)]
  ·rw [e, decide_eq_true (show My a b f from ⟨h, hm, hf⟩)]
   rfl
 ·rw [decide_eq_false hm, if_neg (by simp), decide_eq_false (show ¬ My a b f from fun hh => hm hh.2.1)]
theorem Alo (h : I2 a b) (hl : f.length ≤ LIM) : Gg a b f = some (decide (My a b f)) := by
 unfold Gg
 rw [Arj h.2.1 hl]
 simp only [Option.bind_some]
 by_cases hm : Aez a b f
 ·rw [decide_eq_true hm, if_pos rfl]
  rcases Xw (Qc h hm) with ⟨i, k, hf, e⟩ | ⟨hf, e⟩
  ·rw [e, decide_eq_false (show ¬ My a b f from fun hh => hh.2.2 hf.faulty)]
   rfl
  ·rw [e, decide_eq_true (show My a b f from ⟨h, hm, hf⟩)]
   rfl
 ·rw [decide_eq_false hm, if_neg (by simp), decide_eq_false (show ¬ My a b f from fun hh => hm hh.2.1)]
noncomputable def Agf (a b : SAlgebra) (f : List Int) : Bool × Bool := if I2 a b then (decide (My a b f), true) else (false, false)
theorem Af6 (ha : Ek a) (hb : Ek b) (hl : f.length ≤ LIM) : H8 a b f = some (Agf a b f) ∧ Ju a b f = some (Agf a b f) := by
 unfold H8 Ju Agf
 rw [Yi ha hb, Wl ha hb]
 simp only [Option.bind_some]
 by_cases h : I2 a b
 ·rw [show (decide (Bk a ∧ Bk b ∧ Bx a = Bx b)) = true from decide_eq_true h, if_pos rfl, if_pos rfl, if_pos h, Aeh h hl, Alo h hl]
  exact ⟨rfl, rfl⟩
 ·rw [show (decide (Bk a ∧ Bk b ∧ Bx a = Bx b)) = false from decide_eq_false h, if_neg Bool.false_ne_true, if_neg Bool.false_ne_true, if_neg h]
  exact ⟨rfl, rfl⟩
theorem Ahw (ha : Ek a) (hb : Ek b) (hl : f.length ≤ LIM) : ∃ r, Gs a b f = some r ∧ Gx a b f = some r ∧ r.2.1.length ≤ 3 ∧
  ((r = (0, [], false) ∧ (I2 a b → Aez a b f → My a b f)) ∨ ∃ i k, I2 a b ∧ Aez a b f ∧ Vp a b f a.Size.toNat b.Size.toNat i k ∧ r = ((i : Int), Fi a.Size.toNat (nth a.Ops i).Arity.toNat k, true)) := by
 unfold Gs Gx
 rw [Yi ha hb, Wl ha hb]
 simp only [Option.bind_some]
 by_cases h : I2 a b
 ·rw [show (decide (Bk a ∧ Bk b ∧ Bx a = Bx b)) = true from decide_eq_true h, if_pos rfl, if_pos rfl, Arw hl, Arj h.2.1 hl]
  simp only [Option.bind_some]
  by_cases hm : Aez a b f
  ·have H := Qc h hm
   obtain ⟨hn, hn8, _, _⟩ := H.pos
   rw [decide_eq_true hm, if_pos rfl]
   simp only [Option.bind_some]
   rcases Af9 H with ⟨i, k, hf, e⟩ | ⟨hf, e⟩
   ·rcases Xw H with ⟨i', k', hf', e'⟩ | ⟨hf', _⟩
    ·obtain ⟨rfl, rfl⟩ := Anw hf hf'
     obtain ⟨r, hr, e1, _, l1, _, _, l3⟩ := H.op hf.1
     have er : (nth a.Ops i).Arity.toNat = r := by omega
     have hk := hf.2.1
     have hi := hf.1
     rw [e, e']
     simp only [Option.bind_some]
     rw [if_neg (by omega), Af (by omega), Int.toNat_natCast, H.sa, e1, At2 hn hn8 hr (by omega)]
     refine ⟨_, rfl, ?_, ?_, .inr ⟨i, k, h, hm, hf, ?_⟩⟩
     ·simp only [Int.toNat_natCast]
     ·simp only [Hj]; exact hr
     ·simp only [Int.toNat_natCast, er]
    ·exact absurd hf.faulty hf'
   ·rcases Xw H with ⟨i', k', hf', e'⟩ | ⟨_, e'⟩
    ·exact absurd hf'.faulty hf
    ·rw [e, e']
     exact ⟨(0, [], false), rfl, rfl, by simp, .inl ⟨rfl, fun _ _ => ⟨h, hm, hf⟩⟩⟩
  ·rw [decide_eq_false hm, if_neg (by simp)]
   exact ⟨(0, [], false), rfl, rfl, by simp, .inl ⟨rfl, fun _ hh => absurd hh hm⟩⟩
 ·rw [show (decide (Bk a ∧ Bk b ∧ Bx a = Bx b)) = false from decide_eq_false h, if_neg Bool.false_ne_true, if_neg Bool.false_ne_true]
  exact ⟨(0, [], false), rfl, rfl, by simp, .inl ⟨rfl, fun hh => absurd hh h⟩⟩
end
def Ge (f g : List Int) : List Int := f.map fun x => nth g x.toNat
theorem Asd {f g : List Int} (hl : f.length ≤ LIM) (hx : Bh f g.length) : Hi f g = some (Ge f g) := by
 have hL := Aw
 unfold Hi
 rw [Af (by omega), Int.toNat_natCast]
 have key := Ca (body := C3 f g) (fun i => ((i : Int), (Ge f g).take i ++ List.replicate (f.length - i) 0)) f.length (Ge f g) (fun i hi => by
  unfold C3
  dsimp only
  have hv := hx _ (At hi)
  have hcl : (Ge f g).length = f.length := by simp [Ge]
  rw [if_pos (by omega), Af (by omega), Int.toNat_natCast, Af (by omega), Af (by simp; omega), Af (by unfold InI; omega), Ff (by omega), show f.length - i = (f.length - (i + 1)) + 1 by omega, List.replicate_succ]
  have e : nth (Ge f g) i = nth g (nth f i).toNat := Mj _ hi
  rw [e]
  congr 3
  have h1 : ((Ge f g).take i).length = i := by simp; omega
  rw [List.set_append, if_neg (by omega), h1, Nat.sub_self, List.set_cons_zero, List.append_assoc]
  rfl) (by
  unfold C3
  dsimp only
  rw [if_neg (by omega), Nat.sub_self, List.take_of_length_le (by simp [Ge])]
  simp)
 have key' : Am (C3 f g) (0, List.replicate f.length 0) = some (Ge f g) := by simpa using key
 rw [key']; rfl
theorem Aoa {f xs : List Int} (hl : xs.length ≤ 1048576) (hx : Bh xs f.length) : Cf f xs = some (Ge xs f) := by
 have hL := Aw
 unfold Cf
 have key := Ca (body := Bj f xs) (fun i => ((i : Int), Ge (xs.take i) f)) xs.length (Ge xs f) (fun i hi => by
  unfold Bj
  dsimp only
  have hv := hx _ (At hi)
  rw [if_pos (by omega), Af (by omega), Int.toNat_natCast, Af (by omega), Af (by simp [Ge]; omega), Af (by unfold InI; omega), Ff hi]
  simp [Ge]) (by
  unfold Bj
  dsimp only
  rw [if_neg (by omega), List.take_length])
 have key' : Am (Bj f xs) (0, Al Int) = _ := key
 rw [key']; rfl
theorem Ape {n m l : Nat} (hn : 0 < n) {f g : List Int} (hf : f.length = n) (hfx : Bh f m) (hm : 0 < m) : ∀ r k, ∃ c : Nat, Ls n m f r k = (c : Int) ∧ Ls n l (Ge f g) r k = Ls m l g r c := by
 intro r
 induction r with
 | zero => intro k; exact ⟨0, rfl, rfl⟩
 | succ r ih =>
   intro k
   obtain ⟨c, h1, h2⟩ := ih (k / n)
   have hk := Nat.mod_lt k hn
   have hv := hfx _ (At (show k % n < f.length by omega))
   obtain ⟨d, hd⟩ := Int.eq_ofNat_of_zero_le hv.1
   refine ⟨c * m + d, ?_, ?_⟩
   ·simp only [Ls, h1, hd]; push_cast; rfl
   ·have hdm : d < m := by omega
    have e1 : (c * m + d) / m = c := by rw [Nat.mul_comm, Nat.mul_add_div hm, Nat.div_eq_of_lt hdm]; omega
    have e2 : (c * m + d) % m = d := by rw [Nat.mul_comm, Nat.mul_add_mod, Nat.mod_eq_of_lt hdm]
    simp only [Ls, h2, e1, e2]
    have e3 : nth (Ge f g) (k % n) = nth g (nth f (k % n)).toNat := Mj _ (by omega)
    rw [e3, hd, Int.toNat_natCast]
section
variable {a b c : SAlgebra} {f g : List Int}
theorem At9 (h1 : My a b f) (h2 : My b c g) : My a c (Ge f g) := by
 have hg : g.length = b.Size.toNat := by have := h2.2.1.1; have := h2.1.1.1; omega
 have H1 := Qc h1.1 h1.2.1
 have H2 := Qc h2.1 h2.2.1
 obtain ⟨hn, hn8, hm, hm8⟩ := H1.pos
 refine ⟨⟨h1.1.1, h2.1.2.1, h1.1.2.2.trans h2.1.2.2⟩, ⟨by simp only [Ge, List.length_map]; exact h1.2.1.1, ?_⟩, ?_⟩
 ·intro y hy
  obtain ⟨x, hx, rfl⟩ := List.mem_map.1 hy
  have h3 := h1.2.1.2 x hx
  exact h2.2.1.2 _ (At (by omega))
 ·rintro ⟨i, hi, k, hk, hF⟩
  have hib : i < b.Ops.length := by rw [← H1.ops]; exact hi
  obtain ⟨r, hr, e1, e2, l1, l2, t1, l3⟩ := H1.op hi
  obtain ⟨p, hp1, hp2⟩ := H1.low (r := r) (k := k) hr
  have er : (nth a.Ops i).Arity.toNat = r := by omega
  have er2 : (nth b.Ops i).Arity.toNat = r := by omega
  have n1 : ¬ B5 a b f a.Size.toNat b.Size.toNat i k := fun hx => h1.2.2 ⟨i, hi, k, hk, hx⟩
  have n2 : ¬ B5 b c g b.Size.toNat c.Size.toNat i p := fun hx => h2.2.2 ⟨i, hib, p, by omega, hx⟩
  unfold B5 at hF n1 n2
  rw [er] at hF n1
  rw [er2] at n2
  have n1 := Classical.not_not.1 n1
  have n2 := Classical.not_not.1 n2
  rw [hp1, Int.toNat_natCast] at n1
  obtain ⟨q, hq1, hq2⟩ := Ape hn H1.len H1.fin hm r k (g := g) (l := c.Size.toNat)
  rw [hp1] at hq1
  have hq1 := Int.ofNat.inj hq1
  subst hq1
  refine hF ?_
  have hv := t1 _ (At hk)
  have hfl := H1.len
  have e3 : nth (Ge f g) (nth (nth a.Ops i).Table k).toNat = nth g (nth f (nth (nth a.Ops i).Table k).toNat).toNat := Mj _ (by omega)
  rw [e3, n1, n2, hq2]
noncomputable def Acl (a b c : SAlgebra) (f g : List Int) : List Int × Bool := if My a b f ∧ My b c g then (Ge f g, true) else ([], false)
theorem Ss (ha : Ek a) (hb : Ek b) (hc : Ek c) (hf : f.length ≤ 1048576) (hg : g.length ≤ 1048576) : Dh a b c f g = some (Acl a b c f g) ∧ E1 a b c f g = some (Acl a b c f g) := by
 have hL := Aw
 unfold Dh E1 Acl
 rw [Yi ha hb, Wl ha hb]
 simp only [Option.bind_some]
 by_cases h1 : I2 a b
 ·rw [show (decide (Bk a ∧ Bk b ∧ Bx a = Bx b)) = true from decide_eq_true h1, if_pos rfl, if_pos rfl, Yi hb hc, Wl hb hc]
  simp only [Option.bind_some]
  by_cases h2 : I2 b c
  ·rw [show (decide (Bk b ∧ Bk c ∧ Bx b = Bx c)) = true from decide_eq_true h2, if_pos rfl, if_pos rfl, Aeh h1 (by omega), Alo h1 (by omega)]
   simp only [Option.bind_some]
   by_cases h3 : My a b f
   ·rw [decide_eq_true h3, if_pos rfl, if_pos rfl, Aeh h2 (by omega), Alo h2 (by omega)]
    simp only [Option.bind_some]
    by_cases h4 : My b c g
    ·have hx : Bh f g.length := by
      have := h4.2.1.1
      rw [this]; exact h3.2.1.2
     rw [decide_eq_true h4, if_pos rfl, if_pos rfl, if_pos ⟨h3, h4⟩, Asd (by omega) hx, Aoa hf hx]
     exact ⟨rfl, rfl⟩
    ·rw [decide_eq_false h4, if_neg Bool.false_ne_true, if_neg Bool.false_ne_true, if_neg (fun hh => h4 hh.2)]
     exact ⟨rfl, rfl⟩
   ·rw [decide_eq_false h3, if_neg Bool.false_ne_true, if_neg Bool.false_ne_true, if_neg (fun hh => h3 hh.1)]
    exact ⟨rfl, rfl⟩
  ·rw [show (decide (Bk b ∧ Bk c ∧ Bx b = Bx c)) = false from decide_eq_false h2, if_neg Bool.false_ne_true, if_neg Bool.false_ne_true, if_neg (fun hh => h2 hh.2.1)]
   exact ⟨rfl, rfl⟩
 ·rw [show (decide (Bk a ∧ Bk b ∧ Bx a = Bx b)) = false from decide_eq_false h1, if_neg Bool.false_ne_true, if_neg Bool.false_ne_true, if_neg (fun hh => h1 hh.1.1)]
  exact ⟨rfl, rfl⟩
end
theorem Aqp {f : List Int} {n : Nat} (h : Perm f n) (hn : n ≤ 1048576) : ∃ j, Am (Dz f) (0, List.replicate n 0) = some j ∧ j.length = n ∧ ∀ x, x < n → nth j (nth f x).toNat = (x : Int) := by
 obtain ⟨hl, hx, hu⟩ := h
 subst hl
 obtain ⟨t, ht, h1, h2⟩ := Bq (body := Dz f) (fun s => ∃ i : Nat, s.1 = (i : Int) ∧ i ≤ f.length ∧ s.2.length = f.length ∧ ∀ x, x < i → nth s.2 (nth f x).toNat = (x : Int)) (fun s => f.length - s.1.toNat) (fun t => t.length = f.length ∧ ∀ x, x < f.length → nth t (nth f x).toNat = (x : Int)) (by
  rintro ⟨i, ys⟩ ⟨i, rfl, b2, b3, b4⟩
  dsimp only at b3 b4
  unfold Dz
  dsimp only
  by_cases hi : i < f.length
  ·have hv := hx _ (At hi)
   rw [if_pos (by omega), Af (by omega), Int.toNat_natCast, Af (by omega), Af (by unfold InI; omega)]
   refine .inl ⟨_, rfl, ⟨i + 1, rfl, by omega, by simpa using b3, fun x hxi => ?_⟩, by dsimp only; omega⟩
   dsimp only
   by_cases hxi2 : x = i
   ·subst hxi2
    rw [Qk _ _ _ _ (by omega), if_pos rfl]
   ·have hne : (nth f x).toNat ≠ (nth f i).toNat := by
     intro he
     have hvx := hx _ (At (show x < f.length by omega))
     refine hu i hi ?_
     rw [show nth f i = nth f x by omega]
     exact List.mem_take_iff_getElem.2 ⟨x, by omega, by rw [Ft (by omega)]⟩
    have hvx := hx _ (At (show x < f.length by omega))
    rw [Qk _ _ _ _ (by omega), if_neg (by omega)]
    exact b4 x (by omega)
  ·rw [if_neg (by omega)]
   have : i = f.length := by omega
   subst this
   exact .inr ⟨_, rfl, b3, b4⟩) (s := (0, List.replicate f.length 0)) ⟨0, rfl, by omega, by simp, fun x hx => by omega⟩
 exact ⟨t, ht, h1, h2⟩
section
variable {a b : SAlgebra} {f : List Int}
theorem Atc {n : Nat} {j : List Int} (h : Perm f n) (hjf : ∀ x, x < n → nth j (nth f x).toNat = (x : Int)) : ∀ y, y < n → ∃ x, x < n ∧ nth j y = (x : Int) ∧ nth f x = (y : Int) := by
 intro y hy
 obtain ⟨x, hx, e⟩ := h.onto hy
 refine ⟨x, hx, ?_, e⟩
 have := hjf x hx
 rw [e, Int.toNat_natCast] at this
 exact this
theorem Ayd {n : Nat} {j : List Int} (h : Perm f n) (hj : j.length = n) (hjf : ∀ x, x < n → nth j (nth f x).toNat = (x : Int)) : Bh j n := by
 intro v hv
 obtain ⟨i, hi, e⟩ := List.getElem_of_mem hv
 obtain ⟨x, hx, e2, _⟩ := Atc h hjf i (by omega)
 have e3 : v = nth j i := by rw [Ft hi, e]
 omega
theorem Axn {j : List Int} (h : My a b f) (hS : a.Size = b.Size) (hP : Perm f a.Size.toNat) (hj : j.length = a.Size.toNat) (hjf : ∀ x, x < a.Size.toNat → nth j (nth f x).toNat = (x : Int)) : My b a j := by
 have H := Qc h.1 h.2.1
 obtain ⟨hn, hn8, _, _⟩ := H.pos
 have hSz := H.sa
 have hin := Ayd hP hj hjf
 refine ⟨⟨h.1.2.1, h.1.1, h.1.2.2.symm⟩, ⟨by omega, by rw [← hSz] at hin; exact hin⟩, ?_⟩
 rintro ⟨i, hi, k, hk, hF⟩
 have hia : i < a.Ops.length := by rw [H.ops]; exact hi
 obtain ⟨r, hr, e1, e2, l1, l2, t1, l3⟩ := H.op hia
 have er : (nth a.Ops i).Arity.toNat = r := by omega
 have er2 : (nth b.Ops i).Arity.toNat = r := by omega
 have hbn : b.Size.toNat = a.Size.toNat := by rw [hS]
 rw [hbn] at hF l2
 obtain ⟨k', hk', ek⟩ := Auc hP hn r k (by omega)
 have n1 : ¬ B5 a b f a.Size.toNat b.Size.toNat i k' := fun hx => h.2.2 ⟨i, hia, k', by omega, hx⟩
 rw [hbn] at n1
 unfold B5 at hF n1
 rw [er] at n1
 rw [er2] at hF
 have n1 := Classical.not_not.1 n1
 rw [ek, Int.toNat_natCast] at n1
 refine hF ?_
 rw [← n1]
 have hv := t1 _ (At (show k' < (nth a.Ops i).Table.length by omega))
 have h3 := hjf (nth (nth a.Ops i).Table k').toNat (by omega)
 rw [h3]
 have e3 : Ls a.Size.toNat a.Size.toNat j r k = (k' : Int) := by
  have key : ∀ r k', k' < a.Size.toNat ^ r → ∀ c : Nat, Ls a.Size.toNat a.Size.toNat f r k' = (c : Int) → Ls a.Size.toNat a.Size.toNat j r c = (k' : Int) := by
   intro r
   induction r with
   | zero => intro k' hk' c _; simp at hk'; subst hk'; rfl
   | succ r ih =>
     intro k' hk' c hc
     obtain ⟨d, hd1, hd2⟩ := At0 hP hn hn8 (r := 0) (by omega) 0
     have hq := Nat.mod_lt k' hn
     have hfv := hP.fin _ (At (show k' % a.Size.toNat < f.length by rw [hP.len]; exact hq))
     obtain ⟨y, hy⟩ := Int.eq_ofNat_of_zero_le hfv.1
     have hdiv : k' / a.Size.toNat < a.Size.toNat ^ r := Nat.div_lt_of_lt_mul (by rw [Nat.mul_comm, ← Nat.pow_succ]; exact hk')
     obtain ⟨e0, he0⟩ : ∃ e0 : Nat, Ls a.Size.toNat a.Size.toNat f r (k' / a.Size.toNat) = (e0 : Int) := by
      obtain ⟨z, hz, _⟩ := Ape hn hP.len hP.fin hn r (k' / a.Size.toNat) (g := f) (l := a.Size.toNat)
      exact ⟨z, hz⟩
     have ih2 := ih _ hdiv e0 he0
     simp only [Ls, he0, hy] at hc
     have hc2 : c = e0 * a.Size.toNat + y := by
      have : ((e0 * a.Size.toNat + y : Nat) : Int) = (c : Int) := by rw [← hc]; push_cast; rfl
      omega
     have hyn : y < a.Size.toNat := by omega
     have q1 : c / a.Size.toNat = e0 := by rw [hc2, Nat.mul_comm, Nat.mul_add_div hn, Nat.div_eq_of_lt hyn]; omega
     have q2 : c % a.Size.toNat = y := by rw [hc2, Nat.mul_comm, Nat.mul_add_mod, Nat.mod_eq_of_lt hyn]
     simp only [Ls, q1, q2, ih2]
     have h4 := hjf (k' % a.Size.toNat) hq
     rw [hy] at h4
     simp only [Int.toNat_natCast] at h4
     have h5 : nth j y = ((k' % a.Size.toNat : Nat) : Int) := h4
     rw [h5]
     rw [← Int.natCast_mul, ← Int.natCast_add, Nat.mul_comm, Nat.div_add_mod]
  exact key r k' (by omega) k ek
 rw [e3, Int.toNat_natCast]
 omega
end
end Go.Proofs.Ytiakjbigaaanhaa.Ax
namespace Go.Proofs.Ytiakjbigaaanhaa.Ax
open Go Classical
def okF (n m : Nat) (f : List Int) : Prop := f.length = n ∧ ∀ x ∈ f, -1 ≤ x ∧ x < m
def Fu (f : List Int) : Nat := f.countP fun x => decide (x < 0)
theorem okF.set {n m : Nat} {f : List Int} (h : okF n m f) {i : Nat} {y : Int} (hy : 0 ≤ y ∧ y < m) : okF n m (f.set i y) := by
 refine ⟨by rw [List.length_set]; exact h.1, fun x hx => ?_⟩
 rcases List.mem_or_eq_of_mem_set hx with h1 | h1
 ·exact h.2 x h1
 ·subst h1; omega
theorem Aj9 {f : List Int} {i : Nat} (hi : i < f.length) (hf : nth f i < 0) {y : Int} (hy : 0 ≤ y) : Fu (f.set i y) < Fu f := by
 unfold Fu
 rw [List.countP_set hi]
 have e : f[i] = nth f i := (Ft hi).symm
 have hp : 0 < f.countP (fun x => decide (x < 0)) := List.countP_pos_iff.2 ⟨nth f i, At hi, decide_eq_true hf⟩
 rw [e, if_pos (decide_eq_true hf), if_neg (by simp; omega)]
 omega
section
variable {a b : SAlgebra} {n m : Nat}
structure Pair (a b : SAlgebra) (n m : Nat) : Prop where
 al : I2 a b
 sa : a.Size = n
 sb : b.Size = m
theorem Pair.pos (h : Pair a b n m) : 0 < n ∧ n ≤ 8 ∧ 0 < m ∧ m ≤ 8 := by
 have := h.sa; have := h.sb; have := h.al.1.1; have := h.al.1.2.1; have := h.al.2.1.1; have := h.al.2.1.2.1
 omega
theorem Pair.op (h : Pair a b n m) {i : Nat} (hi : i < a.Ops.length) : i < b.Ops.length ∧ ∃ r : Nat, r ≤ 3 ∧ (nth a.Ops i).Arity = r ∧ (nth a.Ops i).Table.length = n ^ r ∧ (nth b.Ops i).Table.length = m ^ r ∧ Bh (nth a.Ops i).Table n ∧ Bh (nth b.Ops i).Table m ∧ n ^ r ≤ 512 := by
 obtain ⟨hn, hn8, hm, hm8⟩ := h.pos
 have H : Homs a b (List.replicate n 0) n m := ⟨h.al.1, h.al.2.1, h.al.2.2, h.sa, h.sb, by simp, fun x hx => by rw [(List.mem_replicate.1 hx).2]; omega⟩
 obtain ⟨r, h1, h2, h3, h4, h5, h6, h7⟩ := H.op hi
 have hib : i < b.Ops.length := by rw [← H.ops]; exact hi
 have hb := h.al.2.1.2.2.2 _ (At hib)
 have hmm : b.Size.toNat = m := by have := h.sb; omega
 exact ⟨hib, r, h1, h2, h4, h5, h6, by have := hb.2.2.2; rwa [hmm] at this, h7⟩
theorem Au3 (h : Pair a b n m) {i : Nat} (hi : i < a.Ops.length) {f : List Int} (hf : okF n m f) (c : Bool) (K : Nat) (hK : Fu f ≤ K) (hc : c = true → Fu f < K) :
  ∃ t, Am (D3 a b (i : Int)) (0, c, f) = some t ∧ (∀ q, t = .inr q → okF n m q.2 ∧ Fu q.2 ≤ K ∧ (q.1 = true → Fu q.2 < K)) := by
 obtain ⟨hn, hn8, hm, hm8⟩ := h.pos
 obtain ⟨hib, r, hr, e1, l1, l2, t1, t2, l3⟩ := h.op hi
 have h4 := h.al.1.2.2.1
 refine Bq (body := D3 a b (i : Int)) (fun s => ∃ k : Nat, s.1 = (k : Int) ∧ k ≤ (nth a.Ops i).Table.length ∧ okF n m s.2.2 ∧ Fu s.2.2 ≤ K ∧ (s.2.1 = true → Fu s.2.2 < K)) (fun s => (nth a.Ops i).Table.length - s.1.toNat) (fun t => ∀ q, t = .inr q → okF n m q.2 ∧ Fu q.2 ≤ K ∧ (q.1 = true → Fu q.2 < K)) ?_ ⟨0, rfl, Nat.zero_le _, hf, hK, hc⟩
 rintro ⟨x, c, g⟩ ⟨k, rfl, g1, g2, g3, g4⟩
 dsimp only at g2 g3 g4
 unfold D3
 dsimp only
 rw [Af (by omega), Int.toNat_natCast]
 by_cases hk : k < (nth a.Ops i).Table.length
 ·have hv := t1 _ (At hk)
  have hal := Hj n r k
  have hgl := g2.1
  have hai := Tg hn r k
  rw [if_pos (by omega), Af (by omega), e1, h.sa, R4 hn hn8 hr (by omega)]
  simp only [Option.bind_some]
  rw [Afi (by omega) (by rw [hgl]; exact hai)]
  simp only [Option.bind_some]
  rw [Aeg _ _ (by have := Aw; rw [List.length_map]; omega)]
  simp only [Option.bind_some]
  by_cases hop : (-1 : Int) ∈ (Fi n r k).map fun x => nth g x.toNat
  ·rw [decide_eq_true hop, if_pos rfl, Af (by unfold InI; omega)]
   exact .inl ⟨_, rfl, ⟨k + 1, rfl, by omega, g2, g3, g4⟩, by first | omega | (dsimp only; omega)⟩
  ·rw [decide_eq_false hop, if_neg (by simp), Af (by omega), Af (by omega), Int.toNat_natCast]
   have hin : Bh ((Fi n r k).map fun x => nth g x.toNat) m := by
    intro y hy
    obtain ⟨x, hx, rfl⟩ := List.mem_map.1 hy
    have h1 := hai x hx
    have h2 := g2.2 _ (At (show x.toNat < g.length by omega))
    have h3 : nth g x.toNat ≠ -1 := fun he => hop (List.mem_map.2 ⟨x, hx, he⟩)
    omega
   have hhl : ((Fi n r k).map fun x => nth g x.toNat).length = r := by rw [List.length_map, hal]
   obtain ⟨p, hp1, hp2, _⟩ := Lk hm8 (xs := (Fi n r k).map fun x => nth g x.toNat) (by omega) hin
   rw [hhl] at hp2
   rw [Amc hm8 h.sb hib (by omega) hin (by rw [hhl]; exact l2), hp1, Int.toNat_natCast]
   simp only [Option.bind_some]
   have hw := t2 _ (At (show p < (nth b.Ops i).Table.length by omega))
   rw [Af (by omega)]
   by_cases hs : nth g (nth (nth a.Ops i).Table k).toNat ≥ 0
   ·rw [if_pos hs, Af (by omega)]
    by_cases hne : nth g (nth (nth a.Ops i).Table k).toNat ≠ nth (nth b.Ops i).Table p
    ·rw [if_pos hne]
     exact .inr ⟨_, rfl, fun q hq => by cases hq⟩
    ·rw [if_neg hne]
     simp only [Option.bind_some]
     rw [Af (by omega), if_neg (by omega), Af (by unfold InI; omega)]
     exact .inl ⟨_, rfl, ⟨k + 1, rfl, by omega, g2, g3, g4⟩, by first | omega | (dsimp only; omega)⟩
   ·rw [if_neg hs]
    simp only [Option.bind_some]
    rw [Af (by omega), if_pos (by omega), Af (by omega), Af (by unfold InI; omega)]
    have hlt := Aj9 (f := g) (i := (nth (nth a.Ops i).Table k).toNat) (by omega) (by omega) hw.1
    exact .inl ⟨_, rfl, ⟨k + 1, rfl, by omega, g2.set hw, by first | omega | (dsimp only; omega), fun _ => by first | omega | (dsimp only; omega)⟩, by first | omega | (dsimp only; omega)⟩
 ·rw [if_neg (by omega)]
  exact .inr ⟨_, rfl, fun q hq => by cases hq; exact ⟨g2, g3, g4⟩⟩
theorem Atv (h : Pair a b n m) {f : List Int} (hf : okF n m f) (K : Nat) (hK : Fu f ≤ K) :
  ∃ t, Am (D1 a b) (0, false, f) = some t ∧ (∀ q, t = .inr q → okF n m q.2 ∧ Fu q.2 ≤ K ∧ (q.1 = true → Fu q.2 < K)) := by
 have h4 := h.al.1.2.2.1
 refine Bq (body := D1 a b) (fun s => ∃ i : Nat, s.1 = (i : Int) ∧ i ≤ a.Ops.length ∧ okF n m s.2.2 ∧ Fu s.2.2 ≤ K ∧ (s.2.1 = true → Fu s.2.2 < K)) (fun s => a.Ops.length - s.1.toNat) (fun t => ∀ q, t = .inr q → okF n m q.2 ∧ Fu q.2 ≤ K ∧ (q.1 = true → Fu q.2 < K)) ?_ ⟨0, rfl, Nat.zero_le _, hf, hK, fun hh => by cases hh⟩
 rintro ⟨x, c, g⟩ ⟨i, rfl, g1, g2, g3, g4⟩
 dsimp only at g2 g3 g4
 unfold D1
 dsimp only
 by_cases hi : i < a.Ops.length
 ·obtain ⟨t, e, ht⟩ := Au3 h hi g2 c K g3 g4
  rw [if_pos (by omega), e]
  simp only [Option.bind_some]
  cases t with
  | inl u => exact .inr ⟨_, rfl, fun q hq => by cases hq⟩
  | inr q =>
    obtain ⟨p1, p2, p3⟩ := ht q rfl
    dsimp only
    rw [Af (by unfold InI; omega)]
    exact .inl ⟨_, rfl, ⟨i + 1, rfl, by omega, p1, p2, p3⟩, by first | omega | (dsimp only; omega)⟩
 ·rw [if_neg (by omega)]
  exact .inr ⟨_, rfl, fun q hq => by cases hq; exact ⟨g2, g3, g4⟩⟩
theorem Anb (h : Pair a b n m) {f : List Int} (hf : okF n m f) : ∃ r, Gf a b f = some r ∧ (r.2 = true → okF n m r.1 ∧ Fu r.1 ≤ Fu f) := by
 obtain ⟨hn, hn8, hm, hm8⟩ := h.pos
 have hL := Aw
 unfold Gf
 rw [Al8 (by have := hf.1; omega)]
 simp only [Option.bind_some]
 obtain ⟨t, e, ht⟩ := Bq (body := Fm a b) (fun s => okF n m s.2 ∧ Fu s.2 ≤ Fu f) (fun s => 2 * Fu s.2 + (if s.1 = true then 1 else 0)) (fun t => ∀ q, t = .inr q → okF n m q ∧ Fu q ≤ Fu f) (by
  rintro ⟨c, g⟩ ⟨g1, g2⟩
  dsimp only at g1 g2
  unfold Fm
  dsimp only
  by_cases hc : c = true
  ·rw [if_pos hc]
   obtain ⟨t, e, ht⟩ := Atv h g1 (Fu g) (Nat.le_refl _)
   rw [e]
   simp only [Option.bind_some]
   cases t with
   | inl u => exact .inr ⟨_, rfl, fun q hq => by cases hq⟩
   | inr q =>
     obtain ⟨p1, p2, p3⟩ := ht q rfl
     refine .inl ⟨_, rfl, ⟨p1, by first | omega | (dsimp only; omega)⟩, ?_⟩
     dsimp only
     rw [if_pos hc]
     by_cases hq : q.1 = true
     ·have := p3 hq
      rw [if_pos hq]; omega
     ·rw [if_neg hq]; omega
  ·rw [if_neg hc]
   exact .inr ⟨_, rfl, fun q hq => by cases hq; exact ⟨g1, g2⟩⟩) (s := (true, f)) ⟨hf, Nat.le_refl _⟩
 rw [e]
 simp only [Option.bind_some]
 cases t with
 | inl u => exact ⟨_, rfl, fun hh => by cases hh⟩
 | inr q => exact ⟨_, rfl, fun _ => ht q rfl⟩
theorem Ars {f : List Int} (hl : f.length ≤ 1048576) : ∃ r, Dr f = some r := by
 have hL := Aw
 unfold Dr
 obtain ⟨t, e, _⟩ := Bq (body := B9 f) (fun s => ∃ i : Nat, s = (i : Int) ∧ i ≤ f.length) (fun s => f.length - s.toNat) (fun _ => True) (by
  rintro s ⟨i, rfl, g1⟩
  unfold B9
  by_cases hi : i < f.length
  ·rw [if_pos (by omega), Af (by omega), Int.toNat_natCast]
   by_cases h0 : nth f i ≥ 0
   ·rw [if_pos h0, Af (by omega), Af (by omega), Aeg _ _ (by simp; omega)]
    simp only [Option.bind_some]
    split
    ·exact .inr ⟨_, rfl, trivial⟩
    ·rw [Af (by unfold InI; omega)]
     exact .inl ⟨_, rfl, ⟨i + 1, rfl, by omega⟩, by omega⟩
   ·rw [if_neg h0, Af (by unfold InI; omega)]
    exact .inl ⟨_, rfl, ⟨i + 1, rfl, by omega⟩, by omega⟩
  ·rw [if_neg (by omega)]
   exact .inr ⟨_, rfl, trivial⟩) (s := (0 : Int)) ⟨0, rfl, Nat.zero_le _⟩
 rw [e]
 cases t <;> exact ⟨_, rfl⟩
theorem Awy {k : Nat} (hk : k ≤ 100) {f : List Int} (hl : f.length ≤ 1048576) : ∃ r, Ir (k : Int) f = some r := by
 have hL := Aw
 unfold Ir
 obtain ⟨t, e, _⟩ := Bq (body := F2 (k : Int) f) (fun s => ∃ i : Nat, s = (i : Int) ∧ i ≤ k) (fun s => k - s.toNat) (fun _ => True) (by
  rintro s ⟨i, rfl, g1⟩
  unfold F2
  by_cases hi : i < k
  ·rw [if_pos (by omega), Aeg _ _ (by omega)]
   simp only [Option.bind_some]
   split
   ·rw [Af (by unfold InI; omega)]
    exact .inl ⟨_, rfl, ⟨i + 1, rfl, by omega⟩, by omega⟩
   ·exact .inr ⟨_, rfl, trivial⟩
  ·rw [if_neg (by omega)]
   exact .inr ⟨_, rfl, trivial⟩) (s := (0 : Int)) ⟨0, rfl, Nat.zero_le _⟩
 rw [e]
 cases t <;> exact ⟨_, rfl⟩
structure Srch (a b : SAlgebra) (n M : Nat) (s : Sl7Search) : Prop where
 a : s.a = a
 b : s.b = b
 most : s.most = M
 t0 : 0 ≤ s.tries
 t1 : s.tries ≤ 5001
 fl : s.found.length ≤ M
 rows : ∀ r ∈ s.found, r.length = n
theorem Aw6 (h : Pair a b n m) {M : Nat} (hM : M ≤ 1000) : ∀ (k : Nat) (s : Sl7Search) (f : List Int), Fu f < k → okF n m f → Srch a b n M s → s.found.length < M → ∃ u, Bc k s f = some ((), u) ∧ Srch a b n M u := by
 obtain ⟨hn, hn8, hm, hm8⟩ := h.pos
 have hL := Aw
 intro k
 induction k with
 | zero => intro s f hk; omega
 | succ k ih =>
   intro s f hk hf hs hlt
   show ∃ u, Bn (Bc k) s f = some ((), u) ∧ _
   unfold Bn
   have hfl := hf.1
   obtain ⟨q, e, q1, q2⟩ := Bq (body := Cq s f) (fun x => ∃ i : Nat, x = (i : Int) ∧ i ≤ f.length) (fun x => f.length - x.toNat) (fun q => ∃ i : Nat, q = (i : Int) ∧ i ≤ f.length ∧ (i < f.length → nth f i < 0)) (by
    rintro x ⟨i, rfl, g1⟩
    unfold Cq
    by_cases hi : i < f.length
    ·rw [if_pos (by omega), Af (by omega), Int.toNat_natCast]
     by_cases h0 : nth f i ≥ 0
     ·rw [if_pos h0, Af (by unfold InI; omega)]
      exact .inl ⟨_, rfl, ⟨i + 1, rfl, by omega⟩, by omega⟩
     ·rw [if_neg h0]
      exact .inr ⟨_, rfl, i, rfl, by omega, fun _ => by omega⟩
    ·rw [if_neg (by omega)]
     exact .inr ⟨_, rfl, i, rfl, g1, fun hh => absurd hh hi⟩) (s := (0 : Int)) ⟨0, rfl, Nat.zero_le _⟩
   obtain ⟨rfl, q2, q3⟩ := q2
   rw [e]
   simp only [Option.bind_some]
   by_cases hq : (q1 : Int) = (f.length : Int)
   ·rw [if_pos hq]
    have key : ∀ w : Bool, ∃ u, (if w = true then ask ((s.found).length + ([f]).length ≤ LIM) <| some ((), ({ a := s.a, b := s.b, into := s.into, onto := s.onto, most := s.most, tries := s.tries, found := s.found ++ [f] } : Sl7Search)) else some ((), s)) = some ((), u) ∧ Srch a b n M u := by
     intro w
     cases w with
     | false => exact ⟨s, rfl, hs⟩
     | true =>
       rw [if_pos rfl, Af (by simp only [List.length_cons, List.length_nil]; omega)]
       refine ⟨_, rfl, hs.a, hs.b, hs.most, hs.t0, hs.t1, by simp; omega, fun r hr => ?_⟩
       rcases List.mem_append.1 hr with h1 | h1
       ·exact hs.rows r h1
       ·rw [List.mem_singleton.1 h1]; exact hfl
    by_cases ho : s.onto = true
    ·rw [if_pos ho]
     obtain ⟨w, e2⟩ := Awy (k := m) (by omega) (f := f) (by omega)
     rw [hs.b, h.sb, e2]
     simp only [Option.bind_some]
     have := key w
     rw [hs.b] at this
     exact this
    ·rw [if_neg ho]
     exact key true
   ·rw [if_neg hq]
    have hq4 : q1 < f.length := by omega
    have hneg := q3 hq4
    obtain ⟨t, e2, ht⟩ := Bq (body := B4 (Bc k) f (q1 : Int)) (fun s => ∃ y : Nat, s.1 = (y : Int) ∧ y ≤ m ∧ Srch a b n M s.2) (fun s => m - s.1.toNat) (fun t => ∃ u, Srch a b n M u ∧ (t = .inl u ∨ t = .inr u)) (by
     rintro ⟨x, s⟩ ⟨y, rfl, g1, g2⟩
     dsimp only at g2
     unfold B4
     dsimp only
     have ea := g2.a
     have eb := g2.b
     have em := g2.most
     have et0 := g2.t0
     have et1 := g2.t1
     by_cases hg : y < m ∧ s.found.length < M ∧ s.tries ≤ 5000
     ·obtain ⟨c1, c2, c3⟩ := hg
      rw [eb, h.sb, em, if_pos (by omega), if_pos (by omega), if_pos c3]
      simp only [Option.bind_some]
      rw [Af (by unfold InI; omega)]
      by_cases c4 : s.tries + 1 > 5000
      ·rw [if_pos c4]
       exact .inr ⟨_, rfl, ({ a := s.a, b := b, into := s.into, onto := s.onto, most := (M : Int), tries := s.tries + 1, found := s.found } : Sl7Search), ⟨ea, rfl, rfl, by show 0 ≤ s.tries + 1; omega, by show s.tries + 1 ≤ 5001; omega, g2.fl, g2.rows⟩, .inl rfl⟩
      ·rw [if_neg c4, Al8 (by omega)]
       simp only [Option.bind_some]
       rw [Af (by omega), Int.toNat_natCast, ea]
       have hof : okF n m (f.set q1 (y : Int)) := hf.set (by omega)
       have hop := Aj9 hq4 hneg (y := (y : Int)) (by omega)
       obtain ⟨r, e3, hr⟩ := Anb h hof
       rw [e3]
       simp only [Option.bind_some]
       have hS : Srch a b n M { a := a, b := b, into := s.into, onto := s.onto, most := (M : Int), tries := s.tries + 1, found := s.found } := ⟨rfl, rfl, rfl, by first | omega | (dsimp only; omega), by first | omega | (dsimp only; omega), g2.fl, g2.rows⟩
       have go : r.2 = true → ∃ s', ((Bc k { a := a, b := b, into := s.into, onto := s.onto, most := (M : Int), tries := s.tries + 1, found := s.found } r.1).bind fun (_, u25) => ask (InI ((y : Int) + 1)) <| (some (.inl ((y : Int) + 1, u25)) : Option ((Int × Sl7Search) ⊕ (Sl7Search ⊕ Sl7Search)))) = some (.inl s') ∧ (∃ z : Nat, s'.1 = (z : Int) ∧ z ≤ m ∧ Srch a b n M s'.2) ∧ m - s'.1.toNat < m - (y : Int).toNat := by
        intro h2
        obtain ⟨p1, p2⟩ := hr h2
        obtain ⟨u, e4, hu⟩ := ih _ r.1 (by omega) p1 hS c2
        rw [e4]
        simp only [Option.bind_some]
        rw [Af (by unfold InI; omega)]
        exact ⟨_, rfl, ⟨y + 1, rfl, by omega, hu⟩, by first | omega | (dsimp only; omega)⟩
       have no : ∃ s', (ask (InI ((y : Int) + 1)) <| (some (.inl ((y : Int) + 1, ({ a := a, b := b, into := s.into, onto := s.onto, most := (M : Int), tries := s.tries + 1, found := s.found } : Sl7Search))) : Option ((Int × Sl7Search) ⊕ (Sl7Search ⊕ Sl7Search)))) = some (.inl s') ∧ (∃ z : Nat, s'.1 = (z : Int) ∧ z ≤ m ∧ Srch a b n M s'.2) ∧ m - s'.1.toNat < m - (y : Int).toNat := by
        rw [Af (by unfold InI; omega)]
        exact ⟨_, rfl, ⟨y + 1, rfl, by omega, hS⟩, by first | omega | (dsimp only; omega)⟩
       left
       by_cases h2 : r.2 = true
       ·rw [if_pos h2]
        by_cases hi : s.into = true
        ·rw [if_pos hi]
         obtain ⟨w, e5⟩ := Ars (f := r.1) (by have := (hr h2).1.1; omega)
         rw [e5]
         simp only [Option.bind_some]
         by_cases hw : w = true
         ·rw [if_pos hw]; exact go h2
         ·rw [if_neg hw]; exact no
        ·rw [if_neg hi]; exact go h2
       ·rw [if_neg h2]; exact no
     ·right
      have e0 : (if (y : Int) < s.b.Size then if (s.found.length : Int) < s.most then if s.tries ≤ 5000 then some (.inl ()) else some (.inr ()) else some (.inr ()) else some (.inr ()) : Option (Unit ⊕ Unit)) = some (.inr ()) := by
       rw [eb, h.sb, em]
       split
       ·split
        ·split
         ·exact absurd ⟨by omega, by omega, by assumption⟩ hg
         ·rfl
        ·rfl
       ·rfl
      rw [e0]
      exact ⟨_, rfl, s, g2, .inr rfl⟩) (s := ((0 : Int), s)) ⟨0, rfl, Nat.zero_le _, hs⟩
    rw [e2]
    simp only [Option.bind_some]
    obtain ⟨u, hu, ht | ht⟩ := ht
    ·subst ht; exact ⟨u, rfl, hu⟩
    ·subst ht; exact ⟨u, rfl, hu⟩
end
theorem Asm {s1 s2 : Sl7Search → List Int → Option (Unit × Sl7Search)} (h : ∀ s f, LeO (s1 s f) (s2 s f)) (s : Sl7Search) (f : List Int) : LeO (Bn s1 s f) (Bn s2 s f) := by
 unfold Bn
 refine LeO.bind (LeO.refl _) fun q => LeO.ite (LeO.refl _) (LeO.bind (LeO.loop (fun s => ?_) _) fun _ => LeO.refl _)
 obtain ⟨x, y⟩ := s
 unfold B4
 dsimp only
 refine LeO.bind (LeO.refl _) fun t => ?_
 cases t with
 | inr _ => exact LeO.refl _
 | inl _ => exact LeO.ask (LeO.ite (LeO.refl _) (LeO.bind (LeO.refl _) fun r => LeO.ask (LeO.bind (LeO.refl _) fun r2 => LeO.ite (LeO.ite (LeO.bind (LeO.refl _) fun r3 => LeO.ite (LeO.bind (h _ _) fun _ => LeO.refl _) (LeO.refl _)) (LeO.bind (h _ _) fun _ => LeO.refl _)) (LeO.refl _))))
theorem Ayv {α β γ : Type} {F : Nat → α → β → Option γ} (h0 : ∀ a b, F 0 a b = none) (h : ∀ n, (∀ a b, LeO (F n a b) (F (n + 1) a b)) → ∀ a b, LeO (F (n + 1) a b) (F (n + 2) a b)) (a : α) (b : β) : upO fun n => F n a b := by
 have step : ∀ n, ∀ a b, LeO (F n a b) (F (n + 1) a b) := by
  intro n
  induction n with
  | zero => intro a b v e; rw [h0] at e; cases e
  | succ n ih => exact h n ih
 have key : ∀ n k v, F n a b = some v → F (n + k) a b = some v := by
  intro n k v e
  induction k with
  | zero => exact e
  | succ k ih => exact step (n + k) a b v ih
 intro n m v hnm e
 have := key n (m - n) v e
 rwa [show n + (m - n) = m by omega] at this
theorem Aw1 (s : Sl7Search) (f : List Int) : upO fun n => Bc n s f := Ayv (F := Bc) (fun _ _ => rfl) (fun _ h a b => Asm h a b) s f
section
variable {a b : SAlgebra} {n m : Nat}
theorem Aru (h : Pair a b n m) {M : Nat} (hM0 : 0 < M) (hM : M ≤ 1000) (into onto : Bool) : ∃ r, Do a b into onto (M : Int) = some r ∧ r.1.length ≤ M ∧ ∀ row ∈ r.1, row.length = n := by
 obtain ⟨hn, hn8, hm, hm8⟩ := h.pos
 have hL := Aw
 unfold Do
 obtain ⟨f, e, hf⟩ := Bq (body := Fy a b into onto (M : Int)) (fun s => ∃ i : Nat, s.1 = (i : Int) ∧ i ≤ n ∧ s.2.length = i ∧ ∀ x ∈ s.2, x = -1) (fun s => n - s.1.toNat) (fun t => t.length = n ∧ ∀ x ∈ t, x = -1) (by
  rintro ⟨x, g⟩ ⟨i, rfl, g1, g2, g3⟩
  dsimp only at g2 g3
  unfold Fy
  dsimp only
  rw [h.sa]
  by_cases hi : i < n
  ·rw [if_pos (by omega), Af (by simp; omega), Af (by unfold InI; omega)]
   refine .inl ⟨_, rfl, ⟨i + 1, rfl, by omega, by simp; omega, fun z hz => ?_⟩, by first | omega | (dsimp only; omega)⟩
   rcases List.mem_append.1 hz with h1 | h1
   ·exact g3 z h1
   ·exact List.mem_singleton.1 h1
  ·rw [if_neg (by omega)]
   exact .inr ⟨_, rfl, by first | omega | (dsimp only; omega), g3⟩) (s := ((0 : Int), Al Int)) ⟨0, rfl, Nat.zero_le _, rfl, fun z hz => by cases hz⟩
 rw [e]
 simp only [Option.bind_some]
 have hok : okF n m f := ⟨hf.1, fun x hx => by rw [hf.2 x hx]; omega⟩
 obtain ⟨r, e2, hr⟩ := Anb h hok
 rw [e2]
 simp only [Option.bind_some]
 have hS : Srch a b n M { a := a, b := b, into := into, onto := onto, most := (M : Int), tries := 0, found := Al (List Int) } := ⟨rfl, rfl, rfl, by simp, by simp, by simp [Al], fun r hr => by cases hr⟩
 have go : r.2 = true → ∃ u, (Anr fun k => Bc k ({ a := a, b := b, into := into, onto := onto, most := (M : Int), tries := 0, found := Al (List Int) }) r.1) = some ((), u) ∧ Srch a b n M u := by
  intro h2
  obtain ⟨u, e3, hu⟩ := Aw6 h hM (Fu r.1 + 1) _ r.1 (Nat.lt_succ_self _) (hr h2).1 hS (by simpa [Al] using hM0)
  exact ⟨u, Awz (Aw1 _ _) e3, hu⟩
 have fin : ∀ u, Srch a b n M u → ∃ r : List (List Int) × Bool, some (u.found, decide (u.tries ≤ 5000)) = some r ∧ r.1.length ≤ M ∧ ∀ row ∈ r.1, row.length = n := fun u hu => ⟨_, rfl, hu.fl, hu.rows⟩
 by_cases h2 : r.2 = true
 ·rw [if_pos h2]
  obtain ⟨u, e3, hu⟩ := go h2
  by_cases hi : into = true
  ·rw [if_pos hi]
   obtain ⟨w, e4⟩ := Ars (f := r.1) (by have := (hr h2).1.1; omega)
   rw [e4]
   simp only [Option.bind_some]
   by_cases hw : w = true
   ·rw [if_pos hw, e3]; exact fin u hu
   ·rw [if_neg hw]; exact fin _ hS
  ·rw [if_neg hi, e3]; exact fin u hu
 ·rw [if_neg h2]; exact fin _ hS
theorem Ayx (h : Pair a b n m) (into onto : Bool) : ∃ r, Kr a b into onto = some r ∧ r.1.length ≤ 8 := by
 obtain ⟨hn, hn8, hm, hm8⟩ := h.pos
 unfold Kr
 obtain ⟨r, e, h1, h2⟩ := Aru h (M := 1) (by omega) (by omega) into onto
 have e' : Do a b into onto 1 = some r := e
 rw [e']
 simp only [Option.bind_some]
 by_cases hr : r.2 = true
 ·rw [if_pos hr]
  by_cases h0 : (r.1.length : Int) = 0
  ·rw [if_pos h0]; exact ⟨_, rfl, by simp [Al]⟩
  ·rw [if_neg h0, Af (by omega)]
   exact ⟨_, rfl, by have := h2 _ (At (show Int.toNat 0 < r.1.length by simp; omega)); dsimp only; omega⟩
 ·rw [if_neg hr]; exact ⟨_, rfl, by simp [Al]⟩
end
theorem Arp {a b : SAlgebra} (h : I2 a b) : Pair a b a.Size.toNat b.Size.toNat := ⟨h, by have := h.1.1; omega, by have := h.2.1.1; omega⟩
theorem Wj {c : Sl1Cur} {k : Nat} (h : Cur k c) (hk : k ≤ 600000000) {a b : SAlgebra} (ha : Ek a) (hb : Ek b) : ∃ f d, B3 c a b = some (f, d) ∧ Cur (k + 100) d ∧ f.length ≤ 9 := by
 have hL := Aw
 unfold B3
 rw [Ru ha]
 simp only [Option.bind_some]
 by_cases ga : Bk a
 ·rw [decide_eq_true ga, if_pos rfl, Ru hb]
  simp only [Option.bind_some]
  by_cases gb : Bk b
  ·rw [decide_eq_true gb, if_pos rfl]
   simp only [Option.bind_some]
   obtain ⟨n, hn⟩ := Int.eq_ofNat_of_zero_le (show 0 ≤ a.Size by have := ga.1; omega)
   have hn8 : n ≤ 8 := by have := ga.2.1; omega
   have hn1 : 1 ≤ n := by have := ga.1; omega
   obtain ⟨⟨f, d⟩, e, hf, hd⟩ := Bq (body := Du a b) (fun s => ∃ i : Nat, s.1 = (i : Int) ∧ i ≤ n ∧ s.2.1.length = i ∧ Cur (k + 2 * i) s.2.2) (fun s => n - s.1.toNat) (fun t => t.1.length = n ∧ Cur (k + 16) t.2) (by
    rintro ⟨x, g, c⟩ ⟨i, rfl, g1, g2, g3⟩
    dsimp only at g2 g3
    unfold Du
    dsimp only
    rw [hn]
    by_cases hi : i < n
    ·obtain ⟨r, d, e, hd, _⟩ := Ce g3 (by omega) b.Size
     rw [if_pos (by omega), e]
     simp only [Option.bind_some]
     rw [Af (by simp; omega), Af (by unfold InI; omega)]
     exact .inl ⟨_, rfl, ⟨i + 1, rfl, by omega, by simp; omega, hd.mono (by omega)⟩, by first | omega | (dsimp only; omega)⟩
    ·rw [if_neg (by omega)]
     exact .inr ⟨_, rfl, by first | omega | (dsimp only; omega), g3.mono (by omega)⟩) (s := ((0 : Int), Al Int, c)) ⟨0, rfl, Nat.zero_le _, rfl, h⟩
   rw [e]
   simp only [Option.bind_some]
   have mid : ∀ {R : Option (List Int × Sl1Cur)}, R = (((Dq a b).bind fun r11 => if r11 = true then (Bz d 3).bind fun (r13, u14) => some (!r13, u14) else some (false, d)).bind fun (q15_41, q15_80) =>
     if q15_41 = true then
      (Do a b false false 8).bind fun r17 =>
      if (r17.1.length : Int) > 0 then
       (Ak q15_80 (r17.1.length : Int)).bind fun (r19, u20) =>
       ask (0 ≤ r19 ∧ r19 < (r17.1.length : Int)) <|
       (Ei (nth r17.1 r19.toNat)).bind fun r22 => some (r22, u20)
      else some (f, q15_80)
     else some (f, q15_80)) → ∃ g d2, R = some (g, d2) ∧ g.length = n ∧ Cur (k + 20) d2 := by
    rintro R rfl
    unfold Dq
    rw [Sp ha, Sp hb]
    simp only [Option.bind_some]
    rw [Z8 (We ha)]
    simp only [Option.bind_some]
    by_cases ht : Bx a = Bx b
    ·rw [decide_eq_true ht, if_pos rfl]
     obtain ⟨w, d1, e1, hd1⟩ := Vk hd (by omega) 3
     rw [e1]
     simp only [Option.bind_some]
     by_cases hw : (!w) = true
     ·rw [if_pos hw]
      have hP := Arp (a := a) (b := b) ⟨ga, gb, ht⟩
      rw [show a.Size.toNat = n by omega] at hP
      obtain ⟨r, e2, r1, r2⟩ := Aru hP (M := 8) (by omega) (by omega) false false
      have e2' : Do a b false false 8 = some r := e2
      rw [e2']
      simp only [Option.bind_some]
      by_cases h0 : (r.1.length : Int) > 0
      ·rw [if_pos h0]
       obtain ⟨y, d3, e3, hd3, y1, y2⟩ := Ce hd1 (by omega) (r.1.length : Int)
       rw [e3]
       simp only [Option.bind_some]
       have hrow := r2 _ (At (show y.toNat < r.1.length by omega))
       rw [Af (by omega), Al8 (by omega)]
       exact ⟨_, _, rfl, hrow, hd3⟩
      ·rw [if_neg h0]; exact ⟨_, _, rfl, hf, hd1.mono (by omega)⟩
     ·rw [if_neg hw]; exact ⟨_, _, rfl, hf, hd1.mono (by omega)⟩
    ·rw [decide_eq_false ht, if_neg (by simp)]
     exact ⟨_, _, rfl, hf, hd.mono (by omega)⟩
   obtain ⟨g, d2, e2, hg, hd2⟩ := mid rfl
   have e2' := e2
   rw [e2']
   simp only [Option.bind_some]
   obtain ⟨y, d3, e3, hd3, _⟩ := Ce hd2 (by omega) 24
   rw [e3]
   simp only [Option.bind_some]
   by_cases y0 : y = 0
   ·rw [if_pos y0, Af (by simp; omega)]
    exact ⟨_, _, rfl, hd3.mono (by omega), by simp; omega⟩
   ·rw [if_neg y0]
    by_cases y1 : y = 1
    ·rw [if_pos y1]
     obtain ⟨z, d4, e4, hd4, z1, z2⟩ := Ce hd3 (by omega) (g.length : Int)
     rw [e4]
     simp only [Option.bind_some]
     obtain ⟨v, d5, e5, hd5, _⟩ := Hf hd4 (by omega) [-1, b.Size, 1099511627776] (by simp)
     rw [e5]
     simp only [Option.bind_some]
     rw [Af (by omega)]
     exact ⟨_, _, rfl, hd5.mono (by omega), by simp; omega⟩
    ·rw [if_neg y1]
     exact ⟨_, _, rfl, hd3.mono (by omega), by omega⟩
  ·rw [decide_eq_false gb, if_neg (by simp)]
   exact ⟨_, _, rfl, h.mono (by omega), by simp [Al]⟩
 ·rw [decide_eq_false ga, if_neg (by simp)]
  exact ⟨_, _, rfl, h.mono (by omega), by simp [Al]⟩
theorem Axf {xss : List (List Int)} {l : List Int} (hn : xss.length ≤ 1048576) (hl : l.length ≤ LIM) : ∃ ys, In xss l = some ys ∧ ys.length = xss.length + 1 ∧ ∀ r ∈ ys, r ∈ xss ∨ r = l := by
 have hL := Aw
 unfold In
 obtain ⟨q, e, j, rfl, hj⟩ := Bq (body := F6 xss l) (fun s => ∃ j : Nat, s = (j : Int) ∧ j ≤ xss.length) (fun s => s.toNat) (fun q => ∃ j : Nat, q = (j : Int) ∧ j ≤ xss.length) (by
  rintro s ⟨j, rfl, hj⟩
  unfold F6
  by_cases h0 : (j : Int) > 0
  ·rw [if_pos h0, Af (by unfold InI; omega), Af (by omega)]
   split
   ·rw [Af (by unfold InI; omega)]
    exact .inl ⟨_, rfl, ⟨j - 1, by omega, by omega⟩, by omega⟩
   ·rw [Af (by unfold InI; omega), Af (by omega)]
    split
    ·rename_i c2
     rw [Af (by unfold InI; omega), Af (by omega), Avh (by omega) hl]
     simp only [Option.bind_some]
     split
     ·rw [Af (by unfold InI; omega)]
      exact .inl ⟨_, rfl, ⟨j - 1, by omega, by omega⟩, by omega⟩
     ·exact .inr ⟨_, rfl, j, rfl, hj⟩
    ·exact .inr ⟨_, rfl, j, rfl, hj⟩
  ·rw [if_neg h0]
   exact .inr ⟨_, rfl, j, rfl, hj⟩) (s := (xss.length : Int)) ⟨_, rfl, Nat.le_refl _⟩
 rw [e]
 simp only [Option.bind_some, Al, List.nil_append, Int.toNat_natCast, Int.toNat_zero, List.drop_zero, Nat.sub_zero]
 rw [Af (by omega), Af (by simp; omega), Af (by simp; omega), Af (by omega), Af (by simp; omega)]
 refine ⟨_, rfl, by simp; omega, fun r hr => ?_⟩
 rcases List.mem_append.1 hr with h1 | h1
 ·rcases List.mem_append.1 h1 with h2 | h2
  ·exact .inl (List.mem_of_mem_take h2)
  ·exact .inr (List.mem_singleton.1 h2)
 ·exact .inl (List.mem_of_mem_drop (List.mem_of_mem_take h1))
theorem Apy {a : SAlgebra} {n : Nat} {xs : List Int} (hx : U9 a n xs) : xs.length ≤ n := by rw [← hx.2.2]; exact Sw _ _
theorem Ap0 {a : SAlgebra} {n : Nat} (h : ReadyA a n) : U9 a n (B0 n (Um (2 ^ n - 1))) := by
 have hb : ∀ z, z < n → Um (2 ^ n - 1) z = true := fun z hz => by
  unfold Um
  have := Nat.testBit_two_pow_sub_one n z
  rw [Nat.testBit_eq_decide_div_mod_eq] at this
  rw [this]; exact decide_eq_true hz
 refine (Ap2 h).2 ⟨Au8 _ _, Acg _ _, fun i hi k hk _ => decide_eq_true (K0.2 ⟨_, (h.val hi hk).2, hb _ (h.val hi hk).2, rfl⟩)⟩
theorem Avz {a : SAlgebra} {n : Nat} (h : ReadyA a n) : ∃ r, H9 a = some r ∧ 0 < r.length ∧ r.length ≤ 1048576 ∧ ∀ x ∈ r, U9 a n x := by
 have hL := Aw
 have hn8 := h.le
 have h20 : 2 ^ n ≤ 1048576 := Apk (by omega)
 unfold H9
 obtain ⟨r, e, h1, h2, h3⟩ := Bq (body := Gt a) (fun s => ∃ m : Nat, s.1 = (m : Int) ∧ m ≤ 2 ^ n ∧ s.2.length ≤ m ∧ (2 ^ n - 1 < m → 0 < s.2.length) ∧ ∀ x ∈ s.2, U9 a n x) (fun s => 2 ^ n - s.1.toNat) (fun r => 0 < r.length ∧ r.length ≤ 1048576 ∧ ∀ x ∈ r, U9 a n x) (by
  rintro ⟨x, xs⟩ ⟨m, rfl, m1, m2, m3, m4⟩
  dsimp only at m2 m3 m4
  unfold Gt
  dsimp only
  rw [h.sz, Af (by omega), Awx (by omega)]
  by_cases hm : m < 2 ^ n
  ·have hsl := Sw n (Um m)
   rw [if_pos (by omega), Av1 (by omega) hm]
   simp only [Option.bind_some]
   rw [Ayk h (by omega)]
   simp only [Option.bind_some]
   by_cases hs : U9 a n (B0 n (Um m))
   ·obtain ⟨ys, e1, y1, y2⟩ := Axf (xss := xs) (l := B0 n (Um m)) (by omega) (by omega)
    rw [decide_eq_true hs, if_pos rfl, e1]
    simp only [Option.bind_some]
    rw [Af (by unfold InI; omega)]
    refine .inl ⟨_, rfl, ⟨m + 1, rfl, by omega, by first | omega | (dsimp only; omega), fun _ => by first | omega | (dsimp only; omega), fun z hz => ?_⟩, by first | omega | (dsimp only; omega)⟩
    rcases y2 z hz with h5 | h5
    ·exact m4 z h5
    ·rw [h5]; exact hs
   ·rw [decide_eq_false hs, if_neg (by simp), Af (by unfold InI; omega)]
    refine .inl ⟨_, rfl, ⟨m + 1, rfl, by omega, by first | omega | (dsimp only; omega), fun hh => ?_, m4⟩, by first | omega | (dsimp only; omega)⟩
    have : m = 2 ^ n - 1 ∨ 2 ^ n - 1 < m := by omega
    rcases this with h5 | h5
    ·exact absurd (h5 ▸ Ap0 h) hs
    ·exact m3 h5
  ·rw [if_neg (by omega)]
   have hp : 0 < 2 ^ n := Nat.pow_pos (by omega)
   exact .inr ⟨_, rfl, m3 (by omega), by first | omega | (dsimp only; omega), m4⟩) (s := ((0 : Int), Al (List Int))) ⟨0, rfl, Nat.zero_le _, by simp [Al], fun hh => by omega, fun x hx => by cases hx⟩
 rw [e]
 exact ⟨_, rfl, h1, h2, h3⟩
theorem Arh {a : SAlgebra} (h : Ek a) : Gi a = some a := by
 have hL := Aw
 unfold Gi
 have key := Ca (body := Ed a) (fun i => ((i : Int), (⟨a.Size, a.Ops.take i⟩ : SAlgebra))) a.Ops.length a (fun i hi => by
  unfold Ed Lv
  dsimp only
  have ht := h.2 _ (At hi)
  have h1 := h.1
  rw [if_pos (by omega), Af (by omega), Int.toNat_natCast, Al8 (by omega)]
  simp only [Option.bind_some]
  rw [Af (by simp; omega), Af (by unfold InI; omega), Ff hi]
  rfl) (by
  unfold Ed
  dsimp only
  rw [if_neg (by omega), List.take_length])
 have key' : Am (Ed a) (0, { Size := a.Size, Ops := Al SOp }) = some a := key
 rw [key']; rfl
theorem Aun {xs : List Int} (hl : xs.length ≤ 1048576) (y : Int) : ∃ r, Ht xs y = some r := by
 unfold Ht
 obtain ⟨t, e, _⟩ := Bq (body := Fb xs y) (fun s => ∃ i : Nat, s = (i : Int) ∧ i ≤ xs.length) (fun s => xs.length - s.toNat) (fun _ => True) (by
  rintro s ⟨i, rfl, g1⟩
  unfold Fb
  by_cases hi : i < xs.length
  ·rw [if_pos (by omega), Af (by omega)]
   split
   ·exact .inr ⟨_, rfl, trivial⟩
   ·rw [Af (by unfold InI; omega)]
    exact .inl ⟨_, rfl, ⟨i + 1, rfl, by omega⟩, by omega⟩
  ·rw [if_neg (by omega)]
   exact .inr ⟨_, rfl, trivial⟩) (s := (0 : Int)) ⟨0, rfl, Nat.zero_le _⟩
 rw [e]
 cases t <;> exact ⟨_, rfl⟩
theorem Ayq {a : SAlgebra} {n : Nat} (h : ReadyA a n) (ht : Ep a) {xs : List Int} (hx : Bh xs n) (hl : xs.length ≤ n) (h0 : 0 < xs.length) : ∃ r, Hy a xs = some r ∧ Ep r := by
 have hL := Aw
 have hn8 := h.le
 have hn := h.pos
 unfold Hy
 obtain ⟨r, e, hr1, hr2⟩ := Bq (body := Gv a xs) (fun s => ∃ i : Nat, s.1 = (i : Int) ∧ i ≤ a.Ops.length ∧ s.2.Ops.length = i ∧ ∀ f ∈ s.2.Ops, f.Table.length ≤ 101) (fun s => a.Ops.length - s.1.toNat) (fun t => t.Ops.length ≤ 10 ∧ ∀ f ∈ t.Ops, f.Table.length ≤ 101) (by
  rintro ⟨x, s⟩ ⟨i, rfl, g1, g2, g3⟩
  dsimp only at g2 g3
  have ht1 := ht.1
  unfold Gv
  dsimp only
  by_cases hi : i < a.Ops.length
  ·obtain ⟨r, e1, hr, l1, t1, l2, _⟩ := h.op hi
   have htt := ht.2 _ (At hi)
   have hle : xs.length ^ r ≤ n ^ r := Nat.pow_le_pow_left hl r
   obtain ⟨o, e2, ho⟩ := Bq (body := Gq a xs (i : Int) s) (fun s => ∃ j : Nat, s.1 = (j : Int) ∧ j ≤ xs.length ^ r ∧ s.2.Arity = (r : Int) ∧ s.2.Table.length = j) (fun s => xs.length ^ r - s.1.toNat) (fun t => t.Table.length ≤ 101) (by
    rintro ⟨y, o⟩ ⟨j, rfl, k1, k2, k3⟩
    dsimp only at k2 k3
    unfold Gq
    dsimp only
    rw [k2, Aln (by omega) hr]
    simp only [Option.bind_some]
    by_cases hj : j < xs.length ^ r
    ·rw [if_pos (by omega), R4 h0 (by omega) hr (by omega)]
     simp only [Option.bind_some]
     have hal := Hj xs.length r j
     have hai := Tg h0 r j
     obtain ⟨q, e3, q1, q2⟩ := Bq (body := Gr a xs (i : Int) s (j : Int) o) (fun s => ∃ p : Nat, s.1 = (p : Int) ∧ p ≤ r ∧ s.2.length = r ∧ (∀ z, z < p → 0 ≤ nth s.2 z ∧ nth s.2 z < n) ∧ ∀ z, p ≤ z → z < r → 0 ≤ nth s.2 z ∧ nth s.2 z < xs.length) (fun s => r - s.1.toNat) (fun t => t.length = r ∧ Bh t n) (by
      rintro ⟨w, g⟩ ⟨p, rfl, p1, p2, p3, p4⟩
      dsimp only at p2 p3 p4
      unfold Gr
      dsimp only
      by_cases hp : p < r
      ·have hv := p4 p (Nat.le_refl _) hp
       have hw := hx _ (At (show (nth g p).toNat < xs.length by omega))
       rw [if_pos (by omega), Af (by omega), Int.toNat_natCast, Af (by omega), Af (by omega), Af (by unfold InI; omega)]
       refine .inl ⟨_, rfl, ⟨p + 1, rfl, by omega, by simpa using p2, fun z hz => ?_, fun z hz1 hz2 => ?_⟩, by first | omega | (dsimp only; omega)⟩
       ·dsimp only
        rw [Qk _ _ _ _ (by omega)]
        split
        ·exact hw
        ·exact p3 z (by omega)
       ·dsimp only
        rw [Qk _ _ _ _ (by omega), if_neg (by omega)]
        exact p4 z (by omega) hz2
      ·rw [if_neg (by omega)]
       refine .inr ⟨_, rfl, p2, fun v hv => ?_⟩
       obtain ⟨z, hz, rfl⟩ := List.getElem_of_mem hv
       have := p3 z (by omega)
       rwa [Ft hz] at this) (s := ((0 : Int), Fi xs.length r j)) ⟨0, rfl, Nat.zero_le _, hal, fun z hz => by omega, fun z _ hz => hai _ (At (by omega))⟩
     rw [e3]
     simp only [Option.bind_some]
     rw [Amc hn8 h.sz hi (by omega) q2 (by rw [q1]; exact l1)]
     simp only [Option.bind_some]
     obtain ⟨v, e4⟩ := Aun (xs := xs) (by omega) (nth (nth a.Ops i).Table (R1 n q).toNat)
     rw [e4]
     simp only [Option.bind_some]
     rw [Af (by simp; omega), Af (by unfold InI; omega)]
     exact .inl ⟨_, rfl, ⟨j + 1, rfl, by omega, rfl, by simp; omega⟩, by first | omega | (dsimp only; omega)⟩
    ·rw [if_neg (by omega)]
     exact .inr ⟨_, rfl, by first | omega | (dsimp only; omega)⟩) (s := ((0 : Int), { Arity := (nth a.Ops i).Arity, Table := Al Int })) ⟨0, rfl, Nat.zero_le _, e1, rfl⟩
   rw [if_pos (by omega), Af (by omega), Int.toNat_natCast, e2]
   simp only [Option.bind_some]
   rw [Af (by simp; omega), Af (by unfold InI; omega)]
   refine .inl ⟨_, rfl, ⟨i + 1, rfl, by omega, by simp; omega, fun f hf => ?_⟩, by first | omega | (dsimp only; omega)⟩
   rcases List.mem_append.1 hf with h1 | h1
   ·exact g3 f h1
   ·rw [List.mem_singleton.1 h1]; exact ho
  ·rw [if_neg (by omega)]
   exact .inr ⟨_, rfl, by first | omega | (dsimp only; omega), g3⟩) (s := ((0 : Int), { Size := (xs.length : Int), Ops := Al SOp })) ⟨0, rfl, Nat.zero_le _, rfl, fun f hf => by cases hf⟩
 rw [e]
 exact ⟨_, rfl, hr1, hr2⟩
theorem Avk {a : SAlgebra} (ht : Ep a) {f : List Int} {n : Nat} {z : Int} : Ep ⟨z, a.Ops.map (Ae1 f n)⟩ := by
 refine ⟨by simpa using ht.1, fun g hg => ?_⟩
 obtain ⟨o, ho, rfl⟩ := List.mem_map.1 hg
 have := ht.2 o ho
 simp only [Ae1, Ap8, List.length_replicate]
 exact this
theorem Au4 {α A B C : Type} {o : Option α} {k : α → Option ((A × B) × C)} {Q : α → Prop} {R : A → B → C → Prop} (h : ∃ a, o = some a ∧ Q a) (h2 : ∀ a, Q a → ∃ x y z, k a = some ((x, y), z) ∧ R x y z) : ∃ x y z, o.bind k = some ((x, y), z) ∧ R x y z := by
 obtain ⟨a, rfl, ha⟩ := h
 exact h2 a ha
theorem Abe {c : Sl1Cur} {k : Nat} (h : Cur k c) (hk : k ≤ 400000000) : ∃ a b d, Cy c = some ((a, b), d) ∧ Cur (k + 20000) d ∧ Ep a ∧ Ep b := by
 have hL := Aw
 unfold Cy
 obtain ⟨a, d, e, hd, ha⟩ := Nt h (by omega)
 have hs := Bm ha
 rw [e]
 simp only [Option.bind_some]
 rw [Ru hs]
 simp only [Option.bind_some]
 by_cases hg : Bk a
 ·rw [decide_eq_true hg, if_pos rfl]
  obtain ⟨w, d1, e1, hd1⟩ := Vk hd (by omega) 8
  rw [e1]
  simp only [Option.bind_some]
  by_cases hw : w = true
  ·rw [if_pos hw]
   obtain ⟨b, d2, e2, hd2, hb⟩ := Nt hd1 (by omega)
   rw [e2]
   exact ⟨_, _, _, rfl, hd2.mono (by omega), ha, hb⟩
  rw [if_neg hw]
  simp only [Option.bind_some]
  have hr := Ay2 hg
  have hz := hr.sz
  have h8 := hr.le
  obtain ⟨y, d2, e2, hd2, y0, y1⟩ := Ce hd1 (by omega) 5
  rw [e2]
  simp only [Option.bind_some]
  have mid : ∀ {R : Option ((SAlgebra × SAlgebra × Sl1Cur) ⊕ Sl1Cur)}, R = (if y = 0 then (Gi a).bind fun r16 => some (.inl (r16, a, d2))
    else if y = 1 then (C4 d2 a.Size).bind fun (r18, u19) => (G6 r18 a.Size).bind fun r20 => if r20 = true then (E8 a r18).bind fun r22 => some (.inl (r22, a, u19)) else some (.inr u19)
    else if y = 2 then (H9 a).bind fun r24 => ask (InI ((r24.length : Int) - 1)) <| ask (0 ≤ (r24.length : Int) - 1 ∧ (r24.length : Int) - 1 < (r24.length : Int)) <|
      if ((nth r24 ((r24.length : Int) - 1).toNat).length : Int) > 0 then (Ak d2 (r24.length : Int)).bind fun (r28, u29) => ask (0 ≤ r28 ∧ r28 < (r24.length : Int)) <|
       if ((nth r24 r28.toNat).length : Int) > 0 then (Hy a (nth r24 r28.toNat)).bind fun r32 => some (.inl (a, r32, u29)) else some (.inr u29)
      else some (.inr d2)
    else if y = 3 then (Am (Cp a) (0, d2)).bind fun t => match t with | (.inl (q43_3, q43_119)) => (some (.inl (q43_3, a, q43_119))) | (.inr q43_119) => (some (.inr q43_119))
    else some (.inr d2)) → ∃ t, R = some t ∧ (∀ p q u, t = .inl (p, q, u) → Ep p ∧ Ep q ∧ Cur (k + 15000) u) ∧ ∀ u, t = .inr u → Cur (k + 15000) u := by
   rintro R rfl
   by_cases c0 : y = 0
   ·rw [if_pos c0, Arh hs]
    exact ⟨_, rfl, fun p q u hh => by cases hh; exact ⟨ha, ha, hd2.mono (by omega)⟩, fun u hh => by cases hh⟩
   rw [if_neg c0]
   by_cases c1 : y = 1
   ·rw [if_pos c1, hz]
    obtain ⟨l, d3, e3, hd3, hl⟩ := Aqd hd2 (by omega) a.Size.toNat (by omega)
    rw [e3]
    simp only [Option.bind_some]
    rw [Auo (by omega) (by omega)]
    simp only [Option.bind_some]
    by_cases hp : (l.length : Int) = (a.Size.toNat : Nat) ∧ Bh l (a.Size.toNat : Nat) ∧ uniq l
    ·have hpd : (decide ((l.length : Int) = (a.Size.toNat : Nat) ∧ Bh l (a.Size.toNat : Nat) ∧ uniq l)) = true := decide_eq_true hp
     simp only [hpd, if_true]
     rw [Apz hg hz ⟨by have := hp.1; omega, hp.2.1, hp.2.2⟩]
     exact ⟨_, rfl, fun p q u hh => by cases hh; exact ⟨Avk ha, ha, hd3.mono (by omega)⟩, fun u hh => by cases hh⟩
    ·have hpd : (decide ((l.length : Int) = (a.Size.toNat : Nat) ∧ Bh l (a.Size.toNat : Nat) ∧ uniq l)) = false := decide_eq_false hp
     simp only [hpd, Bool.false_eq_true, if_false]
     exact ⟨_, rfl, fun p q u hh => (nomatch hh), fun u hh => by cases hh; exact hd3.mono (by omega)⟩
   rw [if_neg c1]
   by_cases c2 : y = 2
   ·obtain ⟨subs, e7, hpos, hsl, hall⟩ := Avz hr
    rw [if_pos c2, e7]
    simp only [Option.bind_some]
    rw [Af (by unfold InI; omega), Af (by omega)]
    split
    ·obtain ⟨v, d3, e3, hd3, v0, v1⟩ := Ce hd2 (by omega) (subs.length : Int)
     rw [e3]
     simp only [Option.bind_some]
     rw [Af (by omega)]
     have hsub := hall _ (At (show v.toNat < subs.length by omega))
     generalize nth subs v.toNat = xs at hsub ⊢
     by_cases hx0 : (xs.length : Int) > 0
     ·rw [if_pos hx0]
      obtain ⟨b, e4, hb⟩ := Ayq hr ha hsub.1 (Apy hsub) (by omega)
      rw [e4]
      exact ⟨_, rfl, fun p q u hh => by cases hh; exact ⟨ha, hb, hd3.mono (by omega)⟩, fun u hh => by cases hh⟩
     ·rw [if_neg hx0]
      exact ⟨_, rfl, fun p q u hh => (nomatch hh), fun u hh => by cases hh; exact hd3.mono (by omega)⟩
    ·exact ⟨_, rfl, fun p q u hh => (nomatch hh), fun u hh => by cases hh; exact hd2.mono (by omega)⟩
   rw [if_neg c2]
   by_cases c3 : y = 3
   ·rw [if_pos c3]
    obtain ⟨t, e3, t1, t2⟩ := Bq (body := Cp a) (fun s => ∃ j : Nat, s.1 = (j : Int) ∧ j ≤ 12 ∧ Cur (k + 1004 + 1000 * j) s.2) (fun s => 12 - s.1.toNat) (fun t => (∀ p u, t = .inl (p, u) → Ep p ∧ Cur (k + 15000) u) ∧ ∀ u, t = .inr u → Cur (k + 15000) u) (by
     rintro ⟨x, c⟩ ⟨j, rfl, j1, j2⟩
     dsimp only at j2
     unfold Cp
     dsimp only
     by_cases hj : j < 12
     ·rw [if_pos (by omega)]
      obtain ⟨b, d3, e3, hd3, hb⟩ := Nt j2 (by omega)
      have hsb := Bm hb
      rw [e3]
      simp only [Option.bind_some]
      rw [Ru hsb]
      simp only [Option.bind_some]
      split
      ·unfold Dq
       rw [Sp hs, Sp hsb]
       simp only [Option.bind_some]
       rw [Z8 (We hs)]
       simp only [Option.bind_some]
       split
       ·exact .inr ⟨_, rfl, fun p u hh => by cases hh; exact ⟨hb, hd3.mono (by omega)⟩, fun u hh => by cases hh⟩
       ·rw [Af (by unfold InI; omega)]
        exact .inl ⟨_, rfl, ⟨j + 1, rfl, by omega, hd3.mono (by omega)⟩, by first | omega | (dsimp only; omega)⟩
      ·rw [Af (by unfold InI; omega)]
       exact .inl ⟨_, rfl, ⟨j + 1, rfl, by omega, hd3.mono (by omega)⟩, by first | omega | (dsimp only; omega)⟩
     ·rw [if_neg (by omega)]
      exact .inr ⟨_, rfl, fun p u hh => (nomatch hh), fun u hh => by cases hh; exact j2.mono (by omega)⟩) (s := ((0 : Int), d2)) ⟨0, rfl, Nat.zero_le _, hd2.mono (by omega)⟩
    rw [e3]
    simp only [Option.bind_some]
    cases t with
    | inl q =>
      obtain ⟨q1, q2⟩ := q
      obtain ⟨s1, s2⟩ := t1 q1 q2 rfl
      exact ⟨_, rfl, fun p q u hh => by cases hh; exact ⟨s1, ha, s2⟩, fun u hh => by cases hh⟩
    | inr q => exact ⟨_, rfl, fun p q u hh => (nomatch hh), fun u hh => by cases hh; exact t2 _ rfl⟩
   ·rw [if_neg c3]
    exact ⟨_, rfl, fun p q u hh => (nomatch hh), fun u hh => by cases hh; exact hd2.mono (by omega)⟩
  refine Au4 (R := fun a b d => Cur (k + 20000) d ∧ Ep a ∧ Ep b) (mid rfl) fun t ht => ?_
  obtain ⟨t1, t2⟩ := ht
  cases t with
  | inl q =>
    obtain ⟨q1, q2, q3⟩ := q
    obtain ⟨s1, s2, s3⟩ := t1 q1 q2 q3 rfl
    exact ⟨_, _, _, rfl, s3.mono (by omega), s2, s1⟩
  | inr u =>
    have hu := t2 u rfl
    dsimp only
    rw [Arh hs]
    simp only [Option.bind_some]
    have hot : ∀ i, i < a.Ops.length → 1 ≤ (nth a.Ops i).Table.length := by
     intro i hi
     obtain ⟨r, _, _, l1, _⟩ := hr.op hi
     have := Nat.pow_pos (n := r) hr.pos
     omega
    obtain ⟨⟨b, d3⟩, e3, hb, hd3⟩ := Bq (body := Dt a) (fun s => ∃ i : Nat, s.1 = (i : Int) ∧ i ≤ a.Ops.length ∧ s.2.1.Ops.length = a.Ops.length ∧ (∀ z, z < a.Ops.length → (nth s.2.1.Ops z).Table.length = (nth a.Ops z).Table.length) ∧ Cur (k + 15000 + 4 * i) s.2.2) (fun s => a.Ops.length - s.1.toNat) (fun t => Ep t.1 ∧ Cur (k + 20000) t.2) (by
     rintro ⟨x, b, c⟩ ⟨i, rfl, i1, i2, i3, i4⟩
     dsimp only at i2 i3 i4
     have hal := ha.1
     unfold Dt
     dsimp only
     rw [i2]
     by_cases hi : i < a.Ops.length
     ·have h3 := i3 i hi
      have h4 := hot i hi
      rw [if_pos (by omega), Af (by omega), Int.toNat_natCast]
      obtain ⟨v, d4, e4, hd4, v0, v1⟩ := Ce i4 (by omega) ((nth b.Ops i).Table.length : Int)
      rw [e4]
      simp only [Option.bind_some]
      obtain ⟨w, d5, e5, hd5, _⟩ := Ce hd4 (by omega) b.Size
      rw [e5]
      simp only [Option.bind_some]
      rw [Af (by omega), Af (by unfold InI; omega)]
      refine .inl ⟨_, rfl, ⟨i + 1, rfl, by omega, by simpa using i2, fun z hz => ?_, hd5.mono (by omega)⟩, by first | omega | (dsimp only; omega)⟩
      dsimp only
      rw [Qk _ _ _ _ (by omega)]
      split
      ·rename_i hh
       subst hh
       simp only [List.length_set]; exact h3
      ·exact i3 z hz
     ·rw [if_neg (by omega)]
      refine .inr ⟨_, rfl, ⟨by first | omega | (dsimp only; omega), fun f hf => ?_⟩, i4.mono (by omega)⟩
      obtain ⟨z, hz, rfl⟩ := List.getElem_of_mem hf
      dsimp only at hz
      have h3 := i3 z (by omega)
      rw [Ft hz] at h3
      have := ha.2 _ (At (show z < a.Ops.length by omega))
      dsimp only
      omega) (s := ((0 : Int), a, u)) ⟨0, rfl, Nat.zero_le _, rfl, fun _ _ => rfl, hu.mono (by omega)⟩
    rw [e3]
    exact ⟨_, _, _, rfl, hd3, ha, hb⟩
 ·rw [decide_eq_false hg, if_neg (by simp)]
  obtain ⟨b, d2, e2, hd2, hb⟩ := Nt hd (by omega)
  rw [e2]
  exact ⟨_, _, _, rfl, hd2.mono (by omega), ha, hb⟩
section
variable {code : List Int} (hc : ∀ x ∈ code, 0 ≤ x ∧ x ≤ 255) (hl : code.length ≤ 65536)
include hc hl
theorem Ahp : ∃ a b f, Ef code = some (a, b, f) ∧ Ep a ∧ Ep b ∧ f.length ≤ 9 := by
 unfold Ef H7
 obtain ⟨a, b, d, e, hd, ha, hb⟩ := Abe (Alc hc hl) (by omega)
 rw [e]
 simp only [Option.bind_some]
 obtain ⟨f, d2, e2, _, hf⟩ := Wj hd (by omega) (Bm ha) (Bm hb)
 rw [e2]
 exact ⟨_, _, _, rfl, ha, hb, hf⟩
theorem Abh : ∃ a b c f g, C1 code = some (a, b, c, f, g) ∧ Ep a ∧ Ep b ∧ Ep c ∧ f.length ≤ 9 ∧ g.length ≤ 9 := by
 unfold C1
 obtain ⟨a, b, d, e, hd, ha, hb⟩ := Abe (Alc hc hl) (by omega)
 rw [e]
 simp only [Option.bind_some]
 obtain ⟨w, d2, e2, hd2⟩ := Vk hd (by omega) 3
 rw [e2]
 simp only [Option.bind_some]
 have hx : ∃ x, (if w = true then some (a, d2) else some (b, d2)) = some (x, d2) ∧ Ep x := by
  by_cases hw : w = true
  ·rw [if_pos hw]; exact ⟨a, rfl, ha⟩
  ·rw [if_neg hw]; exact ⟨b, rfl, hb⟩
 obtain ⟨x, ex, hx⟩ := hx
 rw [ex]
 simp only [Option.bind_some]
 obtain ⟨f, d3, e3, hd3, hf⟩ := Wj hd2 (by omega) (Bm ha) (Bm hb)
 rw [e3]
 simp only [Option.bind_some]
 obtain ⟨g, d4, e4, _, hg⟩ := Wj hd3 (by omega) (Bm hb) (Bm hx)
 rw [e4]
 exact ⟨_, _, _, _, _, rfl, ha, hb, hx, hf, hg⟩
theorem Ad2 : ∃ a b f, C9 code = some (a, b, f) ∧ Ep a ∧ Ep b ∧ f.length ≤ 9 := by
 unfold C9
 obtain ⟨a, b, d, e, hd, ha, hb⟩ := Abe (Alc hc hl) (by omega)
 rw [e]
 simp only [Option.bind_some]
 rw [Wl (Bm ha) (Bm hb)]
 simp only [Option.bind_some]
 have fin : ∀ c : Sl1Cur, Cur 30000 c → ∃ x y f, ((B3 c a b).bind fun (r13, _) => some (a, b, r13)) = some (x, y, f) ∧ Ep x ∧ Ep y ∧ f.length ≤ 9 := by
  intro c hcu
  obtain ⟨f, d2, e2, _, hf⟩ := Wj hcu (by omega) (Bm ha) (Bm hb)
  rw [e2]
  exact ⟨_, _, _, rfl, ha, hb, hf⟩
 by_cases h1 : I2 a b
 ·rw [show (decide (Bk a ∧ Bk b ∧ Bx a = Bx b)) = true from decide_eq_true h1, if_pos rfl]
  by_cases h2 : a.Size = b.Size
  ·rw [if_pos h2]
   obtain ⟨w, d2, e2, hd2⟩ := Vk hd (by omega) 3
   rw [e2]
   simp only [Option.bind_some]
   by_cases hw : (!w) = true
   ·rw [if_pos hw]
    obtain ⟨r, e3, hr⟩ := Ayx (Arp h1) true false
    rw [e3]
    simp only [Option.bind_some]
    by_cases hr2 : r.2 = true
    ·rw [if_pos hr2]
     exact ⟨_, _, _, rfl, ha, hb, by omega⟩
    ·rw [if_neg hr2]
     exact fin _ (hd2.mono (by omega))
   ·rw [if_neg hw]
    exact fin _ (hd2.mono (by omega))
  ·rw [if_neg h2]
   exact fin _ (hd.mono (by omega))
 ·rw [show (decide (Bk a ∧ Bk b ∧ Bx a = Bx b)) = false from decide_eq_false h1, if_neg (by simp)]
  exact fin _ (hd.mono (by omega))
end
end Go.Proofs.Ytiakjbigaaanhaa.Ax
