/-
 Plain facts, joined.
-/
import Derived.Test.YtidaaijecmkndaaPA
import Derived.Test.YtidaaijecmkndaaSo3
namespace Go.Proofs.Ytidaaijecmkndaa.Ax
open Go Classical
theorem Ai3 {n : Nat} (h : n ≤ 20) : (2 : Nat) ^ n ≤ 1048576 := by
 have : (2 : Nat) ^ n ≤ 2 ^ 20 := Nat.pow_le_pow_right (by omega) h
 omega
theorem Aci {n : Nat} (h : n ≤ 20) : Anr 1 (n : Int) = ((2 ^ n : Nat) : Int) := by
 have h1 := Ai3 h
 have e : min ((n : Int)).toNat IntKind.i64.bits = n := by
  have : IntKind.i64.bits = 64 := rfl
  rw [this, Int.toNat_natCast]; omega
 unfold Anr
 rw [e, Int.one_mul, show ((2 : Int) ^ n) = ((2 ^ n : Nat) : Int) by simp]
 generalize 2 ^ n = q at h1 ⊢
 exact Ou (by omega) (by omega)
theorem Acf (m : Nat) {x : Nat} (h : x ≤ 20) : Ait (m : Int) (x : Int) = ((m / 2 ^ x : Nat) : Int) := by
 have e : min ((x : Int)).toNat IntKind.i64.bits = x := by
  have : IntKind.i64.bits = 64 := rfl
  rw [this, Int.toNat_natCast]; omega
 unfold Ait
 rw [e, Int.fdiv_eq_ediv_of_nonneg _ (Int.pow_nonneg (by omega)), show ((2 : Int) ^ x) = ((2 ^ x : Nat) : Int) by simp]
 rfl
theorem Aog {m : Nat} (h : m ≤ 1048576) : Anw (m : Int) 1 = ((m % 2 : Nat) : Int) := by
 unfold Anw
 have e : (BitVec.ofInt IntKind.i64.bits (m : Int) &&& BitVec.ofInt IntKind.i64.bits 1).toNat = m % 2 := by
  have hb : IntKind.i64.bits = 64 := rfl
  rw [hb, BitVec.toNat_and, BitVec.toNat_ofInt, BitVec.toNat_ofInt]
  have e1 : ((m : Int) % ((2 ^ 64 : Nat) : Int)).toNat = m := by omega
  have e2 : ((1 : Int) % ((2 ^ 64 : Nat) : Int)).toNat = 1 := by decide
  rw [e1, e2, Nat.and_one_is_mod]
 rw [e]
 exact Ou (by omega) (by omega)
def Gh (m i : Nat) : Bool := decide (m / 2 ^ i % 2 = 1)
theorem Anm {q : Nat → Bool} {i : Nat} : ∀ {n : Nat}, i ≤ n → (∀ j, i ≤ j → j < n → q j = false) → Ar n q = Ar i q := by
 intro n
 induction n with
 | zero => intro h _; have : i = 0 := by omega
           subst this; rfl
 | succ n ih =>
   intro h hq
   by_cases hi : i = n + 1
   ·subst hi; rfl
   ·rw [Dg, hq n (by omega) (by omega), if_neg (by simp)]
    exact ih (by omega) fun j h1 h2 => hq j h1 (by omega)
theorem Asw {m i j : Nat} (h : m / 2 ^ i = 0) (hj : i ≤ j) : Gh m j = false := by
 have h1 : m < 2 ^ i := by
  rcases Nat.lt_or_ge m (2 ^ i) with h1 | h1
  ·exact h1
  ·have := Nat.div_pos h1 (Nat.pow_pos (by omega)); omega
 have h2 : (2 : Nat) ^ i ≤ 2 ^ j := Nat.pow_le_pow_right (by omega) hj
 unfold Gh
 rw [Nat.div_eq_of_lt (by omega)]; simp
theorem Ahs {body : (Int × List Int) → Option ((Int × List Int) ⊕ List Int)} {m n : Nat} (hm : m < 2 ^ n)
  (h0 : ∀ (i : Nat) acc, i ≤ n → m / 2 ^ i = 0 → body ((i : Int), acc) = some (.inr acc))
  (h1 : ∀ (i : Nat) acc, i < n → acc.length ≤ i → ¬ m / 2 ^ i = 0 → body ((i : Int), acc) = some (.inl (((i + 1 : Nat) : Int), if Gh m i then acc ++ [(i : Int)] else acc))) : Ap body (0, A9 Int) = some (Ar n (Gh m)) := by
 have e0 : ((0 : Int), A9 Int) = (((0 : Nat) : Int), Ar 0 (Gh m)) := rfl
 rw [e0]
 rcases P8 (body := body) (fun i => ((i : Int), Ar i (Gh m))) n (fun i => m / 2 ^ i = 0) (fun i => Ar i (Gh m)) (Ar n (Gh m)) (fun i hi hh => by
   rw [h1 i _ hi (Dw _ _) hh, Dg]) (fun i hi hh => h0 i _ (by omega) hh) (h0 n _ (Nat.le_refl _) (Nat.div_eq_of_lt hm)) with ⟨i, hi, hh, _, e⟩ | ⟨_, e⟩
 ·rw [e, Anm (q := Gh m) (n := n) (by omega) fun j hj _ => Asw hh hj]
 ·exact e
theorem Atq (m i : Nat) : m / 2 ^ i ≤ m := Nat.div_le_self _ _
theorem Asd {m n : Nat} (hn : n ≤ 20) (hm : m < 2 ^ n) : In (m : Int) = some (Ar n (Gh m)) := by
 unfold In
 have hp := Ai3 hn
 rw [Ahs (body := Eg (m : Int)) hm (fun i acc hi hh => by
  unfold Eg
  dsimp only
  rw [Ae (by omega), Acf m (by omega), hh, if_neg (by omega)]) (fun i acc hi ha hh => by
  unfold Eg Gh
  dsimp only
  have hd := Atq m i
  rw [Ae (by omega), Acf m (by omega)]
  generalize m / 2 ^ i = q at *
  rw [if_pos (by omega), Ae (by omega), Aog (by omega)]
  by_cases hb : q % 2 = 1
  ·rw [if_pos (by omega), Ae (by rw [At]; simp; omega), Ae (by unfold InI; omega), decide_eq_true hb, if_pos rfl]; rfl
  ·rw [if_neg (by omega), Ae (by unfold InI; omega), decide_eq_false hb, if_neg (by simp)]; rfl)]
 rfl
theorem Ass {m n : Nat} (hn : n ≤ 20) (hm : m < 2 ^ n) : Io (m : Int) = some (Ar n (Gh m)) := by
 unfold Io
 have hp := Ai3 hn
 rw [Ahs (body := Ek (m : Int)) hm (fun i acc hi hh => by
  unfold Ek
  dsimp only
  rw [Ae (by omega), Acf m (by omega), hh, if_neg (by omega)]) (fun i acc hi ha hh => by
  unfold Ek Gh
  dsimp only
  have hd := Atq m i
  rw [Ae (by omega), Acf m (by omega)]
  generalize m / 2 ^ i = q at *
  rw [if_pos (by omega), Ae (by omega), Aog (by omega)]
  by_cases hb : q % 2 = 1
  ·rw [if_pos (by omega), Ae (by rw [At]; simp; omega), Ae (by unfold InI; omega), decide_eq_true hb, if_pos rfl]; rfl
  ·rw [if_neg (by omega), Ae (by unfold InI; omega), decide_eq_false hb, if_neg (by simp)]; rfl)]
 rfl
def Vx (a b : List Int) : Prop := ∃ i, i < a.length ∧ (∀ j, j < i → nth a j = nth b j) ∧ nth a i < nth b i
theorem Aso {a b : List Int} (hl : a.length = b.length) (h : a.length ≤ LIM) : Is a b = some (decide (Vx a b)) := by
 unfold Is
 rw [At] at h
 rw [show ((0 : Int)) = (((0 : Nat)) : Int) from rfl]
 rcases P8 (body := Dd a b) (fun i => (i : Int)) a.length (fun i => nth a i ≠ nth b i) (fun i => .inl (decide (nth a i < nth b i))) (.inr ()) (fun i hi hh => by
   unfold Dd
   rw [if_pos (by omega), Ae (by omega), Ae (by omega), Int.toNat_natCast, if_neg hh, Ae (by unfold InI; omega)]; rfl) (fun i hi hh => by
   unfold Dd
   rw [if_pos (by omega), Ae (by omega), Ae (by omega), Int.toNat_natCast, if_pos hh, Ae (by omega), Ae (by omega)]) (by
   unfold Dd
   rw [if_neg (by omega)]) with ⟨i, hi, hh, hf, e⟩ | ⟨hn, e⟩
 ·rw [e]
  simp only [Option.bind_some]
  congr 1
  rw [decide_eq_decide]
  constructor
  ·intro hlt
   exact ⟨i, hi, fun j hj => Classical.not_not.1 (hf j hj), hlt⟩
  ·rintro ⟨k, hk, h1, h2⟩
   rcases Nat.lt_trichotomy k i with hki | hki | hki
   ·have := Classical.not_not.1 (hf k hki); omega
   ·subst hki; exact h2
   ·exact absurd (h1 i hki) hh
 ·rw [e, decide_eq_false]
  ·rfl
  ·rintro ⟨k, hk, _, h2⟩
   have := Classical.not_not.1 (hn k hk); omega
theorem Ael {a b : List Int} (hl : a.length = b.length) (h : a.length ≤ LIM) : ∃ c, D6 a b = some c ∧ (¬ c ≥ 0 ↔ Vx a b) := by
 unfold D6
 rw [At] at h
 rw [show ((0 : Int)) = (((0 : Nat)) : Int) from rfl]
 rcases P8 (body := B6 a b) (fun i => (i : Int)) a.length (fun i => nth a i ≠ nth b i) (fun i => .inl (if nth a i < nth b i then -1 else 1)) (.inr ()) (fun i hi hh => by
   unfold B6
   rw [if_pos (by omega), if_pos (by omega)]
   simp only [Option.bind_some]
   rw [Ae (by omega), Ae (by omega), Int.toNat_natCast, if_neg hh, Ae (by unfold InI; omega)]; rfl) (fun i hi hh => by
   unfold B6
   rw [if_pos (by omega), if_pos (by omega)]
   simp only [Option.bind_some]
   rw [Ae (by omega), Ae (by omega), Int.toNat_natCast, if_pos hh, Ae (by omega), Ae (by omega)]
   split <;> rfl) (by
   unfold B6
   rw [if_neg (by omega)]; rfl) with ⟨i, hi, hh, hf, e⟩ | ⟨hn, e⟩
 ·rw [e]
  refine ⟨_, rfl, ?_⟩
  constructor
  ·intro hlt
   refine ⟨i, hi, fun j hj => Classical.not_not.1 (hf j hj), ?_⟩
   by_cases hc : nth a i < nth b i
   ·exact hc
   ·rw [if_neg hc] at hlt; omega
  ·rintro ⟨k, hk, h1, h2⟩
   have hki : k = i := by
    rcases Nat.lt_trichotomy k i with hki | hki | hki
    ·have := Classical.not_not.1 (hf k hki); omega
    ·exact hki
    ·exact absurd (h1 i hki) hh
   subst hki
   rw [if_pos h2]; omega
 ·rw [e]
  simp only [Option.bind_some]
  rw [if_neg (by omega), if_neg (by omega)]
  refine ⟨_, rfl, ?_⟩
  constructor
  ·intro hc; omega
  ·rintro ⟨k, hk, _, h2⟩
   have := Classical.not_not.1 (hn k hk); omega
def Awt (f : Nat → Nat → Bool) (ls : List Int) : Prop := ∀ x ∈ ls, ∀ y ∈ ls, ¬ (x.toNat ≠ y.toNat ∧ f x.toNat y.toNat = true)
theorem Ad5 (n : Nat) (q : Nat → Bool) : B3 (Ar n q) n := by
 intro x hx
 obtain ⟨z, h1, _, rfl⟩ := Gx.1 hx
 omega
section
end
end Go.Proofs.Ytidaaijecmkndaa.Ax
namespace Go.Proofs.Ytidaaijecmkndaa.Ax
open Go Classical
theorem Ak3 (m i : Nat) : Gh m i = m.testBit i := by
 unfold Gh
 rw [Nat.testBit_eq_decide_div_mod_eq]
def pc (n m : Nat) : Nat := (Ar n (Gh m)).length
theorem Aqr {q q' : Nat → Bool} {x : Nat} (hq : q x = false) (h : ∀ i, q' i = (q i || decide (x = i))) : ∀ n, (Ar n q').length = (Ar n q).length + if x < n then 1 else 0 := by
 intro n
 induction n with
 | zero => simp [Ar]
 | succ n ih =>
   rw [Dg, Dg, h n]
   by_cases hxn : x = n
   ·subst hxn
    rw [hq]
    simp only [decide_true, Bool.or_true, if_true, Bool.false_eq_true, if_false]
    rw [List.length_append, ih, if_neg (by omega), if_pos (by omega)]; rfl
   ·rw [decide_eq_false hxn, Bool.or_false]
    by_cases hqn : q n = true
    ·rw [if_pos hqn, if_pos hqn, List.length_append, List.length_append, ih]
     by_cases hx : x < n
     ·rw [if_pos hx, if_pos (by omega)]; simp
     ·rw [if_neg hx, if_neg (by omega)]; rfl
    ·rw [if_neg hqn, if_neg hqn, ih]
     by_cases hx : x < n
     ·rw [if_pos hx, if_pos (by omega)]
     ·rw [if_neg hx, if_neg (by omega)]
def wt (n m : Nat) : Nat := 10 ^ (10 - pc n m)
def phi (n : Nat) (ws : List Int) : Nat → Nat → Int
 | _, 0 => 0
 | M, k + 1 => nth ws M * wt n M + phi n ws (M + 1) k
section
variable {n : Nat} {f : Nat → Nat → Bool}
structure okW (n m : Nat) (ws : List Int) : Prop where
 len : ws.length = 2 ^ n
 pos : ∀ i, i < ws.length → 0 ≤ nth ws i
 sum : phi n ws m (2 ^ n - m) ≤ 10000000000
end
section
end
end Go.Proofs.Ytidaaijecmkndaa.Ax
namespace Go.Proofs.Ytidaaijecmkndaa.Ax
open Go Classical
section
variable {n : Nat} {ps : List (Int × Int)}
end
end Go.Proofs.Ytidaaijecmkndaa.Ax
namespace Go.Proofs.Ytidaaijecmkndaa.Ax
open Go Classical
theorem Asq (xs : List Int) (x : Int) (h : xs.length ≤ LIM) : Im xs x = some (decide (x ∉ xs)) := by
 unfold Im
 rw [At] at h
 rw [show ((0 : Int)) = (((0 : Nat)) : Int) from rfl]
 rcases P8 (body := Df xs x) (fun i => (i : Int)) xs.length (fun i => x = nth xs i) (fun _ => .inl ()) (.inr ()) (fun i hi hh => by
   unfold Df
   rw [if_pos (by omega), Ae (by omega), Int.toNat_natCast, if_neg hh, Ae (by unfold InI; omega)]; rfl) (fun i hi hh => by
   unfold Df
   rw [if_pos (by omega), Ae (by omega), Int.toNat_natCast, if_pos hh]) (by
   unfold Df
   rw [if_neg (by omega)]) with ⟨i, hi, hh, _, e⟩ | ⟨hn, e⟩
 ·rw [e, decide_eq_false (fun hc => hc (by rw [hh]; exact Bu hi))]; rfl
 ·rw [e]
  have : decide (x ∉ xs) = true := decide_eq_true (fun hc => by
   obtain ⟨i, hi, hx⟩ := G3.1 hc
   exact hn i hi hx.symm)
  rw [this]; rfl
theorem Ar8 {q q' : Nat → Bool} : ∀ (n : Nat), (∀ i, i < n → q i = true → q' i = true) → (Ar n q).length ≤ (Ar n q').length := by
 intro n
 induction n with
 | zero => intro _; simp [Ar]
 | succ n ih =>
   intro h
   have := ih fun i hi => h i (by omega)
   rw [Dg, Dg]
   by_cases hq : q n = true
   ·rw [if_pos hq, if_pos (h n (by omega) hq), List.length_append, List.length_append]; simp; omega
   ·rw [if_neg hq]
    split
    ·rw [List.length_append]; omega
    ·exact this
theorem As2 {q q' : Nat → Bool} {x : Nat} (hx : q x = false) (hx' : q' x = true) : ∀ (n : Nat), x < n → (∀ i, i < n → q i = true → q' i = true) → (Ar n q).length < (Ar n q').length := by
 intro n
 induction n with
 | zero => intro h _; omega
 | succ n ih =>
   intro hn h
   rw [Dg, Dg]
   by_cases hxn : x = n
   ·subst hxn
    have := Ar8 x fun i hi => h i (by omega)
    rw [hx, hx', if_neg (by simp), if_pos rfl, List.length_append]; simp; omega
   ·have := ih (by omega) fun i hi => h i (by omega)
    by_cases hq : q n = true
    ·rw [if_pos hq, if_pos (h n (by omega) hq), List.length_append, List.length_append]; simp; omega
    ·rw [if_neg hq]
     split
     ·rw [List.length_append]; omega
     ·exact this
section
variable {n : Nat} {f : Nat → Nat → Bool}
end
section
end
end Go.Proofs.Ytidaaijecmkndaa.Ax
namespace Go.Proofs.Ytidaaijecmkndaa.Ax
open Go Classical
theorem Akh {xs : List Int} : Mp xs ↔ xs.Pairwise (· < ·) := by
 constructor
 ·intro h
  refine List.pairwise_iff_getElem.2 fun i j hi hj hij => ?_
  have := Alr h hij hj
  rwa [Dp hi, Dp hj] at this
 ·intro h i h1 h2
  have := List.pairwise_iff_getElem.1 h (i - 1) i (by omega) h2 (by omega)
  rwa [Dp (by omega), Dp h2]
noncomputable def round (n : Nat) (g h : Nat → Nat → Nat) (S : Nat → Bool) : Nat → Bool := fun z => decide (S z = true ∨ ∃ x y, x < n ∧ y < n ∧ S x = true ∧ S y = true ∧ (z = g x y ∨ z = h x y))
noncomputable def Ajy (n : Nat) (g h : Nat → Nat → Nat) (S : Nat → Bool) : Nat → Nat → Bool
 | 0 => S
 | k + 1 => round n g h (Ajy n g h S k)
section
variable {n : Nat} {g h : Nat → Nat → Nat} {S : Nat → Bool}
def Awv (n : Nat) (g h : Nat → Nat → Nat) (S : Nat → Bool) (k : Nat) : Prop := ∀ z, z < n → Ajy n g h S (k + 1) z = Ajy n g h S k z
noncomputable def closed (n : Nat) (g h : Nat → Nat → Nat) (S : Nat → Bool) : Nat → Bool := Ajy n g h S n
theorem W1 {xs : List Int} (hx : B3 xs n) (hr : Mp xs) : Ar n (fun z => decide ((z : Int) ∈ xs)) = xs := by
 refine Arc (Uf _ _) hr fun x => ?_
 rw [Gx]
 constructor
 ·rintro ⟨i, _, h1, rfl⟩; simpa using h1
 ·intro h1
  have := hx x h1
  exact ⟨x.toNat, by omega, by simpa [show ((x.toNat : Nat) : Int) = x by omega] using h1, by omega⟩
def Awr (n : Nat) (S : Nat → Bool) : List Nat := (List.range n).filter S
end
end Go.Proofs.Ytidaaijecmkndaa.Ax
namespace Go.Proofs.Ytidaaijecmkndaa.Ax
open Go Classical
theorem Asr {xs ys : List Int} (h : xs.length ≤ LIM) : Iv xs ys = some (decide (xs = ys)) := by
 unfold Iv
 rw [At] at h
 split
 ·rename_i hl
  rw [decide_eq_false]
  rintro rfl; exact hl rfl
 rename_i hl
 have hl : xs.length = ys.length := by omega
 have := F7 (body := Dc xs ys) (fun i => (i : Int)) xs.length (fun i => ¬ nth xs i = nth ys i) () () (fun i hi hb => by
  unfold Dc
  rw [if_pos (by omega), Ae (by omega), Ae (by omega)]
  simp only [Int.toNat_natCast]
  rw [if_neg (by simpa using hb), Ae (by unfold InI; omega)]; rfl) (fun i hi hb => by
  unfold Dc
  rw [if_pos (by omega), Ae (by omega), Ae (by omega)]
  simp only [Int.toNat_natCast]
  rw [if_pos hb]) (by unfold Dc; rw [if_neg (by omega)]) 0 (by omega)
 show ((Ap _ ((0 : Nat) : Int)).bind _) = _
 rw [this]
 by_cases hx : ∃ i, 0 ≤ i ∧ i < xs.length ∧ ¬ nth xs i = nth ys i
 ·rw [if_pos hx, decide_eq_false]
  ·rfl
  ·rintro rfl; obtain ⟨i, _, _, hc⟩ := hx; exact hc rfl
 ·rw [if_neg hx, decide_eq_true (Lg hl (Ls.1 hx))]
  rfl
theorem Ai2 {n : Nat} (hn : n ≤ LIM) {xs : List Int} (hx : B3 xs n) (hl : xs.length ≤ LIM) : F9 xs n = some (Dv n fun z => decide ((z : Int) ∈ xs)) := by
 unfold F9
 have hn' := hn
 rw [At] at hl hn'
 rw [Ae (by rw [At]; omega)]
 have key := C8 (body := E7 xs) (fun i => ((i : Int), Dv n fun z => decide ((z : Int) ∈ xs.take i))) xs.length (Dv n fun z => decide ((z : Int) ∈ xs)) (fun i hi => by
  unfold E7
  dsimp only
  have hc := hx _ (Bu hi)
  have hlen := E9 n fun z => decide ((z : Int) ∈ xs.take i)
  rw [if_pos (by omega), Ae (by omega), Int.toNat_natCast, Ae (by rw [hlen]; omega), Ae (by unfold InI; omega), Alv (by omega)]
  congr 3
  refine R9 fun z _ => ?_
  rw [Ny hi]
  by_cases hz : z = (nth xs i).toNat
  ·rw [if_pos hz]
   refine (decide_eq_true ?_).symm
   rw [List.mem_append, List.mem_singleton]; right; omega
  ·rw [if_neg hz, decide_eq_decide, List.mem_append, List.mem_singleton]
   exact ⟨.inl, fun h => h.resolve_right (by omega)⟩) (by
  unfold E7
  dsimp only
  rw [if_neg (by omega), List.take_length])
 have e0 : (Dv n fun z => decide ((z : Int) ∈ xs.take 0)) = List.replicate n false := by
  rw [Anp]; exact R9 fun z _ => by simp
 simp only [e0] at key
 rw [Int.toNat_natCast]
 show (Ap _ (((0 : Nat) : Int), _)).bind _ = _
 rw [key]; rfl
theorem Uu {n : Nat} (hn : n ≤ LIM) (S : Nat → Bool) : Ee (Dv n S) = some (Ar n S) := by
 unfold Ee
 have hn' := hn
 rw [At] at hn'
 have hl := E9 n S
 rw [Adi n S (fun i acc hi ha => by
  unfold F2
  dsimp only
  rw [if_pos (by omega), Ae (by omega), Int.toNat_natCast, Ez hi]
  by_cases hp : S i = true
  ·rw [if_pos hp, if_pos hp, Ae (by rw [At]; simp; omega), Ae (by unfold InI; omega)]; rfl
  ·rw [if_neg hp, if_neg hp, Ae (by unfold InI; omega)]; rfl) (fun acc => by
  unfold F2
  dsimp only
  rw [if_neg (by omega)])]
 rfl
section
end
end Go.Proofs.Ytidaaijecmkndaa.Ax
namespace Go.Proofs.Ytidaaijecmkndaa.Ax
open Go Classical
def G1 (a : SAlgebra) : Prop := a.Ops.length ≤ 1048576 ∧ ∀ f ∈ a.Ops, f.Table.length ≤ 1048576
end Go.Proofs.Ytidaaijecmkndaa.Ax
namespace Go.Proofs.Ytidaaijecmkndaa.Ax
open Go Classical
end Go.Proofs.Ytidaaijecmkndaa.Ax
namespace Go.Proofs.Ytidaaijecmkndaa.Ax
open Go Classical
section
end
end Go.Proofs.Ytidaaijecmkndaa.Ax
namespace Go.Proofs.Ytidaaijecmkndaa.Ax
open Go Classical
def Arw (n : Nat) (f : SOp) : Prop := 0 ≤ f.Arity ∧ f.Arity ≤ 3 ∧ f.Table.length = n ^ f.Arity.toNat ∧ B3 f.Table n
def Qk (a : SAlgebra) : Prop := 1 ≤ a.Size ∧ a.Size ≤ 8 ∧ a.Ops.length ≤ 4 ∧ ∀ f ∈ a.Ops, Arw a.Size.toNat f
theorem Ade {n k : Nat} (hn : n ≤ 8) (hk : k ≤ 3) : n ^ k ≤ 512 :=
 Nat.le_trans (Nat.pow_le_pow_left hn k) (Nat.le_trans (Nat.pow_le_pow_right (by omega) hk) (by decide))
theorem Auu {n k : Nat} (hn : n ≤ 8) (hk : k ≤ 3) : H5 n k = some ((n ^ k : Nat) : Int) := by
 unfold H5
 have key := C8 (body := D2 n) (fun j => (((n ^ j : Nat) : Int), ((k : Int) - (j : Int)))) k ((n ^ k : Nat) : Int) (fun j hj => by
  unfold D2
  dsimp only
  have hp := Ade hn (show j + 1 ≤ 3 by omega)
  rw [Nat.pow_succ] at hp
  rw [if_pos (by omega), ← Int.natCast_mul, Nat.pow_succ]
  generalize n ^ j * n = N at hp ⊢
  rw [Ae (by unfold InI; omega), Ae (by unfold InI; omega), show ((k : Int) - (j : Int) - 1) = (k : Int) - ((j + 1 : Nat) : Int) by omega]) (by
  unfold D2
  dsimp only
  rw [if_neg (by omega)])
 have key' : Ap (D2 n) (1, (k : Int)) = some ((n ^ k : Nat) : Int) := by simpa using key
 rw [key']; rfl
theorem Aoj {n k : Nat} (hn : n ≤ 8) (hk : k ≤ 3) : Ga n k = some ((n ^ k : Nat) : Int) := by
 unfold Ga
 have key := C8 (body := D3 n) (fun j => (((n ^ j : Nat) : Int), ((k : Int) - (j : Int)))) k ((n ^ k : Nat) : Int) (fun j hj => by
  unfold D3
  dsimp only
  have hp := Ade hn (show j + 1 ≤ 3 by omega)
  rw [Nat.pow_succ] at hp
  rw [if_pos (by omega), ← Int.natCast_mul, Nat.pow_succ]
  generalize n ^ j * n = N at hp ⊢
  rw [Ae (by unfold InI; omega), Ae (by unfold InI; omega), show ((k : Int) - (j : Int) - 1) = (k : Int) - ((j + 1 : Nat) : Int) by omega]) (by
  unfold D3
  dsimp only
  rw [if_neg (by omega)])
 have key' : Ap (D3 n) (1, (k : Int)) = some ((n ^ k : Nat) : Int) := by simpa using key
 rw [key']; rfl
theorem As4 {n : Nat} (hn : n ≤ 8) {f : SOp} (hl : f.Table.length ≤ LIM) : Lu f n = some (decide (Arw n f)) := by
 unfold Lu
 by_cases h0 : 0 ≤ f.Arity
 ·rw [if_pos (show f.Arity ≥ 0 from h0)]
  by_cases h3 : f.Arity ≤ 3
  ·have e : H5 (n : Int) f.Arity = some ((n ^ f.Arity.toNat : Nat) : Int) := by
    have := Auu hn (k := f.Arity.toNat) (by omega)
    rwa [show ((f.Arity.toNat : Nat) : Int) = f.Arity by omega] at this
   rw [if_pos h3, e]
   simp only [Option.bind_some]
   by_cases hL : f.Table.length = n ^ f.Arity.toNat
   ·rw [if_pos (by rw [hL]), Ac8 _ _ hl]
    simp only [Option.bind_some]
    congr 1
    rw [decide_eq_decide]
    exact ⟨fun h => ⟨h0, h3, hL, h⟩, fun h => h.2.2.2⟩
   ·rw [if_neg (fun hc => hL (Int.ofNat_inj.1 hc)), decide_eq_false (fun h => hL h.2.2.1)]
  ·rw [if_neg h3, decide_eq_false (fun h => h3 h.2.1)]
 ·rw [if_neg (by omega), decide_eq_false (fun h => h0 h.1)]
theorem Asl {n : Nat} (hn1 : 1 ≤ n) (hn : n ≤ 8) {f : SOp} (hl : f.Table.length ≤ LIM) : Lz n f = some (decide (Arw n f)) := by
 unfold Lz
 rw [Tq]
 simp only [Option.bind_some]
 by_cases h0 : 0 ≤ f.Arity ∧ f.Arity ≤ 3
 ·have e : Ga (n : Int) f.Arity = some ((n ^ f.Arity.toNat : Nat) : Int) := by
   have := Aoj hn (k := f.Arity.toNat) (by omega)
   rwa [show ((f.Arity.toNat : Nat) : Int) = f.Arity by omega] at this
  rw [decide_eq_true h0, if_pos rfl, e]
  simp only [Option.bind_some]
  by_cases hL : f.Table.length = n ^ f.Arity.toNat
  ·rw [if_neg (by rw [hL]; simp)]
   simp only [Option.bind_some]
   have hl' := hl
   rw [At] at hl'
   have this := F7 (body := El n f) (fun i => (i : Int)) f.Table.length (fun i => ¬ (0 ≤ nth f.Table i ∧ nth f.Table i ≤ (n : Int) - 1)) () () (fun i hi hb => by
    unfold El
    rw [if_pos (by omega), Ae (by omega), Ae (by unfold InI; omega), Tq]
    simp only [Int.toNat_natCast, Option.bind_some]
    rw [decide_eq_true (Classical.not_not.1 hb), if_pos rfl, Ae (by unfold InI; omega)]; rfl) (fun i hi hb => by
    unfold El
    rw [if_pos (by omega), Ae (by omega), Ae (by unfold InI; omega), Tq]
    simp only [Int.toNat_natCast, Option.bind_some]
    rw [decide_eq_false hb, if_neg (by simp)]) (by
    unfold El
    rw [if_neg (by omega)]) 0 (by omega)
   refine (H2 this false true).trans (congrArg some (Oz ?_))
   rw [Ls]
   constructor
   ·intro h
    refine ⟨h0.1, h0.2, hL, fun x hx => ?_⟩
    obtain ⟨i, hi, rfl⟩ := G3.1 hx
    have := h i hi; omega
   ·intro h i hi
    have := h.2.2.2 _ (Bu hi); omega
  ·rw [if_pos (fun hc => hL (Int.ofNat_inj.1 hc)), decide_eq_false (fun h => hL h.2.2.1)]; rfl
 ·rw [decide_eq_false h0, if_neg (by simp), decide_eq_false (fun h => h0 ⟨h.1, h.2.1⟩)]; rfl
theorem Ot {a : SAlgebra} (h : G1 a) : Cr a = some (decide (Qk a)) := by
 unfold Cr
 by_cases h1 : a.Size < 1
 ·rw [if_pos h1, decide_eq_false (fun hg => by have := hg.1; omega)]; rfl
 rw [if_neg h1]
 by_cases h8 : a.Size > 8
 ·rw [if_pos h8, decide_eq_false (fun hg => by have := hg.2.1; omega)]; rfl
 rw [if_neg h8]
 by_cases h4 : (a.Ops.length : Int) > 4
 ·rw [if_pos h4, decide_eq_false (fun hg => by have := hg.2.2.1; omega)]; rfl
 rw [if_neg h4]
 simp only [Option.bind_some]
 obtain ⟨n, hn⟩ := Int.eq_ofNat_of_zero_le (show 0 ≤ a.Size by omega)
 have this := F7 (body := Cf a) (fun i => (i : Int)) a.Ops.length (fun i => ¬ Arw n (nth a.Ops i)) () () (fun i hi hb => by
  have hl := h.2 _ (Bu hi)
  unfold Cf
  rw [if_pos (by omega), Ae (by omega), Int.toNat_natCast, hn, As4 (by omega) (by rw [At]; omega)]
  simp only [Option.bind_some]
  rw [decide_eq_true (Classical.not_not.1 hb), if_pos rfl, Ae (by unfold InI; omega)]; rfl) (fun i hi hb => by
  have hl := h.2 _ (Bu hi)
  unfold Cf
  rw [if_pos (by omega), Ae (by omega), Int.toNat_natCast, hn, As4 (by omega) (by rw [At]; omega)]
  simp only [Option.bind_some]
  rw [decide_eq_false hb, if_neg (by simp)]) (by
  unfold Cf
  rw [if_neg (by omega)]) 0 (by omega)
 refine (H2 this false true).trans (congrArg some (Oz ?_))
 rw [Ls]
 have hnn : a.Size.toNat = n := by omega
 constructor
 ·intro hh
  refine ⟨by omega, by omega, by omega, fun f hf => ?_⟩
  obtain ⟨i, hi, rfl⟩ := G3.1 hf
  rw [hnn]; exact hh i hi
 ·intro hg i hi
  have := hg.2.2.2 _ (Bu hi)
  rwa [hnn] at this
theorem X7 {a : SAlgebra} (h : G1 a) : Cw a = some (decide (Qk a)) := by
 unfold Cw
 rw [Tq]
 simp only [Option.bind_some]
 by_cases h1 : 1 ≤ a.Size ∧ a.Size ≤ 8
 ·rw [decide_eq_true h1, if_pos rfl]
  by_cases h4 : (a.Ops.length : Int) > 4
  ·rw [if_pos h4, decide_eq_false (fun hg => by have := hg.2.2.1; omega)]; rfl
  rw [if_neg h4]
  simp only [Option.bind_some]
  obtain ⟨n, hn⟩ := Int.eq_ofNat_of_zero_le (show 0 ≤ a.Size by omega)
  have this := F7 (body := Dh a) (fun i => (i : Int)) a.Ops.length (fun i => ¬ Arw n (nth a.Ops i)) () () (fun i hi hb => by
   have hl := h.2 _ (Bu hi)
   unfold Dh
   rw [if_pos (by omega), Ae (by omega), Int.toNat_natCast, hn, Asl (by omega) (by omega) (by rw [At]; omega)]
   simp only [Option.bind_some]
   rw [decide_eq_true (Classical.not_not.1 hb), if_pos rfl, Ae (by unfold InI; omega)]; rfl) (fun i hi hb => by
   have hl := h.2 _ (Bu hi)
   unfold Dh
   rw [if_pos (by omega), Ae (by omega), Int.toNat_natCast, hn, Asl (by omega) (by omega) (by rw [At]; omega)]
   simp only [Option.bind_some]
   rw [decide_eq_false hb, if_neg (by simp)]) (by
   unfold Dh
   rw [if_neg (by omega)]) 0 (by omega)
  refine (H2 this false true).trans (congrArg some (Oz ?_))
  rw [Ls]
  have hnn : a.Size.toNat = n := by omega
  constructor
  ·intro hh
   refine ⟨by omega, by omega, by omega, fun f hf => ?_⟩
   obtain ⟨i, hi, rfl⟩ := G3.1 hf
   rw [hnn]; exact hh i hi
  ·intro hg i hi
   have := hg.2.2.2 _ (Bu hi)
   rwa [hnn] at this
 ·rw [decide_eq_false h1, if_neg (by simp), decide_eq_false (fun hg => h1 ⟨hg.1, hg.2.1⟩)]; rfl
def Alp (a : SAlgebra) : List Int := a.Ops.map (·.Arity)
end Go.Proofs.Ytidaaijecmkndaa.Ax
namespace Go.Proofs.Ytidaaijecmkndaa.Ax
open Go Classical
def Tc (n : Nat) : Nat → Nat → List Int
 | 0, _ => []
 | r + 1, k => Tc n r (k / n) ++ [((k % n : Nat) : Int)]
theorem Aeq (n : Nat) : ∀ r k, (Tc n r k).length = r := by
 intro r
 induction r with
 | zero => intro k; rfl
 | succ r ih => intro k; simp [Tc, ih]
theorem Aiw {n : Nat} (hn : 0 < n) : ∀ r k, B3 (Tc n r k) n := by
 intro r
 induction r with
 | zero => intro k x hx; cases hx
 | succ r ih =>
   intro k x hx
   simp only [Tc] at hx
   rcases List.mem_append.1 hx with hx | hx
   ·exact ih _ x hx
   ·rw [List.mem_singleton.1 hx]
    have := Nat.mod_lt k hn
    omega
theorem Atx {n : Nat} (hn : 0 < n) (hn8 : n ≤ 8) : ∀ (r k : Nat) (xs : List Int), r ≤ xs.length → xs.length ≤ 1000 → k ≤ 1048576 → Ap (De n) ((r : Int) - 1, xs, (k : Int)) = some (Tc n r k ++ xs.drop r) := by
 intro r
 induction r with
 | zero =>
   intro k xs _ _ _
   refine I3 ?_
   unfold De
   dsimp only
   rw [if_neg (by omega)]
   simp [Tc]
 | succ r ih =>
   intro k xs hr hl hk
   have c1 : (k : Int).tdiv (n : Int) = ((k / n : Nat) : Int) := rfl
   have c2 : (k : Int).tmod (n : Int) = ((k % n : Nat) : Int) := rfl
   have hd : k / n ≤ k := Nat.div_le_self k n
   have step : De n (((r + 1 : Nat) : Int) - 1, xs, (k : Int)) = some (.inl ((r : Int) - 1, xs.set r ((k % n : Nat) : Int), ((k / n : Nat) : Int))) := by
    unfold De
    dsimp only
    rw [show (((r + 1 : Nat) : Int) - 1) = (r : Int) by omega, c1, c2]
    generalize k / n = kd at hd
    rw [if_pos (by omega), Ae (by omega), Ae (by omega), Ae (by unfold InI; omega), Ae (by unfold InI; omega), Int.toNat_natCast]
   rw [Rx step, ih _ _ (by rw [List.length_set]; omega) (by rw [List.length_set]; exact hl) (by omega)]
   congr 1
   simp only [Tc]
   rw [List.append_assoc]
   congr 1
   have e : (xs.set r ((k % n : Nat) : Int)).drop r = ((k % n : Nat) : Int) :: xs.drop (r + 1) := by
    refine List.ext_getElem (by simp; omega) fun i h1 h2 => ?_
    rw [List.getElem_drop, List.getElem_set]
    cases i with
    | zero => simp
    | succ i =>
      rw [if_neg (by omega), List.getElem_cons_succ, List.getElem_drop]
      congr 1; omega
   rw [e]; rfl
theorem Arh {n r k : Nat} (hn : 0 < n) (hn8 : n ≤ 8) (hr : r ≤ 3) (hk : k ≤ 1048576) : Ip n r k = some (Tc n r k) := by
 unfold Ip
 rw [Ae (by rw [At]; omega), Ae (by unfold InI; omega), Int.toNat_natCast, Atx hn hn8 r k _ (by simp) (by simp; omega) hk]
 simp
def Aqc (m : Nat) (xs : List Int) : Int := xs.foldl (fun s x => s * (m : Int) + x) 0
theorem Ahq (m : Nat) (xs : List Int) (y : Int) : Aqc m (xs ++ [y]) = Aqc m xs * (m : Int) + y := by
 unfold Aqc; rw [List.foldl_append]; rfl
theorem Aur {m : Nat} : ∀ (r : Nat) (xs : List Int), xs.length = r → B3 xs m → ∃ c : Nat, Aqc m xs = (c : Int) ∧ c < m ^ r := by
 intro r
 induction r with
 | zero =>
   intro xs hl _
   have : xs = [] := List.length_eq_zero_iff.1 hl
   subst this
   exact ⟨0, rfl, by simp⟩
 | succ r ih =>
   intro xs hl hx
   obtain ⟨ys, y, rfl⟩ : ∃ ys y, xs = ys ++ [y] := by
    refine ⟨xs.take r, nth xs r, ?_⟩
    rw [← Ny (by omega), List.take_of_length_le (by omega)]
   have hy := hx y (by simp)
   obtain ⟨c, h1, h2⟩ := ih ys (by simpa using hl) fun z hz => hx z (by simp [hz])
   obtain ⟨d, rfl⟩ := Int.eq_ofNat_of_zero_le hy.1
   refine ⟨c * m + d, by rw [Ahq, h1]; push_cast; rfl, ?_⟩
   have h3 := Nat.mul_le_mul_right m (show c + 1 ≤ m ^ r from h2)
   rw [Nat.succ_mul] at h3
   rw [Nat.pow_succ]
   omega
theorem Ani {m : Nat} (hm : m ≤ 8) {xs : List Int} (hl : xs.length ≤ 3) (hx : B3 xs m) : ∃ c : Nat, Aqc m xs = (c : Int) ∧ c < m ^ xs.length ∧ c < 512 := by
 obtain ⟨c, h1, h2⟩ := Aur xs.length xs rfl hx
 have := Ade hm hl
 exact ⟨c, h1, h2, by omega⟩
def Atu (n m : Nat) (f : List Int) : Nat → Nat → Int
 | 0, _ => 0
 | r + 1, k => Atu n m f r (k / n) * (m : Int) + nth f (k % n)
theorem Art (n m : Nat) (f : List Int) : ∀ r k, Aqc m ((Tc n r k).map fun x => nth f x.toNat) = Atu n m f r k := by
 intro r
 induction r with
 | zero => intro k; rfl
 | succ r ih =>
   intro k
   simp only [Tc, Atu, List.map_append, List.map_cons, List.map_nil, Int.toNat_natCast]
   rw [Ahq, ih]
theorem Aqf {n m : Nat} (hn : 0 < n) {f : List Int} (hf : f.length = n) (hfx : B3 f m) (r k : Nat) : B3 ((Tc n r k).map fun x => nth f x.toNat) m := by
 intro y hy
 obtain ⟨x, hx, rfl⟩ := List.mem_map.1 hy
 have := Aiw hn r k x hx
 exact hfx _ (Bu (by omega))
structure Homs (a b : SAlgebra) (f : List Int) (n m : Nat) : Prop where
 ga : Qk a
 gb : Qk b
 ty : Alp a = Alp b
 sa : a.Size = n
 sb : b.Size = m
 len : f.length = n
 fin : B3 f m
section
variable {a b : SAlgebra} {f : List Int} {n m : Nat}
theorem Homs.ops (h : Homs a b f n m) : a.Ops.length = b.Ops.length := by
 have := congrArg List.length h.ty
 simpa [Alp] using this
theorem Homs.op (h : Homs a b f n m) {i : Nat} (hi : i < a.Ops.length) : ∃ r : Nat, r ≤ 3 ∧ (nth a.Ops i).Arity = r ∧ (nth b.Ops i).Arity = r ∧ (nth a.Ops i).Table.length = n ^ r ∧ (nth b.Ops i).Table.length = m ^ r ∧ B3 (nth a.Ops i).Table n ∧ n ^ r ≤ 512 := by
 have hn : a.Size.toNat = n := by have := h.sa; omega
 have hm : b.Size.toNat = m := by have := h.sb; omega
 have hn8 : n ≤ 8 := by have := h.sa; have := h.ga.2.1; omega
 obtain ⟨h1, h2, h3, h4⟩ := h.ga.2.2.2 _ (Bu hi)
 have hib : i < b.Ops.length := by rw [← h.ops]; exact hi
 obtain ⟨_, _, k3, _⟩ := h.gb.2.2.2 _ (Bu hib)
 have e : (nth a.Ops i).Arity = (nth b.Ops i).Arity := by
  have e1 : nth (Alp a) i = (nth a.Ops i).Arity := Aea _ hi
  have e2 : nth (Alp b) i = (nth b.Ops i).Arity := Aea _ hib
  rw [← e1, ← e2, h.ty]
 rw [hn] at h3 h4
 rw [hm, ← e] at k3
 exact ⟨(nth a.Ops i).Arity.toNat, by omega, by omega, by omega, h3, k3, h4, Ade hn8 (by omega)⟩
theorem Homs.pos (h : Homs a b f n m) : 0 < n ∧ n ≤ 8 ∧ 0 < m ∧ m ≤ 8 := by
 have := h.sa; have := h.sb; have := h.ga.1; have := h.ga.2.1; have := h.gb.1; have := h.gb.2.1
 omega
theorem Homs.low (h : Homs a b f n m) {r k : Nat} (hr : r ≤ 3) : ∃ c : Nat, Atu n m f r k = (c : Int) ∧ c < m ^ r := by
 obtain ⟨hn, _, _, hm⟩ := h.pos
 obtain ⟨c, h1, h2, _⟩ := Ani hm (xs := (Tc n r k).map fun x => nth f x.toNat) (by rw [List.length_map, Aeq]; exact hr) (Aqf hn h.len h.fin r k)
 rw [Art] at h1
 rw [List.length_map, Aeq] at h2
 exact ⟨c, h1, h2⟩
end
def uniq (f : List Int) : Prop := ∀ i, i < f.length → nth f i ∉ f.take i
end Go.Proofs.Ytidaaijecmkndaa.Ax
namespace Go.Proofs.Ytidaaijecmkndaa.Ax
open Go Classical
structure Perm (f : List Int) (n : Nat) : Prop where
 len : f.length = n
 fin : B3 f n
 un : uniq f
theorem Perm.count {f : List Int} {n : Nat} (h : Perm f n) : ∀ i, i ≤ n → (Ar n fun z => decide ((z : Int) ∈ f.take i)).length = i := by
 intro i
 induction i with
 | zero =>
   intro _
   rw [List.length_eq_zero_iff]
   exact Agy.2 fun z _ => by simp
 | succ i ih =>
   intro hi
   have hil : i < f.length := by rw [h.len]; exact hi
   have hv := h.fin _ (Bu hil)
   have hu := h.un i hil
   have hc : nth f i = (((nth f i).toNat : Nat) : Int) := by omega
   have := Aqr (q := fun z => decide ((z : Int) ∈ f.take i)) (q' := fun z => decide ((z : Int) ∈ f.take (i + 1))) (x := (nth f i).toNat) (decide_eq_false (by rw [← hc]; exact hu)) (fun z => by
    rw [Ny hil, Bool.eq_iff_iff]
    simp only [decide_eq_true_eq, List.mem_append, List.mem_singleton, Bool.or_eq_true]
    constructor
    ·rintro (h1 | h1)
     ·exact .inl h1
     ·exact .inr (by omega)
    ·rintro (h1 | h1)
     ·exact .inl h1
     ·exact .inr (by omega)) n
   rw [this, ih (by omega), if_pos (by omega)]
section
variable {a : SAlgebra} {f : List Int} {n : Nat}
end
end Go.Proofs.Ytidaaijecmkndaa.Ax
namespace Go.Proofs.Ytidaaijecmkndaa.Ax
open Go Classical
noncomputable def many (n : Nat) (q : Nat → Bool) : Nat := (Ar n q).length
section
variable {n : Nat} {f : Nat → Nat → Bool}
end
section
variable {n m : Nat} {f g : Nat → Nat → Bool}
end
end Go.Proofs.Ytidaaijecmkndaa.Ax
namespace Go.Proofs.Ytidaaijecmkndaa.Ax
open Go
def Cur (k : Nat) (c : Sl1Cur) : Prop := (∀ x ∈ c.code, 0 ≤ x ∧ x ≤ 255) ∧ c.code.length ≤ 65536 ∧ 0 ≤ c.at_ ∧ c.at_ ≤ k
theorem Cur.mono {k l : Nat} {c : Sl1Cur} (h : Cur k c) (hl : k ≤ l) : Cur l c := ⟨h.1, h.2.1, h.2.2.1, by have := h.2.2.2; omega⟩
theorem Ath {n : Int} (h0 : 0 ≤ n) (h1 : n ≤ 255) : IntKind.u64.wrap n = n := by
 simp [IntKind.wrap, IntKind.bits, IntKind.signed]
 omega
theorem Ahf {c : Sl1Cur} {k : Nat} (h : Cur k c) (hk : k ≤ 1000000000) : ∃ r d, Dz c = some (r, d) ∧ Cur (k + 1) d ∧ 0 ≤ r ∧ r ≤ 255 := by
 obtain ⟨h1, h2, h3, h4⟩ := h
 unfold Dz
 have fin : ∀ q : Int, 0 ≤ q → q ≤ 255 → ∃ r d, (ask (InI (c.at_ + 1)) <|
   if c.at_ + 1 ≤ (c.code.length : Int) then
    some (q, ({ code := c.code, at_ := c.at_ + 1, seed := IntKind.u64.wrap (IntKind.u64.wrap (IntKind.u64.wrap (c.seed * 6364136223846793005) + IntKind.u64.wrap q) + 550289) } : Sl1Cur))
   else some (IntKind.i64.wrap (IntKind.u64.wrap (((BitVec.ofInt IntKind.u64.bits ((IntKind.u64.wrap (IntKind.u64.wrap (IntKind.u64.wrap (c.seed * 6364136223846793005) + IntKind.u64.wrap q) + 550289)).fdiv (2 ^ min (Int.toNat 40) IntKind.u64.bits)) &&& BitVec.ofInt IntKind.u64.bits 255).toNat : Nat) : Int)),
    ({ code := c.code, at_ := c.at_ + 1, seed := IntKind.u64.wrap (IntKind.u64.wrap (IntKind.u64.wrap (c.seed * 6364136223846793005) + IntKind.u64.wrap q) + 550289) } : Sl1Cur))) = some (r, d) ∧ Cur (k + 1) d ∧ 0 ≤ r ∧ r ≤ 255 := by
  intro q hq0 hq1
  rw [Ae (by unfold InI; omega)]
  split
  ·exact ⟨_, _, rfl, ⟨h1, h2, by show 0 ≤ c.at_ + 1; omega, by show c.at_ + 1 ≤ ((k + 1 : Nat) : Int); omega⟩, hq0, hq1⟩
  ·refine ⟨_, _, rfl, ⟨h1, h2, by show 0 ≤ c.at_ + 1; omega, by show c.at_ + 1 ≤ ((k + 1 : Nat) : Int); omega⟩, ?_⟩
   generalize BitVec.ofInt IntKind.u64.bits ((IntKind.u64.wrap (IntKind.u64.wrap (IntKind.u64.wrap (c.seed * 6364136223846793005) + IntKind.u64.wrap q) + 550289)).fdiv (2 ^ min (Int.toNat 40) IntKind.u64.bits)) = b
   have hb : (b &&& BitVec.ofInt IntKind.u64.bits 255).toNat ≤ 255 := by
    rw [BitVec.toNat_and]
    have : (BitVec.ofInt IntKind.u64.bits 255).toNat = 255 := by decide
    rw [this]
    exact Nat.and_le_right
   generalize (b &&& BitVec.ofInt IntKind.u64.bits 255).toNat = z at hb
   rw [Ath (by omega) (by omega), Ou (by omega) (by omega)]
   omega
 by_cases hc : c.at_ < (c.code.length : Int)
 ·rw [if_pos hc, Ae ⟨h3, hc⟩]
  have hm := h1 _ (Bu (xs := c.code) (i := c.at_.toNat) (by omega))
  rw [Ou (by omega) (by omega)]
  simp only [Option.bind_some]
  exact fin _ hm.1 hm.2
 ·rw [if_neg hc]
  simp only [Option.bind_some]
  exact fin 0 (by omega) (by omega)
theorem Fx {c : Sl1Cur} {k : Nat} (h : Cur k c) (hk : k ≤ 900000000) (n : Int) : ∃ r d, A3 c n = some (r, d) ∧ Cur (k + 2) d ∧ 0 ≤ r ∧ (r < n ∨ (n ≤ 1 ∧ r = 0)) := by
 unfold A3
 by_cases h1 : n ≤ 1
 ·rw [if_pos h1]; exact ⟨0, c, rfl, h.mono (by omega), by omega, .inr ⟨h1, rfl⟩⟩
 ·rw [if_neg h1]
  obtain ⟨r, d, e, hd, a1, a2⟩ := Ahf h (by omega)
  simp only [e, Option.bind_some]
  by_cases h2 : n > 200
  ·rw [if_pos h2, Ae (by unfold InI; omega)]
   obtain ⟨r2, d2, e2, hd2, b1, b2⟩ := Ahf hd (by omega)
   simp only [e2, Option.bind_some]
   rw [Ae (by unfold InI; omega), Ae (by omega)]
   refine ⟨_, _, rfl, hd2, Int.tmod_nonneg _ (by omega), .inl ?_⟩
   exact Int.tmod_lt_of_pos _ (by omega)
  ·rw [if_neg h2, Ae (by omega)]
   refine ⟨_, _, rfl, hd.mono (by omega), Int.tmod_nonneg _ (by omega), .inl ?_⟩
   exact Int.tmod_lt_of_pos _ (by omega)
theorem Al7 {c : Sl1Cur} {k : Nat} (h : Cur k c) (hk : k ≤ 900000000) (n : Int) : ∃ b d, Ei c n = some (b, d) ∧ Cur (k + 2) d := by
 unfold Ei
 obtain ⟨r, d, e, hd, _, _⟩ := Fx h hk n
 simp only [e, Option.bind_some]
 exact ⟨_, _, rfl, hd⟩
theorem Fp {c : Sl1Cur} {k : Nat} (h : Cur k c) (hk : k ≤ 900000000) (l : List Int) (h0 : 0 < l.length) : ∃ r d, A2 c l = some (r, d) ∧ Cur (k + 2) d ∧ r ∈ l := by
 unfold A2
 obtain ⟨r, d, e, hd, a1, a2⟩ := Fx h hk (l.length : Int)
 simp only [e, Option.bind_some]
 rw [Ae (by omega)]
 exact ⟨_, _, rfl, hd, Bu (by omega)⟩
open Classical
end Go.Proofs.Ytidaaijecmkndaa.Ax
namespace Go.Proofs.Ytidaaijecmkndaa.Ax
open Go Classical
section
variable {n m : Nat} {f g : Nat → Nat → Bool}
end
end Go.Proofs.Ytidaaijecmkndaa.Ax
namespace Go.Proofs.Ytidaaijecmkndaa.Ax
open Go Classical
section
end
theorem U7 {xs : List Int} (h : xs.length ≤ LIM) : Bw xs xs = some true := by
 have hL := At
 unfold Bw
 rw [if_neg (by simp)]
 have := C8 (body := Bz xs xs) (fun i => (i : Int)) xs.length (.inr ()) (fun i hi => by
  unfold Bz
  rw [if_pos (by omega)]
  repeat rw [Ae (by first | omega | (unfold InI; omega))]
  rw [if_neg (by simp)]
  rfl) (by
  unfold Bz
  rw [if_neg (by omega)])
 have h0 : Ap (Bz xs xs) 0 = some (.inr ()) := this
 rw [h0]; rfl
theorem Yt {xss : List (List Int)} (h : xss.length ≤ LIM) (h1 : ∀ r ∈ xss, r.length ≤ LIM) : Dn xss xss = some true := by
 have hL := At
 unfold Dn
 rw [if_neg (by simp)]
 have := C8 (body := Dk xss xss) (fun i => (i : Int)) xss.length (.inr ()) (fun i hi => by
  unfold Dk
  rw [if_pos (by omega)]
  repeat rw [Ae (by first | omega | (unfold InI; omega))]
  rw [Int.toNat_natCast, U7 (h1 _ (Bu hi))]
  simp only [Option.bind_some, if_true]
  rfl) (by
  unfold Dk
  rw [if_neg (by omega)])
 have h0 : Ap (Dk xss xss) 0 = some (.inr ()) := this
 rw [h0]; rfl
section
variable {n m : Nat} {f g : Nat → Nat → Bool}
end
end Go.Proofs.Ytidaaijecmkndaa.Ax
namespace Go.Proofs.Ytidaaijecmkndaa.Ax
open Go Classical
theorem Aoa {xs : List Int} (h : xs.length ≤ LIM) (x : Int) : L0 xs x = some (decide (x ∈ xs)) := by
 have hL := At
 unfold L0
 have := F7 (body := Dr xs x) (fun i => (i : Int)) xs.length (fun i => nth xs i = x) () () (fun i hi hb => by
  unfold Dr
  rw [if_pos (by omega), Ae (by omega), Int.toNat_natCast, if_neg hb, Ae (by unfold InI; omega)]; rfl) (fun i hi hb => by
  unfold Dr
  rw [if_pos (by omega), Ae (by omega), Int.toNat_natCast, if_pos hb]) (by
  unfold Dr
  rw [if_neg (by omega)]) 0 (by omega)
 have h0 : Ap (Dr xs x) 0 = _ := this
 rw [h0]
 by_cases hx : x ∈ xs
 ·obtain ⟨i, hi, e⟩ := G3.1 hx
  rw [if_pos ⟨i, by omega, hi, e⟩, decide_eq_true hx]; rfl
 ·rw [if_neg (by rintro ⟨i, _, hi, e⟩; exact hx (e ▸ Bu hi)), decide_eq_false hx]; rfl
theorem Ahh {xs ys : List Int} (h : xs.length ≤ LIM) (h2 : ys.length ≤ LIM) (hin : ∀ x ∈ xs, x ∈ ys) : Bm xs ys = some true := by
 have hL := At
 unfold Bm
 have := C8 (body := Bq xs ys) (fun i => (i : Int)) xs.length (.inr ()) (fun i hi => by
  unfold Bq
  rw [if_pos (by omega), Ae (by omega), Int.toNat_natCast, Aoa h2, decide_eq_true (hin _ (Bu hi))]
  simp only [Option.bind_some, if_true]
  rw [Ae (by unfold InI; omega)]; rfl) (by
  unfold Bq
  rw [if_neg (by omega)])
 have h0 : Ap (Bq xs ys) 0 = some (.inr ()) := this
 rw [h0]; rfl
end Go.Proofs.Ytidaaijecmkndaa.Ax
namespace Go.Proofs.Ytidaaijecmkndaa.Ax
open Go Classical
def Gy (n r k : Nat) (S : Nat → Bool) : Prop := ∀ x ∈ Tc n r k, S x.toNat = true
theorem Hs {n r k : Nat} {S T : Nat → Bool} (h : ∀ z, S z = true → T z = true) (hi : Gy n r k S) : Gy n r k T := fun x hx => h _ (hi x hx)
theorem X0 {n : Nat} (hn : 0 < n) {r k : Nat} {S T : Nat → Bool} (h : ∀ z, z < n → S z = T z) : Gy n r k S ↔ Gy n r k T := by
 have key : ∀ x ∈ Tc n r k, S x.toNat = T x.toNat := fun x hx => by
  have := Aiw hn r k x hx
  exact h _ (by omega)
 exact ⟨fun hi x hx => by rw [← key x hx]; exact hi x hx, fun hi x hx => by rw [key x hx]; exact hi x hx⟩
def Kj (a : SAlgebra) (i k : Nat) : Nat := (nth (nth a.Ops i).Table k).toNat
def Jh (a : SAlgebra) (i k : Nat) (S : Nat → Bool) : Prop := Gy a.Size.toNat (nth a.Ops i).Arity.toNat k S
def H9 (a : SAlgebra) (S : Nat → Bool) : Prop := ∀ i, i < a.Ops.length → ∀ k, k < (nth a.Ops i).Table.length → Jh a i k S → S (Kj a i k) = true
noncomputable def Jc (a : SAlgebra) (S : Nat → Bool) : Nat → Bool := fun z => decide (∀ T : Nat → Bool, (∀ x, S x = true → T x = true) → H9 a T → T z = true)
theorem Jf {a : SAlgebra} {S : Nat → Bool} (z : Nat) (h : S z = true) : Jc a S z = true := decide_eq_true fun _ hT _ => hT z h
theorem Lr {a : SAlgebra} {S : Nat → Bool} : H9 a (Jc a S) := by
 intro i hi k hk ha
 refine decide_eq_true fun T hT hc => ?_
 exact hc i hi k hk fun x hx => of_decide_eq_true (ha x hx) T hT hc
theorem Ns {a : SAlgebra} {S T : Nat → Bool} (hT : ∀ x, S x = true → T x = true) (hc : H9 a T) (z : Nat) (h : Jc a S z = true) : T z = true := of_decide_eq_true h T hT hc
theorem Ap6 {a : SAlgebra} {S : Nat → Bool} (hc : H9 a S) : Jc a S = S := by
 funext z
 cases h : S z with
 | true => exact Jf z h
 | false =>
   cases h2 : Jc a S z with
   | false => rfl
   | true => rw [Ns (fun _ h => h) hc z h2] at h; cases h
def Wr (H : List Bool) : Nat := H.count true
theorem Aoz (H : List Bool) : Wr H ≤ H.length := List.count_le_length
theorem Yo {H : List Bool} {v z : Nat} (hv : v < H.length) : nth (H.set v true) z = true ↔ z = v ∨ nth H z = true := by
 by_cases hz : z < H.length
 ·rw [Aox _ _ _ _ hz]
  by_cases e : v = z
  ·subst e; simp
  ·rw [if_neg e]
   exact ⟨.inr, fun h => h.resolve_left (Ne.symm e)⟩
 ·have h1 : nth H z = false := by rw [Air, List.getD_eq_getElem?_getD, List.getElem?_eq_none (by omega)]; rfl
  have h2 : nth (H.set v true) z = false := by rw [Air, List.getD_eq_getElem?_getD, List.getElem?_eq_none (by simp; omega)]; rfl
  rw [h1, h2]
  constructor
  ·intro h; cases h
  ·rintro (h | h)
   ·omega
   ·cases h
theorem Ate {H : List Bool} {v : Nat} (hv : v < H.length) (h : nth H v = false) : Wr (H.set v true) = Wr H + 1 := by
 unfold Wr
 rw [List.count_set hv]
 rw [Dp hv] at h
 rw [h]; simp
theorem Aj8 {H : List Bool} {z : Nat} (h : nth H z = true) : z < H.length := by
 apply Classical.byContradiction
 intro hc
 rw [Air, List.getD_eq_getElem?_getD, List.getElem?_eq_none (by omega)] at h
 cases h
theorem App {H K : List Bool} (hl : H.length = K.length) (h : ∀ z, nth H z = true → nth K z = true) : Wr H ≤ Wr K ∧ (Wr K ≤ Wr H → H = K) := by
 induction H generalizing K with
 | nil => cases K with
   | nil => exact ⟨Nat.le_refl _, fun _ => rfl⟩
   | cons => simp at hl
 | cons x r ih =>
   cases K with
   | nil => simp at hl
   | cons y s =>
     have hl' : r.length = s.length := by simpa using hl
     obtain ⟨h1, h2⟩ := ih hl' fun z hz => h (z + 1) hz
     have h0 : x = true → y = true := fun hx => h 0 hx
     unfold Wr at *
     cases x <;> cases y
     ·simp only [List.count_cons]
      exact ⟨by simpa using h1, fun hh => by rw [h2 (by simpa using hh)]⟩
     ·simp only [List.count_cons]
      refine ⟨by simp; omega, fun hh => ?_⟩
      simp at hh; omega
     ·exact absurd (h0 rfl) (by simp)
     ·simp only [List.count_cons]
      exact ⟨by simpa using h1, fun hh => by rw [h2 (by simpa using hh)]⟩
section
variable {a : SAlgebra}
structure ReadyA (a : SAlgebra) (n : Nat) : Prop where
 good : Qk a
 sz : a.Size = (n : Int)
 pos : 0 < n
 le : n ≤ 8
theorem Wq (hg : Qk a) : ReadyA a a.Size.toNat := ⟨hg, by have := hg.1; omega, by have := hg.1; omega, by have := hg.2.1; omega⟩
theorem ReadyA.nat {n : Nat} (h : ReadyA a n) : a.Size.toNat = n := by have := h.sz; omega
theorem ReadyA.op {n : Nat} (h : ReadyA a n) {i : Nat} (hi : i < a.Ops.length) : ∃ r : Nat, (nth a.Ops i).Arity = (r : Int) ∧ r ≤ 3 ∧ (nth a.Ops i).Table.length = n ^ r ∧ B3 (nth a.Ops i).Table n ∧ (nth a.Ops i).Table.length ≤ 512 ∧ (∀ k S, Jh a i k S ↔ Gy n r k S) := by
 have := h.good.2.2.2 _ (Bu hi)
 rw [h.nat] at this
 obtain ⟨h1, h2, h3, h4⟩ := this
 refine ⟨(nth a.Ops i).Arity.toNat, by omega, by omega, h3, h4, ?_, fun k S => by unfold Jh; rw [h.nat]⟩
 rw [h3]; exact Ade h.le (by omega)
theorem ReadyA.val {n : Nat} (h : ReadyA a n) {i k : Nat} (hi : i < a.Ops.length) (hk : k < (nth a.Ops i).Table.length) : nth (nth a.Ops i).Table k = (Kj a i k : Int) ∧ Kj a i k < n := by
 obtain ⟨r, _, _, _, h4, _⟩ := h.op hi
 have := h4 _ (Bu hk)
 unfold Kj
 omega
theorem As9 {n : Nat} (hn : 0 < n) (H : List Bool) (hH : H.length = n) (hn8 : n ≤ 8) : ∀ (r k : Nat), r ≤ 3 → k ≤ 1048576 → Ap (C4 (n : Int) H) ((k : Int), (r : Int)) = some (if Gy n r k (nth H) then .inr () else .inl ()) := by
 intro r
 induction r with
 | zero =>
   intro k _ _
   rw [if_pos (by intro x hx; cases hx)]
   refine I3 ?_
   unfold C4
   dsimp only
   rw [if_neg (by omega)]
 | succ r ih =>
   intro k hr hk
   have c1 : (k : Int).tdiv (n : Int) = ((k / n : Nat) : Int) := rfl
   have c2 : (k : Int).tmod (n : Int) = ((k % n : Nat) : Int) := rfl
   have hd : k / n ≤ k := Nat.div_le_self k n
   have hm : k % n < n := Nat.mod_lt k hn
   have ea : Gy n (r + 1) k (nth H) ↔ Gy n r (k / n) (nth H) ∧ nth H (k % n) = true := by
    unfold Gy
    simp only [Tc, List.mem_append, List.mem_singleton]
    constructor
    ·intro h
     exact ⟨fun x hx => h x (.inl hx), h ((k % n : Nat) : Int) (.inr rfl)⟩
    ·rintro ⟨h1, h2⟩ x (hx | rfl)
     ·exact h1 x hx
     ·exact h2
   by_cases hb : nth H (k % n) = true
   ·have step : C4 (n : Int) H ((k : Int), ((r + 1 : Nat) : Int)) = some (.inl (((k / n : Nat) : Int), (r : Int))) := by
     unfold C4
     dsimp only
     rw [c1, c2]
     generalize k / n = kd at hd
     rw [if_pos (by omega), Ae (by omega), Ae (by omega), Int.toNat_natCast, if_pos hb, Ae (by unfold InI; omega), Ae (by unfold InI; omega)]
     congr 3; omega
    rw [Rx step, ih _ (by omega) (by omega)]
    congr 1
    by_cases h1 : Gy n r (k / n) (nth H)
    ·rw [if_pos h1, if_pos (ea.2 ⟨h1, hb⟩)]
    ·rw [if_neg h1, if_neg (fun h => h1 (ea.1 h).1)]
   ·rw [if_neg (fun h => hb (ea.1 h).2)]
    refine I3 ?_
    unfold C4
    dsimp only
    rw [c2, if_pos (by omega), Ae (by omega), Ae (by omega), Int.toNat_natCast, if_neg hb]
theorem Aoi {n : Nat} (hn : 0 < n) (hn8 : n ≤ 8) {H : List Bool} (hH : H.length = n) {r k : Nat} (hr : r ≤ 3) (hk : k ≤ 1048576) : H7 k r n H = some (decide (Gy n r k (nth H))) := by
 unfold H7
 rw [As9 hn H hH hn8 r k hr hk]
 by_cases h : Gy n r k (nth H)
 ·rw [if_pos h, decide_eq_true h]; rfl
 ·rw [if_neg h, decide_eq_false h]; rfl
structure Pass (n : Nat) (G : Nat → Bool) (c0 : Bool) (H0 : List Bool) (c : Bool) (H : List Bool) (done : (Nat → Bool) → Prop) : Prop where
 len : H.length = n
 more : ∀ z, nth H0 z = true → nth H z = true
 low : ∀ z, nth H z = true → G z = true
 up : c = true → c0 = true ∨ Wr H0 < Wr H
 no : c = false → c0 = false ∧ H = H0 ∧ done (nth H)
 mono : Wr H0 ≤ Wr H
theorem Ave {n : Nat} (h : ReadyA a n) {S : Nat → Bool} {i : Nat} (hi : i < a.Ops.length) {H0 : List Bool} (hl : H0.length = n) (hlow : ∀ z, nth H0 z = true → Jc a S z = true) (c0 : Bool) :
  ∃ t, Ap (Cu a (i : Int)) (0, c0, H0) = some t ∧ Pass n (Jc a S) c0 H0 t.1 t.2 (fun T => ∀ k, k < (nth a.Ops i).Table.length → Jh a i k T → T (Kj a i k) = true) := by
 obtain ⟨r, hr, hr3, _, htab, h512, hargs⟩ := h.op hi
 refine D7 (body := Cu a (i : Int)) (fun s => ∃ k : Nat, s.1 = (k : Int) ∧ k ≤ (nth a.Ops i).Table.length ∧ Pass n (Jc a S) c0 H0 s.2.1 s.2.2 (fun T => ∀ j, j < k → Jh a i j T → T (Kj a i j) = true))
  (fun s => (nth a.Ops i).Table.length - s.1.toNat) _ (fun s hs => ?_) ⟨0, rfl, Nat.zero_le _, hl, fun _ h => h, hlow, fun h => .inl h, fun h => ⟨h, rfl, fun j hj => absurd hj (Nat.not_lt_zero _)⟩, Nat.le_refl _⟩
 obtain ⟨x, c, H⟩ := s
 obtain ⟨k, hk, hkl, hp⟩ := hs
 simp only at hk hkl hp
 subst hk
 unfold Cu
 dsimp only
 rw [Int.toNat_natCast]
 by_cases hlt : k < (nth a.Ops i).Table.length
 ·left
  obtain ⟨ev, hv⟩ := h.val hi hlt
  rw [if_pos (by omega), Ae (by omega), Int.toNat_natCast, ev, Ae (by rw [hp.len]; omega), Int.toNat_natCast]
  by_cases hm : nth H (Kj a i k) = true
  ·rw [if_pos hm, Ae (by unfold InI; omega)]
   refine ⟨_, rfl, ⟨k + 1, rfl, hlt, hp.len, hp.more, hp.low, hp.up, fun hc => ?_, hp.mono⟩, by simp only; omega⟩
   obtain ⟨h1, h2, h3⟩ := hp.no hc
   refine ⟨h1, h2, fun j hj ha => ?_⟩
   by_cases e : j = k
   ·subst e; exact hm
   ·exact h3 j (by omega) ha
  ·rw [if_neg hm, hr, h.sz, Aoi h.pos h.le hp.len hr3 (by omega)]
   simp only [Option.bind_some]
   by_cases ha : Gy n r k (nth H)
   ·rw [decide_eq_true ha, if_pos rfl, Ae (by rw [hp.len]; omega), Ae (by unfold InI; omega)]
    have hvl : Kj a i k < H.length := by rw [hp.len]; exact hv
    have hcs := Ate hvl (by simpa using hm)
    refine ⟨_, rfl, ⟨k + 1, rfl, hlt, by rw [List.length_set]; exact hp.len, fun z hz => (Yo hvl).2 (.inr (hp.more z hz)), fun z hz => ?_, fun _ => .inr (by have := hp.mono; simp only; omega), fun hc => (by cases hc), by have := hp.mono; simp only; omega⟩, by simp only; omega⟩
    rcases (Yo hvl).1 hz with rfl | hz
    ·exact Lr i hi k hlt ((hargs k _).2 (Hs hp.low ha))
    ·exact hp.low z hz
   ·rw [decide_eq_false ha, if_neg (by simp), Ae (by unfold InI; omega)]
    refine ⟨_, rfl, ⟨k + 1, rfl, hlt, hp.len, hp.more, hp.low, hp.up, fun hc => ?_, hp.mono⟩, by simp only; omega⟩
    obtain ⟨h1, h2, h3⟩ := hp.no hc
    refine ⟨h1, h2, fun j hj hb => ?_⟩
    by_cases e : j = k
    ·subst e; exact absurd ((hargs _ _).1 hb) ha
    ·exact h3 j (by omega) hb
 ·right
  rw [if_neg (by omega)]
  have e : k = (nth a.Ops i).Table.length := by omega
  subst e
  exact ⟨_, rfl, hp⟩
theorem Avu {n : Nat} (h : ReadyA a n) {S : Nat → Bool} {H0 : List Bool} (hl : H0.length = n) (hlow : ∀ z, nth H0 z = true → Jc a S z = true) :
  ∃ t, Ap (Cm a) (0, false, H0) = some t ∧ Pass n (Jc a S) false H0 t.1 t.2 (fun T => H9 a T) := by
 have h4 := h.good.2.2.1
 refine D7 (body := Cm a) (fun s => ∃ i : Nat, s.1 = (i : Int) ∧ i ≤ a.Ops.length ∧ Pass n (Jc a S) false H0 s.2.1 s.2.2 (fun T => ∀ j, j < i → ∀ k, k < (nth a.Ops j).Table.length → Jh a j k T → T (Kj a j k) = true))
  (fun s => a.Ops.length - s.1.toNat) _ (fun s hs => ?_) ⟨0, rfl, Nat.zero_le _, hl, fun _ h => h, hlow, fun h => .inl h, fun h => ⟨h, rfl, fun j hj => absurd hj (Nat.not_lt_zero _)⟩, Nat.le_refl _⟩
 obtain ⟨x, c, H⟩ := s
 obtain ⟨i, hi, hil, hp⟩ := hs
 simp only at hi hil hp
 subst hi
 unfold Cm
 dsimp only
 by_cases hlt : i < a.Ops.length
 ·left
  obtain ⟨⟨c1, H1⟩, e1, hq⟩ := Ave h hlt hp.len hp.low c
  rw [if_pos (by omega), Ae (by omega), e1]
  simp only [Option.bind_some]
  rw [Ae (by unfold InI; omega)]
  refine ⟨_, rfl, ⟨i + 1, rfl, hlt, hq.len, fun z hz => hq.more z (hp.more z hz), hq.low, fun hc => ?_, fun hc => ?_, Nat.le_trans hp.mono hq.mono⟩, by simp only; omega⟩
  ·rcases hq.up hc with h1 | h1
   ·rcases hp.up h1 with h2 | h2
    ·exact .inl h2
    ·exact .inr (Nat.lt_of_lt_of_le h2 hq.mono)
   ·exact .inr (Nat.lt_of_le_of_lt hp.mono h1)
  ·obtain ⟨h1, h2, h3⟩ := hq.no hc
   obtain ⟨g1, g2, g3⟩ := hp.no h1
   refine ⟨g1, by simp only at h2 ⊢; rw [h2]; exact g2, fun j hj => ?_⟩
   by_cases e : j = i
   ·subst e; exact h3
   ·simp only at h2
    simp only [h2]
    exact g3 j (by omega)
 ·right
  rw [if_neg (by omega)]
  have e : i = a.Ops.length := by omega
  subst e
  exact ⟨_, rfl, hp⟩
theorem Aim {n : Nat} (h : ReadyA a n) (S : Nat → Bool) (hS : ∀ z, S z = true → z < n) : Fh a (Dv n S) = some (Dv n (Jc a S)) := by
 have hb := E9 n S
 have hin : ∀ z, nth (Dv n S) z = true ↔ S z = true := fun z => by
  constructor
  ·intro hz
   have hl := Aj8 hz
   rw [hb] at hl
   rwa [Ez hl] at hz
  ·intro hz; rw [Ez (hS z hz)]; exact hz
 unfold Fh
 obtain ⟨H, e, h1, h2, h3, h4⟩ := D7 (body := Ds a) (fun s => s.2.length = n ∧ (∀ z, S z = true → nth s.2 z = true) ∧ (∀ z, nth s.2 z = true → Jc a S z = true) ∧ (s.1 = false → H9 a (nth s.2)))
  (fun s => (n - Wr s.2) + (if s.1 then 1 else 0)) (fun H => H.length = n ∧ (∀ z, S z = true → nth H z = true) ∧ (∀ z, nth H z = true → Jc a S z = true) ∧ H9 a (nth H)) (fun s hs => by
  obtain ⟨c, H⟩ := s
  obtain ⟨h1, h2, h3, h4⟩ := hs
  simp only at h1 h2 h3 h4
  unfold Ds
  dsimp only
  cases c with
  | true =>
    left
    obtain ⟨⟨c1, H1⟩, e1, hq⟩ := Avu h h1 h3
    rw [if_pos rfl, e1]
    refine ⟨_, rfl, ⟨hq.len, fun z hz => hq.more z (h2 z hz), hq.low, fun hc => (hq.no hc).2.2⟩, ?_⟩
    have l1 := Aoz H1
    rw [hq.len] at l1
    cases c1 with
    | true =>
      rcases hq.up rfl with h5 | h5
      ·cases h5
      ·simp only at h5 ⊢; simp; omega
    | false =>
      have := (hq.no rfl).2.1
      simp only at this
      subst this
      simp
  | false =>
    right
    rw [if_neg (by simp)]
    exact ⟨_, rfl, h1, h2, h3, h4 rfl⟩) (s := (true, Dv n S)) ⟨hb, fun z hz => (hin z).2 hz, fun z hz => Jf z ((hin z).1 hz), fun hc => by cases hc⟩
 rw [e]
 simp only [Option.bind_some]
 refine congrArg some (Lg (by rw [h1, E9]) fun z hz => ?_)
 rw [h1] at hz
 rw [Ez hz]
 cases hh : Jc a S z with
 | true => exact Ns h2 h4 z hh
 | false =>
   cases h5 : nth H z with
   | false => rfl
   | true => rw [h3 z h5] at hh; cases hh
theorem Aez {n : Nat} (h : ReadyA a n) {xs : List Int} (hx : B3 xs n) (hl : xs.length ≤ LIM) : C5 a xs = some (Ar n (Jc a fun z => decide ((z : Int) ∈ xs))) := by
 have hL := At
 have h8 := h.le
 unfold C5
 rw [h.sz, Ai2 (by omega) hx hl]
 simp only [Option.bind_some]
 rw [Aim h _ (fun z hz => by have := hx _ (of_decide_eq_true hz); omega)]
 simp only [Option.bind_some]
 rw [Uu (by omega)]; rfl
theorem Aup {n : Nat} (G : Nat → Bool) {xs : List Int} (hx : B3 xs n) (hr : Mp xs) (hG : ∀ z : Nat, (z : Int) ∈ xs → G z = true) : (Ar n G).length = xs.length ↔ Ar n G = xs := by
 constructor
 ·intro hl
  have e := W1 hx hr
  rw [← e] at hl
  refine Eq.trans (Ut fun z hz => ?_) e
  cases h1 : G z with
  | false =>
    cases h2 : decide ((z : Int) ∈ xs) with
    | false => rfl
    | true => rw [hG z (of_decide_eq_true h2)] at h1; cases h1
  | true =>
    cases h2 : decide ((z : Int) ∈ xs) with
    | true => rfl
    | false =>
      have := As2 (q := fun z => decide ((z : Int) ∈ xs)) h2 h1 n hz fun i _ hi => hG i (of_decide_eq_true hi)
      rw [e] at this
      rw [e] at hl
      omega
 ·intro h1; rw [h1]
def Cd (a : SAlgebra) (n : Nat) (xs : List Int) : Prop := B3 xs n ∧ Mp xs ∧ Ar n (Jc a fun z => decide ((z : Int) ∈ xs)) = xs
theorem Acc {n : Nat} (h : ReadyA a n) {xs : List Int} (hl : xs.length ≤ LIM) : E8 a xs = some (decide (Cd a n xs)) := by
 unfold E8
 rw [h.sz, Ac8 _ _ hl]
 simp only [Option.bind_some]
 by_cases hx : B3 xs n
 ·rw [decide_eq_true hx, if_pos rfl, Auv _ hl]
  simp only [Option.bind_some]
  by_cases hr : Mp xs
  ·rw [decide_eq_true hr, if_pos rfl, Aez h hx hl]
   simp only [Option.bind_some]
   congr 1
   rw [Bool.eq_iff_iff, beq_iff_eq, decide_eq_true_eq]
   have := Aup (Jc a fun z => decide ((z : Int) ∈ xs)) hx hr fun z hz => Jf z (decide_eq_true hz)
   constructor
   ·intro e; exact ⟨hx, hr, this.1 (by omega)⟩
   ·intro e; have := this.2 e.2.2; omega
  ·rw [decide_eq_false hr, if_neg (by simp), decide_eq_false (fun hc => hr hc.2.1)]
 ·rw [decide_eq_false hx, if_neg (by simp), decide_eq_false (fun hc => hx hc.1)]
theorem Xr {n : Nat} (h : ReadyA a n) (hs : G1 a) {xs : List Int} (hl : xs.length ≤ LIM) : Co a xs = some (decide (Cd a n xs), true) := by
 unfold Co
 rw [Ot hs, decide_eq_true h.good]
 simp only [Option.bind_some, if_true]
 rw [Acc h hl]; rfl
theorem Awd {n : Nat} {H : List Bool} (hH : H.length = n) {x6 x7 : Int} {o : List Bool} {xs : List Int} (hx : B3 xs n) (hl : xs.length ≤ 3) :
  Ap (Db a H x6 x7 o xs) (0, true) = some (decide (∀ x ∈ xs, nth H x.toNat = true)) := by
 have key := C8 (body := Db a H x6 x7 o xs) (fun i => ((i : Int), decide (∀ x ∈ xs.take i, nth H x.toNat = true))) xs.length (decide (∀ x ∈ xs, nth H x.toNat = true)) (fun i hi => by
  have hc := hx _ (Bu hi)
  have ht := Ny hi
  unfold Db
  dsimp only
  rw [if_pos (by omega)]
  by_cases hb : ∀ x ∈ xs.take i, nth H x.toNat = true
  ·rw [decide_eq_true hb, if_pos rfl, Ae (by omega), Int.toNat_natCast, Ae (by rw [hH]; omega), Ae (by unfold InI; omega)]
   congr 3
   rw [ht, Bool.eq_iff_iff, decide_eq_true_eq]
   constructor
   ·intro h1 x hm
    rcases List.mem_append.1 hm with hm | hm
    ·exact hb x hm
    ·rw [List.mem_singleton.1 hm]; exact h1
   ·intro h1; exact h1 _ (by simp)
  ·rw [decide_eq_false hb, if_neg (by simp), Ae (by unfold InI; omega)]
   congr 3
   refine (decide_eq_false fun h1 => hb fun x hm => h1 x ?_).symm
   rw [ht]; exact List.mem_append_left _ hm) (by
  unfold Db
  dsimp only
  rw [if_neg (by omega), List.take_length])
 simpa using key
theorem Awl {n : Nat} (h : ReadyA a n) {H : List Bool} (hH : H.length = n) {i : Nat} (hi : i < a.Ops.length) {H0 : List Bool} (hl : H0.length = n) :
  ∃ K, Ap (Eh a H (i : Int)) (0, H0) = some K ∧ K.length = n ∧ ∀ z, nth K z = true ↔ nth H0 z = true ∨ ∃ k, k < (nth a.Ops i).Table.length ∧ Jh a i k (nth H) ∧ z = Kj a i k := by
 obtain ⟨r, hr, hr3, _, htab, h512, hargs⟩ := h.op hi
 refine D7 (body := Eh a H (i : Int)) (fun s => ∃ k : Nat, s.1 = (k : Int) ∧ k ≤ (nth a.Ops i).Table.length ∧ s.2.length = n ∧ ∀ z, nth s.2 z = true ↔ nth H0 z = true ∨ ∃ j, j < k ∧ Jh a i j (nth H) ∧ z = Kj a i j)
  (fun s => (nth a.Ops i).Table.length - s.1.toNat) _ (fun s hs => ?_) ⟨0, rfl, Nat.zero_le _, hl, fun z => ⟨.inl, fun hz => hz.resolve_right (by rintro ⟨j, hj, _⟩; omega)⟩⟩
 obtain ⟨x, K⟩ := s
 obtain ⟨k, hk, hkl, h1, h2⟩ := hs
 simp only at hk hkl h1 h2
 subst hk
 unfold Eh
 dsimp only
 rw [Ae (by omega), Int.toNat_natCast]
 by_cases hlt : k < (nth a.Ops i).Table.length
 ·left
  obtain ⟨ev, hv⟩ := h.val hi hlt
  have hal := Aeq n r k
  rw [if_pos (by omega), Ae (by omega), hr, h.sz, Arh h.pos h.le hr3 (by omega)]
  simp only [Option.bind_some]
  rw [Awd hH (Aiw h.pos r k) (by omega)]
  simp only [Option.bind_some]
  by_cases ha : Gy n r k (nth H)
  ·rw [decide_eq_true (show ∀ x ∈ Tc n r k, nth H x.toNat = true from ha), if_pos rfl, Ae (by omega), Ae (by omega), Int.toNat_natCast, ev, Ae (by rw [h1]; omega), Int.toNat_natCast, Ae (by unfold InI; omega)]
   have hvl : Kj a i k < K.length := by rw [h1]; exact hv
   refine ⟨_, rfl, ⟨k + 1, rfl, hlt, by rw [List.length_set]; exact h1, fun z => ?_⟩, by simp only; omega⟩
   rw [Yo hvl, h2]
   constructor
   ·rintro (rfl | hz | ⟨j, hj, hb, e⟩)
    ·exact .inr ⟨k, by omega, (hargs _ _).2 ha, rfl⟩
    ·exact .inl hz
    ·exact .inr ⟨j, by omega, hb, e⟩
   ·rintro (hz | ⟨j, hj, hb, e⟩)
    ·exact .inr (.inl hz)
    ·by_cases ej : j = k
     ·subst ej; exact .inl e
     ·exact .inr (.inr ⟨j, by omega, hb, e⟩)
  ·rw [decide_eq_false (show ¬ ∀ x ∈ Tc n r k, nth H x.toNat = true from ha), if_neg (by simp), Ae (by unfold InI; omega)]
   refine ⟨_, rfl, ⟨k + 1, rfl, hlt, h1, fun z => ?_⟩, by simp only; omega⟩
   simp only
   rw [h2]
   constructor
   ·rintro (hz | ⟨j, hj, hb, e⟩)
    ·exact .inl hz
    ·exact .inr ⟨j, by omega, hb, e⟩
   ·rintro (hz | ⟨j, hj, hb, e⟩)
    ·exact .inl hz
    ·by_cases ej : j = k
     ·subst ej; exact absurd ((hargs _ _).1 hb) ha
     ·exact .inr ⟨j, by omega, hb, e⟩
 ·right
  rw [if_neg (by omega)]
  have e : k = (nth a.Ops i).Table.length := by omega
  subst e
  exact ⟨_, rfl, h1, h2⟩
theorem Alj {n : Nat} (h : ReadyA a n) {H : List Bool} (hH : H.length = n) :
  ∃ K, Fl a H = some K ∧ K.length = n ∧ ∀ z, nth K z = true ↔ nth H z = true ∨ ∃ i k, i < a.Ops.length ∧ k < (nth a.Ops i).Table.length ∧ Jh a i k (nth H) ∧ z = Kj a i k := by
 have hL := At
 have h4 := h.good.2.2.1
 have h8 := h.le
 unfold Fl
 rw [Ae (by simp only [List.length_nil]; omega)]
 obtain ⟨K, e, h1, h2⟩ := D7 (body := F5 a H) (fun s => ∃ i : Nat, s.1 = (i : Int) ∧ i ≤ a.Ops.length ∧ s.2.length = n ∧ ∀ z, nth s.2 z = true ↔ nth H z = true ∨ ∃ j k, j < i ∧ k < (nth a.Ops j).Table.length ∧ Jh a j k (nth H) ∧ z = Kj a j k)
  (fun s => a.Ops.length - s.1.toNat) (fun K => K.length = n ∧ ∀ z, nth K z = true ↔ nth H z = true ∨ ∃ i k, i < a.Ops.length ∧ k < (nth a.Ops i).Table.length ∧ Jh a i k (nth H) ∧ z = Kj a i k) (fun s hs => by
  obtain ⟨x, K⟩ := s
  obtain ⟨i, hi, hil, h1, h2⟩ := hs
  simp only at hi hil h1 h2
  subst hi
  unfold F5
  dsimp only
  by_cases hlt : i < a.Ops.length
  ·left
   obtain ⟨K1, e1, h3, h5⟩ := Awl h hH hlt h1
   rw [if_pos (by omega), e1]
   simp only [Option.bind_some]
   rw [Ae (by unfold InI; omega)]
   refine ⟨_, rfl, ⟨i + 1, rfl, hlt, h3, fun z => ?_⟩, by simp only; omega⟩
   simp only
   rw [h5, h2]
   constructor
   ·rintro ((hz | ⟨j, k, a1, a2, a3, a4⟩) | ⟨k, a2, a3, a4⟩)
    ·exact .inl hz
    ·exact .inr ⟨j, k, by omega, a2, a3, a4⟩
    ·exact .inr ⟨i, k, by omega, a2, a3, a4⟩
   ·rintro (hz | ⟨j, k, a1, a2, a3, a4⟩)
    ·exact .inl (.inl hz)
    ·by_cases ej : j = i
     ·subst ej; exact .inr ⟨k, a2, a3, a4⟩
     ·exact .inl (.inr ⟨j, k, by omega, a2, a3, a4⟩)
  ·right
   rw [if_neg (by omega)]
   have e : i = a.Ops.length := by omega
   subst e
   exact ⟨_, rfl, h1, h2⟩) (s := ((0 : Int), A9 Bool ++ H)) ⟨0, rfl, Nat.zero_le _, hH, fun z => ⟨.inl, fun hz => hz.resolve_right (by rintro ⟨j, _, hj, _⟩; omega)⟩⟩
 rw [e]
 exact ⟨K, rfl, h1, h2⟩
theorem Asx {n : Nat} (hn : n ≤ LIM) {xs : List Int} (hx : B3 xs n) (hl : xs.length ≤ LIM) : Ji n xs = some (Dv n fun z => decide ((z : Int) ∈ xs)) := by
 have : Ji (n : Int) xs = F9 xs (n : Int) := rfl
 rw [this, Ai2 hn hx hl]
theorem Ahn {n : Nat} (hn : n ≤ LIM) (S : Nat → Bool) : Gu (Dv n S) = some (Ar n S) := by
 have : Gu (Dv n S) = Ee (Dv n S) := rfl
 rw [this, Uu hn]
theorem Ag0 {n : Nat} (h : ReadyA a n) {xs : List Int} (hx : B3 xs n) (hl : xs.length ≤ LIM) : Dq a xs = some (Ar n (Jc a fun z => decide ((z : Int) ∈ xs))) := by
 have hL := At
 have h8 := h.le
 generalize hS : (fun z : Nat => decide ((z : Int) ∈ xs)) = S
 have hSn : ∀ z, S z = true → z < n := fun z hz => by
  subst hS
  have := hx _ (of_decide_eq_true hz); omega
 have hb := E9 n S
 have hin : ∀ z, nth (Dv n S) z = true ↔ S z = true := fun z => by
  constructor
  ·intro hz
   have hl := Aj8 hz
   rw [hb] at hl
   rwa [Ez hl] at hz
  ·intro hz; rw [Ez (hSn z hz)]; exact hz
 unfold Dq
 rw [h.sz, Asx (by omega) hx hl, hS]
 simp only [Option.bind_some]
 obtain ⟨H, e, h1, h2, h3, h4⟩ := D7 (body := Fg a) (fun s => ∃ j : Nat, s.1 = (j : Int) ∧ j ≤ n + 1 ∧ s.2.length = n ∧ (∀ z, S z = true → nth s.2 z = true) ∧ (∀ z, nth s.2 z = true → Jc a S z = true) ∧ (H9 a (nth s.2) ∨ j ≤ Wr s.2))
  (fun s => (n + 1) - s.1.toNat) (fun H => H.length = n ∧ (∀ z, S z = true → nth H z = true) ∧ (∀ z, nth H z = true → Jc a S z = true) ∧ H9 a (nth H)) (fun s hs => by
  obtain ⟨x, H⟩ := s
  obtain ⟨j, hj, hjn, h1, h2, h3, h4⟩ := hs
  simp only at hj hjn h1 h2 h3 h4
  subst hj
  unfold Fg
  dsimp only
  rw [h.sz]
  have hcl := Aoz H
  by_cases hlt : j ≤ n
  ·left
   obtain ⟨K, eK, k1, k2⟩ := Alj h h1
   rw [if_pos (by omega), eK]
   simp only [Option.bind_some]
   rw [Ae (by unfold InI; omega)]
   have hmore : ∀ z, nth H z = true → nth K z = true := fun z hz => (k2 z).2 (.inl hz)
   refine ⟨_, rfl, ⟨j + 1, rfl, by omega, k1, fun z hz => hmore z (h2 z hz), fun z hz => ?_, ?_⟩, by simp only; omega⟩
   ·rcases (k2 z).1 hz with hz | ⟨i, k, a1, a2, a3, a4⟩
    ·exact h3 z hz
    ·rw [a4]; exact Lr i a1 k a2 (Hs h3 a3)
   ·simp only
    obtain ⟨m1, m2⟩ := App (h1.trans k1.symm) hmore
    by_cases hc : H9 a (nth H)
    ·left
     have : H = K := by
      refine Lg (h1.trans k1.symm) fun z hz => ?_
      rw [Bool.eq_iff_iff, k2]
      constructor
      ·exact .inl
      ·rintro (hz | ⟨i, k, a1, a2, a3, a4⟩)
       ·exact hz
       ·rw [a4]; exact hc i a1 k a2 a3
     rw [← this]; exact hc
    ·right
     have hj := h4.resolve_left hc
     apply Classical.byContradiction
     intro hno
     have e := m2 (by omega)
     refine hc fun i a1 k a2 a3 => ?_
     rw [e]
     exact (k2 _).2 (.inr ⟨i, k, a1, a2, a3, rfl⟩)
  ·right
   rw [if_neg (by omega)]
   exact ⟨_, rfl, h1, h2, h3, h4.resolve_right (by omega)⟩) (s := ((0 : Int), Dv n S)) ⟨0, rfl, by omega, hb, fun z hz => (hin z).2 hz, fun z hz => Jf z ((hin z).1 hz), .inr (Nat.zero_le _)⟩
 rw [e]
 simp only [Option.bind_some]
 have eH : H = Dv n (Jc a S) := by
  refine Lg (by rw [h1, E9]) fun z hz => ?_
  rw [h1] at hz
  rw [Ez hz]
  cases hh : Jc a S z with
  | true => exact Ns h2 h4 z hh
  | false =>
    cases h5 : nth H z with
    | false => rfl
    | true => rw [h3 z h5] at hh; cases hh
 rw [eH, Ahn (by omega)]; rfl
theorem Ann {n : Nat} (h : ReadyA a n) {xs : List Int} (hl : xs.length ≤ LIM) : Dt a xs = some (decide (Cd a n xs)) := by
 have hL := At
 have h8 := h.le
 unfold Dt
 rw [h.sz, Ae (by unfold InI; omega), Am5 _ _ _ hl]
 simp only [Option.bind_some]
 by_cases hr : Aih xs 0 (n - 1)
 ·obtain ⟨h3, h4⟩ := (Ad1 xs n).1 hr
  rw [decide_eq_true hr, if_pos rfl, Ag0 h h4 hl]
  simp only [Option.bind_some]
  have hsl := Dw n (Jc a fun z => decide ((z : Int) ∈ xs))
  rw [Asr (by omega)]
  simp only [Option.bind_some]
  congr 1
  rw [decide_eq_decide]
  exact ⟨fun hc => ⟨h4, h3, hc⟩, fun hc => hc.2.2⟩
 ·rw [decide_eq_false hr, if_neg (by simp), decide_eq_false]
  rintro ⟨h4, h3, _⟩
  exact hr ((Ad1 xs n).2 ⟨h3, h4⟩)
theorem Rr {n : Nat} (h : ReadyA a n) {xs : List Int} : Cd a n xs ↔ B3 xs n ∧ Mp xs ∧ H9 a fun z => decide ((z : Int) ∈ xs) := by
 constructor
 ·rintro ⟨h1, h2, h3⟩
  refine ⟨h1, h2, fun i hi k hk ha => ?_⟩
  have hv := (h.val hi hk).2
  have h4 : Jc a (fun z => decide ((z : Int) ∈ xs)) (Kj a i k) = true := Lr i hi k hk (Hs (fun z hz => Jf z hz) ha)
  have h5 : ((Kj a i k : Nat) : Int) ∈ Ar n (Jc a fun z => decide ((z : Int) ∈ xs)) := Gx.2 ⟨_, hv, h4, rfl⟩
  rw [h3] at h5
  exact decide_eq_true h5
 ·rintro ⟨h1, h2, h3⟩
  exact ⟨h1, h2, by rw [Ap6 h3]; exact W1 h1 h2⟩
end
end Go.Proofs.Ytidaaijecmkndaa.Ax
namespace Go.Proofs.Ytidaaijecmkndaa.Ax
open Go Classical
theorem Ah9 (a : List Int) : ¬ Vx a a := fun ⟨i, _, _, h⟩ => by omega
theorem Al5 {a b c : List Int} (hab : a.length = b.length) (h1 : Vx a b) (h2 : Vx b c) : Vx a c := by
 obtain ⟨i, hi, e1, l1⟩ := h1
 obtain ⟨k, hk, e2, l2⟩ := h2
 rcases Nat.lt_trichotomy i k with h | h | h
 ·exact ⟨i, hi, fun j hj => (e1 j hj).trans (e2 j (by omega)), by rw [← e2 i h]; exact l1⟩
 ·subst h; exact ⟨i, hi, fun j hj => (e1 j hj).trans (e2 j hj), by omega⟩
 ·exact ⟨k, by omega, fun j hj => (e1 j (by omega)).trans (e2 j hj), by rw [e1 k h]; exact l2⟩
theorem Ap1 {a b : List Int} (hab : a.length = b.length) : Vx a b ∨ a = b ∨ Vx b a := by
 by_cases h : ∃ i, i < a.length ∧ nth a i ≠ nth b i
 ·obtain ⟨i, ⟨hi, hne⟩, hmin⟩ : ∃ i, (i < a.length ∧ nth a i ≠ nth b i) ∧ ∀ j, j < i → ¬ (j < a.length ∧ nth a j ≠ nth b j) := by
   obtain ⟨k, hk⟩ := h
   induction k using Nat.strongRecOn with
   | ind k ih =>
     by_cases hx : ∃ j, j < k ∧ (j < a.length ∧ nth a j ≠ nth b j)
     ·obtain ⟨j, h1, h2⟩ := hx; exact ih j h1 h2
     ·exact ⟨k, hk, fun j hj hc => hx ⟨j, hj, hc⟩⟩
  have heq : ∀ j, j < i → nth a j = nth b j := fun j hj => Classical.byContradiction fun hc => hmin j hj ⟨by omega, hc⟩
  by_cases hl : nth a i < nth b i
  ·exact .inl ⟨i, hi, heq, hl⟩
  ·exact .inr (.inr ⟨i, by omega, fun j hj => (heq j hj).symm, by omega⟩)
 ·exact .inr (.inl (Lg hab fun i hi => Classical.byContradiction fun hc => h ⟨i, hi, hc⟩))
def tLt (a b : List Int) : Prop := a.length < b.length ∨ (a.length = b.length ∧ Vx a b)
theorem Wp (a : List Int) : ¬ tLt a a := fun h => h.elim (fun h => by omega) fun h => Ah9 a h.2
theorem Qo {a b c : List Int} (h1 : tLt a b) (h2 : tLt b c) : tLt a c := by
 rcases h1 with h1 | ⟨e1, l1⟩
 ·rcases h2 with h2 | ⟨e2, _⟩
  ·exact .inl (by omega)
  ·exact .inl (by omega)
 ·rcases h2 with h2 | ⟨e2, l2⟩
  ·exact .inl (by omega)
  ·exact .inr ⟨by omega, Al5 e1 l1 l2⟩
theorem X5 (a b : List Int) : tLt a b ∨ a = b ∨ tLt b a := by
 rcases Nat.lt_trichotomy a.length b.length with h | h | h
 ·exact .inl (.inl h)
 ·rcases Ap1 h with h1 | h1 | h1
  ·exact .inl (.inr ⟨h, h1⟩)
  ·exact .inr (.inl h1)
  ·exact .inr (.inr (.inr ⟨h.symm, h1⟩))
 ·exact .inr (.inr (.inl h))
noncomputable def ltT (a b : List Int) : Bool := decide (tLt a b)
theorem Aho : Go.Sort.SWO ltT where
 irrefl x := decide_eq_false (Wp x)
 trans x y z h1 h2 := decide_eq_true (Qo (of_decide_eq_true h1) (of_decide_eq_true h2))
 ntrans x y z h1 h2 := by
  have h1 := of_decide_eq_false h1
  have h2 := of_decide_eq_false h2
  refine decide_eq_false fun h => ?_
  rcases X5 x y with c | c | c
  ·exact h1 c
  ·subst c; exact h2 h
  ·rcases X5 y z with c2 | c2 | c2
   ·exact h2 c2
   ·subst c2; exact h1 h
   ·exact Wp _ (Qo (Qo h c2) c)
theorem Au0 (x y : List Int) (h1 : ltT x y = false) (h2 : ltT y x = false) : x = y := by
 rcases X5 x y with c | c | c
 ·exact absurd c (of_decide_eq_false h1)
 ·exact c
 ·exact absurd c (of_decide_eq_false h2)
def Uc (xs : List (List Int)) : Prop := xs.Pairwise fun a b => ¬ tLt b a
theorem Apy {xs ys : List (List Int)} (h1 : Uc xs) (h2 : Uc ys) (hp : xs.Perm ys) : xs = ys :=
 List.Perm.eq_of_pairwise (fun a b _ _ h1 h2 => by
  rcases X5 a b with c | c | c
  ·exact absurd c h2
  ·exact c
  ·exact absurd c h1) h1 h2 hp
theorem Aei {a b : List Int} (h : a.length ≤ LIM) (_h2 : b.length ≤ LIM) : ∃ c, C1 a b = some c ∧ (c < 0 ↔ tLt a b) := by
 unfold C1
 by_cases h3 : (a.length : Int) < (b.length : Int)
 ·rw [if_pos h3]
  exact ⟨_, rfl, fun _ => .inl (by omega), fun _ => by omega⟩
 ·rw [if_neg h3]
  by_cases h4 : (a.length : Int) > (b.length : Int)
  ·rw [if_pos h4]
   exact ⟨_, rfl, fun h => by omega, fun h => by rcases h with h | ⟨h, _⟩ <;> omega⟩
  ·rw [if_neg h4]
   obtain ⟨c, e, hc⟩ := Ael (a := a) (b := b) (by omega) h
   rw [e]
   refine ⟨c, rfl, ?_⟩
   constructor
   ·intro h5; exact .inr ⟨by omega, hc.1 (by omega)⟩
   ·rintro (h5 | ⟨_, h5⟩)
    ·omega
    ·have := hc.2 h5; omega
theorem Al9 {xss ys : List (List Int)} (hn : xss.length ≤ 1048576) (h1 : ∀ r ∈ xss, r.length ≤ LIM) (hp : ys.Perm xss) (hs : Uc ys) : E5 xss (fun a b => C1 a b) = some ((), ys) := by
 refine Alk ltT Aho Au0 hn (fun x hx y hy => ?_) hp ?_
 ·obtain ⟨c, e, hc⟩ := Aei (h1 x hx) (h1 y hy)
  exact ⟨c, e, decide_eq_decide.2 hc.symm⟩
 ·exact hs.imp fun h => decide_eq_false h
def T5 (S : Nat → Bool) : Nat → Nat
 | 0 => 0
 | n + 1 => if S n then 2 ^ n + T5 S n else T5 S n
theorem Z2 (S : Nat → Bool) : ∀ n, T5 S n < 2 ^ n
 | 0 => by simp [T5]
 | n + 1 => by
   have := Z2 S n
   simp only [T5, Nat.pow_succ]
   split <;> omega
theorem Aec (S : Nat → Bool) : ∀ n i, i < n → Gh (T5 S n) i = S i
 | 0, _, h => by omega
 | n + 1, i, h => by
   have hl := Z2 S n
   rw [Ak3]
   simp only [T5]
   by_cases e : i = n
   ·subst e
    cases hS : S i with
    | true => rw [if_pos rfl, Nat.testBit_two_pow_add_eq, Nat.testBit_lt_two_pow hl]; rfl
    | false => rw [if_neg (by simp), Nat.testBit_lt_two_pow hl]
   ·have ih := Aec S n i (by omega)
    rw [Ak3] at ih
    cases hS : S n with
    | true => rw [if_pos rfl, Nat.testBit_two_pow_add_gt (by omega), ih]
    | false => rw [if_neg (by simp), ih]
def Np (n : Nat) (P : Nat → Bool) (m : Nat) : List (List Int) := ((List.range m).filter P).map fun k => Ar n (Gh k)
theorem W9 (n : Nat) (P : Nat → Bool) (m : Nat) : Np n P (m + 1) = if P m then Np n P m ++ [Ar n (Gh m)] else Np n P m := by
 unfold Np
 rw [List.range_succ, List.filter_append]
 cases h : P m <;> simp [h]
theorem U8 (n : Nat) (P : Nat → Bool) (m : Nat) : (Np n P m).length ≤ m := by
 unfold Np
 rw [List.length_map]
 exact Nat.le_trans (List.length_filter_le _ _) (by simp)
theorem Zc {n : Nat} {P : Nat → Bool} {m : Nat} {r : List Int} (h : r ∈ Np n P m) : ∃ k, k < m ∧ P k = true ∧ r = Ar n (Gh k) := by
 unfold Np at h
 obtain ⟨k, h1, rfl⟩ := List.mem_map.1 h
 obtain ⟨h2, h3⟩ := List.mem_filter.1 h1
 exact ⟨k, List.mem_range.1 h2, h3, rfl⟩
theorem Aqg {n : Nat} {P : Nat → Bool} {m k : Nat} (hk : k < m) (h : P k = true) : Ar n (Gh k) ∈ Np n P m :=
 List.mem_map.2 ⟨k, List.mem_filter.2 ⟨List.mem_range.2 hk, h⟩, rfl⟩
noncomputable def Acg (xss : List (List Int)) : List (List Int) := xss.mergeSort fun x y => !ltT y x
theorem Ms (xss : List (List Int)) : (Acg xss).Perm xss := List.mergeSort_perm _ _
theorem Aar (xss : List (List Int)) : Uc (Acg xss) := (L1.sorted Aho xss).imp fun h => of_decide_eq_false h
theorem Anx {xss ys : List (List Int)} (hs : Uc ys) (hp : ys.Perm xss) : ys = Acg xss := Apy hs (Aar xss) (hp.trans (Ms xss).symm)
theorem Ase {xss : List (List Int)} {l : List Int} (hs : Uc xss) (hn : xss.length ≤ 1048576) (_h1 : ∀ r ∈ xss, r.length ≤ LIM) (hl : l.length ≤ LIM) : ∃ ys, I1 xss l = some ys ∧ Uc ys ∧ ys.Perm (l :: xss) := by
 have hL := At
 unfold I1
 obtain ⟨k, e, m, rfl, hk, hhi, hlo⟩ := D7 (body := F3 xss l) (fun k => ∃ n : Nat, k = (n : Int) ∧ n ≤ xss.length ∧ ∀ i, n ≤ i → i < xss.length → tLt l (nth xss i)) (fun k => k.toNat)
  (fun k => ∃ n : Nat, k = (n : Int) ∧ n ≤ xss.length ∧ (∀ i, n ≤ i → i < xss.length → tLt l (nth xss i)) ∧ (n = 0 ∨ ¬ tLt l (nth xss (n - 1)))) (fun k hk => by
  obtain ⟨n, rfl, hn1, hn2⟩ := hk
  have go : n ≠ 0 → tLt l (nth xss (n - 1)) → ∃ m : Nat, ((n : Int) - 1) = (m : Int) ∧ m ≤ xss.length ∧ ∀ i, m ≤ i → i < xss.length → tLt l (nth xss i) := fun h0 ht =>
   ⟨n - 1, by omega, by omega, fun i hi hi2 => by
    by_cases e : i = n - 1
    ·rw [e]; exact ht
    ·exact hn2 i (by omega) hi2⟩
  unfold F3
  by_cases h0 : n = 0
  ·subst h0
   right
   rw [if_neg (by omega)]
   exact ⟨_, rfl, 0, rfl, by omega, hn2, .inl rfl⟩
  ·have et : ((n : Int) - 1).toNat = n - 1 := by omega
   rw [if_pos (by omega), Ae (by unfold InI; omega), Ae (by omega), et]
   by_cases c1 : (l.length : Int) < ((nth xss (n - 1)).length : Int)
   ·left
    rw [if_pos c1, Ae (by unfold InI; omega)]
    exact ⟨_, rfl, go h0 (.inl (by omega)), by omega⟩
   ·rw [if_neg c1, Ae (by unfold InI; omega), Ae (by omega)]
    by_cases c2 : (l.length : Int) = ((nth xss (n - 1)).length : Int)
    ·rw [if_pos c2, Ae (by unfold InI; omega), Ae (by omega), Aso (by omega) hl]
     simp only [Option.bind_some]
     by_cases c3 : Vx l (nth xss (n - 1))
     ·left
      rw [decide_eq_true c3, if_pos rfl, Ae (by unfold InI; omega)]
      exact ⟨_, rfl, go h0 (.inr ⟨by omega, c3⟩), by omega⟩
     ·right
      rw [decide_eq_false c3, if_neg (by simp)]
      exact ⟨_, rfl, n, rfl, hn1, hn2, .inr fun h => by rcases h with h | ⟨_, h⟩; omega; exact c3 h⟩
    ·right
     rw [if_neg c2]
     exact ⟨_, rfl, n, rfl, hn1, hn2, .inr fun h => by rcases h with h | ⟨h, _⟩ <;> omega⟩) (s := (xss.length : Int)) ⟨_, rfl, Nat.le_refl _, fun i hi hi2 => by omega⟩
 rw [e]
 simp only [Option.bind_some]
 have e0 : Int.toNat 0 = 0 := rfl
 rw [Ae (by omega), Ae (by simp [A9]; omega), Ae (by simp [A9]; omega), Ae (by omega), Ae (by simp [A9]; omega)]
 have ez : A9 (List Int) ++ List.take ((m : Int).toNat - Int.toNat 0) (List.drop (Int.toNat 0) xss) ++ [l] ++ List.take ((xss.length : Int).toNat - (m : Int).toNat) (List.drop (m : Int).toNat xss) = xss.take m ++ l :: xss.drop m := by
  have et : List.take (xss.length - m) (List.drop m xss) = List.drop m xss := List.take_of_length_le (by simp)
  simp [A9, et]
 rw [ez]
 refine ⟨_, rfl, ?_, ?_⟩
 ·have hp : Uc (xss.take m ++ xss.drop m) := by rw [List.take_append_drop]; exact hs
  unfold Uc at hp ⊢
  rw [List.pairwise_append] at hp ⊢
  obtain ⟨p1, p2, p3⟩ := hp
  have hgt : ∀ b ∈ xss.drop m, tLt l b := fun b hb => by
   obtain ⟨i, hi, rfl⟩ := G3.1 hb
   simp only [List.length_drop] at hi
   have e2 : nth (xss.drop m) i = nth xss (m + i) := by
    rw [Dp (by simpa using hi), Dp (by omega), List.getElem_drop]
   rw [e2]; exact hhi _ (by omega) (by omega)
  refine ⟨p1, List.pairwise_cons.2 ⟨fun b hb h => Wp l (Qo (hgt b hb) h), p2⟩, fun a ha b hb => ?_⟩
  have hal : ¬ tLt l a := by
   intro h
   obtain ⟨i, hi, rfl⟩ := G3.1 ha
   simp only [List.length_take] at hi
   have e2 : nth (xss.take m) i = nth xss i := by
    rw [Dp (by simp; omega), Dp (by omega), List.getElem_take]
   rw [e2] at h
   rcases hlo with rfl | hlo
   ·omega
   ·by_cases e3 : i = m - 1
    ·rw [e3] at h; exact hlo h
    ·have hpw := List.pairwise_iff_getElem.1 hs i (m - 1) (by omega) (by omega) (by omega)
     rw [← Dp, ← Dp] at hpw
     rcases X5 (nth xss i) (nth xss (m - 1)) with c | c | c
     ·exact hlo (Qo h c)
     ·rw [c] at h; exact hlo h
     ·exact hpw c
  rcases List.mem_cons.1 hb with rfl | hb
  ·exact hal
  ·exact p3 a ha b hb
 ·have := List.perm_middle (a := l) (l₁ := xss.take m) (l₂ := xss.drop m)
  rwa [List.take_append_drop] at this
end Go.Proofs.Ytidaaijecmkndaa.Ax
namespace Go.Proofs.Ytidaaijecmkndaa.Ax
open Go Classical
def Abc (xs ys : List Int) : Prop := ∀ x ∈ xs, x ∈ ys
theorem Ja {n z : Nat} {q : Nat → Bool} : ((z : Int) ∈ Ar n q) ↔ z < n ∧ q z = true := by
 rw [Gx]
 constructor
 ·rintro ⟨i, h1, h2, e⟩
  have : z = i := by omega
  subst this; exact ⟨h1, h2⟩
 ·rintro ⟨h1, h2⟩; exact ⟨z, h1, h2, rfl⟩
section
variable {a : SAlgebra} {n : Nat}
noncomputable def Pz (a : SAlgebra) (n : Nat) (xs : List Int) : List Int := Ar n (Jc a fun z => decide ((z : Int) ∈ xs))
theorem Ao3 (xs : List Int) : B3 (Pz a n xs) n := Ad5 _ _
theorem Anb (xs : List Int) : Mp (Pz a n xs) := Uf _ _
theorem Acz (xs : List Int) : (Pz a n xs).length ≤ n := Dw _ _
theorem Agw {xs : List Int} (hx : B3 xs n) : Abc xs (Pz a n xs) := fun x hm => by
 have := hx x hm
 have e : ((x.toNat : Nat) : Int) = x := by omega
 rw [← e]
 exact Ja.2 ⟨by omega, Jf _ (decide_eq_true (by rw [e]; exact hm))⟩
theorem Cd.closed (h : ReadyA a n) {xs : List Int} (hx : Cd a n xs) : H9 a fun z => decide ((z : Int) ∈ xs) := ((Rr h).1 hx).2.2
theorem Am8 (h : ReadyA a n) {xs ys : List Int} (hy : Cd a n ys) (hs : Abc xs ys) : Abc (Pz a n xs) ys := fun x hm => by
 obtain ⟨z, hz, hg, rfl⟩ := Gx.1 hm
 exact of_decide_eq_true (Ns (T := fun z => decide ((z : Int) ∈ ys)) (fun v hv => decide_eq_true (hs _ (of_decide_eq_true hv))) (hy.closed h) z hg)
theorem Ahz (h : ReadyA a n) (xs : List Int) : Cd a n (Pz a n xs) := by
 refine (Rr h).2 ⟨Ao3 xs, Anb xs, fun i hi k hk ha => ?_⟩
 have hv := (h.val hi hk).2
 exact decide_eq_true (Ja.2 ⟨hv, Lr i hi k hk (Hs (fun z hz => (Ja.1 (of_decide_eq_true hz)).2) ha)⟩)
theorem Apt {xs : List Int} (hx : Cd a n xs) : Pz a n xs = xs := hx.2.2
theorem Kg {xs : List Int} (hx : Cd a n xs) : xs.length ≤ n := by rw [← hx.2.2]; exact Dw _ _
def whole (n : Nat) : List Int := Ar n fun _ => true
theorem Aqs {n z : Nat} : ((z : Int) ∈ whole n) ↔ z < n := by
 unfold whole; rw [Ja]; simp
theorem Asv (h : ReadyA a n) : Cd a n (whole n) :=
 (Rr h).2 ⟨Ad5 _ _, Uf _ _, fun _i hi _k hk _ => decide_eq_true (Aqs.2 (h.val hi hk).2)⟩
noncomputable def Gm (a : SAlgebra) (n : Nat) : List (List Int) := Acg (Np n (fun m => decide (Cd a n (Ar n (Gh m)))) (2 ^ n))
theorem Qh (_h : ReadyA a n) {xs : List Int} : xs ∈ Gm a n ↔ Cd a n xs := by
 unfold Gm
 rw [(Ms _).mem_iff]
 constructor
 ·intro hm
  obtain ⟨k, _, hP, rfl⟩ := Zc hm
  exact of_decide_eq_true hP
 ·intro hx
  have e : Ar n (Gh (T5 (fun z => decide ((z : Int) ∈ xs)) n)) = xs := by
   rw [Ut fun z hz => Aec _ n z hz]
   exact W1 hx.1 hx.2.1
  have := Aqg (n := n) (P := fun m => decide (Cd a n (Ar n (Gh m)))) (Z2 (fun z => decide ((z : Int) ∈ xs)) n) (decide_eq_true (by rw [e]; exact hx))
  rwa [e] at this
theorem Ag6 : (Gm a n).length ≤ 2 ^ n := by
 unfold Gm
 rw [(Ms _).length_eq]; exact U8 _ _ _
end
end Go.Proofs.Ytidaaijecmkndaa.Ax
namespace Go.Proofs.Ytidaaijecmkndaa.Ax
open Go Classical
section
variable {a : SAlgebra} {n : Nat}
end
end Go.Proofs.Ytidaaijecmkndaa.Ax
namespace Go.Proofs.Ytidaaijecmkndaa.Ax
open Go Classical
theorem Aom {α β : Type} {o : Option α} {k : α → Option β} {Q : α → Prop} {R : β → Prop} (h : ∃ a, o = some a ∧ Q a) (h2 : ∀ a, Q a → ∃ b, k a = some b ∧ R b) : ∃ b, o.bind k = some b ∧ R b := by
 obtain ⟨a, e, hq⟩ := h
 rw [e]; exact h2 a hq
theorem Avq {β : Type} {c : Prop} [Decidable c] {x y : Option β} {R : β → Prop} (h1 : c → ∃ b, x = some b ∧ R b) (h2 : ¬ c → ∃ b, y = some b ∧ R b) : ∃ b, (if c then x else y) = some b ∧ R b := by
 split
 ·exact h1 ‹_›
 ·exact h2 ‹_›
def Pw (a : SAlgebra) : Prop := a.Ops.length ≤ 10 ∧ ∀ f ∈ a.Ops, f.Table.length ≤ 101
theorem Ur {a : SAlgebra} (h : Pw a) : G1 a := ⟨by have := h.1; omega, fun f hf => by have := h.2 f hf; omega⟩
theorem Ak0 (s : ByteArray) (hs : s.size ≤ 100) : ∃ f, Aw s = some f ∧ f.Table.length ≤ 100 := by
 have hL := At
 unfold Aw
 obtain ⟨f, e, hf⟩ := D7 (body := En s) (fun t => ∃ j : Nat, t.1 = (j : Int) ∧ j ≤ s.size ∧ t.2.Table.length ≤ j) (fun t => s.size - t.1.toNat) (fun f => f.Table.length ≤ 100) (fun t ht => by
  obtain ⟨x4, x3⟩ := t
  obtain ⟨j, g1, g2, g3⟩ := ht
  simp only at g1 g2 g3
  subst g1
  unfold En
  dsimp only
  by_cases hj : (j : Int) < (s.size : Int)
  ·left
   rw [if_pos hj, Ae (by omega), Ae (by simp; omega), Ae (by unfold InI; omega)]
   exact ⟨_, rfl, ⟨j + 1, rfl, by omega, by simp; omega⟩, by simp only; omega⟩
  ·right
   rw [if_neg hj]
   exact ⟨_, rfl, by omega⟩) (s := ((0 : Int), ({ Arity := 2, Table := A9 Int } : SOp))) ⟨0, rfl, Nat.zero_le _, by simp [A9]⟩
 rw [e]
 exact ⟨_, rfl, hf⟩
theorem Akd {n : Int} (hn : n = 2 ∨ n = 3) : ∃ f, E6 n = some f ∧ f.Table.length ≤ 100 := by
 have hL := At
 unfold E6
 obtain ⟨f, e, hf⟩ := D7 (body := Et n) (fun t => ∃ j : Nat, t.1 = (j : Int) ∧ j ≤ 27 ∧ t.2.Table.length ≤ j) (fun t => 27 - t.1.toNat) (fun f => f.Table.length ≤ 100) (fun t ht => by
  obtain ⟨x4, x3⟩ := t
  obtain ⟨j, g1, g2, g3⟩ := ht
  simp only at g1 g2 g3
  subst g1
  unfold Et
  dsimp only
  have d1 : ∀ m : Int, (j : Int).tdiv m = (j : Int) / m := fun m => Int.tdiv_eq_ediv_of_nonneg (by omega)
  have d2 : ∀ m : Int, (j : Int).tmod m = (j : Int) % m := fun m => Int.tmod_eq_emod_of_nonneg (by omega)
  rw [d1, d1, d2]
  rcases hn with rfl | rfl
  ·have d3 : ((j : Int) / 2).tmod 2 = ((j : Int) / 2) % 2 := Int.tmod_eq_emod_of_nonneg (by omega)
   rw [d3]
   by_cases hj : (j : Int) < 2 * 2 * 2
   ·left
    rw [Ae (by unfold InI; omega), Ae (by unfold InI; omega), if_pos hj]
    rw [Ae (by unfold InI; omega), Ae (by unfold InI; omega), Ae (by unfold InI; omega), Ae (by unfold InI; omega), Ae (by omega), Ae (by unfold InI; omega), Ae (by omega), Ae (by unfold InI; omega), Ae (by omega), Ae (by simp; omega), Ae (by unfold InI; omega)]
    exact ⟨_, rfl, ⟨j + 1, rfl, by omega, by simp; omega⟩, by simp only; omega⟩
   ·right
    rw [Ae (by unfold InI; omega), Ae (by unfold InI; omega), if_neg hj]
    exact ⟨_, rfl, by omega⟩
  ·have d3 : ((j : Int) / 3).tmod 3 = ((j : Int) / 3) % 3 := Int.tmod_eq_emod_of_nonneg (by omega)
   rw [d3]
   by_cases hj : (j : Int) < 3 * 3 * 3
   ·left
    rw [Ae (by unfold InI; omega), Ae (by unfold InI; omega), if_pos hj]
    rw [Ae (by unfold InI; omega), Ae (by unfold InI; omega), Ae (by unfold InI; omega), Ae (by unfold InI; omega), Ae (by omega), Ae (by unfold InI; omega), Ae (by omega), Ae (by unfold InI; omega), Ae (by omega), Ae (by simp; omega), Ae (by unfold InI; omega)]
    exact ⟨_, rfl, ⟨j + 1, rfl, by omega, by simp; omega⟩, by simp only; omega⟩
   ·right
    rw [Ae (by unfold InI; omega), Ae (by unfold InI; omega), if_neg hj]
    exact ⟨_, rfl, by omega⟩) (s := ((0 : Int), ({ Arity := 3, Table := A9 Int } : SOp))) ⟨0, rfl, Nat.zero_le _, by simp [A9]⟩
 rw [e]
 exact ⟨_, rfl, hf⟩
theorem Aju (k : Int) : ∃ a, Hq k = some a ∧ Pw a := by
 have fin0 : ∀ {z : Int}, Pw { Size := z, Ops := A9 SOp } := ⟨by simp [A9], fun f hf => by simp [A9] at hf⟩
 have fin1 : ∀ {z : Int} {f : SOp}, f.Table.length ≤ 100 → Pw { Size := z, Ops := [f] } := fun h => ⟨by simp, fun f hf => by simp at hf; subst hf; omega⟩
 have fin2 : ∀ {z : Int} {f g : SOp}, f.Table.length ≤ 100 → g.Table.length ≤ 100 → Pw { Size := z, Ops := [f, g] } := fun h1 h2 => ⟨by simp, fun f hf => by
  simp only [List.mem_cons, List.not_mem_nil, or_false] at hf
  rcases hf with rfl | rfl <;> omega⟩
 have fin3 : ∀ {z : Int} {f g e : SOp}, f.Table.length ≤ 100 → g.Table.length ≤ 100 → e.Table.length ≤ 100 → Pw { Size := z, Ops := [f, g, e] } := fun h1 h2 h3 => ⟨by simp, fun f hf => by
  simp only [List.mem_cons, List.not_mem_nil, or_false] at hf
  rcases hf with rfl | rfl | rfl <;> omega⟩
 unfold Hq
 repeat' (first | refine Avq (fun _ => ?_) (fun _ => ?_) | refine Aom (Ak0 _ (by decide)) fun f hf => ?_ | refine Aom (Akd (by simp)) fun f hf => ?_)
 all_goals
  first
   | exact ⟨_, rfl, fin0⟩
   | exact ⟨_, rfl, fin1 (by first | assumption | decide)⟩
   | exact ⟨_, rfl, fin2 (by first | assumption | decide) (by first | assumption | decide)⟩
   | exact ⟨_, rfl, fin3 (by first | assumption | decide) (by first | assumption | decide) (by first | assumption | decide)⟩
theorem Yg {c : Sl1Cur} {k : Nat} (h : Cur k c) (hk : k ≤ 600000000) : ∃ a d, Cp c = some (a, d) ∧ Cur (k + 1000) d ∧ Pw a := by
 have hL := At
 unfold Cp
 obtain ⟨b, d, e, hd⟩ := Al7 h (by omega) 4
 rw [e]
 simp only [Option.bind_some]
 by_cases hb : b = true
 ·rw [if_pos hb]
  obtain ⟨n, d2, e2, hd2, hn⟩ := Fp hd (by omega) [2, 2, 3, 3, 4] (by simp)
  rw [e2]
  simp only [Option.bind_some]
  obtain ⟨m, d3, e3, hd3, hm⟩ := Fp hd2 (by omega) [1, 1, 2] (by simp)
  rw [e3]
  simp only [Option.bind_some]
  obtain ⟨N, rfl, hN⟩ : ∃ N : Nat, n = (N : Int) ∧ 2 ≤ N ∧ N ≤ 4 := ⟨n.toNat, by simp at hn; omega, by simp at hn; omega⟩
  obtain ⟨M, rfl, hM⟩ : ∃ M : Nat, m = (M : Int) ∧ 1 ≤ M ∧ M ≤ 2 := ⟨m.toNat, by simp at hm; omega, by simp at hm; omega⟩
  obtain ⟨⟨a, d4⟩, e4, ⟨ha1, ha2, ha3⟩, hd4⟩ := D7 (body := Cn (N : Int)) (fun s => ∃ j : Nat, s.1 = (j : Int) ∧ j ≤ M ∧ s.2.1.Size = (N : Int) ∧ s.2.1.Ops.length = M - j ∧ (∀ f ∈ s.2.1.Ops, 1 ≤ f.Table.length ∧ f.Table.length ≤ 64) ∧ Cur (k + 6 + 200 * (M - j)) s.2.2) (fun s => s.1.toNat)
   (fun t => (t.1.Size = (N : Int) ∧ t.1.Ops.length = M ∧ ∀ f ∈ t.1.Ops, 1 ≤ f.Table.length ∧ f.Table.length ≤ 64) ∧ Cur (k + 500) t.2) (fun s hs => by
   obtain ⟨x6, x5, x1⟩ := s
   obtain ⟨j, g1, g2, g3, g4, g5, g6⟩ := hs
   simp only at g1 g2 g3 g4 g5 g6
   subst g1
   unfold Cn
   dsimp only
   by_cases hj : (j : Int) > 0
   ·left
    rw [if_pos hj]
    obtain ⟨r, d5, e5, hd5, hr⟩ := Fp g6 (by omega) [0, 1, 2, 2, 3] (by simp)
    rw [e5]
    simp only [Option.bind_some]
    obtain ⟨R, rfl, hR⟩ : ∃ R : Nat, r = (R : Int) ∧ R ≤ 3 := ⟨r.toNat, by simp at hr; omega, by simp at hr; omega⟩
    have hop : ∃ f : SOp, ((if (N : Int) = 4 then if (R : Int) = 3 then some ({ Arity := 2, Table := A9 Int } : SOp) else some { Arity := (R : Int), Table := A9 Int } else some { Arity := (R : Int), Table := A9 Int } : Option SOp)) = some f ∧ f.Table = [] ∧ ∃ Q : Nat, f.Arity = (Q : Int) ∧ 1 ≤ N ^ Q ∧ N ^ Q ≤ 64 ∧ Q ≤ 3 := by
     by_cases h4 : (N : Int) = 4
     ·rw [if_pos h4]
      have h4 : N = 4 := by omega
      subst h4
      by_cases h3 : (R : Int) = 3
      ·rw [if_pos h3]; exact ⟨_, rfl, rfl, 2, rfl, by decide⟩
      ·rw [if_neg h3]
       refine ⟨_, rfl, rfl, R, rfl, ?_⟩
       have : R = 0 ∨ R = 1 ∨ R = 2 := by omega
       rcases this with rfl | rfl | rfl <;> decide
     ·rw [if_neg h4]
      refine ⟨_, rfl, rfl, R, rfl, ?_⟩
      have h5 : N = 2 ∨ N = 3 := by omega
      have : R = 0 ∨ R = 1 ∨ R = 2 ∨ R = 3 := by omega
      rcases h5 with rfl | rfl <;> rcases this with rfl | rfl | rfl | rfl <;> decide
    obtain ⟨f, ef, ht, Q, hQ, q1, q2, q3⟩ := hop
    rw [ef]
    simp only [Option.bind_some]
    rw [hQ, Aoj (by omega) q3]
    simp only [Option.bind_some]
    obtain ⟨⟨f2, d6⟩, e6, hf2, hd6⟩ := D7 (body := Cq (N : Int) (j : Int) x5) (fun s => ∃ i : Nat, s.1 = (i : Int) ∧ i ≤ N ^ Q ∧ s.2.1.Table.length = N ^ Q - i ∧ Cur (k + 6 + 200 * (M - j) + 2 + 2 * (N ^ Q - i)) s.2.2) (fun s => s.1.toNat) (fun t => t.1.Table.length = N ^ Q ∧ Cur (k + 6 + 200 * (M - j) + 2 + 2 * N ^ Q) t.2) (fun s hs => by
     obtain ⟨x8, x7, x9⟩ := s
     obtain ⟨i, k1, k2, k3, k4⟩ := hs
     simp only at k1 k2 k3 k4
     subst k1
     unfold Cq
     dsimp only
     by_cases hi : (i : Int) > 0
     ·left
      rw [if_pos hi]
      obtain ⟨v, d7, e7, hd7, _⟩ := Fx k4 (by omega) (N : Int)
      rw [e7]
      simp only [Option.bind_some]
      rw [Ae (by simp; omega), Ae (by unfold InI; omega)]
      exact ⟨_, rfl, ⟨i - 1, by simp only; omega, by omega, by simp; omega, hd7.mono (by omega)⟩, by simp only; omega⟩
     ·right
      rw [if_neg hi]
      exact ⟨_, rfl, by simp only; omega, k4.mono (by omega)⟩) (s := (((N ^ Q : Nat) : Int), f, d5)) ⟨N ^ Q, rfl, Nat.le_refl _, by simp [ht], hd5.mono (by omega)⟩
    rw [e6]
    simp only [Option.bind_some]
    rw [Ae (by simp; omega), Ae (by unfold InI; omega)]
    simp only at hf2 hd6
    refine ⟨_, rfl, ⟨j - 1, by simp only; omega, by omega, g3, by simp; omega, fun f hf => ?_, hd6.mono (by omega)⟩, by simp only; omega⟩
    rcases List.mem_append.1 hf with h' | h'
    ·exact g5 f h'
    ·rw [List.mem_singleton.1 h']; omega
   ·right
    rw [if_neg hj]
    exact ⟨_, rfl, ⟨g3, by simp only; omega, g5⟩, g6.mono (by omega)⟩) (s := ((M : Int), ({ Size := (N : Int), Ops := A9 SOp } : SAlgebra), d3)) ⟨M, rfl, Nat.le_refl _, rfl, by simp [A9], fun f hf => by simp [A9] at hf, hd3.mono (by omega)⟩
  rw [e4]
  simp only [Option.bind_some]
  simp only at ha1 ha2 ha3 hd4
  have h0 : 0 < a.Ops.length := by omega
  have hf0 := ha3 _ (Bu h0)
  have ht : Pw a := ⟨by omega, fun f hf => by have := ha3 f hf; omega⟩
  have hset : ∀ {z : Int} {f : SOp}, f.Table.length ≤ 101 → Pw { Size := z, Ops := a.Ops.set (Int.toNat 0) f } := fun hf => ⟨by simp; omega, fun g hg => by
   rcases List.mem_or_eq_of_mem_set hg with h' | h'
   ·have := ha3 g h'; omega
   ·rw [h']; exact hf⟩
  obtain ⟨w, d5, e5, hd5, w0, _⟩ := Fx hd4 (by omega) 16
  rw [e5]
  simp only [Option.bind_some]
  by_cases c0 : w = 0
  ·rw [if_pos c0, Ae (by unfold InI; omega)]
   obtain ⟨r, d6, e6, hd6, _⟩ := Fp hd5 (by omega) [0, 9, (N : Int) + 1] (by simp)
   rw [e6]
   exact ⟨_, _, rfl, hd6.mono (by omega), ht⟩
  rw [if_neg c0]
  by_cases c1 : w = 1
  ·rw [if_pos c1, Ae (by omega), Ae (by simp only [Int.toNat_zero, List.length_singleton]; omega)]
   exact ⟨_, _, rfl, hd5.mono (by omega), hset (by simp only [Int.toNat_zero, List.length_append, List.length_singleton]; omega)⟩
  rw [if_neg c1]
  by_cases c2 : w = 2
  ·rw [if_pos c2, Ae (by omega)]
   obtain ⟨r, d6, e6, hd6, r0, r1⟩ := Fx hd5 (by omega) ((nth a.Ops (Int.toNat 0)).Table.length : Int)
   rw [e6]
   simp only [Option.bind_some]
   obtain ⟨s, d7, e7, hd7, _⟩ := Fp hd6 (by omega) [-1, (N : Int)] (by simp)
   rw [e7]
   simp only [Option.bind_some]
   simp only [Int.toNat_zero] at r1 ⊢
   rw [Ae (by omega)]
   exact ⟨_, _, rfl, hd7.mono (by omega), hset (by simp only [List.length_set]; omega)⟩
  rw [if_neg c2]
  by_cases c3 : w = 3
  ·rw [if_pos c3]
   obtain ⟨r, d6, e6, hd6, _⟩ := Fp hd5 (by omega) [-1, 4] (by simp)
   rw [e6]
   simp only [Option.bind_some]
   rw [Ae (by omega)]
   exact ⟨_, _, rfl, hd6.mono (by omega), hset (by simp only [Int.toNat_zero]; omega)⟩
  rw [if_neg c3]
  by_cases c4 : w = 4
  ·rw [if_pos c4]
   obtain ⟨⟨a2, d6⟩, e6, ht2, hd6⟩ := D7 (body := Cs (N : Int)) (fun s => s.1.Ops.length ≤ 5 ∧ (∀ f ∈ s.1.Ops, f.Table.length ≤ 64) ∧ Cur (k + 502 + 2 * s.1.Ops.length) s.2) (fun s => 5 - s.1.Ops.length) (fun t => Pw t.1 ∧ Cur (k + 600) t.2) (fun s hs => by
    obtain ⟨x5, x1⟩ := s
    obtain ⟨g1, g2, g3⟩ := hs
    simp only at g1 g2 g3
    unfold Cs
    dsimp only
    obtain ⟨r, d7, e7, hd7, r0, r1⟩ := Fx g3 (by omega) 2
    rw [e7]
    simp only [Option.bind_some]
    rw [Ae (by unfold InI; omega)]
    by_cases hl : (x5.Ops.length : Int) < 4 + r
    ·left
     rw [if_pos hl, Ae (by omega), Ae (by simp; omega)]
     refine ⟨_, rfl, ⟨by simp; omega, fun f hf => ?_, hd7.mono (by simp; omega)⟩, by simp; omega⟩
     rcases List.mem_append.1 hf with h' | h'
     ·exact g2 f h'
     ·rw [List.mem_singleton.1 h']; simp; omega
    ·right
     rw [if_neg hl]
     exact ⟨_, rfl, ⟨by simp only; omega, fun f hf => by have := g2 f hf; omega⟩, hd7.mono (by omega)⟩) (s := (a, d5)) ⟨by simp only; omega, fun f hf => (ha3 f hf).2, hd5.mono (by omega)⟩
   rw [e6]
   exact ⟨_, _, rfl, hd6.mono (by omega), ht2⟩
  rw [if_neg c4]
  exact ⟨_, _, rfl, hd5.mono (by omega), ht⟩
 ·rw [if_neg hb]
  obtain ⟨r, d2, e2, hd2, _⟩ := Fx hd (by omega) 17
  rw [e2]
  simp only [Option.bind_some]
  obtain ⟨a, e3, ht⟩ := Aju r
  rw [e3]
  exact ⟨_, _, rfl, hd2.mono (by omega), ht⟩
theorem Apa {code : List Int} (hc : ∀ x ∈ code, 0 ≤ x ∧ x ≤ 255) (hl : code.length ≤ 65536) : Cur 0 ({ code := code, at_ := 0, seed := 0 } : Sl1Cur) := ⟨hc, hl, Int.le_refl _, Int.le_refl _⟩
theorem Aif {c : Sl1Cur} {k : Nat} (h : Cur k c) (hk : k ≤ 800000000) (a : SAlgebra) : ∃ r d, Du c a = some (r, d) ∧ Cur (k + 4) d := by
 unfold Du
 by_cases h0 : a.Size < 1
 ·rw [if_pos h0]
  obtain ⟨r, d, e, hd, _⟩ := Fp h (by omega) [-1, a.Size] (by simp)
  rw [e]
  exact ⟨_, _, rfl, hd.mono (by omega)⟩
 ·rw [if_neg h0]
  obtain ⟨b, d, e, hd⟩ := Al7 h (by omega) 24
  rw [e]
  simp only [Option.bind_some]
  by_cases hb : b = true
  ·rw [if_pos hb]
   obtain ⟨r, d2, e2, hd2, _⟩ := Fp hd (by omega) [-1, a.Size] (by simp)
   rw [e2]
   exact ⟨_, _, rfl, hd2.mono (by omega)⟩
  ·rw [if_neg hb]
   obtain ⟨r, d2, e2, hd2, _⟩ := Fx hd (by omega) a.Size
   rw [e2]
   exact ⟨_, _, rfl, hd2.mono (by omega)⟩
theorem An7 {c : Sl1Cur} {k : Nat} (h : Cur k c) (hk : k ≤ 700000000) (a : SAlgebra) : ∃ xs d, Es c a = some (xs, d) ∧ Cur (k + 200) d ∧ xs.length ≤ 21 := by
 have hL := At
 unfold Es
 obtain ⟨r, d, e, hd, a1, a2⟩ := Fx h (by omega) 24
 rw [e]
 simp only [Option.bind_some]
 have hq : 0 ≤ r.tdiv 11 ∧ r.tdiv 11 ≤ 2 := by
  have : r.tdiv 11 = r / 11 := Int.tdiv_eq_ediv_of_nonneg a1
  omega
 rw [Ae ⟨by omega, by unfold InI; omega⟩, Ae (by unfold InI; omega), Ae (by simp; omega)]
 have hlen : 0 < (List.take ((6 + r.tdiv 11).toNat - Int.toNat 0) (List.drop (Int.toNat 0) ([0, 1, 1, 2, 2, 3, 20, 21] : List Int))).length := by simp; omega
 obtain ⟨m, d2, e2, hd2, hm⟩ := Fp hd (by omega) _ hlen
 rw [e2]
 simp only [Option.bind_some]
 have hmem : m ∈ ([0, 1, 1, 2, 2, 3, 20, 21] : List Int) := List.mem_of_mem_drop (List.mem_of_mem_take hm)
 obtain ⟨t, rfl, ht⟩ : ∃ t : Nat, m = (t : Int) ∧ t ≤ 21 := by
  refine ⟨m.toNat, ?_, ?_⟩ <;> · simp at hmem; omega
 obtain ⟨⟨xs, d3⟩, e3, h3, h4⟩ := D7 (body := Da a) (fun s => ∃ j : Nat, s.1 = (j : Int) ∧ s.2.1.length + j ≤ 21 ∧ Cur (k + 4 + 4 * s.2.1.length) s.2.2) (fun s => s.1.toNat) (fun u => u.1.length ≤ 21 ∧ Cur (k + 200) u.2) (fun s hs => by
  obtain ⟨x6, x5, x27⟩ := s
  obtain ⟨j, g1, g2, g3⟩ := hs
  simp only at g1 g2 g3
  subst g1
  unfold Da
  dsimp only
  by_cases hj : (j : Int) > 0
  ·left
   rw [if_pos hj]
   obtain ⟨r8, d8, e8, h8⟩ := Aif g3 (by omega) a
   rw [e8]
   simp only [Option.bind_some]
   rw [Ae (by simp; omega), Ae (by unfold InI; omega)]
   exact ⟨_, rfl, ⟨j - 1, by simp only; omega, by simp; omega, h8.mono (by simp; omega)⟩, by simp only; omega⟩
  ·right
   rw [if_neg hj]
   exact ⟨_, rfl, by simp only; omega, g3.mono (by omega)⟩) (s := ((t : Int), A9 Int, d2)) ⟨t, rfl, by simp [A9]; omega, by simpa [A9] using hd2.mono (by omega)⟩
 rw [e3]
 exact ⟨_, _, rfl, h4, h3⟩
theorem Aaa {code : List Int} (hc : ∀ x ∈ code, 0 ≤ x ∧ x ≤ 255) (hl : code.length ≤ 65536) : ∃ a xs, Cz code = some (a, xs) ∧ Pw a ∧ xs.length ≤ 21 := by
 unfold Cz
 obtain ⟨a, d, e, hd, ha⟩ := Yg (Apa hc hl) (by omega)
 rw [e]
 simp only [Option.bind_some]
 obtain ⟨xs, d2, e2, _, hx⟩ := An7 hd (by omega) a
 rw [e2]
 exact ⟨_, _, rfl, ha, hx⟩
end Go.Proofs.Ytidaaijecmkndaa.Ax
namespace Go.Proofs.Ytidaaijecmkndaa.Ax
open Go Classical
section
variable {a : SAlgebra} {n : Nat}
end
theorem Aan {α : Type} [Inhabited α] {body : (Int × List α) → Option ((Int × List α) ⊕ List α)} (rows : List α) (P : α → Bool)
  (h : ∀ (i : Nat) acc, i < rows.length → acc.length ≤ i → body ((i : Int), acc) = some (.inl (((i + 1 : Nat) : Int), if P (nth rows i) then acc ++ [nth rows i] else acc)))
  (he : ∀ acc, body ((rows.length : Int), acc) = some (.inr acc)) : Ap body (0, A9 α) = some (rows.filter P) := by
 have := C8 (body := body) (fun i => ((i : Int), (rows.take i).filter P)) rows.length (rows.filter P) (fun i hi => by
  have hl : ((rows.take i).filter P).length ≤ i := Nat.le_trans (List.length_filter_le _ _) (by simp; omega)
  rw [h i _ hi hl, Ny hi, List.filter_append]
  cases hP : P (nth rows i) <;> simp [hP]) (by rw [List.take_length]; exact he _)
 simpa [A9] using this
theorem Aav {S T : Nat → Bool} (h : ∀ z, S z = true → T z = true) : ∀ n, (Ar n T).length = (Ar n S).length + (Ar n fun z => T z && !S z).length
 | 0 => rfl
 | n + 1 => by
   have ih := Aav h n
   rw [Dg, Dg, Dg]
   cases hS : S n with
   | true => rw [h n hS]; simp; omega
   | false => cases hT : T n <;> simp <;> omega
section
variable {a : SAlgebra} {n : Nat}
noncomputable def Jv (a : SAlgebra) (S : Nat → Bool) : Nat → Bool := fun z => S z || decide (∃ i k, i < a.Ops.length ∧ k < (nth a.Ops i).Table.length ∧ Jh a i k S ∧ z = Kj a i k)
theorem Wg {S : Nat → Bool} (z : Nat) (h : S z = true) : Jv a S z = true := by unfold Jv; rw [h]; rfl
noncomputable def B2 (a : SAlgebra) (S : Nat → Bool) : Nat → Nat → Bool
 | 0 => S
 | j + 1 => Jv a (B2 a S j)
noncomputable def Fo (a : SAlgebra) (n : Nat) (S : Nat → Bool) : Nat → List Int
 | 0 => Ar n S
 | j + 1 => Ar n fun z => B2 a S (j + 1) z && !B2 a S j z
noncomputable def B9 (a : SAlgebra) (n : Nat) (S : Nat → Bool) (j : Nat) : List (List Int) := (List.range (j + 1)).map (Fo a n S)
theorem Rq (S : Nat → Bool) (j : Nat) : B9 a n S (j + 1) = B9 a n S j ++ [Fo a n S (j + 1)] := by
 unfold B9; rw [List.range_succ]; simp
theorem Oy (S : Nat → Bool) (j : Nat) : (B9 a n S j).length = j + 1 := by simp [B9]
theorem U3 {S : Nat → Bool} : ∀ j z, B2 a S j z = true → Jc a S z = true
 | 0, z, h => Jf z h
 | j + 1, z, h => by
   simp only [B2, Jv, Bool.or_eq_true, decide_eq_true_eq] at h
   rcases h with h | ⟨i, k, h1, h2, h3, rfl⟩
   ·exact U3 j z h
   ·exact Lr i h1 k h2 (Hs (fun z hz => U3 j z hz) h3)
theorem Aeo (h : ReadyA a n) {S : Nat → Bool} (hS : ∀ z, S z = true → z < n) : ∀ j z, B2 a S j z = true → z < n
 | 0, z, hz => hS z hz
 | j + 1, z, hz => by
   simp only [B2, Jv, Bool.or_eq_true, decide_eq_true_eq] at hz
   rcases hz with hz | ⟨i, k, h1, h2, h3, rfl⟩
   ·exact Aeo h hS j z hz
   ·exact (h.val h1 h2).2
theorem Aex {S : Nat → Bool} : ∀ j z, S z = true → B2 a S j z = true
 | 0, _, h => h
 | j + 1, z, h => Wg z (Aex j z h)
theorem Ahp (S : Nat → Bool) (j : Nat) : (Ar n (B2 a S (j + 1))).length = (Ar n (B2 a S j)).length + (Fo a n S (j + 1)).length := Aav (fun z hz => Wg z hz) n
theorem Apn (h : ReadyA a n) {S : Nat → Bool} {j : Nat} (he : Fo a n S (j + 1) = []) : Ar n (B2 a S j) = Ar n (Jc a S) := by
 have hc : H9 a (B2 a S j) := fun i hi k hk ha => by
  have hv := (h.val hi hk).2
  have := (Agy.1 he) _ hv
  have h2 : B2 a S (j + 1) (Kj a i k) = true := by
   simp only [B2, Jv, Bool.or_eq_true, decide_eq_true_eq]
   exact .inr ⟨i, k, hi, hk, ha, rfl⟩
  rw [h2] at this
  simpa using this
 refine Ut fun z _ => ?_
 rw [Bool.eq_iff_iff]
 exact ⟨U3 j z, Ns (fun z hz => Aex j z hz) hc z⟩
theorem Asy (a : SAlgebra) (n : Nat) (S : Nat → Bool) : ∃ J, J ≤ n ∧ Fo a n S (J + 1) = [] ∧ ∀ j, j < J → Fo a n S (j + 1) ≠ [] := by
 have hx : ∃ j, j ≤ n ∧ Fo a n S (j + 1) = [] := by
  apply Classical.byContradiction
  intro hno
  have key : ∀ j, j ≤ n + 1 → j ≤ (Ar n (B2 a S j)).length := by
   intro j
   induction j with
   | zero => intro _; omega
   | succ j ih =>
     intro hj
     have h1 := ih (by omega)
     have h2 := Ahp (a := a) (n := n) S j
     have h3 : Fo a n S (j + 1) ≠ [] := fun e => hno ⟨j, by omega, e⟩
     have h4 := List.length_pos_iff.2 h3
     omega
  have := key (n + 1) (Nat.le_refl _)
  have := Dw n (B2 a S (n + 1))
  omega
 obtain ⟨k, hk⟩ := hx
 induction k using Nat.strongRecOn with
 | ind k ih =>
   by_cases hx : ∃ j, j < k ∧ Fo a n S (j + 1) = []
   ·obtain ⟨j, h1, h2⟩ := hx; exact ih j h1 ⟨by omega, h2⟩
   ·exact ⟨k, hk.1, hk.2, fun j hj hc => hx ⟨j, hj, hc⟩⟩
theorem Acw (S : Nat → Bool) : ∀ j, ((B9 a n S j).map List.length).sum = (Ar n (B2 a S j)).length
 | 0 => by simp [B9, Fo, B2]
 | j + 1 => by
   rw [Rq, List.map_append, List.sum_append, Acw S j, Ahp]
   simp
theorem Aej {S : Nat → Bool} {j : Nat} {r : List Int} (hr : r ∈ B9 a n S j) : Abc r (Ar n (Jc a S)) ∧ r.length ≤ n := by
 unfold B9 at hr
 obtain ⟨i, _, rfl⟩ := List.mem_map.1 hr
 cases i with
 | zero =>
   refine ⟨fun x hx => ?_, Dw _ _⟩
   obtain ⟨z, h1, h2, rfl⟩ := Gx.1 hx
   exact Ja.2 ⟨h1, Jf z h2⟩
 | succ i =>
   refine ⟨fun x hx => ?_, Dw _ _⟩
   obtain ⟨z, h1, h2, rfl⟩ := Gx.1 hx
   simp only [Bool.and_eq_true] at h2
   exact Ja.2 ⟨h1, U3 (i + 1) z h2.1⟩
end
end Go.Proofs.Ytidaaijecmkndaa.Ax
namespace Go.Proofs.Ytidaaijecmkndaa.Ax
open Go Classical
theorem Asm {xs : List Int} (h : xs.length ≤ LIM) : Jq xs = some xs := by
 unfold Jq
 rw [Ae (by show 0 + xs.length ≤ _; omega)]; rfl
theorem Ary {xs : List Int} (h : xs.length ≤ LIM) : H3 xs = some xs := by
 unfold H3
 rw [Ae (by show 0 + xs.length ≤ _; omega)]; rfl
section
variable {a : SAlgebra} {n : Nat}
theorem ReadyA.pow (h : ReadyA a n) : 2 ^ n ≤ 1048576 := Ai3 (by have := h.le; omega)
theorem Ap0 (h : ReadyA a n) : Hp a = some (Gm a n) := by
 have hL := At
 have h8 := h.le
 have hp := h.pow
 unfold Hp
 have key := C8 (body := D1 a) (fun i => ((i : Int), Np n (fun m => decide (Cd a n (Ar n (Gh m)))) i)) (2 ^ n) (Np n (fun m => decide (Cd a n (Ar n (Gh m)))) (2 ^ n)) (fun i hi => by
  have hlen := U8 n (fun m => decide (Cd a n (Ar n (Gh m)))) i
  have hsl := Dw n (Gh i)
  unfold D1
  dsimp only
  rw [h.sz, Ae (by omega), Aci (by omega), if_pos (by omega), Ass (by omega) hi]
  simp only [Option.bind_some]
  rw [Acc h (by omega)]
  simp only [Option.bind_some]
  rw [W9]
  by_cases hd : Cd a n (Ar n (Gh i))
  ·rw [decide_eq_true hd, if_pos rfl, Ae (by simp; omega), Ae (by unfold InI; omega), if_pos rfl]; rfl
  ·rw [decide_eq_false hd, if_neg (by simp), Ae (by unfold InI; omega), if_neg (by simp)]; rfl) (by
  unfold D1
  dsimp only
  rw [h.sz, Ae (by omega), Aci (by omega), if_neg (by omega)])
 have e0 : ((0 : Int), A9 (List Int)) = (((0 : Nat) : Int), Np n (fun m => decide (Cd a n (Ar n (Gh m)))) 0) := rfl
 rw [e0, key]
 simp only [Option.bind_some]
 have hlen := U8 n (fun m => decide (Cd a n (Ar n (Gh m)))) (2 ^ n)
 rw [Al9 (ys := Gm a n) (by omega) (fun r hr => by
  obtain ⟨k, _, _, rfl⟩ := Zc hr
  have := Dw n (Gh k); omega) (Ms _) (Aar _)]
 rfl
theorem Ao2 (h : ReadyA a n) : Hw a = some (Gm a n) := by
 have hL := At
 have h8 := h.le
 have hp := h.pow
 unfold Hw
 obtain ⟨ys, e, h1, h2⟩ := D7 (body := Gr a) (fun s => ∃ i : Nat, s.1 = (i : Int) ∧ i ≤ 2 ^ n ∧ Uc s.2 ∧ s.2.Perm (Np n (fun m => decide (Cd a n (Ar n (Gh m)))) i)) (fun s => 2 ^ n - s.1.toNat) (fun ys => Uc ys ∧ ys.Perm (Np n (fun m => decide (Cd a n (Ar n (Gh m)))) (2 ^ n))) (fun s hs' => by
  obtain ⟨x, xs⟩ := s
  obtain ⟨i, hi, hil, hr, hpm⟩ := hs'
  simp only at hi hil hr hpm
  subst hi
  have hlen := U8 n (fun m => decide (Cd a n (Ar n (Gh m)))) i
  have hxl : xs.length ≤ i := by rw [hpm.length_eq]; exact hlen
  have hrow : ∀ r ∈ xs, r.length ≤ LIM := fun r hr => by
   obtain ⟨k, _, _, rfl⟩ := Zc (hpm.mem_iff.1 hr)
   have := Dw n (Gh k); omega
  have hsl := Dw n (Gh i)
  unfold Gr
  dsimp only
  rw [h.sz]
  by_cases hlt : i < 2 ^ n
  ·left
   rw [Ae (by omega), Aci (by omega), if_pos (by omega), Asd (by omega) hlt]
   simp only [Option.bind_some]
   rw [Ann h (by omega)]
   simp only [Option.bind_some]
   by_cases hd : Cd a n (Ar n (Gh i))
   ·rw [decide_eq_true hd, if_pos rfl]
    obtain ⟨ys, e, g1, g2⟩ := Ase hr (by omega) hrow (l := Ar n (Gh i)) (by omega)
    rw [e]
    simp only [Option.bind_some]
    rw [Ae (by unfold InI; omega)]
    refine ⟨_, rfl, ⟨i + 1, rfl, hlt, g1, ?_⟩, by simp only; omega⟩
    rw [W9, if_pos (decide_eq_true hd)]
    refine g2.trans (List.Perm.trans (hpm.cons _) ?_)
    exact (List.perm_append_singleton _ _).symm
   ·rw [decide_eq_false hd, if_neg (by simp), Ae (by unfold InI; omega)]
    refine ⟨_, rfl, ⟨i + 1, rfl, hlt, hr, ?_⟩, by simp only; omega⟩
    rw [W9, if_neg (by simp [hd])]
    exact hpm
  ·right
   have e : i = 2 ^ n := by omega
   subst e
   rw [Ae (by omega), Aci (by omega), if_neg (by omega)]
   exact ⟨_, rfl, hr, hpm⟩) (s := ((0 : Int), A9 (List Int))) ⟨0, rfl, Nat.zero_le _, List.Pairwise.nil, List.Perm.refl _⟩
 rw [e]
 simp only [Option.bind_some]
 rw [Anx h1 h2]; rfl
theorem Xq (h : ReadyA a n) {r : List Int} (hr : r ∈ Gm a n) : r.length ≤ 8 := by
 have := Kg ((Qh h).1 hr)
 have := h.le
 omega
end
end Go.Proofs.Ytidaaijecmkndaa.Ax
namespace Go.Proofs.Ytidaaijecmkndaa.Ax
open Go Classical
section
variable {a : SAlgebra} {n : Nat}
theorem Atc (h : ReadyA a n) {xs : List Int} (hx : B3 xs n) (hl : xs.length ≤ LIM) : C5 a xs = some (Pz a n xs) := Aez h hx hl
theorem Ali (h : ReadyA a n) {xs : List Int} (hx : B3 xs n) (hl : xs.length ≤ LIM) : Dq a xs = some (Pz a n xs) := Ag0 h hx hl
end
end Go.Proofs.Ytidaaijecmkndaa.Ax
namespace Go.Proofs.Ytidaaijecmkndaa.Ax
open Go Classical
theorem Alq {xs ys : List Int} (h : xs.length ≤ LIM) (h2 : ys.length ≤ LIM) : Bw xs ys = some (decide (xs = ys)) := by
 by_cases he : xs = ys
 ·subst he
  rw [U7 h, decide_eq_true rfl]
 ·have hL := At
  unfold Bw
  by_cases hl : xs.length = ys.length
  ·rw [if_neg (by omega)]
   have := F7 (body := Bz xs ys) (fun i => (i : Int)) xs.length (fun i => nth xs i ≠ nth ys i) () () (fun i hi hb => by
    unfold Bz
    have hb := Classical.not_not.1 hb
    rw [if_pos (by omega)]
    repeat rw [Ae (by first | omega | (unfold InI; omega))]
    simp only [Int.toNat_natCast]
    rw [if_neg (fun hh => hh hb)]
    repeat rw [Ae (by first | omega | (unfold InI; omega))]
    rfl) (fun i hi hb => by
    unfold Bz
    rw [if_pos (by omega)]
    repeat rw [Ae (by first | omega | (unfold InI; omega))]
    simp only [Int.toNat_natCast]
    rw [if_pos hb]) (by
    unfold Bz
    rw [if_neg (by omega)]) 0 (by omega)
   have h0 : Ap (Bz xs ys) 0 = _ := this
   rw [h0, if_pos, decide_eq_false he]
   ·rfl
   ·apply Classical.byContradiction
    intro hno
    exact he (Lg hl fun i hi => Classical.byContradiction fun hc => hno ⟨i, Nat.zero_le _, hi, hc⟩)
  ·rw [if_pos (by omega), decide_eq_false he]
theorem Alw {xss : List (List Int)} {t : List Int} (h : xss.length ≤ LIM) (h1 : ∀ r ∈ xss, r.length ≤ LIM) (ht : t ∈ xss) : ∃ r, Gv xss t = some r ∧ 0 ≤ r := by
 have hL := At
 have ht2 := h1 t ht
 unfold Gv
 rcases P8 (body := Ct xss t) (fun i => (i : Int)) xss.length (fun i => nth xss i = t) (fun i => .inl (i : Int)) (.inr ()) (fun i hi hh => by
   unfold Ct
   rw [if_pos (by omega), Ae (by omega), Int.toNat_natCast, Alq (h1 _ (Bu hi)) ht2, decide_eq_false hh]
   simp only [Option.bind_some]
   rw [if_neg (by simp), Ae (by unfold InI; omega)]; rfl) (fun i hi hh => by
   unfold Ct
   rw [if_pos (by omega), Ae (by omega), Int.toNat_natCast, Alq (h1 _ (Bu hi)) ht2, decide_eq_true hh]
   simp only [Option.bind_some, if_true]) (by
   unfold Ct
   rw [if_neg (by omega)]) with ⟨i, hi, hh, hno, e⟩ | ⟨hno, e⟩
 ·have e' : Ap (Ct xss t) 0 = some (.inl (i : Int)) := e
  rw [e']
  exact ⟨_, rfl, by omega⟩
 ·obtain ⟨i, hi, e2⟩ := G3.1 ht
  exact absurd e2 (hno i hi)
theorem Kf {xs ys : List Int} (h : xs.length ≤ LIM) (h2 : ys.length ≤ LIM) : Bm xs ys = some (decide (Abc xs ys)) := by
 have hL := At
 unfold Bm
 have := F7 (body := Bq xs ys) (fun i => (i : Int)) xs.length (fun i => ¬ nth xs i ∈ ys) () () (fun i hi hb => by
  unfold Bq
  rw [if_pos (by omega), Ae (by omega), Int.toNat_natCast, Aoa h2, decide_eq_true (Classical.not_not.1 hb)]
  simp only [Option.bind_some, if_true]
  rw [Ae (by unfold InI; omega)]; rfl) (fun i hi hb => by
  unfold Bq
  rw [if_pos (by omega), Ae (by omega), Int.toNat_natCast, Aoa h2, decide_eq_false hb]
  simp only [Option.bind_some]
  rw [if_neg (by simp)]) (by
  unfold Bq
  rw [if_neg (by omega)]) 0 (by omega)
 refine (H2 this false true).trans (congrArg some (Oz ?_))
 unfold Abc
 rw [Ls]
 constructor
 ·intro h x hx; obtain ⟨i, hi, rfl⟩ := G3.1 hx; exact h i hi
 ·intro h i hi; exact h _ (Bu hi)
section
variable {a : SAlgebra} {n : Nat}
def Sc (a : SAlgebra) (xs : List Int) : Prop := Qk a ∧ xs.length ≤ 20 ∧ B3 xs a.Size
theorem K6 (hsm : G1 a) {xs : List Int} (hl : xs.length ≤ LIM) : Dj a xs = some (decide (Sc a xs)) := by
 unfold Dj
 rw [Ot hsm]
 simp only [Option.bind_some]
 by_cases hg : Qk a
 ·rw [decide_eq_true hg, if_pos rfl]
  by_cases h20 : xs.length ≤ 20
  ·rw [if_pos (by omega), Ac8 _ _ hl]
   simp only [Option.bind_some]
   congr 1
   rw [decide_eq_decide]
   exact ⟨fun hh => ⟨hg, h20, hh⟩, fun hh => hh.2.2⟩
  ·rw [if_neg (by omega), decide_eq_false (fun hh => h20 hh.2.1)]
 ·rw [decide_eq_false hg, if_neg (by simp), decide_eq_false (fun hh => hg hh.1)]
theorem Xl (hsm : G1 a) {xs : List Int} (hl : xs.length ≤ LIM) : Gw a xs = some (decide (Sc a xs)) := by
 have hL := At
 unfold Gw
 rw [X7 hsm]
 simp only [Option.bind_some]
 by_cases hg : Qk a
 ·have hr := Wq hg
  have h8 := hr.le
  rw [decide_eq_true hg, if_pos rfl]
  by_cases h20 : xs.length ≤ 20
  ·rw [if_pos (by omega), hr.sz, Ah0 _ _ hl (by omega)]
   simp only [Option.bind_some]
   congr 1
   rw [decide_eq_decide]
   unfold Sc
   rw [hr.sz]
   exact ⟨fun hh => ⟨hg, h20, hh⟩, fun hh => hh.2.2⟩
  ·rw [if_neg (by omega), decide_eq_false (fun hh => h20 hh.2.1)]
 ·rw [decide_eq_false hg, if_neg (by simp), decide_eq_false (fun hh => hg hh.1)]
theorem Vc (h : ReadyA a n) {xs : List Int} (hx : B3 xs n) (hl : xs.length ≤ 20) : Sc a xs := ⟨h.good, hl, by rw [h.sz]; exact hx⟩
theorem Sc.ready {xs : List Int} (h : Sc a xs) : ReadyA a a.Size.toNat ∧ B3 xs a.Size.toNat := by
 have hr := Wq h.1
 refine ⟨hr, ?_⟩
 have := h.2.2
 rwa [hr.sz] at this
theorem S0 (h : ReadyA a n) (hsm : G1 a) {xs : List Int} (hx : B3 xs n) (hl : xs.length ≤ 20) : Bt a xs = some (Pz a n xs, true) := by
 have hL := At
 unfold Bt
 rw [K6 hsm (by omega), decide_eq_true (Vc h hx hl)]
 simp only [Option.bind_some, if_true]
 rw [Atc h hx (by omega)]; rfl
theorem Abv (h : ReadyA a n) (hsm : G1 a) {xs : List Int} (hx : B3 xs n) (hl : xs.length ≤ 20) : Cc a xs = some (Pz a n xs, true) := by
 have hL := At
 unfold Cc
 rw [Xl hsm (by omega), decide_eq_true (Vc h hx hl)]
 simp only [Option.bind_some, if_true]
 rw [Ali h hx (by omega)]; rfl
theorem Add (hsm : G1 a) {xs : List Int} (hl : xs.length ≤ LIM) (hno : ¬ Sc a xs) : Bt a xs = some ([], false) ∧ Cc a xs = some ([], false) := by
 unfold Bt Cc
 rw [K6 hsm hl, Xl hsm hl, decide_eq_false hno]
 exact ⟨rfl, rfl⟩
theorem Avz (h : ReadyA a n) {T : Nat → Bool} {x7 : List (List Int)} {i : Nat} (hi : i < a.Ops.length) {H0 : List Bool} (hl : H0.length = n) :
  ∃ K, Ap (B0 a x7 (Dv n T) (i : Int)) (0, H0) = some K ∧ K.length = n ∧ ∀ z, nth K z = true ↔ nth H0 z = true ∨ ∃ k, k < (nth a.Ops i).Table.length ∧ Jh a i k T ∧ z = Kj a i k ∧ T z = false := by
 obtain ⟨r, hr, hr3, _, htab, h512, hargs⟩ := h.op hi
 have hbl := E9 n T
 refine D7 (body := B0 a x7 (Dv n T) (i : Int)) (fun s => ∃ k : Nat, s.1 = (k : Int) ∧ k ≤ (nth a.Ops i).Table.length ∧ s.2.length = n ∧ ∀ z, nth s.2 z = true ↔ nth H0 z = true ∨ ∃ j, j < k ∧ Jh a i j T ∧ z = Kj a i j ∧ T z = false)
  (fun s => (nth a.Ops i).Table.length - s.1.toNat) _ (fun s hs => ?_) ⟨0, rfl, Nat.zero_le _, hl, fun z => ⟨.inl, fun hz => hz.resolve_right (by rintro ⟨j, hj, _⟩; omega)⟩⟩
 obtain ⟨x, K⟩ := s
 obtain ⟨k, hk, hkl, h1, h2⟩ := hs
 simp only at hk hkl h1 h2
 subst hk
 unfold B0
 dsimp only
 rw [Int.toNat_natCast]
 by_cases hlt : k < (nth a.Ops i).Table.length
 ·left
  obtain ⟨ev, hv⟩ := h.val hi hlt
  have hcong : Gy n r k (nth (Dv n T)) ↔ Gy n r k T := X0 h.pos fun z hz => Ez hz
  rw [if_pos (by omega), Ae (by omega), Int.toNat_natCast, ev, Ae (by rw [hbl]; omega), Int.toNat_natCast, Ez hv]
  have skip : (¬ (Jh a i k T ∧ T (Kj a i k) = false)) → ∀ z, nth K z = true ↔ nth H0 z = true ∨ ∃ j, j < k + 1 ∧ Jh a i j T ∧ z = Kj a i j ∧ T z = false := fun hno z => by
   rw [h2]
   constructor
   ·rintro (hz | ⟨j, hj, b1, b2, b3⟩)
    ·exact .inl hz
    ·exact .inr ⟨j, by omega, b1, b2, b3⟩
   ·rintro (hz | ⟨j, hj, b1, b2, b3⟩)
    ·exact .inl hz
    ·by_cases e : j = k
     ·subst e; subst b2; exact absurd ⟨b1, b3⟩ hno
     ·exact .inr ⟨j, by omega, b1, b2, b3⟩
  by_cases hm : T (Kj a i k) = true
  ·rw [if_pos hm, Ae (by unfold InI; omega)]
   refine ⟨_, rfl, ⟨k + 1, rfl, hlt, h1, skip fun hh => ?_⟩, by simp only; omega⟩
   rw [hh.2] at hm; cases hm
  ·rw [if_neg hm, hr, h.sz, Aoi h.pos h.le hbl hr3 (by omega)]
   simp only [Option.bind_some]
   by_cases ha : Gy n r k (nth (Dv n T))
   ·rw [decide_eq_true ha, if_pos rfl, Ae (by rw [h1]; omega), Ae (by unfold InI; omega)]
    have hvl : Kj a i k < K.length := by rw [h1]; exact hv
    refine ⟨_, rfl, ⟨k + 1, rfl, hlt, by rw [List.length_set]; exact h1, fun z => ?_⟩, by simp only; omega⟩
    rw [Yo hvl, h2]
    constructor
    ·rintro (rfl | hz | ⟨j, hj, b1, b2, b3⟩)
     ·exact .inr ⟨k, by omega, (hargs _ _).2 (hcong.1 ha), rfl, by simpa using hm⟩
     ·exact .inl hz
     ·exact .inr ⟨j, by omega, b1, b2, b3⟩
    ·rintro (hz | ⟨j, hj, b1, b2, b3⟩)
     ·exact .inr (.inl hz)
     ·by_cases e : j = k
      ·subst e; exact .inl b2
      ·exact .inr (.inr ⟨j, by omega, b1, b2, b3⟩)
   ·rw [decide_eq_false ha, if_neg (by simp), Ae (by unfold InI; omega)]
    exact ⟨_, rfl, ⟨k + 1, rfl, hlt, h1, skip fun hh => ha (hcong.2 ((hargs _ _).1 hh.1))⟩, by simp only; omega⟩
 ·right
  rw [if_neg (by omega)]
  have e : k = (nth a.Ops i).Table.length := by omega
  subst e
  exact ⟨_, rfl, h1, h2⟩
theorem Aro (h : ReadyA a n) {T : Nat → Bool} {x7 : List (List Int)} :
  Ap (B1 a x7 (Dv n T)) (0, List.replicate n false) = some (Dv n fun z => Jv a T z && !T z) := by
 have h4 := h.good.2.2.1
 obtain ⟨K, e, h1, h2⟩ := D7 (body := B1 a x7 (Dv n T)) (fun s => ∃ i : Nat, s.1 = (i : Int) ∧ i ≤ a.Ops.length ∧ s.2.length = n ∧ ∀ z, nth s.2 z = true ↔ ∃ j k, j < i ∧ k < (nth a.Ops j).Table.length ∧ Jh a j k T ∧ z = Kj a j k ∧ T z = false)
  (fun s => a.Ops.length - s.1.toNat) (fun K => K.length = n ∧ ∀ z, nth K z = true ↔ ∃ i k, i < a.Ops.length ∧ k < (nth a.Ops i).Table.length ∧ Jh a i k T ∧ z = Kj a i k ∧ T z = false) (fun s hs => by
  obtain ⟨x, K⟩ := s
  obtain ⟨i, hi, hil, h1, h2⟩ := hs
  simp only at hi hil h1 h2
  subst hi
  unfold B1
  dsimp only
  by_cases hlt : i < a.Ops.length
  ·left
   obtain ⟨K1, e1, h3, h5⟩ := Avz h (T := T) (x7 := x7) hlt h1
   rw [if_pos (by omega), Ae (by omega), e1]
   simp only [Option.bind_some]
   rw [Ae (by unfold InI; omega)]
   refine ⟨_, rfl, ⟨i + 1, rfl, hlt, h3, fun z => ?_⟩, by simp only; omega⟩
   simp only
   rw [h5, h2]
   constructor
   ·rintro (⟨j, k, a1, a2⟩ | ⟨k, a2, a3⟩)
    ·exact ⟨j, k, by omega, a2⟩
    ·exact ⟨i, k, by omega, a2, a3⟩
   ·rintro ⟨j, k, a1, a2⟩
    by_cases ej : j = i
    ·subst ej; exact .inr ⟨k, a2⟩
    ·exact .inl ⟨j, k, by omega, a2⟩
  ·right
   rw [if_neg (by omega)]
   have e : i = a.Ops.length := by omega
   subst e
   exact ⟨_, rfl, h1, h2⟩) (s := ((0 : Int), List.replicate n false)) ⟨0, rfl, Nat.zero_le _, by simp, fun z => by
    constructor
    ·intro hz
     have hl := Aj8 hz
     simp only [List.length_replicate] at hl
     rw [V3 _ hl] at hz; cases hz
    ·rintro ⟨j, _, hj, _⟩; omega⟩
 rw [e]
 congr 1
 refine Lg (by rw [h1, E9]) fun z hz => ?_
 rw [h1] at hz
 rw [Ez hz, Bool.eq_iff_iff, h2]
 simp only [Jv, Bool.and_eq_true, Bool.or_eq_true, decide_eq_true_eq, Bool.not_eq_true']
 constructor
 ·rintro ⟨i, k, a1, a2, a3, a4, a5⟩
  exact ⟨.inr ⟨i, k, a1, a2, a3, a4⟩, a5⟩
 ·rintro ⟨hh | ⟨i, k, a1, a2, a3, a4⟩, a5⟩
  ·rw [hh] at a5; cases a5
  ·exact ⟨i, k, a1, a2, a3, a4, a5⟩
theorem Avc {T : Nat → Bool} {x7 : List (List Int)} (hn : n ≤ 8) {xs : List Int} (hx : B3 xs n) (hl : xs.length ≤ 8) :
  Ap (Bj a x7 xs) (0, Dv n T) = some (Dv n fun z => T z || decide ((z : Int) ∈ xs)) := by
 have key := C8 (body := Bj a x7 xs) (fun i => ((i : Int), Dv n fun z => T z || decide ((z : Int) ∈ xs.take i))) xs.length (Dv n fun z => T z || decide ((z : Int) ∈ xs)) (fun i hi => by
  unfold Bj
  dsimp only
  have hc := hx _ (Bu hi)
  have hlen := E9 n fun z => T z || decide ((z : Int) ∈ xs.take i)
  rw [if_pos (by omega), Ae (by omega), Int.toNat_natCast, Ae (by rw [hlen]; omega), Ae (by unfold InI; omega), Alv (by omega)]
  congr 3
  refine R9 fun z _ => ?_
  rw [Ny hi]
  by_cases hz : z = (nth xs i).toNat
  ·rw [if_pos hz]
   have : decide ((z : Int) ∈ xs.take i ++ [nth xs i]) = true := decide_eq_true (by rw [List.mem_append, List.mem_singleton]; right; omega)
   rw [this]; simp
  ·rw [if_neg hz]
   congr 1
   rw [decide_eq_decide, List.mem_append, List.mem_singleton]
   exact ⟨.inl, fun hh => hh.resolve_right (by omega)⟩) (by
  unfold Bj
  dsimp only
  rw [if_neg (by omega), List.take_length])
 have e0 : ((0 : Int), Dv n T) = (((0 : Nat) : Int), Dv n fun z => T z || decide ((z : Int) ∈ xs.take 0)) := by simp
 rw [e0]; exact key
theorem Ac4 (S : Nat → Bool) (j : Nat) : (Fo a n S j).length ≤ n := by
 cases j <;> exact Dw _ _
theorem Aq6 (S : Nat → Bool) (j : Nat) : B3 (Fo a n S j) n := by
 cases j <;> exact Ad5 _ _
theorem Aob (h : ReadyA a n) (hsm : G1 a) {xs : List Int} (hx : B3 xs n) (hl : xs.length ≤ 20) {S : Nat → Bool} (hS : S = fun z : Nat => decide ((z : Int) ∈ xs)) {J : Nat} (hJ : J ≤ n) (hend : Fo a n S (J + 1) = []) (hgo : ∀ j, j < J → Fo a n S (j + 1) ≠ []) :
  Bn a xs = some (B9 a n S J, true) := by
 have hL := At
 have h8 := h.le
 unfold Bn
 rw [K6 hsm (by omega), decide_eq_true (Vc h hx hl)]
 simp only [Option.bind_some, if_true]
 rw [h.sz, Ai2 (by omega) hx (by omega), ← hS]
 simp only [Option.bind_some]
 rw [Uu (by omega)]
 simp only [Option.bind_some]
 have key := C8 (body := Bk a) (fun j => (B9 a n S j, Dv n (B2 a S j))) J (B9 a n S J) (fun j hj => by
  have hrl := Ac4 (a := a) (n := n) S (j + 1)
  unfold Bk
  dsimp only
  rw [h.sz, Ae (by omega), Int.toNat_natCast, Aro h]
  simp only [Option.bind_some]
  rw [Uu (by omega)]
  simp only [Option.bind_some]
  have er : Ar n (fun z => Jv a (B2 a S j) z && !B2 a S j z) = Fo a n S (j + 1) := rfl
  rw [er]
  have hne := List.length_pos_iff.2 (hgo j hj)
  rw [if_neg (by omega), Ae (by rw [Oy]; simp; omega), Avc (by omega) (Aq6 _ _) (by omega)]
  simp only [Option.bind_some]
  rw [Rq]
  congr 3
  refine R9 fun z hz => ?_
  have hm : ((z : Int) ∈ Fo a n S (j + 1)) ↔ Jv a (B2 a S j) z = true ∧ B2 a S j z = false := by
   rw [← er, Ja]; simp [hz]
  show (B2 a S j z || decide ((z : Int) ∈ Fo a n S (j + 1))) = Jv a (B2 a S j) z
  cases hT : B2 a S j z with
  | true => rw [Wg z hT]; rfl
  | false =>
    rw [Bool.false_or, Bool.eq_iff_iff, decide_eq_true_eq, hm, hT]
    simp) (by
  unfold Bk
  dsimp only
  rw [h.sz, Ae (by omega), Int.toNat_natCast, Aro h]
  simp only [Option.bind_some]
  rw [Uu (by omega)]
  simp only [Option.bind_some]
  have er : Ar n (fun z => Jv a (B2 a S J) z && !B2 a S J z) = Fo a n S (J + 1) := rfl
  rw [er, hend, if_pos (by simp)])
 have key' : Ap (Bk a) ([Ar n S], Dv n S) = some (B9 a n S J) := key
 rw [key']; rfl
theorem Apd (h : ReadyA a n) {T : Nat → Bool} (_hT : ∀ z, T z = true → z < n) : Fl a (Dv n T) = some (Dv n (Jv a T)) := by
 obtain ⟨K, e, h1, h2⟩ := Alj h (E9 n T)
 rw [e]
 congr 1
 refine Lg (by rw [h1, E9]) fun z hz => ?_
 rw [h1] at hz
 rw [Ez hz, Bool.eq_iff_iff, h2, Ez hz]
 simp only [Jv, Bool.or_eq_true, decide_eq_true_eq]
 have hc : ∀ i k, i < a.Ops.length → (Jh a i k (nth (Dv n T)) ↔ Jh a i k T) := fun i k hi => by
  obtain ⟨r, _, _, _, _, _, hargs⟩ := h.op hi
  rw [hargs, hargs]
  exact X0 h.pos fun z hz => Ez hz
 constructor
 ·rintro (hh | ⟨i, k, a1, a2, a3, a4⟩)
  ·exact .inl hh
  ·exact .inr ⟨i, k, a1, a2, (hc i k a1).1 a3, a4⟩
 ·rintro (hh | ⟨i, k, a1, a2, a3, a4⟩)
  ·exact .inl hh
  ·exact .inr ⟨i, k, a1, a2, (hc i k a1).2 a3, a4⟩
theorem Am4 (h : ReadyA a n) (hsm : G1 a) {xs : List Int} (hx : B3 xs n) (hl : xs.length ≤ 20) {S : Nat → Bool} (hS : S = fun z : Nat => decide ((z : Int) ∈ xs)) {J : Nat} (hJ : J ≤ n) (hend : Fo a n S (J + 1) = []) (hgo : ∀ j, j < J → Fo a n S (j + 1) ≠ []) :
  Bp a xs = some (B9 a n S J, true) := by
 have hL := At
 have h8 := h.le
 have hSn : ∀ z, S z = true → z < n := fun z hz => by
  subst hS
  have := hx _ (of_decide_eq_true hz); omega
 unfold Bp
 rw [Xl hsm (by omega), decide_eq_true (Vc h hx hl)]
 simp only [Option.bind_some, if_true]
 rw [h.sz, Asx (by omega) hx (by omega), ← hS]
 simp only [Option.bind_some]
 rw [Ahn (by omega)]
 simp only [Option.bind_some]
 have inner : ∀ (j : Nat) (x8 : Int) x7, Ap (Bl a x8 x7 (Dv n (B2 a S j)) (Dv n (Jv a (B2 a S j)))) (0, A9 Int) = some (Fo a n S (j + 1)) := fun j x8 x7 => by
  have hb1 := E9 n (B2 a S j)
  have hb2 := E9 n (Jv a (B2 a S j))
  refine Adi (body := Bl a x8 x7 (Dv n (B2 a S j)) (Dv n (Jv a (B2 a S j)))) n (fun z => B2 a S (j + 1) z && !B2 a S j z) (fun z acc hz hacc => ?_) (fun acc => ?_)
  ·unfold Bl
   dsimp only
   rw [h.sz, if_pos (by omega), Ae (by rw [hb2]; omega), Int.toNat_natCast, Ez hz]
   have e : B2 a S (j + 1) z = Jv a (B2 a S j) z := rfl
   rw [e]
   cases c1 : Jv a (B2 a S j) z with
   | true =>
     rw [if_pos rfl, Ae (by rw [hb1]; omega), Ez hz]
     cases c2 : B2 a S j z with
     | true => rw [if_pos rfl, Ae (by unfold InI; omega)]; rfl
     | false => rw [if_neg (by simp), Ae (by simp; omega), Ae (by unfold InI; omega)]; rfl
   | false => rw [if_neg (by simp), Ae (by unfold InI; omega)]; rfl
  ·unfold Bl
   dsimp only
   rw [h.sz, if_neg (by omega)]
 have key := C8 (body := Bi a) (fun j => ((j : Int), B9 a n S j, Dv n (B2 a S j))) J (.inl (B9 a n S J)) (fun j hj => by
  have hrl := Ac4 (a := a) (n := n) S (j + 1)
  unfold Bi
  dsimp only
  rw [h.sz, if_pos (by omega), Apd h (Aeo h hSn j)]
  simp only [Option.bind_some]
  rw [inner]
  simp only [Option.bind_some]
  have hne := List.length_pos_iff.2 (hgo j hj)
  rw [if_neg (by omega), Ae (by rw [Oy]; simp; omega), Ae (by unfold InI; omega), Rq]
  rfl) (by
  unfold Bi
  dsimp only
  rw [h.sz, if_pos (by omega), Apd h (Aeo h hSn J)]
  simp only [Option.bind_some]
  rw [inner]
  simp only [Option.bind_some]
  rw [hend, if_pos (by simp)])
 have key' : Ap (Bi a) (0, [Ar n S], Dv n S) = some (.inl (B9 a n S J)) := key
 rw [key']; rfl
theorem Aqq (hsm : G1 a) {xs : List Int} (hl : xs.length ≤ LIM) (hno : ¬ Sc a xs) : Bn a xs = some ([], false) ∧ Bp a xs = some ([], false) := by
 unfold Bn Bp
 rw [K6 hsm hl, Xl hsm hl, decide_eq_false hno]
 exact ⟨rfl, rfl⟩
def Tr (a : SAlgebra) (x y : List Int) : Prop := Qk a ∧ Cd a a.Size.toNat x ∧ Cd a a.Size.toNat y
def Pv (x y : List Int) : List Int := x.filter fun v => decide (v ∈ y)
theorem M3 {x y : List Int} {v : Int} : v ∈ Pv x y ↔ v ∈ x ∧ v ∈ y := by
 unfold Pv
 rw [List.mem_filter, decide_eq_true_eq]
theorem Akw {x y : List Int} (h1 : x.length ≤ LIM) (h2 : y.length ≤ LIM) : Fv x y = some (Pv x y) := by
 have hL := At
 unfold Fv
 rw [Aan (body := C2 x y) x (fun v => decide (v ∈ y)) (fun i acc hi hacc => by
  unfold C2
  dsimp only
  rw [if_pos (by omega), Ae (by omega), Int.toNat_natCast, Asq _ _ h2]
  simp only [Option.bind_some]
  by_cases hm : nth x i ∈ y
  ·rw [if_neg (by simpa using hm), Ae (by simp; omega), Ae (by unfold InI; omega), decide_eq_true hm, if_pos rfl]; rfl
  ·rw [if_pos (by simpa using hm), Ae (by unfold InI; omega), decide_eq_false hm, if_neg (by simp)]; rfl) (fun acc => by
  unfold C2
  dsimp only
  rw [if_neg (by omega)])]
 rfl
theorem Amx {x y : List Int} (h1 : x.length ≤ LIM) (h2 : y.length ≤ LIM) : Ap (Cj x y) (0, A9 Int) = some (Pv x y) := by
 have hL := At
 exact Aan (body := Cj x y) x (fun v => decide (v ∈ y)) (fun i acc hi hacc => by
  unfold Cj
  dsimp only
  rw [if_pos (by omega), Ae (by omega), Int.toNat_natCast, At6 _ _ h2]
  simp only [Option.bind_some]
  by_cases hm : nth x i ∈ y
  ·rw [if_pos (by simpa using hm), Ae (by omega), Ae (by simp; omega), Ae (by unfold InI; omega), decide_eq_true hm, if_pos rfl]; rfl
  ·rw [if_neg (by simpa using hm), Ae (by unfold InI; omega), decide_eq_false hm, if_neg (by simp)]; rfl) (fun acc => by
  unfold Cj
  dsimp only
  rw [if_neg (by omega)])
theorem Agz (hsm : G1 a) {x y : List Int} (h1 : x.length ≤ LIM) (h2 : y.length ≤ LIM) : Ft a x y = some (decide (Tr a x y)) := by
 unfold Ft
 rw [Ot hsm]
 simp only [Option.bind_some]
 by_cases hg : Qk a
 ·have hr := Wq hg
  rw [decide_eq_true hg, if_pos rfl, Acc hr h1]
  simp only [Option.bind_some]
  by_cases hx : Cd a a.Size.toNat x
  ·rw [decide_eq_true hx, if_pos rfl, Acc hr h2]
   simp only [Option.bind_some]
   congr 1
   rw [decide_eq_decide]
   exact ⟨fun hh => ⟨hg, hx, hh⟩, fun hh => hh.2.2⟩
  ·rw [decide_eq_false hx, if_neg (by simp), decide_eq_false (fun hh => hx hh.2.1)]
 ·rw [decide_eq_false hg, if_neg (by simp), decide_eq_false (fun hh => hg hh.1)]
theorem Ag5 (hsm : G1 a) {x y : List Int} (h1 : x.length ≤ LIM) (h2 : y.length ≤ LIM) : ((Cw (a)).bind fun r1 =>
   if (r1) = true then
   (Dt (a) (x)).bind fun r3 =>
   if (r3) = true then
    (Dt (a) (y)).bind fun r5 =>
    if (r5) = true then
    some (.inl ())
    else
    some (.inr ())
   else
    some (.inr ())
   else
   some (.inr ()) : Option (Unit ⊕ Unit)) = some (if Tr a x y then .inl () else .inr ()) := by
 rw [X7 hsm]
 simp only [Option.bind_some]
 by_cases hg : Qk a
 ·have hr := Wq hg
  rw [decide_eq_true hg, if_pos rfl, Ann hr h1]
  simp only [Option.bind_some]
  by_cases hx : Cd a a.Size.toNat x
  ·rw [decide_eq_true hx, if_pos rfl, Ann hr h2]
   simp only [Option.bind_some]
   by_cases hy : Cd a a.Size.toNat y
   ·rw [decide_eq_true hy, if_pos rfl, if_pos (show Tr a x y from ⟨hg, hx, hy⟩)]
   ·rw [decide_eq_false hy, if_neg (by simp), if_neg (fun hh : Tr a x y => hy hh.2.2)]
  ·rw [decide_eq_false hx, if_neg (by simp), if_neg (fun hh : Tr a x y => hx hh.2.1)]
 ·rw [decide_eq_false hg, if_neg (by simp), if_neg (fun hh : Tr a x y => hg hh.1)]
noncomputable def Ak2 (a : SAlgebra) (x y : List Int) : List Int × Bool := if Tr a x y then (Pv x y, true) else ([], false)
noncomputable def Akz (a : SAlgebra) (x y : List Int) : List Int × Bool := if Tr a x y then (Pz a a.Size.toNat (x ++ y), true) else ([], false)
theorem Aqx (hsm : G1 a) {x y : List Int} (h1 : x.length ≤ 21) (h2 : y.length ≤ 21) : Gs a x y = some (Ak2 a x y) ∧ Gj a x y = some (Ak2 a x y) := by
 have hL := At
 unfold Gs Gj Ak2
 rw [Agz hsm (by omega) (by omega), Ag5 hsm (by omega) (by omega)]
 simp only [Option.bind_some]
 by_cases h : Tr a x y
 ·simp only [h, decide_true, if_true]
  rw [Akw (by omega) (by omega), Amx (by omega) (by omega)]
  exact ⟨rfl, rfl⟩
 ·refine ⟨?_, ?_⟩ <;> simp [h, A9]
theorem Aq1 (hsm : G1 a) {x y : List Int} (h1 : x.length ≤ 21) (h2 : y.length ≤ 21) : Gk a x y = some (Akz a x y) ∧ Gl a x y = some (Akz a x y) := by
 have hL := At
 unfold Gk Gl Akz
 rw [Agz hsm (by omega) (by omega), Ag5 hsm (by omega) (by omega)]
 simp only [Option.bind_some]
 by_cases h : Tr a x y
 ·have hr := Wq h.1
  have hin : B3 (x ++ y) a.Size.toNat := fun v hv => by
   rcases List.mem_append.1 hv with hv | hv
   ·exact h.2.1.1 v hv
   ·exact h.2.2.1 v hv
  simp only [h, decide_true, if_true]
  rw [Asm (by omega), Ary (by omega)]
  simp only [Option.bind_some]
  rw [Ae (by omega), Ae (by omega), Atc hr hin (by simp; omega), Ali hr hin (by simp; omega)]
  exact ⟨rfl, rfl⟩
 ·refine ⟨?_, ?_⟩ <;> simp [h, A9]
theorem Aip (h : ReadyA a n) {x y : List Int} (hx : Cd a n x) (hy : Cd a n y) : Cd a n (Pv x y) := by
 refine (Rr h).2 ⟨fun v hv => hx.1 v (M3.1 hv).1, ?_, fun i hi k hk ha => ?_⟩
 ·exact Akh.2 ((Akh.1 hx.2.1).sublist List.filter_sublist)
 ·refine decide_eq_true (M3.2 ⟨?_, ?_⟩)
  ·exact of_decide_eq_true (hx.closed h i hi k hk (Hs (fun z hz => decide_eq_true (M3.1 (of_decide_eq_true hz)).1) ha))
  ·exact of_decide_eq_true (hy.closed h i hi k hk (Hs (fun z hz => decide_eq_true (M3.1 (of_decide_eq_true hz)).2) ha))
theorem Ama (h : ReadyA a n) (hsm : G1 a) : C0 a = some (Gm a n, true) ∧ Cy a = some (Gm a n, true) := by
 unfold C0 Cy
 rw [Ot hsm, X7 hsm, decide_eq_true h.good]
 simp only [Option.bind_some, if_true]
 rw [Ap0 h, Ao2 h]
 exact ⟨rfl, rfl⟩
end
theorem Ag4 {c : Sl1Cur} {k : Nat} (h : Cur k c) (hk : k ≤ 600000000) {a : SAlgebra} (ha : Pw a) : ∃ xs d, Dy c a = some (xs, d) ∧ Cur (k + 100) d ∧ xs.length ≤ 21 := by
 have hL := At
 unfold Dy
 rw [X7 (Ur ha)]
 simp only [Option.bind_some]
 by_cases hg : Qk a
 ·have hr := Wq hg
  have hz := hr.sz
  have h8 := hr.le
  rw [decide_eq_true hg, if_pos rfl, Ao2 hr]
  simp only [Option.bind_some]
  obtain ⟨r, d, e, hd, a1, a2⟩ := Fx h (by omega) ((Gm a a.Size.toNat).length : Int)
  rw [e]
  simp only [Option.bind_some]
  have hpos : 0 < (Gm a a.Size.toNat).length := List.length_pos_iff.2 fun hn => by
   have := (Qh hr).2 (Asv hr)
   rw [hn] at this; cases this
  have hrow := Xq hr (Bu (show r.toNat < (Gm a a.Size.toNat).length by omega))
  rw [Ae (by omega), Ary (by omega)]
  simp only [Option.bind_some]
  generalize nth (Gm a a.Size.toNat) r.toNat = row at hrow ⊢
  obtain ⟨w, d2, e2, hd2, _⟩ := Fx hd (by omega) 16
  rw [e2]
  simp only [Option.bind_some]
  by_cases c0 : w = 0
  ·rw [if_pos c0, Ae (by unfold InI; omega)]
   obtain ⟨v, d3, e3, hd3, _⟩ := Fp hd2 (by omega) [0, a.Size - 1, a.Size] (by simp)
   rw [e3]
   simp only [Option.bind_some]
   rw [Ae (by simp; omega)]
   exact ⟨_, _, rfl, hd3.mono (by omega), by simp; omega⟩
  ·rw [if_neg c0]
   by_cases c1 : w = 1
   ·rw [if_pos c1]
    by_cases c2 : (row.length : Int) > 0
    ·rw [if_pos c2, Ae (by omega)]
     exact ⟨_, _, rfl, hd2.mono (by omega), by simp; omega⟩
    ·rw [if_neg c2]
     exact ⟨_, _, rfl, hd2.mono (by omega), by omega⟩
   ·rw [if_neg c1]
    exact ⟨_, _, rfl, hd2.mono (by omega), by omega⟩
 ·rw [decide_eq_false hg, if_neg (by simp)]
  exact ⟨_, _, rfl, h.mono (by omega), by simp⟩
theorem Afn {code : List Int} (hc : ∀ x ∈ code, 0 ≤ x ∧ x ≤ 255) (hl : code.length ≤ 65536) : ∃ a x y, D8 code = some (a, x, y) ∧ Pw a ∧ x.length ≤ 21 ∧ y.length ≤ 21 := by
 unfold D8
 obtain ⟨a, d, e, hd, ha⟩ := Yg (Apa hc hl) (by omega)
 rw [e]
 simp only [Option.bind_some]
 obtain ⟨x, d2, e2, hd2, hx⟩ := Ag4 hd (by omega) ha
 rw [e2]
 simp only [Option.bind_some]
 obtain ⟨y, d3, e3, _, hy⟩ := Ag4 hd2 (by omega) ha
 rw [e3]
 exact ⟨_, _, _, rfl, ha, hx, hy⟩
end Go.Proofs.Ytidaaijecmkndaa.Ax
