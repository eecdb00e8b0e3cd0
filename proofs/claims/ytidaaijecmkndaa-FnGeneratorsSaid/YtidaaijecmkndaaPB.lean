/-
 Plain facts, joined.
-/
import Derived.Test.YtidaaijecmkndaaPA
import Derived.Test.YtidaaijecmkndaaSo3
namespace Go.Proofs.Ytidaaijecmkndaa.Ax
open Go Classical
theorem Um {n : Nat} (h : n ≤ 20) : (2 : Nat) ^ n ≤ 1048576 := by
 have : (2 : Nat) ^ n ≤ 2 ^ 20 := Nat.pow_le_pow_right (by omega) h
 omega
theorem Gu {n : Nat} (h : n ≤ 20) : Q0 1 (n : Int) = ((2 ^ n : Nat) : Int) := by
 have h1 := Um h
 have e : min ((n : Int)).toNat IntKind.i64.bits = n := by
  have : IntKind.i64.bits = 64 := rfl
  rw [this, Int.toNat_natCast]; omega
 unfold Q0
 rw [e, Int.one_mul, show ((2 : Int) ^ n) = ((2 ^ n : Nat) : Int) by simp]
 generalize 2 ^ n = q at h1 ⊢
 exact Nq (by omega) (by omega)
theorem Zx (m : Nat) {x : Nat} (h : x ≤ 20) : Afj (m : Int) (x : Int) = ((m / 2 ^ x : Nat) : Int) := by
 have e : min ((x : Int)).toNat IntKind.i64.bits = x := by
  have : IntKind.i64.bits = 64 := rfl
  rw [this, Int.toNat_natCast]; omega
 unfold Afj
 rw [e, Int.fdiv_eq_ediv_of_nonneg _ (Int.pow_nonneg (by omega)), show ((2 : Int) ^ x) = ((2 ^ x : Nat) : Int) by simp]
 rfl
theorem Ajd {m : Nat} (h : m ≤ 1048576) : Ajb (m : Int) 1 = ((m % 2 : Nat) : Int) := by
 unfold Ajb
 have e : (BitVec.ofInt IntKind.i64.bits (m : Int) &&& BitVec.ofInt IntKind.i64.bits 1).toNat = m % 2 := by
  have hb : IntKind.i64.bits = 64 := rfl
  rw [hb, BitVec.toNat_and, BitVec.toNat_ofInt, BitVec.toNat_ofInt]
  have e1 : ((m : Int) % ((2 ^ 64 : Nat) : Int)).toNat = m := by omega
  have e2 : ((1 : Int) % ((2 ^ 64 : Nat) : Int)).toNat = 1 := by decide
  rw [e1, e2, Nat.and_one_is_mod]
 rw [e]
 exact Nq (by omega) (by omega)
def A7 (m i : Nat) : Bool := decide (m / 2 ^ i % 2 = 1)
theorem An1 {q : Nat → Bool} {i : Nat} : ∀ {n : Nat}, i ≤ n → (∀ j, i ≤ j → j < n → q j = false) → Aj n q = Aj i q := by
 intro n
 induction n with
 | zero => intro h _; have : i = 0 := by omega
           subst this; rfl
 | succ n ih =>
   intro h hq
   by_cases hi : i = n + 1
   ·subst hi; rfl
   ·rw [Ey, hq n (by omega) (by omega), if_neg (by simp)]
    exact ih (by omega) fun j h1 h2 => hq j h1 (by omega)
theorem Aug {m i j : Nat} (h : m / 2 ^ i = 0) (hj : i ≤ j) : A7 m j = false := by
 have h1 : m < 2 ^ i := by
  rcases Nat.lt_or_ge m (2 ^ i) with h1 | h1
  ·exact h1
  ·have := Nat.div_pos h1 (Nat.pow_pos (by omega)); omega
 have h2 : (2 : Nat) ^ i ≤ 2 ^ j := Nat.pow_le_pow_right (by omega) hj
 unfold A7
 rw [Nat.div_eq_of_lt (by omega)]; simp
theorem Ahx {body : (Int × List Int) → Option ((Int × List Int) ⊕ List Int)} {m n : Nat} (hm : m < 2 ^ n)
  (h0 : ∀ (i : Nat) acc, i ≤ n → m / 2 ^ i = 0 → body ((i : Int), acc) = some (.inr acc))
  (h1 : ∀ (i : Nat) acc, i < n → acc.length ≤ i → ¬ m / 2 ^ i = 0 → body ((i : Int), acc) = some (.inl (((i + 1 : Nat) : Int), if A7 m i then acc ++ [(i : Int)] else acc))) : Am body (0, A5 Int) = some (Aj n (A7 m)) := by
 have e0 : ((0 : Int), A5 Int) = (((0 : Nat) : Int), Aj 0 (A7 m)) := rfl
 rw [e0]
 rcases Q5 (body := body) (fun i => ((i : Int), Aj i (A7 m))) n (fun i => m / 2 ^ i = 0) (fun i => Aj i (A7 m)) (Aj n (A7 m)) (fun i hi hh => by
   rw [h1 i _ hi (Dk _ _) hh, Ey]) (fun i hi hh => h0 i _ (by omega) hh) (h0 n _ (Nat.le_refl _) (Nat.div_eq_of_lt hm)) with ⟨i, hi, hh, _, e⟩ | ⟨_, e⟩
 ·rw [e, An1 (q := A7 m) (n := n) (by omega) fun j hj _ => Aug hh hj]
 ·exact e
theorem Aoe (m i : Nat) : m / 2 ^ i ≤ m := Nat.div_le_self _ _
theorem Afn {m n : Nat} (hn : n ≤ 20) (hm : m < 2 ^ n) : Fo (m : Int) = some (Aj n (A7 m)) := by
 unfold Fo
 have hp := Um hn
 rw [Ahx (body := En (m : Int)) hm (fun i acc hi hh => by
  unfold En
  dsimp only
  rw [Ae (by omega), Zx m (by omega), hh, if_neg (by omega)]) (fun i acc hi ha hh => by
  unfold En A7
  dsimp only
  have hd := Aoe m i
  rw [Ae (by omega), Zx m (by omega)]
  generalize m / 2 ^ i = q at *
  rw [if_pos (by omega), Ae (by omega), Ajd (by omega)]
  by_cases hb : q % 2 = 1
  ·rw [if_pos (by omega), Ae (by rw [Av]; simp; omega), Ae (by unfold InI; omega), decide_eq_true hb, if_pos rfl]; rfl
  ·rw [if_neg (by omega), Ae (by unfold InI; omega), decide_eq_false hb, if_neg (by simp)]; rfl)]
 rfl
theorem Ado {m n : Nat} (hn : n ≤ 20) (hm : m < 2 ^ n) : Fu (m : Int) = some (Aj n (A7 m)) := by
 unfold Fu
 have hp := Um hn
 rw [Ahx (body := El (m : Int)) hm (fun i acc hi hh => by
  unfold El
  dsimp only
  rw [Ae (by omega), Zx m (by omega), hh, if_neg (by omega)]) (fun i acc hi ha hh => by
  unfold El A7
  dsimp only
  have hd := Aoe m i
  rw [Ae (by omega), Zx m (by omega)]
  generalize m / 2 ^ i = q at *
  rw [if_pos (by omega), Ae (by omega), Ajd (by omega)]
  by_cases hb : q % 2 = 1
  ·rw [if_pos (by omega), Ae (by rw [Av]; simp; omega), Ae (by unfold InI; omega), decide_eq_true hb, if_pos rfl]; rfl
  ·rw [if_neg (by omega), Ae (by unfold InI; omega), decide_eq_false hb, if_neg (by simp)]; rfl)]
 rfl
def Xg (a b : List Int) : Prop := ∃ i, i < a.length ∧ (∀ j, j < i → nth a j = nth b j) ∧ nth a i < nth b i
theorem Amb {a b : List Int} (hl : a.length = b.length) (h : a.length ≤ LIM) : Ft a b = some (decide (Xg a b)) := by
 unfold Ft
 rw [Av] at h
 rw [show ((0 : Int)) = (((0 : Nat)) : Int) from rfl]
 rcases Q5 (body := Df a b) (fun i => (i : Int)) a.length (fun i => nth a i ≠ nth b i) (fun i => .inl (decide (nth a i < nth b i))) (.inr ()) (fun i hi hh => by
   unfold Df
   rw [if_pos (by omega), Ae (by omega), Ae (by omega), Int.toNat_natCast, if_neg hh, Ae (by unfold InI; omega)]; rfl) (fun i hi hh => by
   unfold Df
   rw [if_pos (by omega), Ae (by omega), Ae (by omega), Int.toNat_natCast, if_pos hh, Ae (by omega), Ae (by omega)]) (by
   unfold Df
   rw [if_neg (by omega)]) with ⟨i, hi, hh, hf, e⟩ | ⟨hn, e⟩
 ·rw [e]
  simp only [Option.bind_some]
  congr 1
  rw [decide_eq_decide]
  constructor
  ·intro hlt
   exact ⟨i, hi, fun j hj => Classical.not_not.1 (hf j hj), hlt⟩
  ·rintro ⟨k, hk, h1, h2⟩
   rcases Nat.lt_trichotomy k i with hki | hki | hki
   ·have := Classical.not_not.1 (hf k hki); omega
   ·subst hki; exact h2
   ·exact absurd (h1 i hki) hh
 ·rw [e, decide_eq_false]
  ·rfl
  ·rintro ⟨k, hk, _, h2⟩
   have := Classical.not_not.1 (hn k hk); omega
theorem Aff {a b : List Int} (hl : a.length = b.length) (h : a.length ≤ LIM) : ∃ c, D8 a b = some c ∧ (¬ c ≥ 0 ↔ Xg a b) := by
 unfold D8
 rw [Av] at h
 rw [show ((0 : Int)) = (((0 : Nat)) : Int) from rfl]
 rcases Q5 (body := Bw a b) (fun i => (i : Int)) a.length (fun i => nth a i ≠ nth b i) (fun i => .inl (if nth a i < nth b i then -1 else 1)) (.inr ()) (fun i hi hh => by
   unfold Bw
   rw [if_pos (by omega), if_pos (by omega)]
   simp only [Option.bind_some]
   rw [Ae (by omega), Ae (by omega), Int.toNat_natCast, if_neg hh, Ae (by unfold InI; omega)]; rfl) (fun i hi hh => by
   unfold Bw
   rw [if_pos (by omega), if_pos (by omega)]
   simp only [Option.bind_some]
   rw [Ae (by omega), Ae (by omega), Int.toNat_natCast, if_pos hh, Ae (by omega), Ae (by omega)]
   split <;> rfl) (by
   unfold Bw
   rw [if_neg (by omega)]; rfl) with ⟨i, hi, hh, hf, e⟩ | ⟨hn, e⟩
 ·rw [e]
  refine ⟨_, rfl, ?_⟩
  constructor
  ·intro hlt
   refine ⟨i, hi, fun j hj => Classical.not_not.1 (hf j hj), ?_⟩
   by_cases hc : nth a i < nth b i
   ·exact hc
   ·rw [if_neg hc] at hlt; omega
  ·rintro ⟨k, hk, h1, h2⟩
   have hki : k = i := by
    rcases Nat.lt_trichotomy k i with hki | hki | hki
    ·have := Classical.not_not.1 (hf k hki); omega
    ·exact hki
    ·exact absurd (h1 i hki) hh
   subst hki
   rw [if_pos h2]; omega
 ·rw [e]
  simp only [Option.bind_some]
  rw [if_neg (by omega), if_neg (by omega)]
  refine ⟨_, rfl, ?_⟩
  constructor
  ·intro hc; omega
  ·rintro ⟨k, hk, _, h2⟩
   have := Classical.not_not.1 (hn k hk); omega
def Axr (f : Nat → Nat → Bool) (ls : List Int) : Prop := ∀ x ∈ ls, ∀ y ∈ ls, ¬ (x.toNat ≠ y.toNat ∧ f x.toNat y.toNat = true)
theorem D9 (n : Nat) (q : Nat → Bool) : Bc (Aj n q) n := by
 intro x hx
 obtain ⟨z, h1, _, rfl⟩ := Fx.1 hx
 omega
section
end
end Go.Proofs.Ytidaaijecmkndaa.Ax
namespace Go.Proofs.Ytidaaijecmkndaa.Ax
open Go Classical
theorem Ru (m i : Nat) : A7 m i = m.testBit i := by
 unfold A7
 rw [Nat.testBit_eq_decide_div_mod_eq]
theorem Auw {m i n : Nat} (hn : n ≤ 20) (hm : m < 2 ^ n) (hi : i ≤ 20) : Ajb (Afj (m : Int) (i : Int)) 1 = if A7 m i then 1 else 0 := by
 have hp := Um hn
 have hd := Aoe m i
 rw [Zx m hi]
 unfold A7
 generalize m / 2 ^ i = q at *
 rw [Ajd (by omega)]
 by_cases h : q % 2 = 1
 ·rw [decide_eq_true h, if_pos rfl]; omega
 ·rw [decide_eq_false h, if_neg (by simp)]; omega
def pc (n m : Nat) : Nat := (Aj n (A7 m)).length
theorem Ar0 {q q' : Nat → Bool} {x : Nat} (hq : q x = false) (h : ∀ i, q' i = (q i || decide (x = i))) : ∀ n, (Aj n q').length = (Aj n q).length + if x < n then 1 else 0 := by
 intro n
 induction n with
 | zero => simp [Aj]
 | succ n ih =>
   rw [Ey, Ey, h n]
   by_cases hxn : x = n
   ·subst hxn
    rw [hq]
    simp only [decide_true, Bool.or_true, if_true, Bool.false_eq_true, if_false]
    rw [List.length_append, ih, if_neg (by omega), if_pos (by omega)]; rfl
   ·rw [decide_eq_false hxn, Bool.or_false]
    by_cases hqn : q n = true
    ·rw [if_pos hqn, if_pos hqn, List.length_append, List.length_append, ih]
     by_cases hx : x < n
     ·rw [if_pos hx, if_pos (by omega)]; simp
     ·rw [if_neg hx, if_neg (by omega)]; rfl
    ·rw [if_neg hqn, if_neg hqn, ih]
     by_cases hx : x < n
     ·rw [if_pos hx, if_pos (by omega)]
     ·rw [if_neg hx, if_neg (by omega)]
def wt (n m : Nat) : Nat := 10 ^ (10 - pc n m)
def phi (n : Nat) (ws : List Int) : Nat → Nat → Int
 | _, 0 => 0
 | M, k + 1 => nth ws M * wt n M + phi n ws (M + 1) k
section
variable {n : Nat} {f : Nat → Nat → Bool}
structure okW (n m : Nat) (ws : List Int) : Prop where
 len : ws.length = 2 ^ n
 pos : ∀ i, i < ws.length → 0 ≤ nth ws i
 sum : phi n ws m (2 ^ n - m) ≤ 10000000000
end
section
end
end Go.Proofs.Ytidaaijecmkndaa.Ax
namespace Go.Proofs.Ytidaaijecmkndaa.Ax
open Go Classical
section
variable {n : Nat} {ps : List (Int × Int)}
end
end Go.Proofs.Ytidaaijecmkndaa.Ax
namespace Go.Proofs.Ytidaaijecmkndaa.Ax
open Go Classical
theorem Afh (xs : List Int) (x : Int) (h : xs.length ≤ LIM) : G6 xs x = some (decide (x ∉ xs)) := by
 unfold G6
 rw [Av] at h
 rw [show ((0 : Int)) = (((0 : Nat)) : Int) from rfl]
 rcases Q5 (body := Dl xs x) (fun i => (i : Int)) xs.length (fun i => x = nth xs i) (fun _ => .inl ()) (.inr ()) (fun i hi hh => by
   unfold Dl
   rw [if_pos (by omega), Ae (by omega), Int.toNat_natCast, if_neg hh, Ae (by unfold InI; omega)]; rfl) (fun i hi hh => by
   unfold Dl
   rw [if_pos (by omega), Ae (by omega), Int.toNat_natCast, if_pos hh]) (by
   unfold Dl
   rw [if_neg (by omega)]) with ⟨i, hi, hh, _, e⟩ | ⟨hn, e⟩
 ·rw [e, decide_eq_false (fun hc => hc (by rw [hh]; exact Bb hi))]; rfl
 ·rw [e]
  have : decide (x ∉ xs) = true := decide_eq_true (fun hc => by
   obtain ⟨i, hi, hx⟩ := Ed.1 hc
   exact hn i hi hx.symm)
  rw [this]; rfl
theorem Amj {q q' : Nat → Bool} : ∀ (n : Nat), (∀ i, i < n → q i = true → q' i = true) → (Aj n q).length ≤ (Aj n q').length := by
 intro n
 induction n with
 | zero => intro _; simp [Aj]
 | succ n ih =>
   intro h
   have := ih fun i hi => h i (by omega)
   rw [Ey, Ey]
   by_cases hq : q n = true
   ·rw [if_pos hq, if_pos (h n (by omega) hq), List.length_append, List.length_append]; simp; omega
   ·rw [if_neg hq]
    split
    ·rw [List.length_append]; omega
    ·exact this
theorem Alm {q q' : Nat → Bool} {x : Nat} (hx : q x = false) (hx' : q' x = true) : ∀ (n : Nat), x < n → (∀ i, i < n → q i = true → q' i = true) → (Aj n q).length < (Aj n q').length := by
 intro n
 induction n with
 | zero => intro h _; omega
 | succ n ih =>
   intro hn h
   rw [Ey, Ey]
   by_cases hxn : x = n
   ·subst hxn
    have := Amj x fun i hi => h i (by omega)
    rw [hx, hx', if_neg (by simp), if_pos rfl, List.length_append]; simp; omega
   ·have := ih (by omega) fun i hi => h i (by omega)
    by_cases hq : q n = true
    ·rw [if_pos hq, if_pos (h n (by omega) hq), List.length_append, List.length_append]; simp; omega
    ·rw [if_neg hq]
     split
     ·rw [List.length_append]; omega
     ·exact this
theorem Ahv (n : Nat) : (Aj n fun _ => true).length = n := by
 induction n with
 | zero => rfl
 | succ n ih => rw [Ey, if_pos rfl, List.length_append, ih]; rfl
section
variable {n : Nat} {f : Nat → Nat → Bool}
end
section
end
end Go.Proofs.Ytidaaijecmkndaa.Ax
namespace Go.Proofs.Ytidaaijecmkndaa.Ax
open Go Classical
theorem Am2 {xs : List Int} : Gg xs ↔ xs.Pairwise (· < ·) := by
 constructor
 ·intro h
  refine List.pairwise_iff_getElem.2 fun i j hi hj hij => ?_
  have := Al0 h hij hj
  rwa [Ck hi, Ck hj] at this
 ·intro h i h1 h2
  have := List.pairwise_iff_getElem.1 h (i - 1) i (by omega) h2 (by omega)
  rwa [Ck (by omega), Ck h2]
noncomputable def round (n : Nat) (g h : Nat → Nat → Nat) (S : Nat → Bool) : Nat → Bool := fun z => decide (S z = true ∨ ∃ x y, x < n ∧ y < n ∧ S x = true ∧ S y = true ∧ (z = g x y ∨ z = h x y))
noncomputable def Aiq (n : Nat) (g h : Nat → Nat → Nat) (S : Nat → Bool) : Nat → Nat → Bool
 | 0 => S
 | k + 1 => round n g h (Aiq n g h S k)
section
variable {n : Nat} {g h : Nat → Nat → Nat} {S : Nat → Bool}
def Axu (n : Nat) (g h : Nat → Nat → Nat) (S : Nat → Bool) (k : Nat) : Prop := ∀ z, z < n → Aiq n g h S (k + 1) z = Aiq n g h S k z
noncomputable def closed (n : Nat) (g h : Nat → Nat → Nat) (S : Nat → Bool) : Nat → Bool := Aiq n g h S n
theorem Lk {xs : List Int} (hx : Bc xs n) (hr : Gg xs) : Aj n (fun z => decide ((z : Int) ∈ xs)) = xs := by
 refine Arq (Hg _ _) hr fun x => ?_
 rw [Fx]
 constructor
 ·rintro ⟨i, _, h1, rfl⟩; simpa using h1
 ·intro h1
  have := hx x h1
  exact ⟨x.toNat, by omega, by simpa [show ((x.toNat : Nat) : Int) = x by omega] using h1, by omega⟩
def Axp (n : Nat) (S : Nat → Bool) : List Nat := (List.range n).filter S
end
end Go.Proofs.Ytidaaijecmkndaa.Ax
namespace Go.Proofs.Ytidaaijecmkndaa.Ax
open Go Classical
theorem Atz {xs ys : List Int} (h : xs.length ≤ LIM) : Iw xs ys = some (decide (xs = ys)) := by
 unfold Iw
 rw [Av] at h
 split
 ·rename_i hl
  rw [decide_eq_false]
  rintro rfl; exact hl rfl
 rename_i hl
 have hl : xs.length = ys.length := by omega
 have := G8 (body := Dm xs ys) (fun i => (i : Int)) xs.length (fun i => ¬ nth xs i = nth ys i) () () (fun i hi hb => by
  unfold Dm
  rw [if_pos (by omega), Ae (by omega), Ae (by omega)]
  simp only [Int.toNat_natCast]
  rw [if_neg (by simpa using hb), Ae (by unfold InI; omega)]; rfl) (fun i hi hb => by
  unfold Dm
  rw [if_pos (by omega), Ae (by omega), Ae (by omega)]
  simp only [Int.toNat_natCast]
  rw [if_pos hb]) (by unfold Dm; rw [if_neg (by omega)]) 0 (by omega)
 show ((Am _ ((0 : Nat) : Int)).bind _) = _
 rw [this]
 by_cases hx : ∃ i, 0 ≤ i ∧ i < xs.length ∧ ¬ nth xs i = nth ys i
 ·rw [if_pos hx, decide_eq_false]
  ·rfl
  ·rintro rfl; obtain ⟨i, _, _, hc⟩ := hx; exact hc rfl
 ·rw [if_neg hx, decide_eq_true (Sz hl (Mb.1 hx))]
  rfl
theorem Ao8 {n : Nat} (hn : n ≤ LIM) {xs : List Int} (hx : Bc xs n) (hl : xs.length ≤ LIM) : H2 xs n = some (Iu n fun z => decide ((z : Int) ∈ xs)) := by
 unfold H2
 have hn' := hn
 rw [Av] at hl hn'
 rw [Ae (by rw [Av]; omega)]
 have key := Cy (body := Ff xs) (fun i => ((i : Int), Iu n fun z => decide ((z : Int) ∈ xs.take i))) xs.length (Iu n fun z => decide ((z : Int) ∈ xs)) (fun i hi => by
  unfold Ff
  dsimp only
  have hc := hx _ (Bb hi)
  have hlen := Mp n fun z => decide ((z : Int) ∈ xs.take i)
  rw [if_pos (by omega), Ae (by omega), Int.toNat_natCast, Ae (by rw [hlen]; omega), Ae (by unfold InI; omega), Asp (by omega)]
  congr 3
  refine Afp fun z _ => ?_
  rw [N8 hi]
  by_cases hz : z = (nth xs i).toNat
  ·rw [if_pos hz]
   refine (decide_eq_true ?_).symm
   rw [List.mem_append, List.mem_singleton]; right; omega
  ·rw [if_neg hz, decide_eq_decide, List.mem_append, List.mem_singleton]
   exact ⟨.inl, fun h => h.resolve_right (by omega)⟩) (by
  unfold Ff
  dsimp only
  rw [if_neg (by omega), List.take_length])
 have e0 : (Iu n fun z => decide ((z : Int) ∈ xs.take 0)) = List.replicate n false := by
  rw [Anq]; exact Afp fun z _ => by simp
 simp only [e0] at key
 rw [Int.toNat_natCast]
 show (Am _ (((0 : Nat) : Int), _)).bind _ = _
 rw [key]; rfl
theorem Al4 {n : Nat} (hn : n ≤ LIM) (S : Nat → Bool) : G4 (Iu n S) = some (Aj n S) := by
 unfold G4
 have hn' := hn
 rw [Av] at hn'
 have hl := Mp n S
 rw [Yw n S (fun i acc hi ha => by
  unfold F6
  dsimp only
  rw [if_pos (by omega), Ae (by omega), Int.toNat_natCast, Iz hi]
  by_cases hp : S i = true
  ·rw [if_pos hp, if_pos hp, Ae (by rw [Av]; simp; omega), Ae (by unfold InI; omega)]; rfl
  ·rw [if_neg hp, if_neg hp, Ae (by unfold InI; omega)]; rfl) (fun acc => by
  unfold F6
  dsimp only
  rw [if_neg (by omega)])]
 rfl
section
end
end Go.Proofs.Ytidaaijecmkndaa.Ax
namespace Go.Proofs.Ytidaaijecmkndaa.Ax
open Go Classical
def I6 (a : SAlgebra) : Prop := a.Ops.length ≤ 1048576 ∧ ∀ f ∈ a.Ops, f.Table.length ≤ 1048576
end Go.Proofs.Ytidaaijecmkndaa.Ax
namespace Go.Proofs.Ytidaaijecmkndaa.Ax
open Go Classical
end Go.Proofs.Ytidaaijecmkndaa.Ax
namespace Go.Proofs.Ytidaaijecmkndaa.Ax
open Go Classical
section
end
end Go.Proofs.Ytidaaijecmkndaa.Ax
namespace Go.Proofs.Ytidaaijecmkndaa.Ax
open Go Classical
def At5 (n : Nat) (f : SOp) : Prop := 0 ≤ f.Arity ∧ f.Arity ≤ 3 ∧ f.Table.length = n ^ f.Arity.toNat ∧ Bc f.Table n
def Zf (a : SAlgebra) : Prop := 1 ≤ a.Size ∧ a.Size ≤ 8 ∧ a.Ops.length ≤ 4 ∧ ∀ f ∈ a.Ops, At5 a.Size.toNat f
theorem Ad9 {n k : Nat} (hn : n ≤ 8) (hk : k ≤ 3) : n ^ k ≤ 512 :=
 Nat.le_trans (Nat.pow_le_pow_left hn k) (Nat.le_trans (Nat.pow_le_pow_right (by omega) hk) (by decide))
theorem Avs {n k : Nat} (hn : n ≤ 8) (hk : k ≤ 3) : Hu n k = some ((n ^ k : Nat) : Int) := by
 unfold Hu
 have key := Cy (body := D3 n) (fun j => (((n ^ j : Nat) : Int), ((k : Int) - (j : Int)))) k ((n ^ k : Nat) : Int) (fun j hj => by
  unfold D3
  dsimp only
  have hp := Ad9 hn (show j + 1 ≤ 3 by omega)
  rw [Nat.pow_succ] at hp
  rw [if_pos (by omega), ← Int.natCast_mul, Nat.pow_succ]
  generalize n ^ j * n = N at hp ⊢
  rw [Ae (by unfold InI; omega), Ae (by unfold InI; omega), show ((k : Int) - (j : Int) - 1) = (k : Int) - ((j + 1 : Nat) : Int) by omega]) (by
  unfold D3
  dsimp only
  rw [if_neg (by omega)])
 have key' : Am (D3 n) (1, (k : Int)) = some ((n ^ k : Nat) : Int) := by simpa using key
 rw [key']; rfl
theorem Ap4 {n k : Nat} (hn : n ≤ 8) (hk : k ≤ 3) : Gs n k = some ((n ^ k : Nat) : Int) := by
 unfold Gs
 have key := Cy (body := D2 n) (fun j => (((n ^ j : Nat) : Int), ((k : Int) - (j : Int)))) k ((n ^ k : Nat) : Int) (fun j hj => by
  unfold D2
  dsimp only
  have hp := Ad9 hn (show j + 1 ≤ 3 by omega)
  rw [Nat.pow_succ] at hp
  rw [if_pos (by omega), ← Int.natCast_mul, Nat.pow_succ]
  generalize n ^ j * n = N at hp ⊢
  rw [Ae (by unfold InI; omega), Ae (by unfold InI; omega), show ((k : Int) - (j : Int) - 1) = (k : Int) - ((j + 1 : Nat) : Int) by omega]) (by
  unfold D2
  dsimp only
  rw [if_neg (by omega)])
 have key' : Am (D2 n) (1, (k : Int)) = some ((n ^ k : Nat) : Int) := by simpa using key
 rw [key']; rfl
theorem As1 {n : Nat} (hn : n ≤ 8) {f : SOp} (hl : f.Table.length ≤ LIM) : Mc f n = some (decide (At5 n f)) := by
 unfold Mc
 by_cases h0 : 0 ≤ f.Arity
 ·rw [if_pos (show f.Arity ≥ 0 from h0)]
  by_cases h3 : f.Arity ≤ 3
  ·have e : Hu (n : Int) f.Arity = some ((n ^ f.Arity.toNat : Nat) : Int) := by
    have := Avs hn (k := f.Arity.toNat) (by omega)
    rwa [show ((f.Arity.toNat : Nat) : Int) = f.Arity by omega] at this
   rw [if_pos h3, e]
   simp only [Option.bind_some]
   by_cases hL : f.Table.length = n ^ f.Arity.toNat
   ·rw [if_pos (by rw [hL]), Aes _ _ hl]
    simp only [Option.bind_some]
    congr 1
    rw [decide_eq_decide]
    exact ⟨fun h => ⟨h0, h3, hL, h⟩, fun h => h.2.2.2⟩
   ·rw [if_neg (fun hc => hL (Int.ofNat_inj.1 hc)), decide_eq_false (fun h => hL h.2.2.1)]
  ·rw [if_neg h3, decide_eq_false (fun h => h3 h.2.1)]
 ·rw [if_neg (by omega), decide_eq_false (fun h => h0 h.1)]
theorem Atw {n : Nat} (hn1 : 1 ≤ n) (hn : n ≤ 8) {f : SOp} (hl : f.Table.length ≤ LIM) : Mj n f = some (decide (At5 n f)) := by
 unfold Mj
 rw [Aaz]
 simp only [Option.bind_some]
 by_cases h0 : 0 ≤ f.Arity ∧ f.Arity ≤ 3
 ·have e : Gs (n : Int) f.Arity = some ((n ^ f.Arity.toNat : Nat) : Int) := by
   have := Ap4 hn (k := f.Arity.toNat) (by omega)
   rwa [show ((f.Arity.toNat : Nat) : Int) = f.Arity by omega] at this
  rw [decide_eq_true h0, if_pos rfl, e]
  simp only [Option.bind_some]
  by_cases hL : f.Table.length = n ^ f.Arity.toNat
  ·rw [if_neg (by rw [hL]; simp)]
   simp only [Option.bind_some]
   have hl' := hl
   rw [Av] at hl'
   have this := G8 (body := Ez n f) (fun i => (i : Int)) f.Table.length (fun i => ¬ (0 ≤ nth f.Table i ∧ nth f.Table i ≤ (n : Int) - 1)) () () (fun i hi hb => by
    unfold Ez
    rw [if_pos (by omega), Ae (by omega), Ae (by unfold InI; omega), Aaz]
    simp only [Int.toNat_natCast, Option.bind_some]
    rw [decide_eq_true (Classical.not_not.1 hb), if_pos rfl, Ae (by unfold InI; omega)]; rfl) (fun i hi hb => by
    unfold Ez
    rw [if_pos (by omega), Ae (by omega), Ae (by unfold InI; omega), Aaz]
    simp only [Int.toNat_natCast, Option.bind_some]
    rw [decide_eq_false hb, if_neg (by simp)]) (by
    unfold Ez
    rw [if_neg (by omega)]) 0 (by omega)
   refine (Hz this false true).trans (congrArg some (Pn ?_))
   rw [Mb]
   constructor
   ·intro h
    refine ⟨h0.1, h0.2, hL, fun x hx => ?_⟩
    obtain ⟨i, hi, rfl⟩ := Ed.1 hx
    have := h i hi; omega
   ·intro h i hi
    have := h.2.2.2 _ (Bb hi); omega
  ·rw [if_pos (fun hc => hL (Int.ofNat_inj.1 hc)), decide_eq_false (fun h => hL h.2.2.1)]; rfl
 ·rw [decide_eq_false h0, if_neg (by simp), decide_eq_false (fun h => h0 ⟨h.1, h.2.1⟩)]; rfl
theorem Gk {a : SAlgebra} (h : I6 a) : Cc a = some (decide (Zf a)) := by
 unfold Cc
 by_cases h1 : a.Size < 1
 ·rw [if_pos h1, decide_eq_false (fun hg => by have := hg.1; omega)]; rfl
 rw [if_neg h1]
 by_cases h8 : a.Size > 8
 ·rw [if_pos h8, decide_eq_false (fun hg => by have := hg.2.1; omega)]; rfl
 rw [if_neg h8]
 by_cases h4 : (a.Ops.length : Int) > 4
 ·rw [if_pos h4, decide_eq_false (fun hg => by have := hg.2.2.1; omega)]; rfl
 rw [if_neg h4]
 simp only [Option.bind_some]
 obtain ⟨n, hn⟩ := Int.eq_ofNat_of_zero_le (show 0 ≤ a.Size by omega)
 have this := G8 (body := Cg a) (fun i => (i : Int)) a.Ops.length (fun i => ¬ At5 n (nth a.Ops i)) () () (fun i hi hb => by
  have hl := h.2 _ (Bb hi)
  unfold Cg
  rw [if_pos (by omega), Ae (by omega), Int.toNat_natCast, hn, As1 (by omega) (by rw [Av]; omega)]
  simp only [Option.bind_some]
  rw [decide_eq_true (Classical.not_not.1 hb), if_pos rfl, Ae (by unfold InI; omega)]; rfl) (fun i hi hb => by
  have hl := h.2 _ (Bb hi)
  unfold Cg
  rw [if_pos (by omega), Ae (by omega), Int.toNat_natCast, hn, As1 (by omega) (by rw [Av]; omega)]
  simp only [Option.bind_some]
  rw [decide_eq_false hb, if_neg (by simp)]) (by
  unfold Cg
  rw [if_neg (by omega)]) 0 (by omega)
 refine (Hz this false true).trans (congrArg some (Pn ?_))
 rw [Mb]
 have hnn : a.Size.toNat = n := by omega
 constructor
 ·intro hh
  refine ⟨by omega, by omega, by omega, fun f hf => ?_⟩
  obtain ⟨i, hi, rfl⟩ := Ed.1 hf
  rw [hnn]; exact hh i hi
 ·intro hg i hi
  have := hg.2.2.2 _ (Bb hi)
  rwa [hnn] at this
theorem O0 {a : SAlgebra} (h : I6 a) : Eh a = some (decide (Zf a)) := by
 unfold Eh
 rw [Aaz]
 simp only [Option.bind_some]
 by_cases h1 : 1 ≤ a.Size ∧ a.Size ≤ 8
 ·rw [decide_eq_true h1, if_pos rfl]
  by_cases h4 : (a.Ops.length : Int) > 4
  ·rw [if_pos h4, decide_eq_false (fun hg => by have := hg.2.2.1; omega)]; rfl
  rw [if_neg h4]
  simp only [Option.bind_some]
  obtain ⟨n, hn⟩ := Int.eq_ofNat_of_zero_le (show 0 ≤ a.Size by omega)
  have this := G8 (body := Dg a) (fun i => (i : Int)) a.Ops.length (fun i => ¬ At5 n (nth a.Ops i)) () () (fun i hi hb => by
   have hl := h.2 _ (Bb hi)
   unfold Dg
   rw [if_pos (by omega), Ae (by omega), Int.toNat_natCast, hn, Atw (by omega) (by omega) (by rw [Av]; omega)]
   simp only [Option.bind_some]
   rw [decide_eq_true (Classical.not_not.1 hb), if_pos rfl, Ae (by unfold InI; omega)]; rfl) (fun i hi hb => by
   have hl := h.2 _ (Bb hi)
   unfold Dg
   rw [if_pos (by omega), Ae (by omega), Int.toNat_natCast, hn, Atw (by omega) (by omega) (by rw [Av]; omega)]
   simp only [Option.bind_some]
   rw [decide_eq_false hb, if_neg (by simp)]) (by
   unfold Dg
   rw [if_neg (by omega)]) 0 (by omega)
  refine (Hz this false true).trans (congrArg some (Pn ?_))
  rw [Mb]
  have hnn : a.Size.toNat = n := by omega
  constructor
  ·intro hh
   refine ⟨by omega, by omega, by omega, fun f hf => ?_⟩
   obtain ⟨i, hi, rfl⟩ := Ed.1 hf
   rw [hnn]; exact hh i hi
  ·intro hg i hi
   have := hg.2.2.2 _ (Bb hi)
   rwa [hnn] at this
 ·rw [decide_eq_false h1, if_neg (by simp), decide_eq_false (fun hg => h1 ⟨hg.1, hg.2.1⟩)]; rfl
def Ald (a : SAlgebra) : List Int := a.Ops.map (·.Arity)
end Go.Proofs.Ytidaaijecmkndaa.Ax
namespace Go.Proofs.Ytidaaijecmkndaa.Ax
open Go Classical
def Vm (n : Nat) : Nat → Nat → List Int
 | 0, _ => []
 | r + 1, k => Vm n r (k / n) ++ [((k % n : Nat) : Int)]
theorem Ad6 (n : Nat) : ∀ r k, (Vm n r k).length = r := by
 intro r
 induction r with
 | zero => intro k; rfl
 | succ r ih => intro k; simp [Vm, ih]
theorem Apo {n : Nat} (hn : 0 < n) : ∀ r k, Bc (Vm n r k) n := by
 intro r
 induction r with
 | zero => intro k x hx; cases hx
 | succ r ih =>
   intro k x hx
   simp only [Vm] at hx
   rcases List.mem_append.1 hx with hx | hx
   ·exact ih _ x hx
   ·rw [List.mem_singleton.1 hx]
    have := Nat.mod_lt k hn
    omega
theorem Aur {n : Nat} (hn : 0 < n) (hn8 : n ≤ 8) : ∀ (r k : Nat) (xs : List Int), r ≤ xs.length → xs.length ≤ 1000 → k ≤ 1048576 → Am (Dh n) ((r : Int) - 1, xs, (k : Int)) = some (Vm n r k ++ xs.drop r) := by
 intro r
 induction r with
 | zero =>
   intro k xs _ _ _
   refine Ja ?_
   unfold Dh
   dsimp only
   rw [if_neg (by omega)]
   simp [Vm]
 | succ r ih =>
   intro k xs hr hl hk
   have c1 : (k : Int).tdiv (n : Int) = ((k / n : Nat) : Int) := rfl
   have c2 : (k : Int).tmod (n : Int) = ((k % n : Nat) : Int) := rfl
   have hd : k / n ≤ k := Nat.div_le_self k n
   have step : Dh n (((r + 1 : Nat) : Int) - 1, xs, (k : Int)) = some (.inl ((r : Int) - 1, xs.set r ((k % n : Nat) : Int), ((k / n : Nat) : Int))) := by
    unfold Dh
    dsimp only
    rw [show (((r + 1 : Nat) : Int) - 1) = (r : Int) by omega, c1, c2]
    generalize k / n = kd at hd
    rw [if_pos (by omega), Ae (by omega), Ae (by omega), Ae (by unfold InI; omega), Ae (by unfold InI; omega), Int.toNat_natCast]
   rw [R6 step, ih _ _ (by rw [List.length_set]; omega) (by rw [List.length_set]; exact hl) (by omega)]
   congr 1
   simp only [Vm]
   rw [List.append_assoc]
   congr 1
   have e : (xs.set r ((k % n : Nat) : Int)).drop r = ((k % n : Nat) : Int) :: xs.drop (r + 1) := by
    refine List.ext_getElem (by simp; omega) fun i h1 h2 => ?_
    rw [List.getElem_drop, List.getElem_set]
    cases i with
    | zero => simp
    | succ i =>
      rw [if_neg (by omega), List.getElem_cons_succ, List.getElem_drop]
      congr 1; omega
   rw [e]; rfl
theorem Atd {n r k : Nat} (hn : 0 < n) (hn8 : n ≤ 8) (hr : r ≤ 3) (hk : k ≤ 1048576) : Ip n r k = some (Vm n r k) := by
 unfold Ip
 rw [Ae (by rw [Av]; omega), Ae (by unfold InI; omega), Int.toNat_natCast, Aur hn hn8 r k _ (by simp) (by simp; omega) hk]
 simp
def Aro (m : Nat) (xs : List Int) : Int := xs.foldl (fun s x => s * (m : Int) + x) 0
theorem Ahs (m : Nat) (xs : List Int) (y : Int) : Aro m (xs ++ [y]) = Aro m xs * (m : Int) + y := by
 unfold Aro; rw [List.foldl_append]; rfl
theorem Au7 {m : Nat} : ∀ (r : Nat) (xs : List Int), xs.length = r → Bc xs m → ∃ c : Nat, Aro m xs = (c : Int) ∧ c < m ^ r := by
 intro r
 induction r with
 | zero =>
   intro xs hl _
   have : xs = [] := List.length_eq_zero_iff.1 hl
   subst this
   exact ⟨0, rfl, by simp⟩
 | succ r ih =>
   intro xs hl hx
   obtain ⟨ys, y, rfl⟩ : ∃ ys y, xs = ys ++ [y] := by
    refine ⟨xs.take r, nth xs r, ?_⟩
    rw [← N8 (by omega), List.take_of_length_le (by omega)]
   have hy := hx y (by simp)
   obtain ⟨c, h1, h2⟩ := ih ys (by simpa using hl) fun z hz => hx z (by simp [hz])
   obtain ⟨d, rfl⟩ := Int.eq_ofNat_of_zero_le hy.1
   refine ⟨c * m + d, by rw [Ahs, h1]; push_cast; rfl, ?_⟩
   have h3 := Nat.mul_le_mul_right m (show c + 1 ≤ m ^ r from h2)
   rw [Nat.succ_mul] at h3
   rw [Nat.pow_succ]
   omega
theorem Aoy {m : Nat} (hm : m ≤ 8) {xs : List Int} (hl : xs.length ≤ 3) (hx : Bc xs m) : ∃ c : Nat, Aro m xs = (c : Int) ∧ c < m ^ xs.length ∧ c < 512 := by
 obtain ⟨c, h1, h2⟩ := Au7 xs.length xs rfl hx
 have := Ad9 hm hl
 exact ⟨c, h1, h2, by omega⟩
def Avz (n m : Nat) (f : List Int) : Nat → Nat → Int
 | 0, _ => 0
 | r + 1, k => Avz n m f r (k / n) * (m : Int) + nth f (k % n)
theorem Atc (n m : Nat) (f : List Int) : ∀ r k, Aro m ((Vm n r k).map fun x => nth f x.toNat) = Avz n m f r k := by
 intro r
 induction r with
 | zero => intro k; rfl
 | succ r ih =>
   intro k
   simp only [Vm, Avz, List.map_append, List.map_cons, List.map_nil, Int.toNat_natCast]
   rw [Ahs, ih]
theorem Art {n m : Nat} (hn : 0 < n) {f : List Int} (hf : f.length = n) (hfx : Bc f m) (r k : Nat) : Bc ((Vm n r k).map fun x => nth f x.toNat) m := by
 intro y hy
 obtain ⟨x, hx, rfl⟩ := List.mem_map.1 hy
 have := Apo hn r k x hx
 exact hfx _ (Bb (by omega))
structure Homs (a b : SAlgebra) (f : List Int) (n m : Nat) : Prop where
 ga : Zf a
 gb : Zf b
 ty : Ald a = Ald b
 sa : a.Size = n
 sb : b.Size = m
 len : f.length = n
 fin : Bc f m
section
variable {a b : SAlgebra} {f : List Int} {n m : Nat}
theorem Homs.ops (h : Homs a b f n m) : a.Ops.length = b.Ops.length := by
 have := congrArg List.length h.ty
 simpa [Ald] using this
theorem Homs.op (h : Homs a b f n m) {i : Nat} (hi : i < a.Ops.length) : ∃ r : Nat, r ≤ 3 ∧ (nth a.Ops i).Arity = r ∧ (nth b.Ops i).Arity = r ∧ (nth a.Ops i).Table.length = n ^ r ∧ (nth b.Ops i).Table.length = m ^ r ∧ Bc (nth a.Ops i).Table n ∧ n ^ r ≤ 512 := by
 have hn : a.Size.toNat = n := by have := h.sa; omega
 have hm : b.Size.toNat = m := by have := h.sb; omega
 have hn8 : n ≤ 8 := by have := h.sa; have := h.ga.2.1; omega
 obtain ⟨h1, h2, h3, h4⟩ := h.ga.2.2.2 _ (Bb hi)
 have hib : i < b.Ops.length := by rw [← h.ops]; exact hi
 obtain ⟨_, _, k3, _⟩ := h.gb.2.2.2 _ (Bb hib)
 have e : (nth a.Ops i).Arity = (nth b.Ops i).Arity := by
  have e1 : nth (Ald a) i = (nth a.Ops i).Arity := Adi _ hi
  have e2 : nth (Ald b) i = (nth b.Ops i).Arity := Adi _ hib
  rw [← e1, ← e2, h.ty]
 rw [hn] at h3 h4
 rw [hm, ← e] at k3
 exact ⟨(nth a.Ops i).Arity.toNat, by omega, by omega, by omega, h3, k3, h4, Ad9 hn8 (by omega)⟩
theorem Homs.pos (h : Homs a b f n m) : 0 < n ∧ n ≤ 8 ∧ 0 < m ∧ m ≤ 8 := by
 have := h.sa; have := h.sb; have := h.ga.1; have := h.ga.2.1; have := h.gb.1; have := h.gb.2.1
 omega
theorem Homs.low (h : Homs a b f n m) {r k : Nat} (hr : r ≤ 3) : ∃ c : Nat, Avz n m f r k = (c : Int) ∧ c < m ^ r := by
 obtain ⟨hn, _, _, hm⟩ := h.pos
 obtain ⟨c, h1, h2, _⟩ := Aoy hm (xs := (Vm n r k).map fun x => nth f x.toNat) (by rw [List.length_map, Ad6]; exact hr) (Art hn h.len h.fin r k)
 rw [Atc] at h1
 rw [List.length_map, Ad6] at h2
 exact ⟨c, h1, h2⟩
end
def uniq (f : List Int) : Prop := ∀ i, i < f.length → nth f i ∉ f.take i
end Go.Proofs.Ytidaaijecmkndaa.Ax
namespace Go.Proofs.Ytidaaijecmkndaa.Ax
open Go Classical
structure Perm (f : List Int) (n : Nat) : Prop where
 len : f.length = n
 fin : Bc f n
 un : uniq f
theorem Perm.count {f : List Int} {n : Nat} (h : Perm f n) : ∀ i, i ≤ n → (Aj n fun z => decide ((z : Int) ∈ f.take i)).length = i := by
 intro i
 induction i with
 | zero =>
   intro _
   rw [List.length_eq_zero_iff]
   exact Arr.2 fun z _ => by simp
 | succ i ih =>
   intro hi
   have hil : i < f.length := by rw [h.len]; exact hi
   have hv := h.fin _ (Bb hil)
   have hu := h.un i hil
   have hc : nth f i = (((nth f i).toNat : Nat) : Int) := by omega
   have := Ar0 (q := fun z => decide ((z : Int) ∈ f.take i)) (q' := fun z => decide ((z : Int) ∈ f.take (i + 1))) (x := (nth f i).toNat) (decide_eq_false (by rw [← hc]; exact hu)) (fun z => by
    rw [N8 hil, Bool.eq_iff_iff]
    simp only [decide_eq_true_eq, List.mem_append, List.mem_singleton, Bool.or_eq_true]
    constructor
    ·rintro (h1 | h1)
     ·exact .inl h1
     ·exact .inr (by omega)
    ·rintro (h1 | h1)
     ·exact .inl h1
     ·exact .inr (by omega)) n
   rw [this, ih (by omega), if_pos (by omega)]
section
variable {a : SAlgebra} {f : List Int} {n : Nat}
end
end Go.Proofs.Ytidaaijecmkndaa.Ax
namespace Go.Proofs.Ytidaaijecmkndaa.Ax
open Go Classical
noncomputable def many (n : Nat) (q : Nat → Bool) : Nat := (Aj n q).length
section
variable {n : Nat} {f : Nat → Nat → Bool}
end
section
variable {n m : Nat} {f g : Nat → Nat → Bool}
end
end Go.Proofs.Ytidaaijecmkndaa.Ax
namespace Go.Proofs.Ytidaaijecmkndaa.Ax
open Go
def Cur (k : Nat) (c : Sl1Cur) : Prop := (∀ x ∈ c.code, 0 ≤ x ∧ x ≤ 255) ∧ c.code.length ≤ 65536 ∧ 0 ≤ c.at_ ∧ c.at_ ≤ k
theorem Cur.mono {k l : Nat} {c : Sl1Cur} (h : Cur k c) (hl : k ≤ l) : Cur l c := ⟨h.1, h.2.1, h.2.2.1, by have := h.2.2.2; omega⟩
theorem At3 {n : Int} (h0 : 0 ≤ n) (h1 : n ≤ 255) : IntKind.u64.wrap n = n := by
 simp [IntKind.wrap, IntKind.bits, IntKind.signed]
 omega
theorem Ahw {c : Sl1Cur} {k : Nat} (h : Cur k c) (hk : k ≤ 1000000000) : ∃ r d, Dz c = some (r, d) ∧ Cur (k + 1) d ∧ 0 ≤ r ∧ r ≤ 255 := by
 obtain ⟨h1, h2, h3, h4⟩ := h
 unfold Dz
 have fin : ∀ q : Int, 0 ≤ q → q ≤ 255 → ∃ r d, (ask (InI (c.at_ + 1)) <|
   if c.at_ + 1 ≤ (c.code.length : Int) then
    some (q, ({ code := c.code, at_ := c.at_ + 1, seed := IntKind.u64.wrap (IntKind.u64.wrap (IntKind.u64.wrap (c.seed * 6364136223846793005) + IntKind.u64.wrap q) + 550289) } : Sl1Cur))
   else some (IntKind.i64.wrap (IntKind.u64.wrap (((BitVec.ofInt IntKind.u64.bits ((IntKind.u64.wrap (IntKind.u64.wrap (IntKind.u64.wrap (c.seed * 6364136223846793005) + IntKind.u64.wrap q) + 550289)).fdiv (2 ^ min (Int.toNat 40) IntKind.u64.bits)) &&& BitVec.ofInt IntKind.u64.bits 255).toNat : Nat) : Int)),
    ({ code := c.code, at_ := c.at_ + 1, seed := IntKind.u64.wrap (IntKind.u64.wrap (IntKind.u64.wrap (c.seed * 6364136223846793005) + IntKind.u64.wrap q) + 550289) } : Sl1Cur))) = some (r, d) ∧ Cur (k + 1) d ∧ 0 ≤ r ∧ r ≤ 255 := by
  intro q hq0 hq1
  rw [Ae (by unfold InI; omega)]
  split
  ·exact ⟨_, _, rfl, ⟨h1, h2, by show 0 ≤ c.at_ + 1; omega, by show c.at_ + 1 ≤ ((k + 1 : Nat) : Int); omega⟩, hq0, hq1⟩
  ·refine ⟨_, _, rfl, ⟨h1, h2, by show 0 ≤ c.at_ + 1; omega, by show c.at_ + 1 ≤ ((k + 1 : Nat) : Int); omega⟩, ?_⟩
   generalize BitVec.ofInt IntKind.u64.bits ((IntKind.u64.wrap (IntKind.u64.wrap (IntKind.u64.wrap (c.seed * 6364136223846793005) + IntKind.u64.wrap q) + 550289)).fdiv (2 ^ min (Int.toNat 40) IntKind.u64.bits)) = b
   have hb : (b &&& BitVec.ofInt IntKind.u64.bits 255).toNat ≤ 255 := by
    rw [BitVec.toNat_and]
    have : (BitVec.ofInt IntKind.u64.bits 255).toNat = 255 := by decide
    rw [this]
    exact Nat.and_le_right
   generalize (b &&& BitVec.ofInt IntKind.u64.bits 255).toNat = z at hb
   rw [At3 (by omega) (by omega), Nq (by omega) (by omega)]
   omega
 by_cases hc : c.at_ < (c.code.length : Int)
 ·rw [if_pos hc, Ae ⟨h3, hc⟩]
  have hm := h1 _ (Bb (xs := c.code) (i := c.at_.toNat) (by omega))
  rw [Nq (by omega) (by omega)]
  simp only [Option.bind_some]
  exact fin _ hm.1 hm.2
 ·rw [if_neg hc]
  simp only [Option.bind_some]
  exact fin 0 (by omega) (by omega)
theorem Lt {c : Sl1Cur} {k : Nat} (h : Cur k c) (hk : k ≤ 900000000) (n : Int) : ∃ r d, Bi c n = some (r, d) ∧ Cur (k + 2) d ∧ 0 ≤ r ∧ (r < n ∨ (n ≤ 1 ∧ r = 0)) := by
 unfold Bi
 by_cases h1 : n ≤ 1
 ·rw [if_pos h1]; exact ⟨0, c, rfl, h.mono (by omega), by omega, .inr ⟨h1, rfl⟩⟩
 ·rw [if_neg h1]
  obtain ⟨r, d, e, hd, a1, a2⟩ := Ahw h (by omega)
  simp only [e, Option.bind_some]
  by_cases h2 : n > 200
  ·rw [if_pos h2, Ae (by unfold InI; omega)]
   obtain ⟨r2, d2, e2, hd2, b1, b2⟩ := Ahw hd (by omega)
   simp only [e2, Option.bind_some]
   rw [Ae (by unfold InI; omega), Ae (by omega)]
   refine ⟨_, _, rfl, hd2, Int.tmod_nonneg _ (by omega), .inl ?_⟩
   exact Int.tmod_lt_of_pos _ (by omega)
  ·rw [if_neg h2, Ae (by omega)]
   refine ⟨_, _, rfl, hd.mono (by omega), Int.tmod_nonneg _ (by omega), .inl ?_⟩
   exact Int.tmod_lt_of_pos _ (by omega)
theorem As8 {c : Sl1Cur} {k : Nat} (h : Cur k c) (hk : k ≤ 900000000) (n : Int) : ∃ b d, F7 c n = some (b, d) ∧ Cur (k + 2) d := by
 unfold F7
 obtain ⟨r, d, e, hd, _, _⟩ := Lt h hk n
 simp only [e, Option.bind_some]
 exact ⟨_, _, rfl, hd⟩
theorem Ln {c : Sl1Cur} {k : Nat} (h : Cur k c) (hk : k ≤ 900000000) (l : List Int) (h0 : 0 < l.length) : ∃ r d, Bj c l = some (r, d) ∧ Cur (k + 2) d ∧ r ∈ l := by
 unfold Bj
 obtain ⟨r, d, e, hd, a1, a2⟩ := Lt h hk (l.length : Int)
 simp only [e, Option.bind_some]
 rw [Ae (by omega)]
 exact ⟨_, _, rfl, hd, Bb (by omega)⟩
open Classical
end Go.Proofs.Ytidaaijecmkndaa.Ax
namespace Go.Proofs.Ytidaaijecmkndaa.Ax
open Go Classical
section
variable {n m : Nat} {f g : Nat → Nat → Bool}
end
end Go.Proofs.Ytidaaijecmkndaa.Ax
namespace Go.Proofs.Ytidaaijecmkndaa.Ax
open Go Classical
section
end
theorem Zs {xs : List Int} (h : xs.length ≤ LIM) : Eb xs xs = some true := by
 have hL := Av
 unfold Eb
 rw [if_neg (by simp)]
 have := Cy (body := D6 xs xs) (fun i => (i : Int)) xs.length (.inr ()) (fun i hi => by
  unfold D6
  rw [if_pos (by omega)]
  repeat rw [Ae (by first | omega | (unfold InI; omega))]
  rw [if_neg (by simp)]
  rfl) (by
  unfold D6
  rw [if_neg (by omega)])
 have h0 : Am (D6 xs xs) 0 = some (.inr ()) := this
 rw [h0]; rfl
theorem Adl {xss : List (List Int)} (h : xss.length ≤ LIM) (h1 : ∀ r ∈ xss, r.length ≤ LIM) : Fr xss xss = some true := by
 have hL := Av
 unfold Fr
 rw [if_neg (by simp)]
 have := Cy (body := Do xss xss) (fun i => (i : Int)) xss.length (.inr ()) (fun i hi => by
  unfold Do
  rw [if_pos (by omega)]
  repeat rw [Ae (by first | omega | (unfold InI; omega))]
  rw [Int.toNat_natCast, Zs (h1 _ (Bb hi))]
  simp only [Option.bind_some, if_true]
  rfl) (by
  unfold Do
  rw [if_neg (by omega)])
 have h0 : Am (Do xss xss) 0 = some (.inr ()) := this
 rw [h0]; rfl
section
variable {n m : Nat} {f g : Nat → Nat → Bool}
end
end Go.Proofs.Ytidaaijecmkndaa.Ax
namespace Go.Proofs.Ytidaaijecmkndaa.Ax
open Go Classical
theorem Asw {xs : List Int} (h : xs.length ≤ LIM) (x : Int) : Ju xs x = some (decide (x ∈ xs)) := by
 have hL := Av
 unfold Ju
 have := G8 (body := Ds xs x) (fun i => (i : Int)) xs.length (fun i => nth xs i = x) () () (fun i hi hb => by
  unfold Ds
  rw [if_pos (by omega), Ae (by omega), Int.toNat_natCast, if_neg hb, Ae (by unfold InI; omega)]; rfl) (fun i hi hb => by
  unfold Ds
  rw [if_pos (by omega), Ae (by omega), Int.toNat_natCast, if_pos hb]) (by
  unfold Ds
  rw [if_neg (by omega)]) 0 (by omega)
 have h0 : Am (Ds xs x) 0 = _ := this
 rw [h0]
 by_cases hx : x ∈ xs
 ·obtain ⟨i, hi, e⟩ := Ed.1 hx
  rw [if_pos ⟨i, by omega, hi, e⟩, decide_eq_true hx]; rfl
 ·rw [if_neg (by rintro ⟨i, _, hi, e⟩; exact hx (e ▸ Bb hi)), decide_eq_false hx]; rfl
end Go.Proofs.Ytidaaijecmkndaa.Ax
namespace Go.Proofs.Ytidaaijecmkndaa.Ax
open Go Classical
def Lp (n r k : Nat) (S : Nat → Bool) : Prop := ∀ x ∈ Vm n r k, S x.toNat = true
theorem Po {n r k : Nat} {S T : Nat → Bool} (h : ∀ z, S z = true → T z = true) (hi : Lp n r k S) : Lp n r k T := fun x hx => h _ (hi x hx)
def V8 (a : SAlgebra) (i k : Nat) : Nat := (nth (nth a.Ops i).Table k).toNat
def Uu (a : SAlgebra) (i k : Nat) (S : Nat → Bool) : Prop := Lp a.Size.toNat (nth a.Ops i).Arity.toNat k S
def Iy (a : SAlgebra) (S : Nat → Bool) : Prop := ∀ i, i < a.Ops.length → ∀ k, k < (nth a.Ops i).Table.length → Uu a i k S → S (V8 a i k) = true
noncomputable def Ls (a : SAlgebra) (S : Nat → Bool) : Nat → Bool := fun z => decide (∀ T : Nat → Bool, (∀ x, S x = true → T x = true) → Iy a T → T z = true)
theorem Nw {a : SAlgebra} {S : Nat → Bool} (z : Nat) (h : S z = true) : Ls a S z = true := decide_eq_true fun _ hT _ => hT z h
theorem Ph {a : SAlgebra} {S : Nat → Bool} : Iy a (Ls a S) := by
 intro i hi k hk ha
 refine decide_eq_true fun T hT hc => ?_
 exact hc i hi k hk fun x hx => of_decide_eq_true (ha x hx) T hT hc
theorem Sb {a : SAlgebra} {S T : Nat → Bool} (hT : ∀ x, S x = true → T x = true) (hc : Iy a T) (z : Nat) (h : Ls a S z = true) : T z = true := of_decide_eq_true h T hT hc
theorem Aqn {a : SAlgebra} {S : Nat → Bool} (hc : Iy a S) : Ls a S = S := by
 funext z
 cases h : S z with
 | true => exact Nw z h
 | false =>
   cases h2 : Ls a S z with
   | false => rfl
   | true => rw [Sb (fun _ h => h) hc z h2] at h; cases h
def Xi (H : List Bool) : Nat := H.count true
theorem Apw (H : List Bool) : Xi H ≤ H.length := List.count_le_length
theorem Adw {H : List Bool} {v z : Nat} (hv : v < H.length) : nth (H.set v true) z = true ↔ z = v ∨ nth H z = true := by
 by_cases hz : z < H.length
 ·rw [Ap5 _ _ _ _ hz]
  by_cases e : v = z
  ·subst e; simp
  ·rw [if_neg e]
   exact ⟨.inr, fun h => h.resolve_left (Ne.symm e)⟩
 ·have h1 : nth H z = false := by rw [Aix, List.getD_eq_getElem?_getD, List.getElem?_eq_none (by omega)]; rfl
  have h2 : nth (H.set v true) z = false := by rw [Aix, List.getD_eq_getElem?_getD, List.getElem?_eq_none (by simp; omega)]; rfl
  rw [h1, h2]
  constructor
  ·intro h; cases h
  ·rintro (h | h)
   ·omega
   ·cases h
theorem Asr {H : List Bool} {v : Nat} (hv : v < H.length) (h : nth H v = false) : Xi (H.set v true) = Xi H + 1 := by
 unfold Xi
 rw [List.count_set hv]
 rw [Ck hv] at h
 rw [h]; simp
theorem Apm {H : List Bool} {z : Nat} (h : nth H z = true) : z < H.length := by
 apply Classical.byContradiction
 intro hc
 rw [Aix, List.getD_eq_getElem?_getD, List.getElem?_eq_none (by omega)] at h
 cases h
theorem Aq7 {H K : List Bool} (hl : H.length = K.length) (h : ∀ z, nth H z = true → nth K z = true) : Xi H ≤ Xi K ∧ (Xi K ≤ Xi H → H = K) := by
 induction H generalizing K with
 | nil => cases K with
   | nil => exact ⟨Nat.le_refl _, fun _ => rfl⟩
   | cons => simp at hl
 | cons x r ih =>
   cases K with
   | nil => simp at hl
   | cons y s =>
     have hl' : r.length = s.length := by simpa using hl
     obtain ⟨h1, h2⟩ := ih hl' fun z hz => h (z + 1) hz
     have h0 : x = true → y = true := fun hx => h 0 hx
     unfold Xi at *
     cases x <;> cases y
     ·simp only [List.count_cons]
      exact ⟨by simpa using h1, fun hh => by rw [h2 (by simpa using hh)]⟩
     ·simp only [List.count_cons]
      refine ⟨by simp; omega, fun hh => ?_⟩
      simp at hh; omega
     ·exact absurd (h0 rfl) (by simp)
     ·simp only [List.count_cons]
      exact ⟨by simpa using h1, fun hh => by rw [h2 (by simpa using hh)]⟩
section
variable {a : SAlgebra}
structure ReadyA (a : SAlgebra) (n : Nat) : Prop where
 good : Zf a
 sz : a.Size = (n : Int)
 pos : 0 < n
 le : n ≤ 8
theorem Awy (hg : Zf a) : ReadyA a a.Size.toNat := ⟨hg, by have := hg.1; omega, by have := hg.1; omega, by have := hg.2.1; omega⟩
theorem ReadyA.nat {n : Nat} (h : ReadyA a n) : a.Size.toNat = n := by have := h.sz; omega
theorem ReadyA.op {n : Nat} (h : ReadyA a n) {i : Nat} (hi : i < a.Ops.length) : ∃ r : Nat, (nth a.Ops i).Arity = (r : Int) ∧ r ≤ 3 ∧ (nth a.Ops i).Table.length = n ^ r ∧ Bc (nth a.Ops i).Table n ∧ (nth a.Ops i).Table.length ≤ 512 ∧ (∀ k S, Uu a i k S ↔ Lp n r k S) := by
 have := h.good.2.2.2 _ (Bb hi)
 rw [h.nat] at this
 obtain ⟨h1, h2, h3, h4⟩ := this
 refine ⟨(nth a.Ops i).Arity.toNat, by omega, by omega, h3, h4, ?_, fun k S => by unfold Uu; rw [h.nat]⟩
 rw [h3]; exact Ad9 h.le (by omega)
theorem ReadyA.val {n : Nat} (h : ReadyA a n) {i k : Nat} (hi : i < a.Ops.length) (hk : k < (nth a.Ops i).Table.length) : nth (nth a.Ops i).Table k = (V8 a i k : Int) ∧ V8 a i k < n := by
 obtain ⟨r, _, _, _, h4, _⟩ := h.op hi
 have := h4 _ (Bb hk)
 unfold V8
 omega
theorem Ast {n : Nat} (hn : 0 < n) (H : List Bool) (hH : H.length = n) (hn8 : n ≤ 8) : ∀ (r k : Nat), r ≤ 3 → k ≤ 1048576 → Am (Da (n : Int) H) ((k : Int), (r : Int)) = some (if Lp n r k (nth H) then .inr () else .inl ()) := by
 intro r
 induction r with
 | zero =>
   intro k _ _
   rw [if_pos (by intro x hx; cases hx)]
   refine Ja ?_
   unfold Da
   dsimp only
   rw [if_neg (by omega)]
 | succ r ih =>
   intro k hr hk
   have c1 : (k : Int).tdiv (n : Int) = ((k / n : Nat) : Int) := rfl
   have c2 : (k : Int).tmod (n : Int) = ((k % n : Nat) : Int) := rfl
   have hd : k / n ≤ k := Nat.div_le_self k n
   have hm : k % n < n := Nat.mod_lt k hn
   have ea : Lp n (r + 1) k (nth H) ↔ Lp n r (k / n) (nth H) ∧ nth H (k % n) = true := by
    unfold Lp
    simp only [Vm, List.mem_append, List.mem_singleton]
    constructor
    ·intro h
     exact ⟨fun x hx => h x (.inl hx), h ((k % n : Nat) : Int) (.inr rfl)⟩
    ·rintro ⟨h1, h2⟩ x (hx | rfl)
     ·exact h1 x hx
     ·exact h2
   by_cases hb : nth H (k % n) = true
   ·have step : Da (n : Int) H ((k : Int), ((r + 1 : Nat) : Int)) = some (.inl (((k / n : Nat) : Int), (r : Int))) := by
     unfold Da
     dsimp only
     rw [c1, c2]
     generalize k / n = kd at hd
     rw [if_pos (by omega), Ae (by omega), Ae (by omega), Int.toNat_natCast, if_pos hb, Ae (by unfold InI; omega), Ae (by unfold InI; omega)]
     congr 3; omega
    rw [R6 step, ih _ (by omega) (by omega)]
    congr 1
    by_cases h1 : Lp n r (k / n) (nth H)
    ·rw [if_pos h1, if_pos (ea.2 ⟨h1, hb⟩)]
    ·rw [if_neg h1, if_neg (fun h => h1 (ea.1 h).1)]
   ·rw [if_neg (fun h => hb (ea.1 h).2)]
    refine Ja ?_
    unfold Da
    dsimp only
    rw [c2, if_pos (by omega), Ae (by omega), Ae (by omega), Int.toNat_natCast, if_neg hb]
theorem Au9 {n : Nat} (hn : 0 < n) (hn8 : n ≤ 8) {H : List Bool} (hH : H.length = n) {r k : Nat} (hr : r ≤ 3) (hk : k ≤ 1048576) : Kc k r n H = some (decide (Lp n r k (nth H))) := by
 unfold Kc
 rw [Ast hn H hH hn8 r k hr hk]
 by_cases h : Lp n r k (nth H)
 ·rw [if_pos h, decide_eq_true h]; rfl
 ·rw [if_neg h, decide_eq_false h]; rfl
structure Pass (n : Nat) (G : Nat → Bool) (c0 : Bool) (H0 : List Bool) (c : Bool) (H : List Bool) (done : (Nat → Bool) → Prop) : Prop where
 len : H.length = n
 more : ∀ z, nth H0 z = true → nth H z = true
 low : ∀ z, nth H z = true → G z = true
 up : c = true → c0 = true ∨ Xi H0 < Xi H
 no : c = false → c0 = false ∧ H = H0 ∧ done (nth H)
 mono : Xi H0 ≤ Xi H
theorem Awl {n : Nat} (h : ReadyA a n) {S : Nat → Bool} {i : Nat} (hi : i < a.Ops.length) {H0 : List Bool} (hl : H0.length = n) (hlow : ∀ z, nth H0 z = true → Ls a S z = true) (c0 : Bool) :
  ∃ t, Am (Cw a (i : Int)) (0, c0, H0) = some t ∧ Pass n (Ls a S) c0 H0 t.1 t.2 (fun T => ∀ k, k < (nth a.Ops i).Table.length → Uu a i k T → T (V8 a i k) = true) := by
 obtain ⟨r, hr, hr3, _, htab, h512, hargs⟩ := h.op hi
 refine Fh (body := Cw a (i : Int)) (fun s => ∃ k : Nat, s.1 = (k : Int) ∧ k ≤ (nth a.Ops i).Table.length ∧ Pass n (Ls a S) c0 H0 s.2.1 s.2.2 (fun T => ∀ j, j < k → Uu a i j T → T (V8 a i j) = true))
  (fun s => (nth a.Ops i).Table.length - s.1.toNat) _ (fun s hs => ?_) ⟨0, rfl, Nat.zero_le _, hl, fun _ h => h, hlow, fun h => .inl h, fun h => ⟨h, rfl, fun j hj => absurd hj (Nat.not_lt_zero _)⟩, Nat.le_refl _⟩
 obtain ⟨x, c, H⟩ := s
 obtain ⟨k, hk, hkl, hp⟩ := hs
 simp only at hk hkl hp
 subst hk
 unfold Cw
 dsimp only
 rw [Int.toNat_natCast]
 by_cases hlt : k < (nth a.Ops i).Table.length
 ·left
  obtain ⟨ev, hv⟩ := h.val hi hlt
  rw [if_pos (by omega), Ae (by omega), Int.toNat_natCast, ev, Ae (by rw [hp.len]; omega), Int.toNat_natCast]
  by_cases hm : nth H (V8 a i k) = true
  ·rw [if_pos hm, Ae (by unfold InI; omega)]
   refine ⟨_, rfl, ⟨k + 1, rfl, hlt, hp.len, hp.more, hp.low, hp.up, fun hc => ?_, hp.mono⟩, by simp only; omega⟩
   obtain ⟨h1, h2, h3⟩ := hp.no hc
   refine ⟨h1, h2, fun j hj ha => ?_⟩
   by_cases e : j = k
   ·subst e; exact hm
   ·exact h3 j (by omega) ha
  ·rw [if_neg hm, hr, h.sz, Au9 h.pos h.le hp.len hr3 (by omega)]
   simp only [Option.bind_some]
   by_cases ha : Lp n r k (nth H)
   ·rw [decide_eq_true ha, if_pos rfl, Ae (by rw [hp.len]; omega), Ae (by unfold InI; omega)]
    have hvl : V8 a i k < H.length := by rw [hp.len]; exact hv
    have hcs := Asr hvl (by simpa using hm)
    refine ⟨_, rfl, ⟨k + 1, rfl, hlt, by rw [List.length_set]; exact hp.len, fun z hz => (Adw hvl).2 (.inr (hp.more z hz)), fun z hz => ?_, fun _ => .inr (by have := hp.mono; simp only; omega), fun hc => (by cases hc), by have := hp.mono; simp only; omega⟩, by simp only; omega⟩
    rcases (Adw hvl).1 hz with rfl | hz
    ·exact Ph i hi k hlt ((hargs k _).2 (Po hp.low ha))
    ·exact hp.low z hz
   ·rw [decide_eq_false ha, if_neg (by simp), Ae (by unfold InI; omega)]
    refine ⟨_, rfl, ⟨k + 1, rfl, hlt, hp.len, hp.more, hp.low, hp.up, fun hc => ?_, hp.mono⟩, by simp only; omega⟩
    obtain ⟨h1, h2, h3⟩ := hp.no hc
    refine ⟨h1, h2, fun j hj hb => ?_⟩
    by_cases e : j = k
    ·subst e; exact absurd ((hargs _ _).1 hb) ha
    ·exact h3 j (by omega) hb
 ·right
  rw [if_neg (by omega)]
  have e : k = (nth a.Ops i).Table.length := by omega
  subst e
  exact ⟨_, rfl, hp⟩
theorem Aw3 {n : Nat} (h : ReadyA a n) {S : Nat → Bool} {H0 : List Bool} (hl : H0.length = n) (hlow : ∀ z, nth H0 z = true → Ls a S z = true) :
  ∃ t, Am (Ct a) (0, false, H0) = some t ∧ Pass n (Ls a S) false H0 t.1 t.2 (fun T => Iy a T) := by
 have h4 := h.good.2.2.1
 refine Fh (body := Ct a) (fun s => ∃ i : Nat, s.1 = (i : Int) ∧ i ≤ a.Ops.length ∧ Pass n (Ls a S) false H0 s.2.1 s.2.2 (fun T => ∀ j, j < i → ∀ k, k < (nth a.Ops j).Table.length → Uu a j k T → T (V8 a j k) = true))
  (fun s => a.Ops.length - s.1.toNat) _ (fun s hs => ?_) ⟨0, rfl, Nat.zero_le _, hl, fun _ h => h, hlow, fun h => .inl h, fun h => ⟨h, rfl, fun j hj => absurd hj (Nat.not_lt_zero _)⟩, Nat.le_refl _⟩
 obtain ⟨x, c, H⟩ := s
 obtain ⟨i, hi, hil, hp⟩ := hs
 simp only at hi hil hp
 subst hi
 unfold Ct
 dsimp only
 by_cases hlt : i < a.Ops.length
 ·left
  obtain ⟨⟨c1, H1⟩, e1, hq⟩ := Awl h hlt hp.len hp.low c
  rw [if_pos (by omega), Ae (by omega), e1]
  simp only [Option.bind_some]
  rw [Ae (by unfold InI; omega)]
  refine ⟨_, rfl, ⟨i + 1, rfl, hlt, hq.len, fun z hz => hq.more z (hp.more z hz), hq.low, fun hc => ?_, fun hc => ?_, Nat.le_trans hp.mono hq.mono⟩, by simp only; omega⟩
  ·rcases hq.up hc with h1 | h1
   ·rcases hp.up h1 with h2 | h2
    ·exact .inl h2
    ·exact .inr (Nat.lt_of_lt_of_le h2 hq.mono)
   ·exact .inr (Nat.lt_of_le_of_lt hp.mono h1)
  ·obtain ⟨h1, h2, h3⟩ := hq.no hc
   obtain ⟨g1, g2, g3⟩ := hp.no h1
   refine ⟨g1, by simp only at h2 ⊢; rw [h2]; exact g2, fun j hj => ?_⟩
   by_cases e : j = i
   ·subst e; exact h3
   ·simp only at h2
    simp only [h2]
    exact g3 j (by omega)
 ·right
  rw [if_neg (by omega)]
  have e : i = a.Ops.length := by omega
  subst e
  exact ⟨_, rfl, hp⟩
theorem Akj {n : Nat} (h : ReadyA a n) (S : Nat → Bool) (hS : ∀ z, S z = true → z < n) : Fl a (Iu n S) = some (Iu n (Ls a S)) := by
 have hb := Mp n S
 have hin : ∀ z, nth (Iu n S) z = true ↔ S z = true := fun z => by
  constructor
  ·intro hz
   have hl := Apm hz
   rw [hb] at hl
   rwa [Iz hl] at hz
  ·intro hz; rw [Iz (hS z hz)]; exact hz
 unfold Fl
 obtain ⟨H, e, h1, h2, h3, h4⟩ := Fh (body := Dt a) (fun s => s.2.length = n ∧ (∀ z, S z = true → nth s.2 z = true) ∧ (∀ z, nth s.2 z = true → Ls a S z = true) ∧ (s.1 = false → Iy a (nth s.2)))
  (fun s => (n - Xi s.2) + (if s.1 then 1 else 0)) (fun H => H.length = n ∧ (∀ z, S z = true → nth H z = true) ∧ (∀ z, nth H z = true → Ls a S z = true) ∧ Iy a (nth H)) (fun s hs => by
  obtain ⟨c, H⟩ := s
  obtain ⟨h1, h2, h3, h4⟩ := hs
  simp only at h1 h2 h3 h4
  unfold Dt
  dsimp only
  cases c with
  | true =>
    left
    obtain ⟨⟨c1, H1⟩, e1, hq⟩ := Aw3 h h1 h3
    rw [if_pos rfl, e1]
    refine ⟨_, rfl, ⟨hq.len, fun z hz => hq.more z (h2 z hz), hq.low, fun hc => (hq.no hc).2.2⟩, ?_⟩
    have l1 := Apw H1
    rw [hq.len] at l1
    cases c1 with
    | true =>
      rcases hq.up rfl with h5 | h5
      ·cases h5
      ·simp only at h5 ⊢; simp; omega
    | false =>
      have := (hq.no rfl).2.1
      simp only at this
      subst this
      simp
  | false =>
    right
    rw [if_neg (by simp)]
    exact ⟨_, rfl, h1, h2, h3, h4 rfl⟩) (s := (true, Iu n S)) ⟨hb, fun z hz => (hin z).2 hz, fun z hz => Nw z ((hin z).1 hz), fun hc => by cases hc⟩
 rw [e]
 simp only [Option.bind_some]
 refine congrArg some (Sz (by rw [h1, Mp]) fun z hz => ?_)
 rw [h1] at hz
 rw [Iz hz]
 cases hh : Ls a S z with
 | true => exact Sb h2 h4 z hh
 | false =>
   cases h5 : nth H z with
   | false => rfl
   | true => rw [h3 z h5] at hh; cases hh
theorem Ae1 {n : Nat} (h : ReadyA a n) {xs : List Int} (hx : Bc xs n) (hl : xs.length ≤ LIM) : Bm a xs = some (Aj n (Ls a fun z => decide ((z : Int) ∈ xs))) := by
 have hL := Av
 have h8 := h.le
 unfold Bm
 rw [h.sz, Ao8 (by omega) hx hl]
 simp only [Option.bind_some]
 rw [Akj h _ (fun z hz => by have := hx _ (of_decide_eq_true hz); omega)]
 simp only [Option.bind_some]
 rw [Al4 (by omega)]; rfl
theorem Au6 {n : Nat} (G : Nat → Bool) {xs : List Int} (hx : Bc xs n) (hr : Gg xs) (hG : ∀ z : Nat, (z : Int) ∈ xs → G z = true) : (Aj n G).length = xs.length ↔ Aj n G = xs := by
 constructor
 ·intro hl
  have e := Lk hx hr
  rw [← e] at hl
  refine Eq.trans (Fm fun z hz => ?_) e
  cases h1 : G z with
  | false =>
    cases h2 : decide ((z : Int) ∈ xs) with
    | false => rfl
    | true => rw [hG z (of_decide_eq_true h2)] at h1; cases h1
  | true =>
    cases h2 : decide ((z : Int) ∈ xs) with
    | true => rfl
    | false =>
      have := Alm (q := fun z => decide ((z : Int) ∈ xs)) h2 h1 n hz fun i _ hi => hG i (of_decide_eq_true hi)
      rw [e] at this
      rw [e] at hl
      omega
 ·intro h1; rw [h1]
def B1 (a : SAlgebra) (n : Nat) (xs : List Int) : Prop := Bc xs n ∧ Gg xs ∧ Aj n (Ls a fun z => decide ((z : Int) ∈ xs)) = xs
theorem Avj {n : Nat} (h : ReadyA a n) {xs : List Int} (hl : xs.length ≤ LIM) : J5 a xs = some (decide (B1 a n xs)) := by
 unfold J5
 rw [h.sz, Aes _ _ hl]
 simp only [Option.bind_some]
 by_cases hx : Bc xs n
 ·rw [decide_eq_true hx, if_pos rfl, Avr _ hl]
  simp only [Option.bind_some]
  by_cases hr : Gg xs
  ·rw [decide_eq_true hr, if_pos rfl, Ae1 h hx hl]
   simp only [Option.bind_some]
   congr 1
   rw [Bool.eq_iff_iff, beq_iff_eq, decide_eq_true_eq]
   have := Au6 (Ls a fun z => decide ((z : Int) ∈ xs)) hx hr fun z hz => Nw z (decide_eq_true hz)
   constructor
   ·intro e; exact ⟨hx, hr, this.1 (by omega)⟩
   ·intro e; have := this.2 e.2.2; omega
  ·rw [decide_eq_false hr, if_neg (by simp), decide_eq_false (fun hc => hr hc.2.1)]
 ·rw [decide_eq_false hx, if_neg (by simp), decide_eq_false (fun hc => hx hc.1)]
theorem Axm {n : Nat} {H : List Bool} (hH : H.length = n) {x6 x7 : Int} {o : List Bool} {xs : List Int} (hx : Bc xs n) (hl : xs.length ≤ 3) :
  Am (Dp a H x6 x7 o xs) (0, true) = some (decide (∀ x ∈ xs, nth H x.toNat = true)) := by
 have key := Cy (body := Dp a H x6 x7 o xs) (fun i => ((i : Int), decide (∀ x ∈ xs.take i, nth H x.toNat = true))) xs.length (decide (∀ x ∈ xs, nth H x.toNat = true)) (fun i hi => by
  have hc := hx _ (Bb hi)
  have ht := N8 hi
  unfold Dp
  dsimp only
  rw [if_pos (by omega)]
  by_cases hb : ∀ x ∈ xs.take i, nth H x.toNat = true
  ·rw [decide_eq_true hb, if_pos rfl, Ae (by omega), Int.toNat_natCast, Ae (by rw [hH]; omega), Ae (by unfold InI; omega)]
   congr 3
   rw [ht, Bool.eq_iff_iff, decide_eq_true_eq]
   constructor
   ·intro h1 x hm
    rcases List.mem_append.1 hm with hm | hm
    ·exact hb x hm
    ·rw [List.mem_singleton.1 hm]; exact h1
   ·intro h1; exact h1 _ (by simp)
  ·rw [decide_eq_false hb, if_neg (by simp), Ae (by unfold InI; omega)]
   congr 3
   refine (decide_eq_false fun h1 => hb fun x hm => h1 x ?_).symm
   rw [ht]; exact List.mem_append_left _ hm) (by
  unfold Dp
  dsimp only
  rw [if_neg (by omega), List.take_length])
 simpa using key
theorem Axc {n : Nat} (h : ReadyA a n) {H : List Bool} (hH : H.length = n) {i : Nat} (hi : i < a.Ops.length) {H0 : List Bool} (hl : H0.length = n) :
  ∃ K, Am (Eo a H (i : Int)) (0, H0) = some K ∧ K.length = n ∧ ∀ z, nth K z = true ↔ nth H0 z = true ∨ ∃ k, k < (nth a.Ops i).Table.length ∧ Uu a i k (nth H) ∧ z = V8 a i k := by
 obtain ⟨r, hr, hr3, _, htab, h512, hargs⟩ := h.op hi
 refine Fh (body := Eo a H (i : Int)) (fun s => ∃ k : Nat, s.1 = (k : Int) ∧ k ≤ (nth a.Ops i).Table.length ∧ s.2.length = n ∧ ∀ z, nth s.2 z = true ↔ nth H0 z = true ∨ ∃ j, j < k ∧ Uu a i j (nth H) ∧ z = V8 a i j)
  (fun s => (nth a.Ops i).Table.length - s.1.toNat) _ (fun s hs => ?_) ⟨0, rfl, Nat.zero_le _, hl, fun z => ⟨.inl, fun hz => hz.resolve_right (by rintro ⟨j, hj, _⟩; omega)⟩⟩
 obtain ⟨x, K⟩ := s
 obtain ⟨k, hk, hkl, h1, h2⟩ := hs
 simp only at hk hkl h1 h2
 subst hk
 unfold Eo
 dsimp only
 rw [Ae (by omega), Int.toNat_natCast]
 by_cases hlt : k < (nth a.Ops i).Table.length
 ·left
  obtain ⟨ev, hv⟩ := h.val hi hlt
  have hal := Ad6 n r k
  rw [if_pos (by omega), Ae (by omega), hr, h.sz, Atd h.pos h.le hr3 (by omega)]
  simp only [Option.bind_some]
  rw [Axm hH (Apo h.pos r k) (by omega)]
  simp only [Option.bind_some]
  by_cases ha : Lp n r k (nth H)
  ·rw [decide_eq_true (show ∀ x ∈ Vm n r k, nth H x.toNat = true from ha), if_pos rfl, Ae (by omega), Ae (by omega), Int.toNat_natCast, ev, Ae (by rw [h1]; omega), Int.toNat_natCast, Ae (by unfold InI; omega)]
   have hvl : V8 a i k < K.length := by rw [h1]; exact hv
   refine ⟨_, rfl, ⟨k + 1, rfl, hlt, by rw [List.length_set]; exact h1, fun z => ?_⟩, by simp only; omega⟩
   rw [Adw hvl, h2]
   constructor
   ·rintro (rfl | hz | ⟨j, hj, hb, e⟩)
    ·exact .inr ⟨k, by omega, (hargs _ _).2 ha, rfl⟩
    ·exact .inl hz
    ·exact .inr ⟨j, by omega, hb, e⟩
   ·rintro (hz | ⟨j, hj, hb, e⟩)
    ·exact .inr (.inl hz)
    ·by_cases ej : j = k
     ·subst ej; exact .inl e
     ·exact .inr (.inr ⟨j, by omega, hb, e⟩)
  ·rw [decide_eq_false (show ¬ ∀ x ∈ Vm n r k, nth H x.toNat = true from ha), if_neg (by simp), Ae (by unfold InI; omega)]
   refine ⟨_, rfl, ⟨k + 1, rfl, hlt, h1, fun z => ?_⟩, by simp only; omega⟩
   simp only
   rw [h2]
   constructor
   ·rintro (hz | ⟨j, hj, hb, e⟩)
    ·exact .inl hz
    ·exact .inr ⟨j, by omega, hb, e⟩
   ·rintro (hz | ⟨j, hj, hb, e⟩)
    ·exact .inl hz
    ·by_cases ej : j = k
     ·subst ej; exact absurd ((hargs _ _).1 hb) ha
     ·exact .inr ⟨j, by omega, hb, e⟩
 ·right
  rw [if_neg (by omega)]
  have e : k = (nth a.Ops i).Table.length := by omega
  subst e
  exact ⟨_, rfl, h1, h2⟩
theorem Atr {n : Nat} (h : ReadyA a n) {H : List Bool} (hH : H.length = n) :
  ∃ K, Is a H = some K ∧ K.length = n ∧ ∀ z, nth K z = true ↔ nth H z = true ∨ ∃ i k, i < a.Ops.length ∧ k < (nth a.Ops i).Table.length ∧ Uu a i k (nth H) ∧ z = V8 a i k := by
 have hL := Av
 have h4 := h.good.2.2.1
 have h8 := h.le
 unfold Is
 rw [Ae (by simp only [List.length_nil]; omega)]
 obtain ⟨K, e, h1, h2⟩ := Fh (body := Fy a H) (fun s => ∃ i : Nat, s.1 = (i : Int) ∧ i ≤ a.Ops.length ∧ s.2.length = n ∧ ∀ z, nth s.2 z = true ↔ nth H z = true ∨ ∃ j k, j < i ∧ k < (nth a.Ops j).Table.length ∧ Uu a j k (nth H) ∧ z = V8 a j k)
  (fun s => a.Ops.length - s.1.toNat) (fun K => K.length = n ∧ ∀ z, nth K z = true ↔ nth H z = true ∨ ∃ i k, i < a.Ops.length ∧ k < (nth a.Ops i).Table.length ∧ Uu a i k (nth H) ∧ z = V8 a i k) (fun s hs => by
  obtain ⟨x, K⟩ := s
  obtain ⟨i, hi, hil, h1, h2⟩ := hs
  simp only at hi hil h1 h2
  subst hi
  unfold Fy
  dsimp only
  by_cases hlt : i < a.Ops.length
  ·left
   obtain ⟨K1, e1, h3, h5⟩ := Axc h hH hlt h1
   rw [if_pos (by omega), e1]
   simp only [Option.bind_some]
   rw [Ae (by unfold InI; omega)]
   refine ⟨_, rfl, ⟨i + 1, rfl, hlt, h3, fun z => ?_⟩, by simp only; omega⟩
   simp only
   rw [h5, h2]
   constructor
   ·rintro ((hz | ⟨j, k, a1, a2, a3, a4⟩) | ⟨k, a2, a3, a4⟩)
    ·exact .inl hz
    ·exact .inr ⟨j, k, by omega, a2, a3, a4⟩
    ·exact .inr ⟨i, k, by omega, a2, a3, a4⟩
   ·rintro (hz | ⟨j, k, a1, a2, a3, a4⟩)
    ·exact .inl (.inl hz)
    ·by_cases ej : j = i
     ·subst ej; exact .inr ⟨k, a2, a3, a4⟩
     ·exact .inl (.inr ⟨j, k, by omega, a2, a3, a4⟩)
  ·right
   rw [if_neg (by omega)]
   have e : i = a.Ops.length := by omega
   subst e
   exact ⟨_, rfl, h1, h2⟩) (s := ((0 : Int), A5 Bool ++ H)) ⟨0, rfl, Nat.zero_le _, hH, fun z => ⟨.inl, fun hz => hz.resolve_right (by rintro ⟨j, _, hj, _⟩; omega)⟩⟩
 rw [e]
 exact ⟨K, rfl, h1, h2⟩
theorem Awr {n : Nat} (hn : n ≤ LIM) {xs : List Int} (hx : Bc xs n) (hl : xs.length ≤ LIM) : Mg n xs = some (Iu n fun z => decide ((z : Int) ∈ xs)) := by
 have : Mg (n : Int) xs = H2 xs (n : Int) := rfl
 rw [this, Ao8 hn hx hl]
theorem Aqr {n : Nat} (hn : n ≤ LIM) (S : Nat → Bool) : Im (Iu n S) = some (Aj n S) := by
 have : Im (Iu n S) = G4 (Iu n S) := rfl
 rw [this, Al4 hn]
theorem Ail {n : Nat} (h : ReadyA a n) {xs : List Int} (hx : Bc xs n) (hl : xs.length ≤ LIM) : C3 a xs = some (Aj n (Ls a fun z => decide ((z : Int) ∈ xs))) := by
 have hL := Av
 have h8 := h.le
 generalize hS : (fun z : Nat => decide ((z : Int) ∈ xs)) = S
 have hSn : ∀ z, S z = true → z < n := fun z hz => by
  subst hS
  have := hx _ (of_decide_eq_true hz); omega
 have hb := Mp n S
 have hin : ∀ z, nth (Iu n S) z = true ↔ S z = true := fun z => by
  constructor
  ·intro hz
   have hl := Apm hz
   rw [hb] at hl
   rwa [Iz hl] at hz
  ·intro hz; rw [Iz (hSn z hz)]; exact hz
 unfold C3
 rw [h.sz, Awr (by omega) hx hl, hS]
 simp only [Option.bind_some]
 obtain ⟨H, e, h1, h2, h3, h4⟩ := Fh (body := Fk a) (fun s => ∃ j : Nat, s.1 = (j : Int) ∧ j ≤ n + 1 ∧ s.2.length = n ∧ (∀ z, S z = true → nth s.2 z = true) ∧ (∀ z, nth s.2 z = true → Ls a S z = true) ∧ (Iy a (nth s.2) ∨ j ≤ Xi s.2))
  (fun s => (n + 1) - s.1.toNat) (fun H => H.length = n ∧ (∀ z, S z = true → nth H z = true) ∧ (∀ z, nth H z = true → Ls a S z = true) ∧ Iy a (nth H)) (fun s hs => by
  obtain ⟨x, H⟩ := s
  obtain ⟨j, hj, hjn, h1, h2, h3, h4⟩ := hs
  simp only at hj hjn h1 h2 h3 h4
  subst hj
  unfold Fk
  dsimp only
  rw [h.sz]
  have hcl := Apw H
  by_cases hlt : j ≤ n
  ·left
   obtain ⟨K, eK, k1, k2⟩ := Atr h h1
   rw [if_pos (by omega), eK]
   simp only [Option.bind_some]
   rw [Ae (by unfold InI; omega)]
   have hmore : ∀ z, nth H z = true → nth K z = true := fun z hz => (k2 z).2 (.inl hz)
   refine ⟨_, rfl, ⟨j + 1, rfl, by omega, k1, fun z hz => hmore z (h2 z hz), fun z hz => ?_, ?_⟩, by simp only; omega⟩
   ·rcases (k2 z).1 hz with hz | ⟨i, k, a1, a2, a3, a4⟩
    ·exact h3 z hz
    ·rw [a4]; exact Ph i a1 k a2 (Po h3 a3)
   ·simp only
    obtain ⟨m1, m2⟩ := Aq7 (h1.trans k1.symm) hmore
    by_cases hc : Iy a (nth H)
    ·left
     have : H = K := by
      refine Sz (h1.trans k1.symm) fun z hz => ?_
      rw [Bool.eq_iff_iff, k2]
      constructor
      ·exact .inl
      ·rintro (hz | ⟨i, k, a1, a2, a3, a4⟩)
       ·exact hz
       ·rw [a4]; exact hc i a1 k a2 a3
     rw [← this]; exact hc
    ·right
     have hj := h4.resolve_left hc
     apply Classical.byContradiction
     intro hno
     have e := m2 (by omega)
     refine hc fun i a1 k a2 a3 => ?_
     rw [e]
     exact (k2 _).2 (.inr ⟨i, k, a1, a2, a3, rfl⟩)
  ·right
   rw [if_neg (by omega)]
   exact ⟨_, rfl, h1, h2, h3, h4.resolve_right (by omega)⟩) (s := ((0 : Int), Iu n S)) ⟨0, rfl, by omega, hb, fun z hz => (hin z).2 hz, fun z hz => Nw z ((hin z).1 hz), .inr (Nat.zero_le _)⟩
 rw [e]
 simp only [Option.bind_some]
 have eH : H = Iu n (Ls a S) := by
  refine Sz (by rw [h1, Mp]) fun z hz => ?_
  rw [h1] at hz
  rw [Iz hz]
  cases hh : Ls a S z with
  | true => exact Sb h2 h4 z hh
  | false =>
    cases h5 : nth H z with
    | false => rfl
    | true => rw [h3 z h5] at hh; cases hh
 rw [eH, Aqr (by omega)]; rfl
theorem Av5 {n : Nat} (h : ReadyA a n) {xs : List Int} (hl : xs.length ≤ LIM) : Ma a xs = some (decide (B1 a n xs)) := by
 have hL := Av
 have h8 := h.le
 unfold Ma
 rw [h.sz, Ae (by unfold InI; omega), Aot _ _ _ hl]
 simp only [Option.bind_some]
 by_cases hr : Aks xs 0 (n - 1)
 ·obtain ⟨h3, h4⟩ := (Ae6 xs n).1 hr
  rw [decide_eq_true hr, if_pos rfl, Ail h h4 hl]
  simp only [Option.bind_some]
  have hsl := Dk n (Ls a fun z => decide ((z : Int) ∈ xs))
  rw [Atz (by omega)]
  simp only [Option.bind_some]
  congr 1
  rw [decide_eq_decide]
  exact ⟨fun hc => ⟨h4, h3, hc⟩, fun hc => hc.2.2⟩
 ·rw [decide_eq_false hr, if_neg (by simp), decide_eq_false]
  rintro ⟨h4, h3, _⟩
  exact hr ((Ae6 xs n).2 ⟨h3, h4⟩)
theorem Xp {n : Nat} (h : ReadyA a n) {xs : List Int} : B1 a n xs ↔ Bc xs n ∧ Gg xs ∧ Iy a fun z => decide ((z : Int) ∈ xs) := by
 constructor
 ·rintro ⟨h1, h2, h3⟩
  refine ⟨h1, h2, fun i hi k hk ha => ?_⟩
  have hv := (h.val hi hk).2
  have h4 : Ls a (fun z => decide ((z : Int) ∈ xs)) (V8 a i k) = true := Ph i hi k hk (Po (fun z hz => Nw z hz) ha)
  have h5 : ((V8 a i k : Nat) : Int) ∈ Aj n (Ls a fun z => decide ((z : Int) ∈ xs)) := Fx.2 ⟨_, hv, h4, rfl⟩
  rw [h3] at h5
  exact decide_eq_true h5
 ·rintro ⟨h1, h2, h3⟩
  exact ⟨h1, h2, by rw [Aqn h3]; exact Lk h1 h2⟩
end
end Go.Proofs.Ytidaaijecmkndaa.Ax
namespace Go.Proofs.Ytidaaijecmkndaa.Ax
open Go Classical
theorem Ai3 (a : List Int) : ¬ Xg a a := fun ⟨i, _, _, h⟩ => by omega
theorem Amx {a b c : List Int} (hab : a.length = b.length) (h1 : Xg a b) (h2 : Xg b c) : Xg a c := by
 obtain ⟨i, hi, e1, l1⟩ := h1
 obtain ⟨k, hk, e2, l2⟩ := h2
 rcases Nat.lt_trichotomy i k with h | h | h
 ·exact ⟨i, hi, fun j hj => (e1 j hj).trans (e2 j (by omega)), by rw [← e2 i h]; exact l1⟩
 ·subst h; exact ⟨i, hi, fun j hj => (e1 j hj).trans (e2 j hj), by omega⟩
 ·exact ⟨k, by omega, fun j hj => (e1 j (by omega)).trans (e2 j hj), by rw [e1 k h]; exact l2⟩
theorem Aqg {a b : List Int} (hab : a.length = b.length) : Xg a b ∨ a = b ∨ Xg b a := by
 by_cases h : ∃ i, i < a.length ∧ nth a i ≠ nth b i
 ·obtain ⟨i, ⟨hi, hne⟩, hmin⟩ : ∃ i, (i < a.length ∧ nth a i ≠ nth b i) ∧ ∀ j, j < i → ¬ (j < a.length ∧ nth a j ≠ nth b j) := by
   obtain ⟨k, hk⟩ := h
   induction k using Nat.strongRecOn with
   | ind k ih =>
     by_cases hx : ∃ j, j < k ∧ (j < a.length ∧ nth a j ≠ nth b j)
     ·obtain ⟨j, h1, h2⟩ := hx; exact ih j h1 h2
     ·exact ⟨k, hk, fun j hj hc => hx ⟨j, hj, hc⟩⟩
  have heq : ∀ j, j < i → nth a j = nth b j := fun j hj => Classical.byContradiction fun hc => hmin j hj ⟨by omega, hc⟩
  by_cases hl : nth a i < nth b i
  ·exact .inl ⟨i, hi, heq, hl⟩
  ·exact .inr (.inr ⟨i, by omega, fun j hj => (heq j hj).symm, by omega⟩)
 ·exact .inr (.inl (Sz hab fun i hi => Classical.byContradiction fun hc => h ⟨i, hi, hc⟩))
def tLt (a b : List Int) : Prop := a.length < b.length ∨ (a.length = b.length ∧ Xg a b)
theorem Oz (a : List Int) : ¬ tLt a a := fun h => h.elim (fun h => by omega) fun h => Ai3 a h.2
theorem N1 {a b c : List Int} (h1 : tLt a b) (h2 : tLt b c) : tLt a c := by
 rcases h1 with h1 | ⟨e1, l1⟩
 ·rcases h2 with h2 | ⟨e2, _⟩
  ·exact .inl (by omega)
  ·exact .inl (by omega)
 ·rcases h2 with h2 | ⟨e2, l2⟩
  ·exact .inl (by omega)
  ·exact .inr ⟨by omega, Amx e1 l1 l2⟩
theorem Wh (a b : List Int) : tLt a b ∨ a = b ∨ tLt b a := by
 rcases Nat.lt_trichotomy a.length b.length with h | h | h
 ·exact .inl (.inl h)
 ·rcases Aqg h with h1 | h1 | h1
  ·exact .inl (.inr ⟨h, h1⟩)
  ·exact .inr (.inl h1)
  ·exact .inr (.inr (.inr ⟨h.symm, h1⟩))
 ·exact .inr (.inr (.inl h))
noncomputable def ltT (a b : List Int) : Bool := decide (tLt a b)
theorem Ah6 : Go.Sort.SWO ltT where
 irrefl x := decide_eq_false (Oz x)
 trans x y z h1 h2 := decide_eq_true (N1 (of_decide_eq_true h1) (of_decide_eq_true h2))
 ntrans x y z h1 h2 := by
  have h1 := of_decide_eq_false h1
  have h2 := of_decide_eq_false h2
  refine decide_eq_false fun h => ?_
  rcases Wh x y with c | c | c
  ·exact h1 c
  ·subst c; exact h2 h
  ·rcases Wh y z with c2 | c2 | c2
   ·exact h2 c2
   ·subst c2; exact h1 h
   ·exact Oz _ (N1 (N1 h c2) c)
theorem Avx (x y : List Int) (h1 : ltT x y = false) (h2 : ltT y x = false) : x = y := by
 rcases Wh x y with c | c | c
 ·exact absurd c (of_decide_eq_false h1)
 ·exact c
 ·exact absurd c (of_decide_eq_false h2)
def Rn (xs : List (List Int)) : Prop := xs.Pairwise fun a b => ¬ tLt b a
theorem Arv {xs ys : List (List Int)} (h1 : Rn xs) (h2 : Rn ys) (hp : xs.Perm ys) : xs = ys :=
 List.Perm.eq_of_pairwise (fun a b _ _ h1 h2 => by
  rcases Wh a b with c | c | c
  ·exact absurd c h2
  ·exact c
  ·exact absurd c h1) h1 h2 hp
theorem Aek {a b : List Int} (h : a.length ≤ LIM) (_h2 : b.length ≤ LIM) : ∃ c, Cf a b = some c ∧ (c < 0 ↔ tLt a b) := by
 unfold Cf
 by_cases h3 : (a.length : Int) < (b.length : Int)
 ·rw [if_pos h3]
  exact ⟨_, rfl, fun _ => .inl (by omega), fun _ => by omega⟩
 ·rw [if_neg h3]
  by_cases h4 : (a.length : Int) > (b.length : Int)
  ·rw [if_pos h4]
   exact ⟨_, rfl, fun h => by omega, fun h => by rcases h with h | ⟨h, _⟩ <;> omega⟩
  ·rw [if_neg h4]
   obtain ⟨c, e, hc⟩ := Aff (a := a) (b := b) (by omega) h
   rw [e]
   refine ⟨c, rfl, ?_⟩
   constructor
   ·intro h5; exact .inr ⟨by omega, hc.1 (by omega)⟩
   ·rintro (h5 | ⟨_, h5⟩)
    ·omega
    ·have := hc.2 h5; omega
theorem Ab2 {xss ys : List (List Int)} (hn : xss.length ≤ 1048576) (h1 : ∀ r ∈ xss, r.length ≤ LIM) (hp : ys.Perm xss) (hs : Rn ys) : D5 xss (fun a b => Cf a b) = some ((), ys) := by
 refine Alc ltT Ah6 Avx hn (fun x hx y hy => ?_) hp ?_
 ·obtain ⟨c, e, hc⟩ := Aek (h1 x hx) (h1 y hy)
  exact ⟨c, e, decide_eq_decide.2 hc.symm⟩
 ·exact hs.imp fun h => decide_eq_false h
def E0 (S : Nat → Bool) : Nat → Nat
 | 0 => 0
 | n + 1 => if S n then 2 ^ n + E0 S n else E0 S n
theorem G3 (S : Nat → Bool) : ∀ n, E0 S n < 2 ^ n
 | 0 => by simp [E0]
 | n + 1 => by
   have := G3 S n
   simp only [E0, Nat.pow_succ]
   split <;> omega
theorem Gr (S : Nat → Bool) : ∀ n i, i < n → A7 (E0 S n) i = S i
 | 0, _, h => by omega
 | n + 1, i, h => by
   have hl := G3 S n
   rw [Ru]
   simp only [E0]
   by_cases e : i = n
   ·subst e
    cases hS : S i with
    | true => rw [if_pos rfl, Nat.testBit_two_pow_add_eq, Nat.testBit_lt_two_pow hl]; rfl
    | false => rw [if_neg (by simp), Nat.testBit_lt_two_pow hl]
   ·have ih := Gr S n i (by omega)
    rw [Ru] at ih
    cases hS : S n with
    | true => rw [if_pos rfl, Nat.testBit_two_pow_add_gt (by omega), ih]
    | false => rw [if_neg (by simp), ih]
def E6 (n : Nat) (P : Nat → Bool) (m : Nat) : List (List Int) := ((List.range m).filter P).map fun k => Aj n (A7 k)
theorem Ol (n : Nat) (P : Nat → Bool) (m : Nat) : E6 n P (m + 1) = if P m then E6 n P m ++ [Aj n (A7 m)] else E6 n P m := by
 unfold E6
 rw [List.range_succ, List.filter_append]
 cases h : P m <;> simp [h]
theorem N0 (n : Nat) (P : Nat → Bool) (m : Nat) : (E6 n P m).length ≤ m := by
 unfold E6
 rw [List.length_map]
 exact Nat.le_trans (List.length_filter_le _ _) (by simp)
theorem La {n : Nat} {P : Nat → Bool} {m : Nat} {r : List Int} (h : r ∈ E6 n P m) : ∃ k, k < m ∧ P k = true ∧ r = Aj n (A7 k) := by
 unfold E6 at h
 obtain ⟨k, h1, rfl⟩ := List.mem_map.1 h
 obtain ⟨h2, h3⟩ := List.mem_filter.1 h1
 exact ⟨k, List.mem_range.1 h2, h3, rfl⟩
theorem Wg {n : Nat} {P : Nat → Bool} {m k : Nat} (hk : k < m) (h : P k = true) : Aj n (A7 k) ∈ E6 n P m :=
 List.mem_map.2 ⟨k, List.mem_filter.2 ⟨List.mem_range.2 hk, h⟩, rfl⟩
theorem Alz {n m m' : Nat} (hm : m < 2 ^ n) (hm' : m' < 2 ^ n) (h : Aj n (A7 m) = Aj n (A7 m')) : m = m' := by
 refine Nat.eq_of_testBit_eq fun i => ?_
 by_cases hi : i < n
 ·have key : ((i : Int) ∈ Aj n (A7 m)) ↔ ((i : Int) ∈ Aj n (A7 m')) := by rw [h]
  rw [Fx, Fx] at key
  have k1 : (∃ j : Nat, j < n ∧ A7 m j = true ∧ (i : Int) = j) ↔ A7 m i = true := ⟨fun ⟨j, _, h2, e⟩ => by
   have : i = j := by omega
   subst this; exact h2, fun h2 => ⟨i, hi, h2, rfl⟩⟩
  have k2 : (∃ j : Nat, j < n ∧ A7 m' j = true ∧ (i : Int) = j) ↔ A7 m' i = true := ⟨fun ⟨j, _, h2, e⟩ => by
   have : i = j := by omega
   subst this; exact h2, fun h2 => ⟨i, hi, h2, rfl⟩⟩
  rw [k1, k2, Ru, Ru] at key
  exact Bool.eq_iff_iff.2 key
 ·have hp : 2 ^ n ≤ 2 ^ i := Nat.pow_le_pow_right (by omega) (by omega)
  rw [Nat.testBit_lt_two_pow (by omega), Nat.testBit_lt_two_pow (by omega)]
theorem Amk (n : Nat) (P : Nat → Bool) : (E6 n P (2 ^ n)).Nodup := by
 unfold E6
 rw [List.Nodup, List.pairwise_map]
 refine List.Pairwise.imp_of_mem ?_ (List.nodup_range.filter P)
 intro a b ha hb hne e
 exact hne (Alz (List.mem_range.1 (List.mem_filter.1 ha).1) (List.mem_range.1 (List.mem_filter.1 hb).1) e)
noncomputable def Nt (xss : List (List Int)) : List (List Int) := xss.mergeSort fun x y => !ltT y x
theorem Eg (xss : List (List Int)) : (Nt xss).Perm xss := List.mergeSort_perm _ _
theorem Mq (xss : List (List Int)) : Rn (Nt xss) := (Mm.sorted Ah6 xss).imp fun h => of_decide_eq_false h
theorem Anp {xss ys : List (List Int)} (hs : Rn ys) (hp : ys.Perm xss) : ys = Nt xss := Arv hs (Mq xss) (hp.trans (Eg xss).symm)
theorem Ass {xss : List (List Int)} {l : List Int} (hs : Rn xss) (hn : xss.length ≤ 1048576) (_h1 : ∀ r ∈ xss, r.length ≤ LIM) (hl : l.length ≤ LIM) : ∃ ys, In xss l = some ys ∧ Rn ys ∧ ys.Perm (l :: xss) := by
 have hL := Av
 unfold In
 obtain ⟨k, e, m, rfl, hk, hhi, hlo⟩ := Fh (body := Gh xss l) (fun k => ∃ n : Nat, k = (n : Int) ∧ n ≤ xss.length ∧ ∀ i, n ≤ i → i < xss.length → tLt l (nth xss i)) (fun k => k.toNat)
  (fun k => ∃ n : Nat, k = (n : Int) ∧ n ≤ xss.length ∧ (∀ i, n ≤ i → i < xss.length → tLt l (nth xss i)) ∧ (n = 0 ∨ ¬ tLt l (nth xss (n - 1)))) (fun k hk => by
  obtain ⟨n, rfl, hn1, hn2⟩ := hk
  have go : n ≠ 0 → tLt l (nth xss (n - 1)) → ∃ m : Nat, ((n : Int) - 1) = (m : Int) ∧ m ≤ xss.length ∧ ∀ i, m ≤ i → i < xss.length → tLt l (nth xss i) := fun h0 ht =>
   ⟨n - 1, by omega, by omega, fun i hi hi2 => by
    by_cases e : i = n - 1
    ·rw [e]; exact ht
    ·exact hn2 i (by omega) hi2⟩
  unfold Gh
  by_cases h0 : n = 0
  ·subst h0
   right
   rw [if_neg (by omega)]
   exact ⟨_, rfl, 0, rfl, by omega, hn2, .inl rfl⟩
  ·have et : ((n : Int) - 1).toNat = n - 1 := by omega
   rw [if_pos (by omega), Ae (by unfold InI; omega), Ae (by omega), et]
   by_cases c1 : (l.length : Int) < ((nth xss (n - 1)).length : Int)
   ·left
    rw [if_pos c1, Ae (by unfold InI; omega)]
    exact ⟨_, rfl, go h0 (.inl (by omega)), by omega⟩
   ·rw [if_neg c1, Ae (by unfold InI; omega), Ae (by omega)]
    by_cases c2 : (l.length : Int) = ((nth xss (n - 1)).length : Int)
    ·rw [if_pos c2, Ae (by unfold InI; omega), Ae (by omega), Amb (by omega) hl]
     simp only [Option.bind_some]
     by_cases c3 : Xg l (nth xss (n - 1))
     ·left
      rw [decide_eq_true c3, if_pos rfl, Ae (by unfold InI; omega)]
      exact ⟨_, rfl, go h0 (.inr ⟨by omega, c3⟩), by omega⟩
     ·right
      rw [decide_eq_false c3, if_neg (by simp)]
      exact ⟨_, rfl, n, rfl, hn1, hn2, .inr fun h => by rcases h with h | ⟨_, h⟩; omega; exact c3 h⟩
    ·right
     rw [if_neg c2]
     exact ⟨_, rfl, n, rfl, hn1, hn2, .inr fun h => by rcases h with h | ⟨h, _⟩ <;> omega⟩) (s := (xss.length : Int)) ⟨_, rfl, Nat.le_refl _, fun i hi hi2 => by omega⟩
 rw [e]
 simp only [Option.bind_some]
 have e0 : Int.toNat 0 = 0 := rfl
 rw [Ae (by omega), Ae (by simp [A5]; omega), Ae (by simp [A5]; omega), Ae (by omega), Ae (by simp [A5]; omega)]
 have ez : A5 (List Int) ++ List.take ((m : Int).toNat - Int.toNat 0) (List.drop (Int.toNat 0) xss) ++ [l] ++ List.take ((xss.length : Int).toNat - (m : Int).toNat) (List.drop (m : Int).toNat xss) = xss.take m ++ l :: xss.drop m := by
  have et : List.take (xss.length - m) (List.drop m xss) = List.drop m xss := List.take_of_length_le (by simp)
  simp [A5, et]
 rw [ez]
 refine ⟨_, rfl, ?_, ?_⟩
 ·have hp : Rn (xss.take m ++ xss.drop m) := by rw [List.take_append_drop]; exact hs
  unfold Rn at hp ⊢
  rw [List.pairwise_append] at hp ⊢
  obtain ⟨p1, p2, p3⟩ := hp
  have hgt : ∀ b ∈ xss.drop m, tLt l b := fun b hb => by
   obtain ⟨i, hi, rfl⟩ := Ed.1 hb
   simp only [List.length_drop] at hi
   have e2 : nth (xss.drop m) i = nth xss (m + i) := by
    rw [Ck (by simpa using hi), Ck (by omega), List.getElem_drop]
   rw [e2]; exact hhi _ (by omega) (by omega)
  refine ⟨p1, List.pairwise_cons.2 ⟨fun b hb h => Oz l (N1 (hgt b hb) h), p2⟩, fun a ha b hb => ?_⟩
  have hal : ¬ tLt l a := by
   intro h
   obtain ⟨i, hi, rfl⟩ := Ed.1 ha
   simp only [List.length_take] at hi
   have e2 : nth (xss.take m) i = nth xss i := by
    rw [Ck (by simp; omega), Ck (by omega), List.getElem_take]
   rw [e2] at h
   rcases hlo with rfl | hlo
   ·omega
   ·by_cases e3 : i = m - 1
    ·rw [e3] at h; exact hlo h
    ·have hpw := List.pairwise_iff_getElem.1 hs i (m - 1) (by omega) (by omega) (by omega)
     rw [← Ck, ← Ck] at hpw
     rcases Wh (nth xss i) (nth xss (m - 1)) with c | c | c
     ·exact hlo (N1 h c)
     ·rw [c] at h; exact hlo h
     ·exact hpw c
  rcases List.mem_cons.1 hb with rfl | hb
  ·exact hal
  ·exact p3 a ha b hb
 ·have := List.perm_middle (a := l) (l₁ := xss.take m) (l₂ := xss.drop m)
  rwa [List.take_append_drop] at this
end Go.Proofs.Ytidaaijecmkndaa.Ax
namespace Go.Proofs.Ytidaaijecmkndaa.Ax
open Go Classical
def He (xs ys : List Int) : Prop := ∀ x ∈ xs, x ∈ ys
theorem Arm {n : Nat} {xs : List Int} (hx : Bc xs n) (hr : Gg xs) : xs = Aj n fun z => decide ((z : Int) ∈ xs) := (Lk hx hr).symm
theorem Ev {n z : Nat} {q : Nat → Bool} : ((z : Int) ∈ Aj n q) ↔ z < n ∧ q z = true := by
 rw [Fx]
 constructor
 ·rintro ⟨i, h1, h2, e⟩
  have : z = i := by omega
  subst this; exact ⟨h1, h2⟩
 ·rintro ⟨h1, h2⟩; exact ⟨z, h1, h2, rfl⟩
theorem Asn {n : Nat} {xs ys : List Int} (hx : Bc xs n) (hr : Gg xs) (hy : Bc ys n) (hs : Gg ys) (h1 : He xs ys) (h2 : He ys xs) : xs = ys := by
 rw [Arm hx hr, Arm hy hs]
 refine Fm fun z _ => ?_
 rw [decide_eq_decide]
 exact ⟨h1 _, h2 _⟩
theorem Afm {n : Nat} {xs ys : List Int} (hx : Bc xs n) (hr : Gg xs) (hy : Bc ys n) (hs : Gg ys) (h1 : He xs ys) : xs.length ≤ ys.length := by
 rw [Arm hx hr, Arm hy hs]
 exact Amj n fun i _ hi => decide_eq_true (h1 _ (of_decide_eq_true hi))
theorem Apc {n : Nat} {xs ys : List Int} (hx : Bc xs n) (hr : Gg xs) (hy : Bc ys n) (hs : Gg ys) (h1 : He xs ys) (hne : xs ≠ ys) : xs.length < ys.length := by
 have : ∃ y ∈ ys, y ∉ xs := Classical.byContradiction fun hc => hne (Asn hx hr hy hs h1 fun y hy => Classical.byContradiction fun h => hc ⟨y, hy, h⟩)
 obtain ⟨y, hy1, hy2⟩ := this
 have hb := hy y hy1
 have key := Alm (q := fun z => decide ((z : Int) ∈ xs)) (q' := fun z => decide ((z : Int) ∈ ys)) (x := y.toNat) (decide_eq_false (by rwa [show ((y.toNat : Nat) : Int) = y by omega])) (decide_eq_true (by rwa [show ((y.toNat : Nat) : Int) = y by omega])) n (by omega) fun i _ hi => decide_eq_true (h1 _ (of_decide_eq_true hi))
 rw [← Arm hx hr, ← Arm hy hs] at key
 exact key
section
variable {a : SAlgebra} {n : Nat}
noncomputable def Gv (a : SAlgebra) (n : Nat) (xs : List Int) : List Int := Aj n (Ls a fun z => decide ((z : Int) ∈ xs))
theorem Zu (xs : List Int) : Bc (Gv a n xs) n := D9 _ _
theorem N5 (xs : List Int) : Gg (Gv a n xs) := Hg _ _
theorem Og (xs : List Int) : (Gv a n xs).length ≤ n := Dk _ _
theorem Nz {xs : List Int} (hx : Bc xs n) : He xs (Gv a n xs) := fun x hm => by
 have := hx x hm
 have e : ((x.toNat : Nat) : Int) = x := by omega
 rw [← e]
 exact Ev.2 ⟨by omega, Nw _ (decide_eq_true (by rw [e]; exact hm))⟩
theorem B1.closed (h : ReadyA a n) {xs : List Int} (hx : B1 a n xs) : Iy a fun z => decide ((z : Int) ∈ xs) := ((Xp h).1 hx).2.2
theorem X8 (h : ReadyA a n) {xs ys : List Int} (hy : B1 a n ys) (hs : He xs ys) : He (Gv a n xs) ys := fun x hm => by
 obtain ⟨z, hz, hg, rfl⟩ := Fx.1 hm
 exact of_decide_eq_true (Sb (T := fun z => decide ((z : Int) ∈ ys)) (fun v hv => decide_eq_true (hs _ (of_decide_eq_true hv))) (hy.closed h) z hg)
theorem Ada (h : ReadyA a n) (xs : List Int) : B1 a n (Gv a n xs) := by
 refine (Xp h).2 ⟨Zu xs, N5 xs, fun i hi k hk ha => ?_⟩
 have hv := (h.val hi hk).2
 exact decide_eq_true (Ev.2 ⟨hv, Ph i hi k hk (Po (fun z hz => (Ev.1 (of_decide_eq_true hz)).2) ha)⟩)
theorem Ah7 {xs : List Int} (hx : B1 a n xs) : Gv a n xs = xs := hx.2.2
theorem K6 {xs : List Int} (hx : B1 a n xs) : xs.length ≤ n := by rw [← hx.2.2]; exact Dk _ _
def whole (n : Nat) : List Int := Aj n fun _ => true
theorem We (n : Nat) : (whole n).length = n := Ahv n
theorem Ar4 {n z : Nat} : ((z : Int) ∈ whole n) ↔ z < n := by
 unfold whole; rw [Ev]; simp
theorem Afo (h : ReadyA a n) : B1 a n (whole n) :=
 (Xp h).2 ⟨D9 _ _, Hg _ _, fun _i hi _k hk _ => decide_eq_true (Ar4.2 (h.val hi hk).2)⟩
theorem Am3 {xs : List Int} (hx : Bc xs n) (hr : Gg xs) (hl : xs.length = n) : xs = whole n := by
 apply Classical.byContradiction
 intro hne
 have := Apc hx hr (D9 n fun _ => true) (Hg n fun _ => true) (fun x hm => by
  have := hx x hm
  have e : ((x.toNat : Nat) : Int) = x := by omega
  rw [← e]
  exact Ev.2 ⟨by omega, rfl⟩) hne
 rw [Ahv] at this
 omega
noncomputable def Ap (a : SAlgebra) (n : Nat) : List (List Int) := Nt (E6 n (fun m => decide (B1 a n (Aj n (A7 m)))) (2 ^ n))
theorem Em (_h : ReadyA a n) {xs : List Int} : xs ∈ Ap a n ↔ B1 a n xs := by
 unfold Ap
 rw [(Eg _).mem_iff]
 constructor
 ·intro hm
  obtain ⟨k, _, hP, rfl⟩ := La hm
  exact of_decide_eq_true hP
 ·intro hx
  have e : Aj n (A7 (E0 (fun z => decide ((z : Int) ∈ xs)) n)) = xs := by
   rw [Fm fun z hz => Gr _ n z hz]
   exact Lk hx.1 hx.2.1
  have := Wg (n := n) (P := fun m => decide (B1 a n (Aj n (A7 m)))) (G3 (fun z => decide ((z : Int) ∈ xs)) n) (decide_eq_true (by rw [e]; exact hx))
  rwa [e] at this
theorem Aik : Rn (Ap a n) := Mq _
theorem Lb : (Ap a n).length ≤ 2 ^ n := by
 unfold Ap
 rw [(Eg _).length_eq]; exact N0 _ _ _
theorem Vq : (Ap a n).Nodup := (Eg _).nodup_iff.2 (Amk _ _)
def Tz (a : SAlgebra) (n : Nat) (xs : List Int) : Prop := B1 a n xs ∧ xs.length < n ∧ ∀ ys, B1 a n ys → ys.length < n → He xs ys → ys = xs
def W4 (a : SAlgebra) (n : Nat) (xs : List Int) : Prop := B1 a n xs ∧ xs ≠ [] ∧ ∀ ys, B1 a n ys → ys ≠ [] → He ys xs → ys = xs
noncomputable def Sv (a : SAlgebra) (n : Nat) : List (List Int) := (Ap a n).filter fun r => decide (Tz a n r)
noncomputable def T8 (a : SAlgebra) (n : Nat) : List (List Int) := (Ap a n).filter fun r => decide (W4 a n r)
theorem Aew (h : ReadyA a n) {xs : List Int} : xs ∈ Sv a n ↔ Tz a n xs := by
 unfold Sv
 rw [List.mem_filter, Em h, decide_eq_true_eq]
 exact ⟨fun h => h.2, fun h => ⟨h.1, h⟩⟩
theorem As2 (h : ReadyA a n) {xs : List Int} : xs ∈ T8 a n ↔ W4 a n xs := by
 unfold T8
 rw [List.mem_filter, Em h, decide_eq_true_eq]
 exact ⟨fun h => h.2, fun h => ⟨h.1, h⟩⟩
theorem Ar6 (xs : List Int) : He xs xs := fun _ h => h
theorem Aoo {xs ys zs : List Int} (h1 : He xs ys) (h2 : He ys zs) : He xs zs := fun x h => h2 x (h1 x h)
theorem Aak {xs ys : List Int} (hx : B1 a n xs) (hy : B1 a n ys) (h : He xs ys) (hne : xs ≠ ys) : xs.length < ys.length := Apc hx.1 hx.2.1 hy.1 hy.2.1 h hne
theorem Aw4 {xs : List Int} (hx : B1 a n xs) (hl : xs.length < n) : ∃ ys, Tz a n ys ∧ He xs ys := by
 have key : ∀ k (xs : List Int), n - xs.length ≤ k → B1 a n xs → xs.length < n → ∃ ys, Tz a n ys ∧ He xs ys := by
  intro k
  induction k with
  | zero => intro xs h1 _ h3; omega
  | succ k ih =>
    intro xs h1 h2 h3
    by_cases hm : Tz a n xs
    ·exact ⟨xs, hm, Ar6 xs⟩
    ·have : ∃ ys, B1 a n ys ∧ ys.length < n ∧ He xs ys ∧ ys ≠ xs := Classical.byContradiction fun hc => hm ⟨h2, h3, fun ys a b c => Classical.byContradiction fun hne => hc ⟨ys, a, b, c, hne⟩⟩
     obtain ⟨ys, g1, g2, g3, g4⟩ := this
     have := Aak h2 g1 g3 (Ne.symm g4)
     obtain ⟨zs, h5, h6⟩ := ih ys (by omega) g1 g2
     exact ⟨zs, h5, Aoo g3 h6⟩
 exact key _ xs (Nat.le_refl _) hx hl
def Qo (a : SAlgebra) (n x : Nat) : Prop := ∀ S : Nat → Bool, (Gv a n (Aj n fun z => S z || decide (z = x))).length = n → (Gv a n (Aj n fun z => S z && !decide (z = x))).length = n
theorem Av1 (h : ReadyA a n) {x : Nat} (hx : x < n) : Qo a n x ↔ ∀ ys, Tz a n ys → (x : Int) ∈ ys := by
 constructor
 ·intro hn ys hm
  apply Classical.byContradiction
  intro hxy
  have hy := hm.1
  have e1 : (Aj n fun z => decide ((z : Int) ∈ ys) && !decide (z = x)) = ys := by
   refine Eq.trans (Fm fun z _ => ?_) (Lk hy.1 hy.2.1)
   by_cases e : z = x
   ·subst e; simp [hxy]
   ·simp [e]
  have sub : He ys (Gv a n (Aj n fun z => decide ((z : Int) ∈ ys) || decide (z = x))) := fun v hv => by
   have hb := hy.1 v hv
   have e : ((v.toNat : Nat) : Int) = v := by omega
   refine Nz (D9 _ _) v ?_
   rw [← e]
   exact Ev.2 ⟨by omega, by rw [e]; simp [hv]⟩
  have hasx : (x : Int) ∈ Gv a n (Aj n fun z => decide ((z : Int) ∈ ys) || decide (z = x)) := Nz (D9 _ _) _ (Ev.2 ⟨hx, by simp⟩)
  have hl : (Gv a n (Aj n fun z => decide ((z : Int) ∈ ys) || decide (z = x))).length = n := by
   apply Classical.byContradiction
   intro hne
   have hle := Og (a := a) (n := n) (Aj n fun z => decide ((z : Int) ∈ ys) || decide (z = x))
   have := hm.2.2 _ (Ada h _) (by omega) sub
   rw [this] at hasx
   exact hxy hasx
  have := hn (fun z => decide ((z : Int) ∈ ys)) hl
  rw [e1, Ah7 hy] at this
  have := hm.2.1
  omega
 ·intro hall S hl
  apply Classical.byContradiction
  intro hne
  have hle := Og (a := a) (n := n) (Aj n fun z => S z && !decide (z = x))
  obtain ⟨ys, hm, hs⟩ := Aw4 (Ada h (Aj n fun z => S z && !decide (z = x))) (by omega)
  have hxy := hall ys hm
  have : He (Gv a n (Aj n fun z => S z || decide (z = x))) ys := X8 h hm.1 fun v hv => by
   obtain ⟨z, hz, hq, rfl⟩ := Fx.1 hv
   by_cases e : z = x
   ·subst e; exact hxy
   ·refine hs _ (Nz (D9 _ _) _ (Ev.2 ⟨hz, ?_⟩))
    simpa [e] using hq
  have h2 := Afm (Zu _) (N5 _) hm.1.1 hm.1.2.1 this
  have := hm.2.1
  omega
theorem Avy (h : ReadyA a n) {xs : List Int} (hm : W4 a n xs) {x : Int} (hx : x ∈ xs) : Gv a n [x] = xs := by
 have hxs : Bc [x] n := fun v hv => by
  rw [List.mem_singleton.1 hv]; exact hm.1.1 x hx
 refine hm.2.2 _ (Ada h _) ?_ (X8 h hm.1 fun v hv => by rw [List.mem_singleton.1 hv]; exact hx)
 intro e
 have : x ∈ Gv a n [x] := Nz hxs x (by simp)
 rw [e] at this; cases this
end
end Go.Proofs.Ytidaaijecmkndaa.Ax
namespace Go.Proofs.Ytidaaijecmkndaa.Ax
open Go Classical
section
variable {a : SAlgebra} {n : Nat}
def Gj (a : SAlgebra) (n : Nat) (xs : List Int) : Prop := (Gv a n xs).length = n
noncomputable def V2 (a : SAlgebra) (n m : Nat) : List (List Int) := E6 n (fun k => decide (Gj a n (Aj n (A7 k)))) m
def Pc (a : SAlgebra) (n : Nat) (xs : List Int) : Prop := xs ∈ V2 a n (2 ^ n) ∧ ∀ ys ∈ V2 a n (2 ^ n), ¬ tLt ys xs
theorem Anl {xs ys : List Int} (h1 : Pc a n xs) (h2 : Pc a n ys) : xs = ys := by
 rcases Wh xs ys with c | c | c
 ·exact absurd c (h2.2 _ h1.1)
 ·exact c
 ·exact absurd c (h1.2 _ h2.1)
theorem Nx {xs : List Int} : xs ∈ V2 a n (2 ^ n) ↔ Bc xs n ∧ Gg xs ∧ Gj a n xs := by
 constructor
 ·intro hm
  obtain ⟨k, _, hP, rfl⟩ := La hm
  exact ⟨D9 _ _, Hg _ _, of_decide_eq_true hP⟩
 ·rintro ⟨h1, h2, h3⟩
  have e : Aj n (A7 (E0 (fun z => decide ((z : Int) ∈ xs)) n)) = xs := by
   rw [Fm fun z hz => Gr _ n z hz]
   exact Lk h1 h2
  have := Wg (n := n) (P := fun k => decide (Gj a n (Aj n (A7 k)))) (G3 (fun z => decide ((z : Int) ∈ xs)) n) (decide_eq_true (by rw [e]; exact h3))
  rwa [e] at this
theorem Ah3 (h : ReadyA a n) : Gj a n (whole n) := by
 unfold Gj
 rw [Ah7 (Afo h), We]
theorem Aos (h : ReadyA a n) {xs : List Int} (hx : Pc a n xs) {i : Nat} (hi : i < xs.length) : nth xs i ∉ Gv a n (xs.take i ++ xs.drop (i + 1)) := by
 intro hm
 obtain ⟨h1, h2, h3⟩ := Nx.1 hx.1
 have hin : Bc (xs.take i ++ xs.drop (i + 1)) n := fun x hx' => by
  rcases List.mem_append.1 hx' with h' | h'
  ·exact h1 x (List.mem_of_mem_take h')
  ·exact h1 x (List.mem_of_mem_drop h')
 have hsub : He xs (Gv a n (xs.take i ++ xs.drop (i + 1))) := fun x hx' => by
  obtain ⟨k, hk, e⟩ := Ed.1 hx'
  by_cases e2 : k = i
  ·subst e2; rw [← e]; exact hm
  ·refine Nz hin x (List.mem_append.2 ?_)
   rcases Nat.lt_or_ge k i with c | c
   ·left
    rw [← e, Ck hk]
    exact List.mem_take_iff_getElem.2 ⟨k, by omega, by simp⟩
   ·right
    rw [← e, Ck hk]
    exact List.mem_drop_iff_getElem.2 ⟨k - (i + 1), by omega, by congr 1; omega⟩
 have hle := Afm (Zu xs) (N5 xs) (Zu (a := a) (xs.take i ++ xs.drop (i + 1))) (N5 _) (X8 h (Ada h _) hsub)
 have hle2 := Og (a := a) (n := n) (xs.take i ++ xs.drop (i + 1))
 have hg : Gj a n (xs.take i ++ xs.drop (i + 1)) := by
  unfold Gj at h3 ⊢
  omega
 have hr : Gg (xs.take i ++ xs.drop (i + 1)) := by
  rw [← List.eraseIdx_eq_take_drop_succ]
  exact Am2.2 ((Am2.1 h2).sublist (List.eraseIdx_sublist xs i))
 have hlt : (xs.take i ++ xs.drop (i + 1)).length < xs.length := by simp; omega
 exact hx.2 _ (Nx.2 ⟨hin, hr, hg⟩) (.inl hlt)
end
end Go.Proofs.Ytidaaijecmkndaa.Ax
namespace Go.Proofs.Ytidaaijecmkndaa.Ax
open Go Classical
theorem Apz {α β : Type} {o : Option α} {k : α → Option β} {Q : α → Prop} {R : β → Prop} (h : ∃ a, o = some a ∧ Q a) (h2 : ∀ a, Q a → ∃ b, k a = some b ∧ R b) : ∃ b, o.bind k = some b ∧ R b := by
 obtain ⟨a, e, hq⟩ := h
 rw [e]; exact h2 a hq
theorem Aw5 {β : Type} {c : Prop} [Decidable c] {x y : Option β} {R : β → Prop} (h1 : c → ∃ b, x = some b ∧ R b) (h2 : ¬ c → ∃ b, y = some b ∧ R b) : ∃ b, (if c then x else y) = some b ∧ R b := by
 split
 ·exact h1 ‹_›
 ·exact h2 ‹_›
def Tx (a : SAlgebra) : Prop := a.Ops.length ≤ 10 ∧ ∀ f ∈ a.Ops, f.Table.length ≤ 101
theorem Alh {a : SAlgebra} (h : Tx a) : I6 a := ⟨by have := h.1; omega, fun f hf => by have := h.2 f hf; omega⟩
theorem Ak3 (s : ByteArray) (hs : s.size ≤ 100) : ∃ f, Au s = some f ∧ f.Table.length ≤ 100 := by
 have hL := Av
 unfold Au
 obtain ⟨f, e, hf⟩ := Fh (body := Er s) (fun t => ∃ j : Nat, t.1 = (j : Int) ∧ j ≤ s.size ∧ t.2.Table.length ≤ j) (fun t => s.size - t.1.toNat) (fun f => f.Table.length ≤ 100) (fun t ht => by
  obtain ⟨x4, x3⟩ := t
  obtain ⟨j, g1, g2, g3⟩ := ht
  simp only at g1 g2 g3
  subst g1
  unfold Er
  dsimp only
  by_cases hj : (j : Int) < (s.size : Int)
  ·left
   rw [if_pos hj, Ae (by omega), Ae (by simp; omega), Ae (by unfold InI; omega)]
   exact ⟨_, rfl, ⟨j + 1, rfl, by omega, by simp; omega⟩, by simp only; omega⟩
  ·right
   rw [if_neg hj]
   exact ⟨_, rfl, by omega⟩) (s := ((0 : Int), ({ Arity := 2, Table := A5 Int } : SOp))) ⟨0, rfl, Nat.zero_le _, by simp [A5]⟩
 rw [e]
 exact ⟨_, rfl, hf⟩
theorem Ak1 {n : Int} (hn : n = 2 ∨ n = 3) : ∃ f, Fg n = some f ∧ f.Table.length ≤ 100 := by
 have hL := Av
 unfold Fg
 obtain ⟨f, e, hf⟩ := Fh (body := E1 n) (fun t => ∃ j : Nat, t.1 = (j : Int) ∧ j ≤ 27 ∧ t.2.Table.length ≤ j) (fun t => 27 - t.1.toNat) (fun f => f.Table.length ≤ 100) (fun t ht => by
  obtain ⟨x4, x3⟩ := t
  obtain ⟨j, g1, g2, g3⟩ := ht
  simp only at g1 g2 g3
  subst g1
  unfold E1
  dsimp only
  have d1 : ∀ m : Int, (j : Int).tdiv m = (j : Int) / m := fun m => Int.tdiv_eq_ediv_of_nonneg (by omega)
  have d2 : ∀ m : Int, (j : Int).tmod m = (j : Int) % m := fun m => Int.tmod_eq_emod_of_nonneg (by omega)
  rw [d1, d1, d2]
  rcases hn with rfl | rfl
  ·have d3 : ((j : Int) / 2).tmod 2 = ((j : Int) / 2) % 2 := Int.tmod_eq_emod_of_nonneg (by omega)
   rw [d3]
   by_cases hj : (j : Int) < 2 * 2 * 2
   ·left
    rw [Ae (by unfold InI; omega), Ae (by unfold InI; omega), if_pos hj]
    rw [Ae (by unfold InI; omega), Ae (by unfold InI; omega), Ae (by unfold InI; omega), Ae (by unfold InI; omega), Ae (by omega), Ae (by unfold InI; omega), Ae (by omega), Ae (by unfold InI; omega), Ae (by omega), Ae (by simp; omega), Ae (by unfold InI; omega)]
    exact ⟨_, rfl, ⟨j + 1, rfl, by omega, by simp; omega⟩, by simp only; omega⟩
   ·right
    rw [Ae (by unfold InI; omega), Ae (by unfold InI; omega), if_neg hj]
    exact ⟨_, rfl, by omega⟩
  ·have d3 : ((j : Int) / 3).tmod 3 = ((j : Int) / 3) % 3 := Int.tmod_eq_emod_of_nonneg (by omega)
   rw [d3]
   by_cases hj : (j : Int) < 3 * 3 * 3
   ·left
    rw [Ae (by unfold InI; omega), Ae (by unfold InI; omega), if_pos hj]
    rw [Ae (by unfold InI; omega), Ae (by unfold InI; omega), Ae (by unfold InI; omega), Ae (by unfold InI; omega), Ae (by omega), Ae (by unfold InI; omega), Ae (by omega), Ae (by unfold InI; omega), Ae (by omega), Ae (by simp; omega), Ae (by unfold InI; omega)]
    exact ⟨_, rfl, ⟨j + 1, rfl, by omega, by simp; omega⟩, by simp only; omega⟩
   ·right
    rw [Ae (by unfold InI; omega), Ae (by unfold InI; omega), if_neg hj]
    exact ⟨_, rfl, by omega⟩) (s := ((0 : Int), ({ Arity := 3, Table := A5 Int } : SOp))) ⟨0, rfl, Nat.zero_le _, by simp [A5]⟩
 rw [e]
 exact ⟨_, rfl, hf⟩
theorem Akn (k : Int) : ∃ a, Hl k = some a ∧ Tx a := by
 have fin0 : ∀ {z : Int}, Tx { Size := z, Ops := A5 SOp } := ⟨by simp [A5], fun f hf => by simp [A5] at hf⟩
 have fin1 : ∀ {z : Int} {f : SOp}, f.Table.length ≤ 100 → Tx { Size := z, Ops := [f] } := fun h => ⟨by simp, fun f hf => by simp at hf; subst hf; omega⟩
 have fin2 : ∀ {z : Int} {f g : SOp}, f.Table.length ≤ 100 → g.Table.length ≤ 100 → Tx { Size := z, Ops := [f, g] } := fun h1 h2 => ⟨by simp, fun f hf => by
  simp only [List.mem_cons, List.not_mem_nil, or_false] at hf
  rcases hf with rfl | rfl <;> omega⟩
 have fin3 : ∀ {z : Int} {f g e : SOp}, f.Table.length ≤ 100 → g.Table.length ≤ 100 → e.Table.length ≤ 100 → Tx { Size := z, Ops := [f, g, e] } := fun h1 h2 h3 => ⟨by simp, fun f hf => by
  simp only [List.mem_cons, List.not_mem_nil, or_false] at hf
  rcases hf with rfl | rfl | rfl <;> omega⟩
 unfold Hl
 repeat' (first | refine Aw5 (fun _ => ?_) (fun _ => ?_) | refine Apz (Ak3 _ (by decide)) fun f hf => ?_ | refine Apz (Ak1 (by simp)) fun f hf => ?_)
 all_goals
  first
   | exact ⟨_, rfl, fin0⟩
   | exact ⟨_, rfl, fin1 (by first | assumption | decide)⟩
   | exact ⟨_, rfl, fin2 (by first | assumption | decide) (by first | assumption | decide)⟩
   | exact ⟨_, rfl, fin3 (by first | assumption | decide) (by first | assumption | decide) (by first | assumption | decide)⟩
theorem Ajq {c : Sl1Cur} {k : Nat} (h : Cur k c) (hk : k ≤ 600000000) : ∃ a d, Du c = some (a, d) ∧ Cur (k + 1000) d ∧ Tx a := by
 have hL := Av
 unfold Du
 obtain ⟨b, d, e, hd⟩ := As8 h (by omega) 4
 rw [e]
 simp only [Option.bind_some]
 by_cases hb : b = true
 ·rw [if_pos hb]
  obtain ⟨n, d2, e2, hd2, hn⟩ := Ln hd (by omega) [2, 2, 3, 3, 4] (by simp)
  rw [e2]
  simp only [Option.bind_some]
  obtain ⟨m, d3, e3, hd3, hm⟩ := Ln hd2 (by omega) [1, 1, 2] (by simp)
  rw [e3]
  simp only [Option.bind_some]
  obtain ⟨N, rfl, hN⟩ : ∃ N : Nat, n = (N : Int) ∧ 2 ≤ N ∧ N ≤ 4 := ⟨n.toNat, by simp at hn; omega, by simp at hn; omega⟩
  obtain ⟨M, rfl, hM⟩ : ∃ M : Nat, m = (M : Int) ∧ 1 ≤ M ∧ M ≤ 2 := ⟨m.toNat, by simp at hm; omega, by simp at hm; omega⟩
  obtain ⟨⟨a, d4⟩, e4, ⟨ha1, ha2, ha3⟩, hd4⟩ := Fh (body := Cv (N : Int)) (fun s => ∃ j : Nat, s.1 = (j : Int) ∧ j ≤ M ∧ s.2.1.Size = (N : Int) ∧ s.2.1.Ops.length = M - j ∧ (∀ f ∈ s.2.1.Ops, 1 ≤ f.Table.length ∧ f.Table.length ≤ 64) ∧ Cur (k + 6 + 200 * (M - j)) s.2.2) (fun s => s.1.toNat)
   (fun t => (t.1.Size = (N : Int) ∧ t.1.Ops.length = M ∧ ∀ f ∈ t.1.Ops, 1 ≤ f.Table.length ∧ f.Table.length ≤ 64) ∧ Cur (k + 500) t.2) (fun s hs => by
   obtain ⟨x6, x5, x1⟩ := s
   obtain ⟨j, g1, g2, g3, g4, g5, g6⟩ := hs
   simp only at g1 g2 g3 g4 g5 g6
   subst g1
   unfold Cv
   dsimp only
   by_cases hj : (j : Int) > 0
   ·left
    rw [if_pos hj]
    obtain ⟨r, d5, e5, hd5, hr⟩ := Ln g6 (by omega) [0, 1, 2, 2, 3] (by simp)
    rw [e5]
    simp only [Option.bind_some]
    obtain ⟨R, rfl, hR⟩ : ∃ R : Nat, r = (R : Int) ∧ R ≤ 3 := ⟨r.toNat, by simp at hr; omega, by simp at hr; omega⟩
    have hop : ∃ f : SOp, ((if (N : Int) = 4 then if (R : Int) = 3 then some ({ Arity := 2, Table := A5 Int } : SOp) else some { Arity := (R : Int), Table := A5 Int } else some { Arity := (R : Int), Table := A5 Int } : Option SOp)) = some f ∧ f.Table = [] ∧ ∃ Q : Nat, f.Arity = (Q : Int) ∧ 1 ≤ N ^ Q ∧ N ^ Q ≤ 64 ∧ Q ≤ 3 := by
     by_cases h4 : (N : Int) = 4
     ·rw [if_pos h4]
      have h4 : N = 4 := by omega
      subst h4
      by_cases h3 : (R : Int) = 3
      ·rw [if_pos h3]; exact ⟨_, rfl, rfl, 2, rfl, by decide⟩
      ·rw [if_neg h3]
       refine ⟨_, rfl, rfl, R, rfl, ?_⟩
       have : R = 0 ∨ R = 1 ∨ R = 2 := by omega
       rcases this with rfl | rfl | rfl <;> decide
     ·rw [if_neg h4]
      refine ⟨_, rfl, rfl, R, rfl, ?_⟩
      have h5 : N = 2 ∨ N = 3 := by omega
      have : R = 0 ∨ R = 1 ∨ R = 2 ∨ R = 3 := by omega
      rcases h5 with rfl | rfl <;> rcases this with rfl | rfl | rfl | rfl <;> decide
    obtain ⟨f, ef, ht, Q, hQ, q1, q2, q3⟩ := hop
    rw [ef]
    simp only [Option.bind_some]
    rw [hQ, Ap4 (by omega) q3]
    simp only [Option.bind_some]
    obtain ⟨⟨f2, d6⟩, e6, hf2, hd6⟩ := Fh (body := Cs (N : Int) (j : Int) x5) (fun s => ∃ i : Nat, s.1 = (i : Int) ∧ i ≤ N ^ Q ∧ s.2.1.Table.length = N ^ Q - i ∧ Cur (k + 6 + 200 * (M - j) + 2 + 2 * (N ^ Q - i)) s.2.2) (fun s => s.1.toNat) (fun t => t.1.Table.length = N ^ Q ∧ Cur (k + 6 + 200 * (M - j) + 2 + 2 * N ^ Q) t.2) (fun s hs => by
     obtain ⟨x8, x7, x9⟩ := s
     obtain ⟨i, k1, k2, k3, k4⟩ := hs
     simp only at k1 k2 k3 k4
     subst k1
     unfold Cs
     dsimp only
     by_cases hi : (i : Int) > 0
     ·left
      rw [if_pos hi]
      obtain ⟨v, d7, e7, hd7, _⟩ := Lt k4 (by omega) (N : Int)
      rw [e7]
      simp only [Option.bind_some]
      rw [Ae (by simp; omega), Ae (by unfold InI; omega)]
      exact ⟨_, rfl, ⟨i - 1, by simp only; omega, by omega, by simp; omega, hd7.mono (by omega)⟩, by simp only; omega⟩
     ·right
      rw [if_neg hi]
      exact ⟨_, rfl, by simp only; omega, k4.mono (by omega)⟩) (s := (((N ^ Q : Nat) : Int), f, d5)) ⟨N ^ Q, rfl, Nat.le_refl _, by simp [ht], hd5.mono (by omega)⟩
    rw [e6]
    simp only [Option.bind_some]
    rw [Ae (by simp; omega), Ae (by unfold InI; omega)]
    simp only at hf2 hd6
    refine ⟨_, rfl, ⟨j - 1, by simp only; omega, by omega, g3, by simp; omega, fun f hf => ?_, hd6.mono (by omega)⟩, by simp only; omega⟩
    rcases List.mem_append.1 hf with h' | h'
    ·exact g5 f h'
    ·rw [List.mem_singleton.1 h']; omega
   ·right
    rw [if_neg hj]
    exact ⟨_, rfl, ⟨g3, by simp only; omega, g5⟩, g6.mono (by omega)⟩) (s := ((M : Int), ({ Size := (N : Int), Ops := A5 SOp } : SAlgebra), d3)) ⟨M, rfl, Nat.le_refl _, rfl, by simp [A5], fun f hf => by simp [A5] at hf, hd3.mono (by omega)⟩
  rw [e4]
  simp only [Option.bind_some]
  simp only at ha1 ha2 ha3 hd4
  have h0 : 0 < a.Ops.length := by omega
  have hf0 := ha3 _ (Bb h0)
  have ht : Tx a := ⟨by omega, fun f hf => by have := ha3 f hf; omega⟩
  have hset : ∀ {z : Int} {f : SOp}, f.Table.length ≤ 101 → Tx { Size := z, Ops := a.Ops.set (Int.toNat 0) f } := fun hf => ⟨by simp; omega, fun g hg => by
   rcases List.mem_or_eq_of_mem_set hg with h' | h'
   ·have := ha3 g h'; omega
   ·rw [h']; exact hf⟩
  obtain ⟨w, d5, e5, hd5, w0, _⟩ := Lt hd4 (by omega) 16
  rw [e5]
  simp only [Option.bind_some]
  by_cases c0 : w = 0
  ·rw [if_pos c0, Ae (by unfold InI; omega)]
   obtain ⟨r, d6, e6, hd6, _⟩ := Ln hd5 (by omega) [0, 9, (N : Int) + 1] (by simp)
   rw [e6]
   exact ⟨_, _, rfl, hd6.mono (by omega), ht⟩
  rw [if_neg c0]
  by_cases c1 : w = 1
  ·rw [if_pos c1, Ae (by omega), Ae (by simp only [Int.toNat_zero, List.length_singleton]; omega)]
   exact ⟨_, _, rfl, hd5.mono (by omega), hset (by simp only [Int.toNat_zero, List.length_append, List.length_singleton]; omega)⟩
  rw [if_neg c1]
  by_cases c2 : w = 2
  ·rw [if_pos c2, Ae (by omega)]
   obtain ⟨r, d6, e6, hd6, r0, r1⟩ := Lt hd5 (by omega) ((nth a.Ops (Int.toNat 0)).Table.length : Int)
   rw [e6]
   simp only [Option.bind_some]
   obtain ⟨s, d7, e7, hd7, _⟩ := Ln hd6 (by omega) [-1, (N : Int)] (by simp)
   rw [e7]
   simp only [Option.bind_some]
   simp only [Int.toNat_zero] at r1 ⊢
   rw [Ae (by omega)]
   exact ⟨_, _, rfl, hd7.mono (by omega), hset (by simp only [List.length_set]; omega)⟩
  rw [if_neg c2]
  by_cases c3 : w = 3
  ·rw [if_pos c3]
   obtain ⟨r, d6, e6, hd6, _⟩ := Ln hd5 (by omega) [-1, 4] (by simp)
   rw [e6]
   simp only [Option.bind_some]
   rw [Ae (by omega)]
   exact ⟨_, _, rfl, hd6.mono (by omega), hset (by simp only [Int.toNat_zero]; omega)⟩
  rw [if_neg c3]
  by_cases c4 : w = 4
  ·rw [if_pos c4]
   obtain ⟨⟨a2, d6⟩, e6, ht2, hd6⟩ := Fh (body := Cu (N : Int)) (fun s => s.1.Ops.length ≤ 5 ∧ (∀ f ∈ s.1.Ops, f.Table.length ≤ 64) ∧ Cur (k + 502 + 2 * s.1.Ops.length) s.2) (fun s => 5 - s.1.Ops.length) (fun t => Tx t.1 ∧ Cur (k + 600) t.2) (fun s hs => by
    obtain ⟨x5, x1⟩ := s
    obtain ⟨g1, g2, g3⟩ := hs
    simp only at g1 g2 g3
    unfold Cu
    dsimp only
    obtain ⟨r, d7, e7, hd7, r0, r1⟩ := Lt g3 (by omega) 2
    rw [e7]
    simp only [Option.bind_some]
    rw [Ae (by unfold InI; omega)]
    by_cases hl : (x5.Ops.length : Int) < 4 + r
    ·left
     rw [if_pos hl, Ae (by omega), Ae (by simp; omega)]
     refine ⟨_, rfl, ⟨by simp; omega, fun f hf => ?_, hd7.mono (by simp; omega)⟩, by simp; omega⟩
     rcases List.mem_append.1 hf with h' | h'
     ·exact g2 f h'
     ·rw [List.mem_singleton.1 h']; simp; omega
    ·right
     rw [if_neg hl]
     exact ⟨_, rfl, ⟨by simp only; omega, fun f hf => by have := g2 f hf; omega⟩, hd7.mono (by omega)⟩) (s := (a, d5)) ⟨by simp only; omega, fun f hf => (ha3 f hf).2, hd5.mono (by omega)⟩
   rw [e6]
   exact ⟨_, _, rfl, hd6.mono (by omega), ht2⟩
  rw [if_neg c4]
  exact ⟨_, _, rfl, hd5.mono (by omega), ht⟩
 ·rw [if_neg hb]
  obtain ⟨r, d2, e2, hd2, _⟩ := Lt hd (by omega) 17
  rw [e2]
  simp only [Option.bind_some]
  obtain ⟨a, e3, ht⟩ := Akn r
  rw [e3]
  exact ⟨_, _, rfl, hd2.mono (by omega), ht⟩
theorem Avi {code : List Int} (hc : ∀ x ∈ code, 0 ≤ x ∧ x ≤ 255) (hl : code.length ≤ 65536) : Cur 0 ({ code := code, at_ := 0, seed := 0 } : Sl1Cur) := ⟨hc, hl, Int.le_refl _, Int.le_refl _⟩
theorem Afv {code : List Int} (hc : ∀ x ∈ code, 0 ≤ x ∧ x ≤ 255) (hl : code.length ≤ 65536) : ∃ a, Dv code = some a ∧ Tx a := by
 unfold Dv
 obtain ⟨a, d, e, _, ha⟩ := Ajq (Avi hc hl) (by omega)
 rw [e]; exact ⟨_, rfl, ha⟩
theorem X6 {code : List Int} (hc : ∀ x ∈ code, 0 ≤ x ∧ x ≤ 255) (hl : code.length ≤ 65536) : ∃ a, Cj code = some a ∧ Tx a := by
 unfold Cj
 obtain ⟨a, e, ha⟩ := Afv hc hl
 rw [e]; exact ⟨_, rfl, ha⟩
end Go.Proofs.Ytidaaijecmkndaa.Ax
namespace Go.Proofs.Ytidaaijecmkndaa.Ax
open Go Classical
theorem Aky {n m : Nat} (hm : m < 2 ^ n) : E0 (A7 m) n = m :=
 Alz (G3 _ n) hm (Fm fun i hi => Gr _ n i hi)
theorem Z2 {S T : Nat → Bool} : ∀ n, (∀ i, i < n → S i = T i) → E0 S n = E0 T n
 | 0, _ => rfl
 | n + 1, h => by simp only [E0]; rw [h n (by omega), Z2 n fun i hi => h i (by omega)]
theorem Ab6 {S : Nat → Bool} {x : Nat} (hS : S x = true) : ∀ n, x < n → E0 S n = 2 ^ x + E0 (fun z => S z && !decide (z = x)) n
 | 0, h => by omega
 | n + 1, h => by
   simp only [E0]
   by_cases e : n = x
   ·subst e
    rw [Z2 (S := S) (T := fun z => S z && !decide (z = n)) n fun i hi => by simp [show i ≠ n by omega]]
    simp [hS]
   ·rw [Ab6 hS n (by omega)]
    simp only [decide_eq_false e, Bool.not_false, Bool.and_true]
    split <;> omega
theorem Aba {n m x : Nat} (hm : m < 2 ^ n) (hx : x < n) (hb : A7 m x = true) : 2 ^ x ≤ m ∧ m - 2 ^ x = E0 (fun z => A7 m z && !decide (z = x)) n := by
 have := Ab6 hb n hx
 rw [Aky hm] at this
 omega
theorem At1 {n m x : Nat} (hn : n ≤ 20) (hm : m < 2 ^ n) (hx : x < n) : Aih (m : Int) ((2 ^ x : Nat) : Int) = ((E0 (fun z => A7 m z && !decide (z = x)) n : Nat) : Int) := by
 have hl := G3 (fun z => A7 m z && !decide (z = x)) n
 have h1 := Um hn
 have h2 := Um (n := x) (by omega)
 unfold Aih
 have e : (BitVec.ofInt IntKind.i64.bits (m : Int) &&& ~~~BitVec.ofInt IntKind.i64.bits ((2 ^ x : Nat) : Int)).toNat = E0 (fun z => A7 m z && !decide (z = x)) n := by
  have hb : IntKind.i64.bits = 64 := rfl
  rw [hb]
  refine Nat.eq_of_testBit_eq fun i => ?_
  rw [BitVec.testBit_toNat, BitVec.getLsbD_and, BitVec.getLsbD_not, BitVec.ofInt_natCast, BitVec.ofInt_natCast, BitVec.getLsbD_ofNat, BitVec.getLsbD_ofNat, Nat.testBit_two_pow]
  by_cases hi : i < n
  ·have := Gr (fun z => A7 m z && !decide (z = x)) n i hi
   rw [Ru] at this
   rw [this]
   simp only [Ru, decide_eq_true (show i < 64 by omega), Bool.true_and]
   congr 2
   exact decide_eq_decide.2 ⟨fun h => h.symm, fun h => h.symm⟩
  ·have hp : 2 ^ n ≤ 2 ^ i := Nat.pow_le_pow_right (by omega) (by omega)
   rw [Nat.testBit_lt_two_pow (show m < 2 ^ i by omega), Nat.testBit_lt_two_pow (show E0 (fun z => A7 m z && !decide (z = x)) n < 2 ^ i by omega)]
   simp
 rw [e]
 exact Nq (by omega) (by omega)
section
variable {a : SAlgebra} {n : Nat}
theorem Auc {xs ys : List Int} (hx : Bc xs n) (hy : Bc ys n) (h : ∀ z : Nat, z < n → (((z : Nat) : Int) ∈ xs ↔ ((z : Nat) : Int) ∈ ys)) : Gv a n xs = Gv a n ys := by
 unfold Gv
 have : (fun z : Nat => decide ((z : Int) ∈ xs)) = fun z : Nat => decide ((z : Int) ∈ ys) := by
  funext z
  rw [decide_eq_decide]
  by_cases hz : z < n
  ·exact h z hz
  ·exact ⟨fun hh => by have := hx _ hh; omega, fun hh => by have := hy _ hh; omega⟩
 rw [this]
theorem Ov {S : Nat → Bool} : Aj n (A7 (E0 S n)) = Aj n S := Fm fun i hi => Gr S n i hi
theorem Ak4 {x : Nat} (hx : x < n) : Qo a n x ↔ ∀ m, m < 2 ^ n → A7 m x = true → Gj a n (Aj n (A7 m)) → Gj a n (Aj n (A7 (m - 2 ^ x))) := by
 unfold Qo Gj
 constructor
 ·intro h m hm hb hg
  rw [(Aba hm hx hb).2, Ov]
  refine h (A7 m) ?_
  rwa [show (fun z => A7 m z || decide (z = x)) = A7 m by
   funext z
   by_cases e : z = x
   ·subst e; simp [hb]
   ·simp [e]]
 ·intro h S hS
  have hm := G3 (fun z => S z || decide (z = x)) n
  have hb : A7 (E0 (fun z => S z || decide (z = x)) n) x = true := by rw [Gr _ n x hx]; simp
  have := h _ hm hb (by rw [Ov]; exact hS)
  rw [(Aba hm hx hb).2, Ov] at this
  rwa [Fm (q := fun z => S z && !decide (z = x)) fun z hz => by
   rw [Gr _ n z hz]
   by_cases e : z = x <;> simp [e]] at this
theorem Amu {x : Nat} (hx : x < n) : Qo a n x ↔ ∀ m, m < 2 ^ n → (Gv a n (Aj n (fun z => A7 m z && !decide (z = x)) ++ [(x : Int)])).length = n → (Gv a n (Aj n fun z => A7 m z && !decide (z = x))).length = n := by
 have key : ∀ S : Nat → Bool, Gv a n (Aj n (fun z => S z && !decide (z = x)) ++ [(x : Int)]) = Gv a n (Aj n fun z => S z || decide (z = x)) := fun S => by
  refine Auc (fun v hv => ?_) (D9 _ _) fun z hz => ?_
  ·rcases List.mem_append.1 hv with h | h
   ·exact D9 _ _ v h
   ·rw [List.mem_singleton.1 h]; omega
  ·rw [List.mem_append, Ev, Ev, List.mem_singleton]
   by_cases e : z = x
   ·subst e; simp [hz]
   ·have : ¬ (z : Int) = (x : Int) := by omega
    simp [e, this]
 unfold Qo
 constructor
 ·intro h m hm hg
  rw [key] at hg
  exact h _ hg
 ·intro h S hS
  have := h _ (G3 S n)
  have e1 : (Aj n fun z => A7 (E0 S n) z && !decide (z = x)) = Aj n fun z => S z && !decide (z = x) := Fm fun z hz => by rw [Gr S n z hz]
  rw [e1, key] at this
  exact this hS
noncomputable def Ahf (a : SAlgebra) (n : Nat) : List Int := Aj n fun x => decide (Qo a n x)
theorem Arf (h : ReadyA a n) : ∃ s, Ap a n = s ++ [whole n] ∧ (∀ r, r ∈ s ↔ B1 a n r ∧ r.length < n) ∧ s.Nodup := by
 have hw := (Em h).2 (Afo h)
 have hr := Aik (a := a) (n := n)
 have hnd := Vq (a := a) (n := n)
 have hmem := fun r => Em (a := a) (xs := r) h
 generalize Ap a n = ys at hw hr hnd hmem ⊢
 obtain ⟨s, t, rfl⟩ := List.append_of_mem hw
 have ht : t = [] := by
  refine List.eq_nil_iff_forall_not_mem.2 fun r hrm => ?_
  have h1 := (List.pairwise_append.1 hr).2.1
  have h2 := (List.pairwise_cons.1 h1).1 r hrm
  have h3 := (hmem r).1 (by simp [hrm])
  have h4 : r ≠ whole n := fun e => by
   subst e
   have := (List.nodup_append.1 hnd).2.1
   exact (List.nodup_cons.1 this).1 hrm
  have h5 := K6 h3
  have h6 := We n
  rcases Nat.lt_or_ge r.length n with c | c
  ·exact h2 (.inl (by omega))
  ·exact h4 (Am3 h3.1 h3.2.1 (by omega))
 subst ht
 refine ⟨s, rfl, fun r => ⟨fun hrs => ?_, fun ⟨h1, h2⟩ => ?_⟩, (List.nodup_append.1 hnd).1⟩
 ·have h3 := (hmem r).1 (by simp [hrs])
  refine ⟨h3, ?_⟩
  have h5 := K6 h3
  rcases Nat.lt_or_ge r.length n with c | c
  ·exact c
  ·have := Am3 h3.1 h3.2.1 (by omega)
   subst this
   exact absurd rfl ((List.nodup_append.1 hnd).2.2 _ hrs _ (by simp))
 ·have := (hmem r).2 h1
  rcases List.mem_append.1 this with h3 | h3
  ·exact h3
  ·rw [List.mem_singleton.1 h3, We] at h2; omega
theorem An2 (h : ReadyA a n) : ∃ r s, Ap a n = r :: s ∧ (∀ q, q ∈ (if r.length = 0 then s else r :: s) ↔ B1 a n q ∧ q ≠ []) := by
 have hw := (Em h).2 (Afo h)
 have hr := Aik (a := a) (n := n)
 have hnd := Vq (a := a) (n := n)
 have hmem := fun r => Em (a := a) (xs := r) h
 generalize Ap a n = ys at hw hr hnd hmem ⊢
 cases ys with
 | nil => cases hw
 | cons r s =>
   refine ⟨r, s, rfl, fun q => ?_⟩
   rw [← hmem]
   by_cases h0 : r.length = 0
   ·rw [if_pos h0]
    have e : r = [] := List.length_eq_zero_iff.1 h0
    subst e
    have := (List.nodup_cons.1 hnd).1
    constructor
    ·intro hq
     exact ⟨List.mem_cons_of_mem _ hq, fun e => this (by rw [← e]; exact hq)⟩
    ·rintro ⟨hq, hne⟩
     exact (List.mem_cons.1 hq).resolve_left hne
   ·rw [if_neg h0]
    refine ⟨fun hq => ⟨hq, fun e => ?_⟩, fun hq => hq.1⟩
    subst e
    rcases List.mem_cons.1 hq with hq | hq
    ·rw [← hq] at h0; exact h0 rfl
    ·exact (List.pairwise_cons.1 hr).1 _ hq (.inl (by simp; omega))
theorem As3 (_h : ReadyA a n) {s : List (List Int)} (hs : ∀ r, r ∈ s ↔ B1 a n r ∧ r.length < n) {r : List Int} (hr : r ∈ s) : Tz a n r ↔ ∀ q ∈ s, q ≠ r → ¬ He r q := by
 obtain ⟨h1, h2⟩ := (hs r).1 hr
 constructor
 ·intro hm q hq hne hsub
  obtain ⟨h3, h4⟩ := (hs q).1 hq
  exact hne (hm.2.2 q h3 h4 hsub)
 ·intro hall
  exact ⟨h1, h2, fun ys h3 h4 h5 => Classical.byContradiction fun hne => hall ys ((hs ys).2 ⟨h3, h4⟩) hne h5⟩
theorem Al5 (h : ReadyA a n) {r : List Int} (hr : r ∈ Ap a n) : Tz a n r ↔ r.length < n ∧ ∀ q ∈ Ap a n, ¬ (q.length < n ∧ r.length < q.length ∧ He r q) := by
 have h1 := (Em h).1 hr
 constructor
 ·intro hm
  refine ⟨hm.2.1, fun q hq ⟨c1, c2, c3⟩ => ?_⟩
  have := hm.2.2 q ((Em h).1 hq) c1 c3
  rw [this] at c2; omega
 ·rintro ⟨h2, h3⟩
  refine ⟨h1, h2, fun ys g1 g2 g3 => Classical.byContradiction fun hne => h3 ys ((Em h).2 g1) ⟨g2, Aak h1 g1 g3 (Ne.symm hne), g3⟩⟩
theorem Aue (_h : ReadyA a n) {s : List (List Int)} (hs : ∀ r, r ∈ s ↔ B1 a n r ∧ r ≠ []) {r : List Int} (hr : r ∈ s) : W4 a n r ↔ ∀ q ∈ s, q ≠ r → ¬ He q r := by
 obtain ⟨h1, h2⟩ := (hs r).1 hr
 constructor
 ·intro hm q hq hne hsub
  obtain ⟨h3, h4⟩ := (hs q).1 hq
  exact hne (hm.2.2 q h3 h4 hsub)
 ·intro hall
  exact ⟨h1, h2, fun ys h3 h4 h5 => Classical.byContradiction fun hne => hall ys ((hs ys).2 ⟨h3, h4⟩) hne h5⟩
theorem Amo (h : ReadyA a n) {r : List Int} (hr : r ∈ Ap a n) : W4 a n r ↔ 0 < r.length ∧ ∀ q ∈ Ap a n, ¬ (0 < q.length ∧ q.length < r.length ∧ He q r) := by
 have h1 := (Em h).1 hr
 have h0 : ∀ q : List Int, 0 < q.length ↔ q ≠ [] := fun q => List.length_pos_iff
 constructor
 ·intro hm
  refine ⟨(h0 _).2 hm.2.1, fun q hq ⟨c1, c2, c3⟩ => ?_⟩
  have := hm.2.2 q ((Em h).1 hq) ((h0 _).1 c1) c3
  rw [this] at c2; omega
 ·rintro ⟨h2, h3⟩
  refine ⟨h1, (h0 _).1 h2, fun ys g1 g2 g3 => Classical.byContradiction fun hne => h3 ys ((Em h).2 g1) ⟨(h0 _).2 g2, Aak g1 h1 g3 hne, g3⟩⟩
theorem Arl (_h : ReadyA a n) {s : List (List Int)} (e : Ap a n = s ++ [whole n]) : Sv a n = s.filter fun r => decide (Tz a n r) := by
 unfold Sv
 rw [e, List.filter_append]
 have : ¬ Tz a n (whole n) := fun hm => by have := hm.2.1; rw [We] at this; omega
 simp [this]
theorem Aq9 (_h : ReadyA a n) {r : List Int} {s : List (List Int)} (e : Ap a n = r :: s) : T8 a n = (if r.length = 0 then s else r :: s).filter fun r => decide (W4 a n r) := by
 unfold T8
 rw [e]
 by_cases h0 : r.length = 0
 ·rw [if_pos h0]
  have e : r = [] := List.length_eq_zero_iff.1 h0
  subst e
  have : ¬ W4 a n [] := fun hm => hm.2.1 rfl
  simp [this]
 ·rw [if_neg h0]
theorem Amm (_h : ReadyA a n) {xs : List Int} {s t : List (List Int)} (e : Nt (E6 n (fun _ => true) (2 ^ n)) = s ++ xs :: t) (hx : Gj a n xs) (hs : ∀ r ∈ s, ¬ Gj a n r) : Pc a n xs := by
 have hall : ∀ r : List Int, r ∈ E6 n (fun _ => true) (2 ^ n) → Bc r n ∧ Gg r := fun r hr => by
  obtain ⟨k, _, _, rfl⟩ := La hr
  exact ⟨D9 _ _, Hg _ _⟩
 have hmem : ∀ r, r ∈ s ++ xs :: t ↔ r ∈ E6 n (fun _ => true) (2 ^ n) := fun r => by rw [← e]; exact (Eg _).mem_iff
 have hrow : Rn (s ++ xs :: t) := by rw [← e]; exact Mq _
 obtain ⟨g1, g2⟩ := hall xs ((hmem xs).1 (by simp))
 refine ⟨Nx.2 ⟨g1, g2, hx⟩, fun ys hy hlt => ?_⟩
 obtain ⟨k1, k2, k3⟩ := Nx.1 hy
 have hys : ys ∈ s ++ xs :: t := (hmem ys).2 (by
  obtain ⟨k, hk, _, rfl⟩ := La hy
  exact Wg hk rfl)
 rcases List.mem_append.1 hys with c | c
 ·exact hs _ c k3
 ·rcases List.mem_cons.1 c with c | c
  ·subst c; exact Oz _ hlt
  ·exact (List.pairwise_cons.1 (List.pairwise_append.1 hrow).2.1).1 _ c hlt
end
theorem Ud {α : Type} [Inhabited α] {body : (Int × List α) → Option ((Int × List α) ⊕ List α)} (rows : List α) (P : α → Bool)
  (h : ∀ (i : Nat) acc, i < rows.length → acc.length ≤ i → body ((i : Int), acc) = some (.inl (((i + 1 : Nat) : Int), if P (nth rows i) then acc ++ [nth rows i] else acc)))
  (he : ∀ acc, body ((rows.length : Int), acc) = some (.inr acc)) : Am body (0, A5 α) = some (rows.filter P) := by
 have := Cy (body := body) (fun i => ((i : Int), (rows.take i).filter P)) rows.length (rows.filter P) (fun i hi => by
  have hl : ((rows.take i).filter P).length ≤ i := Nat.le_trans (List.length_filter_le _ _) (by simp; omega)
  rw [h i _ hi hl, N8 hi, List.filter_append]
  cases hP : P (nth rows i) <;> simp [hP]) (by rw [List.take_length]; exact he _)
 simpa [A5] using this
section
variable {a : SAlgebra} {n : Nat}
end
end Go.Proofs.Ytidaaijecmkndaa.Ax
namespace Go.Proofs.Ytidaaijecmkndaa.Ax
open Go Classical
theorem Alf {xs : List Int} (h : xs.length ≤ LIM) : Ht xs = some xs := by
 unfold Ht
 rw [Ae (by show 0 + xs.length ≤ _; omega)]; rfl
theorem Awv {xs : List Int} (h : xs.length ≤ LIM) : Kg xs = some xs := by
 unfold Kg
 rw [Ae (by show 0 + xs.length ≤ _; omega)]; rfl
theorem Avu {α : Type} [Inhabited α] {xs : List α} (hd : xs.Nodup) {i k : Nat} (hi : i < xs.length) (hk : k < xs.length) (e : nth xs i = nth xs k) : i = k := by
 rw [Ck hi, Ck hk] at e
 rcases Nat.lt_trichotomy i k with h | h | h
 ·exact absurd e (List.pairwise_iff_getElem.1 hd i k hi hk h)
 ·exact h
 ·exact absurd e.symm (List.pairwise_iff_getElem.1 hd k i hk hi h)
def Lc (n : Nat) (bad : Nat → Prop) : Prop := ∃ i, i < n ∧ bad i
theorem Lc.mk {n : Nat} {bad : Nat → Prop} (i : Nat) (h : i < n) (hb : bad i) : Lc n bad := ⟨i, h, hb⟩
theorem Qt {body : (Int × Bool) → Option ((Int × Bool) ⊕ Bool)} (n : Nat) (bad : Nat → Prop) (v : Bool)
  (h : ∀ (i : Nat) b, i < n → body ((i : Int), b) = some (.inl (((i + 1 : Nat) : Int), if bad i then v else b)))
  (he : ∀ b, body ((n : Int), b) = some (.inr b)) (b0 : Bool) : Am body (0, b0) = some (if Lc n bad then v else b0) := by
 have := Cy (body := body) (fun i => ((i : Int), if Lc i bad then v else b0)) n (if Lc n bad then v else b0) (fun i hi => by
  rw [h i _ hi]
  congr 3
  by_cases hb : bad i
  ·rw [if_pos hb, if_pos (Lc.mk i (by omega) hb)]
  ·rw [if_neg hb]
   by_cases hx : Lc i bad
   ·obtain ⟨j, h1, h2⟩ := hx
    rw [if_pos (Lc.mk j h1 h2), if_pos (Lc.mk j (by omega) h2)]
   ·rw [if_neg hx, if_neg]
    rintro ⟨j, h1, h2⟩
    by_cases e : j = i
    ·subst e; exact hb h2
    ·exact hx (Lc.mk j (by omega) h2)) (he _)
 have e0 : ((0 : Int), b0) = (((0 : Nat) : Int), if Lc 0 bad then v else b0) := by
  rw [if_neg (by rintro ⟨j, h1, _⟩; omega)]; rfl
 rw [e0]; exact this
theorem Amp {xs ys : List Int} (h1 : xs.length ≤ LIM) (h2 : ys.length ≤ LIM) : G7 xs ys = some (decide (He xs ys)) := by
 unfold G7
 rw [Av] at h1
 have := G8 (body := Dq xs ys) (fun i => (i : Int)) xs.length (fun i => ¬ nth xs i ∈ ys) () () (fun i hi hb => by
  unfold Dq
  rw [if_pos (by omega), Ae (by omega), Afh _ _ h2]
  simp only [Int.toNat_natCast, Option.bind_some]
  rw [if_neg (by simpa using hb), Ae (by unfold InI; omega)]; rfl) (fun i hi hb => by
  unfold Dq
  rw [if_pos (by omega), Ae (by omega), Afh _ _ h2]
  simp only [Int.toNat_natCast, Option.bind_some]
  rw [if_pos (by simpa using hb)]) (by unfold Dq; rw [if_neg (by omega)]) 0 (by omega)
 refine (Hz this false true).trans (congrArg some (Pn ?_))
 unfold He
 rw [Mb]
 constructor
 ·intro h x hx; obtain ⟨i, hi, rfl⟩ := Ed.1 hx; exact h i hi
 ·intro h i hi; exact h _ (Bb hi)
theorem Ae9 {rows : List (List Int)} (hn : rows.length ≤ 1048576) (hl : ∀ r ∈ rows, r.length ≤ 1048576) (hd : rows.Nodup) {bey : List Int → List Int → Option Bool} (B : List Int → List Int → Prop)
  (hB : ∀ r ∈ rows, ∀ q ∈ rows, bey r q = some (decide (B r q))) : C9 rows bey = some (rows.filter fun r => decide (∀ q ∈ rows, q ≠ r → ¬ B r q)) := by
 have hL := Av
 unfold C9
 rw [Ud (body := De rows bey) rows (fun r => decide (∀ q ∈ rows, q ≠ r → ¬ B r q)) (fun i acc hi ha => by
  have hri := Bb hi
  have hrl := hl _ hri
  unfold De
  dsimp only
  rw [if_pos (by omega), Ae (by omega), Qt (body := Dn rows bey (i : Int) acc) rows.length (fun k => k ≠ i ∧ B (nth rows i) (nth rows k)) false (fun k b hk => by
   unfold Dn
   dsimp only
   rw [if_pos (by omega), Ae (by omega), Int.toNat_natCast, Int.toNat_natCast]
   by_cases e : k = i
   ·rw [if_neg (by omega), if_neg (fun hh => hh.1 e), Ae (by unfold InI; omega)]; rfl
   ·rw [if_pos (by omega), hB _ hri _ (Bb hk)]
    simp only [Option.bind_some]
    by_cases hb : B (nth rows i) (nth rows k)
    ·rw [decide_eq_true hb, if_pos rfl, if_pos ⟨e, hb⟩, Ae (by unfold InI; omega)]; rfl
    ·rw [decide_eq_false hb, if_neg (by simp), if_neg (fun hh => hb hh.2), Ae (by unfold InI; omega)]; rfl) (fun b => by
   unfold Dn
   dsimp only
   rw [if_neg (by omega)]) true]
  simp only [Option.bind_some]
  rw [Int.toNat_natCast]
  by_cases hx : Lc rows.length fun k => k ≠ i ∧ B (nth rows i) (nth rows k)
  ·rw [if_pos hx, if_neg (by simp), Ae (by unfold InI; omega), decide_eq_false, if_neg (by simp)]
   ·rfl
   ·intro hall
    obtain ⟨k, h1, h2, h3⟩ := hx
    exact hall _ (Bb h1) (fun e => h2 (Avu hd h1 hi e)) h3
  ·rw [if_neg hx, if_pos rfl, Alf (by omega)]
   simp only [Option.bind_some]
   rw [Ae (by simp; omega), Ae (by unfold InI; omega), decide_eq_true, if_pos rfl]
   ·rfl
   ·intro q hq hne hb
    obtain ⟨k, hk, rfl⟩ := Ed.1 hq
    exact hx (Lc.mk k hk ⟨fun e => hne (by rw [e]), hb⟩)) (fun acc => by
  unfold De
  dsimp only
  rw [if_neg (by omega)])]
 rfl
section
variable {a : SAlgebra} {n : Nat}
theorem ReadyA.pow (h : ReadyA a n) : 2 ^ n ≤ 1048576 := Um (by have := h.le; omega)
theorem Ahu (h : ReadyA a n) : F5 a = some (Ap a n) := by
 have hL := Av
 have h8 := h.le
 have hp := h.pow
 unfold F5
 have key := Cy (body := Dy a) (fun i => ((i : Int), E6 n (fun m => decide (B1 a n (Aj n (A7 m)))) i)) (2 ^ n) (E6 n (fun m => decide (B1 a n (Aj n (A7 m)))) (2 ^ n)) (fun i hi => by
  have hlen := N0 n (fun m => decide (B1 a n (Aj n (A7 m)))) i
  have hsl := Dk n (A7 i)
  unfold Dy
  dsimp only
  rw [h.sz, Ae (by omega), Gu (by omega), if_pos (by omega), Ado (by omega) hi]
  simp only [Option.bind_some]
  rw [Avj h (by omega)]
  simp only [Option.bind_some]
  rw [Ol]
  by_cases hd : B1 a n (Aj n (A7 i))
  ·rw [decide_eq_true hd, if_pos rfl, Ae (by simp; omega), Ae (by unfold InI; omega), if_pos rfl]; rfl
  ·rw [decide_eq_false hd, if_neg (by simp), Ae (by unfold InI; omega), if_neg (by simp)]; rfl) (by
  unfold Dy
  dsimp only
  rw [h.sz, Ae (by omega), Gu (by omega), if_neg (by omega)])
 have e0 : ((0 : Int), A5 (List Int)) = (((0 : Nat) : Int), E6 n (fun m => decide (B1 a n (Aj n (A7 m)))) 0) := rfl
 rw [e0, key]
 simp only [Option.bind_some]
 have hlen := N0 n (fun m => decide (B1 a n (Aj n (A7 m)))) (2 ^ n)
 rw [Ab2 (ys := Ap a n) (by omega) (fun r hr => by
  obtain ⟨k, _, _, rfl⟩ := La hr
  have := Dk n (A7 k); omega) (Eg _) (Mq _)]
 rfl
theorem Apv (h : ReadyA a n) : Hw a = some (Ap a n) := by
 have hL := Av
 have h8 := h.le
 have hp := h.pow
 unfold Hw
 obtain ⟨ys, e, h1, h2⟩ := Fh (body := G2 a) (fun s => ∃ i : Nat, s.1 = (i : Int) ∧ i ≤ 2 ^ n ∧ Rn s.2 ∧ s.2.Perm (E6 n (fun m => decide (B1 a n (Aj n (A7 m)))) i)) (fun s => 2 ^ n - s.1.toNat) (fun ys => Rn ys ∧ ys.Perm (E6 n (fun m => decide (B1 a n (Aj n (A7 m)))) (2 ^ n))) (fun s hs' => by
  obtain ⟨x, xs⟩ := s
  obtain ⟨i, hi, hil, hr, hpm⟩ := hs'
  simp only at hi hil hr hpm
  subst hi
  have hlen := N0 n (fun m => decide (B1 a n (Aj n (A7 m)))) i
  have hxl : xs.length ≤ i := by rw [hpm.length_eq]; exact hlen
  have hrow : ∀ r ∈ xs, r.length ≤ LIM := fun r hr => by
   obtain ⟨k, _, _, rfl⟩ := La (hpm.mem_iff.1 hr)
   have := Dk n (A7 k); omega
  have hsl := Dk n (A7 i)
  unfold G2
  dsimp only
  rw [h.sz]
  by_cases hlt : i < 2 ^ n
  ·left
   rw [Ae (by omega), Gu (by omega), if_pos (by omega), Afn (by omega) hlt]
   simp only [Option.bind_some]
   rw [Av5 h (by omega)]
   simp only [Option.bind_some]
   by_cases hd : B1 a n (Aj n (A7 i))
   ·rw [decide_eq_true hd, if_pos rfl]
    obtain ⟨ys, e, g1, g2⟩ := Ass hr (by omega) hrow (l := Aj n (A7 i)) (by omega)
    rw [e]
    simp only [Option.bind_some]
    rw [Ae (by unfold InI; omega)]
    refine ⟨_, rfl, ⟨i + 1, rfl, hlt, g1, ?_⟩, by simp only; omega⟩
    rw [Ol, if_pos (decide_eq_true hd)]
    refine g2.trans (List.Perm.trans (hpm.cons _) ?_)
    exact (List.perm_append_singleton _ _).symm
   ·rw [decide_eq_false hd, if_neg (by simp), Ae (by unfold InI; omega)]
    refine ⟨_, rfl, ⟨i + 1, rfl, hlt, hr, ?_⟩, by simp only; omega⟩
    rw [Ol, if_neg (by simp [hd])]
    exact hpm
  ·right
   have e : i = 2 ^ n := by omega
   subst e
   rw [Ae (by omega), Gu (by omega), if_neg (by omega)]
   exact ⟨_, rfl, hr, hpm⟩) (s := ((0 : Int), A5 (List Int))) ⟨0, rfl, Nat.zero_le _, List.Pairwise.nil, List.Perm.refl _⟩
 rw [e]
 simp only [Option.bind_some]
 rw [Anp h1 h2]; rfl
theorem Ti (h : ReadyA a n) {r : List Int} (hr : r ∈ Ap a n) : r.length ≤ 8 := by
 have := K6 ((Em h).1 hr)
 have := h.le
 omega
theorem Agy (h : ReadyA a n) : Ew a = some (Sv a n) := by
 have hL := Av
 have hp := h.pow
 unfold Ew
 rw [Ahu h]
 simp only [Option.bind_some]
 obtain ⟨s, e, hs, hd⟩ := Arf h
 have hlen := Lb (a := a) (n := n)
 rw [Arl h e]
 rw [e] at hlen ⊢
 have hll : (s ++ [whole n]).length = s.length + 1 := by simp
 rw [hll] at hlen ⊢
 have et : List.take ((((s.length + 1 : Nat) : Int) - 1).toNat - Int.toNat 0) (List.drop (Int.toNat 0) (s ++ [whole n])) = s := by
  have e1 : (((s.length + 1 : Nat) : Int) - 1).toNat - Int.toNat 0 = s.length := by simp
  rw [e1]
  simp
 rw [Ae (by unfold InI; omega), Ae (by omega), et]
 have hrow : ∀ r ∈ s, r.length ≤ 8 := fun r hr => by have := ((hs r).1 hr).2; have := h.le; omega
 rw [Ae9 (by omega) (fun r hr => by have := hrow r hr; omega) hd He (fun r hr q hq => Amp (by have := hrow r hr; omega) (by have := hrow q hq; omega))]
 simp only [Option.bind_some]
 congr 1
 refine List.filter_congr fun r hr => ?_
 rw [decide_eq_decide, As3 h hs hr]
theorem Agp (h : ReadyA a n) (hsm : I6 a) : Eu a = some (T8 a n, true) := by
 have hL := Av
 have hp := h.pow
 unfold Eu
 rw [Gk hsm, decide_eq_true h.good]
 simp only [Option.bind_some, if_true]
 rw [Ahu h]
 simp only [Option.bind_some]
 obtain ⟨r, s, e, hs⟩ := An2 h
 have hlen := Lb (a := a) (n := n)
 have hnd := Vq (a := a) (n := n)
 rw [Aq9 h e]
 rw [e] at hlen hnd ⊢
 simp only [List.length_cons] at hlen ⊢
 have en : nth (r :: s) (Int.toNat 0) = r := rfl
 rw [Ae (by omega), en]
 have fin : ∀ t : List (List Int), t.length ≤ 1048576 → t.Nodup → (∀ q, q ∈ t ↔ B1 a n q ∧ q ≠ []) → C9 t (fun w_0 w_1 => Cx w_0 w_1) = some (t.filter fun r => decide (W4 a n r)) := fun t h1 h2 h3 => by
  have hrow : ∀ r ∈ t, r.length ≤ 8 := fun r hr => by have := K6 ((h3 r).1 hr).1; have := h.le; omega
  rw [Ae9 h1 (fun r hr => by have := hrow r hr; omega) h2 (fun r q => He q r) (fun r hr q hq => by
   unfold Cx
   rw [Amp (by have := hrow q hq; omega) (by have := hrow r hr; omega)]; rfl)]
  congr 1
  refine List.filter_congr fun r hr => ?_
  rw [decide_eq_decide, Aue h h3 hr]
 by_cases h0 : r.length = 0
 ·rw [if_pos h0] at hs
  rw [if_pos (by omega), if_pos h0, Ae (by omega)]
  have et : List.take ((((s.length + 1 : Nat) : Int)).toNat - Int.toNat 1) (List.drop (Int.toNat 1) (r :: s)) = s := by
   have e1 : (((s.length + 1 : Nat) : Int)).toNat - Int.toNat 1 = s.length := by simp
   rw [e1]
   show List.take s.length s = s
   exact List.take_length
  rw [et, fin s (by omega) (List.nodup_cons.1 hnd).2 hs]
  rfl
 ·rw [if_neg h0] at hs
  rw [if_neg (by omega), if_neg h0, fin (r :: s) (by simp; omega) hnd hs]
  rfl
theorem Ala (h : ReadyA a n) : Ga a = some (Sv a n) := by
 have hL := Av
 have hp := h.pow
 have hlen := Lb (a := a) (n := n)
 have hrow := fun r hr => Ti (a := a) (r := r) h hr
 unfold Ga
 rw [Apv h]
 simp only [Option.bind_some]
 rw [Ud (body := C5 a (Ap a n)) (Ap a n) (fun r => decide (Tz a n r)) (fun i acc hi ha => by
  have hri := Bb hi
  have hrl := hrow _ hri
  unfold C5
  dsimp only
  rw [if_pos (by omega), Ae (by omega), Int.toNat_natCast, h.sz, Qt (body := C4 a (Ap a n) (i : Int) acc) (Ap a n).length (fun k => (nth (Ap a n) k).length < n ∧ (nth (Ap a n) i).length < (nth (Ap a n) k).length ∧ He (nth (Ap a n) i) (nth (Ap a n) k)) false (fun k b hk => by
   have hrk := hrow _ (Bb hk)
   unfold C4
   dsimp only
   rw [if_pos (by omega), Ae (by omega), Int.toNat_natCast, Int.toNat_natCast, h.sz, Ae (by omega)]
   by_cases c1 : (nth (Ap a n) k).length < n
   ·rw [if_pos (by omega), Ae (by omega)]
    by_cases c2 : (nth (Ap a n) i).length < (nth (Ap a n) k).length
    ·rw [if_pos (by omega), Ae (by omega), Ae (by omega), Aej _ _ (by omega) (by omega)]
     simp only [Option.bind_some]
     by_cases c3 : ∀ x ∈ nth (Ap a n) i, x ∈ nth (Ap a n) k
     ·rw [decide_eq_true c3, if_pos rfl, if_pos ⟨c1, c2, c3⟩, Ae (by unfold InI; omega)]; rfl
     ·rw [decide_eq_false c3, if_neg (by simp), if_neg (fun hh => c3 hh.2.2), Ae (by unfold InI; omega)]; rfl
    ·rw [if_neg (by omega), if_neg (fun hh => c2 hh.2.1), Ae (by unfold InI; omega)]; rfl
   ·rw [if_neg (by omega), if_neg (fun hh => c1 hh.1), Ae (by unfold InI; omega)]; rfl) (fun b => by
   unfold C4
   dsimp only
   rw [if_neg (by omega)]) _]
  simp only [Option.bind_some]
  by_cases hm : Tz a n (nth (Ap a n) i)
  ·obtain ⟨m1, m2⟩ := (Al5 h hri).1 hm
   have hno : ¬ Lc (Ap a n).length (fun k => (nth (Ap a n) k).length < n ∧ (nth (Ap a n) i).length < (nth (Ap a n) k).length ∧ He (nth (Ap a n) i) (nth (Ap a n) k)) := by rintro ⟨k, hk, hb⟩; exact m2 _ (Bb hk) hb
   rw [if_neg hno, decide_eq_true (show ((nth (Ap a n) i).length : Int) < (n : Int) by omega), if_pos rfl, Ae (by omega), Ae (by simp; omega), Ae (by unfold InI; omega), decide_eq_true hm, if_pos rfl]
   rfl
  ·have : (if Lc (Ap a n).length (fun k => (nth (Ap a n) k).length < n ∧ (nth (Ap a n) i).length < (nth (Ap a n) k).length ∧ He (nth (Ap a n) i) (nth (Ap a n) k)) then false else decide (((nth (Ap a n) i).length : Int) < (n : Int))) = false := by
    by_cases hx : Lc (Ap a n).length (fun k => (nth (Ap a n) k).length < n ∧ (nth (Ap a n) i).length < (nth (Ap a n) k).length ∧ He (nth (Ap a n) i) (nth (Ap a n) k))
    ·rw [if_pos hx]
    ·rw [if_neg hx]
     refine decide_eq_false fun c => hm ((Al5 h hri).2 ⟨by omega, fun q hq hb => hx ?_⟩)
     obtain ⟨k, hk, rfl⟩ := Ed.1 hq
     exact Lc.mk k hk hb
   rw [this, if_neg (by simp), Ae (by unfold InI; omega), decide_eq_false hm, if_neg (by simp)]
   rfl) (fun acc => by
  unfold C5
  dsimp only
  rw [if_neg (by omega)])]
 rfl
theorem Zo (h : ReadyA a n) (hsm : I6 a) : Et a = some (T8 a n, true) := by
 have hL := Av
 have hp := h.pow
 have hlen := Lb (a := a) (n := n)
 have hrow := fun r hr => Ti (a := a) (r := r) h hr
 unfold Et
 rw [O0 hsm, decide_eq_true h.good]
 simp only [Option.bind_some, if_true]
 rw [Apv h]
 simp only [Option.bind_some]
 rw [Ud (body := Ci (Ap a n)) (Ap a n) (fun r => decide (W4 a n r)) (fun i acc hi ha => by
  have hri := Bb hi
  have hrl := hrow _ hri
  unfold Ci
  dsimp only
  rw [if_pos (by omega), Ae (by omega), Int.toNat_natCast, Qt (body := Ch (Ap a n) (i : Int) acc) (Ap a n).length (fun k => 0 < (nth (Ap a n) k).length ∧ (nth (Ap a n) k).length < (nth (Ap a n) i).length ∧ He (nth (Ap a n) k) (nth (Ap a n) i)) false (fun k b hk => by
   have hrk := hrow _ (Bb hk)
   unfold Ch
   dsimp only
   rw [if_pos (by omega), Ae (by omega), Int.toNat_natCast, Int.toNat_natCast, Ae (by omega)]
   by_cases c1 : 0 < (nth (Ap a n) k).length
   ·rw [if_pos (by omega), Ae (by omega)]
    by_cases c2 : (nth (Ap a n) k).length < (nth (Ap a n) i).length
    ·rw [if_pos (by omega), Ae (by omega), Ae (by omega), Aej _ _ (by omega) (by omega)]
     simp only [Option.bind_some]
     by_cases c3 : ∀ x ∈ nth (Ap a n) k, x ∈ nth (Ap a n) i
     ·rw [decide_eq_true c3, if_pos rfl, if_pos ⟨c1, c2, c3⟩, Ae (by unfold InI; omega)]; rfl
     ·rw [decide_eq_false c3, if_neg (by simp), if_neg (fun hh => c3 hh.2.2), Ae (by unfold InI; omega)]; rfl
    ·rw [if_neg (by omega), if_neg (fun hh => c2 hh.2.1), Ae (by unfold InI; omega)]; rfl
   ·rw [if_neg (by omega), if_neg (fun hh => c1 hh.1), Ae (by unfold InI; omega)]; rfl) (fun b => by
   unfold Ch
   dsimp only
   rw [if_neg (by omega)]) _]
  simp only [Option.bind_some]
  by_cases hm : W4 a n (nth (Ap a n) i)
  ·obtain ⟨m1, m2⟩ := (Amo h hri).1 hm
   have hno : ¬ Lc (Ap a n).length (fun k => 0 < (nth (Ap a n) k).length ∧ (nth (Ap a n) k).length < (nth (Ap a n) i).length ∧ He (nth (Ap a n) k) (nth (Ap a n) i)) := by rintro ⟨k, hk, hb⟩; exact m2 _ (Bb hk) hb
   rw [if_neg hno, decide_eq_true (show ((nth (Ap a n) i).length : Int) > 0 by omega), if_pos rfl, Ae (by omega), Ae (by simp; omega), Ae (by unfold InI; omega), decide_eq_true hm, if_pos rfl]
   rfl
  ·have : (if Lc (Ap a n).length (fun k => 0 < (nth (Ap a n) k).length ∧ (nth (Ap a n) k).length < (nth (Ap a n) i).length ∧ He (nth (Ap a n) k) (nth (Ap a n) i)) then false else decide (((nth (Ap a n) i).length : Int) > 0)) = false := by
    by_cases hx : Lc (Ap a n).length (fun k => 0 < (nth (Ap a n) k).length ∧ (nth (Ap a n) k).length < (nth (Ap a n) i).length ∧ He (nth (Ap a n) k) (nth (Ap a n) i))
    ·rw [if_pos hx]
    ·rw [if_neg hx]
     refine decide_eq_false fun c => hm ((Amo h hri).2 ⟨by omega, fun q hq hb => hx ?_⟩)
     obtain ⟨k, hk, rfl⟩ := Ed.1 hq
     exact Lc.mk k hk hb
   rw [this, if_neg (by simp), Ae (by unfold InI; omega), decide_eq_false hm, if_neg (by simp)]
   rfl) (fun acc => by
  unfold Ci
  dsimp only
  rw [if_neg (by omega)])]
 rfl
end
end Go.Proofs.Ytidaaijecmkndaa.Ax
namespace Go.Proofs.Ytidaaijecmkndaa.Ax
open Go Classical
section
variable {a : SAlgebra} {n : Nat}
theorem Ads (h : ReadyA a n) {xs : List Int} (hx : Bc xs n) (hl : xs.length ≤ LIM) : Bm a xs = some (Gv a n xs) := Ae1 h hx hl
theorem Aem (h : ReadyA a n) {xs : List Int} (hx : Bc xs n) (hl : xs.length ≤ LIM) : C3 a xs = some (Gv a n xs) := Ail h hx hl
noncomputable def Uo (a : SAlgebra) (n : Nat) : Nat → Bool := fun m => decide (Gj a n (Aj n (A7 m)))
theorem Aqm (h : ReadyA a n) (hsm : I6 a) : Ca a = some (Ahf a n, true) := by
 have hL := Av
 have h8 := h.le
 have hp := h.pow
 have hp0 : 0 < 2 ^ n := Nat.two_pow_pos n
 unfold Ca
 rw [Gk hsm, decide_eq_true h.good]
 simp only [Option.bind_some, if_true]
 rw [h.sz, Ae (by omega), Gu (by omega), Ae (by omega), Int.toNat_natCast]
 have key := Cy (body := B6 a) (fun i => ((i : Int), (List.range i).map (Uo a n) ++ List.replicate (2 ^ n - i) false)) (2 ^ n) (Iu (2 ^ n) (Uo a n)) (fun i hi => by
  have hsl := Dk n (A7 i)
  have hgl := Og (a := a) (n := n) (Aj n (A7 i))
  have hll : ((List.range i).map (Uo a n) ++ List.replicate (2 ^ n - i) false).length = 2 ^ n := by simp; omega
  have hv : (((Gv a n (Aj n (A7 i))).length : Int) == (n : Int)) = Uo a n i := by
   unfold Uo
   by_cases hg : Gj a n (Aj n (A7 i))
   ·rw [decide_eq_true hg]
    unfold Gj at hg
    exact beq_iff_eq.2 (by omega)
   ·rw [decide_eq_false hg]
    unfold Gj at hg
    exact beq_eq_false_iff_ne.2 (by omega)
  unfold B6
  dsimp only
  rw [h.sz, Gu (by omega), Int.toNat_natCast, if_pos (by omega), Ado (by omega) hi]
  simp only [Option.bind_some]
  rw [Ads h (D9 _ _) (by omega)]
  simp only [Option.bind_some]
  rw [Ae (by rw [hll]; omega), Ae (by unfold InI; omega), Int.toNat_natCast, Avo _ _ _ hi (by simp), hv, List.range_succ, List.map_append]
  rfl) (by
  unfold B6
  dsimp only
  rw [h.sz, Gu (by omega), Int.toNat_natCast, if_neg (by omega), Nat.sub_self]
  simp [Iu])
 have e0 : ((0 : Int), List.replicate (2 ^ n) false) = (((0 : Nat) : Int), (List.range 0).map (Uo a n) ++ List.replicate (2 ^ n - 0) false) := by simp
 rw [e0, key]
 simp only [Option.bind_some]
 have hbl := Mp (2 ^ n) (Uo a n)
 rw [Yw (body := B7 a (Iu (2 ^ n) (Uo a n))) n (fun x => decide (Qo a n x)) (fun x acc hx hacc => by
  have hx20 := Um (n := x) (by omega)
  have hx0 : 0 < 2 ^ x := Nat.two_pow_pos x
  unfold B7
  dsimp only
  rw [h.sz, if_pos (by omega), Qt (body := B4 a (Iu (2 ^ n) (Uo a n)) (x : Int) acc) (2 ^ n) (fun m => A7 m x = true ∧ Uo a n m = true ∧ ¬ Uo a n (m - 2 ^ x) = true) false (fun m b hm => by
   unfold B4
   dsimp only
   rw [hbl, if_pos (by omega), Ae (by omega), Auw (n := n) (by omega) hm (by omega)]
   by_cases hb : A7 m x = true
   ·obtain ⟨hge, _⟩ := Aba hm hx hb
    have e : ((m : Int) - ((2 ^ x : Nat) : Int)).toNat = m - 2 ^ x := by omega
    rw [if_pos hb, if_pos rfl, Ae (by omega), Int.toNat_natCast, Iz hm]
    by_cases hg : Uo a n m = true
    ·rw [if_pos hg, Ae (by omega), Gu (by omega), Ae (by unfold InI; omega), Ae (by omega), e, Iz (by omega)]
     by_cases hg2 : Uo a n (m - 2 ^ x) = true
     ·rw [if_pos hg2, if_neg (fun hh => hh.2.2 hg2), Ae (by unfold InI; omega)]; rfl
     ·rw [if_neg hg2, if_pos ⟨hb, hg, hg2⟩, Ae (by unfold InI; omega)]; rfl
    ·rw [if_neg hg, if_neg (fun hh => hg hh.2.1), Ae (by unfold InI; omega)]; rfl
   ·rw [if_neg hb, if_neg (by omega), if_neg (fun hh => hb hh.1), Ae (by unfold InI; omega)]; rfl) (fun b => by
   unfold B4
   dsimp only
   rw [hbl, if_neg (by omega)]) true]
  simp only [Option.bind_some]
  by_cases hn : Qo a n x
  ·have hno : ¬ Lc (2 ^ n) (fun m => A7 m x = true ∧ Uo a n m = true ∧ ¬ Uo a n (m - 2 ^ x) = true) := by
    rintro ⟨m, hm, hb, hg, hg2⟩
    exact hg2 (decide_eq_true ((Ak4 hx).1 hn m hm hb (of_decide_eq_true hg)))
   rw [if_neg hno, if_pos rfl, Ae (by simp; omega), Ae (by unfold InI; omega), decide_eq_true hn, if_pos rfl]
   rfl
  ·have hyes : Lc (2 ^ n) (fun m => A7 m x = true ∧ Uo a n m = true ∧ ¬ Uo a n (m - 2 ^ x) = true) := by
    apply Classical.byContradiction
    intro hno
    refine hn ((Ak4 hx).2 fun m hm hb hg => Classical.byContradiction fun hg2 => hno (Lc.mk m hm ⟨hb, decide_eq_true hg, fun hh => hg2 (of_decide_eq_true hh)⟩))
   rw [if_pos hyes, if_neg (by simp), Ae (by unfold InI; omega), decide_eq_false hn, if_neg (by simp)]
   rfl) (fun acc => by
  unfold B7
  dsimp only
  rw [h.sz, if_neg (by omega)])]
 rfl
theorem Ary (h : ReadyA a n) (hsm : I6 a) : B9 a = some (Ahf a n, true) := by
 have hL := Av
 have h8 := h.le
 have hp := h.pow
 have hp0 : 0 < 2 ^ n := Nat.two_pow_pos n
 unfold B9
 rw [O0 hsm, decide_eq_true h.good]
 simp only [Option.bind_some, if_true]
 rw [Yw (body := B5 a) n (fun x => decide (Qo a n x)) (fun x acc hx hacc => by
  unfold B5
  dsimp only
  rw [h.sz, if_pos (by omega), Qt (body := B3 a (x : Int) acc) (2 ^ n) (fun m => (Gv a n (Aj n fun z => A7 m z && !decide (z = x))).length < n ∧ (Gv a n (Aj n (fun z => A7 m z && !decide (z = x)) ++ [(x : Int)])).length = n) true (fun m b hm => by
   have hml := G3 (fun z => A7 m z && !decide (z = x)) n
   have hsl := Dk n (fun z => A7 m z && !decide (z = x))
   have hin : Bc (Aj n (fun z => A7 m z && !decide (z = x)) ++ [(x : Int)]) n := fun v hv => by
    rcases List.mem_append.1 hv with h' | h'
    ·exact D9 _ _ v h'
    ·rw [List.mem_singleton.1 h']; omega
   unfold B3
   dsimp only
   rw [h.sz, Ae (by omega), Gu (by omega), if_pos (by omega), Ae (by omega), Gu (by omega), At1 (by omega) hm hx, Afn (by omega) hml, Ov]
   simp only [Option.bind_some]
   rw [Aem h (D9 _ _) (by omega)]
   simp only [Option.bind_some]
   by_cases c1 : (Gv a n (Aj n fun z => A7 m z && !decide (z = x))).length < n
   ·rw [if_pos (by omega), Awv (by omega)]
    simp only [Option.bind_some]
    rw [Ae (by simp; omega), Aem h hin (by simp; omega)]
    simp only [Option.bind_some]
    by_cases c2 : (Gv a n (Aj n (fun z => A7 m z && !decide (z = x)) ++ [(x : Int)])).length = n
    ·rw [if_pos (by omega), if_pos ⟨c1, c2⟩, Ae (by unfold InI; omega)]; rfl
    ·rw [if_neg (by omega), if_neg (fun hh => c2 hh.2), Ae (by unfold InI; omega)]; rfl
   ·rw [if_neg (by omega), if_neg (fun hh => c1 hh.1), Ae (by unfold InI; omega)]; rfl) (fun b => by
   unfold B3
   dsimp only
   rw [h.sz, Ae (by omega), Gu (by omega), if_neg (by omega)]) false]
  simp only [Option.bind_some]
  by_cases hn : Qo a n x
  ·have hno : ¬ Lc (2 ^ n) (fun m => (Gv a n (Aj n fun z => A7 m z && !decide (z = x))).length < n ∧ (Gv a n (Aj n (fun z => A7 m z && !decide (z = x)) ++ [(x : Int)])).length = n) := by
    rintro ⟨m, hm, c1, c2⟩
    have := (Amu hx).1 hn m hm c2
    omega
   rw [if_neg hno, if_neg (by simp), Ae (by simp; omega), Ae (by unfold InI; omega), decide_eq_true hn, if_pos rfl]
   rfl
  ·have hyes : Lc (2 ^ n) (fun m => (Gv a n (Aj n fun z => A7 m z && !decide (z = x))).length < n ∧ (Gv a n (Aj n (fun z => A7 m z && !decide (z = x)) ++ [(x : Int)])).length = n) := by
    apply Classical.byContradiction
    intro hno
    refine hn ((Amu hx).2 fun m hm c2 => Classical.byContradiction fun c1 => hno (Lc.mk m hm ⟨?_, c2⟩))
    have := Og (a := a) (n := n) (Aj n fun z => A7 m z && !decide (z = x))
    omega
   rw [if_pos hyes, if_pos rfl, Ae (by unfold InI; omega), decide_eq_false hn, if_neg (by simp)]
   rfl) (fun acc => by
  unfold B5
  dsimp only
  rw [h.sz, if_neg (by omega)])]
 rfl
theorem Ak0 (h : ReadyA a n) (hsm : I6 a) : ∃ xs, Bf a = some (xs, true) ∧ Pc a n xs := by
 have hL := Av
 have h8 := h.le
 have hp := h.pow
 have hp0 : 0 < 2 ^ n := Nat.two_pow_pos n
 unfold Bf
 rw [Gk hsm, decide_eq_true h.good]
 simp only [Option.bind_some, if_true]
 have key := Cy (body := Bo a) (fun i => ((i : Int), E6 n (fun _ => true) i)) (2 ^ n) (E6 n (fun _ => true) (2 ^ n)) (fun i hi => by
  have hlen := N0 n (fun _ => true) i
  unfold Bo
  dsimp only
  rw [h.sz, Ae (by omega), Gu (by omega), if_pos (by omega), Ado (by omega) hi]
  simp only [Option.bind_some]
  rw [Ae (by simp; omega), Ae (by unfold InI; omega), Ol, if_pos rfl]; rfl) (by
  unfold Bo
  dsimp only
  rw [h.sz, Ae (by omega), Gu (by omega), if_neg (by omega)])
 have e0 : ((0 : Int), A5 (List Int)) = (((0 : Nat) : Int), E6 n (fun _ => true) 0) := rfl
 rw [e0, key]
 simp only [Option.bind_some]
 have hlen := N0 n (fun _ => true) (2 ^ n)
 have hrow : ∀ r ∈ E6 n (fun _ => true) (2 ^ n), Bc r n ∧ r.length ≤ n := fun r hr => by
  obtain ⟨k, _, _, rfl⟩ := La hr
  exact ⟨D9 _ _, Dk n (A7 k)⟩
 rw [Ab2 (ys := Nt (E6 n (fun _ => true) (2 ^ n))) (by omega) (fun r hr => by have := (hrow r hr).2; omega) (Eg _) (Mq _)]
 simp only [Option.bind_some]
 have hmem : ∀ r, r ∈ Nt (E6 n (fun _ => true) (2 ^ n)) ↔ r ∈ E6 n (fun _ => true) (2 ^ n) := fun r => (Eg _).mem_iff
 have hlo : (Nt (E6 n (fun _ => true) (2 ^ n))).length ≤ 2 ^ n := by rw [(Eg _).length_eq]; exact hlen
 have hfirst := fun (xs : List Int) s t e hx hs => Amm (a := a) (xs := xs) (s := s) (t := t) h e hx hs
 generalize Nt (E6 n (fun _ => true) (2 ^ n)) = rows at hmem hlo hfirst ⊢
 have hgen : ∀ i, i < rows.length → Bm a (nth rows i) = some (Gv a n (nth rows i)) := fun i hi => by
  obtain ⟨k1, k2⟩ := hrow _ ((hmem _).1 (Bb hi))
  exact Ads h k1 (by omega)
 rcases Q5 (body := Ba a rows) (fun i => (i : Int)) rows.length (fun i => Gj a n (nth rows i)) (fun i => .inl (nth rows i)) (.inr ()) (fun i hi hh => by
   unfold Ba
   rw [if_pos (by omega), Ae (by omega), Int.toNat_natCast, hgen i hi]
   simp only [Option.bind_some]
   unfold Gj at hh
   rw [h.sz, if_neg (by omega), Ae (by unfold InI; omega)]; rfl) (fun i hi hh => by
   unfold Ba
   rw [if_pos (by omega), Ae (by omega), Int.toNat_natCast, hgen i hi]
   simp only [Option.bind_some]
   unfold Gj at hh
   rw [h.sz, if_pos (by omega)]) (by
   unfold Ba
   rw [if_neg (by omega)]) with ⟨i, hi, hh, hno, e⟩ | ⟨hno, e⟩
 ·have e' : Am (Ba a rows) 0 = some (.inl (nth rows i)) := e
  rw [e']
  refine ⟨_, rfl, hfirst (nth rows i) (rows.take i) (rows.drop (i + 1)) ?_ hh fun r hr => ?_⟩
  ·rw [← Aia hi, List.take_append_drop]
  ·obtain ⟨j, hj, rfl⟩ := Ed.1 hr
   simp only [List.length_take] at hj
   have e2 : nth (rows.take i) j = nth rows j := by
    rw [Ck (by simp; omega), Ck (by omega), List.getElem_take]
   rw [e2]
   exact hno j (by omega)
 ·exfalso
  have hw : whole n ∈ rows := (hmem _).2 (by
   have := Wg (n := n) (P := fun _ => true) (G3 (fun _ => true) n) rfl
   rwa [Ov] at this)
  obtain ⟨i, hi, e2⟩ := Ed.1 hw
  refine hno i hi ?_
  rw [e2]; exact Ah3 h
theorem An0 (m : Nat) : V2 a n (m + 1) = if Gj a n (Aj n (A7 m)) then V2 a n m ++ [Aj n (A7 m)] else V2 a n m := by
 unfold V2
 rw [Ol]
 by_cases hg : Gj a n (Aj n (A7 m))
 ·rw [if_pos (decide_eq_true hg), if_pos hg]
 ·rw [if_neg (by simp [hg]), if_neg hg]
theorem Anh (h : ReadyA a n) (hsm : I6 a) : ∃ xs, Bh a = some (xs, true) ∧ Pc a n xs := by
 have hL := Av
 have h8 := h.le
 have hp := h.pow
 have hp0 : 0 < 2 ^ n := Nat.two_pow_pos n
 unfold Bh
 rw [O0 hsm, decide_eq_true h.good]
 simp only [Option.bind_some, if_true]
 obtain ⟨xs, e, hx⟩ := Fh (body := Ce a) (fun s => ∃ m : Nat, s.1 = (m : Int) ∧ m ≤ 2 ^ n ∧ s.2.2.length ≤ n ∧ ((s.2.1 = true ∧ s.2.2 ∈ V2 a n m ∧ ∀ ys ∈ V2 a n m, ¬ tLt ys s.2.2) ∨ (s.2.1 = false ∧ V2 a n m = [])))
  (fun s => 2 ^ n - s.1.toNat) (fun xs => Pc a n xs) (fun s hs => by
  obtain ⟨x, f, best⟩ := s
  obtain ⟨m, hm, hml, hbl, hinv⟩ := hs
  simp only at hm hml hbl hinv
  subst hm
  have hsl := Dk n (A7 m)
  unfold Ce
  dsimp only
  rw [h.sz]
  by_cases hlt : m < 2 ^ n
  ·left
   rw [Ae (by omega), Gu (by omega), if_pos (by omega), Afn (by omega) hlt]
   simp only [Option.bind_some]
   have hbet : ((if f = true then
    if ((Aj n (A7 m)).length : Int) < (best.length : Int) then
     some true
    else
     if ((Aj n (A7 m)).length : Int) = (best.length : Int) then
     (Ft (Aj n (A7 m)) best).bind fun r9 =>
     some r9
     else
     some false
    else
    some true : Option Bool)) = some (decide (f = false ∨ tLt (Aj n (A7 m)) best)) := by
    cases f with
    | false => simp
    | true =>
      rw [if_pos rfl]
      by_cases c1 : (Aj n (A7 m)).length < best.length
      ·rw [if_pos (by omega), decide_eq_true (.inr (.inl c1))]
      ·rw [if_neg (by omega)]
       by_cases c2 : (Aj n (A7 m)).length = best.length
       ·rw [if_pos (by omega), Amb c2 (by omega)]
        simp only [Option.bind_some]
        congr 1
        rw [decide_eq_decide]
        constructor
        ·intro hh; exact .inr (.inr ⟨c2, hh⟩)
        ·rintro (hh | hh | ⟨_, hh⟩)
         ·cases hh
         ·exact absurd hh c1
         ·exact hh
       ·rw [if_neg (by omega), decide_eq_false]
        rintro (hh | hh | ⟨hh, _⟩)
        ·cases hh
        ·exact c1 hh
        ·exact c2 hh
   rw [hbet]
   simp only [Option.bind_some]
   have hsucc := An0 (a := a) (n := n) m
   by_cases hb : f = false ∨ tLt (Aj n (A7 m)) best
   ·rw [decide_eq_true hb, if_pos rfl, Aem h (D9 _ _) (by omega)]
    simp only [Option.bind_some]
    by_cases hg : Gj a n (Aj n (A7 m))
    ·rw [if_pos hg] at hsucc
     unfold Gj at hg
     rw [if_pos (by omega), Ae (by unfold InI; omega)]
     refine ⟨_, rfl, ⟨m + 1, rfl, hlt, by simp only; omega, .inl ⟨rfl, by rw [hsucc]; simp, fun ys hy => ?_⟩⟩, by simp only; omega⟩
     rw [hsucc] at hy
     rcases List.mem_append.1 hy with hy | hy
     ·rcases hinv with ⟨h1, h2, h3⟩ | ⟨h1, h2⟩
      ·rcases hb with hb | hb
       ·rw [h1] at hb; cases hb
       ·exact fun hc => h3 ys hy (N1 hc hb)
      ·rw [h2] at hy; cases hy
     ·rw [List.mem_singleton.1 hy]; exact Oz _
    ·rw [if_neg hg] at hsucc
     unfold Gj at hg
     rw [if_neg (by omega), Ae (by unfold InI; omega)]
     exact ⟨_, rfl, ⟨m + 1, rfl, hlt, hbl, by simp only; rw [hsucc]; exact hinv⟩, by simp only; omega⟩
   ·rw [decide_eq_false hb, if_neg (by simp), Ae (by unfold InI; omega)]
    refine ⟨_, rfl, ⟨m + 1, rfl, hlt, hbl, ?_⟩, by simp only; omega⟩
    simp only
    rcases hinv with ⟨h1, h2, h3⟩ | ⟨h1, h2⟩
    ·left
     refine ⟨h1, ?_, fun ys hy => ?_⟩
     ·rw [hsucc]
      split
      ·exact List.mem_append_left _ h2
      ·exact h2
     ·rw [hsucc] at hy
      split at hy
      ·rcases List.mem_append.1 hy with hy | hy
       ·exact h3 ys hy
       ·rw [List.mem_singleton.1 hy]; exact fun hc => hb (.inr hc)
      ·exact h3 ys hy
    ·exact absurd (.inl h1) hb
  ·right
   have e : m = 2 ^ n := by omega
   subst e
   rw [Ae (by omega), Gu (by omega), if_neg (by omega)]
   refine ⟨_, rfl, ?_⟩
   rcases hinv with ⟨_, h2, h3⟩ | ⟨_, h2⟩
   ·exact ⟨h2, h3⟩
   ·have hw : whole n ∈ V2 a n (2 ^ n) := Nx.2 ⟨D9 _ _, Hg _ _, Ah3 h⟩
    rw [h2] at hw; cases hw) (s := ((0 : Int), false, A5 Int)) ⟨0, rfl, Nat.zero_le _, by simp [A5], .inr ⟨rfl, rfl⟩⟩
 rw [e]
 exact ⟨_, rfl, hx⟩
theorem An5 (h : ReadyA a n) (hsm : I6 a) : ∃ xs, Bf a = some (xs, true) ∧ Bh a = some (xs, true) ∧ Pc a n xs := by
 obtain ⟨xs, e1, h1⟩ := Ak0 h hsm
 obtain ⟨ys, e2, h2⟩ := Anh h hsm
 have := Anl h2 h1
 subst this
 exact ⟨_, e1, e2, h1⟩
end
end Go.Proofs.Ytidaaijecmkndaa.Ax
namespace Go.Proofs.Ytidaaijecmkndaa.Ax
open Go Classical
section
variable {a : SAlgebra} {n : Nat}
def Asl (a : SAlgebra) (xs : List Int) : Prop := Zf a ∧ xs.length ≤ 20 ∧ Bc xs a.Size
theorem P5 (hsm : I6 a) {xs : List Int} (hl : xs.length ≤ LIM) : Cn a xs = some (decide (Asl a xs)) := by
 unfold Cn
 rw [Gk hsm]
 simp only [Option.bind_some]
 by_cases hg : Zf a
 ·rw [decide_eq_true hg, if_pos rfl]
  by_cases h20 : xs.length ≤ 20
  ·rw [if_pos (by omega), Aes _ _ hl]
   simp only [Option.bind_some]
   congr 1
   rw [decide_eq_decide]
   exact ⟨fun hh => ⟨hg, h20, hh⟩, fun hh => hh.2.2⟩
  ·rw [if_neg (by omega), decide_eq_false (fun hh => h20 hh.2.1)]
 ·rw [decide_eq_false hg, if_neg (by simp), decide_eq_false (fun hh => hg hh.1)]
theorem Aa2 (h : ReadyA a n) {xs : List Int} (hx : Bc xs n) (hl : xs.length ≤ 20) : Asl a xs := ⟨h.good, hl, by rw [h.sz]; exact hx⟩
theorem Acl (h : ReadyA a n) (hsm : I6 a) {xs : List Int} (hx : Bc xs n) (hl : xs.length ≤ 20) : Es a xs = some (Gv a n xs, true) := by
 have hL := Av
 unfold Es
 rw [P5 hsm (by omega), decide_eq_true (Aa2 h hx hl)]
 simp only [Option.bind_some, if_true]
 rw [Ads h hx (by omega)]; rfl
theorem Aaq (h : ReadyA a n) (hsm : I6 a) {xs : List Int} (hx : Bc xs n) (hl : xs.length ≤ 20) (hg : Gj a n xs) : Ea a xs = some (true, true) := by
 have hL := Av
 unfold Ea
 rw [P5 hsm (by omega), decide_eq_true (Aa2 h hx hl)]
 simp only [Option.bind_some, if_true]
 rw [Ads h hx (by omega), h.sz]
 simp only [Option.bind_some]
 unfold Gj at hg
 rw [hg]
 simp
theorem Aq6 {xs : List Int} {i : Nat} (hi : i < xs.length) (hl : xs.length ≤ 1048576) : Hn xs i = some (xs.take i ++ xs.drop (i + 1)) := by
 have hL := Av
 unfold Hn
 have e1 : (List.take (((i : Int)).toNat - Int.toNat 0) (List.drop (Int.toNat 0) xs)) = xs.take i := by simp
 have e3 : ((i : Int) + 1).toNat = i + 1 := by omega
 have e2 : List.take ((xs.length : Int).toNat - ((i : Int) + 1).toNat) (List.drop ((i : Int) + 1).toNat xs) = xs.drop (i + 1) := by
  rw [e3, Int.toNat_natCast]
  exact List.take_of_length_le (by simp)
 rw [Ae (by omega), e1, Alf (by simp; omega)]
 simp only [Option.bind_some]
 rw [Ae (by unfold InI; omega), Ae (by omega), e2, Ae (by simp; omega)]
theorem Yz (h : ReadyA a n) (hsm : I6 a) {xs : List Int} (hx : Bc xs n) (hl : xs.length ≤ 20) (hf : ∀ i, i < xs.length → nth xs i ∉ Gv a n (xs.take i ++ xs.drop (i + 1))) : Dw a xs = some (true, true) := by
 have hL := Av
 have h8 := h.le
 unfold Dw
 rw [P5 hsm (by omega), decide_eq_true (Aa2 h hx hl)]
 simp only [Option.bind_some, if_true]
 have key := Cy (body := Bn a xs) (fun i => (i : Int)) xs.length (.inr ()) (fun i hi => by
  have hin : Bc (xs.take i ++ xs.drop (i + 1)) n := fun v hv => by
   rcases List.mem_append.1 hv with hv | hv
   ·exact hx v (List.mem_of_mem_take hv)
   ·exact hx v (List.mem_of_mem_drop hv)
  have hgl := Og (a := a) (n := n) (xs.take i ++ xs.drop (i + 1))
  unfold Bn
  rw [if_pos (by omega), Ae (by omega), Aq6 hi (by omega)]
  simp only [Option.bind_some]
  rw [Ads h hin (by simp; omega)]
  simp only [Option.bind_some]
  rw [Int.toNat_natCast, Afh _ _ (by omega), decide_eq_true (hf i hi)]
  simp only [Option.bind_some, if_true]
  rw [Ae (by unfold InI; omega)]; rfl) (by
  unfold Bn
  rw [if_neg (by omega)])
 have key' : Am (Bn a xs) 0 = some (.inr ()) := key
 rw [key']; rfl
end
end Go.Proofs.Ytidaaijecmkndaa.Ax
