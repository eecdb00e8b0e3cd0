/-
 Plain facts, joined.
-/
import Derived.Test.YtoaojijoefljaaaAx4
import Derived.Test.YtoaojijoefljaaaGALL
namespace Go.Proofs.Ytoaojijoefljaaa.Ax
open Go
abbrev BIG : Nat := 9223372036854775807
theorem Qc {α : Type} [Inhabited α] {xs : List α} {i : Nat} (h : i < xs.length) : nth xs i = xs[i] := by simp [nth, List.getD_eq_getElem?_getD, h]
theorem A9 {α : Type} [Inhabited α] {xs : List α} {i : Nat} (h : i < xs.length) : nth xs i ∈ xs := by rw [Qc h]; exact List.getElem_mem h
theorem D1 {α β : Type} [Inhabited α] [Inhabited β] (f : α → β) {xs : List α} {i : Nat} (h : i < xs.length) : nth (xs.map f) i = f (nth xs i) := by
 rw [Qc h, Qc (by simpa using h)]; simp
theorem Pb {i n : Nat} (h : i < n) : nth (List.range n) i = i := by rw [Qc (by simpa using h)]; simp
theorem Cy {α : Type} [Inhabited α] {xs ys : List α} {i : Nat} (h : i < xs.length) : nth (xs ++ ys) i = nth xs i := by
 rw [Qc (by simp; omega), Qc h, List.getElem_append_left h]
theorem Qn {α : Type} [Inhabited α] {xs : List α} {y : α} : nth (xs ++ [y]) xs.length = y := by
 rw [Qc (by simp)]; simp
theorem Ab5 {α : Type} [Inhabited α] {xs ys : List α} (hl : xs.length = ys.length) (h : ∀ i, i < xs.length → nth xs i = nth ys i) : xs = ys := by
 refine List.ext_getElem hl fun i h1 h2 => ?_
 have := h i h1
 rwa [Qc h1, Qc h2] at this
theorem Pa {α : Type} [Inhabited α] {xs : List α} {x : α} : x ∈ xs ↔ ∃ i, i < xs.length ∧ nth xs i = x := by
 constructor
 ·intro h
  obtain ⟨i, h1, h2⟩ := List.mem_iff_getElem.1 h
  exact ⟨i, h1, by rw [Qc h1, h2]⟩
 ·rintro ⟨i, h1, rfl⟩; exact A9 h1
theorem D4 {α : Type} [Inhabited α] {xs : List α} {i : Nat} (h : i < xs.length) : xs.take (i + 1) = xs.take i ++ [nth xs i] := by
 rw [List.take_add_one, Qc h]; simp [h]
theorem Arb {α : Type} (xs : List α) (z v : α) {i n : Nat} (hi : i < n) (hl : xs.length = i) : (xs ++ List.replicate (n - i) z).set i v = (xs ++ [v]) ++ List.replicate (n - (i + 1)) z := by
 subst hl
 rw [List.set_append_right _ _ (Nat.le_refl _), Nat.sub_self]
 have : n - xs.length = (n - (xs.length + 1)) + 1 := by omega
 rw [this, List.replicate_succ, List.set_cons_zero]
 simp
section
variable {σ τ : Type} {body : σ → Option (σ ⊕ τ)}
theorem Mq {s s' : σ} (h : body s = some (.inl s')) : Ar body s = Ar body s' := by rw [Acc, h]
theorem Fa {s : σ} {t : τ} (h : body s = some (.inr t)) : Ar body s = some t := by rw [Acc, h]
theorem Bs (s : Nat → σ) (n : Nat) (t : τ) (h : ∀ i, i < n → body (s i) = some (.inl (s (i + 1)))) (he : body (s n) = some (.inr t)) : Ar body (s 0) = some t := by
 have key : ∀ k, k ≤ n → Ar body (s 0) = Ar body (s k) := by
  intro k
  induction k with
  | zero => intro _; rfl
  | succ k ih => intro hk; rw [ih (by omega), Mq (h k (by omega))]
 rw [key n (Nat.le_refl _), Fa he]
theorem Yf (s : Nat → σ) (i0 n : Nat) (t : τ) (h0 : i0 ≤ n) (h : ∀ i, i0 ≤ i → i < n → body (s i) = some (.inl (s (i + 1)))) (he : body (s n) = some (.inr t)) : Ar body (s i0) = some t := by
 have := Bs (body := body) (fun k => s (i0 + k)) (n - i0) t (fun i hi => by simpa [Nat.add_assoc] using h (i0 + i) (by omega) (by omega)) (by
  show body (s (i0 + (n - i0))) = _
  rw [show i0 + (n - i0) = n by omega]; exact he)
 simpa using this
theorem Gt (inv : σ → Prop) (μ : σ → Nat) (post : τ → Prop) (h : ∀ s, inv s → (∃ s', body s = some (.inl s') ∧ inv s' ∧ μ s' < μ s) ∨ (∃ t, body s = some (.inr t) ∧ post t)) : ∀ {s : σ}, inv s → ∃ t, Ar body s = some t ∧ post t := by
 have key : ∀ k s, μ s ≤ k → inv s → ∃ t, Ar body s = some t ∧ post t := by
  intro k
  induction k with
  | zero =>
    intro s hk hs
    rcases h s hs with ⟨s', h1, h2, h3⟩ | ⟨t, h1, h2⟩
    ·omega
    ·exact ⟨t, Fa h1, h2⟩
  | succ k ih =>
    intro s hk hs
    rcases h s hs with ⟨s', h1, h2, h3⟩ | ⟨t, h1, h2⟩
    ·rw [Mq h1]; exact ih s' (by omega) h2
    ·exact ⟨t, Fa h1, h2⟩
 intro s hs
 exact key (μ s) s (Nat.le_refl _) hs
end
open Classical in
theorem Aqr {σ α β : Type} {body : σ → Option (σ ⊕ (α ⊕ β))} (s : Nat → σ) (i0 n : Nat) (bad : Nat → Prop) (a : α) (b : β) (hi0 : i0 ≤ n)
  (h : ∀ i, i0 ≤ i → i < n → ¬ bad i → body (s i) = some (.inl (s (i + 1)))) (hb : ∀ i, i0 ≤ i → i < n → bad i → body (s i) = some (.inr (.inl a))) (he : body (s n) = some (.inr (.inr b))) :
  Ar body (s i0) = some (if ∃ i, i0 ≤ i ∧ i < n ∧ bad i then .inl a else .inr b) := by
 by_cases hx : ∃ i, i0 ≤ i ∧ i < n ∧ bad i
 ·rw [if_pos hx]
  obtain ⟨i, h1, h2, h3, h4⟩ : ∃ i, i0 ≤ i ∧ i < n ∧ bad i ∧ ∀ j, i0 ≤ j → j < i → ¬ bad j := by
   have key : ∀ k i, i ≤ k → i0 ≤ i → i < n → bad i → ∃ i, i0 ≤ i ∧ i < n ∧ bad i ∧ ∀ j, i0 ≤ j → j < i → ¬ bad j := by
    intro k
    induction k with
    | zero => intro i hk h1 h2 h3; exact ⟨i, h1, h2, h3, fun j _ hj => by omega⟩
    | succ k ih =>
      intro i hk h1 h2 h3
      by_cases hy : ∃ j, i0 ≤ j ∧ j < i ∧ bad j
      ·obtain ⟨j, k1, k2, k3⟩ := hy
       exact ih j (by omega) k1 (by omega) k3
      ·exact ⟨i, h1, h2, h3, fun j k1 k2 k3 => hy ⟨j, k1, k2, k3⟩⟩
   obtain ⟨i, h1, h2, h3⟩ := hx
   exact key i i (Nat.le_refl _) h1 h2 h3
  exact Yf s i0 i (.inl a) h1 (fun j k1 k2 => h j k1 (by omega) (h4 j k1 k2)) (hb i h1 h2 h3)
 ·rw [if_neg hx]
  exact Yf s i0 n (.inr b) hi0 (fun j k1 k2 => h j k1 k2 fun hc => hx ⟨j, k1, k2, hc⟩) he
open Classical in
theorem Hf {σ α β : Type} {body : σ → Option (σ ⊕ (α ⊕ β))} (s : Nat → σ) (n : Nat) (bad : Nat → Prop) (a : α) (b : β)
  (h : ∀ i, i < n → ¬ bad i → body (s i) = some (.inl (s (i + 1)))) (hb : ∀ i, i < n → bad i → body (s i) = some (.inr (.inl a))) (he : body (s n) = some (.inr (.inr b))) (i0 : Nat) (hi0 : i0 ≤ n) :
  Ar body (s i0) = some (if ∃ i, i0 ≤ i ∧ i < n ∧ bad i then .inl a else .inr b) :=
 Aqr s i0 n bad a b hi0 (fun i _ => h i) (fun i _ => hb i) he
open Classical in
theorem Pc {σ : Type} {body : σ → Option (σ ⊕ (Unit ⊕ Unit))} {s0 : σ} {p : Prop} (h : Ar body s0 = some (if p then .inl () else .inr ())) (x y : Bool) :
  ((Ar body s0).bind fun t => match t with | .inl _ => some x | .inr _ => some y) = some (if p then x else y) := by
 rw [h]
 by_cases hp : p <;> simp [hp]
end Go.Proofs.Ytoaojijoefljaaa.Ax
namespace Go.Proofs.Ytoaojijoefljaaa.Ax
open Go Classical
theorem Bk : LIM = 4294967296 := rfl
theorem Ng {n : Nat} {p : Nat → Prop} : (¬ ∃ i, 0 ≤ i ∧ i < n ∧ ¬ p i) ↔ ∀ i, i < n → p i := by
 constructor
 ·intro h i hi; exact Classical.byContradiction fun hc => h ⟨i, by omega, hi, hc⟩
 ·rintro h ⟨i, _, hi, hc⟩; exact hc (h i hi)
end Go.Proofs.Ytoaojijoefljaaa.Ax
namespace Go.Proofs.Ytoaojijoefljaaa.Ax
open Go Classical
theorem X6 {p q : Prop} [Decidable p] [Decidable q] (h : ¬ p ↔ q) : (if p then false else true) = decide q := by
 by_cases hp : p
 ·rw [if_pos hp, decide_eq_false]; exact fun hq => h.2 hq hp
 ·rw [if_neg hp, decide_eq_true (h.1 hp)]
theorem Ut (x a b : Int) : Ey x a b = some (decide (a ≤ x ∧ x ≤ b)) := by
 unfold Ey
 split
 ·rename_i h; congr 1; rw [decide_eq_decide]; constructor
  ·intro h2; exact ⟨h, h2⟩
  ·exact fun h2 => h2.2
 ·rename_i h; rw [decide_eq_false]; exact fun h2 => h h2.1
def Axx (xs : List Int) (lo hi : Int) : Prop := ∀ i, i < xs.length → (lo ≤ nth xs i ∧ nth xs i ≤ hi) ∧ (0 < i → nth xs (i - 1) < nth xs i)
def Ct (xs : List Int) (n : Int) : Prop := ∀ x ∈ xs, 0 ≤ x ∧ x < n
theorem Amr (xs : List Int) (n : Int) (h : xs.length ≤ LIM) : Ig xs n = some (decide (Ct xs n)) := by
 unfold Ig
 rw [Bk] at h
 have := Hf (body := El xs n) (fun i => (i : Int)) xs.length (fun i => ¬ (0 ≤ nth xs i ∧ nth xs i < n)) () () (fun i hi hb => by
  unfold El
  have hb := Classical.not_not.1 hb
  rw [if_pos (by omega), Af (by omega)]
  simp only [Int.toNat_natCast]
  rw [if_neg (by omega), if_neg (by omega), Af (by unfold InI; omega)]; rfl) (fun i hi hb => by
  unfold El
  rw [if_pos (by omega), Af (by omega)]
  simp only [Int.toNat_natCast]
  by_cases h0 : nth xs i < 0
  ·rw [if_pos h0]
  ·rw [if_neg h0, if_pos (by omega)]) (by unfold El; rw [if_neg (by omega)]) 0 (by omega)
 refine (Pc this false true).trans (congrArg some (X6 ?_))
 rw [Ng]
 constructor
 ·intro h x hx; obtain ⟨i, hi, rfl⟩ := Pa.1 hx; exact h i hi
 ·intro h i hi; exact h _ (A9 hi)
end Go.Proofs.Ytoaojijoefljaaa.Ax
namespace Go.Proofs.Ytoaojijoefljaaa.Ax
open Go Classical
noncomputable def below (xss : List (List Int)) (y x : Nat) : Bool := decide ((y : Int) ∈ nth xss x)
def good (xss : List (List Int)) : Prop := xss.length ≤ 10 ∧ (∀ x, x < xss.length → Axx (nth xss x) 0 (xss.length - 1) ∧ (x : Int) ∈ nth xss x) ∧
 ∀ x, x < xss.length → ∀ i, i < (nth xss x).length → ¬ (nth (nth xss x) i ≠ x ∧ (x : Int) ∈ nth xss (nth (nth xss x) i).toNat) ∧
   ∀ z ∈ nth xss (nth (nth xss x) i).toNat, z ∈ nth xss x
end Go.Proofs.Ytoaojijoefljaaa.Ax
namespace Go.Proofs.Ytoaojijoefljaaa.Ax
open Go Classical
end Go.Proofs.Ytoaojijoefljaaa.Ax
namespace Go.Proofs.Ytoaojijoefljaaa.Ax
open Go Classical
def S8 (n : Nat) (p : Nat → Bool) : List Int := ((List.range n).filter p).map fun i : Nat => (i : Int)
theorem Agp (n : Nat) (p : Nat → Bool) : S8 (n + 1) p = if p n then S8 n p ++ [(n : Int)] else S8 n p := by
 unfold S8
 rw [List.range_succ, List.filter_append, List.map_append]
 by_cases h : p n <;> simp [h]
theorem Ajz {n : Nat} {p : Nat → Bool} {x : Int} : x ∈ S8 n p ↔ ∃ i : Nat, i < n ∧ p i = true ∧ x = i := by
 unfold S8
 rw [List.mem_map]
 constructor
 ·rintro ⟨i, hi, rfl⟩
  have := List.mem_filter.1 hi
  exact ⟨i, List.mem_range.1 this.1, this.2, rfl⟩
 ·rintro ⟨i, h1, h2, rfl⟩
  exact ⟨i, List.mem_filter.2 ⟨List.mem_range.2 h1, h2⟩, rfl⟩
theorem Asz {n : Nat} {p : Nat → Bool} : S8 n p = [] ↔ ∀ i, i < n → p i = false := by
 constructor
 ·intro h i hi
  cases hp : p i with
  | false => rfl
  | true =>
    have : (i : Int) ∈ S8 n p := Ajz.2 ⟨i, hi, hp, rfl⟩
    rw [h] at this; cases this
 ·intro h
  refine List.eq_nil_iff_forall_not_mem.2 fun x hx => ?_
  obtain ⟨i, h1, h2, _⟩ := Ajz.1 hx
  rw [h i h1] at h2; cases h2
section
end
end Go.Proofs.Ytoaojijoefljaaa.Ax
namespace Go.Proofs.Ytoaojijoefljaaa.Ax
open Go Classical
theorem Akv (n : Int) : InI n ↔ -9223372036854775808 ≤ n ∧ n ≤ 9223372036854775807 := Iff.rfl
section
end
theorem Ale (n : Nat) (xs : List Int) (h : xs.length ≤ LIM) (hn : n ≤ LIM) : Gr n xs = some (decide (Ct xs n)) := by
 unfold Gr
 rw [Bk] at h hn
 have e := Hf (body := Cr n xs) (fun i => (i : Int)) xs.length (fun i => ¬ (0 ≤ nth xs i ∧ nth xs i < n)) () () (fun i hi hb => by
  have hc : 0 ≤ nth xs i ∧ nth xs i ≤ n - 1 := by have := Classical.not_not.1 hb; omega
  unfold Cr
  simp (disch := omega) only [Af, if_pos, if_true, Akv, Int.toNat_natCast, Int.natCast_add, Int.natCast_one, Option.bind_some, Ut, hc, and_self, decide_true]) (fun i hi hb => by
  have hc : ¬ (0 ≤ nth xs i ∧ nth xs i ≤ n - 1) := fun hh => hb (by omega)
  unfold Cr
  simp (disch := omega) only [Af, if_pos, if_false, Akv, Int.toNat_natCast, Option.bind_some, Bool.false_eq_true, Ut, hc, decide_false]) (by
  unfold Cr
  simp (disch := omega) only [Af, if_pos, if_neg, Akv, Int.toNat_natCast]) 0 (Nat.zero_le _)
 refine (Pc e false true).trans ?_
 congr 1
 refine X6 ?_
 rw [Ng]
 constructor
 ·intro hh x hx
  obtain ⟨i, hi, rfl⟩ := Pa.1 hx
  exact hh i hi
 ·intro hh i hi
  exact hh _ (A9 hi)
end Go.Proofs.Ytoaojijoefljaaa.Ax
namespace Go.Proofs.Ytoaojijoefljaaa.Ax
open Go Classical
structure Ord (n : Nat) (f : Nat → Nat → Bool) : Prop where
 refl : ∀ x, x < n → f x x = true
 Azf : ∀ x y, x < n → y < n → f x y = true → f y x = true → x = y
 trans : ∀ x y z, x < n → y < n → z < n → f x y = true → f y z = true → f x z = true
section
variable {n : Nat} {f : Nat → Nat → Bool} {L : Nat → Bool}
end
end Go.Proofs.Ytoaojijoefljaaa.Ax
namespace Go.Proofs.Ytoaojijoefljaaa.Ax
open Go Classical
section
end
section
variable {n : Nat} {f : Nat → Nat → Bool}
end
section
end
end Go.Proofs.Ytoaojijoefljaaa.Ax
namespace Go.Proofs.Ytoaojijoefljaaa.Ax
open Go Classical
section
variable {n : Nat} {f : Nat → Nat → Bool}
end
end Go.Proofs.Ytoaojijoefljaaa.Ax
namespace Go.Proofs.Ytoaojijoefljaaa.Ax
open Go Classical
section
end
section
variable {n : Nat} {f : Nat → Nat → Bool}
end
section
end
end Go.Proofs.Ytoaojijoefljaaa.Ax
namespace Go.Proofs.Ytoaojijoefljaaa.Ax
open Go Classical
section
end
end Go.Proofs.Ytoaojijoefljaaa.Ax
namespace Go.Proofs.Ytoaojijoefljaaa.Ax
open Go Classical
section
end
end Go.Proofs.Ytoaojijoefljaaa.Ax
