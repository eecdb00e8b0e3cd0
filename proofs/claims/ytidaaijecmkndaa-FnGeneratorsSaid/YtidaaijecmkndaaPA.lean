/-
 Plain facts, joined.
-/
import Derived.Test.YtidaaijecmkndaaAx4
import Derived.Test.YtidaaijecmkndaaGALL
namespace Go.Proofs.Ytidaaijecmkndaa.Ax
open Go
abbrev BIG : Nat := 9223372036854775807
theorem Aix {α : Type} [Inhabited α] (xs : List α) (i : Nat) : nth xs i = xs.getD i default := rfl
theorem Ck {α : Type} [Inhabited α] {xs : List α} {i : Nat} (h : i < xs.length) : nth xs i = xs[i] := by simp [nth, List.getD_eq_getElem?_getD, h]
theorem Bb {α : Type} [Inhabited α] {xs : List α} {i : Nat} (h : i < xs.length) : nth xs i ∈ xs := by rw [Ck h]; exact List.getElem_mem h
theorem Adi {α β : Type} [Inhabited α] [Inhabited β] (f : α → β) {xs : List α} {i : Nat} (h : i < xs.length) : nth (xs.map f) i = f (nth xs i) := by
 rw [Ck h, Ck (by simpa using h)]; simp
theorem Aq5 {i n : Nat} (h : i < n) : nth (List.range n) i = i := by rw [Ck (by simpa using h)]; simp
theorem Af5 {α : Type} [Inhabited α] {n i : Nat} (x : α) (h : i < n) : nth (List.replicate n x) i = x := by rw [Ck (by simpa using h)]; simp
theorem Ap5 {α : Type} [Inhabited α] (xs : List α) (i j : Nat) (v : α) (h : j < xs.length) : nth (xs.set i v) j = if i = j then v else nth xs j := by
 rw [Ck (by simpa using h), Ck h, List.getElem_set]
theorem My {α : Type} [Inhabited α] {xs ys : List α} {i : Nat} (h : i < xs.length) : nth (xs ++ ys) i = nth xs i := by
 rw [Ck (by simp; omega), Ck h, List.getElem_append_left h]
theorem Afd {α : Type} [Inhabited α] {xs : List α} {y : α} : nth (xs ++ [y]) xs.length = y := by
 rw [Ck (by simp)]; simp
theorem Sz {α : Type} [Inhabited α] {xs ys : List α} (hl : xs.length = ys.length) (h : ∀ i, i < xs.length → nth xs i = nth ys i) : xs = ys := by
 refine List.ext_getElem hl fun i h1 h2 => ?_
 have := h i h1
 rwa [Ck h1, Ck h2] at this
theorem Ed {α : Type} [Inhabited α] {xs : List α} {x : α} : x ∈ xs ↔ ∃ i, i < xs.length ∧ nth xs i = x := by
 constructor
 ·intro h
  obtain ⟨i, h1, h2⟩ := List.mem_iff_getElem.1 h
  exact ⟨i, h1, by rw [Ck h1, h2]⟩
 ·rintro ⟨i, h1, rfl⟩; exact Bb h1
theorem N8 {α : Type} [Inhabited α] {xs : List α} {i : Nat} (h : i < xs.length) : xs.take (i + 1) = xs.take i ++ [nth xs i] := by
 rw [List.take_add_one, Ck h]; simp [h]
theorem Aia {α : Type} [Inhabited α] {xs : List α} {i : Nat} (h : i < xs.length) : xs.drop i = nth xs i :: xs.drop (i + 1) := by
 rw [List.drop_eq_getElem_cons h, Ck h]
theorem Avo {α : Type} (xs : List α) (z v : α) {i n : Nat} (hi : i < n) (hl : xs.length = i) : (xs ++ List.replicate (n - i) z).set i v = (xs ++ [v]) ++ List.replicate (n - (i + 1)) z := by
 subst hl
 rw [List.set_append_right _ _ (Nat.le_refl _), Nat.sub_self]
 have : n - xs.length = (n - (xs.length + 1)) + 1 := by omega
 rw [this, List.replicate_succ, List.set_cons_zero]
 simp
section
variable {σ τ : Type} {body : σ → Option (σ ⊕ τ)}
theorem R6 {s s' : σ} (h : body s = some (.inl s')) : Am body s = Am body s' := by rw [Amc, h]
theorem Ja {s : σ} {t : τ} (h : body s = some (.inr t)) : Am body s = some t := by rw [Amc, h]
theorem Cy (s : Nat → σ) (n : Nat) (t : τ) (h : ∀ i, i < n → body (s i) = some (.inl (s (i + 1)))) (he : body (s n) = some (.inr t)) : Am body (s 0) = some t := by
 have key : ∀ k, k ≤ n → Am body (s 0) = Am body (s k) := by
  intro k
  induction k with
  | zero => intro _; rfl
  | succ k ih => intro hk; rw [ih (by omega), R6 (h k (by omega))]
 rw [key n (Nat.le_refl _), Ja he]
theorem Ahy (s : Nat → σ) (i0 n : Nat) (t : τ) (h0 : i0 ≤ n) (h : ∀ i, i0 ≤ i → i < n → body (s i) = some (.inl (s (i + 1)))) (he : body (s n) = some (.inr t)) : Am body (s i0) = some t := by
 have := Cy (body := body) (fun k => s (i0 + k)) (n - i0) t (fun i hi => by simpa [Nat.add_assoc] using h (i0 + i) (by omega) (by omega)) (by
  show body (s (i0 + (n - i0))) = _
  rw [show i0 + (n - i0) = n by omega]; exact he)
 simpa using this
theorem Fh (inv : σ → Prop) (μ : σ → Nat) (post : τ → Prop) (h : ∀ s, inv s → (∃ s', body s = some (.inl s') ∧ inv s' ∧ μ s' < μ s) ∨ (∃ t, body s = some (.inr t) ∧ post t)) : ∀ {s : σ}, inv s → ∃ t, Am body s = some t ∧ post t := by
 have key : ∀ k s, μ s ≤ k → inv s → ∃ t, Am body s = some t ∧ post t := by
  intro k
  induction k with
  | zero =>
    intro s hk hs
    rcases h s hs with ⟨s', h1, h2, h3⟩ | ⟨t, h1, h2⟩
    ·omega
    ·exact ⟨t, Ja h1, h2⟩
  | succ k ih =>
    intro s hk hs
    rcases h s hs with ⟨s', h1, h2, h3⟩ | ⟨t, h1, h2⟩
    ·rw [R6 h1]; exact ih s' (by omega) h2
    ·exact ⟨t, Ja h1, h2⟩
 intro s hs
 exact key (μ s) s (Nat.le_refl _) hs
end
open Classical in
theorem Ad5 {σ α β : Type} {body : σ → Option (σ ⊕ (α ⊕ β))} (s : Nat → σ) (i0 n : Nat) (bad : Nat → Prop) (a : α) (b : β) (hi0 : i0 ≤ n)
  (h : ∀ i, i0 ≤ i → i < n → ¬ bad i → body (s i) = some (.inl (s (i + 1)))) (hb : ∀ i, i0 ≤ i → i < n → bad i → body (s i) = some (.inr (.inl a))) (he : body (s n) = some (.inr (.inr b))) :
  Am body (s i0) = some (if ∃ i, i0 ≤ i ∧ i < n ∧ bad i then .inl a else .inr b) := by
 by_cases hx : ∃ i, i0 ≤ i ∧ i < n ∧ bad i
 ·rw [if_pos hx]
  obtain ⟨i, h1, h2, h3, h4⟩ : ∃ i, i0 ≤ i ∧ i < n ∧ bad i ∧ ∀ j, i0 ≤ j → j < i → ¬ bad j := by
   have key : ∀ k i, i ≤ k → i0 ≤ i → i < n → bad i → ∃ i, i0 ≤ i ∧ i < n ∧ bad i ∧ ∀ j, i0 ≤ j → j < i → ¬ bad j := by
    intro k
    induction k with
    | zero => intro i hk h1 h2 h3; exact ⟨i, h1, h2, h3, fun j _ hj => by omega⟩
    | succ k ih =>
      intro i hk h1 h2 h3
      by_cases hy : ∃ j, i0 ≤ j ∧ j < i ∧ bad j
      ·obtain ⟨j, k1, k2, k3⟩ := hy
       exact ih j (by omega) k1 (by omega) k3
      ·exact ⟨i, h1, h2, h3, fun j k1 k2 k3 => hy ⟨j, k1, k2, k3⟩⟩
   obtain ⟨i, h1, h2, h3⟩ := hx
   exact key i i (Nat.le_refl _) h1 h2 h3
  exact Ahy s i0 i (.inl a) h1 (fun j k1 k2 => h j k1 (by omega) (h4 j k1 k2)) (hb i h1 h2 h3)
 ·rw [if_neg hx]
  exact Ahy s i0 n (.inr b) hi0 (fun j k1 k2 => h j k1 k2 fun hc => hx ⟨j, k1, k2, hc⟩) he
open Classical in
theorem G8 {σ α β : Type} {body : σ → Option (σ ⊕ (α ⊕ β))} (s : Nat → σ) (n : Nat) (bad : Nat → Prop) (a : α) (b : β)
  (h : ∀ i, i < n → ¬ bad i → body (s i) = some (.inl (s (i + 1)))) (hb : ∀ i, i < n → bad i → body (s i) = some (.inr (.inl a))) (he : body (s n) = some (.inr (.inr b))) (i0 : Nat) (hi0 : i0 ≤ n) :
  Am body (s i0) = some (if ∃ i, i0 ≤ i ∧ i < n ∧ bad i then .inl a else .inr b) :=
 Ad5 s i0 n bad a b hi0 (fun i _ => h i) (fun i _ => hb i) he
open Classical in
theorem Hz {σ : Type} {body : σ → Option (σ ⊕ (Unit ⊕ Unit))} {s0 : σ} {p : Prop} (h : Am body s0 = some (if p then .inl () else .inr ())) (x y : Bool) :
  ((Am body s0).bind fun t => match t with | .inl _ => some x | .inr _ => some y) = some (if p then x else y) := by
 rw [h]
 by_cases hp : p <;> simp [hp]
end Go.Proofs.Ytidaaijecmkndaa.Ax
namespace Go.Proofs.Ytidaaijecmkndaa.Ax
open Go Classical
theorem Av : LIM = 4294967296 := rfl
theorem Mb {n : Nat} {p : Nat → Prop} : (¬ ∃ i, 0 ≤ i ∧ i < n ∧ ¬ p i) ↔ ∀ i, i < n → p i := by
 constructor
 ·intro h i hi; exact Classical.byContradiction fun hc => h ⟨i, by omega, hi, hc⟩
 ·rintro h ⟨i, _, hi, hc⟩; exact hc (h i hi)
end Go.Proofs.Ytidaaijecmkndaa.Ax
namespace Go.Proofs.Ytidaaijecmkndaa.Ax
open Go Classical
theorem Pn {p q : Prop} [Decidable p] [Decidable q] (h : ¬ p ↔ q) : (if p then false else true) = decide q := by
 by_cases hp : p
 ·rw [if_pos hp, decide_eq_false]; exact fun hq => h.2 hq hp
 ·rw [if_neg hp, decide_eq_true (h.1 hp)]
theorem Avk {p q : Prop} [Decidable p] [Decidable q] (h : p ↔ q) : (if p then true else false) = decide q := by
 by_cases hp : p
 ·rw [if_pos hp, decide_eq_true (h.1 hp)]
 ·rw [if_neg hp, decide_eq_false]; exact fun hq => hp (h.2 hq)
theorem Aaz (x a b : Int) : Gm x a b = some (decide (a ≤ x ∧ x ≤ b)) := by
 unfold Gm
 split
 ·rename_i h; congr 1; rw [decide_eq_decide]; constructor
  ·intro h2; exact ⟨h, h2⟩
  ·exact fun h2 => h2.2
 ·rename_i h; rw [decide_eq_false]; exact fun h2 => h h2.1
def Aks (xs : List Int) (lo hi : Int) : Prop := ∀ i, i < xs.length → (lo ≤ nth xs i ∧ nth xs i ≤ hi) ∧ (0 < i → nth xs (i - 1) < nth xs i)
theorem Aot (xs : List Int) (lo hi : Int) (h : xs.length ≤ LIM) : G1 xs lo hi = some (decide (Aks xs lo hi)) := by
 unfold G1
 rw [Av] at h
 have := G8 (body := Cr xs lo hi) (fun i => (i : Int)) xs.length (fun i => ¬ ((lo ≤ nth xs i ∧ nth xs i ≤ hi) ∧ (0 < i → nth xs (i - 1) < nth xs i))) () () (fun i hi' hb => by
  have hb := Classical.not_not.1 hb
  unfold Cr
  rw [if_pos (by omega), Ae (by omega), Aaz]
  simp only [Int.toNat_natCast, Option.bind_some]
  rw [if_pos (by simpa using hb.1)]
  by_cases h0 : 0 < i
  ·rw [if_pos (by omega), Ae (by unfold InI; omega), Ae (by omega), Ae (by omega)]
   rw [show ((i : Int) - 1).toNat = i - 1 by omega, if_neg (by have := hb.2 h0; omega), Ae (by unfold InI; omega)]; rfl
  ·rw [if_neg (by omega), Ae (by unfold InI; omega)]; rfl) (fun i hi' hb => by
  unfold Cr
  rw [if_pos (by omega), Ae (by omega), Aaz]
  simp only [Int.toNat_natCast, Option.bind_some]
  by_cases h1 : lo ≤ nth xs i ∧ nth xs i ≤ hi
  ·have h2 : 0 < i ∧ ¬ nth xs (i - 1) < nth xs i := by
    by_cases h0 : 0 < i
    ·exact ⟨h0, fun hc => hb ⟨h1, fun _ => hc⟩⟩
    ·exact absurd ⟨h1, fun hc => absurd hc h0⟩ hb
   rw [if_pos (by simpa using h1), if_pos (by omega), Ae (by unfold InI; omega), Ae (by omega), Ae (by omega)]
   rw [show ((i : Int) - 1).toNat = i - 1 by omega, if_pos (by omega)]
  ·rw [if_neg (by simpa using h1)]) (by unfold Cr; rw [if_neg (by omega)]) 0 (by omega)
 exact (Hz this false true).trans (congrArg some (Pn Mb))
theorem Ap1 (xs : List Int) (n : Int) (h : xs.length ≤ LIM) : Kt xs n = some (decide (n ∈ xs)) := by
 unfold Kt
 rw [Av] at h
 have := G8 (body := D4 xs n) (fun i => (i : Int)) xs.length (fun i => nth xs i = n) () () (fun i hi hb => by
  unfold D4
  rw [if_pos (by omega), Ae (by omega)]
  simp only [Int.toNat_natCast]
  rw [if_neg hb, Ae (by unfold InI; omega)]; rfl) (fun i hi hb => by
  unfold D4
  rw [if_pos (by omega), Ae (by omega)]
  simp only [Int.toNat_natCast]
  rw [if_pos hb]) (by unfold D4; rw [if_neg (by omega)]) 0 (by omega)
 refine (Hz this true false).trans (congrArg some (Avk ?_))
 rw [Ed]
 constructor
 ·rintro ⟨i, _, h1, h2⟩; exact ⟨i, h1, h2⟩
 ·rintro ⟨i, h1, h2⟩; exact ⟨i, by omega, h1, h2⟩
theorem Aej (xs ys : List Int) (h1 : xs.length ≤ LIM) (h2 : ys.length ≤ LIM) : Fd xs ys = some (decide (∀ x ∈ xs, x ∈ ys)) := by
 unfold Fd
 rw [Av] at h1
 have := G8 (body := Co xs ys) (fun i => (i : Int)) xs.length (fun i => ¬ nth xs i ∈ ys) () () (fun i hi hb => by
  unfold Co
  rw [if_pos (by omega), Ae (by omega), Ap1 _ _ h2]
  simp only [Int.toNat_natCast, Option.bind_some]
  rw [if_pos (by simpa using hb), Ae (by unfold InI; omega)]; rfl) (fun i hi hb => by
  unfold Co
  rw [if_pos (by omega), Ae (by omega), Ap1 _ _ h2]
  simp only [Int.toNat_natCast, Option.bind_some]
  rw [if_neg (by simpa using hb)]) (by unfold Co; rw [if_neg (by omega)]) 0 (by omega)
 refine (Hz this false true).trans (congrArg some (Pn ?_))
 rw [Mb]
 constructor
 ·intro h x hx; obtain ⟨i, hi, rfl⟩ := Ed.1 hx; exact h i hi
 ·intro h i hi; exact h _ (Bb hi)
def Gg (xs : List Int) : Prop := ∀ i, 0 < i → i < xs.length → nth xs (i - 1) < nth xs i
def Bc (xs : List Int) (n : Int) : Prop := ∀ x ∈ xs, 0 ≤ x ∧ x < n
theorem Avr (xs : List Int) (h : xs.length ≤ LIM) : Kk xs = some (decide (Gg xs)) := by
 unfold Kk
 rw [Av] at h
 by_cases h0 : xs.length = 0
 ·have : Am (Cm xs) 1 = some (.inr ()) := Ja (by unfold Cm; rw [if_neg (by omega)])
  rw [this, decide_eq_true]
  ·rfl
  ·intro i _ hi; omega
 have := Ad5 (body := Cm xs) (fun i => (i : Int)) 1 xs.length (fun i => ¬ nth xs (i - 1) < nth xs i) () () (by omega) (fun i hi0 hi hb => by
  unfold Cm
  rw [if_pos (by omega), Ae (by unfold InI; omega), Ae (by omega), Ae (by omega)]
  simp only [Int.toNat_natCast]
  rw [show ((i : Int) - 1).toNat = i - 1 by omega, if_neg (by have := Classical.not_not.1 hb; omega), Ae (by unfold InI; omega)]; rfl) (fun i hi0 hi hb => by
  unfold Cm
  rw [if_pos (by omega), Ae (by unfold InI; omega), Ae (by omega), Ae (by omega)]
  simp only [Int.toNat_natCast]
  rw [show ((i : Int) - 1).toNat = i - 1 by omega, if_pos (by omega)]) (by unfold Cm; rw [if_neg (by omega)])
 refine (Hz this false true).trans (congrArg some (Pn ?_))
 constructor
 ·intro h2 i h3 h4; exact Classical.byContradiction fun hc => h2 ⟨i, h3, h4, hc⟩
 ·rintro h2 ⟨i, h3, h4, hc⟩; exact hc (h2 i h3 h4)
theorem Aes (xs : List Int) (n : Int) (h : xs.length ≤ LIM) : Fp xs n = some (decide (Bc xs n)) := by
 unfold Fp
 rw [Av] at h
 have := G8 (body := Dj xs n) (fun i => (i : Int)) xs.length (fun i => ¬ (0 ≤ nth xs i ∧ nth xs i < n)) () () (fun i hi hb => by
  unfold Dj
  have hb := Classical.not_not.1 hb
  rw [if_pos (by omega), Ae (by omega)]
  simp only [Int.toNat_natCast]
  rw [if_neg (by omega), if_neg (by omega), Ae (by unfold InI; omega)]; rfl) (fun i hi hb => by
  unfold Dj
  rw [if_pos (by omega), Ae (by omega)]
  simp only [Int.toNat_natCast]
  by_cases h0 : nth xs i < 0
  ·rw [if_pos h0]
  ·rw [if_neg h0, if_pos (by omega)]) (by unfold Dj; rw [if_neg (by omega)]) 0 (by omega)
 refine (Hz this false true).trans (congrArg some (Pn ?_))
 rw [Mb]
 constructor
 ·intro h x hx; obtain ⟨i, hi, rfl⟩ := Ed.1 hx; exact h i hi
 ·intro h i hi; exact h _ (Bb hi)
end Go.Proofs.Ytidaaijecmkndaa.Ax
namespace Go.Proofs.Ytidaaijecmkndaa.Ax
open Go Classical
noncomputable def below (xss : List (List Int)) (y x : Nat) : Bool := decide ((y : Int) ∈ nth xss x)
def good (xss : List (List Int)) : Prop := xss.length ≤ 10 ∧ (∀ x, x < xss.length → Aks (nth xss x) 0 (xss.length - 1) ∧ (x : Int) ∈ nth xss x) ∧
 ∀ x, x < xss.length → ∀ i, i < (nth xss x).length → ¬ (nth (nth xss x) i ≠ x ∧ (x : Int) ∈ nth xss (nth (nth xss x) i).toNat) ∧
   ∀ z ∈ nth xss (nth (nth xss x) i).toNat, z ∈ nth xss x
theorem Ae6 (xs : List Int) (n : Nat) : Aks xs 0 (n - 1) ↔ Gg xs ∧ Bc xs n := by
 constructor
 ·intro h
  refine ⟨fun i h1 h2 => (h i h2).2 h1, fun x hx => ?_⟩
  obtain ⟨i, h1, rfl⟩ := Ed.1 hx
  have := (h i h1).1
  omega
 ·rintro ⟨h1, h2⟩ i hi
  have := h2 _ (Bb hi)
  exact ⟨by omega, fun h => h1 i h hi⟩
end Go.Proofs.Ytidaaijecmkndaa.Ax
namespace Go.Proofs.Ytidaaijecmkndaa.Ax
open Go Classical
end Go.Proofs.Ytidaaijecmkndaa.Ax
namespace Go.Proofs.Ytidaaijecmkndaa.Ax
open Go Classical
def Aj (n : Nat) (p : Nat → Bool) : List Int := ((List.range n).filter p).map fun i : Nat => (i : Int)
theorem Fm {n : Nat} {p q : Nat → Bool} (h : ∀ i, i < n → p i = q i) : Aj n p = Aj n q := by
 unfold Aj
 congr 1
 exact List.filter_congr fun i hi => h i (List.mem_range.1 hi)
theorem Ey (n : Nat) (p : Nat → Bool) : Aj (n + 1) p = if p n then Aj n p ++ [(n : Int)] else Aj n p := by
 unfold Aj
 rw [List.range_succ, List.filter_append, List.map_append]
 by_cases h : p n <;> simp [h]
theorem Dk (n : Nat) (p : Nat → Bool) : (Aj n p).length ≤ n := by
 unfold Aj
 rw [List.length_map]
 exact Nat.le_trans (List.length_filter_le _ _) (by simp)
theorem Fx {n : Nat} {p : Nat → Bool} {x : Int} : x ∈ Aj n p ↔ ∃ i : Nat, i < n ∧ p i = true ∧ x = i := by
 unfold Aj
 rw [List.mem_map]
 constructor
 ·rintro ⟨i, hi, rfl⟩
  have := List.mem_filter.1 hi
  exact ⟨i, List.mem_range.1 this.1, this.2, rfl⟩
 ·rintro ⟨i, h1, h2, rfl⟩
  exact ⟨i, List.mem_filter.2 ⟨List.mem_range.2 h1, h2⟩, rfl⟩
theorem Arr {n : Nat} {p : Nat → Bool} : Aj n p = [] ↔ ∀ i, i < n → p i = false := by
 constructor
 ·intro h i hi
  cases hp : p i with
  | false => rfl
  | true =>
    have : (i : Int) ∈ Aj n p := Fx.2 ⟨i, hi, hp, rfl⟩
    rw [h] at this; cases this
 ·intro h
  refine List.eq_nil_iff_forall_not_mem.2 fun x hx => ?_
  obtain ⟨i, h1, h2, _⟩ := Fx.1 hx
  rw [h i h1] at h2; cases h2
theorem Yw {body : (Int × List Int) → Option ((Int × List Int) ⊕ List Int)} (n : Nat) (p : Nat → Bool)
  (h : ∀ (i : Nat) acc, i < n → acc.length ≤ i → body ((i : Int), acc) = some (.inl (((i + 1 : Nat) : Int), if p i then acc ++ [(i : Int)] else acc)))
  (he : ∀ acc, body ((n : Int), acc) = some (.inr acc)) : Am body (0, A5 Int) = some (Aj n p) := by
 have := Cy (body := body) (fun i => ((i : Int), Aj i p)) n (Aj n p) (fun i hi => by
  rw [h i _ hi (Dk i p), Ey]) (he _)
 have e : Aj 0 p = A5 Int := rfl
 simp only [e] at this
 exact this
section
theorem Al0 {xs : List Int} (h : Gg xs) : ∀ {j i : Nat}, i < j → j < xs.length → nth xs i < nth xs j := by
 intro j
 induction j with
 | zero => intro i hi; omega
 | succ j ih =>
   intro i hi hj
   have := h (j + 1) (by omega) hj
   rw [Nat.add_sub_cancel] at this
   by_cases hij : i = j
   ·subst hij; exact this
   ·exact Int.lt_trans (ih (by omega) (by omega)) this
theorem Arq : ∀ {xs ys : List Int}, Gg xs → Gg ys → (∀ x, x ∈ xs ↔ x ∈ ys) → xs = ys := by
 have tl : ∀ {x : Int} {xs : List Int}, Gg (x :: xs) → Gg xs := by
  intro x xs h i h1 h2
  have := h (i + 1) (by omega) (by simpa using h2)
  rw [Nat.add_sub_cancel] at this
  have e1 : nth (x :: xs) (i + 1) = nth xs i := rfl
  have e2 : nth (x :: xs) i = nth xs (i - 1) := by
   cases i with
   | zero => omega
   | succ i => rfl
  rw [e1, e2] at this; exact this
 have hd : ∀ {x : Int} {xs : List Int}, Gg (x :: xs) → ∀ y ∈ xs, x < y := by
  intro x xs h y hy
  obtain ⟨i, hi, rfl⟩ := Ed.1 hy
  exact Al0 h (i := 0) (j := i + 1) (by omega) (by simpa using hi)
 intro xs
 induction xs with
 | nil =>
   intro ys _ _ h
   cases ys with
   | nil => rfl
   | cons y r => have := (h y).2 (by simp); cases this
 | cons x r ih =>
   intro ys h1 h2 h
   cases ys with
   | nil => have := (h x).1 (by simp); cases this
   | cons y s =>
     have e : x = y := by
      have a := (h x).1 (by simp)
      have b := (h y).2 (by simp)
      rcases List.mem_cons.1 a with a | a
      ·exact a
      ·rcases List.mem_cons.1 b with b | b
       ·exact b.symm
       ·have := hd h2 _ a; have := hd h1 _ b; omega
     subst e
     congr 1
     refine ih (tl h1) (tl h2) fun z => ?_
     constructor
     ·intro hz
      rcases List.mem_cons.1 ((h z).1 (by simp [hz])) with e | e
      ·subst e; have := hd h1 _ hz; omega
      ·exact e
     ·intro hz
      rcases List.mem_cons.1 ((h z).2 (by simp [hz])) with e | e
      ·subst e; have := hd h2 _ hz; omega
      ·exact e
theorem Hg (n : Nat) (q : Nat → Bool) : Gg (Aj n q) := by
 induction n with
 | zero => intro i h1 h2; simp [Aj] at h2
 | succ n ih =>
   rw [Ey]
   split
   ·intro i h1 h2
    by_cases hi : i < (Aj n q).length
    ·rw [My hi, My (by omega)]; exact ih i h1 hi
    ·have hi2 : i = (Aj n q).length := by simp at h2; omega
     subst hi2
     rw [Afd, My (by omega)]
     obtain ⟨k, hk, _, e⟩ := Fx.1 (Bb (xs := Aj n q) (i := (Aj n q).length - 1) (by omega))
     rw [e]; omega
   ·exact ih
end
end Go.Proofs.Ytidaaijecmkndaa.Ax
namespace Go.Proofs.Ytidaaijecmkndaa.Ax
open Go Classical
section
end
def Iu (n : Nat) (f : Nat → Bool) : List Bool := (List.range n).map f
theorem Mp (n : Nat) (f : Nat → Bool) : (Iu n f).length = n := by simp [Iu]
theorem Iz {n : Nat} {f : Nat → Bool} {i : Nat} (h : i < n) : nth (Iu n f) i = f i := by
 unfold Iu; rw [Adi _ (by simpa using h), Aq5 h]
theorem Asp {n : Nat} {f : Nat → Bool} {i : Nat} {v : Bool} (_h : i < n) : (Iu n f).set i v = Iu n fun j => if j = i then v else f j := by
 refine Sz (by simp [Iu]) fun j hj => ?_
 have hj' : j < n := by simpa [Iu] using hj
 rw [Ap5 _ _ _ _ (by rw [Mp]; exact hj'), Iz hj', Iz hj']
 by_cases e : i = j
 ·rw [if_pos e, if_pos e.symm]
 ·rw [if_neg e, if_neg (Ne.symm e)]
theorem Afp {n : Nat} {f g : Nat → Bool} (h : ∀ i, i < n → f i = g i) : Iu n f = Iu n g := List.map_congr_left fun i hi => h i (List.mem_range.1 hi)
theorem Anq (n : Nat) : List.replicate n false = Iu n fun _ => false := by
 refine Sz (by simp [Iu]) fun j hj => ?_
 have hj' : j < n := by simpa using hj
 rw [Iz hj', Af5 _ hj']
end Go.Proofs.Ytidaaijecmkndaa.Ax
namespace Go.Proofs.Ytidaaijecmkndaa.Ax
open Go Classical
theorem Q5 {σ τ : Type} {body : σ → Option (σ ⊕ τ)} (s : Nat → σ) (n : Nat) (hit : Nat → Prop) (res : Nat → τ) (no : τ)
  (h : ∀ i, i < n → ¬ hit i → body (s i) = some (.inl (s (i + 1)))) (h2 : ∀ i, i < n → hit i → body (s i) = some (.inr (res i))) (he : body (s n) = some (.inr no)) :
  (∃ i, i < n ∧ hit i ∧ (∀ j, j < i → ¬ hit j) ∧ Am body (s 0) = some (res i)) ∨ ((∀ i, i < n → ¬ hit i) ∧ Am body (s 0) = some no) := by
 by_cases hx : ∃ i, i < n ∧ hit i
 ·have key : ∀ m i, i ≤ m → i < n → hit i → ∃ i, i < n ∧ hit i ∧ ∀ j, j < i → ¬ hit j := by
   intro m
   induction m with
   | zero => intro i h1 h2 h3; exact ⟨i, h2, h3, fun j hj => by omega⟩
   | succ m ih =>
     intro i h1 h2 h3
     by_cases hy : ∃ j, j < i ∧ hit j
     ·obtain ⟨j, h4, h5⟩ := hy
      exact ih j (by omega) (by omega) h5
     ·exact ⟨i, h2, h3, fun j hj hh => hy ⟨j, hj, hh⟩⟩
  obtain ⟨i0, h1, h3⟩ := hx
  obtain ⟨i, h4, h5, h6⟩ := key i0 i0 (Nat.le_refl _) h1 h3
  exact .inl ⟨i, h4, h5, h6, Cy s i (res i) (fun j hj => h j (by omega) (h6 j hj)) (h2 i h4 h5)⟩
 ·have hn : ∀ i, i < n → ¬ hit i := fun i hi hh => hx ⟨i, hi, hh⟩
  exact .inr ⟨hn, Cy s n no (fun j hj => h j hj (hn j hj)) he⟩
structure Ord (n : Nat) (f : Nat → Nat → Bool) : Prop where
 refl : ∀ x, x < n → f x x = true
 Axr : ∀ x y, x < n → y < n → f x y = true → f y x = true → x = y
 trans : ∀ x y z, x < n → y < n → z < n → f x y = true → f y z = true → f x z = true
section
variable {n : Nat} {f : Nat → Nat → Bool} {L : Nat → Bool}
end
end Go.Proofs.Ytidaaijecmkndaa.Ax
namespace Go.Proofs.Ytidaaijecmkndaa.Ax
open Go Classical
section
end
section
variable {n : Nat} {f : Nat → Nat → Bool}
end
section
end
end Go.Proofs.Ytidaaijecmkndaa.Ax
namespace Go.Proofs.Ytidaaijecmkndaa.Ax
open Go Classical
section
variable {n : Nat} {f : Nat → Nat → Bool}
end
end Go.Proofs.Ytidaaijecmkndaa.Ax
namespace Go.Proofs.Ytidaaijecmkndaa.Ax
open Go Classical
section
end
section
variable {n : Nat} {f : Nat → Nat → Bool}
end
section
end
end Go.Proofs.Ytidaaijecmkndaa.Ax
namespace Go.Proofs.Ytidaaijecmkndaa.Ax
open Go Classical
section
end
end Go.Proofs.Ytidaaijecmkndaa.Ax
namespace Go.Proofs.Ytidaaijecmkndaa.Ax
open Go Classical
section
end
end Go.Proofs.Ytidaaijecmkndaa.Ax
