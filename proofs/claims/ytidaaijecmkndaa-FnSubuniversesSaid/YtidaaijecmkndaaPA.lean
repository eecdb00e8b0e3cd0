/-
 Plain facts, joined.
-/
import Derived.Test.YtidaaijecmkndaaAx4
import Derived.Test.YtidaaijecmkndaaGALL
namespace Go.Proofs.Ytidaaijecmkndaa.Ax
open Go
abbrev BIG : Nat := 9223372036854775807
theorem Air {α : Type} [Inhabited α] (xs : List α) (i : Nat) : nth xs i = xs.getD i default := rfl
theorem Dp {α : Type} [Inhabited α] {xs : List α} {i : Nat} (h : i < xs.length) : nth xs i = xs[i] := by simp [nth, List.getD_eq_getElem?_getD, h]
theorem Bu {α : Type} [Inhabited α] {xs : List α} {i : Nat} (h : i < xs.length) : nth xs i ∈ xs := by rw [Dp h]; exact List.getElem_mem h
theorem Aea {α β : Type} [Inhabited α] [Inhabited β] (f : α → β) {xs : List α} {i : Nat} (h : i < xs.length) : nth (xs.map f) i = f (nth xs i) := by
 rw [Dp h, Dp (by simpa using h)]; simp
theorem Aq3 {i n : Nat} (h : i < n) : nth (List.range n) i = i := by rw [Dp (by simpa using h)]; simp
theorem V3 {α : Type} [Inhabited α] {n i : Nat} (x : α) (h : i < n) : nth (List.replicate n x) i = x := by rw [Dp (by simpa using h)]; simp
theorem Aox {α : Type} [Inhabited α] (xs : List α) (i j : Nat) (v : α) (h : j < xs.length) : nth (xs.set i v) j = if i = j then v else nth xs j := by
 rw [Dp (by simpa using h), Dp h, List.getElem_set]
theorem L7 {α : Type} [Inhabited α] {xs ys : List α} {i : Nat} (h : i < xs.length) : nth (xs ++ ys) i = nth xs i := by
 rw [Dp (by simp; omega), Dp h, List.getElem_append_left h]
theorem Ady {α : Type} [Inhabited α] {xs : List α} {y : α} : nth (xs ++ [y]) xs.length = y := by
 rw [Dp (by simp)]; simp
theorem Lg {α : Type} [Inhabited α] {xs ys : List α} (hl : xs.length = ys.length) (h : ∀ i, i < xs.length → nth xs i = nth ys i) : xs = ys := by
 refine List.ext_getElem hl fun i h1 h2 => ?_
 have := h i h1
 rwa [Dp h1, Dp h2] at this
theorem G3 {α : Type} [Inhabited α] {xs : List α} {x : α} : x ∈ xs ↔ ∃ i, i < xs.length ∧ nth xs i = x := by
 constructor
 ·intro h
  obtain ⟨i, h1, h2⟩ := List.mem_iff_getElem.1 h
  exact ⟨i, h1, by rw [Dp h1, h2]⟩
 ·rintro ⟨i, h1, rfl⟩; exact Bu h1
theorem Ny {α : Type} [Inhabited α] {xs : List α} {i : Nat} (h : i < xs.length) : xs.take (i + 1) = xs.take i ++ [nth xs i] := by
 rw [List.take_add_one, Dp h]; simp [h]
theorem Aq2 {α : Type} [Inhabited α] {xs : List α} {i : Nat} (h : i < xs.length) : xs.drop i = nth xs i :: xs.drop (i + 1) := by
 rw [List.drop_eq_getElem_cons h, Dp h]
section
variable {σ τ : Type} {body : σ → Option (σ ⊕ τ)}
theorem Rx {s s' : σ} (h : body s = some (.inl s')) : Ap body s = Ap body s' := by rw [Akc, h]
theorem I3 {s : σ} {t : τ} (h : body s = some (.inr t)) : Ap body s = some t := by rw [Akc, h]
theorem C8 (s : Nat → σ) (n : Nat) (t : τ) (h : ∀ i, i < n → body (s i) = some (.inl (s (i + 1)))) (he : body (s n) = some (.inr t)) : Ap body (s 0) = some t := by
 have key : ∀ k, k ≤ n → Ap body (s 0) = Ap body (s k) := by
  intro k
  induction k with
  | zero => intro _; rfl
  | succ k ih => intro hk; rw [ih (by omega), Rx (h k (by omega))]
 rw [key n (Nat.le_refl _), I3 he]
theorem Ahi (s : Nat → σ) (i0 n : Nat) (t : τ) (h0 : i0 ≤ n) (h : ∀ i, i0 ≤ i → i < n → body (s i) = some (.inl (s (i + 1)))) (he : body (s n) = some (.inr t)) : Ap body (s i0) = some t := by
 have := C8 (body := body) (fun k => s (i0 + k)) (n - i0) t (fun i hi => by simpa [Nat.add_assoc] using h (i0 + i) (by omega) (by omega)) (by
  show body (s (i0 + (n - i0))) = _
  rw [show i0 + (n - i0) = n by omega]; exact he)
 simpa using this
theorem D7 (inv : σ → Prop) (μ : σ → Nat) (post : τ → Prop) (h : ∀ s, inv s → (∃ s', body s = some (.inl s') ∧ inv s' ∧ μ s' < μ s) ∨ (∃ t, body s = some (.inr t) ∧ post t)) : ∀ {s : σ}, inv s → ∃ t, Ap body s = some t ∧ post t := by
 have key : ∀ k s, μ s ≤ k → inv s → ∃ t, Ap body s = some t ∧ post t := by
  intro k
  induction k with
  | zero =>
    intro s hk hs
    rcases h s hs with ⟨s', h1, h2, h3⟩ | ⟨t, h1, h2⟩
    ·omega
    ·exact ⟨t, I3 h1, h2⟩
  | succ k ih =>
    intro s hk hs
    rcases h s hs with ⟨s', h1, h2, h3⟩ | ⟨t, h1, h2⟩
    ·rw [Rx h1]; exact ih s' (by omega) h2
    ·exact ⟨t, I3 h1, h2⟩
 intro s hs
 exact key (μ s) s (Nat.le_refl _) hs
end
open Classical in
theorem Adt {σ α β : Type} {body : σ → Option (σ ⊕ (α ⊕ β))} (s : Nat → σ) (i0 n : Nat) (bad : Nat → Prop) (a : α) (b : β) (hi0 : i0 ≤ n)
  (h : ∀ i, i0 ≤ i → i < n → ¬ bad i → body (s i) = some (.inl (s (i + 1)))) (hb : ∀ i, i0 ≤ i → i < n → bad i → body (s i) = some (.inr (.inl a))) (he : body (s n) = some (.inr (.inr b))) :
  Ap body (s i0) = some (if ∃ i, i0 ≤ i ∧ i < n ∧ bad i then .inl a else .inr b) := by
 by_cases hx : ∃ i, i0 ≤ i ∧ i < n ∧ bad i
 ·rw [if_pos hx]
  obtain ⟨i, h1, h2, h3, h4⟩ : ∃ i, i0 ≤ i ∧ i < n ∧ bad i ∧ ∀ j, i0 ≤ j → j < i → ¬ bad j := by
   have key : ∀ k i, i ≤ k → i0 ≤ i → i < n → bad i → ∃ i, i0 ≤ i ∧ i < n ∧ bad i ∧ ∀ j, i0 ≤ j → j < i → ¬ bad j := by
    intro k
    induction k with
    | zero => intro i hk h1 h2 h3; exact ⟨i, h1, h2, h3, fun j _ hj => by omega⟩
    | succ k ih =>
      intro i hk h1 h2 h3
      by_cases hy : ∃ j, i0 ≤ j ∧ j < i ∧ bad j
      ·obtain ⟨j, k1, k2, k3⟩ := hy
       exact ih j (by omega) k1 (by omega) k3
      ·exact ⟨i, h1, h2, h3, fun j k1 k2 k3 => hy ⟨j, k1, k2, k3⟩⟩
   obtain ⟨i, h1, h2, h3⟩ := hx
   exact key i i (Nat.le_refl _) h1 h2 h3
  exact Ahi s i0 i (.inl a) h1 (fun j k1 k2 => h j k1 (by omega) (h4 j k1 k2)) (hb i h1 h2 h3)
 ·rw [if_neg hx]
  exact Ahi s i0 n (.inr b) hi0 (fun j k1 k2 => h j k1 k2 fun hc => hx ⟨j, k1, k2, hc⟩) he
open Classical in
theorem F7 {σ α β : Type} {body : σ → Option (σ ⊕ (α ⊕ β))} (s : Nat → σ) (n : Nat) (bad : Nat → Prop) (a : α) (b : β)
  (h : ∀ i, i < n → ¬ bad i → body (s i) = some (.inl (s (i + 1)))) (hb : ∀ i, i < n → bad i → body (s i) = some (.inr (.inl a))) (he : body (s n) = some (.inr (.inr b))) (i0 : Nat) (hi0 : i0 ≤ n) :
  Ap body (s i0) = some (if ∃ i, i0 ≤ i ∧ i < n ∧ bad i then .inl a else .inr b) :=
 Adt s i0 n bad a b hi0 (fun i _ => h i) (fun i _ => hb i) he
open Classical in
theorem H2 {σ : Type} {body : σ → Option (σ ⊕ (Unit ⊕ Unit))} {s0 : σ} {p : Prop} (h : Ap body s0 = some (if p then .inl () else .inr ())) (x y : Bool) :
  ((Ap body s0).bind fun t => match t with | .inl _ => some x | .inr _ => some y) = some (if p then x else y) := by
 rw [h]
 by_cases hp : p <;> simp [hp]
end Go.Proofs.Ytidaaijecmkndaa.Ax
namespace Go.Proofs.Ytidaaijecmkndaa.Ax
open Go Classical
theorem At : LIM = 4294967296 := rfl
theorem Ls {n : Nat} {p : Nat → Prop} : (¬ ∃ i, 0 ≤ i ∧ i < n ∧ ¬ p i) ↔ ∀ i, i < n → p i := by
 constructor
 ·intro h i hi; exact Classical.byContradiction fun hc => h ⟨i, by omega, hi, hc⟩
 ·rintro h ⟨i, _, hi, hc⟩; exact hc (h i hi)
end Go.Proofs.Ytidaaijecmkndaa.Ax
namespace Go.Proofs.Ytidaaijecmkndaa.Ax
open Go Classical
theorem Oz {p q : Prop} [Decidable p] [Decidable q] (h : ¬ p ↔ q) : (if p then false else true) = decide q := by
 by_cases hp : p
 ·rw [if_pos hp, decide_eq_false]; exact fun hq => h.2 hq hp
 ·rw [if_neg hp, decide_eq_true (h.1 hp)]
theorem Auc {p q : Prop} [Decidable p] [Decidable q] (h : p ↔ q) : (if p then true else false) = decide q := by
 by_cases hp : p
 ·rw [if_pos hp, decide_eq_true (h.1 hp)]
 ·rw [if_neg hp, decide_eq_false]; exact fun hq => hp (h.2 hq)
theorem Tq (x a b : Int) : Fd x a b = some (decide (a ≤ x ∧ x ≤ b)) := by
 unfold Fd
 split
 ·rename_i h; congr 1; rw [decide_eq_decide]; constructor
  ·intro h2; exact ⟨h, h2⟩
  ·exact fun h2 => h2.2
 ·rename_i h; rw [decide_eq_false]; exact fun h2 => h h2.1
def Aih (xs : List Int) (lo hi : Int) : Prop := ∀ i, i < xs.length → (lo ≤ nth xs i ∧ nth xs i ≤ hi) ∧ (0 < i → nth xs (i - 1) < nth xs i)
theorem Am5 (xs : List Int) (lo hi : Int) (h : xs.length ≤ LIM) : Gq xs lo hi = some (decide (Aih xs lo hi)) := by
 unfold Gq
 rw [At] at h
 have := F7 (body := Ck xs lo hi) (fun i => (i : Int)) xs.length (fun i => ¬ ((lo ≤ nth xs i ∧ nth xs i ≤ hi) ∧ (0 < i → nth xs (i - 1) < nth xs i))) () () (fun i hi' hb => by
  have hb := Classical.not_not.1 hb
  unfold Ck
  rw [if_pos (by omega), Ae (by omega), Tq]
  simp only [Int.toNat_natCast, Option.bind_some]
  rw [if_pos (by simpa using hb.1)]
  by_cases h0 : 0 < i
  ·rw [if_pos (by omega), Ae (by unfold InI; omega), Ae (by omega), Ae (by omega)]
   rw [show ((i : Int) - 1).toNat = i - 1 by omega, if_neg (by have := hb.2 h0; omega), Ae (by unfold InI; omega)]; rfl
  ·rw [if_neg (by omega), Ae (by unfold InI; omega)]; rfl) (fun i hi' hb => by
  unfold Ck
  rw [if_pos (by omega), Ae (by omega), Tq]
  simp only [Int.toNat_natCast, Option.bind_some]
  by_cases h1 : lo ≤ nth xs i ∧ nth xs i ≤ hi
  ·have h2 : 0 < i ∧ ¬ nth xs (i - 1) < nth xs i := by
    by_cases h0 : 0 < i
    ·exact ⟨h0, fun hc => hb ⟨h1, fun _ => hc⟩⟩
    ·exact absurd ⟨h1, fun hc => absurd hc h0⟩ hb
   rw [if_pos (by simpa using h1), if_pos (by omega), Ae (by unfold InI; omega), Ae (by omega), Ae (by omega)]
   rw [show ((i : Int) - 1).toNat = i - 1 by omega, if_pos (by omega)]
  ·rw [if_neg (by simpa using h1)]) (by unfold Ck; rw [if_neg (by omega)]) 0 (by omega)
 exact (H2 this false true).trans (congrArg some (Oz Ls))
theorem At6 (xs : List Int) (n : Int) (h : xs.length ≤ LIM) : Jw xs n = some (decide (n ∈ xs)) := by
 unfold Jw
 rw [At] at h
 have := F7 (body := D4 xs n) (fun i => (i : Int)) xs.length (fun i => nth xs i = n) () () (fun i hi hb => by
  unfold D4
  rw [if_pos (by omega), Ae (by omega)]
  simp only [Int.toNat_natCast]
  rw [if_neg hb, Ae (by unfold InI; omega)]; rfl) (fun i hi hb => by
  unfold D4
  rw [if_pos (by omega), Ae (by omega)]
  simp only [Int.toNat_natCast]
  rw [if_pos hb]) (by unfold D4; rw [if_neg (by omega)]) 0 (by omega)
 refine (H2 this true false).trans (congrArg some (Auc ?_))
 rw [G3]
 constructor
 ·rintro ⟨i, _, h1, h2⟩; exact ⟨i, h1, h2⟩
 ·rintro ⟨i, h1, h2⟩; exact ⟨i, by omega, h1, h2⟩
def Mp (xs : List Int) : Prop := ∀ i, 0 < i → i < xs.length → nth xs (i - 1) < nth xs i
def B3 (xs : List Int) (n : Int) : Prop := ∀ x ∈ xs, 0 ≤ x ∧ x < n
theorem Auv (xs : List Int) (h : xs.length ≤ LIM) : J3 xs = some (decide (Mp xs)) := by
 unfold J3
 rw [At] at h
 by_cases h0 : xs.length = 0
 ·have : Ap (Ci xs) 1 = some (.inr ()) := I3 (by unfold Ci; rw [if_neg (by omega)])
  rw [this, decide_eq_true]
  ·rfl
  ·intro i _ hi; omega
 have := Adt (body := Ci xs) (fun i => (i : Int)) 1 xs.length (fun i => ¬ nth xs (i - 1) < nth xs i) () () (by omega) (fun i hi0 hi hb => by
  unfold Ci
  rw [if_pos (by omega), Ae (by unfold InI; omega), Ae (by omega), Ae (by omega)]
  simp only [Int.toNat_natCast]
  rw [show ((i : Int) - 1).toNat = i - 1 by omega, if_neg (by have := Classical.not_not.1 hb; omega), Ae (by unfold InI; omega)]; rfl) (fun i hi0 hi hb => by
  unfold Ci
  rw [if_pos (by omega), Ae (by unfold InI; omega), Ae (by omega), Ae (by omega)]
  simp only [Int.toNat_natCast]
  rw [show ((i : Int) - 1).toNat = i - 1 by omega, if_pos (by omega)]) (by unfold Ci; rw [if_neg (by omega)])
 refine (H2 this false true).trans (congrArg some (Oz ?_))
 constructor
 ·intro h2 i h3 h4; exact Classical.byContradiction fun hc => h2 ⟨i, h3, h4, hc⟩
 ·rintro h2 ⟨i, h3, h4, hc⟩; exact hc (h2 i h3 h4)
theorem Ac8 (xs : List Int) (n : Int) (h : xs.length ≤ LIM) : Fm xs n = some (decide (B3 xs n)) := by
 unfold Fm
 rw [At] at h
 have := F7 (body := Di xs n) (fun i => (i : Int)) xs.length (fun i => ¬ (0 ≤ nth xs i ∧ nth xs i < n)) () () (fun i hi hb => by
  unfold Di
  have hb := Classical.not_not.1 hb
  rw [if_pos (by omega), Ae (by omega)]
  simp only [Int.toNat_natCast]
  rw [if_neg (by omega), if_neg (by omega), Ae (by unfold InI; omega)]; rfl) (fun i hi hb => by
  unfold Di
  rw [if_pos (by omega), Ae (by omega)]
  simp only [Int.toNat_natCast]
  by_cases h0 : nth xs i < 0
  ·rw [if_pos h0]
  ·rw [if_neg h0, if_pos (by omega)]) (by unfold Di; rw [if_neg (by omega)]) 0 (by omega)
 refine (H2 this false true).trans (congrArg some (Oz ?_))
 rw [Ls]
 constructor
 ·intro h x hx; obtain ⟨i, hi, rfl⟩ := G3.1 hx; exact h i hi
 ·intro h i hi; exact h _ (Bu hi)
end Go.Proofs.Ytidaaijecmkndaa.Ax
namespace Go.Proofs.Ytidaaijecmkndaa.Ax
open Go Classical
noncomputable def below (xss : List (List Int)) (y x : Nat) : Bool := decide ((y : Int) ∈ nth xss x)
def good (xss : List (List Int)) : Prop := xss.length ≤ 10 ∧ (∀ x, x < xss.length → Aih (nth xss x) 0 (xss.length - 1) ∧ (x : Int) ∈ nth xss x) ∧
 ∀ x, x < xss.length → ∀ i, i < (nth xss x).length → ¬ (nth (nth xss x) i ≠ x ∧ (x : Int) ∈ nth xss (nth (nth xss x) i).toNat) ∧
   ∀ z ∈ nth xss (nth (nth xss x) i).toNat, z ∈ nth xss x
theorem Ad1 (xs : List Int) (n : Nat) : Aih xs 0 (n - 1) ↔ Mp xs ∧ B3 xs n := by
 constructor
 ·intro h
  refine ⟨fun i h1 h2 => (h i h2).2 h1, fun x hx => ?_⟩
  obtain ⟨i, h1, rfl⟩ := G3.1 hx
  have := (h i h1).1
  omega
 ·rintro ⟨h1, h2⟩ i hi
  have := h2 _ (Bu hi)
  exact ⟨by omega, fun h => h1 i h hi⟩
end Go.Proofs.Ytidaaijecmkndaa.Ax
namespace Go.Proofs.Ytidaaijecmkndaa.Ax
open Go Classical
end Go.Proofs.Ytidaaijecmkndaa.Ax
namespace Go.Proofs.Ytidaaijecmkndaa.Ax
open Go Classical
def Ar (n : Nat) (p : Nat → Bool) : List Int := ((List.range n).filter p).map fun i : Nat => (i : Int)
theorem Ut {n : Nat} {p q : Nat → Bool} (h : ∀ i, i < n → p i = q i) : Ar n p = Ar n q := by
 unfold Ar
 congr 1
 exact List.filter_congr fun i hi => h i (List.mem_range.1 hi)
theorem Dg (n : Nat) (p : Nat → Bool) : Ar (n + 1) p = if p n then Ar n p ++ [(n : Int)] else Ar n p := by
 unfold Ar
 rw [List.range_succ, List.filter_append, List.map_append]
 by_cases h : p n <;> simp [h]
theorem Dw (n : Nat) (p : Nat → Bool) : (Ar n p).length ≤ n := by
 unfold Ar
 rw [List.length_map]
 exact Nat.le_trans (List.length_filter_le _ _) (by simp)
theorem Gx {n : Nat} {p : Nat → Bool} {x : Int} : x ∈ Ar n p ↔ ∃ i : Nat, i < n ∧ p i = true ∧ x = i := by
 unfold Ar
 rw [List.mem_map]
 constructor
 ·rintro ⟨i, hi, rfl⟩
  have := List.mem_filter.1 hi
  exact ⟨i, List.mem_range.1 this.1, this.2, rfl⟩
 ·rintro ⟨i, h1, h2, rfl⟩
  exact ⟨i, List.mem_filter.2 ⟨List.mem_range.2 h1, h2⟩, rfl⟩
theorem Agy {n : Nat} {p : Nat → Bool} : Ar n p = [] ↔ ∀ i, i < n → p i = false := by
 constructor
 ·intro h i hi
  cases hp : p i with
  | false => rfl
  | true =>
    have : (i : Int) ∈ Ar n p := Gx.2 ⟨i, hi, hp, rfl⟩
    rw [h] at this; cases this
 ·intro h
  refine List.eq_nil_iff_forall_not_mem.2 fun x hx => ?_
  obtain ⟨i, h1, h2, _⟩ := Gx.1 hx
  rw [h i h1] at h2; cases h2
theorem Adi {body : (Int × List Int) → Option ((Int × List Int) ⊕ List Int)} (n : Nat) (p : Nat → Bool)
  (h : ∀ (i : Nat) acc, i < n → acc.length ≤ i → body ((i : Int), acc) = some (.inl (((i + 1 : Nat) : Int), if p i then acc ++ [(i : Int)] else acc)))
  (he : ∀ acc, body ((n : Int), acc) = some (.inr acc)) : Ap body (0, A9 Int) = some (Ar n p) := by
 have := C8 (body := body) (fun i => ((i : Int), Ar i p)) n (Ar n p) (fun i hi => by
  rw [h i _ hi (Dw i p), Dg]) (he _)
 have e : Ar 0 p = A9 Int := rfl
 simp only [e] at this
 exact this
section
theorem Alr {xs : List Int} (h : Mp xs) : ∀ {j i : Nat}, i < j → j < xs.length → nth xs i < nth xs j := by
 intro j
 induction j with
 | zero => intro i hi; omega
 | succ j ih =>
   intro i hi hj
   have := h (j + 1) (by omega) hj
   rw [Nat.add_sub_cancel] at this
   by_cases hij : i = j
   ·subst hij; exact this
   ·exact Int.lt_trans (ih (by omega) (by omega)) this
theorem Arc : ∀ {xs ys : List Int}, Mp xs → Mp ys → (∀ x, x ∈ xs ↔ x ∈ ys) → xs = ys := by
 have tl : ∀ {x : Int} {xs : List Int}, Mp (x :: xs) → Mp xs := by
  intro x xs h i h1 h2
  have := h (i + 1) (by omega) (by simpa using h2)
  rw [Nat.add_sub_cancel] at this
  have e1 : nth (x :: xs) (i + 1) = nth xs i := rfl
  have e2 : nth (x :: xs) i = nth xs (i - 1) := by
   cases i with
   | zero => omega
   | succ i => rfl
  rw [e1, e2] at this; exact this
 have hd : ∀ {x : Int} {xs : List Int}, Mp (x :: xs) → ∀ y ∈ xs, x < y := by
  intro x xs h y hy
  obtain ⟨i, hi, rfl⟩ := G3.1 hy
  exact Alr h (i := 0) (j := i + 1) (by omega) (by simpa using hi)
 intro xs
 induction xs with
 | nil =>
   intro ys _ _ h
   cases ys with
   | nil => rfl
   | cons y r => have := (h y).2 (by simp); cases this
 | cons x r ih =>
   intro ys h1 h2 h
   cases ys with
   | nil => have := (h x).1 (by simp); cases this
   | cons y s =>
     have e : x = y := by
      have a := (h x).1 (by simp)
      have b := (h y).2 (by simp)
      rcases List.mem_cons.1 a with a | a
      ·exact a
      ·rcases List.mem_cons.1 b with b | b
       ·exact b.symm
       ·have := hd h2 _ a; have := hd h1 _ b; omega
     subst e
     congr 1
     refine ih (tl h1) (tl h2) fun z => ?_
     constructor
     ·intro hz
      rcases List.mem_cons.1 ((h z).1 (by simp [hz])) with e | e
      ·subst e; have := hd h1 _ hz; omega
      ·exact e
     ·intro hz
      rcases List.mem_cons.1 ((h z).2 (by simp [hz])) with e | e
      ·subst e; have := hd h2 _ hz; omega
      ·exact e
theorem Uf (n : Nat) (q : Nat → Bool) : Mp (Ar n q) := by
 induction n with
 | zero => intro i h1 h2; simp [Ar] at h2
 | succ n ih =>
   rw [Dg]
   split
   ·intro i h1 h2
    by_cases hi : i < (Ar n q).length
    ·rw [L7 hi, L7 (by omega)]; exact ih i h1 hi
    ·have hi2 : i = (Ar n q).length := by simp at h2; omega
     subst hi2
     rw [Ady, L7 (by omega)]
     obtain ⟨k, hk, _, e⟩ := Gx.1 (Bu (xs := Ar n q) (i := (Ar n q).length - 1) (by omega))
     rw [e]; omega
   ·exact ih
end
end Go.Proofs.Ytidaaijecmkndaa.Ax
namespace Go.Proofs.Ytidaaijecmkndaa.Ax
open Go Classical
theorem Ain (n : Int) : InI n ↔ -9223372036854775808 ≤ n ∧ n ≤ 9223372036854775807 := Iff.rfl
section
end
def Dv (n : Nat) (f : Nat → Bool) : List Bool := (List.range n).map f
theorem E9 (n : Nat) (f : Nat → Bool) : (Dv n f).length = n := by simp [Dv]
theorem Ez {n : Nat} {f : Nat → Bool} {i : Nat} (h : i < n) : nth (Dv n f) i = f i := by
 unfold Dv; rw [Aea _ (by simpa using h), Aq3 h]
theorem Alv {n : Nat} {f : Nat → Bool} {i : Nat} {v : Bool} (_h : i < n) : (Dv n f).set i v = Dv n fun j => if j = i then v else f j := by
 refine Lg (by simp [Dv]) fun j hj => ?_
 have hj' : j < n := by simpa [Dv] using hj
 rw [Aox _ _ _ _ (by rw [E9]; exact hj'), Ez hj', Ez hj']
 by_cases e : i = j
 ·rw [if_pos e, if_pos e.symm]
 ·rw [if_neg e, if_neg (Ne.symm e)]
theorem R9 {n : Nat} {f g : Nat → Bool} (h : ∀ i, i < n → f i = g i) : Dv n f = Dv n g := List.map_congr_left fun i hi => h i (List.mem_range.1 hi)
theorem Anp (n : Nat) : List.replicate n false = Dv n fun _ => false := by
 refine Lg (by simp [Dv]) fun j hj => ?_
 have hj' : j < n := by simpa using hj
 rw [Ez hj', V3 _ hj']
theorem Ah0 (n : Nat) (xs : List Int) (h : xs.length ≤ LIM) (hn : n ≤ LIM) : Fe n xs = some (decide (B3 xs n)) := by
 unfold Fe
 rw [At] at h hn
 have e := F7 (body := Cb n xs) (fun i => (i : Int)) xs.length (fun i => ¬ (0 ≤ nth xs i ∧ nth xs i < n)) () () (fun i hi hb => by
  have hc : 0 ≤ nth xs i ∧ nth xs i ≤ n - 1 := by have := Classical.not_not.1 hb; omega
  unfold Cb
  simp (disch := omega) only [Ae, if_pos, if_true, Ain, Int.toNat_natCast, Int.natCast_add, Int.natCast_one, Option.bind_some, Tq, hc, and_self, decide_true]) (fun i hi hb => by
  have hc : ¬ (0 ≤ nth xs i ∧ nth xs i ≤ n - 1) := fun hh => hb (by omega)
  unfold Cb
  simp (disch := omega) only [Ae, if_pos, if_false, Ain, Int.toNat_natCast, Option.bind_some, Bool.false_eq_true, Tq, hc, decide_false]) (by
  unfold Cb
  simp (disch := omega) only [Ae, if_pos, if_neg, Ain, Int.toNat_natCast]) 0 (Nat.zero_le _)
 refine (H2 e false true).trans ?_
 congr 1
 refine Oz ?_
 rw [Ls]
 constructor
 ·intro hh x hx
  obtain ⟨i, hi, rfl⟩ := G3.1 hx
  exact hh i hi
 ·intro hh i hi
  exact hh _ (Bu hi)
end Go.Proofs.Ytidaaijecmkndaa.Ax
namespace Go.Proofs.Ytidaaijecmkndaa.Ax
open Go Classical
theorem P8 {σ τ : Type} {body : σ → Option (σ ⊕ τ)} (s : Nat → σ) (n : Nat) (hit : Nat → Prop) (res : Nat → τ) (no : τ)
  (h : ∀ i, i < n → ¬ hit i → body (s i) = some (.inl (s (i + 1)))) (h2 : ∀ i, i < n → hit i → body (s i) = some (.inr (res i))) (he : body (s n) = some (.inr no)) :
  (∃ i, i < n ∧ hit i ∧ (∀ j, j < i → ¬ hit j) ∧ Ap body (s 0) = some (res i)) ∨ ((∀ i, i < n → ¬ hit i) ∧ Ap body (s 0) = some no) := by
 by_cases hx : ∃ i, i < n ∧ hit i
 ·have key : ∀ m i, i ≤ m → i < n → hit i → ∃ i, i < n ∧ hit i ∧ ∀ j, j < i → ¬ hit j := by
   intro m
   induction m with
   | zero => intro i h1 h2 h3; exact ⟨i, h2, h3, fun j hj => by omega⟩
   | succ m ih =>
     intro i h1 h2 h3
     by_cases hy : ∃ j, j < i ∧ hit j
     ·obtain ⟨j, h4, h5⟩ := hy
      exact ih j (by omega) (by omega) h5
     ·exact ⟨i, h2, h3, fun j hj hh => hy ⟨j, hj, hh⟩⟩
  obtain ⟨i0, h1, h3⟩ := hx
  obtain ⟨i, h4, h5, h6⟩ := key i0 i0 (Nat.le_refl _) h1 h3
  exact .inl ⟨i, h4, h5, h6, C8 s i (res i) (fun j hj => h j (by omega) (h6 j hj)) (h2 i h4 h5)⟩
 ·have hn : ∀ i, i < n → ¬ hit i := fun i hi hh => hx ⟨i, hi, hh⟩
  exact .inr ⟨hn, C8 s n no (fun j hj => h j hj (hn j hj)) he⟩
structure Ord (n : Nat) (f : Nat → Nat → Bool) : Prop where
 refl : ∀ x, x < n → f x x = true
 Awt : ∀ x y, x < n → y < n → f x y = true → f y x = true → x = y
 trans : ∀ x y z, x < n → y < n → z < n → f x y = true → f y z = true → f x z = true
def Awe (n : Nat) (f : Nat → Nat → Bool) (L : Nat → Bool) (m : Nat) : Prop := m < n ∧ L m = true ∧ ∀ z, z < n → L z = true → f z m = true
noncomputable def bnd (n : Nat) (f : Nat → Nat → Bool) (L : Nat → Bool) : Int := if h : ∃ m, Awe n f L m then ((Classical.choose h : Nat) : Int) else -1
section
variable {n : Nat} {f : Nat → Nat → Bool} {L : Nat → Bool}
def lo2 (f : Nat → Nat → Bool) (x y : Nat) : Nat → Bool := fun z => f z x && f z y
def Aww (n : Nat) (f : Nat → Nat → Bool) : Prop := ∀ x y, x < n → y < n → 0 ≤ bnd n f (lo2 f x y)
end
end Go.Proofs.Ytidaaijecmkndaa.Ax
namespace Go.Proofs.Ytidaaijecmkndaa.Ax
open Go Classical
section
end
section
variable {n : Nat} {f : Nat → Nat → Bool}
end
section
end
end Go.Proofs.Ytidaaijecmkndaa.Ax
namespace Go.Proofs.Ytidaaijecmkndaa.Ax
open Go Classical
section
variable {n : Nat} {f : Nat → Nat → Bool}
end
end Go.Proofs.Ytidaaijecmkndaa.Ax
namespace Go.Proofs.Ytidaaijecmkndaa.Ax
open Go Classical
section
end
section
variable {n : Nat} {f : Nat → Nat → Bool}
end
section
end
end Go.Proofs.Ytidaaijecmkndaa.Ax
namespace Go.Proofs.Ytidaaijecmkndaa.Ax
open Go Classical
section
end
end Go.Proofs.Ytidaaijecmkndaa.Ax
namespace Go.Proofs.Ytidaaijecmkndaa.Ax
open Go Classical
section
end
end Go.Proofs.Ytidaaijecmkndaa.Ax
