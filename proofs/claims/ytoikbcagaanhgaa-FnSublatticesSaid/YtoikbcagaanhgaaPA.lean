/-
 Plain facts, joined.
-/
import Derived.Test.YtoikbcagaanhgaaAx4
import Derived.Test.YtoikbcagaanhgaaGALL
namespace Go.Proofs.Ytoikbcagaanhgaa.Ax
open Go
abbrev BIG : Nat := 9223372036854775807
theorem Aud {α : Type} [Inhabited α] (xs : List α) (i : Nat) : nth xs i = xs.getD i default := rfl
theorem Fm {α : Type} [Inhabited α] {xs : List α} {i : Nat} (h : i < xs.length) : nth xs i = xs[i] := by simp [nth, List.getD_eq_getElem?_getD, h]
theorem Ar {α : Type} [Inhabited α] {xs : List α} {i : Nat} (h : i < xs.length) : nth xs i ∈ xs := by rw [Fm h]; exact List.getElem_mem h
theorem L2 {α β : Type} [Inhabited α] [Inhabited β] (f : α → β) {xs : List α} {i : Nat} (h : i < xs.length) : nth (xs.map f) i = f (nth xs i) := by
 rw [Fm h, Fm (by simpa using h)]; simp
theorem P2 {i n : Nat} (h : i < n) : nth (List.range n) i = i := by rw [Fm (by simpa using h)]; simp
theorem Ae8 {α : Type} [Inhabited α] {n i : Nat} (x : α) (h : i < n) : nth (List.replicate n x) i = x := by rw [Fm (by simpa using h)]; simp
theorem At7 {α : Type} [Inhabited α] (xs : List α) (i j : Nat) (v : α) (h : j < xs.length) : nth (xs.set i v) j = if i = j then v else nth xs j := by
 rw [Fm (by simpa using h), Fm h, List.getElem_set]
theorem Sj {α : Type} [Inhabited α] {xs ys : List α} {i : Nat} (h : i < xs.length) : nth (xs ++ ys) i = nth xs i := by
 rw [Fm (by simp; omega), Fm h, List.getElem_append_left h]
theorem And {α : Type} [Inhabited α] {xs : List α} {y : α} : nth (xs ++ [y]) xs.length = y := by
 rw [Fm (by simp)]; simp
theorem Zc {α : Type} [Inhabited α] {xs ys : List α} (hl : xs.length = ys.length) (h : ∀ i, i < xs.length → nth xs i = nth ys i) : xs = ys := by
 refine List.ext_getElem hl fun i h1 h2 => ?_
 have := h i h1
 rwa [Fm h1, Fm h2] at this
theorem Et {α : Type} [Inhabited α] {xs : List α} {x : α} : x ∈ xs ↔ ∃ i, i < xs.length ∧ nth xs i = x := by
 constructor
 ·intro h
  obtain ⟨i, h1, h2⟩ := List.mem_iff_getElem.1 h
  exact ⟨i, h1, by rw [Fm h1, h2]⟩
 ·rintro ⟨i, h1, rfl⟩; exact Ar h1
theorem L8 {α : Type} [Inhabited α] {xs : List α} {i : Nat} (h : i < xs.length) : xs.take (i + 1) = xs.take i ++ [nth xs i] := by
 rw [List.take_add_one, Fm h]; simp [h]
theorem A5l {α : Type} (xs : List α) (z v : α) {i n : Nat} (hi : i < n) (hl : xs.length = i) : (xs ++ List.replicate (n - i) z).set i v = (xs ++ [v]) ++ List.replicate (n - (i + 1)) z := by
 subst hl
 rw [List.set_append_right _ _ (Nat.le_refl _), Nat.sub_self]
 have : n - xs.length = (n - (xs.length + 1)) + 1 := by omega
 rw [this, List.replicate_succ, List.set_cons_zero]
 simp
section
variable {σ τ : Type} {body : σ → Option (σ ⊕ τ)}
theorem Kt {s s' : σ} (h : body s = some (.inl s')) : Ai body s = Ai body s' := by rw [Axp, h]
theorem I9 {s : σ} {t : τ} (h : body s = some (.inr t)) : Ai body s = some t := by rw [Axp, h]
theorem Az (s : Nat → σ) (n : Nat) (t : τ) (h : ∀ i, i < n → body (s i) = some (.inl (s (i + 1)))) (he : body (s n) = some (.inr t)) : Ai body (s 0) = some t := by
 have key : ∀ k, k ≤ n → Ai body (s 0) = Ai body (s k) := by
  intro k
  induction k with
  | zero => intro _; rfl
  | succ k ih => intro hk; rw [ih (by omega), Kt (h k (by omega))]
 rw [key n (Nat.le_refl _), I9 he]
theorem Asx (s : Nat → σ) (i0 n : Nat) (t : τ) (h0 : i0 ≤ n) (h : ∀ i, i0 ≤ i → i < n → body (s i) = some (.inl (s (i + 1)))) (he : body (s n) = some (.inr t)) : Ai body (s i0) = some t := by
 have := Az (body := body) (fun k => s (i0 + k)) (n - i0) t (fun i hi => by simpa [Nat.add_assoc] using h (i0 + i) (by omega) (by omega)) (by
  show body (s (i0 + (n - i0))) = _
  rw [show i0 + (n - i0) = n by omega]; exact he)
 simpa using this
theorem Jd (inv : σ → Prop) (μ : σ → Nat) (post : τ → Prop) (h : ∀ s, inv s → (∃ s', body s = some (.inl s') ∧ inv s' ∧ μ s' < μ s) ∨ (∃ t, body s = some (.inr t) ∧ post t)) : ∀ {s : σ}, inv s → ∃ t, Ai body s = some t ∧ post t := by
 have key : ∀ k s, μ s ≤ k → inv s → ∃ t, Ai body s = some t ∧ post t := by
  intro k
  induction k with
  | zero =>
    intro s hk hs
    rcases h s hs with ⟨s', h1, h2, h3⟩ | ⟨t, h1, h2⟩
    ·omega
    ·exact ⟨t, I9 h1, h2⟩
  | succ k ih =>
    intro s hk hs
    rcases h s hs with ⟨s', h1, h2, h3⟩ | ⟨t, h1, h2⟩
    ·rw [Kt h1]; exact ih s' (by omega) h2
    ·exact ⟨t, I9 h1, h2⟩
 intro s hs
 exact key (μ s) s (Nat.le_refl _) hs
end
open Classical in
theorem Apo {σ α β : Type} {body : σ → Option (σ ⊕ (α ⊕ β))} (s : Nat → σ) (i0 n : Nat) (bad : Nat → Prop) (a : α) (b : β) (hi0 : i0 ≤ n)
  (h : ∀ i, i0 ≤ i → i < n → ¬ bad i → body (s i) = some (.inl (s (i + 1)))) (hb : ∀ i, i0 ≤ i → i < n → bad i → body (s i) = some (.inr (.inl a))) (he : body (s n) = some (.inr (.inr b))) :
  Ai body (s i0) = some (if ∃ i, i0 ≤ i ∧ i < n ∧ bad i then .inl a else .inr b) := by
 by_cases hx : ∃ i, i0 ≤ i ∧ i < n ∧ bad i
 ·rw [if_pos hx]
  obtain ⟨i, h1, h2, h3, h4⟩ : ∃ i, i0 ≤ i ∧ i < n ∧ bad i ∧ ∀ j, i0 ≤ j → j < i → ¬ bad j := by
   have key : ∀ k i, i ≤ k → i0 ≤ i → i < n → bad i → ∃ i, i0 ≤ i ∧ i < n ∧ bad i ∧ ∀ j, i0 ≤ j → j < i → ¬ bad j := by
    intro k
    induction k with
    | zero => intro i hk h1 h2 h3; exact ⟨i, h1, h2, h3, fun j _ hj => by omega⟩
    | succ k ih =>
      intro i hk h1 h2 h3
      by_cases hy : ∃ j, i0 ≤ j ∧ j < i ∧ bad j
      ·obtain ⟨j, k1, k2, k3⟩ := hy
       exact ih j (by omega) k1 (by omega) k3
      ·exact ⟨i, h1, h2, h3, fun j k1 k2 k3 => hy ⟨j, k1, k2, k3⟩⟩
   obtain ⟨i, h1, h2, h3⟩ := hx
   exact key i i (Nat.le_refl _) h1 h2 h3
  exact Asx s i0 i (.inl a) h1 (fun j k1 k2 => h j k1 (by omega) (h4 j k1 k2)) (hb i h1 h2 h3)
 ·rw [if_neg hx]
  exact Asx s i0 n (.inr b) hi0 (fun j k1 k2 => h j k1 k2 fun hc => hx ⟨j, k1, k2, hc⟩) he
open Classical in
theorem Da {σ α β : Type} {body : σ → Option (σ ⊕ (α ⊕ β))} (s : Nat → σ) (n : Nat) (bad : Nat → Prop) (a : α) (b : β)
  (h : ∀ i, i < n → ¬ bad i → body (s i) = some (.inl (s (i + 1)))) (hb : ∀ i, i < n → bad i → body (s i) = some (.inr (.inl a))) (he : body (s n) = some (.inr (.inr b))) (i0 : Nat) (hi0 : i0 ≤ n) :
  Ai body (s i0) = some (if ∃ i, i0 ≤ i ∧ i < n ∧ bad i then .inl a else .inr b) :=
 Apo s i0 n bad a b hi0 (fun i _ => h i) (fun i _ => hb i) he
open Classical in
theorem Hj {σ : Type} {body : σ → Option (σ ⊕ (Unit ⊕ Unit))} {s0 : σ} {p : Prop} (h : Ai body s0 = some (if p then .inl () else .inr ())) (x y : Bool) :
  ((Ai body s0).bind fun t => match t with | .inl _ => some x | .inr _ => some y) = some (if p then x else y) := by
 rw [h]
 by_cases hp : p <;> simp [hp]
def tab (n : Nat) (f : Nat → Nat → Bool) : List (List Bool) := (List.range n).map fun y => (List.range n).map fun x => f y x
theorem Dg (n : Nat) (f : Nat → Nat → Bool) : (tab n f).length = n := by simp [tab]
theorem Auc (n : Nat) (f : Nat → Nat → Bool) (y : Nat) (h : y < n) : nth (tab n f) y = (List.range n).map fun x => f y x := by
 rw [Fm (by simp [tab]; exact h)]; simp [tab]
theorem Dz (n : Nat) (f : Nat → Nat → Bool) (y : Nat) (h : y < n) : (nth (tab n f) y).length = n := by rw [Auc n f y h]; simp
theorem Tz (n : Nat) (f : Nat → Nat → Bool) (y x : Nat) (h : y < n) (h2 : x < n) : nth (nth (tab n f) y) x = f y x := by
 rw [Auc n f y h, Fm (by simpa using h2)]; simp
theorem Aod (n : Nat) (f : Nat → Nat → Bool) (y : Nat) (h : y < n) : (nth (tab n f) ((y : Int)).toNat).length = n := Dz n f y h
theorem At3 (n : Nat) (f : Nat → Nat → Bool) (y x : Nat) (h : y < n) (h2 : x < n) : nth (nth (tab n f) ((y : Int)).toNat) ((x : Int)).toNat = f y x := Tz n f y x h h2
theorem Lg {n : Nat} {f g : Nat → Nat → Bool} (h : ∀ y x, y < n → x < n → f y x = g y x) : tab n f = tab n g := by
 unfold tab
 refine List.map_congr_left fun y hy => List.map_congr_left fun x hx => h y x (List.mem_range.1 hy) (List.mem_range.1 hx)
theorem A07 (n : Nat) : tab n (fun _ _ => false) = List.replicate n (List.replicate n false) := by
 refine List.ext_getElem (by simp [tab]) fun a ha hb => ?_
 simp only [tab, List.getElem_map, List.getElem_replicate]
 refine List.ext_getElem (by simp) fun b hb1 hb2 => ?_
 simp
theorem Am6 (n : Nat) (f : Nat → Nat → Bool) (y x : Nat) (v : Bool) (h : y < n) (_h2 : x < n) : (tab n f).set y ((nth (tab n f) y).set x v) = tab n (fun a b => if a = y ∧ b = x then v else f a b) := by
 rw [Auc n f y h]
 refine List.ext_getElem (by simp [tab]) fun a ha hb => ?_
 have ha' : a < n := by simpa [tab] using ha
 simp only [tab, List.getElem_set, List.getElem_map, List.getElem_range]
 refine List.ext_getElem (by split <;> simp) fun b hb1 hb2 => ?_
 have hb' : b < n := by simpa using hb2
 by_cases hay : y = a
 ·subst hay
  simp only [if_true, List.getElem_set, List.getElem_map, List.getElem_range, true_and]
  by_cases hbx : x = b
  ·subst hbx; simp
  ·rw [if_neg hbx, if_neg (Ne.symm hbx)]
 ·simp [hay, Ne.symm hay]
end Go.Proofs.Ytoikbcagaanhgaa.Ax
namespace Go.Proofs.Ytoikbcagaanhgaa.Ax
open Go Classical
theorem Al : LIM = 4294967296 := rfl
theorem Gv {n : Nat} {p : Nat → Prop} : (¬ ∃ i, 0 ≤ i ∧ i < n ∧ ¬ p i) ↔ ∀ i, i < n → p i := by
 constructor
 ·intro h i hi; exact Classical.byContradiction fun hc => h ⟨i, by omega, hi, hc⟩
 ·rintro h ⟨i, _, hi, hc⟩; exact hc (h i hi)
end Go.Proofs.Ytoikbcagaanhgaa.Ax
namespace Go.Proofs.Ytoikbcagaanhgaa.Ax
open Go Classical
theorem Ou {p q : Prop} [Decidable p] [Decidable q] (h : ¬ p ↔ q) : (if p then false else true) = decide q := by
 by_cases hp : p
 ·rw [if_pos hp, decide_eq_false]; exact fun hq => h.2 hq hp
 ·rw [if_neg hp, decide_eq_true (h.1 hp)]
theorem A55 {p q : Prop} [Decidable p] [Decidable q] (h : p ↔ q) : (if p then true else false) = decide q := by
 by_cases hp : p
 ·rw [if_pos hp, decide_eq_true (h.1 hp)]
 ·rw [if_neg hp, decide_eq_false]; exact fun hq => hp (h.2 hq)
theorem Ade (x a b : Int) : H2 x a b = some (decide (a ≤ x ∧ x ≤ b)) := by
 unfold H2
 split
 ·rename_i h; congr 1; rw [decide_eq_decide]; constructor
  ·intro h2; exact ⟨h, h2⟩
  ·exact fun h2 => h2.2
 ·rename_i h; rw [decide_eq_false]; exact fun h2 => h h2.1
def Zw (xs : List Int) (lo hi : Int) : Prop := ∀ i, i < xs.length → (lo ≤ nth xs i ∧ nth xs i ≤ hi) ∧ (0 < i → nth xs (i - 1) < nth xs i)
theorem Zb (xs : List Int) (lo hi : Int) (h : xs.length ≤ LIM) : Fx xs lo hi = some (decide (Zw xs lo hi)) := by
 unfold Fx
 rw [Al] at h
 have := Da (body := Dl xs lo hi) (fun i => (i : Int)) xs.length (fun i => ¬ ((lo ≤ nth xs i ∧ nth xs i ≤ hi) ∧ (0 < i → nth xs (i - 1) < nth xs i))) () () (fun i hi' hb => by
  have hb := Classical.not_not.1 hb
  unfold Dl
  rw [if_pos (by omega), Aa (by omega), Ade]
  simp only [Int.toNat_natCast, Option.bind_some]
  rw [if_pos (by simpa using hb.1)]
  by_cases h0 : 0 < i
  ·rw [if_pos (by omega), Aa (by unfold InI; omega), Aa (by omega), Aa (by omega)]
   rw [show ((i : Int) - 1).toNat = i - 1 by omega, if_neg (by have := hb.2 h0; omega), Aa (by unfold InI; omega)]; rfl
  ·rw [if_neg (by omega), Aa (by unfold InI; omega)]; rfl) (fun i hi' hb => by
  unfold Dl
  rw [if_pos (by omega), Aa (by omega), Ade]
  simp only [Int.toNat_natCast, Option.bind_some]
  by_cases h1 : lo ≤ nth xs i ∧ nth xs i ≤ hi
  ·have h2 : 0 < i ∧ ¬ nth xs (i - 1) < nth xs i := by
    by_cases h0 : 0 < i
    ·exact ⟨h0, fun hc => hb ⟨h1, fun _ => hc⟩⟩
    ·exact absurd ⟨h1, fun hc => absurd hc h0⟩ hb
   rw [if_pos (by simpa using h1), if_pos (by omega), Aa (by unfold InI; omega), Aa (by omega), Aa (by omega)]
   rw [show ((i : Int) - 1).toNat = i - 1 by omega, if_pos (by omega)]
  ·rw [if_neg (by simpa using h1)]) (by unfold Dl; rw [if_neg (by omega)]) 0 (by omega)
 exact (Hj this false true).trans (congrArg some (Ou Gv))
theorem Aed (xs : List Int) (n : Int) (h : xs.length ≤ LIM) : Hp xs n = some (decide (n ∈ xs)) := by
 unfold Hp
 rw [Al] at h
 have := Da (body := F1 xs n) (fun i => (i : Int)) xs.length (fun i => nth xs i = n) () () (fun i hi hb => by
  unfold F1
  rw [if_pos (by omega), Aa (by omega)]
  simp only [Int.toNat_natCast]
  rw [if_neg hb, Aa (by unfold InI; omega)]; rfl) (fun i hi hb => by
  unfold F1
  rw [if_pos (by omega), Aa (by omega)]
  simp only [Int.toNat_natCast]
  rw [if_pos hb]) (by unfold F1; rw [if_neg (by omega)]) 0 (by omega)
 refine (Hj this true false).trans (congrArg some (A55 ?_))
 rw [Et]
 constructor
 ·rintro ⟨i, _, h1, h2⟩; exact ⟨i, h1, h2⟩
 ·rintro ⟨i, h1, h2⟩; exact ⟨i, by omega, h1, h2⟩
theorem Z3 (xs ys : List Int) (h1 : xs.length ≤ LIM) (h2 : ys.length ≤ LIM) : F2 xs ys = some (decide (∀ x ∈ xs, x ∈ ys)) := by
 unfold F2
 rw [Al] at h1
 have := Da (body := Dj xs ys) (fun i => (i : Int)) xs.length (fun i => ¬ nth xs i ∈ ys) () () (fun i hi hb => by
  unfold Dj
  rw [if_pos (by omega), Aa (by omega), Aed _ _ h2]
  simp only [Int.toNat_natCast, Option.bind_some]
  rw [if_pos (by simpa using hb), Aa (by unfold InI; omega)]; rfl) (fun i hi hb => by
  unfold Dj
  rw [if_pos (by omega), Aa (by omega), Aed _ _ h2]
  simp only [Int.toNat_natCast, Option.bind_some]
  rw [if_neg (by simpa using hb)]) (by unfold Dj; rw [if_neg (by omega)]) 0 (by omega)
 refine (Hj this false true).trans (congrArg some (Ou ?_))
 rw [Gv]
 constructor
 ·intro h x hx; obtain ⟨i, hi, rfl⟩ := Et.1 hx; exact h i hi
 ·intro h i hi; exact h _ (Ar hi)
def Ic (xs : List Int) : Prop := ∀ i, 0 < i → i < xs.length → nth xs (i - 1) < nth xs i
def Ay (xs : List Int) (n : Int) : Prop := ∀ x ∈ xs, 0 ≤ x ∧ x < n
theorem Amz (xs : List Int) (h : xs.length ≤ LIM) : I5 xs = some (decide (Ic xs)) := by
 unfold I5
 rw [Al] at h
 by_cases h0 : xs.length = 0
 ·have : Ai (Df xs) 1 = some (.inr ()) := I9 (by unfold Df; rw [if_neg (by omega)])
  rw [this, decide_eq_true]
  ·rfl
  ·intro i _ hi; omega
 have := Apo (body := Df xs) (fun i => (i : Int)) 1 xs.length (fun i => ¬ nth xs (i - 1) < nth xs i) () () (by omega) (fun i hi0 hi hb => by
  unfold Df
  rw [if_pos (by omega), Aa (by unfold InI; omega), Aa (by omega), Aa (by omega)]
  simp only [Int.toNat_natCast]
  rw [show ((i : Int) - 1).toNat = i - 1 by omega, if_neg (by have := Classical.not_not.1 hb; omega), Aa (by unfold InI; omega)]; rfl) (fun i hi0 hi hb => by
  unfold Df
  rw [if_pos (by omega), Aa (by unfold InI; omega), Aa (by omega), Aa (by omega)]
  simp only [Int.toNat_natCast]
  rw [show ((i : Int) - 1).toNat = i - 1 by omega, if_pos (by omega)]) (by unfold Df; rw [if_neg (by omega)])
 refine (Hj this false true).trans (congrArg some (Ou ?_))
 constructor
 ·intro h2 i h3 h4; exact Classical.byContradiction fun hc => h2 ⟨i, h3, h4, hc⟩
 ·rintro h2 ⟨i, h3, h4, hc⟩; exact hc (h2 i h3 h4)
theorem Ab1 (xs : List Int) (n : Int) (h : xs.length ≤ LIM) : Gg xs n = some (decide (Ay xs n)) := by
 unfold Gg
 rw [Al] at h
 have := Da (body := E8 xs n) (fun i => (i : Int)) xs.length (fun i => ¬ (0 ≤ nth xs i ∧ nth xs i < n)) () () (fun i hi hb => by
  unfold E8
  have hb := Classical.not_not.1 hb
  rw [if_pos (by omega), Aa (by omega)]
  simp only [Int.toNat_natCast]
  rw [if_neg (by omega), if_neg (by omega), Aa (by unfold InI; omega)]; rfl) (fun i hi hb => by
  unfold E8
  rw [if_pos (by omega), Aa (by omega)]
  simp only [Int.toNat_natCast]
  by_cases h0 : nth xs i < 0
  ·rw [if_pos h0]
  ·rw [if_neg h0, if_pos (by omega)]) (by unfold E8; rw [if_neg (by omega)]) 0 (by omega)
 refine (Hj this false true).trans (congrArg some (Ou ?_))
 rw [Gv]
 constructor
 ·intro h x hx; obtain ⟨i, hi, rfl⟩ := Et.1 hx; exact h i hi
 ·intro h i hi; exact h _ (Ar hi)
theorem Afz (n : Nat) (h : n ≤ LIM) : F0 n = some (tab n fun _ _ => false) := by
 unfold F0
 have h' := h
 rw [Al] at h'
 rw [Aa (by rw [Al]; omega)]
 have := Az (body := E5 n) (fun i => ((i : Int), List.replicate i (List.replicate n false) ++ List.replicate (n - i) [])) n (tab n fun _ _ => false) (fun i hi => by
  unfold E5
  dsimp only
  rw [if_pos (by omega), Aa (by rw [Al]; omega), Aa (by simp; omega), Aa (by unfold InI; omega)]
  simp only [Int.toNat_natCast]
  rw [A5l _ _ _ hi (by simp), ← List.replicate_succ']
  rfl) (by
  unfold E5
  dsimp only
  rw [if_neg (by omega), A07]
  simp)
 simp only [List.replicate_zero, List.nil_append, Nat.sub_zero] at this
 simp only [Int.toNat_natCast]
 show (Ai _ (((0 : Nat) : Int), _)).bind _ = _
 rw [this]; rfl
def Atn (n : Nat) (f : Nat → Nat → Bool) (x y : Nat) : Prop := ¬ (x ≠ y ∧ f x y = true ∧ f y x = true) ∧ ∀ z, z < n → f x y = true → f y z = true → f x z = true
def Alb (n : Nat) (f : Nat → Nat → Bool) : Prop := ∀ x, x < n → f x x = true ∧ ∀ y, y < n → Atn n f x y
theorem A37 (n : Nat) (f : Nat → Nat → Bool) (h : n ≤ LIM) : ∀ x y, x < n → y < n → Ai (Bi (tab n f) x y) 0 = some (if ∃ z, 0 ≤ z ∧ z < n ∧ ¬ (f x y = true → f y z = true → f x z = true) then .inl () else .inr ()) := by
 rw [Al] at h
 have tl := Dg n f
 have rl := Aod n f
 have at_ := At3 n f
 intro x y hx hy
 have rx := rl x hx
 have ry := rl y hy
 have step : ∀ z, z < n → Bi (tab n f) x y z = some (if f x y = true → f y z = true → f x z = true then .inl ((z + 1 : Nat) : Int) else .inr (.inl ())) := by
  intro z hz
  unfold Bi
  rw [if_pos (by omega), Aa (by omega)]
  rw [Aa (by omega)]
  by_cases h1 : f x y = true
  ·rw [if_pos ((at_ x y hx hy).trans h1), Aa (by omega), Aa (by omega)]
   by_cases h2 : f y z = true
   ·rw [if_pos ((at_ y z hy hz).trans h2), Aa (by omega), Aa (by omega)]
    by_cases h3 : f x z = true
    ·rw [if_pos ((at_ x z hx hz).trans h3), Aa (by unfold InI; omega), if_pos (fun _ _ => h3)]; rfl
    ·rw [if_neg (by rw [at_ x z hx hz]; exact h3), if_neg (fun hc => h3 (hc h1 h2))]
   ·rw [if_neg (by rw [at_ y z hy hz]; exact h2), Aa (by unfold InI; omega), if_pos (fun _ hc => absurd hc h2)]; rfl
  ·rw [if_neg (by rw [at_ x y hx hy]; exact h1), Aa (by unfold InI; omega), if_pos (fun hc => absurd hc h1)]; rfl
 refine Da (body := Bi (tab n f) x y) (fun i => (i : Int)) n (fun z => ¬ (f x y = true → f y z = true → f x z = true)) () () (fun z hz hb => ?_) (fun z hz hb => ?_) ?_ 0 (by omega)
 ·rw [step z hz, if_pos (Classical.not_not.1 hb)]
 ·rw [step z hz, if_neg hb]
 ·unfold Bi
  rw [if_neg (by omega)]
theorem A4x (n : Nat) (f : Nat → Nat → Bool) (h : n ≤ LIM) : ∀ x, x < n → Ai (Bt (tab n f) x) 0 = some (if ∃ y, 0 ≤ y ∧ y < n ∧ ¬ Atn n f x y then .inl () else .inr ()) := by
 have l1 := A37 n f h
 rw [Al] at h
 have tl := Dg n f
 have rl := Aod n f
 have at_ := At3 n f
 intro x hx
 have rx := rl x hx
 have step : ∀ y, y < n → Bt (tab n f) x y = some (if Atn n f x y then .inl ((y + 1 : Nat) : Int) else .inr (.inl ())) := by
  intro y hy
  have ry := rl y hy
  unfold Bt
  rw [if_pos (by omega)]
  by_cases h1 : x ≠ y ∧ f x y = true ∧ f y x = true
  ·rw [if_pos (by omega), Aa (by omega), Aa (by omega), if_pos ((at_ x y hx hy).trans h1.2.1), Aa (by omega), Aa (by omega), if_pos ((at_ y x hy hx).trans h1.2.2), if_neg (fun hc => hc.1 h1)]
   rfl
  ·have piece : ∀ {α : Type} (A B : Option α) (h4 : x ≠ y → ¬ f x y = true → A = B) (h5 : x = y → A = B) (h6 : x ≠ y → f x y = true → ¬ f y x = true → A = B), A = B := by
    intro α A B h4 h5 h6
    by_cases hxy : x = y
    ·exact h5 hxy
    ·by_cases h2 : f x y = true
     ·by_cases h3 : f y x = true
      ·exact absurd ⟨hxy, h2, h3⟩ h1
      ·exact h6 hxy h2 h3
     ·exact h4 hxy h2
   have tail : ((Ai (Bi (tab n f) (x : Int) (y : Int)) 0).bind fun t => match t with
     | (.inl _) => (some (.inr (.inl ())))
     | (.inr _) => (ask (InI ((y : Int) + 1)) <| some (.inl ((y : Int) + 1)) : Option (Int ⊕ (Unit ⊕ Unit)))) = some (if Atn n f x y then .inl ((y + 1 : Nat) : Int) else .inr (.inl ())) := by
    rw [l1 x y hx hy]
    by_cases h2 : ∃ z, 0 ≤ z ∧ z < n ∧ ¬ (f x y = true → f y z = true → f x z = true)
    ·rw [if_pos h2, if_neg]
     ·rfl
     ·intro hc; obtain ⟨z, _, hz, hd⟩ := h2; exact hd (hc.2 z hz)
    ·rw [if_neg h2, if_pos ⟨h1, Gv.1 h2⟩]
     simp only [Option.bind_some]
     rw [Aa (by unfold InI; omega)]; rfl
   refine piece _ _ (fun h2 h3 => ?_) (fun h2 => ?_) (fun h2 h3 h4 => ?_)
   ·rw [if_pos (by omega), Aa (by omega), Aa (by omega), if_neg (by rw [at_ x y hx hy]; exact h3)]
    exact tail
   ·rw [if_neg (by omega)]
    exact tail
   ·rw [if_pos (by omega), Aa (by omega), Aa (by omega), if_pos ((at_ x y hx hy).trans h3), Aa (by omega), Aa (by omega), if_neg (by rw [at_ y x hy hx]; exact h4)]
    exact tail
 refine Da (body := Bt (tab n f) x) (fun i => (i : Int)) n (fun y => ¬ Atn n f x y) () () (fun y hy hb => ?_) (fun y hy hb => ?_) ?_ 0 (by omega)
 ·rw [step y hy, if_pos (Classical.not_not.1 hb)]
 ·rw [step y hy, if_neg hb]
 ·unfold Bt
  rw [if_neg (by omega)]
theorem A1t (n : Nat) (f : Nat → Nat → Bool) (h : n ≤ LIM) : Fi (tab n f) = some (decide (Alb n f)) := by
 unfold Fi
 have l2 := A4x n f h
 rw [Al] at h
 have tl := Dg n f
 have rl := Aod n f
 have at_ := At3 n f
 have step : ∀ x, x < n → B8 (tab n f) x = some (if f x x = true ∧ ∀ y, y < n → Atn n f x y then .inl ((x + 1 : Nat) : Int) else .inr (.inl ())) := by
  intro x hx
  have rx := rl x hx
  unfold B8
  rw [if_pos (by omega), Aa (by omega)]
  rw [Aa (by omega)]
  by_cases h1 : f x x = true
  ·rw [if_pos ((at_ x x hx hx).trans h1), l2 x hx]
   by_cases h2 : ∃ y, 0 ≤ y ∧ y < n ∧ ¬ Atn n f x y
   ·rw [if_pos h2, if_neg]
    ·rfl
    ·intro hc; obtain ⟨y, _, hy, hd⟩ := h2; exact hd (hc.2 y hy)
   ·rw [if_neg h2, if_pos ⟨h1, Gv.1 h2⟩]
    simp only [Option.bind_some]
    rw [Aa (by unfold InI; omega)]; rfl
  ·rw [if_neg (by rw [at_ x x hx hx]; exact h1), if_neg (fun hc => h1 hc.1)]
 have l3 := Da (body := B8 (tab n f)) (fun i => (i : Int)) n (fun x => ¬ (f x x = true ∧ ∀ y, y < n → Atn n f x y)) () () (fun x hx hb => by
  rw [step x hx, if_pos (Classical.not_not.1 hb)]) (fun x hx hb => by rw [step x hx, if_neg hb]) (by unfold B8; rw [if_neg (by omega)]) 0 (by omega)
 exact (Hj l3 false true).trans (congrArg some (Ou Gv))
end Go.Proofs.Ytoikbcagaanhgaa.Ax
namespace Go.Proofs.Ytoikbcagaanhgaa.Ax
open Go Classical
def A02 (xss : List (List Int)) : Prop := xss.length ≤ 10 ∧ ∀ r ∈ xss, Ic r ∧ Ay r xss.length
noncomputable def below (xss : List (List Int)) (y x : Nat) : Bool := decide ((y : Int) ∈ nth xss x)
noncomputable def Sb (xss : List (List Int)) (i : Nat) (y x : Nat) : Bool := decide (x < i ∧ (y : Int) ∈ nth xss x)
noncomputable def Wx (xss : List (List Int)) (i j : Nat) (y x : Nat) : Bool := decide ((x < i ∧ (y : Int) ∈ nth xss x) ∨ (x = i ∧ (y : Int) ∈ (nth xss i).take j))
theorem A4l (xss : List (List Int)) (i : Nat) : Wx xss i 0 = Sb xss i := by
 funext y x; simp [Wx, Sb]
theorem Aym (xss : List (List Int)) (i j : Nat) (h : (nth xss i).length ≤ j) : Wx xss i j = Sb xss (i + 1) := by
 funext y x
 simp only [Wx, Sb, List.take_of_length_le h, decide_eq_decide]
 constructor
 ·rintro (⟨h1, h2⟩ | ⟨rfl, h2⟩)
  ·exact ⟨by omega, h2⟩
  ·exact ⟨by omega, h2⟩
 ·rintro ⟨h1, h2⟩
  rcases Nat.lt_succ_iff_lt_or_eq.1 h1 with h | rfl
  ·exact .inl ⟨h, h2⟩
  ·exact .inr ⟨rfl, h2⟩
theorem Awi (xss : List (List Int)) (i j c : Nat) (h : j < (nth xss i).length) (hc : nth (nth xss i) j = (c : Int)) :
  (fun a b => if a = c ∧ b = i then true else Wx xss i j a b) = Wx xss i (j + 1) := by
 funext a b
 simp only [Wx]
 rw [L8 h, hc]
 by_cases hab : a = c ∧ b = i
 ·obtain ⟨rfl, rfl⟩ := hab
  simp
 ·rw [if_neg hab, decide_eq_decide]
  simp only [List.mem_append, List.mem_singleton]
  constructor
  ·rintro (h1 | ⟨h1, h2⟩)
   ·exact .inl h1
   ·exact .inr ⟨h1, .inl h2⟩
  ·rintro (h1 | ⟨h1, h2 | h2⟩)
   ·exact .inl h1
   ·exact .inr ⟨h1, h2⟩
   ·exact absurd ⟨by omega, h1⟩ hab
theorem Ayx (xss : List (List Int)) (n : Nat) (_h : n = xss.length) : tab n (Sb xss n) = tab n (below xss) := by
 refine Lg fun y x _ hx => ?_
 simp [Sb, below, hx]
theorem A4u (p : SPoset) (i : Nat) (hi : i < p.Below.length) (hl : (nth p.Below i).length ≤ LIM) (hs : Ay (nth p.Below i) p.Below.length) :
  Ai (D9 p i) (0, tab p.Below.length (Sb p.Below i)) = some (tab p.Below.length (Sb p.Below (i + 1))) := by
 rw [Al] at hl
 have := Az (body := D9 p i) (fun j => ((j : Int), tab p.Below.length (Wx p.Below i j))) (nth p.Below i).length (tab p.Below.length (Sb p.Below (i + 1))) (fun j hj => by
  unfold D9
  dsimp only
  obtain ⟨c, hc⟩ := Int.eq_ofNat_of_zero_le (hs _ (Ar hj)).1
  have hcn : c < p.Below.length := by have := (hs _ (Ar hj)).2; omega
  have tl := Dg p.Below.length (Wx p.Below i j)
  have tr := Dz p.Below.length (Wx p.Below i j) c hcn
  simp only [Int.toNat_natCast, hc]
  rw [if_pos (by omega), Aa (by omega), Aa (by omega), Aa (by omega), Aa (by unfold InI; omega), Am6 _ _ _ _ _ hcn hi, Awi _ _ _ _ hj hc]
  rfl) (by
  unfold D9
  dsimp only
  simp only [Int.toNat_natCast]
  rw [if_neg (by omega), Aym _ _ _ (Nat.le_refl _)])
 simp only [A4l] at this
 exact this
theorem Asm (p : SPoset) (h0 : p.Below.length ≤ LIM) (h1 : ∀ r ∈ p.Below, r.length ≤ LIM) :
  Gs p = some (if A02 p.Below then (tab p.Below.length (below p.Below), decide (Alb p.Below.length (below p.Below))) else ([], false)) := by
 unfold Gs
 have h0' := h0
 rw [Al] at h0'
 split
 ·rename_i h
  rw [if_neg (by rintro ⟨h2, _⟩; omega)]
 rename_i h
 have hn : p.Below.length ≤ 10 := by omega
 rw [Afz _ h0]
 simp only [Option.bind_some]
 have := Da (body := Ec p) (fun i => ((i : Int), tab p.Below.length (Sb p.Below i))) p.Below.length (fun i => ¬ (Ic (nth p.Below i) ∧ Ay (nth p.Below i) p.Below.length)) () (tab p.Below.length (below p.Below)) (fun i hi hb => by
  have hb := Classical.not_not.1 hb
  have hl := h1 _ (Ar hi)
  unfold Ec
  dsimp only
  rw [if_pos (by omega), Aa (by omega)]
  simp only [Int.toNat_natCast]
  rw [Amz _ hl, Ab1 _ _ hl]
  simp only [Option.bind_some, hb.1, hb.2, decide_true, if_true]
  rw [A4u p i hi hl hb.2]
  simp only [Option.bind_some]
  rw [Aa (by unfold InI; omega)]; rfl) (fun i hi hb => by
  have hl := h1 _ (Ar hi)
  unfold Ec
  dsimp only
  rw [if_pos (by omega), Aa (by omega)]
  simp only [Int.toNat_natCast]
  rw [Amz _ hl, Ab1 _ _ hl]
  by_cases h2 : Ic (nth p.Below i)
  ·have h3 : ¬ Ay (nth p.Below i) p.Below.length := fun hc => hb ⟨h2, hc⟩
   simp [h2, h3]
  ·simp [h2]) (by
  unfold Ec
  dsimp only
  rw [if_neg (by omega), Ayx _ _ rfl]) 0 (by omega)
 have e0 : Sb p.Below 0 = fun _ _ => false := by funext y x; simp [Sb]
 simp only [e0] at this
 rw [show (((0 : Nat) : Int)) = 0 from rfl] at this
 rw [this]
 by_cases hx : ∃ i, 0 ≤ i ∧ i < p.Below.length ∧ ¬ (Ic (nth p.Below i) ∧ Ay (nth p.Below i) p.Below.length)
 ·rw [if_pos hx, if_neg]
  ·rfl
  ·rintro ⟨_, hp⟩; obtain ⟨i, _, hi, hc⟩ := hx; exact hc (hp _ (Ar hi))
 ·have hall := Gv.1 hx
  rw [if_neg hx, if_pos ⟨hn, fun r hr => by obtain ⟨i, hi, rfl⟩ := Et.1 hr; exact hall i hi⟩]
  simp only [Option.bind_some]
  rw [A1t _ _ h0]; rfl
def good (xss : List (List Int)) : Prop := xss.length ≤ 10 ∧ (∀ x, x < xss.length → Zw (nth xss x) 0 (xss.length - 1) ∧ (x : Int) ∈ nth xss x) ∧
 ∀ x, x < xss.length → ∀ i, i < (nth xss x).length → ¬ (nth (nth xss x) i ≠ x ∧ (x : Int) ∈ nth xss (nth (nth xss x) i).toNat) ∧
   ∀ z ∈ nth xss (nth (nth xss x) i).toNat, z ∈ nth xss x
theorem A27 (p : SPoset) (h1 : ∀ r ∈ p.Below, r.length ≤ LIM) (x : Nat) (hx : x < p.Below.length) (hb : Zw (nth p.Below x) 0 (p.Below.length - 1)) :
  Ai (C7 p x) 0 = some (if ∃ i, 0 ≤ i ∧ i < (nth p.Below x).length ∧ ¬ (¬ (nth (nth p.Below x) i ≠ x ∧ (x : Int) ∈ nth p.Below (nth (nth p.Below x) i).toNat) ∧ ∀ z ∈ nth p.Below (nth (nth p.Below x) i).toNat, z ∈ nth p.Below x) then .inl () else .inr ()) := by
 have hl := h1 _ (Ar hx)
 have hl' := hl
 rw [Al] at hl'
 have step : ∀ i, i < (nth p.Below x).length → C7 p x i = some (if ¬ (nth (nth p.Below x) i ≠ x ∧ (x : Int) ∈ nth p.Below (nth (nth p.Below x) i).toNat) ∧ ∀ z ∈ nth p.Below (nth (nth p.Below x) i).toNat, z ∈ nth p.Below x then .inl ((i + 1 : Nat) : Int) else .inr (.inl ())) := by
  intro i hi
  have hv := (hb i hi).1
  unfold C7
  rw [Aa (by omega)]
  simp only [Int.toNat_natCast]
  rw [if_pos (by omega), Aa (by omega), Aa (by omega)]
  have hy : (nth (nth p.Below x) i).toNat < p.Below.length := by omega
  have hly := h1 _ (Ar hy)
  by_cases h2 : nth (nth p.Below x) i = x
  ·rw [if_neg (by simpa using h2), Aa (by omega), Aa (by omega), Z3 _ _ hly hl]
   simp only [Option.bind_some]
   by_cases h3 : ∀ z ∈ nth p.Below (nth (nth p.Below x) i).toNat, z ∈ nth p.Below x
   ·rw [if_pos (by simpa using h3), Aa (by unfold InI; omega), if_pos ⟨fun hc => hc.1 h2, h3⟩]; rfl
   ·rw [if_neg (by simpa using h3), if_neg (fun hc => h3 hc.2)]
  ·rw [if_pos (by simpa using h2), Aa (by omega), Aed _ _ hly]
   simp only [Option.bind_some]
   by_cases h4 : (x : Int) ∈ nth p.Below (nth (nth p.Below x) i).toNat
   ·rw [if_pos (by simpa using h4), if_neg (fun hc => hc.1 ⟨h2, h4⟩)]
   ·rw [if_neg (by simpa using h4), Aa (by omega), Aa (by omega), Z3 _ _ hly hl]
    simp only [Option.bind_some]
    by_cases h3 : ∀ z ∈ nth p.Below (nth (nth p.Below x) i).toNat, z ∈ nth p.Below x
    ·rw [if_pos (by simpa using h3), Aa (by unfold InI; omega), if_pos ⟨fun hc => h4 hc.2, h3⟩]; rfl
    ·rw [if_neg (by simpa using h3), if_neg (fun hc => h3 hc.2)]
 refine Da (body := C7 p x) (fun i => (i : Int)) (nth p.Below x).length _ () () (fun i hi hb => ?_) (fun i hi hb => ?_) ?_ 0 (by omega)
 ·rw [step i hi, if_pos (Classical.not_not.1 hb)]
 ·rw [step i hi, if_neg hb]
 ·unfold C7
  rw [Aa (by omega), if_neg (by simp)]
theorem A09 (p : SPoset) (h0 : p.Below.length ≤ LIM) (h1 : ∀ r ∈ p.Below, r.length ≤ LIM) : Kg p = some (decide (good p.Below)) := by
 unfold Kg
 rw [Al] at h0
 split
 ·rename_i h; rw [decide_eq_false]; rintro ⟨h2, _⟩; omega
 rename_i h
 have hn : p.Below.length ≤ 10 := by omega
 have hA := Da (body := Eh p) (fun i => (i : Int)) p.Below.length (fun x => ¬ (Zw (nth p.Below x) 0 (p.Below.length - 1) ∧ (x : Int) ∈ nth p.Below x)) () () (fun x hx hb => by
  have hb := Classical.not_not.1 hb
  have hl := h1 _ (Ar hx)
  unfold Eh
  rw [if_pos (by omega), Aa (by omega), Aa (by unfold InI; omega)]
  simp only [Int.toNat_natCast]
  rw [Zb _ _ _ hl]
  simp only [Option.bind_some]
  rw [if_pos (by simpa using hb.1), Aa (by omega), Aed _ _ hl]
  simp only [Option.bind_some]
  rw [if_pos (by simpa using hb.2), Aa (by unfold InI; omega)]; rfl) (fun x hx hb => by
  have hl := h1 _ (Ar hx)
  unfold Eh
  rw [if_pos (by omega), Aa (by omega), Aa (by unfold InI; omega)]
  simp only [Int.toNat_natCast]
  rw [Zb _ _ _ hl]
  simp only [Option.bind_some]
  by_cases h2 : Zw (nth p.Below x) 0 (p.Below.length - 1)
  ·rw [if_pos (by simpa using h2), Aa (by omega), Aed _ _ hl]
   simp only [Option.bind_some]
   rw [if_neg (by simpa using fun hc => hb ⟨h2, hc⟩)]
  ·rw [if_neg (by simpa using h2)]) (by unfold Eh; rw [if_neg (by omega)]) 0 (by omega)
 by_cases hxA : ∃ i, 0 ≤ i ∧ i < p.Below.length ∧ ¬ (Zw (nth p.Below i) 0 (p.Below.length - 1) ∧ (i : Int) ∈ nth p.Below i)
 ·rw [if_pos hxA] at hA
  rw [show (((0 : Nat) : Int)) = 0 from rfl] at hA
  rw [hA, decide_eq_false]
  ·rfl
  ·rintro ⟨_, hc, _⟩; obtain ⟨i, _, hi, hd⟩ := hxA; exact hd (hc i hi)
 rw [if_neg hxA, show (((0 : Nat) : Int)) = 0 from rfl] at hA
 have hall := Gv.1 hxA
 rw [hA]
 simp only [Option.bind_some]
 have stepB : ∀ x, x < p.Below.length → Ee p x = some (if ∀ i, i < (nth p.Below x).length → ¬ (nth (nth p.Below x) i ≠ x ∧ (x : Int) ∈ nth p.Below (nth (nth p.Below x) i).toNat) ∧ ∀ z ∈ nth p.Below (nth (nth p.Below x) i).toNat, z ∈ nth p.Below x then .inl ((x + 1 : Nat) : Int) else .inr (.inl ())) := by
  intro x hx
  unfold Ee
  rw [if_pos (by omega), A27 p h1 x hx (hall x hx).1]
  by_cases h2 : ∃ i, 0 ≤ i ∧ i < (nth p.Below x).length ∧ ¬ (¬ (nth (nth p.Below x) i ≠ x ∧ (x : Int) ∈ nth p.Below (nth (nth p.Below x) i).toNat) ∧ ∀ z ∈ nth p.Below (nth (nth p.Below x) i).toNat, z ∈ nth p.Below x)
  ·rw [if_pos h2, if_neg]
   ·rfl
   ·intro hc; obtain ⟨i, _, hi, hd⟩ := h2; exact hd (hc i hi)
  ·rw [if_neg h2, if_pos (Gv.1 h2)]
   simp only [Option.bind_some]
   rw [Aa (by unfold InI; omega)]; rfl
 have hB := Da (body := Ee p) (fun i => (i : Int)) p.Below.length (fun x => ¬ ∀ i, i < (nth p.Below x).length → ¬ (nth (nth p.Below x) i ≠ x ∧ (x : Int) ∈ nth p.Below (nth (nth p.Below x) i).toNat) ∧ ∀ z ∈ nth p.Below (nth (nth p.Below x) i).toNat, z ∈ nth p.Below x) () () (fun x hx hb => by
  rw [stepB x hx, if_pos (Classical.not_not.1 hb)]) (fun x hx hb => by rw [stepB x hx, if_neg hb]) (by unfold Ee; rw [if_neg (by omega)]) 0 (by omega)
 refine (Hj hB false true).trans (congrArg some (Ou ?_))
 rw [Gv]
 exact ⟨fun hh => ⟨hn, hall, hh⟩, fun hh => hh.2.2⟩
theorem Ps (xs : List Int) (n : Nat) : Zw xs 0 (n - 1) ↔ Ic xs ∧ Ay xs n := by
 constructor
 ·intro h
  refine ⟨fun i h1 h2 => (h i h2).2 h1, fun x hx => ?_⟩
  obtain ⟨i, h1, rfl⟩ := Et.1 hx
  have := (h i h1).1
  omega
 ·rintro ⟨h1, h2⟩ i hi
  have := h2 _ (Ar hi)
  exact ⟨by omega, fun h => h1 i h hi⟩
theorem Oz (xss : List (List Int)) : (A02 xss ∧ Alb xss.length (below xss)) ↔ good xss := by
 constructor
 ·rintro ⟨⟨h1, h2⟩, h3⟩
  have hs : ∀ x, x < xss.length → Ic (nth xss x) ∧ Ay (nth xss x) xss.length := fun x hx => h2 _ (Ar hx)
  refine ⟨h1, fun x hx => ⟨(Ps _ _).2 (hs x hx), by simpa [below] using (h3 x hx).1⟩, fun x hx i hi => ?_⟩
  have hm := Ar hi
  have hb := (hs x hx).2 _ hm
  obtain ⟨y, hy⟩ := Int.eq_ofNat_of_zero_le hb.1
  rw [hy] at hm ⊢
  have hyn : y < xss.length := by omega
  simp only [Int.toNat_natCast]
  refine ⟨fun hc => ?_, fun z hz => ?_⟩
  ·refine ((h3 y hyn).2 x hx).1 ⟨fun e => hc.1 (by rw [e]), by simpa [below] using hm, by simpa [below] using hc.2⟩
  ·have hzb := (hs y hyn).2 z hz
   obtain ⟨w, rfl⟩ := Int.eq_ofNat_of_zero_le hzb.1
   have := ((h3 w (by omega)).2 y hyn).2 x hx (by simpa [below] using hz) (by simpa [below] using hm)
   simpa [below] using this
 ·rintro ⟨h1, h2, h3⟩
  refine ⟨⟨h1, fun r hr => ?_⟩, fun x hx => ⟨by simpa [below] using (h2 x hx).2, fun y hy => ⟨?_, fun z hz a b => ?_⟩⟩⟩
  ·obtain ⟨x, hx, rfl⟩ := Et.1 hr
   exact (Ps _ _).1 (h2 x hx).1
  ·rintro ⟨a, b, c⟩
   obtain ⟨i, hi, he⟩ := Et.1 (show (x : Int) ∈ nth xss y by simpa [below] using b)
   have := (h3 y hy i hi).1
   rw [he] at this
   exact this ⟨by omega, by simpa [below] using c⟩
  ·obtain ⟨i, hi, he⟩ := Et.1 (show (y : Int) ∈ nth xss z by simpa [below] using b)
   have := (h3 z hz i hi).2
   rw [he] at this
   have := this x (by simpa [below] using a)
   simpa [below] using this
theorem Apr (p : SPoset) (h0 : p.Below.length ≤ LIM) (h1 : ∀ r ∈ p.Below, r.length ≤ LIM) (hg : good p.Below) : Gs p = some (tab p.Below.length (below p.Below), true) := by
 have hh := (Oz _).2 hg
 rw [Asm p h0 h1, if_pos hh.1, decide_eq_true hh.2]
theorem A1a (p : SPoset) (h0 : p.Below.length ≤ LIM) (h1 : ∀ r ∈ p.Below, r.length ≤ LIM) (hg : ¬ good p.Below) : ∃ o, Gs p = some (o, false) := by
 rw [Asm p h0 h1]
 by_cases hp : A02 p.Below
 ·rw [if_pos hp, decide_eq_false]
  ·exact ⟨_, rfl⟩
  ·exact fun ho => hg ((Oz _).1 ⟨hp, ho⟩)
 ·rw [if_neg hp]; exact ⟨_, rfl⟩
end Go.Proofs.Ytoikbcagaanhgaa.Ax
namespace Go.Proofs.Ytoikbcagaanhgaa.Ax
open Go Classical
def small (p : SPoset) : Prop := p.Below.length ≤ LIM ∧ ∀ r ∈ p.Below, r.length ≤ LIM
def read (p : SPoset) : Prop := p.Below.length ≤ BIG ∧ ∀ r ∈ p.Below, r.length ≤ BIG
end Go.Proofs.Ytoikbcagaanhgaa.Ax
namespace Go.Proofs.Ytoikbcagaanhgaa.Ax
open Go Classical
def Aj (n : Nat) (p : Nat → Bool) : List Int := ((List.range n).filter p).map fun i : Nat => (i : Int)
theorem Nm {n : Nat} {p q : Nat → Bool} (h : ∀ i, i < n → p i = q i) : Aj n p = Aj n q := by
 unfold Aj
 congr 1
 exact List.filter_congr fun i hi => h i (List.mem_range.1 hi)
theorem Ko (n : Nat) (p : Nat → Bool) : Aj (n + 1) p = if p n then Aj n p ++ [(n : Int)] else Aj n p := by
 unfold Aj
 rw [List.range_succ, List.filter_append, List.map_append]
 by_cases h : p n <;> simp [h]
theorem Cn (n : Nat) (p : Nat → Bool) : (Aj n p).length ≤ n := by
 unfold Aj
 rw [List.length_map]
 exact Nat.le_trans (List.length_filter_le _ _) (by simp)
theorem Bc {n : Nat} {p : Nat → Bool} {x : Int} : x ∈ Aj n p ↔ ∃ i : Nat, i < n ∧ p i = true ∧ x = i := by
 unfold Aj
 rw [List.mem_map]
 constructor
 ·rintro ⟨i, hi, rfl⟩
  have := List.mem_filter.1 hi
  exact ⟨i, List.mem_range.1 this.1, this.2, rfl⟩
 ·rintro ⟨i, h1, h2, rfl⟩
  exact ⟨i, List.mem_filter.2 ⟨List.mem_range.2 h1, h2⟩, rfl⟩
theorem Asb {n : Nat} {p : Nat → Bool} : Aj n p = [] ↔ ∀ i, i < n → p i = false := by
 constructor
 ·intro h i hi
  cases hp : p i with
  | false => rfl
  | true =>
    have : (i : Int) ∈ Aj n p := Bc.2 ⟨i, hi, hp, rfl⟩
    rw [h] at this; cases this
 ·intro h
  refine List.eq_nil_iff_forall_not_mem.2 fun x hx => ?_
  obtain ⟨i, h1, h2, _⟩ := Bc.1 hx
  rw [h i h1] at h2; cases h2
theorem M5 {body : (Int × List Int) → Option ((Int × List Int) ⊕ List Int)} (n : Nat) (p : Nat → Bool)
  (h : ∀ (i : Nat) acc, i < n → acc.length ≤ i → body ((i : Int), acc) = some (.inl (((i + 1 : Nat) : Int), if p i then acc ++ [(i : Int)] else acc)))
  (he : ∀ acc, body ((n : Int), acc) = some (.inr acc)) : Ai body (0, Ao Int) = some (Aj n p) := by
 have := Az (body := body) (fun i => ((i : Int), Aj i p)) n (Aj n p) (fun i hi => by
  rw [h i _ hi (Cn i p), Ko]) (he _)
 have e : Aj 0 p = Ao Int := rfl
 simp only [e] at this
 exact this
theorem A5o {o : List (List Bool)} {so : Int → Option Bool} {n : Nat} {p : Nat → Bool} (hn : o.length = n) (hl : n ≤ LIM) (h : ∀ i, i < n → so (i : Int) = some (p i)) : E4 o so = some (Aj n p) := by
 unfold E4
 rw [Al] at hl
 rw [M5 n p (fun i acc hi ha => by
  unfold Ew
  dsimp only
  rw [if_pos (by omega), h i hi]
  simp only [Option.bind_some]
  by_cases hp : p i = true
  ·rw [if_pos hp, if_pos hp, Aa (by rw [Al]; simp; omega), Aa (by unfold InI; omega)]; rfl
  ·rw [if_neg hp, if_neg hp, Aa (by unfold InI; omega)]; rfl) (fun acc => by
  unfold Ew
  dsimp only
  rw [if_neg (by omega)])]
 rfl
section
variable {p : SPoset}
theorem Adr (hg : good p.Below) (x : Nat) (hx : x < p.Below.length) : Ic (nth p.Below x) ∧ Ay (nth p.Below x) p.Below.length := by
 have := (Oz _).2 hg
 exact this.1.2 _ (Ar hx)
theorem Ar2 (hg : good p.Below) (x : Nat) (hx : x < p.Below.length) : below p.Below x x = true := ((Oz _).2 hg).2 x hx |>.1
theorem Ar1 (hg : good p.Below) (x y : Nat) (hx : x < p.Below.length) (hy : y < p.Below.length) (h1 : below p.Below x y = true) (h2 : below p.Below y x = true) : x = y := by
 have := ((((Oz _).2 hg).2 x hx).2 y hy).1
 exact Classical.byContradiction fun hc => this ⟨hc, h1, h2⟩
theorem Anz (hg : good p.Below) (x y z : Nat) (hx : x < p.Below.length) (hy : y < p.Below.length) (hz : z < p.Below.length) (h1 : below p.Below x y = true) (h2 : below p.Below y z = true) : below p.Below x z = true :=
 ((((Oz _).2 hg).2 x hx).2 y hy).2 z hz h1 h2
theorem Ab3 {xs : List Int} (h : Ic xs) : ∀ {j i : Nat}, i < j → j < xs.length → nth xs i < nth xs j := by
 intro j
 induction j with
 | zero => intro i hi; omega
 | succ j ih =>
   intro i hi hj
   have := h (j + 1) (by omega) hj
   rw [Nat.add_sub_cancel] at this
   by_cases hij : i = j
   ·subst hij; exact this
   ·exact Int.lt_trans (ih (by omega) (by omega)) this
theorem Aea : ∀ {xs ys : List Int}, Ic xs → Ic ys → (∀ x, x ∈ xs ↔ x ∈ ys) → xs = ys := by
 have tl : ∀ {x : Int} {xs : List Int}, Ic (x :: xs) → Ic xs := by
  intro x xs h i h1 h2
  have := h (i + 1) (by omega) (by simpa using h2)
  rw [Nat.add_sub_cancel] at this
  have e1 : nth (x :: xs) (i + 1) = nth xs i := rfl
  have e2 : nth (x :: xs) i = nth xs (i - 1) := by
   cases i with
   | zero => omega
   | succ i => rfl
  rw [e1, e2] at this; exact this
 have hd : ∀ {x : Int} {xs : List Int}, Ic (x :: xs) → ∀ y ∈ xs, x < y := by
  intro x xs h y hy
  obtain ⟨i, hi, rfl⟩ := Et.1 hy
  exact Ab3 h (i := 0) (j := i + 1) (by omega) (by simpa using hi)
 intro xs
 induction xs with
 | nil =>
   intro ys _ _ h
   cases ys with
   | nil => rfl
   | cons y r => have := (h y).2 (by simp); cases this
 | cons x r ih =>
   intro ys h1 h2 h
   cases ys with
   | nil => have := (h x).1 (by simp); cases this
   | cons y s =>
     have e : x = y := by
      have a := (h x).1 (by simp)
      have b := (h y).2 (by simp)
      rcases List.mem_cons.1 a with a | a
      ·exact a
      ·rcases List.mem_cons.1 b with b | b
       ·exact b.symm
       ·have := hd h2 _ a; have := hd h1 _ b; omega
     subst e
     congr 1
     refine ih (tl h1) (tl h2) fun z => ?_
     constructor
     ·intro hz
      rcases List.mem_cons.1 ((h z).1 (by simp [hz])) with e | e
      ·subst e; have := hd h1 _ hz; omega
      ·exact e
     ·intro hz
      rcases List.mem_cons.1 ((h z).2 (by simp [hz])) with e | e
      ·subst e; have := hd h2 _ hz; omega
      ·exact e
theorem Gl (n : Nat) (q : Nat → Bool) : Ic (Aj n q) := by
 induction n with
 | zero => intro i h1 h2; simp [Aj] at h2
 | succ n ih =>
   rw [Ko]
   split
   ·intro i h1 h2
    by_cases hi : i < (Aj n q).length
    ·rw [Sj hi, Sj (by omega)]; exact ih i h1 hi
    ·have hi2 : i = (Aj n q).length := by simp at h2; omega
     subst hi2
     rw [And, Sj (by omega)]
     obtain ⟨k, hk, _, e⟩ := Bc.1 (Ar (xs := Aj n q) (i := (Aj n q).length - 1) (by omega))
     rw [e]; omega
   ·exact ih
theorem Ayi (hg : good p.Below) (x : Nat) (hx : x < p.Below.length) : nth p.Below x = Aj p.Below.length fun y => below p.Below y x := by
 obtain ⟨h1, h2⟩ := Adr hg x hx
 refine Aea h1 (Gl _ _) fun z => ?_
 rw [Bc]
 constructor
 ·intro hz
  obtain ⟨k, hk⟩ := Int.eq_ofNat_of_zero_le (h2 z hz).1
  have := (h2 z hz).2
  exact ⟨k, by omega, by rw [hk] at hz; simpa [below] using hz, hk⟩
 ·rintro ⟨k, _, hb, rfl⟩
  simpa [below] using hb
end
theorem Aif {p : SPoset} (hs : small p) (x y : Nat) (hy : y < p.Below.length) : Gk p x y = some (below p.Below x y) := by
 unfold Gk
 rw [Aa (by omega)]
 simp only [Int.toNat_natCast]
 rw [Aed _ _ (hs.2 _ (Ar hy))]
 simp only [Option.bind_some, below]
theorem A39 (o : List (List Bool)) (xs : List Int) (h : xs.length ≤ LIM) : Dt o xs = some (decide (Ay xs o.length)) := by
 unfold Dt
 rw [Ab1 _ _ h]; rfl
end Go.Proofs.Ytoikbcagaanhgaa.Ax
namespace Go.Proofs.Ytoikbcagaanhgaa.Ax
open Go Classical
theorem Fo (n : Int) : InI n ↔ -9223372036854775808 ≤ n ∧ n ≤ 9223372036854775807 := Iff.rfl
section
variable {p : SPoset}
noncomputable def Gw (p : SPoset) : SPoset := ⟨(List.range p.Below.length).map fun x => Aj p.Below.length fun y => below p.Below x y⟩
theorem Ny : (Gw p).Below.length = p.Below.length := by simp [Gw]
theorem An5 {x : Nat} (hx : x < p.Below.length) : nth (Gw p).Below x = Aj p.Below.length fun y => below p.Below x y := by
 unfold Gw
 dsimp only
 rw [L2 _ (by simpa using hx), P2 hx]
theorem I3 {x y : Nat} (hx : x < p.Below.length) (hy : y < p.Below.length) : below (Gw p).Below y x = below p.Below x y := by
 rw [Bool.eq_iff_iff]
 rw [show (below (Gw p).Below y x = true ↔ (y : Int) ∈ nth (Gw p).Below x) from by simp [below], An5 hx, Bc]
 constructor
 ·rintro ⟨i, _, h, e⟩
  have : i = y := by omega
  subst this; exact h
 ·intro h; exact ⟨y, hy, h, rfl⟩
theorem Azo (hs : small p) : small (Gw p) := by
 refine ⟨by rw [Ny]; exact hs.1, fun r hr => ?_⟩
 obtain ⟨i, hi, rfl⟩ := Et.1 hr
 rw [Ny] at hi
 rw [An5 hi]
 exact Nat.le_trans (Cn _ _) hs.1
theorem Ary (hg : good p.Below) : good (Gw p).Below := by
 have hp := (Oz _).2 hg
 refine (Oz _).1 ⟨⟨by rw [Ny]; exact hp.1.1, fun r hr => ?_⟩, fun x hx => ?_⟩
 ·obtain ⟨i, hi, rfl⟩ := Et.1 hr
  rw [Ny] at hi ⊢
  rw [An5 hi]
  refine ⟨Gl _ _, fun z hz => ?_⟩
  obtain ⟨k, hk, _, rfl⟩ := Bc.1 hz
  omega
 ·rw [Ny] at hx
  refine ⟨by rw [I3 hx hx]; exact Ar2 hg x hx, fun y hy => ?_⟩
  rw [Ny] at hy
  refine ⟨?_, fun z hz => ?_⟩
  ·rw [I3 hx hy, I3 hy hx]
   rintro ⟨h1, h2, h3⟩
   exact h1 (Ar1 hg x y hx hy h3 h2)
  ·rw [Ny] at hz
   rw [I3 hy hx, I3 hz hy, I3 hz hx]
   intro h1 h2
   exact Anz hg z y x hz hy hx h2 h1
theorem Akt (hs : small p) : Gq p = some (Gw p) := by
 have h0 := hs.1
 rw [Al] at h0
 unfold Gq
 have := Az (body := Fr p) (fun i => ((i : Int), (⟨(List.range i).map fun x => Aj p.Below.length fun y => below p.Below x y⟩ : SPoset))) p.Below.length (Gw p) (fun i hi => by
  unfold Fr
  have e := M5 (body := Ft p (i : Int) ⟨(List.range i).map fun x => Aj p.Below.length fun y => below p.Below x y⟩) p.Below.length (fun y => below p.Below i y) (fun j acc hj ha => by
   unfold Ft
   by_cases hb : below p.Below i j = true <;> simp (disch := omega) only [Aa, if_pos, if_true, if_false, Fo, Al, List.length_cons, List.length_nil, Int.natCast_add, Int.natCast_one, Option.bind_some, Bool.false_eq_true, Aif hs i j hj, hb] <;> rfl) (fun acc => by
   unfold Ft
   simp (disch := omega) only [Aa, if_pos, if_neg, Fo, Al, List.length_cons, List.length_nil])
  simp (disch := omega) only [Aa, if_pos, Fo, Al, List.length_cons, List.length_nil, Int.natCast_add, Int.natCast_one, Option.bind_some, e, List.length_map, List.length_range, List.range_succ, List.map_append, List.map_cons, List.map_nil]) (by
  unfold Fr
  simp (disch := omega) only [Aa, if_neg, Fo, Al, List.length_cons, List.length_nil]
  rfl)
 have e0 : (((0 : Nat) : Int), (⟨(List.range 0).map fun x => Aj p.Below.length fun y => below p.Below x y⟩ : SPoset)) = (0, { Below := Ao (List Int) }) := rfl
 simp only [e0] at this
 rw [this]
 rfl
end
def F5 (n : Nat) (f : Nat → Bool) : List Bool := (List.range n).map f
theorem Mh (n : Nat) (f : Nat → Bool) : (F5 n f).length = n := by simp [F5]
theorem Ld {n : Nat} {f : Nat → Bool} {i : Nat} (h : i < n) : nth (F5 n f) i = f i := by
 unfold F5; rw [L2 _ (by simpa using h), P2 h]
theorem Ane {n : Nat} {f : Nat → Bool} {i : Nat} {v : Bool} (_h : i < n) : (F5 n f).set i v = F5 n fun j => if j = i then v else f j := by
 refine Zc (by simp [F5]) fun j hj => ?_
 have hj' : j < n := by simpa [F5] using hj
 rw [At7 _ _ _ _ (by rw [Mh]; exact hj'), Ld hj', Ld hj']
 by_cases e : i = j
 ·rw [if_pos e, if_pos e.symm]
 ·rw [if_neg e, if_neg (Ne.symm e)]
theorem Ti {n : Nat} {f g : Nat → Bool} (h : ∀ i, i < n → f i = g i) : F5 n f = F5 n g := List.map_congr_left fun i hi => h i (List.mem_range.1 hi)
theorem Ao4 (n : Nat) : List.replicate n false = F5 n fun _ => false := by
 refine Zc (by simp [F5]) fun j hj => ?_
 have hj' : j < n := by simpa using hj
 rw [Ld hj', Ae8 _ hj']
theorem Ahu (n : Nat) (xs : List Int) (h : xs.length ≤ LIM) (hn : n ≤ LIM) : Fs n xs = some (decide (Ay xs n)) := by
 unfold Fs
 rw [Al] at h hn
 have e := Da (body := Cp n xs) (fun i => (i : Int)) xs.length (fun i => ¬ (0 ≤ nth xs i ∧ nth xs i < n)) () () (fun i hi hb => by
  have hc : 0 ≤ nth xs i ∧ nth xs i ≤ n - 1 := by have := Classical.not_not.1 hb; omega
  unfold Cp
  simp (disch := omega) only [Aa, if_pos, if_true, Fo, Int.toNat_natCast, Int.natCast_add, Int.natCast_one, Option.bind_some, Ade, hc, and_self, decide_true]) (fun i hi hb => by
  have hc : ¬ (0 ≤ nth xs i ∧ nth xs i ≤ n - 1) := fun hh => hb (by omega)
  unfold Cp
  simp (disch := omega) only [Aa, if_pos, if_false, Fo, Int.toNat_natCast, Option.bind_some, Bool.false_eq_true, Ade, hc, decide_false]) (by
  unfold Cp
  simp (disch := omega) only [Aa, if_pos, if_neg, Fo, Int.toNat_natCast]) 0 (Nat.zero_le _)
 refine (Hj e false true).trans ?_
 congr 1
 refine Ou ?_
 rw [Gv]
 constructor
 ·intro hh x hx
  obtain ⟨i, hi, rfl⟩ := Et.1 hx
  exact hh i hi
 ·intro hh i hi
  exact hh _ (Ar hi)
end Go.Proofs.Ytoikbcagaanhgaa.Ax
namespace Go.Proofs.Ytoikbcagaanhgaa.Ax
open Go Classical
theorem Nb {σ τ : Type} {body : σ → Option (σ ⊕ τ)} (s : Nat → σ) (n : Nat) (hit : Nat → Prop) (res : Nat → τ) (no : τ)
  (h : ∀ i, i < n → ¬ hit i → body (s i) = some (.inl (s (i + 1)))) (h2 : ∀ i, i < n → hit i → body (s i) = some (.inr (res i))) (he : body (s n) = some (.inr no)) :
  (∃ i, i < n ∧ hit i ∧ (∀ j, j < i → ¬ hit j) ∧ Ai body (s 0) = some (res i)) ∨ ((∀ i, i < n → ¬ hit i) ∧ Ai body (s 0) = some no) := by
 by_cases hx : ∃ i, i < n ∧ hit i
 ·have key : ∀ m i, i ≤ m → i < n → hit i → ∃ i, i < n ∧ hit i ∧ ∀ j, j < i → ¬ hit j := by
   intro m
   induction m with
   | zero => intro i h1 h2 h3; exact ⟨i, h2, h3, fun j hj => by omega⟩
   | succ m ih =>
     intro i h1 h2 h3
     by_cases hy : ∃ j, j < i ∧ hit j
     ·obtain ⟨j, h4, h5⟩ := hy
      exact ih j (by omega) (by omega) h5
     ·exact ⟨i, h2, h3, fun j hj hh => hy ⟨j, hj, hh⟩⟩
  obtain ⟨i0, h1, h3⟩ := hx
  obtain ⟨i, h4, h5, h6⟩ := key i0 i0 (Nat.le_refl _) h1 h3
  exact .inl ⟨i, h4, h5, h6, Az s i (res i) (fun j hj => h j (by omega) (h6 j hj)) (h2 i h4 h5)⟩
 ·have hn : ∀ i, i < n → ¬ hit i := fun i hi hh => hx ⟨i, hi, hh⟩
  exact .inr ⟨hn, Az s n no (fun j hj => h j hj (hn j hj)) he⟩
structure Ord (n : Nat) (f : Nat → Nat → Bool) : Prop where
 refl : ∀ x, x < n → f x x = true
 anti : ∀ x y, x < n → y < n → f x y = true → f y x = true → x = y
 trans : ∀ x y z, x < n → y < n → z < n → f x y = true → f y z = true → f x z = true
def opp (f : Nat → Nat → Bool) : Nat → Nat → Bool := fun x y => f y x
theorem Ord.opp {n : Nat} {f : Nat → Nat → Bool} (h : Ord n f) : Ord n (opp f) :=
 ⟨h.refl, fun x y hx hy h1 h2 => h.anti x y hx hy h2 h1, fun x y z hx hy hz h1 h2 => h.trans z y x hz hy hx h2 h1⟩
theorem Is {p : SPoset} (hg : good p.Below) : Ord p.Below.length (below p.Below) := ⟨Ar2 hg, Ar1 hg, Anz hg⟩
def Xp (n : Nat) (f : Nat → Nat → Bool) (L : Nat → Bool) (m : Nat) : Prop := m < n ∧ L m = true ∧ ∀ z, z < n → L z = true → f z m = true
noncomputable def bnd (n : Nat) (f : Nat → Nat → Bool) (L : Nat → Bool) : Int := if h : ∃ m, Xp n f L m then ((Classical.choose h : Nat) : Int) else -1
section
variable {n : Nat} {f : Nat → Nat → Bool} {L : Nat → Bool}
theorem Azp (ho : Ord n f) {m m' : Nat} (h : Xp n f L m) (h' : Xp n f L m') : m = m' :=
 ho.anti m m' h.1 h'.1 (h'.2.2 m h.1 h.2.1) (h.2.2 m' h'.1 h'.2.1)
theorem Aot (ho : Ord n f) {m : Nat} (h : Xp n f L m) : bnd n f L = m := by
 unfold bnd
 have hx : ∃ m, Xp n f L m := ⟨m, h⟩
 rw [dif_pos hx, Azp ho (Classical.choose_spec hx) h]
theorem Apl (h : ¬ ∃ m, Xp n f L m) : bnd n f L = -1 := by
 unfold bnd; rw [dif_neg h]
theorem Asl (n : Nat) (f : Nat → Nat → Bool) (L : Nat → Bool) : (∃ m : Nat, bnd n f L = m ∧ Xp n f L m) ∨ (bnd n f L = -1 ∧ ¬ ∃ m, Xp n f L m) := by
 by_cases h : ∃ m, Xp n f L m
 ·refine .inl ⟨Classical.choose h, ?_, Classical.choose_spec h⟩
  unfold bnd; rw [dif_pos h]
 ·exact .inr ⟨Apl h, h⟩
theorem Ala {g : Nat → Nat → Bool} {L' : Nat → Bool} (hf : ∀ x y, x < n → y < n → f x y = g x y) (hL : ∀ z, z < n → L z = L' z) (m : Nat) : Xp n f L m ↔ Xp n g L' m := by
 constructor
 ·rintro ⟨h1, h2, h3⟩
  exact ⟨h1, by rw [← hL m h1]; exact h2, fun z hz hl => by rw [← hf z m hz h1]; exact h3 z hz (by rw [hL z hz]; exact hl)⟩
 ·rintro ⟨h1, h2, h3⟩
  exact ⟨h1, by rw [hL m h1]; exact h2, fun z hz hl => by rw [hf z m hz h1]; exact h3 z hz (by rw [← hL z hz]; exact hl)⟩
theorem A1q {g : Nat → Nat → Bool} {L' : Nat → Bool} (hg : Ord n g) (hf : ∀ x y, x < n → y < n → f x y = g x y) (hL : ∀ z, z < n → L z = L' z) : bnd n f L = bnd n g L' := by
 rcases Asl n f L with ⟨m, h1, h2⟩ | ⟨h1, h2⟩
 ·rw [h1, Aot hg ((Ala hf hL m).1 h2)]
 ·rw [h1, Apl fun ⟨m, hm⟩ => h2 ⟨m, (Ala hf hL m).2 hm⟩]
theorem A0f (ho : Ord n f) {i : Nat} (hi : i < (Aj n L).length) (hh : ∀ x ∈ Aj n L, f x.toNat (nth (Aj n L) i).toNat = true) : bnd n f L = nth (Aj n L) i := by
 obtain ⟨m, h1, h2, h3⟩ := Bc.1 (Ar hi)
 rw [h3]
 refine Aot ho ⟨h1, h2, fun z hz hl => ?_⟩
 have := hh z (Bc.2 ⟨z, hz, hl, rfl⟩)
 rw [h3] at this
 simpa using this
theorem Asg (hh : ∀ i, i < (Aj n L).length → ¬ ∀ x ∈ Aj n L, f x.toNat (nth (Aj n L) i).toNat = true) : bnd n f L = -1 := by
 refine Apl ?_
 rintro ⟨m, h1, h2, h3⟩
 obtain ⟨i, h4, h5⟩ := Et.1 (Bc.2 ⟨m, h1, h2, rfl⟩ : (m : Int) ∈ Aj n L)
 refine hh i h4 fun x hx => ?_
 obtain ⟨z, h6, h7, rfl⟩ := Bc.1 hx
 rw [h5]
 simpa using h3 z h6 h7
def lo2 (f : Nat → Nat → Bool) (x y : Nat) : Nat → Bool := fun z => f z x && f z y
noncomputable def loA (f : Nat → Nat → Bool) (xs : List Int) : Nat → Bool := fun z => decide (∀ x ∈ xs, f z x.toNat = true)
theorem A0w (x y : Nat) : loA f [(x : Int), (y : Int)] = lo2 f x y := by
 funext z
 unfold loA lo2
 cases h1 : f z x <;> cases h2 : f z y <;> simp [h1, h2]
def meets (n : Nat) (f : Nat → Nat → Bool) : Prop := ∀ x y, x < n → y < n → 0 ≤ bnd n f (lo2 f x y)
theorem Awc (x y : Nat) : lo2 f x y = lo2 f y x := by
 funext z; simp [lo2, Bool.and_comm]
theorem Avz (ho : Ord n f) {x : Nat} (hx : x < n) : bnd n f (lo2 f x x) = x :=
 Aot ho ⟨hx, by simp [lo2, ho.refl x hx], fun z _ h => by simpa [lo2] using h⟩
theorem Asf (ho : Ord n f) : meets n f ↔ ∀ x, x < n → ∀ y, y < x → ¬ bnd n f (lo2 f x y) < 0 := by
 constructor
 ·intro h x hx y hy
  have := h x y hx (by omega); omega
 ·intro h x y hx hy
  rcases Nat.lt_trichotomy x y with h1 | h1 | h1
  ·have := h y hy x h1
   rw [Awc]; omega
  ·subst h1; rw [Avz ho hx]; omega
  ·have := h x hx y h1; omega
noncomputable def inf (n : Nat) (f : Nat → Nat → Bool) (x y : Nat) : Nat := (bnd n f (lo2 f x y)).toNat
theorem Air (hm : meets n f) {x y : Nat} (hx : x < n) (hy : y < n) : Xp n f (lo2 f x y) (inf n f x y) := by
 have h := hm x y hx hy
 rcases Asl n f (lo2 f x y) with ⟨m, h1, h2⟩ | ⟨h1, _⟩
 ·unfold inf; rw [h1]; exact h2
 ·omega
theorem Atk (hm : meets n f) {x y : Nat} (hx : x < n) (hy : y < n) : bnd n f (lo2 f x y) = inf n f x y := by
 have h := hm x y hx hy
 unfold inf; omega
theorem M2 (hm : meets n f) {x y : Nat} (hx : x < n) (hy : y < n) : inf n f x y < n := (Air hm hx hy).1
theorem Ai8 (hm : meets n f) {x y : Nat} (hx : x < n) (hy : y < n) : f (inf n f x y) x = true := by
 have := (Air hm hx hy).2.1
 simp only [lo2, Bool.and_eq_true] at this; exact this.1
theorem Ad9 (hm : meets n f) {x y : Nat} (hx : x < n) (hy : y < n) : f (inf n f x y) y = true := by
 have := (Air hm hx hy).2.1
 simp only [lo2, Bool.and_eq_true] at this; exact this.2
theorem Am2 (hm : meets n f) {x y z : Nat} (hx : x < n) (hy : y < n) (hz : z < n) (h1 : f z x = true) (h2 : f z y = true) : f z (inf n f x y) = true :=
 (Air hm hx hy).2.2 z hz (by simp [lo2, h1, h2])
end
noncomputable def cov (n : Nat) (f : Nat → Nat → Bool) (x y : Nat) : Bool := decide ((x ≠ y ∧ f x y = true) ∧ ∀ z, z < n → ¬ ((x ≠ z ∧ f x z = true) ∧ (z ≠ y ∧ f z y = true)))
end Go.Proofs.Ytoikbcagaanhgaa.Ax
namespace Go.Proofs.Ytoikbcagaanhgaa.Ax
open Go Classical
theorem Ag3 {xs : List Int} {P : Int → Prop} {i : Nat} (hi : i < xs.length) : (∀ x ∈ xs.take (i + 1), P x) ↔ (∀ x ∈ xs.take i, P x) ∧ P (nth xs i) := by
 rw [L8 hi]
 constructor
 ·intro h
  exact ⟨fun x hx => h x (by simp [hx]), h _ (by simp)⟩
 ·rintro ⟨h1, h2⟩ x hx
  rcases List.mem_append.1 hx with hx | hx
  ·exact h1 x hx
  ·simp only [List.mem_singleton] at hx; subst hx; exact h2
section
variable {p : SPoset}
theorem Axr (hs : small p) (xs : List Int) (hx : Ay xs p.Below.length) (hl : xs.length ≤ LIM) (z : Nat) (acc : List Int) :
  Ai (Cx p xs (z : Int) acc) (0, true) = some (loA (below p.Below) xs z) := by
 have e : loA (below p.Below) xs z = decide (∀ x ∈ xs.take xs.length, below p.Below z x.toNat = true) := by rw [List.take_length]; rfl
 rw [e]
 have key : Ai (Cx p xs (z : Int) acc) (((0 : Nat) : Int), decide (∀ x ∈ xs.take 0, below p.Below z x.toNat = true)) = some (decide (∀ x ∈ xs.take xs.length, below p.Below z x.toNat = true)) :=
  Az (body := Cx p xs (z : Int) acc) (fun i => ((i : Int), decide (∀ x ∈ xs.take i, below p.Below z x.toNat = true))) xs.length _ (fun i hi => by
  unfold Cx
  dsimp only
  rw [Al] at hl
  have hr := hx _ (Ar hi)
  have hc : nth xs i = (((nth xs i).toNat : Nat) : Int) := by omega
  by_cases ha : ∀ x ∈ xs.take i, below p.Below z x.toNat = true
  ·rw [decide_eq_true ha]
   simp (disch := omega) only [Aa, if_pos, if_true, Fo, Int.toNat_natCast, Int.natCast_add, Int.natCast_one]
   rw [hc, Aif hs z _ (by omega)]
   simp (disch := omega) only [Option.bind_some]
   have : (∀ x ∈ xs.take (i + 1), below p.Below z x.toNat = true) ↔ below p.Below z (nth xs i).toNat = true := by
    rw [Ag3 hi]; exact ⟨fun h => h.2, fun h => ⟨ha, h⟩⟩
   simp only [this, Bool.decide_eq_true]
  ·have hb : ¬ ∀ x ∈ xs.take (i + 1), below p.Below z x.toNat = true := fun h => ha ((Ag3 hi).1 h).1
   rw [decide_eq_false ha, decide_eq_false hb]
   simp (disch := omega) only [Aa, if_pos, if_false, Fo, Int.toNat_natCast, Int.natCast_add, Int.natCast_one, Bool.false_eq_true]) (by
  unfold Cx
  dsimp only
  rw [if_neg (by omega)])
 have e0 : decide (∀ x ∈ xs.take 0, below p.Below z x.toNat = true) = true := by simp
 rw [e0] at key
 exact key
theorem Ar4 (y x : Nat) : (y : Int) ∈ nth p.Below x ↔ below p.Below y x = true := by simp [below]
theorem Ap3 (hs : small p) (hg : good p.Below) (xs : List Int) (hx : Ay xs p.Below.length) (hl : xs.length ≤ LIM) :
  B0 p xs = some (bnd p.Below.length (below p.Below) (loA (below p.Below) xs)) := by
 unfold B0
 have h0 := hs.1
 have h10 : p.Below.length ≤ 10 := hg.1
 rw [M5 (body := Fa p xs) p.Below.length (loA (below p.Below) xs) (fun i acc hi ha => by
  unfold Fa
  dsimp only
  rw [if_pos (by omega), Axr hs xs hx hl i acc]
  simp only [Option.bind_some]
  by_cases hp : loA (below p.Below) xs i = true
  ·rw [if_pos hp, if_pos hp]
   simp (disch := omega) only [Aa, Fo, Al, List.length_cons, List.length_nil, Int.natCast_add, Int.natCast_one]
  ·rw [if_neg hp, if_neg hp]
   simp (disch := omega) only [Aa, Fo, Int.natCast_add, Int.natCast_one]) (fun acc => by
  unfold Fa
  dsimp only
  rw [if_neg (by omega)])]
 simp only [Option.bind_some]
 have hsl := Cn p.Below.length (loA (below p.Below) xs)
 have hin : ∀ i, i < (Aj p.Below.length (loA (below p.Below) xs)).length → ∃ m : Nat, nth (Aj p.Below.length (loA (below p.Below) xs)) i = m ∧ m < p.Below.length := by
  intro i hi
  obtain ⟨m, h1, _, h3⟩ := Bc.1 (Ar hi)
  exact ⟨m, h3, h1⟩
 generalize hLs : Aj p.Below.length (loA (below p.Below) xs) = ls at hsl hin
 rcases Nb (body := Dp p ls) (fun i => (i : Int)) ls.length (fun i => ∀ x ∈ ls, x ∈ nth p.Below (nth ls i).toNat) (fun i => .inl (nth ls i)) (.inr ()) (fun i hi hh => by
   unfold Dp
   obtain ⟨m, hm, hm2⟩ := hin i hi
   rw [if_pos (by omega), Aa (by omega), Aa (by rw [Int.toNat_natCast, hm]; omega), Z3 _ _ (by rw [Al]; omega) (hs.2 _ (Ar (by rw [Int.toNat_natCast, hm]; omega))), Int.toNat_natCast]
   simp only [Option.bind_some]
   rw [if_neg (by simpa using hh), Aa (by unfold InI; omega)]
   rfl) (fun i hi hh => by
   unfold Dp
   obtain ⟨m, hm, hm2⟩ := hin i hi
   rw [if_pos (by omega), Aa (by omega), Aa (by rw [Int.toNat_natCast, hm]; omega), Z3 _ _ (by rw [Al]; omega) (hs.2 _ (Ar (by rw [Int.toNat_natCast, hm]; omega))), Int.toNat_natCast]
   simp only [Option.bind_some]
   rw [if_pos (by simpa using hh), Aa (by omega)]) (by
   unfold Dp
   rw [if_neg (by omega)]) with ⟨i, hi, hh, _, e⟩ | ⟨hn, e⟩
 ·rw [show ((0 : Int)) = (((0 : Nat)) : Int) from rfl, e]
  simp only [Option.bind_some]
  subst hLs
  rw [A0f (Is hg) hi fun x hx => ?_]
  obtain ⟨z, _, _, rfl⟩ := Bc.1 hx
  rw [Int.toNat_natCast]
  exact (Ar4 _ _).1 (hh _ hx)
 ·rw [show ((0 : Int)) = (((0 : Nat)) : Int) from rfl, e]
  simp only [Option.bind_some]
  subst hLs
  rw [Asg fun i hi hc => hn i hi fun x hx => ?_]
  obtain ⟨z, _, _, rfl⟩ := Bc.1 hx
  have := hc _ hx
  rw [Int.toNat_natCast] at this
  exact (Ar4 _ _).2 this
theorem A3o (hg : good p.Below) (L : (Nat → Nat → Bool) → Nat → Bool) (hL : ∀ z, z < p.Below.length → L (below (Gw p).Below) z = L (opp (below p.Below)) z) :
  bnd (Gw p).Below.length (below (Gw p).Below) (L (below (Gw p).Below)) = bnd p.Below.length (opp (below p.Below)) (L (opp (below p.Below))) := by
 have ho := Is (Ary hg)
 rw [Ny] at ho ⊢
 exact A1q (Is hg).opp (fun x y hx hy => I3 hy hx) hL
theorem Ax2 (hs : small p) (hg : good p.Below) (xs : List Int) (hx : Ay xs p.Below.length) (hl : xs.length ≤ LIM) :
  B0 (Gw p) xs = some (bnd p.Below.length (opp (below p.Below)) (loA (opp (below p.Below)) xs)) := by
 rw [Ap3 (Azo hs) (Ary hg) xs (by rw [Ny]; exact hx) hl, A3o hg (fun g => loA g xs) fun z hz => ?_]
 unfold loA
 rw [decide_eq_decide]
 constructor
 ·intro h x hxx
  have := hx x hxx
  have h2 := h x hxx
  rw [I3 (by omega) hz] at h2; exact h2
 ·intro h x hxx
  have := hx x hxx
  rw [I3 (by omega) hz]; exact h x hxx
end
section
variable {n : Nat} {f : Nat → Nat → Bool}
theorem Alj (hn : n ≤ LIM) (ls : List Int) (hx : Ay ls n) (hl : ls.length ≤ n) (k : Nat) (hk : k < ls.length) :
  Ai (Bm (tab n f) ls (k : Int)) (0, true) = some (decide (∀ x ∈ ls, f x.toNat (nth ls k).toNat = true)) := by
 have key : Ai (Bm (tab n f) ls (k : Int)) (((0 : Nat) : Int), decide (∀ x ∈ ls.take 0, f x.toNat (nth ls k).toNat = true)) = some (decide (∀ x ∈ ls.take ls.length, f x.toNat (nth ls k).toNat = true)) :=
  Az (body := Bm (tab n f) ls (k : Int)) (fun i => ((i : Int), decide (∀ x ∈ ls.take i, f x.toNat (nth ls k).toNat = true))) ls.length _ (fun i hi => by
  unfold Bm
  dsimp only
  rw [Al] at hn
  have hr := hx _ (Ar hi)
  have hr2 := hx _ (Ar hk)
  have hlen := Dz n f (nth ls i).toNat (by omega)
  have htl := Dg n f
  by_cases ha : ∀ x ∈ ls.take i, f x.toNat (nth ls k).toNat = true
  ·rw [decide_eq_true ha]
   simp (disch := omega) only [Aa, if_pos, if_true, Fo, Int.toNat_natCast, Int.natCast_add, Int.natCast_one, htl, hlen]
   have : (∀ x ∈ ls.take (i + 1), f x.toNat (nth ls k).toNat = true) ↔ f (nth ls i).toNat (nth ls k).toNat = true := by
    rw [Ag3 hi]; exact ⟨fun h => h.2, fun h => ⟨ha, h⟩⟩
   simp only [this, Bool.decide_eq_true]
   rw [Tz n f _ _ (by omega) (by omega)]
  ·have hb : ¬ ∀ x ∈ ls.take (i + 1), f x.toNat (nth ls k).toNat = true := fun h => ha ((Ag3 hi).1 h).1
   rw [decide_eq_false ha, decide_eq_false hb]
   simp (disch := omega) only [Aa, if_pos, if_false, Fo, Int.toNat_natCast, Int.natCast_add, Int.natCast_one, Bool.false_eq_true]) (by
  unfold Bm
  dsimp only
  rw [if_neg (by omega)])
 have e0 : decide (∀ x ∈ ls.take 0, f x.toNat (nth ls k).toNat = true) = true := by simp
 rw [e0, List.take_length] at key
 exact key
theorem Ani (ho : Ord n f) (hn : n ≤ LIM) (L : Nat → Bool) : E0 (tab n f) (Aj n L) = some (bnd n f L) := by
 unfold E0
 have hsl := Cn n L
 have hin : Ay (Aj n L) n := by
  intro x hx
  obtain ⟨m, h1, _, rfl⟩ := Bc.1 hx
  omega
 rw [Al] at hn
 rcases Nb (body := B2 (tab n f) (Aj n L)) (fun i => (i : Int)) (Aj n L).length (fun i => ∀ x ∈ Aj n L, f x.toNat (nth (Aj n L) i).toNat = true) (fun i => .inl (nth (Aj n L) i)) (.inr ()) (fun i hi hh => by
   unfold B2
   rw [if_pos (by omega), Aa (by omega), Alj hn _ hin hsl i hi, decide_eq_false hh]
   simp (disch := omega) only [Aa, if_false, Fo, Int.toNat_natCast, Int.natCast_add, Int.natCast_one, Option.bind_some, Bool.false_eq_true]) (fun i hi hh => by
   unfold B2
   rw [if_pos (by omega), Aa (by omega), Alj hn _ hin hsl i hi, decide_eq_true hh]
   simp (disch := omega) only [Aa, if_true, Fo, Int.toNat_natCast, Option.bind_some]) (by
   unfold B2
   rw [if_neg (by omega)]) with ⟨i, hi, hh, _, e⟩ | ⟨hnn, e⟩
 ·rw [show ((0 : Int)) = (((0 : Nat)) : Int) from rfl, e, A0f ho hi hh]; rfl
 ·rw [show ((0 : Int)) = (((0 : Nat)) : Int) from rfl, e, Asg hnn]; rfl
theorem Aux (x y z : Nat) (hx : x < n) (hy : y < n) (hz : z < n) : Cf (z : Int) (tab n f) (x : Int) (y : Int) = some (lo2 f x y z) := by
 unfold Cf
 have htl := Dg n f
 have hlen := Dz n f z hz
 rw [Aa (by omega), Int.toNat_natCast, Aa (by omega), Int.toNat_natCast, Tz n f z x hz hx]
 unfold lo2
 cases h : f z x
 ·simp
 ·rw [if_pos rfl, Aa (by omega), Aa (by omega), Int.toNat_natCast, Tz n f z y hz hy]; simp
noncomputable def Xr (n : Nat) (f : Nat → Nat → Bool) : List (List Int) := (List.range n).map fun x => (List.range n).map fun y => bnd n f (lo2 f x y)
noncomputable def Abg (n : Nat) (f : Nat → Nat → Bool) (x i : Nat) : List Int := (List.range i).map fun y => bnd n f (lo2 f x y)
noncomputable def Acr (n : Nat) (f : Nat → Nat → Bool) (i : Nat) : List (List Int) := (List.range i).map fun x => Abg n f x n
theorem Akj (x i : Nat) : Abg n f x (i + 1) = Abg n f x i ++ [bnd n f (lo2 f x i)] := by simp [Abg, List.range_succ]
theorem Ay3 (i : Nat) : Acr n f (i + 1) = Acr n f i ++ [Abg n f i n] := by simp [Acr, List.range_succ]
theorem Yx (x i : Nat) : (Abg n f x i).length = i := by simp [Abg]
theorem A2a (i : Nat) : (Acr n f i).length = i := by simp [Acr]
theorem Ahm : (Xr n f).length = n := by simp [Xr]
theorem Ajd {x : Nat} (hx : x < n) : nth (Xr n f) x = Abg n f x n := by
 unfold Xr
 rw [L2 _ (by simpa using hx), P2 hx]; rfl
theorem A52 {x y : Nat} (hx : x < n) (hy : y < n) : nth (nth (Xr n f) x) y = bnd n f (lo2 f x y) := by
 rw [Ajd hx]
 unfold Abg
 rw [L2 _ (by simpa using hy), P2 hy]
theorem Ars (ho : Ord n f) (hn : n ≤ LIM) (x : Nat) (hx : x < n) (acc : List (List Int)) : (Ai (Bd (tab n f) (x : Int) acc) (0, Ao Int) = some (.inl ()) ∧ ∃ y, y < n ∧ bnd n f (lo2 f x y) < 0) ∨
  (Ai (Bd (tab n f) (x : Int) acc) (0, Ao Int) = some (.inr (Abg n f x n)) ∧ ∀ y, y < n → ¬ bnd n f (lo2 f x y) < 0) := by
 have htl := Dg n f
 have hth : ∀ y, y < n → E4 (tab n f) (fun w => Cf w (tab n f) (x : Int) (y : Int)) = some (Aj n (lo2 f x y)) := fun y hy =>
  A5o (n := n) (p := lo2 f x y) htl hn fun z hz => Aux x y z hx hy hz
 have hn' := hn
 rw [Al] at hn'
 rcases Nb (body := Bd (tab n f) (x : Int) acc) (fun i => ((i : Int), Abg n f x i)) n (fun y => bnd n f (lo2 f x y) < 0) (fun _ => .inl ()) (.inr (Abg n f x n)) (fun y hy hh => by
   unfold Bd
   dsimp only
   rw [if_pos (by omega), hth y hy]
   simp only [Option.bind_some]
   rw [Ani ho hn]
   have hl := Yx (n := n) (f := f) x y
   simp only [Option.bind_some]
   rw [if_neg hh, Aa (by rw [Al]; simp; omega), Aa (by unfold InI; omega), Akj]
   rfl) (fun y hy hh => by
   unfold Bd
   dsimp only
   rw [if_pos (by omega), hth y hy]
   simp only [Option.bind_some]
   rw [Ani ho hn]
   simp only [Option.bind_some]
   rw [if_pos hh]) (by
   unfold Bd
   dsimp only
   rw [if_neg (by omega)]) with ⟨i, hi, hh, _, e⟩ | ⟨hnn, e⟩
 ·exact .inl ⟨e, i, hi, hh⟩
 ·exact .inr ⟨e, hnn⟩
theorem V3 (ho : Ord n f) (hn : n ≤ LIM) : C0 (tab n f) = some (if meets n f then (Xr n f, true) else (Ao (List Int), false)) := by
 unfold C0
 have htl := Dg n f
 have hn' := hn
 rw [Al] at hn'
 rcases Nb (body := Bz (tab n f)) (fun i => ((i : Int), Acr n f i)) n (fun x => ∃ y, y < n ∧ bnd n f (lo2 f x y) < 0) (fun _ => .inl ()) (.inr (Acr n f n)) (fun x hx hh => by
   unfold Bz
   dsimp only
   have hl := A2a (n := n) (f := f) x
   rcases Ars ho hn x hx (Acr n f x) with ⟨_, hc⟩ | ⟨e, _⟩
   ·exact absurd hc hh
   ·rw [if_pos (by omega), e]
    simp only [Option.bind_some]
    rw [Aa (by rw [Al]; simp; omega), Aa (by unfold InI; omega), Ay3]
    rfl) (fun x hx hh => by
   unfold Bz
   dsimp only
   rcases Ars ho hn x hx (Acr n f x) with ⟨e, _⟩ | ⟨_, hc⟩
   ·rw [if_pos (by omega), e]; rfl
   ·obtain ⟨y, hy, hb⟩ := hh
    exact absurd hb (hc y hy)) (by
   unfold Bz
   dsimp only
   rw [if_neg (by omega)]) with ⟨i, hi, ⟨y, hy, hb⟩, _, e⟩ | ⟨hnn, e⟩
 ·have : ¬ meets n f := fun hm => by have := hm i y hi hy; omega
  rw [if_neg this]
  rw [show (((0 : Int), Ao (List Int))) = ((((0 : Nat)) : Int), Acr n f 0) from rfl, e]; rfl
 ·have : meets n f := fun x y hx hy => by
   exact Int.not_lt.1 fun hb => hnn x hx ⟨y, hy, hb⟩
  rw [if_pos this]
  rw [show (((0 : Int), Ao (List Int))) = ((((0 : Nat)) : Int), Acr n f 0) from rfl, e]; rfl
def Aic (f : Nat → Nat → Bool) (x y : Nat) : Nat → Nat → Bool := fun a b => if a < x ∨ (a = x ∧ b < y) then f b a else false
theorem A6l (hn : n ≤ LIM) (x : Nat) (hx : x < n) : Ai (Cs (tab n f) (x : Int)) (0, tab n (Aic f x 0)) = some (tab n (Aic f (x + 1) 0)) := by
 have htl := Dg n f
 have hn' := hn
 rw [Al] at hn'
 refine Az (body := Cs (tab n f) (x : Int)) (fun y => ((y : Int), tab n (Aic f x y))) n _ (fun y hy => ?_) ?_
 ·unfold Cs
  dsimp only
  have h1 := Dg n (Aic f x y)
  have h2 := Dz n f y hy
  have h3 := Dz n (Aic f x y) x hx
  simp (disch := omega) only [Aa, if_pos, Fo, Int.toNat_natCast, Int.natCast_add, Int.natCast_one, htl, h1, h2, h3]
  rw [Tz n f y x hy hx, Am6 n _ x y _ hx hy]
  congr 4
  funext a b
  unfold Aic
  by_cases hab : a = x ∧ b = y
  ·obtain ⟨rfl, rfl⟩ := hab
   simp
  ·rw [if_neg hab]
   have : (a < x ∨ a = x ∧ b < y) ↔ (a < x ∨ a = x ∧ b < y + 1) := by omega
   simp only [this]
 ·unfold Cs
  dsimp only
  rw [if_neg (by omega)]
  congr 2
  refine Lg fun a b ha hb => ?_
  unfold Aic
  have : (a < x ∨ a = x ∧ b < n) ↔ (a < x + 1 ∨ a = x + 1 ∧ b < 0) := by omega
  simp only [this]
theorem Aii (hn : n ≤ LIM) : Hr (tab n f) = some (tab n (opp f)) := by
 unfold Hr
 have htl := Dg n f
 rw [htl, Afz n hn]
 simp only [Option.bind_some]
 have hn' := hn
 rw [Al] at hn'
 have key : Ai (Cu (tab n f)) (((0 : Nat) : Int), tab n (Aic f 0 0)) = some (tab n (Aic f n 0)) :=
  Az (body := Cu (tab n f)) (fun x => ((x : Int), tab n (Aic f x 0))) n _ (fun x hx => by
   unfold Cu
   dsimp only
   rw [if_pos (by omega), A6l hn x hx]
   simp only [Option.bind_some]
   rw [Aa (by unfold InI; omega)]; rfl) (by
   unfold Cu
   dsimp only
   rw [if_neg (by omega)])
 have e0 : tab n (Aic f 0 0) = tab n fun _ _ => false := Lg fun a b _ _ => by simp [Aic]
 have e1 : tab n (Aic f n 0) = tab n (opp f) := Lg fun a b ha _ => by simp [Aic, opp, ha]
 rw [e0, e1] at key
 rw [show ((0 : Int)) = (((0 : Nat)) : Int) from rfl, key]; rfl
end
def Bv (p : SPoset) : Prop := good p.Below ∧ p.Below.length ≠ 0 ∧ meets p.Below.length (below p.Below) ∧ meets p.Below.length (opp (below p.Below))
noncomputable def Oo (p : SPoset) : Slattice := ⟨tab p.Below.length (below p.Below), Xr p.Below.length (below p.Below), Xr p.Below.length (opp (below p.Below))⟩
section
variable {p : SPoset}
theorem Ho (hs : small p) (h : Bv p) : B1 p = some (some (Oo p), true) := by
 obtain ⟨hg, h0, h1, h2⟩ := h
 unfold B1
 have htl := Dg p.Below.length (below p.Below)
 rw [Apr p hs.1 hs.2 hg]
 simp only [Option.bind_some, if_true, htl]
 rw [if_neg (by omega)]
 simp only [Option.bind_some]
 rw [V3 (Is hg) hs.1, Aii hs.1]
 simp only [Option.bind_some]
 rw [V3 (Is hg).opp hs.1, if_pos h1, if_pos h2]
 rfl
theorem K8 (hs : small p) (h : ¬ Bv p) : ∃ l, B1 p = some (l, false) := by
 unfold B1
 by_cases hg : good p.Below
 ·have htl := Dg p.Below.length (below p.Below)
  rw [Apr p hs.1 hs.2 hg]
  simp only [Option.bind_some, if_true, htl]
  by_cases h0 : p.Below.length = 0
  ·rw [if_pos (by omega)]; exact ⟨_, rfl⟩
  rw [if_neg (by omega)]
  simp only [Option.bind_some]
  rw [V3 (Is hg) hs.1, Aii hs.1]
  simp only [Option.bind_some]
  rw [V3 (Is hg).opp hs.1]
  simp only [Option.bind_some]
  by_cases h1 : meets p.Below.length (below p.Below)
  ·have h2 : ¬ meets p.Below.length (opp (below p.Below)) := fun h2 => h ⟨hg, h0, h1, h2⟩
   rw [if_pos h1, if_neg h2]
   exact ⟨_, rfl⟩
  ·rw [if_neg h1]
   exact ⟨_, rfl⟩
 ·obtain ⟨o, e⟩ := A1a p hs.1 hs.2 hg
  rw [e]
  exact ⟨none, by simp⟩
theorem Aza {x y n : Nat} (hx : x < n) (hy : y < n) : Ay [(x : Int), (y : Int)] n := by
 intro z hz
 simp only [List.mem_cons, List.not_mem_nil, or_false] at hz
 rcases hz with rfl | rfl <;> omega
theorem Ahz (hs : small p) (hg : good p.Below) {x y : Nat} (hx : x < p.Below.length) (hy : y < p.Below.length) : B0 p [(x : Int), (y : Int)] = some (bnd p.Below.length (below p.Below) (lo2 (below p.Below) x y)) := by
 rw [Ap3 hs hg _ (Aza hx hy) (by rw [Al]; simp), A0w]
theorem Ad6 (hs : small p) (hg : good p.Below) {x y : Nat} (hx : x < p.Below.length) (hy : y < p.Below.length) : B0 (Gw p) [(x : Int), (y : Int)] = some (bnd p.Below.length (opp (below p.Below)) (lo2 (opp (below p.Below)) x y)) := by
 rw [Ax2 hs hg _ (Aza hx hy) (by rw [Al]; simp), A0w]
theorem Aee (hs : small p) : Fh p = some (decide (Bv p)) := by
 unfold Fh
 rw [A09 p hs.1 hs.2]
 simp only [Option.bind_some]
 by_cases hg : good p.Below
 ·rw [decide_eq_true hg]
  by_cases h0 : p.Below.length = 0
  ·simp only [if_true]
   rw [if_pos (by omega), decide_eq_false (fun h => h.2.1 h0)]; rfl
  simp only [if_true]
  rw [if_neg (by omega)]
  simp only [Option.bind_some]
  rw [Akt hs]
  simp only [Option.bind_some]
  have h10 : p.Below.length ≤ 10 := hg.1
  let bad : Nat → Nat → Prop := fun x y => bnd p.Below.length (below p.Below) (lo2 (below p.Below) x y) < 0 ∨ bnd p.Below.length (opp (below p.Below)) (lo2 (opp (below p.Below)) x y) < 0
  have inner : ∀ x, x < p.Below.length → (∃ y, y < x ∧ bad x y ∧ Ai (Cm p (Gw p) (x : Int)) 0 = some (.inl ())) ∨ ((∀ y, y < x → ¬ bad x y) ∧ Ai (Cm p (Gw p) (x : Int)) 0 = some (.inr ())) := by
   intro x hx
   rcases Nb (body := Cm p (Gw p) (x : Int)) (fun y => (y : Int)) x (bad x) (fun _ => .inl ()) (.inr ()) (fun y hy hh => by
     unfold Cm
     rw [if_pos (by omega), Ahz hs hg hx (by omega)]
     simp only [Option.bind_some]
     rw [if_neg (fun h => hh (.inl h)), Ad6 hs hg hx (by omega)]
     simp only [Option.bind_some]
     rw [if_neg (fun h => hh (.inr h)), Aa (by unfold InI; omega)]; rfl) (fun y hy hh => by
     unfold Cm
     rw [if_pos (by omega), Ahz hs hg hx (by omega)]
     simp only [Option.bind_some]
     by_cases h1 : bnd p.Below.length (below p.Below) (lo2 (below p.Below) x y) < 0
     ·rw [if_pos h1]
     ·rw [if_neg h1, Ad6 hs hg hx (by omega)]
      simp only [Option.bind_some]
      rw [if_pos (hh.resolve_left h1)]) (by
     unfold Cm
     rw [if_neg (by omega)]) with ⟨y, hy, hh, _, e⟩ | ⟨hn, e⟩
   ·exact .inl ⟨y, hy, hh, e⟩
   ·exact .inr ⟨hn, e⟩
  rcases Nb (body := D8 p (Gw p)) (fun x => (x : Int)) p.Below.length (fun x => ∃ y, y < x ∧ bad x y) (fun _ => .inl ()) (.inr ()) (fun x hx hh => by
    unfold D8
    rw [if_pos (by omega)]
    rcases inner x hx with ⟨y, hy, hb, _⟩ | ⟨_, e⟩
    ·exact absurd ⟨y, hy, hb⟩ hh
    ·rw [e]
     simp only [Option.bind_some]
     rw [Aa (by unfold InI; omega)]; rfl) (fun x hx hh => by
    unfold D8
    rw [if_pos (by omega)]
    rcases inner x hx with ⟨_, _, _, e⟩ | ⟨hb, _⟩
    ·rw [e]; rfl
    ·obtain ⟨y, hy, hc⟩ := hh
     exact absurd hc (hb y hy)) (by
    unfold D8
    rw [if_neg (by omega)]) with ⟨x, hx, ⟨y, hy, hb⟩, _, e⟩ | ⟨hn, e⟩
  ·rw [show ((0 : Int)) = (((0 : Nat)) : Int) from rfl, e, decide_eq_false]
   ·rfl
   ·rintro ⟨_, _, h1, h2⟩
    have := h1 x y hx (by omega)
    have := h2 x y hx (by omega)
    rcases hb with hb | hb <;> omega
  ·rw [show ((0 : Int)) = (((0 : Nat)) : Int) from rfl, e, decide_eq_true]
   ·rfl
   ·refine ⟨hg, h0, (Asf (Is hg)).2 fun x hx y hy hc => hn x hx ⟨y, hy, .inl hc⟩, (Asf (Is hg).opp).2 fun x hx y hy hc => hn x hx ⟨y, hy, .inr hc⟩⟩
 ·rw [decide_eq_false hg, decide_eq_false (fun h => hg h.1)]
  rfl
end
end Go.Proofs.Ytoikbcagaanhgaa.Ax
namespace Go.Proofs.Ytoikbcagaanhgaa.Ax
open Go Classical
def B5 (n : Nat) (f : Nat → Nat → Bool) : SPoset := ⟨(List.range n).map fun x => Aj n fun y => f y x⟩
def Xk (n : Nat) (f : Nat → Nat → Bool) (i : Nat) : List (List Int) := (List.range i).map fun x => Aj n fun y => f y x
theorem Ac1 (n : Nat) (f : Nat → Nat → Bool) (i : Nat) : Xk n f (i + 1) = Xk n f i ++ [Aj n fun y => f y i] := by simp [Xk, List.range_succ]
theorem Afr (n : Nat) (f : Nat → Nat → Bool) (i : Nat) : (Xk n f i).length = i := by simp [Xk]
section
variable {n : Nat} {f : Nat → Nat → Bool}
theorem Dd : (B5 n f).Below.length = n := by simp [B5]
theorem Akd {x : Nat} (hx : x < n) : nth (B5 n f).Below x = Aj n fun y => f y x := by
 unfold B5
 rw [L2 _ (by simpa using hx), P2 hx]
theorem Aft (r : List Int) (hr : r ∈ (B5 n f).Below) : r.length ≤ n := by
 simp only [B5, List.mem_map, List.mem_range] at hr
 obtain ⟨x, _, rfl⟩ := hr
 exact Cn _ _
theorem Alc (hn : n ≤ LIM) : small (B5 n f) := ⟨by rw [Dd]; exact hn, fun r hr => Nat.le_trans (Aft r hr) hn⟩
theorem Qu {x y : Nat} (hx : x < n) (hy : y < n) : below (B5 n f).Below y x = f y x := by
 unfold below
 rw [Akd hx]
 cases h : f y x with
 | true => exact decide_eq_true (Bc.2 ⟨y, hy, h, rfl⟩)
 | false =>
   refine decide_eq_false fun hm => ?_
   obtain ⟨z, _, h2, h3⟩ := Bc.1 hm
   have : z = y := by omega
   subst this
   rw [h] at h2; cases h2
theorem Avw (hn : n ≤ 10) : A02 (B5 n f).Below := by
 refine ⟨by rw [Dd]; exact hn, fun r hr => ?_⟩
 rw [Dd]
 simp only [B5, List.mem_map, List.mem_range] at hr
 obtain ⟨x, _, rfl⟩ := hr
 refine ⟨Gl _ _, fun y hy => ?_⟩
 obtain ⟨z, h1, _, rfl⟩ := Bc.1 hy
 omega
theorem Acg {g : Nat → Nat → Bool} (h : ∀ x y, x < n → y < n → f x y = g x y) (hf : Alb n f) : Alb n g := by
 intro x hx
 obtain ⟨h1, h2⟩ := hf x hx
 refine ⟨by rw [← h x x hx hx]; exact h1, fun y hy => ?_⟩
 obtain ⟨h3, h4⟩ := h2 y hy
 refine ⟨by rw [← h x y hx hy, ← h y x hy hx]; exact h3, fun z hz => ?_⟩
 rw [← h x y hx hy, ← h y z hy hz, ← h x z hx hz]
 exact h4 z hz
theorem Ape (hn : n ≤ 10) : good (B5 n f).Below ↔ Alb n f := by
 rw [← Oz]
 have hl : (B5 n f).Below.length = n := Dd
 constructor
 ·rintro ⟨_, h⟩
  rw [hl] at h
  exact Acg (fun x y hx hy => Qu hy hx) h
 ·intro h
  refine ⟨Avw hn, ?_⟩
  rw [hl]
  exact Acg (fun x y hx hy => (Qu hy hx).symm) h
theorem Aq7 (hn : n ≤ LIM) : G0 (tab n f) = some (B5 n f) := by
 unfold G0
 have htl := Dg n f
 have hn' := hn
 rw [Al] at hn'
 have inner : ∀ x, x < n → ∀ acc, Ai (Cj (tab n f) (x : Int) acc) (0, Ao Int) = some (Aj n fun y => f y x) := by
  intro x hx acc
  refine M5 (body := Cj (tab n f) (x : Int) acc) n (fun y => f y x) (fun y acc2 hy ha => ?_) (fun acc2 => ?_)
  ·unfold Cj
   dsimp only
   have h2 := Dz n f y hy
   rw [if_pos (by omega), Aa (by omega), Int.toNat_natCast, Aa (by omega), Int.toNat_natCast, Tz n f y x hy hx]
   by_cases hf : f y x = true
   ·rw [if_pos hf, if_pos hf]
    simp (disch := omega) only [Aa, Fo, Al, List.length_cons, List.length_nil, Int.natCast_add, Int.natCast_one]
   ·rw [if_neg hf, if_neg hf]
    simp (disch := omega) only [Aa, Fo, Int.natCast_add, Int.natCast_one]
  ·unfold Cj
   dsimp only
   rw [if_neg (by omega)]
 have key : Ai (Ck (tab n f)) (((0 : Nat) : Int), (⟨Xk n f 0⟩ : SPoset)) = some (B5 n f) :=
  Az (body := Ck (tab n f)) (fun x => ((x : Int), (⟨Xk n f x⟩ : SPoset))) n _ (fun x hx => by
   unfold Ck
   dsimp only
   have hl := Afr n f x
   rw [if_pos (by omega), inner x hx]
   simp only [Option.bind_some]
   rw [Aa (by rw [Al]; simp; omega), Aa (by unfold InI; omega), Ac1]
   rfl) (by
   unfold Ck
   dsimp only
   rw [if_neg (by omega)]
   rfl)
 rw [show (((0 : Int), (⟨Ao (List Int)⟩ : SPoset))) = ((((0 : Nat)) : Int), (⟨Xk n f 0⟩ : SPoset)) from rfl, key]; rfl
end
end Go.Proofs.Ytoikbcagaanhgaa.Ax
namespace Go.Proofs.Ytoikbcagaanhgaa.Ax
open Go Classical
section
variable {p : SPoset}
theorem K4 : (Oo p).order = tab p.Below.length (below p.Below) := rfl
theorem A5a (x y : Int) : Dt (tab p.Below.length (below p.Below)) [x, y] = some (decide (Ay [x, y] p.Below.length)) := by
 rw [A39 _ _ (by rw [Al]; simp), Dg]
end
section
variable {n : Nat} {f : Nat → Nat → Bool}
end
section
variable {p : SPoset}
theorem A2y {g : Nat → Nat → Bool} {n : Nat} (hm : meets n g) {x y : Nat} (hx : x < n) (hy : y < n) : nth (nth (Xr n g) x) y = (inf n g x y : Int) := by
 rw [A52 hx hy, Atk hm hx hy]
theorem Az0 {g : Nat → Nat → Bool} {n x : Nat} (hx : x < n) : (nth (Xr n g) x).length = n := by rw [Ajd hx, Yx]
theorem Asv (hs : small p) (xs : List Int) (hl : xs.length ≤ LIM) : Iw p xs = some (decide (Bv p ∧ xs.length ≤ 20 ∧ Ay xs p.Below.length)) := by
 unfold Iw
 rw [Aee hs]
 simp only [Option.bind_some]
 by_cases h : Bv p
 ·rw [decide_eq_true h]
  simp only [if_true]
  by_cases h20 : xs.length ≤ 20
  ·rw [if_pos (by omega), Ahu _ _ hl hs.1]
   simp only [Option.bind_some]
   congr 1
   rw [decide_eq_decide]
   exact ⟨fun hh => ⟨h, h20, hh⟩, fun hh => hh.2.2⟩
  ·rw [if_neg (by omega), decide_eq_false (fun hh => h20 hh.2.1)]
 ·rw [decide_eq_false h, decide_eq_false (fun hh => h hh.1)]
  simp
end
end Go.Proofs.Ytoikbcagaanhgaa.Ax
namespace Go.Proofs.Ytoikbcagaanhgaa.Ax
open Go Classical
section
variable {p : SPoset}
theorem Tw (hs : small p) (x y : Nat) (hy : y < p.Below.length) : G3 p x y = some (decide (x ≠ y) && below p.Below x y) := by
 unfold G3
 by_cases h : x = y
 ·subst h; simp
 ·have : (x : Int) ≠ y := by omega
  simp only [ne_eq, this, not_false_iff, if_true, Aif hs x y hy, h, decide_true, Bool.true_and, Option.bind_some]
theorem ltB (f : Nat → Nat → Bool) (x y : Nat) : (decide (x ≠ y) && f x y) = true ↔ (x ≠ y ∧ f x y = true) := by simp
theorem Aut (hs : small p) (x y : Nat) (_hx : x < p.Below.length) (hy : y < p.Below.length) : In p x y = some (cov p.Below.length (below p.Below) x y) := by
 unfold In
 rw [Tw hs x y hy]
 simp only [Option.bind_some]
 have hs0 := hs.1
 rw [Al] at hs0
 by_cases h : x ≠ y ∧ below p.Below x y = true
 ·rw [if_pos ((ltB _ _ _).2 h)]
  rcases Nb (body := C5 p (x : Int) (y : Int)) (fun z => (z : Int)) p.Below.length (fun z => (x ≠ z ∧ below p.Below x z = true) ∧ (z ≠ y ∧ below p.Below z y = true)) (fun _ => .inl ()) (.inr ()) (fun z hz hh => by
    unfold C5
    rw [if_pos (by omega), Tw hs x z hz]
    simp only [Option.bind_some]
    by_cases h1 : x ≠ z ∧ below p.Below x z = true
    ·rw [if_pos ((ltB _ _ _).2 h1), Tw hs z y hy]
     simp only [Option.bind_some]
     rw [if_neg (fun hc => hh ⟨h1, (ltB _ _ _).1 hc⟩), Aa (by unfold InI; omega)]; rfl
    ·rw [if_neg (fun hc => h1 ((ltB _ _ _).1 hc)), Aa (by unfold InI; omega)]; rfl) (fun z hz hh => by
    unfold C5
    rw [if_pos (by omega), Tw hs x z hz]
    simp only [Option.bind_some]
    rw [if_pos ((ltB _ _ _).2 hh.1), Tw hs z y hy]
    simp only [Option.bind_some]
    rw [if_pos ((ltB _ _ _).2 hh.2)]) (by
    unfold C5
    rw [if_neg (by omega)]) with ⟨z, hz, hh, _, e⟩ | ⟨hn, e⟩
  ·rw [show ((0 : Int)) = (((0 : Nat)) : Int) from rfl, e]
   unfold cov
   rw [decide_eq_false (fun hc => hc.2 z hz hh)]; rfl
  ·rw [show ((0 : Int)) = (((0 : Nat)) : Int) from rfl, e]
   unfold cov
   rw [decide_eq_true ⟨h, hn⟩]; rfl
 ·rw [if_neg (fun hc => h ((ltB _ _ _).1 hc))]
  unfold cov
  rw [decide_eq_false (fun hc => h hc.1)]
end
end Go.Proofs.Ytoikbcagaanhgaa.Ax
namespace Go.Proofs.Ytoikbcagaanhgaa.Ax
open Go Classical
noncomputable def Aez (n : Nat) (f : Nat → Nat → Bool) (x : Nat) (acc : List (Int × Int)) : Nat → List (Int × Int)
 | 0 => acc
 | y + 1 => if cov n f x y then Aez n f x acc y ++ [((x : Int), (y : Int))] else Aez n f x acc y
noncomputable def Sn (n : Nat) (f : Nat → Nat → Bool) : Nat → List (Int × Int)
 | 0 => []
 | x + 1 => Aez n f x (Sn n f x) n
theorem Art (n : Nat) (f : Nat → Nat → Bool) (x : Nat) (acc : List (Int × Int)) : ∀ y, (Aez n f x acc y).length ≤ acc.length + y := by
 intro y
 induction y with
 | zero => simp [Aez]
 | succ y ih =>
   simp only [Aez]
   split
   ·simp; omega
   ·omega
theorem Asy (n : Nat) (f : Nat → Nat → Bool) : ∀ x, (Sn n f x).length ≤ x * n := by
 intro x
 induction x with
 | zero => simp [Sn]
 | succ x ih =>
   have := Art n f x (Sn n f x) n
   simp only [Sn]
   rw [Nat.succ_mul]; omega
section
variable {p : SPoset}
theorem Awz (hs : small p) (h10 : p.Below.length ≤ 10) : Je p = some (Sn p.Below.length (below p.Below) p.Below.length) := by
 unfold Je
 have hrow : ∀ x, x < p.Below.length → Ai (Dk p (x : Int)) (0, Sn p.Below.length (below p.Below) x) = some (Sn p.Below.length (below p.Below) (x + 1)) := by
  intro x hx
  have hal := Asy p.Below.length (below p.Below) x
  have hm : x * p.Below.length ≤ 10 * 10 := Nat.mul_le_mul (by omega) h10
  refine Az (body := Dk p (x : Int)) (fun y => ((y : Int), Aez p.Below.length (below p.Below) x (Sn p.Below.length (below p.Below) x) y)) p.Below.length _ (fun y hy => ?_) ?_
  ·unfold Dk
   dsimp only
   have hl := Art p.Below.length (below p.Below) x (Sn p.Below.length (below p.Below) x) y
   rw [if_pos (by omega), Aut hs x y hx hy]
   simp only [Option.bind_some, Aez]
   by_cases hq : cov p.Below.length (below p.Below) x y = true
   ·rw [if_pos hq, if_pos hq, Aa (by rw [Al]; simp; omega), Aa (by unfold InI; omega)]; rfl
   ·rw [if_neg hq, if_neg hq, Aa (by unfold InI; omega)]; rfl
  ·unfold Dk
   dsimp only
   rw [if_neg (by omega)]; rfl
 have key : Ai (Do p) (((0 : Nat) : Int), Sn p.Below.length (below p.Below) 0) = some (Sn p.Below.length (below p.Below) p.Below.length) := Az (body := Do p) (fun x => ((x : Int), Sn p.Below.length (below p.Below) x)) p.Below.length _ (fun x hx => by
  unfold Do
  dsimp only
  rw [if_pos (by omega), hrow x hx]
  simp only [Option.bind_some]
  rw [Aa (by unfold InI; omega)]; rfl) (by
  unfold Do
  dsimp only
  rw [if_neg (by omega)])
 have e0 : ((0 : Int), Ao (Int × Int)) = (((0 : Nat) : Int), Sn p.Below.length (below p.Below) 0) := rfl
 rw [e0, key]; rfl
end
end Go.Proofs.Ytoikbcagaanhgaa.Ax
