/-
  Bounds in an order: the greatest element of a set, meets and joins.
-/
import Derived.Test.YtbnoclklhcbidaaDoorP7
namespace Go.Proofs.YtbnoclklhcbidaaDoor.Ax
open Go Classical

/-- a loop that looks for the first hit -/
theorem loop_pick {σ τ : Type} {body : σ → Option (σ ⊕ τ)} (s : Nat → σ) (n : Nat) (hit : Nat → Prop) (res : Nat → τ) (no : τ)
    (h : ∀ i, i < n → ¬ hit i → body (s i) = some (.inl (s (i + 1)))) (h2 : ∀ i, i < n → hit i → body (s i) = some (.inr (res i))) (he : body (s n) = some (.inr no)) :
    (∃ i, i < n ∧ hit i ∧ (∀ j, j < i → ¬ hit j) ∧ loopO body (s 0) = some (res i)) ∨ ((∀ i, i < n → ¬ hit i) ∧ loopO body (s 0) = some no) := by
  by_cases hx : ∃ i, i < n ∧ hit i
  · have key : ∀ m i, i ≤ m → i < n → hit i → ∃ i, i < n ∧ hit i ∧ ∀ j, j < i → ¬ hit j := by
      intro m
      induction m with
      | zero => intro i h1 h2 h3; exact ⟨i, h2, h3, fun j hj => by omega⟩
      | succ m ih =>
        intro i h1 h2 h3
        by_cases hy : ∃ j, j < i ∧ hit j
        · obtain ⟨j, h4, h5⟩ := hy
          exact ih j (by omega) (by omega) h5
        · exact ⟨i, h2, h3, fun j hj hh => hy ⟨j, hj, hh⟩⟩
    obtain ⟨i0, h1, h3⟩ := hx
    obtain ⟨i, h4, h5, h6⟩ := key i0 i0 (Nat.le_refl _) h1 h3
    exact .inl ⟨i, h4, h5, h6, loop_seq s i (res i) (fun j hj => h j (by omega) (h6 j hj)) (h2 i h4 h5)⟩
  · have hn : ∀ i, i < n → ¬ hit i := fun i hi hh => hx ⟨i, hi, hh⟩
    exact .inr ⟨hn, loop_seq s n no (fun j hj => h j hj (hn j hj)) he⟩

/-- an order on the numbers below n -/
structure Ord (n : Nat) (f : Nat → Nat → Bool) : Prop where
  refl : ∀ x, x < n → f x x = true
  anti : ∀ x y, x < n → y < n → f x y = true → f y x = true → x = y
  trans : ∀ x y z, x < n → y < n → z < n → f x y = true → f y z = true → f x z = true

def opp (f : Nat → Nat → Bool) : Nat → Nat → Bool := fun x y => f y x
theorem Ord.opp {n : Nat} {f : Nat → Nat → Bool} (h : Ord n f) : Ord n (opp f) :=
  ⟨h.refl, fun x y hx hy h1 h2 => h.anti x y hx hy h2 h1, fun x y z hx hy hz h1 h2 => h.trans z y x hz hy hx h2 h1⟩
theorem good_ord {p : SPoset} (hg : good p.Below) : Ord p.Below.length (below p.Below) := ⟨good_refl hg, good_anti hg, good_trans hg⟩

/-- the greatest element of a set -/
def isBnd (n : Nat) (f : Nat → Nat → Bool) (L : Nat → Bool) (m : Nat) : Prop := m < n ∧ L m = true ∧ ∀ z, z < n → L z = true → f z m = true
noncomputable def bnd (n : Nat) (f : Nat → Nat → Bool) (L : Nat → Bool) : Int := if h : ∃ m, isBnd n f L m then ((Classical.choose h : Nat) : Int) else -1

section
variable {n : Nat} {f : Nat → Nat → Bool} {L : Nat → Bool}
theorem isBnd_uniq (ho : Ord n f) {m m' : Nat} (h : isBnd n f L m) (h' : isBnd n f L m') : m = m' :=
  ho.anti m m' h.1 h'.1 (h'.2.2 m h.1 h.2.1) (h.2.2 m' h'.1 h'.2.1)
theorem bnd_eq (ho : Ord n f) {m : Nat} (h : isBnd n f L m) : bnd n f L = m := by
  unfold bnd
  have hx : ∃ m, isBnd n f L m := ⟨m, h⟩
  rw [dif_pos hx, isBnd_uniq ho (Classical.choose_spec hx) h]
theorem bnd_none (h : ¬ ∃ m, isBnd n f L m) : bnd n f L = -1 := by
  unfold bnd; rw [dif_neg h]
theorem bnd_cases (n : Nat) (f : Nat → Nat → Bool) (L : Nat → Bool) : (∃ m : Nat, bnd n f L = m ∧ isBnd n f L m) ∨ (bnd n f L = -1 ∧ ¬ ∃ m, isBnd n f L m) := by
  by_cases h : ∃ m, isBnd n f L m
  · refine .inl ⟨Classical.choose h, ?_, Classical.choose_spec h⟩
    unfold bnd; rw [dif_pos h]
  · exact .inr ⟨bnd_none h, h⟩
theorem isBnd_congr {g : Nat → Nat → Bool} {L' : Nat → Bool} (hf : ∀ x y, x < n → y < n → f x y = g x y) (hL : ∀ z, z < n → L z = L' z) (m : Nat) : isBnd n f L m ↔ isBnd n g L' m := by
  constructor
  · rintro ⟨h1, h2, h3⟩
    exact ⟨h1, by rw [← hL m h1]; exact h2, fun z hz hl => by rw [← hf z m hz h1]; exact h3 z hz (by rw [hL z hz]; exact hl)⟩
  · rintro ⟨h1, h2, h3⟩
    exact ⟨h1, by rw [hL m h1]; exact h2, fun z hz hl => by rw [hf z m hz h1]; exact h3 z hz (by rw [← hL z hz]; exact hl)⟩
theorem bnd_congr {g : Nat → Nat → Bool} {L' : Nat → Bool} (hg : Ord n g) (hf : ∀ x y, x < n → y < n → f x y = g x y) (hL : ∀ z, z < n → L z = L' z) : bnd n f L = bnd n g L' := by
  rcases bnd_cases n f L with ⟨m, h1, h2⟩ | ⟨h1, h2⟩
  · rw [h1, bnd_eq hg ((isBnd_congr hf hL m).1 h2)]
  · rw [h1, bnd_none fun ⟨m, hm⟩ => h2 ⟨m, (isBnd_congr hf hL m).2 hm⟩]
/-- a hit in the list of a set's members -/
theorem bnd_hit (ho : Ord n f) {i : Nat} (hi : i < (sieve n L).length) (hh : ∀ x ∈ sieve n L, f x.toNat (nth (sieve n L) i).toNat = true) : bnd n f L = nth (sieve n L) i := by
  obtain ⟨m, h1, h2, h3⟩ := mem_sieve.1 (nth_mem hi)
  rw [h3]
  refine bnd_eq ho ⟨h1, h2, fun z hz hl => ?_⟩
  have := hh z (mem_sieve.2 ⟨z, hz, hl, rfl⟩)
  rw [h3] at this
  simpa using this
theorem bnd_nohit (hh : ∀ i, i < (sieve n L).length → ¬ ∀ x ∈ sieve n L, f x.toNat (nth (sieve n L) i).toNat = true) : bnd n f L = -1 := by
  refine bnd_none ?_
  rintro ⟨m, h1, h2, h3⟩
  obtain ⟨i, h4, h5⟩ := mem_nth.1 (mem_sieve.2 ⟨m, h1, h2, rfl⟩ : (m : Int) ∈ sieve n L)
  refine hh i h4 fun x hx => ?_
  obtain ⟨z, h6, h7, rfl⟩ := mem_sieve.1 hx
  rw [h5]
  simpa using h3 z h6 h7

/-- what is at most both -/
def lo2 (f : Nat → Nat → Bool) (x y : Nat) : Nat → Bool := fun z => f z x && f z y
/-- what is at most all -/
noncomputable def loA (f : Nat → Nat → Bool) (xs : List Int) : Nat → Bool := fun z => decide (∀ x ∈ xs, f z x.toNat = true)
theorem loA_two (x y : Nat) : loA f [(x : Int), (y : Int)] = lo2 f x y := by
  funext z
  unfold loA lo2
  cases h1 : f z x <;> cases h2 : f z y <;> simp [h1, h2]
theorem loA_nil : loA f [] = fun _ => true := by
  funext z; simp [loA]

/-- all meets are there -/
def meets (n : Nat) (f : Nat → Nat → Bool) : Prop := ∀ x y, x < n → y < n → 0 ≤ bnd n f (lo2 f x y)
theorem lo2_comm (x y : Nat) : lo2 f x y = lo2 f y x := by
  funext z; simp [lo2, Bool.and_comm]
theorem bnd_self (ho : Ord n f) {x : Nat} (hx : x < n) : bnd n f (lo2 f x x) = x :=
  bnd_eq ho ⟨hx, by simp [lo2, ho.refl x hx], fun z _ h => by simpa [lo2] using h⟩
theorem meets_iff (ho : Ord n f) : meets n f ↔ ∀ x, x < n → ∀ y, y < x → ¬ bnd n f (lo2 f x y) < 0 := by
  constructor
  · intro h x hx y hy
    have := h x y hx (by omega); omega
  · intro h x y hx hy
    rcases Nat.lt_trichotomy x y with h1 | h1 | h1
    · have := h y hy x h1
      rw [lo2_comm]; omega
    · subst h1; rw [bnd_self ho hx]; omega
    · have := h x hx y h1; omega

/-- the meet of two -/
noncomputable def inf (n : Nat) (f : Nat → Nat → Bool) (x y : Nat) : Nat := (bnd n f (lo2 f x y)).toNat
theorem inf_spec (hm : meets n f) {x y : Nat} (hx : x < n) (hy : y < n) : isBnd n f (lo2 f x y) (inf n f x y) := by
  have h := hm x y hx hy
  rcases bnd_cases n f (lo2 f x y) with ⟨m, h1, h2⟩ | ⟨h1, _⟩
  · unfold inf; rw [h1]; exact h2
  · omega
theorem bnd_inf (hm : meets n f) {x y : Nat} (hx : x < n) (hy : y < n) : bnd n f (lo2 f x y) = inf n f x y := by
  have h := hm x y hx hy
  unfold inf; omega
theorem inf_lt (hm : meets n f) {x y : Nat} (hx : x < n) (hy : y < n) : inf n f x y < n := (inf_spec hm hx hy).1
theorem inf_left (hm : meets n f) {x y : Nat} (hx : x < n) (hy : y < n) : f (inf n f x y) x = true := by
  have := (inf_spec hm hx hy).2.1
  simp only [lo2, Bool.and_eq_true] at this; exact this.1
theorem inf_right (hm : meets n f) {x y : Nat} (hx : x < n) (hy : y < n) : f (inf n f x y) y = true := by
  have := (inf_spec hm hx hy).2.1
  simp only [lo2, Bool.and_eq_true] at this; exact this.2
theorem inf_max (hm : meets n f) {x y z : Nat} (hx : x < n) (hy : y < n) (hz : z < n) (h1 : f z x = true) (h2 : f z y = true) : f z (inf n f x y) = true :=
  (inf_spec hm hx hy).2.2 z hz (by simp [lo2, h1, h2])

/-- the meet of many, one after the other -/
theorem inf_fold (ho : Ord n f) (hm : meets n f) : ∀ (xs : List Int) (t : Nat) (S : Nat → Bool), t < n → (∀ x ∈ xs, 0 ≤ x ∧ x < (n : Int)) → (∀ y z, y < n → z < n → f y z = true → S z = true → S y = true) → isBnd n f S t →
    isBnd n f (fun z => S z && loA f xs z) (xs.foldl (fun m x => inf n f m x.toNat) t) := by
  intro xs
  induction xs with
  | nil =>
    intro t S ht _ _ hS
    refine (isBnd_congr (fun _ _ _ _ => rfl) (fun z _ => ?_) t).1 hS
    simp [loA]
  | cons x r ih =>
    intro t S ht hx hd hS
    have hx0 := hx x (by simp)
    have hxn : x.toNat < n := by omega
    have := ih (inf n f t x.toNat) (fun z => S z && f z x.toNat) (inf_lt hm ht hxn) (fun y hy => hx y (by simp [hy])) ?_ ?_
    · refine (isBnd_congr (fun _ _ _ _ => rfl) (fun z _ => ?_) _).1 this
      simp only [loA, List.mem_cons, forall_eq_or_imp]
      cases f z x.toNat <;> simp
    · intro y z hy hz h1 h2
      simp only [Bool.and_eq_true] at h2 ⊢
      exact ⟨hd y z hy hz h1 h2.1, ho.trans y z x.toNat hy hz hxn h1 h2.2⟩
    · refine ⟨inf_lt hm ht hxn, ?_, ?_⟩
      · have h1 := inf_left hm ht hxn
        have h2 := inf_right hm ht hxn
        have h3 : S (inf n f t x.toNat) = true := hd _ _ (inf_lt hm ht hxn) ht h1 hS.2.1
        simp [h2, h3]
      · intro z hz hl
        simp only [Bool.and_eq_true] at hl
        exact inf_max hm ht hxn hz (hS.2.2 z hz hl.1) hl.2
end

/-- whether one is directly above another -/
noncomputable def cov (n : Nat) (f : Nat → Nat → Bool) (x y : Nat) : Bool := decide ((x ≠ y ∧ f x y = true) ∧ ∀ z, z < n → ¬ ((x ≠ z ∧ f x z = true) ∧ (z ≠ y ∧ f z y = true)))
theorem cov_opp (n : Nat) (f : Nat → Nat → Bool) (x y : Nat) : cov n (opp f) x y = cov n f y x := by
  unfold cov opp
  rw [decide_eq_decide]
  constructor
  · rintro ⟨⟨h1, h2⟩, h3⟩
    exact ⟨⟨fun h => h1 h.symm, h2⟩, fun z hz h => h3 z hz ⟨⟨fun e => h.2.1 e.symm, h.2.2⟩, ⟨fun e => h.1.1 e.symm, h.1.2⟩⟩⟩
  · rintro ⟨⟨h1, h2⟩, h3⟩
    exact ⟨⟨fun h => h1 h.symm, h2⟩, fun z hz h => h3 z hz ⟨⟨fun e => h.2.1 e.symm, h.2.2⟩, ⟨fun e => h.1.1 e.symm, h.1.2⟩⟩⟩

end Go.Proofs.YtbnoclklhcbidaaDoor.Ax
