/-
  Meets and joins of two and of many, the ends, intervals.
-/
import Derived.Test.YtbnoclklhcbidaaDoorP13
namespace Go.Proofs.YtbnoclklhcbidaaDoor.Ax
open Go Classical

section
variable {p : SPoset}
theorem two_iff {x y : Int} {n : Nat} : inSize [x, y] n ↔ (0 ≤ x ∧ x < n) ∧ 0 ≤ y ∧ y < n := by
  unfold inSize
  simp only [List.mem_cons, List.not_mem_nil, or_false, forall_eq_or_imp, forall_eq]
end

/-- from 0 on, down to the bottom -/
noncomputable def botN (n : Nat) (f : Nat → Nat → Bool) : Nat → Nat
  | 0 => 0
  | i + 1 => inf n f (botN n f i) i
section
variable {n : Nat} {f : Nat → Nat → Bool}
theorem botN_lt (hm : meets n f) (h0 : n ≠ 0) : ∀ i, i ≤ n → botN n f i < n := by
  intro i
  induction i with
  | zero => intro _; simp only [botN]; omega
  | succ i ih => intro hi; exact inf_lt hm (ih (by omega)) (by omega)
theorem botN_le (ho : Ord n f) (hm : meets n f) (h0 : n ≠ 0) : ∀ i, i ≤ n → ∀ x, x < i → f (botN n f i) x = true := by
  intro i
  induction i with
  | zero => intro _ x hx; omega
  | succ i ih =>
    intro hi x hx
    have hb := botN_lt hm h0 i (by omega)
    simp only [botN]
    by_cases hxi : x = i
    · subst hxi; exact inf_right hm hb (by omega)
    · exact ho.trans _ _ _ (inf_lt hm hb (by omega)) hb (by omega) (inf_left hm hb (by omega)) (ih (by omega) x (by omega))
theorem botN_bnd (ho : Ord n f) (hm : meets n f) (h0 : n ≠ 0) : isBnd n (opp f) (fun _ => true) (botN n f n) :=
  ⟨botN_lt hm h0 n (Nat.le_refl n), rfl, fun z hz _ => botN_le ho hm h0 n (Nat.le_refl n) z hz⟩
theorem bnd_all (ho : Ord n f) (hm : meets n f) (h0 : n ≠ 0) : bnd n (opp f) (fun _ => true) = botN n f n := bnd_eq ho.opp (botN_bnd ho hm h0)
end

section
variable {p : SPoset}
theorem lat_ends (h : isLat p) : isBnd p.Below.length (opp (below p.Below)) (fun _ => true) (botN p.Below.length (below p.Below) p.Below.length) ∧ isBnd p.Below.length (below p.Below) (fun _ => true) (botN p.Below.length (opp (below p.Below)) p.Below.length) := by
  obtain ⟨hg, h0, h1, h2⟩ := h
  exact ⟨botN_bnd (good_ord hg) h1 h0, botN_bnd (f := opp (below p.Below)) (good_ord hg).opp h2 h0⟩
theorem mt_at {g : Nat → Nat → Bool} {n : Nat} (hm : meets n g) {x y : Nat} (hx : x < n) (hy : y < n) : nth (nth (mtab n g) x) y = (inf n g x y : Int) := by
  rw [mtab_at hx hy, bnd_inf hm hx hy]
theorem mt_row {g : Nat → Nat → Bool} {n x : Nat} (hx : x < n) : (nth (mtab n g) x).length = n := by rw [mtab_row hx, mrow_len]

theorem nil_in (n : Nat) : inSize (nilL Int) n := by intro x hx; cases hx
theorem nil_len : (nilL Int).length ≤ LIM := by rw [lim_def]; simp [nilL]
theorem loA_nilL (f : Nat → Nat → Bool) : loA f (nilL Int) = fun _ => true := loA_nil
theorem fold_lt {n : Nat} {f : Nat → Nat → Bool} (hm : meets n f) {t : Nat} (ht : t < n) : ∀ (xs : List Int), inSize xs n → xs.foldl (fun m x => inf n f m x.toNat) t < n := by
  intro xs
  induction xs generalizing t with
  | nil => intro _; exact ht
  | cons x r ih =>
    intro hx
    have := hx x (by simp)
    exact ih (inf_lt hm ht (by omega)) fun y hy => hx y (by simp [hy])
theorem fold_take {n : Nat} {f : Nat → Nat → Bool} (t : Nat) (xs : List Int) {i : Nat} (hi : i < xs.length) : (xs.take (i + 1)).foldl (fun m x => inf n f m x.toNat) t = inf n f ((xs.take i).foldl (fun m x => inf n f m x.toNat) t) (nth xs i).toNat := by
  rw [take_nth hi, List.foldl_append]; rfl
theorem inSize_take {xs : List Int} {n : Nat} (h : inSize xs n) (i : Nat) : inSize (xs.take i) n := fun x hx => h x (List.mem_of_mem_take hx)

end

end Go.Proofs.YtbnoclklhcbidaaDoor.Ax
