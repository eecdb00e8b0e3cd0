/-
  Meets and joins of two and of many, the ends, intervals.
-/
import Derived.Test.YtoikbcagaanhgaaP13
namespace Go.Proofs.Ytoikbcagaanhgaa.Ax
open Go Classical
section
variable {p : SPoset}
theorem latOf_order : (latOf p).order = tab p.Below.length (below p.Below) := rfl
end
noncomputable def botN (n : Nat) (f : Nat → Nat → Bool) : Nat → Nat
  | 0 => 0
  | i + 1 => inf n f (botN n f i) i
section
variable {n : Nat} {f : Nat → Nat → Bool}
theorem botN_lt (hm : meets n f) (h0 : n ≠ 0) : ∀ i, i ≤ n → botN n f i < n := by
  intro i
  induction i with
  | zero => intro _; simp only [botN]; omega
  | succ i ih => intro hi; exact inf_lt hm (ih (by omega)) (by omega)
theorem botN_le (ho : Ord n f) (hm : meets n f) (h0 : n ≠ 0) : ∀ i, i ≤ n → ∀ x, x < i → f (botN n f i) x = true := by
  intro i
  induction i with
  | zero => intro _ x hx; omega
  | succ i ih =>
    intro hi x hx
    have hb := botN_lt hm h0 i (by omega)
    simp only [botN]
    by_cases hxi : x = i
    · subst hxi; exact inf_right hm hb (by omega)
    · exact ho.trans _ _ _ (inf_lt hm hb (by omega)) hb (by omega) (inf_left hm hb (by omega)) (ih (by omega) x (by omega))
theorem botN_bnd (ho : Ord n f) (hm : meets n f) (h0 : n ≠ 0) : isBnd n (opp f) (fun _ => true) (botN n f n) :=
  ⟨botN_lt hm h0 n (Nat.le_refl n), rfl, fun z hz _ => botN_le ho hm h0 n (Nat.le_refl n) z hz⟩
end
section
variable {p : SPoset}
theorem lat_ends (h : isLat p) : isBnd p.Below.length (opp (below p.Below)) (fun _ => true) (botN p.Below.length (below p.Below) p.Below.length) ∧ isBnd p.Below.length (below p.Below) (fun _ => true) (botN p.Below.length (opp (below p.Below)) p.Below.length) := by
  obtain ⟨hg, h0, h1, h2⟩ := h
  exact ⟨botN_bnd (good_ord hg) h1 h0, botN_bnd (f := opp (below p.Below)) (good_ord hg).opp h2 h0⟩
theorem mt_at {g : Nat → Nat → Bool} {n : Nat} (hm : meets n g) {x y : Nat} (hx : x < n) (hy : y < n) : nth (nth (mtab n g) x) y = (inf n g x y : Int) := by
  rw [mtab_at hx hy, bnd_inf hm hx hy]
theorem mt_row {g : Nat → Nat → Bool} {n x : Nat} (hx : x < n) : (nth (mtab n g) x).length = n := by rw [mtab_row hx, mrow_len]
theorem F_bottom (h : isLat p) : F_impl_lattice_bottom (latOf p) = some (botN p.Below.length (below p.Below) p.Below.length : Int) := by
  obtain ⟨hg, h0, h1, h2⟩ := h
  have h10 : p.Below.length ≤ 10 := hg.1
  unfold F_impl_lattice_bottom
  have htl := tab_len p.Below.length (below p.Below)
  have key : loopO (F_impl_lattice_bottom_l1 (latOf p)) (((0 : Nat) : Int), ((botN p.Below.length (below p.Below) 0 : Nat) : Int)) = some ((botN p.Below.length (below p.Below) p.Below.length : Nat) : Int) :=
    loop_seq (body := F_impl_lattice_bottom_l1 (latOf p)) (fun i => ((i : Int), ((botN p.Below.length (below p.Below) i : Nat) : Int))) p.Below.length _ (fun i hi => by
      unfold F_impl_lattice_bottom_l1
      dsimp only
      have hb := botN_lt h1 h0 i (by omega)
      have hl : (latOf p).meets = mtab p.Below.length (below p.Below) := rfl
      have ho : (latOf p).order.length = p.Below.length := htl
      have hml := mtab_len (n := p.Below.length) (f := below p.Below)
      have hmr := mt_row (g := below p.Below) hb
      rw [hl, ho, if_pos (by omega), hml, Int.toNat_natCast, hmr, ask_pos (by omega), ask_pos (by omega), ask_pos (by unfold InI; omega), Int.toNat_natCast, mt_at h1 hb hi]
      rfl) (by
      unfold F_impl_lattice_bottom_l1
      dsimp only
      have ho : (latOf p).order.length = p.Below.length := htl
      rw [ho, if_neg (by omega)])
  have e0 : ((0 : Int), (0 : Int)) = (((0 : Nat) : Int), ((botN p.Below.length (below p.Below) 0 : Nat) : Int)) := rfl
  rw [e0, key]; rfl
theorem F_top (h : isLat p) : F_impl_lattice_top (latOf p) = some (botN p.Below.length (opp (below p.Below)) p.Below.length : Int) := by
  obtain ⟨hg, h0, h1, h2⟩ := h
  have h10 : p.Below.length ≤ 10 := hg.1
  unfold F_impl_lattice_top
  have htl := tab_len p.Below.length (below p.Below)
  have key : loopO (F_impl_lattice_top_l1 (latOf p)) (((0 : Nat) : Int), ((botN p.Below.length (opp (below p.Below)) 0 : Nat) : Int)) = some ((botN p.Below.length (opp (below p.Below)) p.Below.length : Nat) : Int) :=
    loop_seq (body := F_impl_lattice_top_l1 (latOf p)) (fun i => ((i : Int), ((botN p.Below.length (opp (below p.Below)) i : Nat) : Int))) p.Below.length _ (fun i hi => by
      unfold F_impl_lattice_top_l1
      dsimp only
      have hb := botN_lt h2 h0 i (by omega)
      have hl : (latOf p).joins = mtab p.Below.length (opp (below p.Below)) := rfl
      have ho : (latOf p).order.length = p.Below.length := htl
      have hml := mtab_len (n := p.Below.length) (f := opp (below p.Below))
      have hmr := mt_row (g := opp (below p.Below)) hb
      rw [hl, ho, if_pos (by omega), hml, Int.toNat_natCast, hmr, ask_pos (by omega), ask_pos (by omega), ask_pos (by unfold InI; omega), Int.toNat_natCast, mt_at h2 hb hi]
      rfl) (by
      unfold F_impl_lattice_top_l1
      dsimp only
      have ho : (latOf p).order.length = p.Below.length := htl
      rw [ho, if_neg (by omega)])
  have e0 : ((0 : Int), (0 : Int)) = (((0 : Nat) : Int), ((botN p.Below.length (opp (below p.Below)) 0 : Nat) : Int)) := rfl
  rw [e0, key]; rfl
theorem nil_in (n : Nat) : inSize (nilL Int) n := by intro x hx; cases hx
theorem nil_len : (nilL Int).length ≤ LIM := by rw [lim_def]; simp [nilL]
theorem loA_nilL (f : Nat → Nat → Bool) : loA f (nilL Int) = fun _ => true := loA_nil
theorem F_specBottom (hs : small p) (h : isLat p) : F_spec_l24Bottom p = some (botN p.Below.length (below p.Below) p.Below.length : Int) := by
  unfold F_spec_l24Bottom
  rw [F_l23Dual hs]
  simp only [Option.bind_some]
  rw [F_l24BoundD hs h.1 _ (nil_in _) nil_len, loA_nilL, bnd_eq (good_ord h.1).opp (lat_ends h).1]
  rfl
end
end Go.Proofs.Ytoikbcagaanhgaa.Ax
