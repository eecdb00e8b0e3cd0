/-
  Lattices: what the program and the reference compute of bounds.
-/
import Derived.Test.YtbnoclklhcbidaaDoorP11
namespace Go.Proofs.YtbnoclklhcbidaaDoor.Ax
open Go Classical

theorem take_all {xs : List Int} {P : Int → Prop} {i : Nat} (hi : i < xs.length) : (∀ x ∈ xs.take (i + 1), P x) ↔ (∀ x ∈ xs.take i, P x) ∧ P (nth xs i) := by
  rw [take_nth hi]
  constructor
  · intro h
    exact ⟨fun x hx => h x (by simp [hx]), h _ (by simp)⟩
  · rintro ⟨h1, h2⟩ x hx
    rcases List.mem_append.1 hx with hx | hx
    · exact h1 x hx
    · simp only [List.mem_singleton] at hx; subst hx; exact h2

section
variable {p : SPoset}
theorem mem_below (y x : Nat) : (y : Int) ∈ nth p.Below x ↔ below p.Below y x = true := by simp [below]

theorem dual_opp (hg : good p.Below) (L : (Nat → Nat → Bool) → Nat → Bool) (hL : ∀ z, z < p.Below.length → L (below (dualP p).Below) z = L (opp (below p.Below)) z) :
    bnd (dualP p).Below.length (below (dualP p).Below) (L (below (dualP p).Below)) = bnd p.Below.length (opp (below p.Below)) (L (opp (below p.Below))) := by
  have ho := good_ord (good_dual hg)
  rw [dual_len] at ho ⊢
  exact bnd_congr (good_ord hg).opp (fun x y hx hy => below_dual hy hx) hL
end

section
variable {n : Nat} {f : Nat → Nat → Bool}
noncomputable def mtab (n : Nat) (f : Nat → Nat → Bool) : List (List Int) := (List.range n).map fun x => (List.range n).map fun y => bnd n f (lo2 f x y)
noncomputable def mrow (n : Nat) (f : Nat → Nat → Bool) (x i : Nat) : List Int := (List.range i).map fun y => bnd n f (lo2 f x y)
noncomputable def mrows (n : Nat) (f : Nat → Nat → Bool) (i : Nat) : List (List Int) := (List.range i).map fun x => mrow n f x n
theorem mrow_succ (x i : Nat) : mrow n f x (i + 1) = mrow n f x i ++ [bnd n f (lo2 f x i)] := by simp [mrow, List.range_succ]
theorem mrows_succ (i : Nat) : mrows n f (i + 1) = mrows n f i ++ [mrow n f i n] := by simp [mrows, List.range_succ]
theorem mrow_len (x i : Nat) : (mrow n f x i).length = i := by simp [mrow]
theorem mrows_len (i : Nat) : (mrows n f i).length = i := by simp [mrows]
theorem mtab_len : (mtab n f).length = n := by simp [mtab]
theorem mtab_row {x : Nat} (hx : x < n) : nth (mtab n f) x = mrow n f x n := by
  unfold mtab
  rw [nth_map' _ (by simpa using hx), nth_range hx]; rfl
theorem mtab_at {x y : Nat} (hx : x < n) (hy : y < n) : nth (nth (mtab n f) x) y = bnd n f (lo2 f x y) := by
  rw [mtab_row hx]
  unfold mrow
  rw [nth_map' _ (by simpa using hy), nth_range hy]

/-- the table turned over, half done -/
def half (f : Nat → Nat → Bool) (x y : Nat) : Nat → Nat → Bool := fun a b => if a < x ∨ (a = x ∧ b < y) then f b a else false
end

/-- a lattice -/
def isLat (p : SPoset) : Prop := good p.Below ∧ p.Below.length ≠ 0 ∧ meets p.Below.length (below p.Below) ∧ meets p.Below.length (opp (below p.Below))
section
variable {p : SPoset}
theorem two_in {x y n : Nat} (hx : x < n) (hy : y < n) : inSize [(x : Int), (y : Int)] n := by
  intro z hz
  simp only [List.mem_cons, List.not_mem_nil, or_false] at hz
  rcases hz with rfl | rfl <;> omega
end

end Go.Proofs.YtbnoclklhcbidaaDoor.Ax
