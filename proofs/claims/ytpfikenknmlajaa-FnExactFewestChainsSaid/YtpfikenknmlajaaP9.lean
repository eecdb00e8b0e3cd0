/-
  Heights of the reference; HeightsOf.
-/
import Derived.Test.YtpfikenknmlajaaP8
namespace Go.Proofs.Ytpfikenknmlajaa.Ax
open Go Classical

theorem up_of {α β : Type} {F : Nat → α → β → Option Int} (h0 : ∀ a b, F 0 a b = none) (h : ∀ n, (∀ a b, LeO (F n a b) (F (n + 1) a b)) → ∀ a b, LeO (F (n + 1) a b) (F (n + 2) a b)) (a : α) (b : β) : upO fun n => F n a b := by
  have step : ∀ n, ∀ a b, LeO (F n a b) (F (n + 1) a b) := by
    intro n
    induction n with
    | zero => intro a b v e; rw [h0] at e; cases e
    | succ n ih => exact h n ih
  have key : ∀ n k v, F n a b = some v → F (n + k) a b = some v := by
    intro n k v e
    induction k with
    | zero => exact e
    | succ k ih => exact step (n + k) a b v ih
  intro n m v hnm e
  have := key n (m - n) v e
  rwa [show n + (m - n) = m by omega] at this

section
variable {p : SPoset}
theorem strict_down (hg : good p.Below) : Strict p.Below.length (rel (below p.Below) true) := by
  refine ⟨fun x _ => by simp [rel], fun x y z hx hy hz h1 h2 => ?_⟩
  simp only [rel, if_true, Bool.and_eq_true, decide_eq_true_eq] at h1 h2 ⊢
  refine ⟨?_, good_trans hg x y z hx hy hz h1.2 h2.2⟩
  rintro rfl
  exact h1.1 (good_anti hg x y hx hy h1.2 h2.2)
theorem strict_up (hg : good p.Below) : Strict p.Below.length (rel (below p.Below) false) := by
  refine ⟨fun x _ => by simp [rel], fun x y z hx hy hz h1 h2 => ?_⟩
  simp only [rel, Bool.false_eq_true, if_false, Bool.and_eq_true, decide_eq_true_eq] at h1 h2 ⊢
  refine ⟨?_, good_trans hg z y x hz hy hx h2.2 h1.2⟩
  rintro rfl
  exact h1.1 (good_anti hg y z hy hx h1.2 h2.2)

end

noncomputable def heights' (p : SPoset) (i : Nat) : List Int := (List.range i).map fun x => (ht p.Below.length (rel (below p.Below) true) x : Int)
theorem heights'_len (p : SPoset) (i : Nat) : (heights' p i).length = i := by simp [heights']
theorem heights'_succ (p : SPoset) (i : Nat) : heights' p (i + 1) = heights' p i ++ [(ht p.Below.length (rel (below p.Below) true) i : Int)] := by simp [heights', List.range_succ]

end Go.Proofs.Ytpfikenknmlajaa.Ax
