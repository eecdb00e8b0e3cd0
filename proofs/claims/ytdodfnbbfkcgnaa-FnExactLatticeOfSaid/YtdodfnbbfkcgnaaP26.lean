/-
  ProductLattice and StackLattice: what the program and the reference compute.
-/
import Derived.Test.YtdodfnbbfkcgnaaP24
namespace Go.Proofs.Ytdodfnbbfkcgnaa.Ax
open Go Classical

/-- a table that is filled place by place -/
theorem fill_tab {N : Nat} (F : Nat → Nat → Bool) {inner : Nat → List (List Bool) → (Int × List (List Bool)) → Option ((Int × List (List Bool)) ⊕ List (List Bool))} {outer : (Int × List (List Bool)) → Option ((Int × List (List Bool)) ⊕ List (List Bool))}
    (h1 : ∀ x y H0 H, x < N → y < N → inner x (tab N H0) ((y : Int), tab N H) = some (.inl (((y + 1 : Nat) : Int), tab N (fun a b => if a = x ∧ b = y then F x y else H a b))))
    (h2 : ∀ x H0 H, x < N → inner x (tab N H0) ((N : Int), tab N H) = some (.inr (tab N H)))
    (h3 : ∀ x H T, x < N → loopO (inner x (tab N H)) (0, tab N H) = some T → outer ((x : Int), tab N H) = some (.inl (((x + 1 : Nat) : Int), T)))
    (h4 : ∀ H, outer ((N : Int), tab N H) = some (.inr (tab N H))) : loopO outer (0, tab N fun _ _ => false) = some (tab N F) := by
  have inn : ∀ x, x < N → loopO (inner x (tab N fun a b => if a < x then F a b else false)) (0, tab N fun a b => if a < x then F a b else false) = some (tab N fun a b => if a < x + 1 then F a b else false) := by
    intro x hx
    have key := loop_seq (body := inner x (tab N fun a b => if a < x then F a b else false)) (fun k => ((k : Int), tab N fun a b => if a < x ∨ (a = x ∧ b < k) then F a b else false)) N (tab N fun a b => if a < x + 1 then F a b else false) (fun k hk => by
      rw [h1 x k _ _ hx hk]
      refine congrArg (fun z => some (Sum.inl (_, z))) (tab_congr fun a b _ _ => ?_)
      by_cases hab : a = x ∧ b = k
      · obtain ⟨rfl, rfl⟩ := hab
        rw [if_pos ⟨rfl, rfl⟩, if_pos (by omega)]
      · rw [if_neg hab]
        have : (a < x ∨ a = x ∧ b < k) ↔ (a < x ∨ a = x ∧ b < k + 1) := by omega
        simp only [this]) (by
      rw [h2 x _ _ hx]
      refine congrArg (fun z => some (Sum.inr z)) (tab_congr fun a b _ hb => ?_)
      have : (a < x ∨ a = x ∧ b < N) ↔ a < x + 1 := by omega
      simp only [this])
    have e0 : (tab N fun a b => if a < x ∨ (a = x ∧ b < 0) then F a b else false) = tab N fun a b => if a < x then F a b else false := tab_congr fun a b _ _ => by
      have : (a < x ∨ a = x ∧ b < 0) ↔ a < x := by omega
      simp only [this]
    simp only [e0] at key
    exact key
  have key := loop_seq (body := outer) (fun x => ((x : Int), tab N fun a b => if a < x then F a b else false)) N (tab N F) (fun x hx => h3 x _ _ hx (inn x hx)) (by
    rw [h4]
    exact congrArg (fun z => some (Sum.inr z)) (tab_congr fun a b ha _ => by rw [if_pos ha]))
  have e0 : (tab N fun a b => if a < 0 then F a b else false) = tab N fun _ _ => false := tab_congr fun a b _ _ => by rw [if_neg (by omega)]
  simp only [e0] at key
  exact key

theorem prodRow_len (m : Nat) (us vs : List Int) : (prodRow m us vs).length = us.length * vs.length := by
  unfold prodRow
  induction us with
  | nil => simp
  | cons u r ih => rw [List.flatMap_cons, List.length_append, ih, List.length_map, List.length_cons, Nat.succ_mul]; omega

section
variable {p q : SPoset}
theorem row_len (hg : good p.Below) {x : Nat} (hx : x < p.Below.length) : (nth p.Below x).length ≤ p.Below.length := by
  rw [row_eq hg x hx]; exact sieve_len _ _
end

end Go.Proofs.Ytdodfnbbfkcgnaa.Ax
