/-
  How many linear extensions: sets as bits, one after the other.
-/
import Derived.Test.YtoikbcagaanhgaaP17
namespace Go.Proofs.Ytoikbcagaanhgaa.Ax
open Go Classical
def add1 (m x : Nat) : Nat := m ||| 2 ^ x
def pc (n m : Nat) : Nat := (sieve n (bitB m)).length
def wt (n m : Nat) : Nat := 10 ^ (10 - pc n m)
def phi (n : Nat) (ws : List Int) : Nat → Nat → Int
  | _, 0 => 0
  | M, k + 1 => nth ws M * wt n M + phi n ws (M + 1) k
section
variable {n : Nat} {f : Nat → Nat → Bool}
noncomputable def freeB (n : Nat) (f : Nat → Nat → Bool) (m x : Nat) : Bool := decide (bitB m x = false ∧ ∀ y, y < n → y ≠ x → f y x = true → bitB m y = true)
noncomputable def addx (n : Nat) (f : Nat → Nat → Bool) (m x : Nat) (ws : List Int) : List Int := if ¬ nth ws m = 0 ∧ freeB n f m x = true then ws.set (add1 m x) (nth ws (add1 m x) + nth ws m) else ws
noncomputable def inn (n : Nat) (f : Nat → Nat → Bool) (m : Nat) (ws : List Int) : Nat → List Int
  | 0 => ws
  | x + 1 => addx n f m x (inn n f m ws x)
structure okW (n m : Nat) (ws : List Int) : Prop where
  len : ws.length = 2 ^ n
  pos : ∀ i, i < ws.length → 0 ≤ nth ws i
  sum : phi n ws m (2 ^ n - m) ≤ 10000000000
end
section
variable {p : SPoset}
end
end Go.Proofs.Ytoikbcagaanhgaa.Ax
