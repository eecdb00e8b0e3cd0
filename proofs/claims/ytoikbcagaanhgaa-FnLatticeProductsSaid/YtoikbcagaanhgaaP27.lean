/-
  Valid algebras: the program's test and the reference's are one.
-/
import Derived.Test.YtoikbcagaanhgaaP23
namespace Go.Proofs.Ytoikbcagaanhgaa.Ax
open Go Classical
def opOk (n : Nat) (f : SOp) : Prop := 0 ≤ f.Arity ∧ f.Arity ≤ 3 ∧ f.Table.length = n ^ f.Arity.toNat ∧ inSize f.Table n
def goodA (a : SAlgebra) : Prop := 1 ≤ a.Size ∧ a.Size ≤ 8 ∧ a.Ops.length ≤ 4 ∧ ∀ f ∈ a.Ops, opOk a.Size.toNat f
theorem pow_le {n k : Nat} (hn : n ≤ 8) (hk : k ≤ 3) : n ^ k ≤ 512 :=
  Nat.le_trans (Nat.pow_le_pow_left hn k) (Nat.le_trans (Nat.pow_le_pow_right (by omega) hk) (by decide))
def typeA (a : SAlgebra) : List Int := a.Ops.map (·.Arity)
end Go.Proofs.Ytoikbcagaanhgaa.Ax
