/-
  No cell of these rows narrows 'for every input' (looked for: loops, veiled, ifaces, maps, wideKeys, modest, calm, conditions, laid).
  DERIVED. THE GIVEN ROWS OF THIS SEAT. 5 by the template 'for every input the law returns true; each argument reads behind the call as it read before'; 0 by the template 'total and deterministic' (their statements: YtoikbcagaanhgaaTotals.lean).
  GIVEN WITH THE SEED: the statements are not yours to turn. If you find one false, say at which input.
  Laid BY PROGRAM, IN A SANDBOX (cutbox-rows.mjs): the forced cells as the released guide's own fill.sh prints them over the translation b3238afe727dea36… (all of the seat's roots in one cut). By AI agents, Wed Nov 11 2026. No macro, syntax, notation, axiom, sorry.
-/
import Derived.Test.YtoikbcagaanhgaaChecked
import GoSem.Claim
import GoSem.ClaimJoined
import GoSem.ClaimMapViews
import Derived.JoinedTies
import Derived.KernelRfl
namespace Go.Proofs.Ytoikbcagaanhgaa
/- THE CELL 'sum', in the pinned program and in every row, IS THE sha256 OF THE DUMP (.gsa) THAT YtoikbcagaanhgaaProg.lean LOADS. Nothing in Lean hashes anything: it is a label: what it is worth is what the hold of that sum in a sandbox is worth. -/
noncomputable def Try.pinned : Pinned := { name := "ytoikbcagaanhgaa", sum := "b3238afe727dea36ccb7df921f720b295df1ae273927ac565515cdce55881585", checked := Try.checked }
namespace Rows
def none {H : Type} : Left H := { results := [], args := [] }

/-- 'laws.FnConditionRows': WHATEVER THE INPUT: true; the input reads as it did. -/
def fnConditionRowsSpec : ChangeSpec := { name := "fnConditionRows", fn := fun _ => fun
  | [d] => { results := [.lit (.bool true)], args := [d] }
  | _ => none }
def fnConditionRowsRow : OpenClaim := { program := "ytoikbcagaanhgaa", sum := "b3238afe727dea36ccb7df921f720b295df1ae273927ac565515cdce55881585", func := "loop.example/g01078/laws.FnConditionRows", spec := "fnConditionRows", unfollowed := true, recurses := true, apart := false }
def FnConditionRowsSaid : Prop := fnConditionRowsRow.holds Try.pinned (OpenSpec.ofChange fnConditionRowsSpec)

/-- ITS FALSE NEIGHBOUR: 'it returns false'. Refute it at one input. -/
def fnConditionRowsWrong : ChangeSpec := { name := "fnConditionRows", fn := fun _ => fun
  | [d] => { results := [.lit (.bool false)], args := [d] }
  | _ => none }
def FnConditionRowsWrongFalsely : Prop := fnConditionRowsRow.holds Try.pinned (OpenSpec.ofChange fnConditionRowsWrong)

/-- 'laws.FnCommuting': WHATEVER THE INPUT: true; the input reads as it did. -/
def fnCommutingSpec : ChangeSpec := { name := "fnCommuting", fn := fun _ => fun
  | [d] => { results := [.lit (.bool true)], args := [d] }
  | _ => none }
def fnCommutingRow : OpenClaim := { program := "ytoikbcagaanhgaa", sum := "b3238afe727dea36ccb7df921f720b295df1ae273927ac565515cdce55881585", func := "loop.example/g01078/laws.FnCommuting", spec := "fnCommuting", apart := false }
def FnCommutingSaid : Prop := fnCommutingRow.holds Try.pinned (OpenSpec.ofChange fnCommutingSpec)

/-- ITS FALSE NEIGHBOUR: 'it returns false'. Refute it at one input. -/
def fnCommutingWrong : ChangeSpec := { name := "fnCommuting", fn := fun _ => fun
  | [d] => { results := [.lit (.bool false)], args := [d] }
  | _ => none }
def FnCommutingWrongFalsely : Prop := fnCommutingRow.holds Try.pinned (OpenSpec.ofChange fnCommutingWrong)

/-- 'laws.FnLatticeProducts': WHATEVER THE INPUT: true; the input reads as it did. -/
def fnLatticeProductsSpec : ChangeSpec := { name := "fnLatticeProducts", fn := fun _ => fun
  | [d] => { results := [.lit (.bool true)], args := [d] }
  | _ => none }
def fnLatticeProductsRow : OpenClaim := { program := "ytoikbcagaanhgaa", sum := "b3238afe727dea36ccb7df921f720b295df1ae273927ac565515cdce55881585", func := "loop.example/g01078/laws.FnLatticeProducts", spec := "fnLatticeProducts", unfollowed := true, recurses := true, apart := false }
def FnLatticeProductsSaid : Prop := fnLatticeProductsRow.holds Try.pinned (OpenSpec.ofChange fnLatticeProductsSpec)

/-- ITS FALSE NEIGHBOUR: 'it returns false'. Refute it at one input. -/
def fnLatticeProductsWrong : ChangeSpec := { name := "fnLatticeProducts", fn := fun _ => fun
  | [d] => { results := [.lit (.bool false)], args := [d] }
  | _ => none }
def FnLatticeProductsWrongFalsely : Prop := fnLatticeProductsRow.holds Try.pinned (OpenSpec.ofChange fnLatticeProductsWrong)

/-- 'laws.FnLattices': WHATEVER THE INPUT: true; the input reads as it did. -/
def fnLatticesSpec : ChangeSpec := { name := "fnLattices", fn := fun _ => fun
  | [d] => { results := [.lit (.bool true)], args := [d] }
  | _ => none }
def fnLatticesRow : OpenClaim := { program := "ytoikbcagaanhgaa", sum := "b3238afe727dea36ccb7df921f720b295df1ae273927ac565515cdce55881585", func := "loop.example/g01078/laws.FnLattices", spec := "fnLattices", unfollowed := true, recurses := true, apart := false }
def FnLatticesSaid : Prop := fnLatticesRow.holds Try.pinned (OpenSpec.ofChange fnLatticesSpec)

/-- ITS FALSE NEIGHBOUR: 'it returns false'. Refute it at one input. -/
def fnLatticesWrong : ChangeSpec := { name := "fnLattices", fn := fun _ => fun
  | [d] => { results := [.lit (.bool false)], args := [d] }
  | _ => none }
def FnLatticesWrongFalsely : Prop := fnLatticesRow.holds Try.pinned (OpenSpec.ofChange fnLatticesWrong)

/-- 'laws.FnSublattices': WHATEVER THE INPUT: true; the input reads as it did. -/
def fnSublatticesSpec : ChangeSpec := { name := "fnSublattices", fn := fun _ => fun
  | [d] => { results := [.lit (.bool true)], args := [d] }
  | _ => none }
def fnSublatticesRow : OpenClaim := { program := "ytoikbcagaanhgaa", sum := "b3238afe727dea36ccb7df921f720b295df1ae273927ac565515cdce55881585", func := "loop.example/g01078/laws.FnSublattices", spec := "fnSublattices", unfollowed := true, recurses := true, apart := false }
def FnSublatticesSaid : Prop := fnSublatticesRow.holds Try.pinned (OpenSpec.ofChange fnSublatticesSpec)

/-- ITS FALSE NEIGHBOUR: 'it returns false'. Refute it at one input. -/
def fnSublatticesWrong : ChangeSpec := { name := "fnSublattices", fn := fun _ => fun
  | [d] => { results := [.lit (.bool false)], args := [d] }
  | _ => none }
def FnSublatticesWrongFalsely : Prop := fnSublatticesRow.holds Try.pinned (OpenSpec.ofChange fnSublatticesWrong)

/- THE SECOND FORM. 'bulk': how many values and letters a reading holds, each counted each time it is reached (what is shared counts as often as it is met; a slice's spare places count too). A statement '..UptoSaid' is the law's where the arguments, and the package variables that the reading takes, are together of bulk at most 1048576: NARROWER than '..Said'. Prove '..Said' where nothing that the law and all that it calls make is longer than what came in: it says more and counts as full. Else prove '..UptoSaid'. A law counts once. -/
mutual
def uptoBulk {H : Type} : DataW H → Nat
  | .lit (.string bytes) => bytes.length + 1
  | .lit _ => 1
  | .nil => 1
  | .ptr d => uptoBulk d + 1
  | .slice elems spare => uptoBulkAll elems + uptoBulkAll spare + 1
  | .agg parts => uptoBulkAll parts + 1
  | .iface _ d => uptoBulk d + 1
  | .map entries => uptoBulkEntries entries + 1
  | .held _ => 1
def uptoBulkAll {H : Type} : List (DataW H) → Nat
  | [] => 0
  | d :: r => uptoBulk d + uptoBulkAll r
def uptoBulkEntries {H : Type} : List (Lit × DataW H) → Nat
  | [] => 0
  | x :: r => uptoBulkEntry x + uptoBulkEntries r
def uptoBulkEntry {H : Type} : Lit × DataW H → Nat
  | (.string bytes, d) => bytes.length + uptoBulk d + 1
  | (_, d) => uptoBulk d + 1
 end
def uptoSmall : (H : Type) → List (DataW H) → Bool := fun _ ds => decide (uptoBulkAll ds ≤ 1048576)
def OpenSpec.upto (s : _root_.Go.ChangeSpec) : _root_.Go.OpenSpec := { _root_.Go.OpenSpec.ofChange s with cond := some uptoSmall }

/-- 'laws.FnConditionRows', WHERE WHAT IT READS IS OF BULK AT MOST 1048576: true; the input reads as it did. -/
def fnConditionRowsUptoRow : OpenClaim := { program := "ytoikbcagaanhgaa", sum := "b3238afe727dea36ccb7df921f720b295df1ae273927ac565515cdce55881585", func := "loop.example/g01078/laws.FnConditionRows", spec := "fnConditionRows", unfollowed := true, recurses := true, apart := false, narrowed := true }
def FnConditionRowsUptoSaid : Prop := fnConditionRowsUptoRow.holds Try.pinned (OpenSpec.upto fnConditionRowsSpec)

/-- 'laws.FnCommuting', WHERE WHAT IT READS IS OF BULK AT MOST 1048576: true; the input reads as it did. -/
def fnCommutingUptoRow : OpenClaim := { program := "ytoikbcagaanhgaa", sum := "b3238afe727dea36ccb7df921f720b295df1ae273927ac565515cdce55881585", func := "loop.example/g01078/laws.FnCommuting", spec := "fnCommuting", apart := false, narrowed := true }
def FnCommutingUptoSaid : Prop := fnCommutingUptoRow.holds Try.pinned (OpenSpec.upto fnCommutingSpec)

/-- 'laws.FnLatticeProducts', WHERE WHAT IT READS IS OF BULK AT MOST 1048576: true; the input reads as it did. -/
def fnLatticeProductsUptoRow : OpenClaim := { program := "ytoikbcagaanhgaa", sum := "b3238afe727dea36ccb7df921f720b295df1ae273927ac565515cdce55881585", func := "loop.example/g01078/laws.FnLatticeProducts", spec := "fnLatticeProducts", unfollowed := true, recurses := true, apart := false, narrowed := true }
def FnLatticeProductsUptoSaid : Prop := fnLatticeProductsUptoRow.holds Try.pinned (OpenSpec.upto fnLatticeProductsSpec)

/-- 'laws.FnLattices', WHERE WHAT IT READS IS OF BULK AT MOST 1048576: true; the input reads as it did. -/
def fnLatticesUptoRow : OpenClaim := { program := "ytoikbcagaanhgaa", sum := "b3238afe727dea36ccb7df921f720b295df1ae273927ac565515cdce55881585", func := "loop.example/g01078/laws.FnLattices", spec := "fnLattices", unfollowed := true, recurses := true, apart := false, narrowed := true }
def FnLatticesUptoSaid : Prop := fnLatticesUptoRow.holds Try.pinned (OpenSpec.upto fnLatticesSpec)

/-- 'laws.FnSublattices', WHERE WHAT IT READS IS OF BULK AT MOST 1048576: true; the input reads as it did. -/
def fnSublatticesUptoRow : OpenClaim := { program := "ytoikbcagaanhgaa", sum := "b3238afe727dea36ccb7df921f720b295df1ae273927ac565515cdce55881585", func := "loop.example/g01078/laws.FnSublattices", spec := "fnSublattices", unfollowed := true, recurses := true, apart := false, narrowed := true }
def FnSublatticesUptoSaid : Prop := fnSublatticesUptoRow.holds Try.pinned (OpenSpec.upto fnSublatticesSpec)

end Rows
end Go.Proofs.Ytoikbcagaanhgaa
