/-
  No cell of these rows narrows 'for every input' (looked for: loops, veiled, ifaces, maps, wideKeys, modest, calm, conditions, laid).
  DERIVED. THE GIVEN ROWS OF THIS SEAT. 5 by the template 'for every input the law returns true; each argument reads behind the call as it read before'; 0 by the template 'total and deterministic' (their statements: YtcpgnfohmeineaaTotals.lean).
  GIVEN WITH THE SEED: the statements are not yours to turn. If you find one false, say at which input.
  Laid BY PROGRAM, IN A SANDBOX (cutbox-rows.mjs): the forced cells as the released guide's own fill.sh prints them over the translation 64fbcbfb26e9834c… (all of the seat's roots in one cut). By AI agents, Wed Nov 11 2026. No macro, syntax, notation, axiom, sorry.
-/
import Derived.Test.YtcpgnfohmeineaaChecked
import GoSem.Claim
import GoSem.ClaimJoined
import GoSem.ClaimMapViews
import Derived.JoinedTies
import Derived.KernelRfl
namespace Go.Proofs.Ytcpgnfohmeineaa
/- THE CELL 'sum', in the pinned program and in every row, IS THE sha256 OF THE DUMP (.gsa) THAT YtcpgnfohmeineaaProg.lean LOADS. Nothing in Lean hashes anything: it is a label: what it is worth is what the hold of that sum in a sandbox is worth. -/
noncomputable def Try.pinned : Pinned := { name := "ytcpgnfohmeineaa", sum := "64fbcbfb26e9834c564cd42445d3e86146d80143e9c36d703460141c882f564b", checked := Try.checked }
namespace Rows
def none {H : Type} : Left H := { results := [], args := [] }

/-- 'laws.FnCommuting': WHATEVER THE INPUT: true; the input reads as it did. -/
def fnCommutingSpec : ChangeSpec := { name := "fnCommuting", fn := fun _ => fun
  | [d] => { results := [.lit (.bool true)], args := [d] }
  | _ => none }
def fnCommutingRow : OpenClaim := { program := "ytcpgnfohmeineaa", sum := "64fbcbfb26e9834c564cd42445d3e86146d80143e9c36d703460141c882f564b", func := "loop.example/g01078/laws.FnCommuting", spec := "fnCommuting", apart := false }
def FnCommutingSaid : Prop := fnCommutingRow.holds Try.pinned (OpenSpec.ofChange fnCommutingSpec)

/-- ITS FALSE NEIGHBOUR: 'it returns false'. Refute it at one input. -/
def fnCommutingWrong : ChangeSpec := { name := "fnCommuting", fn := fun _ => fun
  | [d] => { results := [.lit (.bool false)], args := [d] }
  | _ => none }
def FnCommutingWrongFalsely : Prop := fnCommutingRow.holds Try.pinned (OpenSpec.ofChange fnCommutingWrong)

/-- 'laws.FnTermFunctions': WHATEVER THE INPUT: true; the input reads as it did. -/
def fnTermFunctionsSpec : ChangeSpec := { name := "fnTermFunctions", fn := fun _ => fun
  | [d] => { results := [.lit (.bool true)], args := [d] }
  | _ => none }
def fnTermFunctionsRow : OpenClaim := { program := "ytcpgnfohmeineaa", sum := "64fbcbfb26e9834c564cd42445d3e86146d80143e9c36d703460141c882f564b", func := "loop.example/g01078/laws.FnTermFunctions", spec := "fnTermFunctions", apart := false }
def FnTermFunctionsSaid : Prop := fnTermFunctionsRow.holds Try.pinned (OpenSpec.ofChange fnTermFunctionsSpec)

/-- ITS FALSE NEIGHBOUR: 'it returns false'. Refute it at one input. -/
def fnTermFunctionsWrong : ChangeSpec := { name := "fnTermFunctions", fn := fun _ => fun
  | [d] => { results := [.lit (.bool false)], args := [d] }
  | _ => none }
def FnTermFunctionsWrongFalsely : Prop := fnTermFunctionsRow.holds Try.pinned (OpenSpec.ofChange fnTermFunctionsWrong)

/-- 'laws.FnCompositions': WHATEVER THE INPUT: true; the input reads as it did. -/
def fnCompositionsSpec : ChangeSpec := { name := "fnCompositions", fn := fun _ => fun
  | [d] => { results := [.lit (.bool true)], args := [d] }
  | _ => none }
def fnCompositionsRow : OpenClaim := { program := "ytcpgnfohmeineaa", sum := "64fbcbfb26e9834c564cd42445d3e86146d80143e9c36d703460141c882f564b", func := "loop.example/g01078/laws.FnCompositions", spec := "fnCompositions", apart := false }
def FnCompositionsSaid : Prop := fnCompositionsRow.holds Try.pinned (OpenSpec.ofChange fnCompositionsSpec)

/-- ITS FALSE NEIGHBOUR: 'it returns false'. Refute it at one input. -/
def fnCompositionsWrong : ChangeSpec := { name := "fnCompositions", fn := fun _ => fun
  | [d] => { results := [.lit (.bool false)], args := [d] }
  | _ => none }
def FnCompositionsWrongFalsely : Prop := fnCompositionsRow.holds Try.pinned (OpenSpec.ofChange fnCompositionsWrong)

/-- 'laws.FnEquivalences': WHATEVER THE INPUT: true; the input reads as it did. -/
def fnEquivalencesSpec : ChangeSpec := { name := "fnEquivalences", fn := fun _ => fun
  | [d] => { results := [.lit (.bool true)], args := [d] }
  | _ => none }
def fnEquivalencesRow : OpenClaim := { program := "ytcpgnfohmeineaa", sum := "64fbcbfb26e9834c564cd42445d3e86146d80143e9c36d703460141c882f564b", func := "loop.example/g01078/laws.FnEquivalences", spec := "fnEquivalences", apart := false }
def FnEquivalencesSaid : Prop := fnEquivalencesRow.holds Try.pinned (OpenSpec.ofChange fnEquivalencesSpec)

/-- ITS FALSE NEIGHBOUR: 'it returns false'. Refute it at one input. -/
def fnEquivalencesWrong : ChangeSpec := { name := "fnEquivalences", fn := fun _ => fun
  | [d] => { results := [.lit (.bool false)], args := [d] }
  | _ => none }
def FnEquivalencesWrongFalsely : Prop := fnEquivalencesRow.holds Try.pinned (OpenSpec.ofChange fnEquivalencesWrong)

/-- 'laws.FnSubpowerAlgebras': WHATEVER THE INPUT: true; the input reads as it did. -/
def fnSubpowerAlgebrasSpec : ChangeSpec := { name := "fnSubpowerAlgebras", fn := fun _ => fun
  | [d] => { results := [.lit (.bool true)], args := [d] }
  | _ => none }
def fnSubpowerAlgebrasRow : OpenClaim := { program := "ytcpgnfohmeineaa", sum := "64fbcbfb26e9834c564cd42445d3e86146d80143e9c36d703460141c882f564b", func := "loop.example/g01078/laws.FnSubpowerAlgebras", spec := "fnSubpowerAlgebras", recurses := true, apart := false }
def FnSubpowerAlgebrasSaid : Prop := fnSubpowerAlgebrasRow.holds Try.pinned (OpenSpec.ofChange fnSubpowerAlgebrasSpec)

/-- ITS FALSE NEIGHBOUR: 'it returns false'. Refute it at one input. -/
def fnSubpowerAlgebrasWrong : ChangeSpec := { name := "fnSubpowerAlgebras", fn := fun _ => fun
  | [d] => { results := [.lit (.bool false)], args := [d] }
  | _ => none }
def FnSubpowerAlgebrasWrongFalsely : Prop := fnSubpowerAlgebrasRow.holds Try.pinned (OpenSpec.ofChange fnSubpowerAlgebrasWrong)

/- THE SECOND FORM. 'bulk': how many values and letters a reading holds, each counted each time it is reached (what is shared counts as often as it is met; a slice's spare places count too). A statement '..UptoSaid' is the law's where the arguments, and the package variables that the reading takes, are together of bulk at most 1048576: NARROWER than '..Said'. Prove '..Said' where nothing that the law and all that it calls make is longer than what came in: it says more and counts as full. Else prove '..UptoSaid'. A law counts once. -/
mutual
def uptoBulk {H : Type} : DataW H → Nat
  | .lit (.string bytes) => bytes.length + 1
  | .lit _ => 1
  | .nil => 1
  | .ptr d => uptoBulk d + 1
  | .slice elems spare => uptoBulkAll elems + uptoBulkAll spare + 1
  | .agg parts => uptoBulkAll parts + 1
  | .iface _ d => uptoBulk d + 1
  | .map entries => uptoBulkEntries entries + 1
  | .held _ => 1
def uptoBulkAll {H : Type} : List (DataW H) → Nat
  | [] => 0
  | d :: r => uptoBulk d + uptoBulkAll r
def uptoBulkEntries {H : Type} : List (Lit × DataW H) → Nat
  | [] => 0
  | x :: r => uptoBulkEntry x + uptoBulkEntries r
def uptoBulkEntry {H : Type} : Lit × DataW H → Nat
  | (.string bytes, d) => bytes.length + uptoBulk d + 1
  | (_, d) => uptoBulk d + 1
 end
def uptoSmall : (H : Type) → List (DataW H) → Bool := fun _ ds => decide (uptoBulkAll ds ≤ 1048576)
def OpenSpec.upto (s : _root_.Go.ChangeSpec) : _root_.Go.OpenSpec := { _root_.Go.OpenSpec.ofChange s with cond := some uptoSmall }

/-- 'laws.FnCommuting', WHERE WHAT IT READS IS OF BULK AT MOST 1048576: true; the input reads as it did. -/
def fnCommutingUptoRow : OpenClaim := { program := "ytcpgnfohmeineaa", sum := "64fbcbfb26e9834c564cd42445d3e86146d80143e9c36d703460141c882f564b", func := "loop.example/g01078/laws.FnCommuting", spec := "fnCommuting", apart := false, narrowed := true }
def FnCommutingUptoSaid : Prop := fnCommutingUptoRow.holds Try.pinned (OpenSpec.upto fnCommutingSpec)

/-- 'laws.FnTermFunctions', WHERE WHAT IT READS IS OF BULK AT MOST 1048576: true; the input reads as it did. -/
def fnTermFunctionsUptoRow : OpenClaim := { program := "ytcpgnfohmeineaa", sum := "64fbcbfb26e9834c564cd42445d3e86146d80143e9c36d703460141c882f564b", func := "loop.example/g01078/laws.FnTermFunctions", spec := "fnTermFunctions", apart := false, narrowed := true }
def FnTermFunctionsUptoSaid : Prop := fnTermFunctionsUptoRow.holds Try.pinned (OpenSpec.upto fnTermFunctionsSpec)

/-- 'laws.FnCompositions', WHERE WHAT IT READS IS OF BULK AT MOST 1048576: true; the input reads as it did. -/
def fnCompositionsUptoRow : OpenClaim := { program := "ytcpgnfohmeineaa", sum := "64fbcbfb26e9834c564cd42445d3e86146d80143e9c36d703460141c882f564b", func := "loop.example/g01078/laws.FnCompositions", spec := "fnCompositions", apart := false, narrowed := true }
def FnCompositionsUptoSaid : Prop := fnCompositionsUptoRow.holds Try.pinned (OpenSpec.upto fnCompositionsSpec)

/-- 'laws.FnEquivalences', WHERE WHAT IT READS IS OF BULK AT MOST 1048576: true; the input reads as it did. -/
def fnEquivalencesUptoRow : OpenClaim := { program := "ytcpgnfohmeineaa", sum := "64fbcbfb26e9834c564cd42445d3e86146d80143e9c36d703460141c882f564b", func := "loop.example/g01078/laws.FnEquivalences", spec := "fnEquivalences", apart := false, narrowed := true }
def FnEquivalencesUptoSaid : Prop := fnEquivalencesUptoRow.holds Try.pinned (OpenSpec.upto fnEquivalencesSpec)

/-- 'laws.FnSubpowerAlgebras', WHERE WHAT IT READS IS OF BULK AT MOST 1048576: true; the input reads as it did. -/
def fnSubpowerAlgebrasUptoRow : OpenClaim := { program := "ytcpgnfohmeineaa", sum := "64fbcbfb26e9834c564cd42445d3e86146d80143e9c36d703460141c882f564b", func := "loop.example/g01078/laws.FnSubpowerAlgebras", spec := "fnSubpowerAlgebras", recurses := true, apart := false, narrowed := true }
def FnSubpowerAlgebrasUptoSaid : Prop := fnSubpowerAlgebrasUptoRow.holds Try.pinned (OpenSpec.upto fnSubpowerAlgebrasSpec)

end Rows
end Go.Proofs.Ytcpgnfohmeineaa
