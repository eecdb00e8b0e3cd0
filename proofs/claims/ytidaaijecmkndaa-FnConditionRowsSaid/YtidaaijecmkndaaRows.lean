/-
  No cell of these rows narrows 'for every input' (looked for: loops, veiled, ifaces, maps, wideKeys, modest, calm, conditions, laid).
  DERIVED. THE GIVEN ROWS OF THIS SEAT. 4 by the template 'for every input the law returns true; each argument reads behind the call as it read before'; 0 by the template 'total and deterministic' (their statements: YtidaaijecmkndaaTotals.lean).
  GIVEN WITH THE SEED: the statements are not yours to turn. If you find one false, say at which input.
  Laid BY PROGRAM, IN A SANDBOX (cutbox-rows.mjs): the forced cells as the released guide's own fill.sh prints them over the translation e8be7e6c3451e205… (all of the seat's roots in one cut). By AI agents, Wed Nov 11 2026. No macro, syntax, notation, axiom, sorry.
-/
import Derived.Test.YtidaaijecmkndaaChecked
import GoSem.Claim
import GoSem.ClaimJoined
import GoSem.ClaimMapViews
import Derived.JoinedTies
import Derived.KernelRfl
namespace Go.Proofs.Ytidaaijecmkndaa
/- THE CELL 'sum', in the pinned program and in every row, IS THE sha256 OF THE DUMP (.gsa) THAT YtidaaijecmkndaaProg.lean LOADS. Nothing in Lean hashes anything: it is a label: what it is worth is what the hold of that sum in a sandbox is worth. -/
noncomputable def Try.pinned : Pinned := { name := "ytidaaijecmkndaa", sum := "e8be7e6c3451e205f264051fa7bc912f4deaa816aaa14a7d1ecbfb1f132194a5", checked := Try.checked }
namespace Rows
def none {H : Type} : Left H := { results := [], args := [] }

/-- 'laws.FnConditionRows': WHATEVER THE INPUT: true; the input reads as it did. -/
def fnConditionRowsSpec : ChangeSpec := { name := "fnConditionRows", fn := fun _ => fun
  | [d] => { results := [.lit (.bool true)], args := [d] }
  | _ => none }
def fnConditionRowsRow : OpenClaim := { program := "ytidaaijecmkndaa", sum := "e8be7e6c3451e205f264051fa7bc912f4deaa816aaa14a7d1ecbfb1f132194a5", func := "loop.example/g01078/laws.FnConditionRows", spec := "fnConditionRows", unfollowed := true, recurses := true, apart := false }
def FnConditionRowsSaid : Prop := fnConditionRowsRow.holds Try.pinned (OpenSpec.ofChange fnConditionRowsSpec)

/-- ITS FALSE NEIGHBOUR: 'it returns false'. Refute it at one input. -/
def fnConditionRowsWrong : ChangeSpec := { name := "fnConditionRows", fn := fun _ => fun
  | [d] => { results := [.lit (.bool false)], args := [d] }
  | _ => none }
def FnConditionRowsWrongFalsely : Prop := fnConditionRowsRow.holds Try.pinned (OpenSpec.ofChange fnConditionRowsWrong)

/-- 'laws.FnHoms': WHATEVER THE INPUT: true; the input reads as it did. -/
def fnHomsSpec : ChangeSpec := { name := "fnHoms", fn := fun _ => fun
  | [d] => { results := [.lit (.bool true)], args := [d] }
  | _ => none }
def fnHomsRow : OpenClaim := { program := "ytidaaijecmkndaa", sum := "e8be7e6c3451e205f264051fa7bc912f4deaa816aaa14a7d1ecbfb1f132194a5", func := "loop.example/g01078/laws.FnHoms", spec := "fnHoms", recurses := true, apart := false }
def FnHomsSaid : Prop := fnHomsRow.holds Try.pinned (OpenSpec.ofChange fnHomsSpec)

/-- ITS FALSE NEIGHBOUR: 'it returns false'. Refute it at one input. -/
def fnHomsWrong : ChangeSpec := { name := "fnHoms", fn := fun _ => fun
  | [d] => { results := [.lit (.bool false)], args := [d] }
  | _ => none }
def FnHomsWrongFalsely : Prop := fnHomsRow.holds Try.pinned (OpenSpec.ofChange fnHomsWrong)

/-- 'laws.FnSubuniverses': WHATEVER THE INPUT: true; the input reads as it did. -/
def fnSubuniversesSpec : ChangeSpec := { name := "fnSubuniverses", fn := fun _ => fun
  | [d] => { results := [.lit (.bool true)], args := [d] }
  | _ => none }
def fnSubuniversesRow : OpenClaim := { program := "ytidaaijecmkndaa", sum := "e8be7e6c3451e205f264051fa7bc912f4deaa816aaa14a7d1ecbfb1f132194a5", func := "loop.example/g01078/laws.FnSubuniverses", spec := "fnSubuniverses", inPlace := ["internal/reflectlite.ValueOf", "internal/reflectlite.Swapper", "(internal/reflectlite.Value).Len"], unfollowed := true, recurses := true, apart := false }
def FnSubuniversesSaid : Prop := fnSubuniversesRow.holds Try.pinned (OpenSpec.ofChange fnSubuniversesSpec)

/-- ITS FALSE NEIGHBOUR: 'it returns false'. Refute it at one input. -/
def fnSubuniversesWrong : ChangeSpec := { name := "fnSubuniverses", fn := fun _ => fun
  | [d] => { results := [.lit (.bool false)], args := [d] }
  | _ => none }
def FnSubuniversesWrongFalsely : Prop := fnSubuniversesRow.holds Try.pinned (OpenSpec.ofChange fnSubuniversesWrong)

/-- 'laws.FnGenerators': WHATEVER THE INPUT: true; the input reads as it did. -/
def fnGeneratorsSpec : ChangeSpec := { name := "fnGenerators", fn := fun _ => fun
  | [d] => { results := [.lit (.bool true)], args := [d] }
  | _ => none }
def fnGeneratorsRow : OpenClaim := { program := "ytidaaijecmkndaa", sum := "e8be7e6c3451e205f264051fa7bc912f4deaa816aaa14a7d1ecbfb1f132194a5", func := "loop.example/g01078/laws.FnGenerators", spec := "fnGenerators", inPlace := ["internal/reflectlite.ValueOf", "internal/reflectlite.Swapper", "(internal/reflectlite.Value).Len"], unfollowed := true, recurses := true, apart := false }
def FnGeneratorsSaid : Prop := fnGeneratorsRow.holds Try.pinned (OpenSpec.ofChange fnGeneratorsSpec)

/-- ITS FALSE NEIGHBOUR: 'it returns false'. Refute it at one input. -/
def fnGeneratorsWrong : ChangeSpec := { name := "fnGenerators", fn := fun _ => fun
  | [d] => { results := [.lit (.bool false)], args := [d] }
  | _ => none }
def FnGeneratorsWrongFalsely : Prop := fnGeneratorsRow.holds Try.pinned (OpenSpec.ofChange fnGeneratorsWrong)

/- THE SECOND FORM. 'bulk': how many values and letters a reading holds, each counted each time it is reached (what is shared counts as often as it is met; a slice's spare places count too). A statement '..UptoSaid' is the law's where the arguments, and the package variables that the reading takes, are together of bulk at most 1048576: NARROWER than '..Said'. Prove '..Said' where nothing that the law and all that it calls make is longer than what came in: it says more and counts as full. Else prove '..UptoSaid'. A law counts once. -/
mutual
def uptoBulk {H : Type} : DataW H → Nat
  | .lit (.string bytes) => bytes.length + 1
  | .lit _ => 1
  | .nil => 1
  | .ptr d => uptoBulk d + 1
  | .slice elems spare => uptoBulkAll elems + uptoBulkAll spare + 1
  | .agg parts => uptoBulkAll parts + 1
  | .iface _ d => uptoBulk d + 1
  | .map entries => uptoBulkEntries entries + 1
  | .held _ => 1
def uptoBulkAll {H : Type} : List (DataW H) → Nat
  | [] => 0
  | d :: r => uptoBulk d + uptoBulkAll r
def uptoBulkEntries {H : Type} : List (Lit × DataW H) → Nat
  | [] => 0
  | x :: r => uptoBulkEntry x + uptoBulkEntries r
def uptoBulkEntry {H : Type} : Lit × DataW H → Nat
  | (.string bytes, d) => bytes.length + uptoBulk d + 1
  | (_, d) => uptoBulk d + 1
 end
def uptoSmall : (H : Type) → List (DataW H) → Bool := fun _ ds => decide (uptoBulkAll ds ≤ 1048576)
def OpenSpec.upto (s : _root_.Go.ChangeSpec) : _root_.Go.OpenSpec := { _root_.Go.OpenSpec.ofChange s with cond := some uptoSmall }

/-- 'laws.FnConditionRows', WHERE WHAT IT READS IS OF BULK AT MOST 1048576: true; the input reads as it did. -/
def fnConditionRowsUptoRow : OpenClaim := { program := "ytidaaijecmkndaa", sum := "e8be7e6c3451e205f264051fa7bc912f4deaa816aaa14a7d1ecbfb1f132194a5", func := "loop.example/g01078/laws.FnConditionRows", spec := "fnConditionRows", unfollowed := true, recurses := true, apart := false, narrowed := true }
def FnConditionRowsUptoSaid : Prop := fnConditionRowsUptoRow.holds Try.pinned (OpenSpec.upto fnConditionRowsSpec)

/-- 'laws.FnHoms', WHERE WHAT IT READS IS OF BULK AT MOST 1048576: true; the input reads as it did. -/
def fnHomsUptoRow : OpenClaim := { program := "ytidaaijecmkndaa", sum := "e8be7e6c3451e205f264051fa7bc912f4deaa816aaa14a7d1ecbfb1f132194a5", func := "loop.example/g01078/laws.FnHoms", spec := "fnHoms", recurses := true, apart := false, narrowed := true }
def FnHomsUptoSaid : Prop := fnHomsUptoRow.holds Try.pinned (OpenSpec.upto fnHomsSpec)

/-- 'laws.FnSubuniverses', WHERE WHAT IT READS IS OF BULK AT MOST 1048576: true; the input reads as it did. -/
def fnSubuniversesUptoRow : OpenClaim := { program := "ytidaaijecmkndaa", sum := "e8be7e6c3451e205f264051fa7bc912f4deaa816aaa14a7d1ecbfb1f132194a5", func := "loop.example/g01078/laws.FnSubuniverses", spec := "fnSubuniverses", inPlace := ["internal/reflectlite.ValueOf", "internal/reflectlite.Swapper", "(internal/reflectlite.Value).Len"], unfollowed := true, recurses := true, apart := false, narrowed := true }
def FnSubuniversesUptoSaid : Prop := fnSubuniversesUptoRow.holds Try.pinned (OpenSpec.upto fnSubuniversesSpec)

/-- 'laws.FnGenerators', WHERE WHAT IT READS IS OF BULK AT MOST 1048576: true; the input reads as it did. -/
def fnGeneratorsUptoRow : OpenClaim := { program := "ytidaaijecmkndaa", sum := "e8be7e6c3451e205f264051fa7bc912f4deaa816aaa14a7d1ecbfb1f132194a5", func := "loop.example/g01078/laws.FnGenerators", spec := "fnGenerators", inPlace := ["internal/reflectlite.ValueOf", "internal/reflectlite.Swapper", "(internal/reflectlite.Value).Len"], unfollowed := true, recurses := true, apart := false, narrowed := true }
def FnGeneratorsUptoSaid : Prop := fnGeneratorsUptoRow.holds Try.pinned (OpenSpec.upto fnGeneratorsSpec)

end Rows
end Go.Proofs.Ytidaaijecmkndaa
