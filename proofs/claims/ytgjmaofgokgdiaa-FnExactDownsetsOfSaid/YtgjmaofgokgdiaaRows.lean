/-
  No cell of these rows narrows 'for every input' (looked for: loops, veiled, ifaces, maps, wideKeys, modest, calm, conditions, laid).
  DERIVED. THE GIVEN ROWS OF THIS SEAT. 11 by the template 'for every input the law returns true; each argument reads behind the call as it read before'; 0 by the template 'total and deterministic' (their statements: YtgjmaofgokgdiaaTotals.lean).
  GIVEN WITH THE SEED: the statements are not yours to turn. If you find one false, say at which input.
  Laid BY PROGRAM, IN A SANDBOX (cutbox-rows.mjs): the forced cells as the released guide's own fill.sh prints them over the translation 13be896018e72c73… (all of the seat's roots in one cut). By AI agents, Wed Nov 11 2026. No macro, syntax, notation, axiom, sorry.
-/
import Derived.Test.YtgjmaofgokgdiaaChecked
import GoSem.Claim
import GoSem.ClaimJoined
import GoSem.ClaimMapViews
import Derived.JoinedTies
import Derived.KernelRfl
namespace Go.Proofs.Ytgjmaofgokgdiaa
/- THE CELL 'sum', in the pinned program and in every row, IS THE sha256 OF THE DUMP (.gsa) THAT YtgjmaofgokgdiaaProg.lean LOADS. Nothing in Lean hashes anything: it is a label: what it is worth is what the hold of that sum in a sandbox is worth. -/
noncomputable def Try.pinned : Pinned := { name := "ytgjmaofgokgdiaa", sum := "13be896018e72c7361336fcb9988ee80811cd0d940c22ee43c099139c8c1dc2e", checked := Try.checked }
namespace Rows
def none {H : Type} : Left H := { results := [], args := [] }

/-- 'laws.FnExactDownsetsOf': WHATEVER THE INPUT: true; the input reads as it did. -/
def fnExactDownsetsOfSpec : ChangeSpec := { name := "fnExactDownsetsOf", fn := fun _ => fun
  | [d] => { results := [.lit (.bool true)], args := [d] }
  | _ => none }
def fnExactDownsetsOfRow : OpenClaim := { program := "ytgjmaofgokgdiaa", sum := "13be896018e72c7361336fcb9988ee80811cd0d940c22ee43c099139c8c1dc2e", func := "loop.example/g01078/laws.FnExactDownsetsOf", spec := "fnExactDownsetsOf", inPlace := ["internal/reflectlite.ValueOf", "internal/reflectlite.Swapper", "(internal/reflectlite.Value).Len"], unfollowed := true, recurses := true, apart := false }
def FnExactDownsetsOfSaid : Prop := fnExactDownsetsOfRow.holds Try.pinned (OpenSpec.ofChange fnExactDownsetsOfSpec)

/-- ITS FALSE NEIGHBOUR: 'it returns false'. Refute it at one input. -/
def fnExactDownsetsOfWrong : ChangeSpec := { name := "fnExactDownsetsOf", fn := fun _ => fun
  | [d] => { results := [.lit (.bool false)], args := [d] }
  | _ => none }
def FnExactDownsetsOfWrongFalsely : Prop := fnExactDownsetsOfRow.holds Try.pinned (OpenSpec.ofChange fnExactDownsetsOfWrong)

/-- 'laws.FnSubuniverses': WHATEVER THE INPUT: true; the input reads as it did. -/
def fnSubuniversesSpec : ChangeSpec := { name := "fnSubuniverses", fn := fun _ => fun
  | [d] => { results := [.lit (.bool true)], args := [d] }
  | _ => none }
def fnSubuniversesRow : OpenClaim := { program := "ytgjmaofgokgdiaa", sum := "13be896018e72c7361336fcb9988ee80811cd0d940c22ee43c099139c8c1dc2e", func := "loop.example/g01078/laws.FnSubuniverses", spec := "fnSubuniverses", inPlace := ["internal/reflectlite.ValueOf", "internal/reflectlite.Swapper", "(internal/reflectlite.Value).Len"], unfollowed := true, recurses := true, apart := false }
def FnSubuniversesSaid : Prop := fnSubuniversesRow.holds Try.pinned (OpenSpec.ofChange fnSubuniversesSpec)

/-- ITS FALSE NEIGHBOUR: 'it returns false'. Refute it at one input. -/
def fnSubuniversesWrong : ChangeSpec := { name := "fnSubuniverses", fn := fun _ => fun
  | [d] => { results := [.lit (.bool false)], args := [d] }
  | _ => none }
def FnSubuniversesWrongFalsely : Prop := fnSubuniversesRow.holds Try.pinned (OpenSpec.ofChange fnSubuniversesWrong)

/-- 'laws.FnGenerators': WHATEVER THE INPUT: true; the input reads as it did. -/
def fnGeneratorsSpec : ChangeSpec := { name := "fnGenerators", fn := fun _ => fun
  | [d] => { results := [.lit (.bool true)], args := [d] }
  | _ => none }
def fnGeneratorsRow : OpenClaim := { program := "ytgjmaofgokgdiaa", sum := "13be896018e72c7361336fcb9988ee80811cd0d940c22ee43c099139c8c1dc2e", func := "loop.example/g01078/laws.FnGenerators", spec := "fnGenerators", inPlace := ["internal/reflectlite.ValueOf", "internal/reflectlite.Swapper", "(internal/reflectlite.Value).Len"], unfollowed := true, recurses := true, apart := false }
def FnGeneratorsSaid : Prop := fnGeneratorsRow.holds Try.pinned (OpenSpec.ofChange fnGeneratorsSpec)

/-- ITS FALSE NEIGHBOUR: 'it returns false'. Refute it at one input. -/
def fnGeneratorsWrong : ChangeSpec := { name := "fnGenerators", fn := fun _ => fun
  | [d] => { results := [.lit (.bool false)], args := [d] }
  | _ => none }
def FnGeneratorsWrongFalsely : Prop := fnGeneratorsRow.holds Try.pinned (OpenSpec.ofChange fnGeneratorsWrong)

/-- 'laws.FnHoms': WHATEVER THE INPUT: true; the input reads as it did. -/
def fnHomsSpec : ChangeSpec := { name := "fnHoms", fn := fun _ => fun
  | [d] => { results := [.lit (.bool true)], args := [d] }
  | _ => none }
def fnHomsRow : OpenClaim := { program := "ytgjmaofgokgdiaa", sum := "13be896018e72c7361336fcb9988ee80811cd0d940c22ee43c099139c8c1dc2e", func := "loop.example/g01078/laws.FnHoms", spec := "fnHoms", recurses := true, apart := false }
def FnHomsSaid : Prop := fnHomsRow.holds Try.pinned (OpenSpec.ofChange fnHomsSpec)

/-- ITS FALSE NEIGHBOUR: 'it returns false'. Refute it at one input. -/
def fnHomsWrong : ChangeSpec := { name := "fnHoms", fn := fun _ => fun
  | [d] => { results := [.lit (.bool false)], args := [d] }
  | _ => none }
def FnHomsWrongFalsely : Prop := fnHomsRow.holds Try.pinned (OpenSpec.ofChange fnHomsWrong)

/-- 'laws.FnIdentities': WHATEVER THE INPUT: true; the input reads as it did. -/
def fnIdentitiesSpec : ChangeSpec := { name := "fnIdentities", fn := fun _ => fun
  | [d] => { results := [.lit (.bool true)], args := [d] }
  | _ => none }
def fnIdentitiesRow : OpenClaim := { program := "ytgjmaofgokgdiaa", sum := "13be896018e72c7361336fcb9988ee80811cd0d940c22ee43c099139c8c1dc2e", func := "loop.example/g01078/laws.FnIdentities", spec := "fnIdentities", recurses := true, apart := false }
def FnIdentitiesSaid : Prop := fnIdentitiesRow.holds Try.pinned (OpenSpec.ofChange fnIdentitiesSpec)

/-- ITS FALSE NEIGHBOUR: 'it returns false'. Refute it at one input. -/
def fnIdentitiesWrong : ChangeSpec := { name := "fnIdentities", fn := fun _ => fun
  | [d] => { results := [.lit (.bool false)], args := [d] }
  | _ => none }
def FnIdentitiesWrongFalsely : Prop := fnIdentitiesRow.holds Try.pinned (OpenSpec.ofChange fnIdentitiesWrong)

/-- 'laws.FnTerms': WHATEVER THE INPUT: true; the input reads as it did. -/
def fnTermsSpec : ChangeSpec := { name := "fnTerms", fn := fun _ => fun
  | [d] => { results := [.lit (.bool true)], args := [d] }
  | _ => none }
def fnTermsRow : OpenClaim := { program := "ytgjmaofgokgdiaa", sum := "13be896018e72c7361336fcb9988ee80811cd0d940c22ee43c099139c8c1dc2e", func := "loop.example/g01078/laws.FnTerms", spec := "fnTerms", recurses := true, apart := false }
def FnTermsSaid : Prop := fnTermsRow.holds Try.pinned (OpenSpec.ofChange fnTermsSpec)

/-- ITS FALSE NEIGHBOUR: 'it returns false'. Refute it at one input. -/
def fnTermsWrong : ChangeSpec := { name := "fnTerms", fn := fun _ => fun
  | [d] => { results := [.lit (.bool false)], args := [d] }
  | _ => none }
def FnTermsWrongFalsely : Prop := fnTermsRow.holds Try.pinned (OpenSpec.ofChange fnTermsWrong)

/-- 'laws.FnPosets': WHATEVER THE INPUT: true; the input reads as it did. -/
def fnPosetsSpec : ChangeSpec := { name := "fnPosets", fn := fun _ => fun
  | [d] => { results := [.lit (.bool true)], args := [d] }
  | _ => none }
def fnPosetsRow : OpenClaim := { program := "ytgjmaofgokgdiaa", sum := "13be896018e72c7361336fcb9988ee80811cd0d940c22ee43c099139c8c1dc2e", func := "loop.example/g01078/laws.FnPosets", spec := "fnPosets", unfollowed := true, recurses := true, apart := false }
def FnPosetsSaid : Prop := fnPosetsRow.holds Try.pinned (OpenSpec.ofChange fnPosetsSpec)

/-- ITS FALSE NEIGHBOUR: 'it returns false'. Refute it at one input. -/
def fnPosetsWrong : ChangeSpec := { name := "fnPosets", fn := fun _ => fun
  | [d] => { results := [.lit (.bool false)], args := [d] }
  | _ => none }
def FnPosetsWrongFalsely : Prop := fnPosetsRow.holds Try.pinned (OpenSpec.ofChange fnPosetsWrong)

/-- 'laws.FnExactFewestChains': WHATEVER THE INPUT: true; the input reads as it did. -/
def fnExactFewestChainsSpec : ChangeSpec := { name := "fnExactFewestChains", fn := fun _ => fun
  | [d] => { results := [.lit (.bool true)], args := [d] }
  | _ => none }
def fnExactFewestChainsRow : OpenClaim := { program := "ytgjmaofgokgdiaa", sum := "13be896018e72c7361336fcb9988ee80811cd0d940c22ee43c099139c8c1dc2e", func := "loop.example/g01078/laws.FnExactFewestChains", spec := "fnExactFewestChains", unfollowed := true, recurses := true, apart := false }
def FnExactFewestChainsSaid : Prop := fnExactFewestChainsRow.holds Try.pinned (OpenSpec.ofChange fnExactFewestChainsSpec)

/-- ITS FALSE NEIGHBOUR: 'it returns false'. Refute it at one input. -/
def fnExactFewestChainsWrong : ChangeSpec := { name := "fnExactFewestChains", fn := fun _ => fun
  | [d] => { results := [.lit (.bool false)], args := [d] }
  | _ => none }
def FnExactFewestChainsWrongFalsely : Prop := fnExactFewestChainsRow.holds Try.pinned (OpenSpec.ofChange fnExactFewestChainsWrong)

/-- 'laws.FnConditionRows': WHATEVER THE INPUT: true; the input reads as it did. -/
def fnConditionRowsSpec : ChangeSpec := { name := "fnConditionRows", fn := fun _ => fun
  | [d] => { results := [.lit (.bool true)], args := [d] }
  | _ => none }
def fnConditionRowsRow : OpenClaim := { program := "ytgjmaofgokgdiaa", sum := "13be896018e72c7361336fcb9988ee80811cd0d940c22ee43c099139c8c1dc2e", func := "loop.example/g01078/laws.FnConditionRows", spec := "fnConditionRows", unfollowed := true, recurses := true, apart := false }
def FnConditionRowsSaid : Prop := fnConditionRowsRow.holds Try.pinned (OpenSpec.ofChange fnConditionRowsSpec)

/-- ITS FALSE NEIGHBOUR: 'it returns false'. Refute it at one input. -/
def fnConditionRowsWrong : ChangeSpec := { name := "fnConditionRows", fn := fun _ => fun
  | [d] => { results := [.lit (.bool false)], args := [d] }
  | _ => none }
def FnConditionRowsWrongFalsely : Prop := fnConditionRowsRow.holds Try.pinned (OpenSpec.ofChange fnConditionRowsWrong)

/-- 'laws.FnCommuting': WHATEVER THE INPUT: true; the input reads as it did. -/
def fnCommutingSpec : ChangeSpec := { name := "fnCommuting", fn := fun _ => fun
  | [d] => { results := [.lit (.bool true)], args := [d] }
  | _ => none }
def fnCommutingRow : OpenClaim := { program := "ytgjmaofgokgdiaa", sum := "13be896018e72c7361336fcb9988ee80811cd0d940c22ee43c099139c8c1dc2e", func := "loop.example/g01078/laws.FnCommuting", spec := "fnCommuting", apart := false }
def FnCommutingSaid : Prop := fnCommutingRow.holds Try.pinned (OpenSpec.ofChange fnCommutingSpec)

/-- ITS FALSE NEIGHBOUR: 'it returns false'. Refute it at one input. -/
def fnCommutingWrong : ChangeSpec := { name := "fnCommuting", fn := fun _ => fun
  | [d] => { results := [.lit (.bool false)], args := [d] }
  | _ => none }
def FnCommutingWrongFalsely : Prop := fnCommutingRow.holds Try.pinned (OpenSpec.ofChange fnCommutingWrong)

/-- 'laws.FnEquivalences': WHATEVER THE INPUT: true; the input reads as it did. -/
def fnEquivalencesSpec : ChangeSpec := { name := "fnEquivalences", fn := fun _ => fun
  | [d] => { results := [.lit (.bool true)], args := [d] }
  | _ => none }
def fnEquivalencesRow : OpenClaim := { program := "ytgjmaofgokgdiaa", sum := "13be896018e72c7361336fcb9988ee80811cd0d940c22ee43c099139c8c1dc2e", func := "loop.example/g01078/laws.FnEquivalences", spec := "fnEquivalences", apart := false }
def FnEquivalencesSaid : Prop := fnEquivalencesRow.holds Try.pinned (OpenSpec.ofChange fnEquivalencesSpec)

/-- ITS FALSE NEIGHBOUR: 'it returns false'. Refute it at one input. -/
def fnEquivalencesWrong : ChangeSpec := { name := "fnEquivalences", fn := fun _ => fun
  | [d] => { results := [.lit (.bool false)], args := [d] }
  | _ => none }
def FnEquivalencesWrongFalsely : Prop := fnEquivalencesRow.holds Try.pinned (OpenSpec.ofChange fnEquivalencesWrong)

/- THE SECOND FORM. 'bulk': how many values and letters a reading holds, each counted each time it is reached (what is shared counts as often as it is met; a slice's spare places count too). A statement '..UptoSaid' is the law's where the arguments, and the package variables that the reading takes, are together of bulk at most 1048576: NARROWER than '..Said'. Prove '..Said' where nothing that the law and all that it calls make is longer than what came in: it says more and counts as full. Else prove '..UptoSaid'. A law counts once. -/
mutual
def uptoBulk {H : Type} : DataW H → Nat
  | .lit (.string bytes) => bytes.length + 1
  | .lit _ => 1
  | .nil => 1
  | .ptr d => uptoBulk d + 1
  | .slice elems spare => uptoBulkAll elems + uptoBulkAll spare + 1
  | .agg parts => uptoBulkAll parts + 1
  | .iface _ d => uptoBulk d + 1
  | .map entries => uptoBulkEntries entries + 1
  | .held _ => 1
def uptoBulkAll {H : Type} : List (DataW H) → Nat
  | [] => 0
  | d :: r => uptoBulk d + uptoBulkAll r
def uptoBulkEntries {H : Type} : List (Lit × DataW H) → Nat
  | [] => 0
  | x :: r => uptoBulkEntry x + uptoBulkEntries r
def uptoBulkEntry {H : Type} : Lit × DataW H → Nat
  | (.string bytes, d) => bytes.length + uptoBulk d + 1
  | (_, d) => uptoBulk d + 1
 end
def uptoSmall : (H : Type) → List (DataW H) → Bool := fun _ ds => decide (uptoBulkAll ds ≤ 1048576)
def OpenSpec.upto (s : _root_.Go.ChangeSpec) : _root_.Go.OpenSpec := { _root_.Go.OpenSpec.ofChange s with cond := some uptoSmall }

/-- 'laws.FnExactDownsetsOf', WHERE WHAT IT READS IS OF BULK AT MOST 1048576: true; the input reads as it did. -/
def fnExactDownsetsOfUptoRow : OpenClaim := { program := "ytgjmaofgokgdiaa", sum := "13be896018e72c7361336fcb9988ee80811cd0d940c22ee43c099139c8c1dc2e", func := "loop.example/g01078/laws.FnExactDownsetsOf", spec := "fnExactDownsetsOf", inPlace := ["internal/reflectlite.ValueOf", "internal/reflectlite.Swapper", "(internal/reflectlite.Value).Len"], unfollowed := true, recurses := true, apart := false, narrowed := true }
def FnExactDownsetsOfUptoSaid : Prop := fnExactDownsetsOfUptoRow.holds Try.pinned (OpenSpec.upto fnExactDownsetsOfSpec)

/-- 'laws.FnSubuniverses', WHERE WHAT IT READS IS OF BULK AT MOST 1048576: true; the input reads as it did. -/
def fnSubuniversesUptoRow : OpenClaim := { program := "ytgjmaofgokgdiaa", sum := "13be896018e72c7361336fcb9988ee80811cd0d940c22ee43c099139c8c1dc2e", func := "loop.example/g01078/laws.FnSubuniverses", spec := "fnSubuniverses", inPlace := ["internal/reflectlite.ValueOf", "internal/reflectlite.Swapper", "(internal/reflectlite.Value).Len"], unfollowed := true, recurses := true, apart := false, narrowed := true }
def FnSubuniversesUptoSaid : Prop := fnSubuniversesUptoRow.holds Try.pinned (OpenSpec.upto fnSubuniversesSpec)

/-- 'laws.FnGenerators', WHERE WHAT IT READS IS OF BULK AT MOST 1048576: true; the input reads as it did. -/
def fnGeneratorsUptoRow : OpenClaim := { program := "ytgjmaofgokgdiaa", sum := "13be896018e72c7361336fcb9988ee80811cd0d940c22ee43c099139c8c1dc2e", func := "loop.example/g01078/laws.FnGenerators", spec := "fnGenerators", inPlace := ["internal/reflectlite.ValueOf", "internal/reflectlite.Swapper", "(internal/reflectlite.Value).Len"], unfollowed := true, recurses := true, apart := false, narrowed := true }
def FnGeneratorsUptoSaid : Prop := fnGeneratorsUptoRow.holds Try.pinned (OpenSpec.upto fnGeneratorsSpec)

/-- 'laws.FnHoms', WHERE WHAT IT READS IS OF BULK AT MOST 1048576: true; the input reads as it did. -/
def fnHomsUptoRow : OpenClaim := { program := "ytgjmaofgokgdiaa", sum := "13be896018e72c7361336fcb9988ee80811cd0d940c22ee43c099139c8c1dc2e", func := "loop.example/g01078/laws.FnHoms", spec := "fnHoms", recurses := true, apart := false, narrowed := true }
def FnHomsUptoSaid : Prop := fnHomsUptoRow.holds Try.pinned (OpenSpec.upto fnHomsSpec)

/-- 'laws.FnIdentities', WHERE WHAT IT READS IS OF BULK AT MOST 1048576: true; the input reads as it did. -/
def fnIdentitiesUptoRow : OpenClaim := { program := "ytgjmaofgokgdiaa", sum := "13be896018e72c7361336fcb9988ee80811cd0d940c22ee43c099139c8c1dc2e", func := "loop.example/g01078/laws.FnIdentities", spec := "fnIdentities", recurses := true, apart := false, narrowed := true }
def FnIdentitiesUptoSaid : Prop := fnIdentitiesUptoRow.holds Try.pinned (OpenSpec.upto fnIdentitiesSpec)

/-- 'laws.FnTerms', WHERE WHAT IT READS IS OF BULK AT MOST 1048576: true; the input reads as it did. -/
def fnTermsUptoRow : OpenClaim := { program := "ytgjmaofgokgdiaa", sum := "13be896018e72c7361336fcb9988ee80811cd0d940c22ee43c099139c8c1dc2e", func := "loop.example/g01078/laws.FnTerms", spec := "fnTerms", recurses := true, apart := false, narrowed := true }
def FnTermsUptoSaid : Prop := fnTermsUptoRow.holds Try.pinned (OpenSpec.upto fnTermsSpec)

/-- 'laws.FnPosets', WHERE WHAT IT READS IS OF BULK AT MOST 1048576: true; the input reads as it did. -/
def fnPosetsUptoRow : OpenClaim := { program := "ytgjmaofgokgdiaa", sum := "13be896018e72c7361336fcb9988ee80811cd0d940c22ee43c099139c8c1dc2e", func := "loop.example/g01078/laws.FnPosets", spec := "fnPosets", unfollowed := true, recurses := true, apart := false, narrowed := true }
def FnPosetsUptoSaid : Prop := fnPosetsUptoRow.holds Try.pinned (OpenSpec.upto fnPosetsSpec)

/-- 'laws.FnExactFewestChains', WHERE WHAT IT READS IS OF BULK AT MOST 1048576: true; the input reads as it did. -/
def fnExactFewestChainsUptoRow : OpenClaim := { program := "ytgjmaofgokgdiaa", sum := "13be896018e72c7361336fcb9988ee80811cd0d940c22ee43c099139c8c1dc2e", func := "loop.example/g01078/laws.FnExactFewestChains", spec := "fnExactFewestChains", unfollowed := true, recurses := true, apart := false, narrowed := true }
def FnExactFewestChainsUptoSaid : Prop := fnExactFewestChainsUptoRow.holds Try.pinned (OpenSpec.upto fnExactFewestChainsSpec)

/-- 'laws.FnConditionRows', WHERE WHAT IT READS IS OF BULK AT MOST 1048576: true; the input reads as it did. -/
def fnConditionRowsUptoRow : OpenClaim := { program := "ytgjmaofgokgdiaa", sum := "13be896018e72c7361336fcb9988ee80811cd0d940c22ee43c099139c8c1dc2e", func := "loop.example/g01078/laws.FnConditionRows", spec := "fnConditionRows", unfollowed := true, recurses := true, apart := false, narrowed := true }
def FnConditionRowsUptoSaid : Prop := fnConditionRowsUptoRow.holds Try.pinned (OpenSpec.upto fnConditionRowsSpec)

/-- 'laws.FnCommuting', WHERE WHAT IT READS IS OF BULK AT MOST 1048576: true; the input reads as it did. -/
def fnCommutingUptoRow : OpenClaim := { program := "ytgjmaofgokgdiaa", sum := "13be896018e72c7361336fcb9988ee80811cd0d940c22ee43c099139c8c1dc2e", func := "loop.example/g01078/laws.FnCommuting", spec := "fnCommuting", apart := false, narrowed := true }
def FnCommutingUptoSaid : Prop := fnCommutingUptoRow.holds Try.pinned (OpenSpec.upto fnCommutingSpec)

/-- 'laws.FnEquivalences', WHERE WHAT IT READS IS OF BULK AT MOST 1048576: true; the input reads as it did. -/
def fnEquivalencesUptoRow : OpenClaim := { program := "ytgjmaofgokgdiaa", sum := "13be896018e72c7361336fcb9988ee80811cd0d940c22ee43c099139c8c1dc2e", func := "loop.example/g01078/laws.FnEquivalences", spec := "fnEquivalences", apart := false, narrowed := true }
def FnEquivalencesUptoSaid : Prop := fnEquivalencesUptoRow.holds Try.pinned (OpenSpec.upto fnEquivalencesSpec)

end Rows
end Go.Proofs.Ytgjmaofgokgdiaa
