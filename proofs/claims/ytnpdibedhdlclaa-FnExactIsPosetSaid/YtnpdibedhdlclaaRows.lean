/-
  No cell of these rows narrows 'for every input' (looked for: loops, veiled, ifaces, maps, wideKeys, modest, calm, conditions, laid).
  DERIVED. THE GIVEN ROWS OF THIS SEAT. 6 by the template 'for every input the law returns true; each argument reads behind the call as it read before'; 0 by the template 'total and deterministic' (their statements: YtnpdibedhdlclaaTotals.lean).
  GIVEN WITH THE SEED: the statements are not yours to turn. If you find one false, say at which input.
  Laid BY PROGRAM, IN A SANDBOX (cutbox-rows.mjs): the forced cells as the released guide's own fill.sh prints them over the translation dbfc77193b12f9f9… (all of the seat's roots in one cut). By AI agents, Wed Nov 11 2026. No macro, syntax, notation, axiom, sorry.
-/
import Derived.Test.YtnpdibedhdlclaaChecked
import GoSem.Claim
import GoSem.ClaimJoined
import GoSem.ClaimMapViews
import Derived.JoinedTies
import Derived.KernelRfl
namespace Go.Proofs.Ytnpdibedhdlclaa
/- THE CELL 'sum', in the pinned program and in every row, IS THE sha256 OF THE DUMP (.gsa) THAT YtnpdibedhdlclaaProg.lean LOADS. Nothing in Lean hashes anything: it is a label: what it is worth is what the hold of that sum in a sandbox is worth. -/
noncomputable def Try.pinned : Pinned := { name := "ytnpdibedhdlclaa", sum := "dbfc77193b12f9f9f785edb15959ccc270b0b1c3e7d6477a9e8b8758727b5974", checked := Try.checked }
namespace Rows
def none {H : Type} : Left H := { results := [], args := [] }

/-- 'laws.FnExactIsPoset': WHATEVER THE INPUT: true; the input reads as it did. -/
def fnExactIsPosetSpec : ChangeSpec := { name := "fnExactIsPoset", fn := fun _ => fun
  | [d] => { results := [.lit (.bool true)], args := [d] }
  | _ => none }
def fnExactIsPosetRow : OpenClaim := { program := "ytnpdibedhdlclaa", sum := "dbfc77193b12f9f9f785edb15959ccc270b0b1c3e7d6477a9e8b8758727b5974", func := "loop.example/g01078/laws.FnExactIsPoset", spec := "fnExactIsPoset", apart := false }
def FnExactIsPosetSaid : Prop := fnExactIsPosetRow.holds Try.pinned (OpenSpec.ofChange fnExactIsPosetSpec)

/-- ITS FALSE NEIGHBOUR: 'it returns false'. Refute it at one input. -/
def fnExactIsPosetWrong : ChangeSpec := { name := "fnExactIsPoset", fn := fun _ => fun
  | [d] => { results := [.lit (.bool false)], args := [d] }
  | _ => none }
def FnExactIsPosetWrongFalsely : Prop := fnExactIsPosetRow.holds Try.pinned (OpenSpec.ofChange fnExactIsPosetWrong)

/-- 'laws.FnExactIsAtMost': WHATEVER THE INPUT: true; the input reads as it did. -/
def fnExactIsAtMostSpec : ChangeSpec := { name := "fnExactIsAtMost", fn := fun _ => fun
  | [d1, d2, d3] => { results := [.lit (.bool true)], args := [d1, d2, d3] }
  | _ => none }
def fnExactIsAtMostRow : OpenClaim := { program := "ytnpdibedhdlclaa", sum := "dbfc77193b12f9f9f785edb15959ccc270b0b1c3e7d6477a9e8b8758727b5974", func := "loop.example/g01078/laws.FnExactIsAtMost", spec := "fnExactIsAtMost", apart := false }
def FnExactIsAtMostSaid : Prop := fnExactIsAtMostRow.holds Try.pinned (OpenSpec.ofChange fnExactIsAtMostSpec)

/-- ITS FALSE NEIGHBOUR: 'it returns false'. Refute it at one input. -/
def fnExactIsAtMostWrong : ChangeSpec := { name := "fnExactIsAtMost", fn := fun _ => fun
  | [d1, d2, d3] => { results := [.lit (.bool false)], args := [d1, d2, d3] }
  | _ => none }
def FnExactIsAtMostWrongFalsely : Prop := fnExactIsAtMostRow.holds Try.pinned (OpenSpec.ofChange fnExactIsAtMostWrong)

/-- 'laws.FnExactCountExtensions': WHATEVER THE INPUT: true; the input reads as it did. -/
def fnExactCountExtensionsSpec : ChangeSpec := { name := "fnExactCountExtensions", fn := fun _ => fun
  | [d] => { results := [.lit (.bool true)], args := [d] }
  | _ => none }
def fnExactCountExtensionsRow : OpenClaim := { program := "ytnpdibedhdlclaa", sum := "dbfc77193b12f9f9f785edb15959ccc270b0b1c3e7d6477a9e8b8758727b5974", func := "loop.example/g01078/laws.FnExactCountExtensions", spec := "fnExactCountExtensions", unfollowed := true, recurses := true, apart := false }
def FnExactCountExtensionsSaid : Prop := fnExactCountExtensionsRow.holds Try.pinned (OpenSpec.ofChange fnExactCountExtensionsSpec)

/-- ITS FALSE NEIGHBOUR: 'it returns false'. Refute it at one input. -/
def fnExactCountExtensionsWrong : ChangeSpec := { name := "fnExactCountExtensions", fn := fun _ => fun
  | [d] => { results := [.lit (.bool false)], args := [d] }
  | _ => none }
def FnExactCountExtensionsWrongFalsely : Prop := fnExactCountExtensionsRow.holds Try.pinned (OpenSpec.ofChange fnExactCountExtensionsWrong)

/-- 'laws.FnExactMinimalElements': WHATEVER THE INPUT: true; the input reads as it did. -/
def fnExactMinimalElementsSpec : ChangeSpec := { name := "fnExactMinimalElements", fn := fun _ => fun
  | [d] => { results := [.lit (.bool true)], args := [d] }
  | _ => none }
def fnExactMinimalElementsRow : OpenClaim := { program := "ytnpdibedhdlclaa", sum := "dbfc77193b12f9f9f785edb15959ccc270b0b1c3e7d6477a9e8b8758727b5974", func := "loop.example/g01078/laws.FnExactMinimalElements", spec := "fnExactMinimalElements", unfollowed := true, recurses := true, apart := false }
def FnExactMinimalElementsSaid : Prop := fnExactMinimalElementsRow.holds Try.pinned (OpenSpec.ofChange fnExactMinimalElementsSpec)

/-- ITS FALSE NEIGHBOUR: 'it returns false'. Refute it at one input. -/
def fnExactMinimalElementsWrong : ChangeSpec := { name := "fnExactMinimalElements", fn := fun _ => fun
  | [d] => { results := [.lit (.bool false)], args := [d] }
  | _ => none }
def FnExactMinimalElementsWrongFalsely : Prop := fnExactMinimalElementsRow.holds Try.pinned (OpenSpec.ofChange fnExactMinimalElementsWrong)

/-- 'laws.FnExactMaximalElements': WHATEVER THE INPUT: true; the input reads as it did. -/
def fnExactMaximalElementsSpec : ChangeSpec := { name := "fnExactMaximalElements", fn := fun _ => fun
  | [d] => { results := [.lit (.bool true)], args := [d] }
  | _ => none }
def fnExactMaximalElementsRow : OpenClaim := { program := "ytnpdibedhdlclaa", sum := "dbfc77193b12f9f9f785edb15959ccc270b0b1c3e7d6477a9e8b8758727b5974", func := "loop.example/g01078/laws.FnExactMaximalElements", spec := "fnExactMaximalElements", unfollowed := true, recurses := true, apart := false }
def FnExactMaximalElementsSaid : Prop := fnExactMaximalElementsRow.holds Try.pinned (OpenSpec.ofChange fnExactMaximalElementsSpec)

/-- ITS FALSE NEIGHBOUR: 'it returns false'. Refute it at one input. -/
def fnExactMaximalElementsWrong : ChangeSpec := { name := "fnExactMaximalElements", fn := fun _ => fun
  | [d] => { results := [.lit (.bool false)], args := [d] }
  | _ => none }
def FnExactMaximalElementsWrongFalsely : Prop := fnExactMaximalElementsRow.holds Try.pinned (OpenSpec.ofChange fnExactMaximalElementsWrong)

/-- 'laws.FnExactHeightsOf': WHATEVER THE INPUT: true; the input reads as it did. -/
def fnExactHeightsOfSpec : ChangeSpec := { name := "fnExactHeightsOf", fn := fun _ => fun
  | [d] => { results := [.lit (.bool true)], args := [d] }
  | _ => none }
def fnExactHeightsOfRow : OpenClaim := { program := "ytnpdibedhdlclaa", sum := "dbfc77193b12f9f9f785edb15959ccc270b0b1c3e7d6477a9e8b8758727b5974", func := "loop.example/g01078/laws.FnExactHeightsOf", spec := "fnExactHeightsOf", recurses := true, apart := false }
def FnExactHeightsOfSaid : Prop := fnExactHeightsOfRow.holds Try.pinned (OpenSpec.ofChange fnExactHeightsOfSpec)

/-- ITS FALSE NEIGHBOUR: 'it returns false'. Refute it at one input. -/
def fnExactHeightsOfWrong : ChangeSpec := { name := "fnExactHeightsOf", fn := fun _ => fun
  | [d] => { results := [.lit (.bool false)], args := [d] }
  | _ => none }
def FnExactHeightsOfWrongFalsely : Prop := fnExactHeightsOfRow.holds Try.pinned (OpenSpec.ofChange fnExactHeightsOfWrong)

/- THE SECOND FORM. 'bulk': how many values and letters a reading holds, each counted each time it is reached (what is shared counts as often as it is met; a slice's spare places count too). A statement '..UptoSaid' is the law's where the arguments, and the package variables that the reading takes, are together of bulk at most 1048576: NARROWER than '..Said'. Prove '..Said' where nothing that the law and all that it calls make is longer than what came in: it says more and counts as full. Else prove '..UptoSaid'. A law counts once. -/
mutual
def uptoBulk {H : Type} : DataW H → Nat
  | .lit (.string bytes) => bytes.length + 1
  | .lit _ => 1
  | .nil => 1
  | .ptr d => uptoBulk d + 1
  | .slice elems spare => uptoBulkAll elems + uptoBulkAll spare + 1
  | .agg parts => uptoBulkAll parts + 1
  | .iface _ d => uptoBulk d + 1
  | .map entries => uptoBulkEntries entries + 1
  | .held _ => 1
def uptoBulkAll {H : Type} : List (DataW H) → Nat
  | [] => 0
  | d :: r => uptoBulk d + uptoBulkAll r
def uptoBulkEntries {H : Type} : List (Lit × DataW H) → Nat
  | [] => 0
  | x :: r => uptoBulkEntry x + uptoBulkEntries r
def uptoBulkEntry {H : Type} : Lit × DataW H → Nat
  | (.string bytes, d) => bytes.length + uptoBulk d + 1
  | (_, d) => uptoBulk d + 1
 end
def uptoSmall : (H : Type) → List (DataW H) → Bool := fun _ ds => decide (uptoBulkAll ds ≤ 1048576)
def OpenSpec.upto (s : _root_.Go.ChangeSpec) : _root_.Go.OpenSpec := { _root_.Go.OpenSpec.ofChange s with cond := some uptoSmall }

/-- 'laws.FnExactIsPoset', WHERE WHAT IT READS IS OF BULK AT MOST 1048576: true; the input reads as it did. -/
def fnExactIsPosetUptoRow : OpenClaim := { program := "ytnpdibedhdlclaa", sum := "dbfc77193b12f9f9f785edb15959ccc270b0b1c3e7d6477a9e8b8758727b5974", func := "loop.example/g01078/laws.FnExactIsPoset", spec := "fnExactIsPoset", apart := false, narrowed := true }
def FnExactIsPosetUptoSaid : Prop := fnExactIsPosetUptoRow.holds Try.pinned (OpenSpec.upto fnExactIsPosetSpec)

/-- 'laws.FnExactIsAtMost', WHERE WHAT IT READS IS OF BULK AT MOST 1048576: true; the input reads as it did. -/
def fnExactIsAtMostUptoRow : OpenClaim := { program := "ytnpdibedhdlclaa", sum := "dbfc77193b12f9f9f785edb15959ccc270b0b1c3e7d6477a9e8b8758727b5974", func := "loop.example/g01078/laws.FnExactIsAtMost", spec := "fnExactIsAtMost", apart := false, narrowed := true }
def FnExactIsAtMostUptoSaid : Prop := fnExactIsAtMostUptoRow.holds Try.pinned (OpenSpec.upto fnExactIsAtMostSpec)

/-- 'laws.FnExactCountExtensions', WHERE WHAT IT READS IS OF BULK AT MOST 1048576: true; the input reads as it did. -/
def fnExactCountExtensionsUptoRow : OpenClaim := { program := "ytnpdibedhdlclaa", sum := "dbfc77193b12f9f9f785edb15959ccc270b0b1c3e7d6477a9e8b8758727b5974", func := "loop.example/g01078/laws.FnExactCountExtensions", spec := "fnExactCountExtensions", unfollowed := true, recurses := true, apart := false, narrowed := true }
def FnExactCountExtensionsUptoSaid : Prop := fnExactCountExtensionsUptoRow.holds Try.pinned (OpenSpec.upto fnExactCountExtensionsSpec)

/-- 'laws.FnExactMinimalElements', WHERE WHAT IT READS IS OF BULK AT MOST 1048576: true; the input reads as it did. -/
def fnExactMinimalElementsUptoRow : OpenClaim := { program := "ytnpdibedhdlclaa", sum := "dbfc77193b12f9f9f785edb15959ccc270b0b1c3e7d6477a9e8b8758727b5974", func := "loop.example/g01078/laws.FnExactMinimalElements", spec := "fnExactMinimalElements", unfollowed := true, recurses := true, apart := false, narrowed := true }
def FnExactMinimalElementsUptoSaid : Prop := fnExactMinimalElementsUptoRow.holds Try.pinned (OpenSpec.upto fnExactMinimalElementsSpec)

/-- 'laws.FnExactMaximalElements', WHERE WHAT IT READS IS OF BULK AT MOST 1048576: true; the input reads as it did. -/
def fnExactMaximalElementsUptoRow : OpenClaim := { program := "ytnpdibedhdlclaa", sum := "dbfc77193b12f9f9f785edb15959ccc270b0b1c3e7d6477a9e8b8758727b5974", func := "loop.example/g01078/laws.FnExactMaximalElements", spec := "fnExactMaximalElements", unfollowed := true, recurses := true, apart := false, narrowed := true }
def FnExactMaximalElementsUptoSaid : Prop := fnExactMaximalElementsUptoRow.holds Try.pinned (OpenSpec.upto fnExactMaximalElementsSpec)

/-- 'laws.FnExactHeightsOf', WHERE WHAT IT READS IS OF BULK AT MOST 1048576: true; the input reads as it did. -/
def fnExactHeightsOfUptoRow : OpenClaim := { program := "ytnpdibedhdlclaa", sum := "dbfc77193b12f9f9f785edb15959ccc270b0b1c3e7d6477a9e8b8758727b5974", func := "loop.example/g01078/laws.FnExactHeightsOf", spec := "fnExactHeightsOf", recurses := true, apart := false, narrowed := true }
def FnExactHeightsOfUptoSaid : Prop := fnExactHeightsOfUptoRow.holds Try.pinned (OpenSpec.upto fnExactHeightsOfSpec)

end Rows
end Go.Proofs.Ytnpdibedhdlclaa
