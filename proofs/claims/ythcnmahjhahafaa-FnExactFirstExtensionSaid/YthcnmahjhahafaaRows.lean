/-
  No cell of these rows narrows 'for every input' (looked for: loops, veiled, ifaces, maps, wideKeys, modest, calm, conditions, laid).
  DERIVED. THE GIVEN ROWS OF THIS SEAT. 12 by the template 'for every input the law returns true; each argument reads behind the call as it read before'; 0 by the template 'total and deterministic' (their statements: YthcnmahjhahafaaTotals.lean).
  GIVEN WITH THE SEED: the statements are not yours to turn. If you find one false, say at which input.
  Laid BY PROGRAM, IN A SANDBOX (cutbox-rows.mjs): the forced cells as the released guide's own fill.sh prints them over the translation 7606190982e67c4e… (all of the seat's roots in one cut). By AI agents, Wed Nov 11 2026. No macro, syntax, notation, axiom, sorry.
-/
import Derived.Test.YthcnmahjhahafaaChecked
import GoSem.Claim
import GoSem.ClaimJoined
import GoSem.ClaimMapViews
import Derived.JoinedTies
import Derived.KernelRfl
namespace Go.Proofs.Ythcnmahjhahafaa
/- THE CELL 'sum', in the pinned program and in every row, IS THE sha256 OF THE DUMP (.gsa) THAT YthcnmahjhahafaaProg.lean LOADS. Nothing in Lean hashes anything: it is a label: what it is worth is what the hold of that sum in a sandbox is worth. -/
noncomputable def Try.pinned : Pinned := { name := "ythcnmahjhahafaa", sum := "7606190982e67c4eb18a948d09b7390e76ac88d5e61e06fffc1aacddd208b3cc", checked := Try.checked }
namespace Rows
def none {H : Type} : Left H := { results := [], args := [] }

/-- 'laws.FnExactIsPoset': WHATEVER THE INPUT: true; the input reads as it did. -/
def fnExactIsPosetSpec : ChangeSpec := { name := "fnExactIsPoset", fn := fun _ => fun
  | [d] => { results := [.lit (.bool true)], args := [d] }
  | _ => none }
def fnExactIsPosetRow : OpenClaim := { program := "ythcnmahjhahafaa", sum := "7606190982e67c4eb18a948d09b7390e76ac88d5e61e06fffc1aacddd208b3cc", func := "loop.example/g01078/laws.FnExactIsPoset", spec := "fnExactIsPoset", apart := false }
def FnExactIsPosetSaid : Prop := fnExactIsPosetRow.holds Try.pinned (OpenSpec.ofChange fnExactIsPosetSpec)

/-- ITS FALSE NEIGHBOUR: 'it returns false'. Refute it at one input. -/
def fnExactIsPosetWrong : ChangeSpec := { name := "fnExactIsPoset", fn := fun _ => fun
  | [d] => { results := [.lit (.bool false)], args := [d] }
  | _ => none }
def FnExactIsPosetWrongFalsely : Prop := fnExactIsPosetRow.holds Try.pinned (OpenSpec.ofChange fnExactIsPosetWrong)

/-- 'laws.FnExactIsAtMost': WHATEVER THE INPUT: true; the input reads as it did. -/
def fnExactIsAtMostSpec : ChangeSpec := { name := "fnExactIsAtMost", fn := fun _ => fun
  | [d1, d2, d3] => { results := [.lit (.bool true)], args := [d1, d2, d3] }
  | _ => none }
def fnExactIsAtMostRow : OpenClaim := { program := "ythcnmahjhahafaa", sum := "7606190982e67c4eb18a948d09b7390e76ac88d5e61e06fffc1aacddd208b3cc", func := "loop.example/g01078/laws.FnExactIsAtMost", spec := "fnExactIsAtMost", apart := false }
def FnExactIsAtMostSaid : Prop := fnExactIsAtMostRow.holds Try.pinned (OpenSpec.ofChange fnExactIsAtMostSpec)

/-- ITS FALSE NEIGHBOUR: 'it returns false'. Refute it at one input. -/
def fnExactIsAtMostWrong : ChangeSpec := { name := "fnExactIsAtMost", fn := fun _ => fun
  | [d1, d2, d3] => { results := [.lit (.bool false)], args := [d1, d2, d3] }
  | _ => none }
def FnExactIsAtMostWrongFalsely : Prop := fnExactIsAtMostRow.holds Try.pinned (OpenSpec.ofChange fnExactIsAtMostWrong)

/-- 'laws.FnExactCountExtensions': WHATEVER THE INPUT: true; the input reads as it did. -/
def fnExactCountExtensionsSpec : ChangeSpec := { name := "fnExactCountExtensions", fn := fun _ => fun
  | [d] => { results := [.lit (.bool true)], args := [d] }
  | _ => none }
def fnExactCountExtensionsRow : OpenClaim := { program := "ythcnmahjhahafaa", sum := "7606190982e67c4eb18a948d09b7390e76ac88d5e61e06fffc1aacddd208b3cc", func := "loop.example/g01078/laws.FnExactCountExtensions", spec := "fnExactCountExtensions", unfollowed := true, recurses := true, apart := false }
def FnExactCountExtensionsSaid : Prop := fnExactCountExtensionsRow.holds Try.pinned (OpenSpec.ofChange fnExactCountExtensionsSpec)

/-- ITS FALSE NEIGHBOUR: 'it returns false'. Refute it at one input. -/
def fnExactCountExtensionsWrong : ChangeSpec := { name := "fnExactCountExtensions", fn := fun _ => fun
  | [d] => { results := [.lit (.bool false)], args := [d] }
  | _ => none }
def FnExactCountExtensionsWrongFalsely : Prop := fnExactCountExtensionsRow.holds Try.pinned (OpenSpec.ofChange fnExactCountExtensionsWrong)

/-- 'laws.FnExactMinimalElements': WHATEVER THE INPUT: true; the input reads as it did. -/
def fnExactMinimalElementsSpec : ChangeSpec := { name := "fnExactMinimalElements", fn := fun _ => fun
  | [d] => { results := [.lit (.bool true)], args := [d] }
  | _ => none }
def fnExactMinimalElementsRow : OpenClaim := { program := "ythcnmahjhahafaa", sum := "7606190982e67c4eb18a948d09b7390e76ac88d5e61e06fffc1aacddd208b3cc", func := "loop.example/g01078/laws.FnExactMinimalElements", spec := "fnExactMinimalElements", unfollowed := true, recurses := true, apart := false }
def FnExactMinimalElementsSaid : Prop := fnExactMinimalElementsRow.holds Try.pinned (OpenSpec.ofChange fnExactMinimalElementsSpec)

/-- ITS FALSE NEIGHBOUR: 'it returns false'. Refute it at one input. -/
def fnExactMinimalElementsWrong : ChangeSpec := { name := "fnExactMinimalElements", fn := fun _ => fun
  | [d] => { results := [.lit (.bool false)], args := [d] }
  | _ => none }
def FnExactMinimalElementsWrongFalsely : Prop := fnExactMinimalElementsRow.holds Try.pinned (OpenSpec.ofChange fnExactMinimalElementsWrong)

/-- 'laws.FnExactMaximalElements': WHATEVER THE INPUT: true; the input reads as it did. -/
def fnExactMaximalElementsSpec : ChangeSpec := { name := "fnExactMaximalElements", fn := fun _ => fun
  | [d] => { results := [.lit (.bool true)], args := [d] }
  | _ => none }
def fnExactMaximalElementsRow : OpenClaim := { program := "ythcnmahjhahafaa", sum := "7606190982e67c4eb18a948d09b7390e76ac88d5e61e06fffc1aacddd208b3cc", func := "loop.example/g01078/laws.FnExactMaximalElements", spec := "fnExactMaximalElements", unfollowed := true, recurses := true, apart := false }
def FnExactMaximalElementsSaid : Prop := fnExactMaximalElementsRow.holds Try.pinned (OpenSpec.ofChange fnExactMaximalElementsSpec)

/-- ITS FALSE NEIGHBOUR: 'it returns false'. Refute it at one input. -/
def fnExactMaximalElementsWrong : ChangeSpec := { name := "fnExactMaximalElements", fn := fun _ => fun
  | [d] => { results := [.lit (.bool false)], args := [d] }
  | _ => none }
def FnExactMaximalElementsWrongFalsely : Prop := fnExactMaximalElementsRow.holds Try.pinned (OpenSpec.ofChange fnExactMaximalElementsWrong)

/-- 'laws.FnExactHeightsOf': WHATEVER THE INPUT: true; the input reads as it did. -/
def fnExactHeightsOfSpec : ChangeSpec := { name := "fnExactHeightsOf", fn := fun _ => fun
  | [d] => { results := [.lit (.bool true)], args := [d] }
  | _ => none }
def fnExactHeightsOfRow : OpenClaim := { program := "ythcnmahjhahafaa", sum := "7606190982e67c4eb18a948d09b7390e76ac88d5e61e06fffc1aacddd208b3cc", func := "loop.example/g01078/laws.FnExactHeightsOf", spec := "fnExactHeightsOf", recurses := true, apart := false }
def FnExactHeightsOfSaid : Prop := fnExactHeightsOfRow.holds Try.pinned (OpenSpec.ofChange fnExactHeightsOfSpec)

/-- ITS FALSE NEIGHBOUR: 'it returns false'. Refute it at one input. -/
def fnExactHeightsOfWrong : ChangeSpec := { name := "fnExactHeightsOf", fn := fun _ => fun
  | [d] => { results := [.lit (.bool false)], args := [d] }
  | _ => none }
def FnExactHeightsOfWrongFalsely : Prop := fnExactHeightsOfRow.holds Try.pinned (OpenSpec.ofChange fnExactHeightsOfWrong)

/-- 'laws.FnExactFirstExtension': WHATEVER THE INPUT: true; the input reads as it did. -/
def fnExactFirstExtensionSpec : ChangeSpec := { name := "fnExactFirstExtension", fn := fun _ => fun
  | [d] => { results := [.lit (.bool true)], args := [d] }
  | _ => none }
def fnExactFirstExtensionRow : OpenClaim := { program := "ythcnmahjhahafaa", sum := "7606190982e67c4eb18a948d09b7390e76ac88d5e61e06fffc1aacddd208b3cc", func := "loop.example/g01078/laws.FnExactFirstExtension", spec := "fnExactFirstExtension", unfollowed := true, recurses := true, apart := false }
def FnExactFirstExtensionSaid : Prop := fnExactFirstExtensionRow.holds Try.pinned (OpenSpec.ofChange fnExactFirstExtensionSpec)

/-- ITS FALSE NEIGHBOUR: 'it returns false'. Refute it at one input. -/
def fnExactFirstExtensionWrong : ChangeSpec := { name := "fnExactFirstExtension", fn := fun _ => fun
  | [d] => { results := [.lit (.bool false)], args := [d] }
  | _ => none }
def FnExactFirstExtensionWrongFalsely : Prop := fnExactFirstExtensionRow.holds Try.pinned (OpenSpec.ofChange fnExactFirstExtensionWrong)

/-- 'laws.FnExactDownsetOf': WHATEVER THE INPUT: true; the input reads as it did. -/
def fnExactDownsetOfSpec : ChangeSpec := { name := "fnExactDownsetOf", fn := fun _ => fun
  | [d1, d2] => { results := [.lit (.bool true)], args := [d1, d2] }
  | _ => none }
def fnExactDownsetOfRow : OpenClaim := { program := "ythcnmahjhahafaa", sum := "7606190982e67c4eb18a948d09b7390e76ac88d5e61e06fffc1aacddd208b3cc", func := "loop.example/g01078/laws.FnExactDownsetOf", spec := "fnExactDownsetOf", unfollowed := true, recurses := true, apart := false }
def FnExactDownsetOfSaid : Prop := fnExactDownsetOfRow.holds Try.pinned (OpenSpec.ofChange fnExactDownsetOfSpec)

/-- ITS FALSE NEIGHBOUR: 'it returns false'. Refute it at one input. -/
def fnExactDownsetOfWrong : ChangeSpec := { name := "fnExactDownsetOf", fn := fun _ => fun
  | [d1, d2] => { results := [.lit (.bool false)], args := [d1, d2] }
  | _ => none }
def FnExactDownsetOfWrongFalsely : Prop := fnExactDownsetOfRow.holds Try.pinned (OpenSpec.ofChange fnExactDownsetOfWrong)

/-- 'laws.FnExactDualPoset': WHATEVER THE INPUT: true; the input reads as it did. -/
def fnExactDualPosetSpec : ChangeSpec := { name := "fnExactDualPoset", fn := fun _ => fun
  | [d] => { results := [.lit (.bool true)], args := [d] }
  | _ => none }
def fnExactDualPosetRow : OpenClaim := { program := "ythcnmahjhahafaa", sum := "7606190982e67c4eb18a948d09b7390e76ac88d5e61e06fffc1aacddd208b3cc", func := "loop.example/g01078/laws.FnExactDualPoset", spec := "fnExactDualPoset", apart := false }
def FnExactDualPosetSaid : Prop := fnExactDualPosetRow.holds Try.pinned (OpenSpec.ofChange fnExactDualPosetSpec)

/-- ITS FALSE NEIGHBOUR: 'it returns false'. Refute it at one input. -/
def fnExactDualPosetWrong : ChangeSpec := { name := "fnExactDualPoset", fn := fun _ => fun
  | [d] => { results := [.lit (.bool false)], args := [d] }
  | _ => none }
def FnExactDualPosetWrongFalsely : Prop := fnExactDualPosetRow.holds Try.pinned (OpenSpec.ofChange fnExactDualPosetWrong)

/-- 'laws.FnExactFromCovers': WHATEVER THE INPUT: true; the input reads as it did. -/
def fnExactFromCoversSpec : ChangeSpec := { name := "fnExactFromCovers", fn := fun _ => fun
  | [d1, d2] => { results := [.lit (.bool true)], args := [d1, d2] }
  | _ => none }
def fnExactFromCoversRow : OpenClaim := { program := "ythcnmahjhahafaa", sum := "7606190982e67c4eb18a948d09b7390e76ac88d5e61e06fffc1aacddd208b3cc", func := "loop.example/g01078/laws.FnExactFromCovers", spec := "fnExactFromCovers", apart := false }
def FnExactFromCoversSaid : Prop := fnExactFromCoversRow.holds Try.pinned (OpenSpec.ofChange fnExactFromCoversSpec)

/-- ITS FALSE NEIGHBOUR: 'it returns false'. Refute it at one input. -/
def fnExactFromCoversWrong : ChangeSpec := { name := "fnExactFromCovers", fn := fun _ => fun
  | [d1, d2] => { results := [.lit (.bool false)], args := [d1, d2] }
  | _ => none }
def FnExactFromCoversWrongFalsely : Prop := fnExactFromCoversRow.holds Try.pinned (OpenSpec.ofChange fnExactFromCoversWrong)

/-- 'laws.FnExactIsLattice': WHATEVER THE INPUT: true; the input reads as it did. -/
def fnExactIsLatticeSpec : ChangeSpec := { name := "fnExactIsLattice", fn := fun _ => fun
  | [d] => { results := [.lit (.bool true)], args := [d] }
  | _ => none }
def fnExactIsLatticeRow : OpenClaim := { program := "ythcnmahjhahafaa", sum := "7606190982e67c4eb18a948d09b7390e76ac88d5e61e06fffc1aacddd208b3cc", func := "loop.example/g01078/laws.FnExactIsLattice", spec := "fnExactIsLattice", unfollowed := true, recurses := true, apart := false }
def FnExactIsLatticeSaid : Prop := fnExactIsLatticeRow.holds Try.pinned (OpenSpec.ofChange fnExactIsLatticeSpec)

/-- ITS FALSE NEIGHBOUR: 'it returns false'. Refute it at one input. -/
def fnExactIsLatticeWrong : ChangeSpec := { name := "fnExactIsLattice", fn := fun _ => fun
  | [d] => { results := [.lit (.bool false)], args := [d] }
  | _ => none }
def FnExactIsLatticeWrongFalsely : Prop := fnExactIsLatticeRow.holds Try.pinned (OpenSpec.ofChange fnExactIsLatticeWrong)

/-- 'laws.FnExactLongestChain': WHATEVER THE INPUT: true; the input reads as it did. -/
def fnExactLongestChainSpec : ChangeSpec := { name := "fnExactLongestChain", fn := fun _ => fun
  | [d] => { results := [.lit (.bool true)], args := [d] }
  | _ => none }
def fnExactLongestChainRow : OpenClaim := { program := "ythcnmahjhahafaa", sum := "7606190982e67c4eb18a948d09b7390e76ac88d5e61e06fffc1aacddd208b3cc", func := "loop.example/g01078/laws.FnExactLongestChain", spec := "fnExactLongestChain", recurses := true, apart := false }
def FnExactLongestChainSaid : Prop := fnExactLongestChainRow.holds Try.pinned (OpenSpec.ofChange fnExactLongestChainSpec)

/-- ITS FALSE NEIGHBOUR: 'it returns false'. Refute it at one input. -/
def fnExactLongestChainWrong : ChangeSpec := { name := "fnExactLongestChain", fn := fun _ => fun
  | [d] => { results := [.lit (.bool false)], args := [d] }
  | _ => none }
def FnExactLongestChainWrongFalsely : Prop := fnExactLongestChainRow.holds Try.pinned (OpenSpec.ofChange fnExactLongestChainWrong)

/- THE SECOND FORM. 'bulk': how many values and letters a reading holds, each counted each time it is reached (what is shared counts as often as it is met; a slice's spare places count too). A statement '..UptoSaid' is the law's where the arguments, and the package variables that the reading takes, are together of bulk at most 1048576: NARROWER than '..Said'. Prove '..Said' where nothing that the law and all that it calls make is longer than what came in: it says more and counts as full. Else prove '..UptoSaid'. A law counts once. -/
mutual
def uptoBulk {H : Type} : DataW H → Nat
  | .lit (.string bytes) => bytes.length + 1
  | .lit _ => 1
  | .nil => 1
  | .ptr d => uptoBulk d + 1
  | .slice elems spare => uptoBulkAll elems + uptoBulkAll spare + 1
  | .agg parts => uptoBulkAll parts + 1
  | .iface _ d => uptoBulk d + 1
  | .map entries => uptoBulkEntries entries + 1
  | .held _ => 1
def uptoBulkAll {H : Type} : List (DataW H) → Nat
  | [] => 0
  | d :: r => uptoBulk d + uptoBulkAll r
def uptoBulkEntries {H : Type} : List (Lit × DataW H) → Nat
  | [] => 0
  | x :: r => uptoBulkEntry x + uptoBulkEntries r
def uptoBulkEntry {H : Type} : Lit × DataW H → Nat
  | (.string bytes, d) => bytes.length + uptoBulk d + 1
  | (_, d) => uptoBulk d + 1
 end
def uptoSmall : (H : Type) → List (DataW H) → Bool := fun _ ds => decide (uptoBulkAll ds ≤ 1048576)
def OpenSpec.upto (s : _root_.Go.ChangeSpec) : _root_.Go.OpenSpec := { _root_.Go.OpenSpec.ofChange s with cond := some uptoSmall }

/-- 'laws.FnExactIsPoset', WHERE WHAT IT READS IS OF BULK AT MOST 1048576: true; the input reads as it did. -/
def fnExactIsPosetUptoRow : OpenClaim := { program := "ythcnmahjhahafaa", sum := "7606190982e67c4eb18a948d09b7390e76ac88d5e61e06fffc1aacddd208b3cc", func := "loop.example/g01078/laws.FnExactIsPoset", spec := "fnExactIsPoset", apart := false, narrowed := true }
def FnExactIsPosetUptoSaid : Prop := fnExactIsPosetUptoRow.holds Try.pinned (OpenSpec.upto fnExactIsPosetSpec)

/-- 'laws.FnExactIsAtMost', WHERE WHAT IT READS IS OF BULK AT MOST 1048576: true; the input reads as it did. -/
def fnExactIsAtMostUptoRow : OpenClaim := { program := "ythcnmahjhahafaa", sum := "7606190982e67c4eb18a948d09b7390e76ac88d5e61e06fffc1aacddd208b3cc", func := "loop.example/g01078/laws.FnExactIsAtMost", spec := "fnExactIsAtMost", apart := false, narrowed := true }
def FnExactIsAtMostUptoSaid : Prop := fnExactIsAtMostUptoRow.holds Try.pinned (OpenSpec.upto fnExactIsAtMostSpec)

/-- 'laws.FnExactCountExtensions', WHERE WHAT IT READS IS OF BULK AT MOST 1048576: true; the input reads as it did. -/
def fnExactCountExtensionsUptoRow : OpenClaim := { program := "ythcnmahjhahafaa", sum := "7606190982e67c4eb18a948d09b7390e76ac88d5e61e06fffc1aacddd208b3cc", func := "loop.example/g01078/laws.FnExactCountExtensions", spec := "fnExactCountExtensions", unfollowed := true, recurses := true, apart := false, narrowed := true }
def FnExactCountExtensionsUptoSaid : Prop := fnExactCountExtensionsUptoRow.holds Try.pinned (OpenSpec.upto fnExactCountExtensionsSpec)

/-- 'laws.FnExactMinimalElements', WHERE WHAT IT READS IS OF BULK AT MOST 1048576: true; the input reads as it did. -/
def fnExactMinimalElementsUptoRow : OpenClaim := { program := "ythcnmahjhahafaa", sum := "7606190982e67c4eb18a948d09b7390e76ac88d5e61e06fffc1aacddd208b3cc", func := "loop.example/g01078/laws.FnExactMinimalElements", spec := "fnExactMinimalElements", unfollowed := true, recurses := true, apart := false, narrowed := true }
def FnExactMinimalElementsUptoSaid : Prop := fnExactMinimalElementsUptoRow.holds Try.pinned (OpenSpec.upto fnExactMinimalElementsSpec)

/-- 'laws.FnExactMaximalElements', WHERE WHAT IT READS IS OF BULK AT MOST 1048576: true; the input reads as it did. -/
def fnExactMaximalElementsUptoRow : OpenClaim := { program := "ythcnmahjhahafaa", sum := "7606190982e67c4eb18a948d09b7390e76ac88d5e61e06fffc1aacddd208b3cc", func := "loop.example/g01078/laws.FnExactMaximalElements", spec := "fnExactMaximalElements", unfollowed := true, recurses := true, apart := false, narrowed := true }
def FnExactMaximalElementsUptoSaid : Prop := fnExactMaximalElementsUptoRow.holds Try.pinned (OpenSpec.upto fnExactMaximalElementsSpec)

/-- 'laws.FnExactHeightsOf', WHERE WHAT IT READS IS OF BULK AT MOST 1048576: true; the input reads as it did. -/
def fnExactHeightsOfUptoRow : OpenClaim := { program := "ythcnmahjhahafaa", sum := "7606190982e67c4eb18a948d09b7390e76ac88d5e61e06fffc1aacddd208b3cc", func := "loop.example/g01078/laws.FnExactHeightsOf", spec := "fnExactHeightsOf", recurses := true, apart := false, narrowed := true }
def FnExactHeightsOfUptoSaid : Prop := fnExactHeightsOfUptoRow.holds Try.pinned (OpenSpec.upto fnExactHeightsOfSpec)

/-- 'laws.FnExactFirstExtension', WHERE WHAT IT READS IS OF BULK AT MOST 1048576: true; the input reads as it did. -/
def fnExactFirstExtensionUptoRow : OpenClaim := { program := "ythcnmahjhahafaa", sum := "7606190982e67c4eb18a948d09b7390e76ac88d5e61e06fffc1aacddd208b3cc", func := "loop.example/g01078/laws.FnExactFirstExtension", spec := "fnExactFirstExtension", unfollowed := true, recurses := true, apart := false, narrowed := true }
def FnExactFirstExtensionUptoSaid : Prop := fnExactFirstExtensionUptoRow.holds Try.pinned (OpenSpec.upto fnExactFirstExtensionSpec)

/-- 'laws.FnExactDownsetOf', WHERE WHAT IT READS IS OF BULK AT MOST 1048576: true; the input reads as it did. -/
def fnExactDownsetOfUptoRow : OpenClaim := { program := "ythcnmahjhahafaa", sum := "7606190982e67c4eb18a948d09b7390e76ac88d5e61e06fffc1aacddd208b3cc", func := "loop.example/g01078/laws.FnExactDownsetOf", spec := "fnExactDownsetOf", unfollowed := true, recurses := true, apart := false, narrowed := true }
def FnExactDownsetOfUptoSaid : Prop := fnExactDownsetOfUptoRow.holds Try.pinned (OpenSpec.upto fnExactDownsetOfSpec)

/-- 'laws.FnExactDualPoset', WHERE WHAT IT READS IS OF BULK AT MOST 1048576: true; the input reads as it did. -/
def fnExactDualPosetUptoRow : OpenClaim := { program := "ythcnmahjhahafaa", sum := "7606190982e67c4eb18a948d09b7390e76ac88d5e61e06fffc1aacddd208b3cc", func := "loop.example/g01078/laws.FnExactDualPoset", spec := "fnExactDualPoset", apart := false, narrowed := true }
def FnExactDualPosetUptoSaid : Prop := fnExactDualPosetUptoRow.holds Try.pinned (OpenSpec.upto fnExactDualPosetSpec)

/-- 'laws.FnExactFromCovers', WHERE WHAT IT READS IS OF BULK AT MOST 1048576: true; the input reads as it did. -/
def fnExactFromCoversUptoRow : OpenClaim := { program := "ythcnmahjhahafaa", sum := "7606190982e67c4eb18a948d09b7390e76ac88d5e61e06fffc1aacddd208b3cc", func := "loop.example/g01078/laws.FnExactFromCovers", spec := "fnExactFromCovers", apart := false, narrowed := true }
def FnExactFromCoversUptoSaid : Prop := fnExactFromCoversUptoRow.holds Try.pinned (OpenSpec.upto fnExactFromCoversSpec)

/-- 'laws.FnExactIsLattice', WHERE WHAT IT READS IS OF BULK AT MOST 1048576: true; the input reads as it did. -/
def fnExactIsLatticeUptoRow : OpenClaim := { program := "ythcnmahjhahafaa", sum := "7606190982e67c4eb18a948d09b7390e76ac88d5e61e06fffc1aacddd208b3cc", func := "loop.example/g01078/laws.FnExactIsLattice", spec := "fnExactIsLattice", unfollowed := true, recurses := true, apart := false, narrowed := true }
def FnExactIsLatticeUptoSaid : Prop := fnExactIsLatticeUptoRow.holds Try.pinned (OpenSpec.upto fnExactIsLatticeSpec)

/-- 'laws.FnExactLongestChain', WHERE WHAT IT READS IS OF BULK AT MOST 1048576: true; the input reads as it did. -/
def fnExactLongestChainUptoRow : OpenClaim := { program := "ythcnmahjhahafaa", sum := "7606190982e67c4eb18a948d09b7390e76ac88d5e61e06fffc1aacddd208b3cc", func := "loop.example/g01078/laws.FnExactLongestChain", spec := "fnExactLongestChain", recurses := true, apart := false, narrowed := true }
def FnExactLongestChainUptoSaid : Prop := fnExactLongestChainUptoRow.holds Try.pinned (OpenSpec.upto fnExactLongestChainSpec)

end Rows
end Go.Proofs.Ythcnmahjhahafaa
