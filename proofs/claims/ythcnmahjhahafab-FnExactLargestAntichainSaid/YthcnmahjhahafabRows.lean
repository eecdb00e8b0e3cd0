/-
  No cell of these rows narrows 'for every input' (looked for: loops, veiled, ifaces, maps, wideKeys, modest, calm, conditions, laid).
  DERIVED. THE GIVEN ROWS OF THIS SEAT. 12 by the template 'for every input the law returns true; each argument reads behind the call as it read before'; 0 by the template 'total and deterministic' (their statements: YthcnmahjhahafabTotals.lean).
  GIVEN WITH THE SEED: the statements are not yours to turn. If you find one false, say at which input.
  Laid BY PROGRAM, IN A SANDBOX (cutbox-rows.mjs): the forced cells as the released guide's own fill.sh prints them over the translation 079c66275c4e4c37… (all of the seat's roots in one cut). By AI agents, Wed Nov 11 2026. No macro, syntax, notation, axiom, sorry.
-/
import Derived.Test.YthcnmahjhahafabChecked
import GoSem.Claim
import GoSem.ClaimJoined
import GoSem.ClaimMapViews
import Derived.JoinedTies
import Derived.KernelRfl
namespace Go.Proofs.Ythcnmahjhahafab
/- THE CELL 'sum', in the pinned program and in every row, IS THE sha256 OF THE DUMP (.gsa) THAT YthcnmahjhahafabProg.lean LOADS. Nothing in Lean hashes anything: it is a label: what it is worth is what the hold of that sum in a sandbox is worth. -/
noncomputable def Try.pinned : Pinned := { name := "ythcnmahjhahafab", sum := "079c66275c4e4c375ec554cc9fd22d8d9e5f1428b53c6110f4115550cf63e296", checked := Try.checked }
namespace Rows
def none {H : Type} : Left H := { results := [], args := [] }

/-- 'laws.FnExactCoverPairs': WHATEVER THE INPUT: true; the input reads as it did. -/
def fnExactCoverPairsSpec : ChangeSpec := { name := "fnExactCoverPairs", fn := fun _ => fun
  | [d] => { results := [.lit (.bool true)], args := [d] }
  | _ => none }
def fnExactCoverPairsRow : OpenClaim := { program := "ythcnmahjhahafab", sum := "079c66275c4e4c375ec554cc9fd22d8d9e5f1428b53c6110f4115550cf63e296", func := "loop.example/g01078/laws.FnExactCoverPairs", spec := "fnExactCoverPairs", apart := false }
def FnExactCoverPairsSaid : Prop := fnExactCoverPairsRow.holds Try.pinned (OpenSpec.ofChange fnExactCoverPairsSpec)

/-- ITS FALSE NEIGHBOUR: 'it returns false'. Refute it at one input. -/
def fnExactCoverPairsWrong : ChangeSpec := { name := "fnExactCoverPairs", fn := fun _ => fun
  | [d] => { results := [.lit (.bool false)], args := [d] }
  | _ => none }
def FnExactCoverPairsWrongFalsely : Prop := fnExactCoverPairsRow.holds Try.pinned (OpenSpec.ofChange fnExactCoverPairsWrong)

/-- 'laws.FnExactJoinOf': WHATEVER THE INPUT: true; the input reads as it did. -/
def fnExactJoinOfSpec : ChangeSpec := { name := "fnExactJoinOf", fn := fun _ => fun
  | [d1, d2, d3] => { results := [.lit (.bool true)], args := [d1, d2, d3] }
  | _ => none }
def fnExactJoinOfRow : OpenClaim := { program := "ythcnmahjhahafab", sum := "079c66275c4e4c375ec554cc9fd22d8d9e5f1428b53c6110f4115550cf63e296", func := "loop.example/g01078/laws.FnExactJoinOf", spec := "fnExactJoinOf", unfollowed := true, recurses := true, apart := false }
def FnExactJoinOfSaid : Prop := fnExactJoinOfRow.holds Try.pinned (OpenSpec.ofChange fnExactJoinOfSpec)

/-- ITS FALSE NEIGHBOUR: 'it returns false'. Refute it at one input. -/
def fnExactJoinOfWrong : ChangeSpec := { name := "fnExactJoinOf", fn := fun _ => fun
  | [d1, d2, d3] => { results := [.lit (.bool false)], args := [d1, d2, d3] }
  | _ => none }
def FnExactJoinOfWrongFalsely : Prop := fnExactJoinOfRow.holds Try.pinned (OpenSpec.ofChange fnExactJoinOfWrong)

/-- 'laws.FnExactMeetOf': WHATEVER THE INPUT: true; the input reads as it did. -/
def fnExactMeetOfSpec : ChangeSpec := { name := "fnExactMeetOf", fn := fun _ => fun
  | [d1, d2, d3] => { results := [.lit (.bool true)], args := [d1, d2, d3] }
  | _ => none }
def fnExactMeetOfRow : OpenClaim := { program := "ythcnmahjhahafab", sum := "079c66275c4e4c375ec554cc9fd22d8d9e5f1428b53c6110f4115550cf63e296", func := "loop.example/g01078/laws.FnExactMeetOf", spec := "fnExactMeetOf", unfollowed := true, recurses := true, apart := false }
def FnExactMeetOfSaid : Prop := fnExactMeetOfRow.holds Try.pinned (OpenSpec.ofChange fnExactMeetOfSpec)

/-- ITS FALSE NEIGHBOUR: 'it returns false'. Refute it at one input. -/
def fnExactMeetOfWrong : ChangeSpec := { name := "fnExactMeetOf", fn := fun _ => fun
  | [d1, d2, d3] => { results := [.lit (.bool false)], args := [d1, d2, d3] }
  | _ => none }
def FnExactMeetOfWrongFalsely : Prop := fnExactMeetOfRow.holds Try.pinned (OpenSpec.ofChange fnExactMeetOfWrong)

/-- 'laws.FnExactLargestAntichain': WHATEVER THE INPUT: true; the input reads as it did. -/
def fnExactLargestAntichainSpec : ChangeSpec := { name := "fnExactLargestAntichain", fn := fun _ => fun
  | [d] => { results := [.lit (.bool true)], args := [d] }
  | _ => none }
def fnExactLargestAntichainRow : OpenClaim := { program := "ythcnmahjhahafab", sum := "079c66275c4e4c375ec554cc9fd22d8d9e5f1428b53c6110f4115550cf63e296", func := "loop.example/g01078/laws.FnExactLargestAntichain", spec := "fnExactLargestAntichain", apart := false }
def FnExactLargestAntichainSaid : Prop := fnExactLargestAntichainRow.holds Try.pinned (OpenSpec.ofChange fnExactLargestAntichainSpec)

/-- ITS FALSE NEIGHBOUR: 'it returns false'. Refute it at one input. -/
def fnExactLargestAntichainWrong : ChangeSpec := { name := "fnExactLargestAntichain", fn := fun _ => fun
  | [d] => { results := [.lit (.bool false)], args := [d] }
  | _ => none }
def FnExactLargestAntichainWrongFalsely : Prop := fnExactLargestAntichainRow.holds Try.pinned (OpenSpec.ofChange fnExactLargestAntichainWrong)

/-- 'laws.FnExactEndsOf': WHATEVER THE INPUT: true; the input reads as it did. -/
def fnExactEndsOfSpec : ChangeSpec := { name := "fnExactEndsOf", fn := fun _ => fun
  | [d] => { results := [.lit (.bool true)], args := [d] }
  | _ => none }
def fnExactEndsOfRow : OpenClaim := { program := "ythcnmahjhahafab", sum := "079c66275c4e4c375ec554cc9fd22d8d9e5f1428b53c6110f4115550cf63e296", func := "loop.example/g01078/laws.FnExactEndsOf", spec := "fnExactEndsOf", unfollowed := true, recurses := true, apart := false }
def FnExactEndsOfSaid : Prop := fnExactEndsOfRow.holds Try.pinned (OpenSpec.ofChange fnExactEndsOfSpec)

/-- ITS FALSE NEIGHBOUR: 'it returns false'. Refute it at one input. -/
def fnExactEndsOfWrong : ChangeSpec := { name := "fnExactEndsOf", fn := fun _ => fun
  | [d] => { results := [.lit (.bool false)], args := [d] }
  | _ => none }
def FnExactEndsOfWrongFalsely : Prop := fnExactEndsOfRow.holds Try.pinned (OpenSpec.ofChange fnExactEndsOfWrong)

/-- 'laws.FnExactRenameElements': WHATEVER THE INPUT: true; the input reads as it did. -/
def fnExactRenameElementsSpec : ChangeSpec := { name := "fnExactRenameElements", fn := fun _ => fun
  | [d1, d2] => { results := [.lit (.bool true)], args := [d1, d2] }
  | _ => none }
def fnExactRenameElementsRow : OpenClaim := { program := "ythcnmahjhahafab", sum := "079c66275c4e4c375ec554cc9fd22d8d9e5f1428b53c6110f4115550cf63e296", func := "loop.example/g01078/laws.FnExactRenameElements", spec := "fnExactRenameElements", apart := false }
def FnExactRenameElementsSaid : Prop := fnExactRenameElementsRow.holds Try.pinned (OpenSpec.ofChange fnExactRenameElementsSpec)

/-- ITS FALSE NEIGHBOUR: 'it returns false'. Refute it at one input. -/
def fnExactRenameElementsWrong : ChangeSpec := { name := "fnExactRenameElements", fn := fun _ => fun
  | [d1, d2] => { results := [.lit (.bool false)], args := [d1, d2] }
  | _ => none }
def FnExactRenameElementsWrongFalsely : Prop := fnExactRenameElementsRow.holds Try.pinned (OpenSpec.ofChange fnExactRenameElementsWrong)

/-- 'laws.FnExactJoinAll': WHATEVER THE INPUT: true; the input reads as it did. -/
def fnExactJoinAllSpec : ChangeSpec := { name := "fnExactJoinAll", fn := fun _ => fun
  | [d1, d2] => { results := [.lit (.bool true)], args := [d1, d2] }
  | _ => none }
def fnExactJoinAllRow : OpenClaim := { program := "ythcnmahjhahafab", sum := "079c66275c4e4c375ec554cc9fd22d8d9e5f1428b53c6110f4115550cf63e296", func := "loop.example/g01078/laws.FnExactJoinAll", spec := "fnExactJoinAll", unfollowed := true, recurses := true, apart := false }
def FnExactJoinAllSaid : Prop := fnExactJoinAllRow.holds Try.pinned (OpenSpec.ofChange fnExactJoinAllSpec)

/-- ITS FALSE NEIGHBOUR: 'it returns false'. Refute it at one input. -/
def fnExactJoinAllWrong : ChangeSpec := { name := "fnExactJoinAll", fn := fun _ => fun
  | [d1, d2] => { results := [.lit (.bool false)], args := [d1, d2] }
  | _ => none }
def FnExactJoinAllWrongFalsely : Prop := fnExactJoinAllRow.holds Try.pinned (OpenSpec.ofChange fnExactJoinAllWrong)

/-- 'laws.FnExactMeetAll': WHATEVER THE INPUT: true; the input reads as it did. -/
def fnExactMeetAllSpec : ChangeSpec := { name := "fnExactMeetAll", fn := fun _ => fun
  | [d1, d2] => { results := [.lit (.bool true)], args := [d1, d2] }
  | _ => none }
def fnExactMeetAllRow : OpenClaim := { program := "ythcnmahjhahafab", sum := "079c66275c4e4c375ec554cc9fd22d8d9e5f1428b53c6110f4115550cf63e296", func := "loop.example/g01078/laws.FnExactMeetAll", spec := "fnExactMeetAll", unfollowed := true, recurses := true, apart := false }
def FnExactMeetAllSaid : Prop := fnExactMeetAllRow.holds Try.pinned (OpenSpec.ofChange fnExactMeetAllSpec)

/-- ITS FALSE NEIGHBOUR: 'it returns false'. Refute it at one input. -/
def fnExactMeetAllWrong : ChangeSpec := { name := "fnExactMeetAll", fn := fun _ => fun
  | [d1, d2] => { results := [.lit (.bool false)], args := [d1, d2] }
  | _ => none }
def FnExactMeetAllWrongFalsely : Prop := fnExactMeetAllRow.holds Try.pinned (OpenSpec.ofChange fnExactMeetAllWrong)

/-- 'laws.FnExactIntervalOf': WHATEVER THE INPUT: true; the input reads as it did. -/
def fnExactIntervalOfSpec : ChangeSpec := { name := "fnExactIntervalOf", fn := fun _ => fun
  | [d1, d2, d3] => { results := [.lit (.bool true)], args := [d1, d2, d3] }
  | _ => none }
def fnExactIntervalOfRow : OpenClaim := { program := "ythcnmahjhahafab", sum := "079c66275c4e4c375ec554cc9fd22d8d9e5f1428b53c6110f4115550cf63e296", func := "loop.example/g01078/laws.FnExactIntervalOf", spec := "fnExactIntervalOf", unfollowed := true, recurses := true, apart := false }
def FnExactIntervalOfSaid : Prop := fnExactIntervalOfRow.holds Try.pinned (OpenSpec.ofChange fnExactIntervalOfSpec)

/-- ITS FALSE NEIGHBOUR: 'it returns false'. Refute it at one input. -/
def fnExactIntervalOfWrong : ChangeSpec := { name := "fnExactIntervalOf", fn := fun _ => fun
  | [d1, d2, d3] => { results := [.lit (.bool false)], args := [d1, d2, d3] }
  | _ => none }
def FnExactIntervalOfWrongFalsely : Prop := fnExactIntervalOfRow.holds Try.pinned (OpenSpec.ofChange fnExactIntervalOfWrong)

/-- 'laws.FnExactFewestChains': WHATEVER THE INPUT: true; the input reads as it did. -/
def fnExactFewestChainsSpec : ChangeSpec := { name := "fnExactFewestChains", fn := fun _ => fun
  | [d] => { results := [.lit (.bool true)], args := [d] }
  | _ => none }
def fnExactFewestChainsRow : OpenClaim := { program := "ythcnmahjhahafab", sum := "079c66275c4e4c375ec554cc9fd22d8d9e5f1428b53c6110f4115550cf63e296", func := "loop.example/g01078/laws.FnExactFewestChains", spec := "fnExactFewestChains", unfollowed := true, recurses := true, apart := false }
def FnExactFewestChainsSaid : Prop := fnExactFewestChainsRow.holds Try.pinned (OpenSpec.ofChange fnExactFewestChainsSpec)

/-- ITS FALSE NEIGHBOUR: 'it returns false'. Refute it at one input. -/
def fnExactFewestChainsWrong : ChangeSpec := { name := "fnExactFewestChains", fn := fun _ => fun
  | [d] => { results := [.lit (.bool false)], args := [d] }
  | _ => none }
def FnExactFewestChainsWrongFalsely : Prop := fnExactFewestChainsRow.holds Try.pinned (OpenSpec.ofChange fnExactFewestChainsWrong)

/-- 'laws.FnExactJoinIrreducibles': WHATEVER THE INPUT: true; the input reads as it did. -/
def fnExactJoinIrreduciblesSpec : ChangeSpec := { name := "fnExactJoinIrreducibles", fn := fun _ => fun
  | [d] => { results := [.lit (.bool true)], args := [d] }
  | _ => none }
def fnExactJoinIrreduciblesRow : OpenClaim := { program := "ythcnmahjhahafab", sum := "079c66275c4e4c375ec554cc9fd22d8d9e5f1428b53c6110f4115550cf63e296", func := "loop.example/g01078/laws.FnExactJoinIrreducibles", spec := "fnExactJoinIrreducibles", unfollowed := true, recurses := true, apart := false }
def FnExactJoinIrreduciblesSaid : Prop := fnExactJoinIrreduciblesRow.holds Try.pinned (OpenSpec.ofChange fnExactJoinIrreduciblesSpec)

/-- ITS FALSE NEIGHBOUR: 'it returns false'. Refute it at one input. -/
def fnExactJoinIrreduciblesWrong : ChangeSpec := { name := "fnExactJoinIrreducibles", fn := fun _ => fun
  | [d] => { results := [.lit (.bool false)], args := [d] }
  | _ => none }
def FnExactJoinIrreduciblesWrongFalsely : Prop := fnExactJoinIrreduciblesRow.holds Try.pinned (OpenSpec.ofChange fnExactJoinIrreduciblesWrong)

/-- 'laws.FnExactMeetIrreducibles': WHATEVER THE INPUT: true; the input reads as it did. -/
def fnExactMeetIrreduciblesSpec : ChangeSpec := { name := "fnExactMeetIrreducibles", fn := fun _ => fun
  | [d] => { results := [.lit (.bool true)], args := [d] }
  | _ => none }
def fnExactMeetIrreduciblesRow : OpenClaim := { program := "ythcnmahjhahafab", sum := "079c66275c4e4c375ec554cc9fd22d8d9e5f1428b53c6110f4115550cf63e296", func := "loop.example/g01078/laws.FnExactMeetIrreducibles", spec := "fnExactMeetIrreducibles", unfollowed := true, recurses := true, apart := false }
def FnExactMeetIrreduciblesSaid : Prop := fnExactMeetIrreduciblesRow.holds Try.pinned (OpenSpec.ofChange fnExactMeetIrreduciblesSpec)

/-- ITS FALSE NEIGHBOUR: 'it returns false'. Refute it at one input. -/
def fnExactMeetIrreduciblesWrong : ChangeSpec := { name := "fnExactMeetIrreducibles", fn := fun _ => fun
  | [d] => { results := [.lit (.bool false)], args := [d] }
  | _ => none }
def FnExactMeetIrreduciblesWrongFalsely : Prop := fnExactMeetIrreduciblesRow.holds Try.pinned (OpenSpec.ofChange fnExactMeetIrreduciblesWrong)

/- THE SECOND FORM. 'bulk': how many values and letters a reading holds, each counted each time it is reached (what is shared counts as often as it is met; a slice's spare places count too). A statement '..UptoSaid' is the law's where the arguments, and the package variables that the reading takes, are together of bulk at most 1048576: NARROWER than '..Said'. Prove '..Said' where nothing that the law and all that it calls make is longer than what came in: it says more and counts as full. Else prove '..UptoSaid'. A law counts once. -/
mutual
def uptoBulk {H : Type} : DataW H → Nat
  | .lit (.string bytes) => bytes.length + 1
  | .lit _ => 1
  | .nil => 1
  | .ptr d => uptoBulk d + 1
  | .slice elems spare => uptoBulkAll elems + uptoBulkAll spare + 1
  | .agg parts => uptoBulkAll parts + 1
  | .iface _ d => uptoBulk d + 1
  | .map entries => uptoBulkEntries entries + 1
  | .held _ => 1
def uptoBulkAll {H : Type} : List (DataW H) → Nat
  | [] => 0
  | d :: r => uptoBulk d + uptoBulkAll r
def uptoBulkEntries {H : Type} : List (Lit × DataW H) → Nat
  | [] => 0
  | x :: r => uptoBulkEntry x + uptoBulkEntries r
def uptoBulkEntry {H : Type} : Lit × DataW H → Nat
  | (.string bytes, d) => bytes.length + uptoBulk d + 1
  | (_, d) => uptoBulk d + 1
 end
def uptoSmall : (H : Type) → List (DataW H) → Bool := fun _ ds => decide (uptoBulkAll ds ≤ 1048576)
def OpenSpec.upto (s : _root_.Go.ChangeSpec) : _root_.Go.OpenSpec := { _root_.Go.OpenSpec.ofChange s with cond := some uptoSmall }

/-- 'laws.FnExactCoverPairs', WHERE WHAT IT READS IS OF BULK AT MOST 1048576: true; the input reads as it did. -/
def fnExactCoverPairsUptoRow : OpenClaim := { program := "ythcnmahjhahafab", sum := "079c66275c4e4c375ec554cc9fd22d8d9e5f1428b53c6110f4115550cf63e296", func := "loop.example/g01078/laws.FnExactCoverPairs", spec := "fnExactCoverPairs", apart := false, narrowed := true }
def FnExactCoverPairsUptoSaid : Prop := fnExactCoverPairsUptoRow.holds Try.pinned (OpenSpec.upto fnExactCoverPairsSpec)

/-- 'laws.FnExactJoinOf', WHERE WHAT IT READS IS OF BULK AT MOST 1048576: true; the input reads as it did. -/
def fnExactJoinOfUptoRow : OpenClaim := { program := "ythcnmahjhahafab", sum := "079c66275c4e4c375ec554cc9fd22d8d9e5f1428b53c6110f4115550cf63e296", func := "loop.example/g01078/laws.FnExactJoinOf", spec := "fnExactJoinOf", unfollowed := true, recurses := true, apart := false, narrowed := true }
def FnExactJoinOfUptoSaid : Prop := fnExactJoinOfUptoRow.holds Try.pinned (OpenSpec.upto fnExactJoinOfSpec)

/-- 'laws.FnExactMeetOf', WHERE WHAT IT READS IS OF BULK AT MOST 1048576: true; the input reads as it did. -/
def fnExactMeetOfUptoRow : OpenClaim := { program := "ythcnmahjhahafab", sum := "079c66275c4e4c375ec554cc9fd22d8d9e5f1428b53c6110f4115550cf63e296", func := "loop.example/g01078/laws.FnExactMeetOf", spec := "fnExactMeetOf", unfollowed := true, recurses := true, apart := false, narrowed := true }
def FnExactMeetOfUptoSaid : Prop := fnExactMeetOfUptoRow.holds Try.pinned (OpenSpec.upto fnExactMeetOfSpec)

/-- 'laws.FnExactLargestAntichain', WHERE WHAT IT READS IS OF BULK AT MOST 1048576: true; the input reads as it did. -/
def fnExactLargestAntichainUptoRow : OpenClaim := { program := "ythcnmahjhahafab", sum := "079c66275c4e4c375ec554cc9fd22d8d9e5f1428b53c6110f4115550cf63e296", func := "loop.example/g01078/laws.FnExactLargestAntichain", spec := "fnExactLargestAntichain", apart := false, narrowed := true }
def FnExactLargestAntichainUptoSaid : Prop := fnExactLargestAntichainUptoRow.holds Try.pinned (OpenSpec.upto fnExactLargestAntichainSpec)

/-- 'laws.FnExactEndsOf', WHERE WHAT IT READS IS OF BULK AT MOST 1048576: true; the input reads as it did. -/
def fnExactEndsOfUptoRow : OpenClaim := { program := "ythcnmahjhahafab", sum := "079c66275c4e4c375ec554cc9fd22d8d9e5f1428b53c6110f4115550cf63e296", func := "loop.example/g01078/laws.FnExactEndsOf", spec := "fnExactEndsOf", unfollowed := true, recurses := true, apart := false, narrowed := true }
def FnExactEndsOfUptoSaid : Prop := fnExactEndsOfUptoRow.holds Try.pinned (OpenSpec.upto fnExactEndsOfSpec)

/-- 'laws.FnExactRenameElements', WHERE WHAT IT READS IS OF BULK AT MOST 1048576: true; the input reads as it did. -/
def fnExactRenameElementsUptoRow : OpenClaim := { program := "ythcnmahjhahafab", sum := "079c66275c4e4c375ec554cc9fd22d8d9e5f1428b53c6110f4115550cf63e296", func := "loop.example/g01078/laws.FnExactRenameElements", spec := "fnExactRenameElements", apart := false, narrowed := true }
def FnExactRenameElementsUptoSaid : Prop := fnExactRenameElementsUptoRow.holds Try.pinned (OpenSpec.upto fnExactRenameElementsSpec)

/-- 'laws.FnExactJoinAll', WHERE WHAT IT READS IS OF BULK AT MOST 1048576: true; the input reads as it did. -/
def fnExactJoinAllUptoRow : OpenClaim := { program := "ythcnmahjhahafab", sum := "079c66275c4e4c375ec554cc9fd22d8d9e5f1428b53c6110f4115550cf63e296", func := "loop.example/g01078/laws.FnExactJoinAll", spec := "fnExactJoinAll", unfollowed := true, recurses := true, apart := false, narrowed := true }
def FnExactJoinAllUptoSaid : Prop := fnExactJoinAllUptoRow.holds Try.pinned (OpenSpec.upto fnExactJoinAllSpec)

/-- 'laws.FnExactMeetAll', WHERE WHAT IT READS IS OF BULK AT MOST 1048576: true; the input reads as it did. -/
def fnExactMeetAllUptoRow : OpenClaim := { program := "ythcnmahjhahafab", sum := "079c66275c4e4c375ec554cc9fd22d8d9e5f1428b53c6110f4115550cf63e296", func := "loop.example/g01078/laws.FnExactMeetAll", spec := "fnExactMeetAll", unfollowed := true, recurses := true, apart := false, narrowed := true }
def FnExactMeetAllUptoSaid : Prop := fnExactMeetAllUptoRow.holds Try.pinned (OpenSpec.upto fnExactMeetAllSpec)

/-- 'laws.FnExactIntervalOf', WHERE WHAT IT READS IS OF BULK AT MOST 1048576: true; the input reads as it did. -/
def fnExactIntervalOfUptoRow : OpenClaim := { program := "ythcnmahjhahafab", sum := "079c66275c4e4c375ec554cc9fd22d8d9e5f1428b53c6110f4115550cf63e296", func := "loop.example/g01078/laws.FnExactIntervalOf", spec := "fnExactIntervalOf", unfollowed := true, recurses := true, apart := false, narrowed := true }
def FnExactIntervalOfUptoSaid : Prop := fnExactIntervalOfUptoRow.holds Try.pinned (OpenSpec.upto fnExactIntervalOfSpec)

/-- 'laws.FnExactFewestChains', WHERE WHAT IT READS IS OF BULK AT MOST 1048576: true; the input reads as it did. -/
def fnExactFewestChainsUptoRow : OpenClaim := { program := "ythcnmahjhahafab", sum := "079c66275c4e4c375ec554cc9fd22d8d9e5f1428b53c6110f4115550cf63e296", func := "loop.example/g01078/laws.FnExactFewestChains", spec := "fnExactFewestChains", unfollowed := true, recurses := true, apart := false, narrowed := true }
def FnExactFewestChainsUptoSaid : Prop := fnExactFewestChainsUptoRow.holds Try.pinned (OpenSpec.upto fnExactFewestChainsSpec)

/-- 'laws.FnExactJoinIrreducibles', WHERE WHAT IT READS IS OF BULK AT MOST 1048576: true; the input reads as it did. -/
def fnExactJoinIrreduciblesUptoRow : OpenClaim := { program := "ythcnmahjhahafab", sum := "079c66275c4e4c375ec554cc9fd22d8d9e5f1428b53c6110f4115550cf63e296", func := "loop.example/g01078/laws.FnExactJoinIrreducibles", spec := "fnExactJoinIrreducibles", unfollowed := true, recurses := true, apart := false, narrowed := true }
def FnExactJoinIrreduciblesUptoSaid : Prop := fnExactJoinIrreduciblesUptoRow.holds Try.pinned (OpenSpec.upto fnExactJoinIrreduciblesSpec)

/-- 'laws.FnExactMeetIrreducibles', WHERE WHAT IT READS IS OF BULK AT MOST 1048576: true; the input reads as it did. -/
def fnExactMeetIrreduciblesUptoRow : OpenClaim := { program := "ythcnmahjhahafab", sum := "079c66275c4e4c375ec554cc9fd22d8d9e5f1428b53c6110f4115550cf63e296", func := "loop.example/g01078/laws.FnExactMeetIrreducibles", spec := "fnExactMeetIrreducibles", unfollowed := true, recurses := true, apart := false, narrowed := true }
def FnExactMeetIrreduciblesUptoSaid : Prop := fnExactMeetIrreduciblesUptoRow.holds Try.pinned (OpenSpec.upto fnExactMeetIrreduciblesSpec)

end Rows
end Go.Proofs.Ythcnmahjhahafab
