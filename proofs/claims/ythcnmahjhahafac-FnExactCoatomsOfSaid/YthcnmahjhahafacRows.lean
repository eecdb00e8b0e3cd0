/-
  No cell of these rows narrows 'for every input' (looked for: loops, veiled, ifaces, maps, wideKeys, modest, calm, conditions, laid).
  DERIVED. THE GIVEN ROWS OF THIS SEAT. 10 by the template 'for every input the law returns true; each argument reads behind the call as it read before'; 0 by the template 'total and deterministic' (their statements: YthcnmahjhahafacTotals.lean).
  GIVEN WITH THE SEED: the statements are not yours to turn. If you find one false, say at which input.
  Laid BY PROGRAM, IN A SANDBOX (cutbox-rows.mjs): the forced cells as the released guide's own fill.sh prints them over the translation 7ed254a2aa8a12a2… (all of the seat's roots in one cut). By AI agents, Wed Nov 11 2026. No macro, syntax, notation, axiom, sorry.
-/
import Derived.Test.YthcnmahjhahafacChecked
import GoSem.Claim
import GoSem.ClaimJoined
import GoSem.ClaimMapViews
import Derived.JoinedTies
import Derived.KernelRfl
namespace Go.Proofs.Ythcnmahjhahafac
/- THE CELL 'sum', in the pinned program and in every row, IS THE sha256 OF THE DUMP (.gsa) THAT YthcnmahjhahafacProg.lean LOADS. Nothing in Lean hashes anything: it is a label: what it is worth is what the hold of that sum in a sandbox is worth. -/
noncomputable def Try.pinned : Pinned := { name := "ythcnmahjhahafac", sum := "7ed254a2aa8a12a2e3be808cd611da597a0a3020a7dfa1d00ef11d25eed1cf91", checked := Try.checked }
namespace Rows
def none {H : Type} : Left H := { results := [], args := [] }

/-- 'laws.FnExactAtomsOf': WHATEVER THE INPUT: true; the input reads as it did. -/
def fnExactAtomsOfSpec : ChangeSpec := { name := "fnExactAtomsOf", fn := fun _ => fun
  | [d] => { results := [.lit (.bool true)], args := [d] }
  | _ => none }
def fnExactAtomsOfRow : OpenClaim := { program := "ythcnmahjhahafac", sum := "7ed254a2aa8a12a2e3be808cd611da597a0a3020a7dfa1d00ef11d25eed1cf91", func := "loop.example/g01078/laws.FnExactAtomsOf", spec := "fnExactAtomsOf", unfollowed := true, recurses := true, apart := false }
def FnExactAtomsOfSaid : Prop := fnExactAtomsOfRow.holds Try.pinned (OpenSpec.ofChange fnExactAtomsOfSpec)

/-- ITS FALSE NEIGHBOUR: 'it returns false'. Refute it at one input. -/
def fnExactAtomsOfWrong : ChangeSpec := { name := "fnExactAtomsOf", fn := fun _ => fun
  | [d] => { results := [.lit (.bool false)], args := [d] }
  | _ => none }
def FnExactAtomsOfWrongFalsely : Prop := fnExactAtomsOfRow.holds Try.pinned (OpenSpec.ofChange fnExactAtomsOfWrong)

/-- 'laws.FnExactCoatomsOf': WHATEVER THE INPUT: true; the input reads as it did. -/
def fnExactCoatomsOfSpec : ChangeSpec := { name := "fnExactCoatomsOf", fn := fun _ => fun
  | [d] => { results := [.lit (.bool true)], args := [d] }
  | _ => none }
def fnExactCoatomsOfRow : OpenClaim := { program := "ythcnmahjhahafac", sum := "7ed254a2aa8a12a2e3be808cd611da597a0a3020a7dfa1d00ef11d25eed1cf91", func := "loop.example/g01078/laws.FnExactCoatomsOf", spec := "fnExactCoatomsOf", unfollowed := true, recurses := true, apart := false }
def FnExactCoatomsOfSaid : Prop := fnExactCoatomsOfRow.holds Try.pinned (OpenSpec.ofChange fnExactCoatomsOfSpec)

/-- ITS FALSE NEIGHBOUR: 'it returns false'. Refute it at one input. -/
def fnExactCoatomsOfWrong : ChangeSpec := { name := "fnExactCoatomsOf", fn := fun _ => fun
  | [d] => { results := [.lit (.bool false)], args := [d] }
  | _ => none }
def FnExactCoatomsOfWrongFalsely : Prop := fnExactCoatomsOfRow.holds Try.pinned (OpenSpec.ofChange fnExactCoatomsOfWrong)

/-- 'laws.FnExactIsSublattice': WHATEVER THE INPUT: true; the input reads as it did. -/
def fnExactIsSublatticeSpec : ChangeSpec := { name := "fnExactIsSublattice", fn := fun _ => fun
  | [d1, d2] => { results := [.lit (.bool true)], args := [d1, d2] }
  | _ => none }
def fnExactIsSublatticeRow : OpenClaim := { program := "ythcnmahjhahafac", sum := "7ed254a2aa8a12a2e3be808cd611da597a0a3020a7dfa1d00ef11d25eed1cf91", func := "loop.example/g01078/laws.FnExactIsSublattice", spec := "fnExactIsSublattice", unfollowed := true, recurses := true, apart := false }
def FnExactIsSublatticeSaid : Prop := fnExactIsSublatticeRow.holds Try.pinned (OpenSpec.ofChange fnExactIsSublatticeSpec)

/-- ITS FALSE NEIGHBOUR: 'it returns false'. Refute it at one input. -/
def fnExactIsSublatticeWrong : ChangeSpec := { name := "fnExactIsSublattice", fn := fun _ => fun
  | [d1, d2] => { results := [.lit (.bool false)], args := [d1, d2] }
  | _ => none }
def FnExactIsSublatticeWrongFalsely : Prop := fnExactIsSublatticeRow.holds Try.pinned (OpenSpec.ofChange fnExactIsSublatticeWrong)

/-- 'laws.FnExactInverseIso': WHATEVER THE INPUT: true; the input reads as it did. -/
def fnExactInverseIsoSpec : ChangeSpec := { name := "fnExactInverseIso", fn := fun _ => fun
  | [d1, d2, d3] => { results := [.lit (.bool true)], args := [d1, d2, d3] }
  | _ => none }
def fnExactInverseIsoRow : OpenClaim := { program := "ythcnmahjhahafac", sum := "7ed254a2aa8a12a2e3be808cd611da597a0a3020a7dfa1d00ef11d25eed1cf91", func := "loop.example/g01078/laws.FnExactInverseIso", spec := "fnExactInverseIso", apart := false }
def FnExactInverseIsoSaid : Prop := fnExactInverseIsoRow.holds Try.pinned (OpenSpec.ofChange fnExactInverseIsoSpec)

/-- ITS FALSE NEIGHBOUR: 'it returns false'. Refute it at one input. -/
def fnExactInverseIsoWrong : ChangeSpec := { name := "fnExactInverseIso", fn := fun _ => fun
  | [d1, d2, d3] => { results := [.lit (.bool false)], args := [d1, d2, d3] }
  | _ => none }
def FnExactInverseIsoWrongFalsely : Prop := fnExactInverseIsoRow.holds Try.pinned (OpenSpec.ofChange fnExactInverseIsoWrong)

/-- 'laws.FnExactProductLattice': WHATEVER THE INPUT: true; the input reads as it did. -/
def fnExactProductLatticeSpec : ChangeSpec := { name := "fnExactProductLattice", fn := fun _ => fun
  | [d1, d2] => { results := [.lit (.bool true)], args := [d1, d2] }
  | _ => none }
def fnExactProductLatticeRow : OpenClaim := { program := "ythcnmahjhahafac", sum := "7ed254a2aa8a12a2e3be808cd611da597a0a3020a7dfa1d00ef11d25eed1cf91", func := "loop.example/g01078/laws.FnExactProductLattice", spec := "fnExactProductLattice", unfollowed := true, recurses := true, apart := false }
def FnExactProductLatticeSaid : Prop := fnExactProductLatticeRow.holds Try.pinned (OpenSpec.ofChange fnExactProductLatticeSpec)

/-- ITS FALSE NEIGHBOUR: 'it returns false'. Refute it at one input. -/
def fnExactProductLatticeWrong : ChangeSpec := { name := "fnExactProductLattice", fn := fun _ => fun
  | [d1, d2] => { results := [.lit (.bool false)], args := [d1, d2] }
  | _ => none }
def FnExactProductLatticeWrongFalsely : Prop := fnExactProductLatticeRow.holds Try.pinned (OpenSpec.ofChange fnExactProductLatticeWrong)

/-- 'laws.FnExactStackLattice': WHATEVER THE INPUT: true; the input reads as it did. -/
def fnExactStackLatticeSpec : ChangeSpec := { name := "fnExactStackLattice", fn := fun _ => fun
  | [d1, d2] => { results := [.lit (.bool true)], args := [d1, d2] }
  | _ => none }
def fnExactStackLatticeRow : OpenClaim := { program := "ythcnmahjhahafac", sum := "7ed254a2aa8a12a2e3be808cd611da597a0a3020a7dfa1d00ef11d25eed1cf91", func := "loop.example/g01078/laws.FnExactStackLattice", spec := "fnExactStackLattice", unfollowed := true, recurses := true, apart := false }
def FnExactStackLatticeSaid : Prop := fnExactStackLatticeRow.holds Try.pinned (OpenSpec.ofChange fnExactStackLatticeSpec)

/-- ITS FALSE NEIGHBOUR: 'it returns false'. Refute it at one input. -/
def fnExactStackLatticeWrong : ChangeSpec := { name := "fnExactStackLattice", fn := fun _ => fun
  | [d1, d2] => { results := [.lit (.bool false)], args := [d1, d2] }
  | _ => none }
def FnExactStackLatticeWrongFalsely : Prop := fnExactStackLatticeRow.holds Try.pinned (OpenSpec.ofChange fnExactStackLatticeWrong)

/-- 'laws.FnExactGenerateSublattice': WHATEVER THE INPUT: true; the input reads as it did. -/
def fnExactGenerateSublatticeSpec : ChangeSpec := { name := "fnExactGenerateSublattice", fn := fun _ => fun
  | [d1, d2] => { results := [.lit (.bool true)], args := [d1, d2] }
  | _ => none }
def fnExactGenerateSublatticeRow : OpenClaim := { program := "ythcnmahjhahafac", sum := "7ed254a2aa8a12a2e3be808cd611da597a0a3020a7dfa1d00ef11d25eed1cf91", func := "loop.example/g01078/laws.FnExactGenerateSublattice", spec := "fnExactGenerateSublattice", unfollowed := true, recurses := true, apart := false }
def FnExactGenerateSublatticeSaid : Prop := fnExactGenerateSublatticeRow.holds Try.pinned (OpenSpec.ofChange fnExactGenerateSublatticeSpec)

/-- ITS FALSE NEIGHBOUR: 'it returns false'. Refute it at one input. -/
def fnExactGenerateSublatticeWrong : ChangeSpec := { name := "fnExactGenerateSublattice", fn := fun _ => fun
  | [d1, d2] => { results := [.lit (.bool false)], args := [d1, d2] }
  | _ => none }
def FnExactGenerateSublatticeWrongFalsely : Prop := fnExactGenerateSublatticeRow.holds Try.pinned (OpenSpec.ofChange fnExactGenerateSublatticeWrong)

/-- 'laws.FnExactLatticeAlgebra': WHATEVER THE INPUT: true; the input reads as it did. -/
def fnExactLatticeAlgebraSpec : ChangeSpec := { name := "fnExactLatticeAlgebra", fn := fun _ => fun
  | [d] => { results := [.lit (.bool true)], args := [d] }
  | _ => none }
def fnExactLatticeAlgebraRow : OpenClaim := { program := "ythcnmahjhahafac", sum := "7ed254a2aa8a12a2e3be808cd611da597a0a3020a7dfa1d00ef11d25eed1cf91", func := "loop.example/g01078/laws.FnExactLatticeAlgebra", spec := "fnExactLatticeAlgebra", unfollowed := true, recurses := true, apart := false }
def FnExactLatticeAlgebraSaid : Prop := fnExactLatticeAlgebraRow.holds Try.pinned (OpenSpec.ofChange fnExactLatticeAlgebraSpec)

/-- ITS FALSE NEIGHBOUR: 'it returns false'. Refute it at one input. -/
def fnExactLatticeAlgebraWrong : ChangeSpec := { name := "fnExactLatticeAlgebra", fn := fun _ => fun
  | [d] => { results := [.lit (.bool false)], args := [d] }
  | _ => none }
def FnExactLatticeAlgebraWrongFalsely : Prop := fnExactLatticeAlgebraRow.holds Try.pinned (OpenSpec.ofChange fnExactLatticeAlgebraWrong)

/-- 'laws.FnExactIsSeparating': WHATEVER THE INPUT: true; the input reads as it did. -/
def fnExactIsSeparatingSpec : ChangeSpec := { name := "fnExactIsSeparating", fn := fun _ => fun
  | [d1, d2] => { results := [.lit (.bool true)], args := [d1, d2] }
  | _ => none }
def fnExactIsSeparatingRow : OpenClaim := { program := "ythcnmahjhahafac", sum := "7ed254a2aa8a12a2e3be808cd611da597a0a3020a7dfa1d00ef11d25eed1cf91", func := "loop.example/g01078/laws.FnExactIsSeparating", spec := "fnExactIsSeparating", apart := false }
def FnExactIsSeparatingSaid : Prop := fnExactIsSeparatingRow.holds Try.pinned (OpenSpec.ofChange fnExactIsSeparatingSpec)

/-- ITS FALSE NEIGHBOUR: 'it returns false'. Refute it at one input. -/
def fnExactIsSeparatingWrong : ChangeSpec := { name := "fnExactIsSeparating", fn := fun _ => fun
  | [d1, d2] => { results := [.lit (.bool false)], args := [d1, d2] }
  | _ => none }
def FnExactIsSeparatingWrongFalsely : Prop := fnExactIsSeparatingRow.holds Try.pinned (OpenSpec.ofChange fnExactIsSeparatingWrong)

/-- 'laws.FnExactSublatticePoset': WHATEVER THE INPUT: true; the input reads as it did. -/
def fnExactSublatticePosetSpec : ChangeSpec := { name := "fnExactSublatticePoset", fn := fun _ => fun
  | [d1, d2] => { results := [.lit (.bool true)], args := [d1, d2] }
  | _ => none }
def fnExactSublatticePosetRow : OpenClaim := { program := "ythcnmahjhahafac", sum := "7ed254a2aa8a12a2e3be808cd611da597a0a3020a7dfa1d00ef11d25eed1cf91", func := "loop.example/g01078/laws.FnExactSublatticePoset", spec := "fnExactSublatticePoset", unfollowed := true, recurses := true, apart := false }
def FnExactSublatticePosetSaid : Prop := fnExactSublatticePosetRow.holds Try.pinned (OpenSpec.ofChange fnExactSublatticePosetSpec)

/-- ITS FALSE NEIGHBOUR: 'it returns false'. Refute it at one input. -/
def fnExactSublatticePosetWrong : ChangeSpec := { name := "fnExactSublatticePoset", fn := fun _ => fun
  | [d1, d2] => { results := [.lit (.bool false)], args := [d1, d2] }
  | _ => none }
def FnExactSublatticePosetWrongFalsely : Prop := fnExactSublatticePosetRow.holds Try.pinned (OpenSpec.ofChange fnExactSublatticePosetWrong)

/- THE SECOND FORM. 'bulk': how many values and letters a reading holds, each counted each time it is reached (what is shared counts as often as it is met; a slice's spare places count too). A statement '..UptoSaid' is the law's where the arguments, and the package variables that the reading takes, are together of bulk at most 1048576: NARROWER than '..Said'. Prove '..Said' where nothing that the law and all that it calls make is longer than what came in: it says more and counts as full. Else prove '..UptoSaid'. A law counts once. -/
mutual
def uptoBulk {H : Type} : DataW H → Nat
  | .lit (.string bytes) => bytes.length + 1
  | .lit _ => 1
  | .nil => 1
  | .ptr d => uptoBulk d + 1
  | .slice elems spare => uptoBulkAll elems + uptoBulkAll spare + 1
  | .agg parts => uptoBulkAll parts + 1
  | .iface _ d => uptoBulk d + 1
  | .map entries => uptoBulkEntries entries + 1
  | .held _ => 1
def uptoBulkAll {H : Type} : List (DataW H) → Nat
  | [] => 0
  | d :: r => uptoBulk d + uptoBulkAll r
def uptoBulkEntries {H : Type} : List (Lit × DataW H) → Nat
  | [] => 0
  | x :: r => uptoBulkEntry x + uptoBulkEntries r
def uptoBulkEntry {H : Type} : Lit × DataW H → Nat
  | (.string bytes, d) => bytes.length + uptoBulk d + 1
  | (_, d) => uptoBulk d + 1
 end
def uptoSmall : (H : Type) → List (DataW H) → Bool := fun _ ds => decide (uptoBulkAll ds ≤ 1048576)
def OpenSpec.upto (s : _root_.Go.ChangeSpec) : _root_.Go.OpenSpec := { _root_.Go.OpenSpec.ofChange s with cond := some uptoSmall }

/-- 'laws.FnExactAtomsOf', WHERE WHAT IT READS IS OF BULK AT MOST 1048576: true; the input reads as it did. -/
def fnExactAtomsOfUptoRow : OpenClaim := { program := "ythcnmahjhahafac", sum := "7ed254a2aa8a12a2e3be808cd611da597a0a3020a7dfa1d00ef11d25eed1cf91", func := "loop.example/g01078/laws.FnExactAtomsOf", spec := "fnExactAtomsOf", unfollowed := true, recurses := true, apart := false, narrowed := true }
def FnExactAtomsOfUptoSaid : Prop := fnExactAtomsOfUptoRow.holds Try.pinned (OpenSpec.upto fnExactAtomsOfSpec)

/-- 'laws.FnExactCoatomsOf', WHERE WHAT IT READS IS OF BULK AT MOST 1048576: true; the input reads as it did. -/
def fnExactCoatomsOfUptoRow : OpenClaim := { program := "ythcnmahjhahafac", sum := "7ed254a2aa8a12a2e3be808cd611da597a0a3020a7dfa1d00ef11d25eed1cf91", func := "loop.example/g01078/laws.FnExactCoatomsOf", spec := "fnExactCoatomsOf", unfollowed := true, recurses := true, apart := false, narrowed := true }
def FnExactCoatomsOfUptoSaid : Prop := fnExactCoatomsOfUptoRow.holds Try.pinned (OpenSpec.upto fnExactCoatomsOfSpec)

/-- 'laws.FnExactIsSublattice', WHERE WHAT IT READS IS OF BULK AT MOST 1048576: true; the input reads as it did. -/
def fnExactIsSublatticeUptoRow : OpenClaim := { program := "ythcnmahjhahafac", sum := "7ed254a2aa8a12a2e3be808cd611da597a0a3020a7dfa1d00ef11d25eed1cf91", func := "loop.example/g01078/laws.FnExactIsSublattice", spec := "fnExactIsSublattice", unfollowed := true, recurses := true, apart := false, narrowed := true }
def FnExactIsSublatticeUptoSaid : Prop := fnExactIsSublatticeUptoRow.holds Try.pinned (OpenSpec.upto fnExactIsSublatticeSpec)

/-- 'laws.FnExactInverseIso', WHERE WHAT IT READS IS OF BULK AT MOST 1048576: true; the input reads as it did. -/
def fnExactInverseIsoUptoRow : OpenClaim := { program := "ythcnmahjhahafac", sum := "7ed254a2aa8a12a2e3be808cd611da597a0a3020a7dfa1d00ef11d25eed1cf91", func := "loop.example/g01078/laws.FnExactInverseIso", spec := "fnExactInverseIso", apart := false, narrowed := true }
def FnExactInverseIsoUptoSaid : Prop := fnExactInverseIsoUptoRow.holds Try.pinned (OpenSpec.upto fnExactInverseIsoSpec)

/-- 'laws.FnExactProductLattice', WHERE WHAT IT READS IS OF BULK AT MOST 1048576: true; the input reads as it did. -/
def fnExactProductLatticeUptoRow : OpenClaim := { program := "ythcnmahjhahafac", sum := "7ed254a2aa8a12a2e3be808cd611da597a0a3020a7dfa1d00ef11d25eed1cf91", func := "loop.example/g01078/laws.FnExactProductLattice", spec := "fnExactProductLattice", unfollowed := true, recurses := true, apart := false, narrowed := true }
def FnExactProductLatticeUptoSaid : Prop := fnExactProductLatticeUptoRow.holds Try.pinned (OpenSpec.upto fnExactProductLatticeSpec)

/-- 'laws.FnExactStackLattice', WHERE WHAT IT READS IS OF BULK AT MOST 1048576: true; the input reads as it did. -/
def fnExactStackLatticeUptoRow : OpenClaim := { program := "ythcnmahjhahafac", sum := "7ed254a2aa8a12a2e3be808cd611da597a0a3020a7dfa1d00ef11d25eed1cf91", func := "loop.example/g01078/laws.FnExactStackLattice", spec := "fnExactStackLattice", unfollowed := true, recurses := true, apart := false, narrowed := true }
def FnExactStackLatticeUptoSaid : Prop := fnExactStackLatticeUptoRow.holds Try.pinned (OpenSpec.upto fnExactStackLatticeSpec)

/-- 'laws.FnExactGenerateSublattice', WHERE WHAT IT READS IS OF BULK AT MOST 1048576: true; the input reads as it did. -/
def fnExactGenerateSublatticeUptoRow : OpenClaim := { program := "ythcnmahjhahafac", sum := "7ed254a2aa8a12a2e3be808cd611da597a0a3020a7dfa1d00ef11d25eed1cf91", func := "loop.example/g01078/laws.FnExactGenerateSublattice", spec := "fnExactGenerateSublattice", unfollowed := true, recurses := true, apart := false, narrowed := true }
def FnExactGenerateSublatticeUptoSaid : Prop := fnExactGenerateSublatticeUptoRow.holds Try.pinned (OpenSpec.upto fnExactGenerateSublatticeSpec)

/-- 'laws.FnExactLatticeAlgebra', WHERE WHAT IT READS IS OF BULK AT MOST 1048576: true; the input reads as it did. -/
def fnExactLatticeAlgebraUptoRow : OpenClaim := { program := "ythcnmahjhahafac", sum := "7ed254a2aa8a12a2e3be808cd611da597a0a3020a7dfa1d00ef11d25eed1cf91", func := "loop.example/g01078/laws.FnExactLatticeAlgebra", spec := "fnExactLatticeAlgebra", unfollowed := true, recurses := true, apart := false, narrowed := true }
def FnExactLatticeAlgebraUptoSaid : Prop := fnExactLatticeAlgebraUptoRow.holds Try.pinned (OpenSpec.upto fnExactLatticeAlgebraSpec)

/-- 'laws.FnExactIsSeparating', WHERE WHAT IT READS IS OF BULK AT MOST 1048576: true; the input reads as it did. -/
def fnExactIsSeparatingUptoRow : OpenClaim := { program := "ythcnmahjhahafac", sum := "7ed254a2aa8a12a2e3be808cd611da597a0a3020a7dfa1d00ef11d25eed1cf91", func := "loop.example/g01078/laws.FnExactIsSeparating", spec := "fnExactIsSeparating", apart := false, narrowed := true }
def FnExactIsSeparatingUptoSaid : Prop := fnExactIsSeparatingUptoRow.holds Try.pinned (OpenSpec.upto fnExactIsSeparatingSpec)

/-- 'laws.FnExactSublatticePoset', WHERE WHAT IT READS IS OF BULK AT MOST 1048576: true; the input reads as it did. -/
def fnExactSublatticePosetUptoRow : OpenClaim := { program := "ythcnmahjhahafac", sum := "7ed254a2aa8a12a2e3be808cd611da597a0a3020a7dfa1d00ef11d25eed1cf91", func := "loop.example/g01078/laws.FnExactSublatticePoset", spec := "fnExactSublatticePoset", unfollowed := true, recurses := true, apart := false, narrowed := true }
def FnExactSublatticePosetUptoSaid : Prop := fnExactSublatticePosetUptoRow.holds Try.pinned (OpenSpec.upto fnExactSublatticePosetSpec)

end Rows
end Go.Proofs.Ythcnmahjhahafac
