/-
  No cell of these rows narrows 'for every input' (looked for: loops, veiled, ifaces, maps, wideKeys, modest, calm, conditions, laid).
  DERIVED. THE GIVEN ROWS OF THIS SEAT. 12 by the template 'for every input the law returns true; each argument reads behind the call as it read before'; 0 by the template 'total and deterministic' (their statements: YtdodfnbbfkcgnaaTotals.lean).
  GIVEN WITH THE SEED: the statements are not yours to turn. If you find one false, say at which input.
  Laid BY PROGRAM, IN A SANDBOX (cutbox-rows.mjs): the forced cells as the released guide's own fill.sh prints them over the translation c2b66167980868de… (all of the seat's roots in one cut). By AI agents, Wed Nov 11 2026. No macro, syntax, notation, axiom, sorry.
-/
import Derived.Test.YtdodfnbbfkcgnaaChecked
import GoSem.Claim
import GoSem.ClaimJoined
import GoSem.ClaimMapViews
import Derived.JoinedTies
import Derived.KernelRfl
namespace Go.Proofs.Ytdodfnbbfkcgnaa
/- THE CELL 'sum', in the pinned program and in every row, IS THE sha256 OF THE DUMP (.gsa) THAT YtdodfnbbfkcgnaaProg.lean LOADS. Nothing in Lean hashes anything: it is a label: what it is worth is what the hold of that sum in a sandbox is worth. -/
noncomputable def Try.pinned : Pinned := { name := "ytdodfnbbfkcgnaa", sum := "c2b66167980868de92fc92f52967465eb932822ff99c77d0e8d6e8e42fa49cd4", checked := Try.checked }
namespace Rows
def none {H : Type} : Left H := { results := [], args := [] }

/-- 'laws.FnExactRenameElements': WHATEVER THE INPUT: true; the input reads as it did. -/
def fnExactRenameElementsSpec : ChangeSpec := { name := "fnExactRenameElements", fn := fun _ => fun
  | [d1, d2] => { results := [.lit (.bool true)], args := [d1, d2] }
  | _ => none }
def fnExactRenameElementsRow : OpenClaim := { program := "ytdodfnbbfkcgnaa", sum := "c2b66167980868de92fc92f52967465eb932822ff99c77d0e8d6e8e42fa49cd4", func := "loop.example/g01078/laws.FnExactRenameElements", spec := "fnExactRenameElements", apart := false }
def FnExactRenameElementsSaid : Prop := fnExactRenameElementsRow.holds Try.pinned (OpenSpec.ofChange fnExactRenameElementsSpec)

/-- ITS FALSE NEIGHBOUR: 'it returns false'. Refute it at one input. -/
def fnExactRenameElementsWrong : ChangeSpec := { name := "fnExactRenameElements", fn := fun _ => fun
  | [d1, d2] => { results := [.lit (.bool false)], args := [d1, d2] }
  | _ => none }
def FnExactRenameElementsWrongFalsely : Prop := fnExactRenameElementsRow.holds Try.pinned (OpenSpec.ofChange fnExactRenameElementsWrong)

/-- 'laws.FnExactFewestChains': WHATEVER THE INPUT: true; the input reads as it did. -/
def fnExactFewestChainsSpec : ChangeSpec := { name := "fnExactFewestChains", fn := fun _ => fun
  | [d] => { results := [.lit (.bool true)], args := [d] }
  | _ => none }
def fnExactFewestChainsRow : OpenClaim := { program := "ytdodfnbbfkcgnaa", sum := "c2b66167980868de92fc92f52967465eb932822ff99c77d0e8d6e8e42fa49cd4", func := "loop.example/g01078/laws.FnExactFewestChains", spec := "fnExactFewestChains", unfollowed := true, recurses := true, apart := false }
def FnExactFewestChainsSaid : Prop := fnExactFewestChainsRow.holds Try.pinned (OpenSpec.ofChange fnExactFewestChainsSpec)

/-- ITS FALSE NEIGHBOUR: 'it returns false'. Refute it at one input. -/
def fnExactFewestChainsWrong : ChangeSpec := { name := "fnExactFewestChains", fn := fun _ => fun
  | [d] => { results := [.lit (.bool false)], args := [d] }
  | _ => none }
def FnExactFewestChainsWrongFalsely : Prop := fnExactFewestChainsRow.holds Try.pinned (OpenSpec.ofChange fnExactFewestChainsWrong)

/-- 'laws.FnExactIsSublattice': WHATEVER THE INPUT: true; the input reads as it did. -/
def fnExactIsSublatticeSpec : ChangeSpec := { name := "fnExactIsSublattice", fn := fun _ => fun
  | [d1, d2] => { results := [.lit (.bool true)], args := [d1, d2] }
  | _ => none }
def fnExactIsSublatticeRow : OpenClaim := { program := "ytdodfnbbfkcgnaa", sum := "c2b66167980868de92fc92f52967465eb932822ff99c77d0e8d6e8e42fa49cd4", func := "loop.example/g01078/laws.FnExactIsSublattice", spec := "fnExactIsSublattice", unfollowed := true, recurses := true, apart := false }
def FnExactIsSublatticeSaid : Prop := fnExactIsSublatticeRow.holds Try.pinned (OpenSpec.ofChange fnExactIsSublatticeSpec)

/-- ITS FALSE NEIGHBOUR: 'it returns false'. Refute it at one input. -/
def fnExactIsSublatticeWrong : ChangeSpec := { name := "fnExactIsSublattice", fn := fun _ => fun
  | [d1, d2] => { results := [.lit (.bool false)], args := [d1, d2] }
  | _ => none }
def FnExactIsSublatticeWrongFalsely : Prop := fnExactIsSublatticeRow.holds Try.pinned (OpenSpec.ofChange fnExactIsSublatticeWrong)

/-- 'laws.FnExactInverseIso': WHATEVER THE INPUT: true; the input reads as it did. -/
def fnExactInverseIsoSpec : ChangeSpec := { name := "fnExactInverseIso", fn := fun _ => fun
  | [d1, d2, d3] => { results := [.lit (.bool true)], args := [d1, d2, d3] }
  | _ => none }
def fnExactInverseIsoRow : OpenClaim := { program := "ytdodfnbbfkcgnaa", sum := "c2b66167980868de92fc92f52967465eb932822ff99c77d0e8d6e8e42fa49cd4", func := "loop.example/g01078/laws.FnExactInverseIso", spec := "fnExactInverseIso", apart := false }
def FnExactInverseIsoSaid : Prop := fnExactInverseIsoRow.holds Try.pinned (OpenSpec.ofChange fnExactInverseIsoSpec)

/-- ITS FALSE NEIGHBOUR: 'it returns false'. Refute it at one input. -/
def fnExactInverseIsoWrong : ChangeSpec := { name := "fnExactInverseIso", fn := fun _ => fun
  | [d1, d2, d3] => { results := [.lit (.bool false)], args := [d1, d2, d3] }
  | _ => none }
def FnExactInverseIsoWrongFalsely : Prop := fnExactInverseIsoRow.holds Try.pinned (OpenSpec.ofChange fnExactInverseIsoWrong)

/-- 'laws.FnExactProductLattice': WHATEVER THE INPUT: true; the input reads as it did. -/
def fnExactProductLatticeSpec : ChangeSpec := { name := "fnExactProductLattice", fn := fun _ => fun
  | [d1, d2] => { results := [.lit (.bool true)], args := [d1, d2] }
  | _ => none }
def fnExactProductLatticeRow : OpenClaim := { program := "ytdodfnbbfkcgnaa", sum := "c2b66167980868de92fc92f52967465eb932822ff99c77d0e8d6e8e42fa49cd4", func := "loop.example/g01078/laws.FnExactProductLattice", spec := "fnExactProductLattice", unfollowed := true, recurses := true, apart := false }
def FnExactProductLatticeSaid : Prop := fnExactProductLatticeRow.holds Try.pinned (OpenSpec.ofChange fnExactProductLatticeSpec)

/-- ITS FALSE NEIGHBOUR: 'it returns false'. Refute it at one input. -/
def fnExactProductLatticeWrong : ChangeSpec := { name := "fnExactProductLattice", fn := fun _ => fun
  | [d1, d2] => { results := [.lit (.bool false)], args := [d1, d2] }
  | _ => none }
def FnExactProductLatticeWrongFalsely : Prop := fnExactProductLatticeRow.holds Try.pinned (OpenSpec.ofChange fnExactProductLatticeWrong)

/-- 'laws.FnExactStackLattice': WHATEVER THE INPUT: true; the input reads as it did. -/
def fnExactStackLatticeSpec : ChangeSpec := { name := "fnExactStackLattice", fn := fun _ => fun
  | [d1, d2] => { results := [.lit (.bool true)], args := [d1, d2] }
  | _ => none }
def fnExactStackLatticeRow : OpenClaim := { program := "ytdodfnbbfkcgnaa", sum := "c2b66167980868de92fc92f52967465eb932822ff99c77d0e8d6e8e42fa49cd4", func := "loop.example/g01078/laws.FnExactStackLattice", spec := "fnExactStackLattice", unfollowed := true, recurses := true, apart := false }
def FnExactStackLatticeSaid : Prop := fnExactStackLatticeRow.holds Try.pinned (OpenSpec.ofChange fnExactStackLatticeSpec)

/-- ITS FALSE NEIGHBOUR: 'it returns false'. Refute it at one input. -/
def fnExactStackLatticeWrong : ChangeSpec := { name := "fnExactStackLattice", fn := fun _ => fun
  | [d1, d2] => { results := [.lit (.bool false)], args := [d1, d2] }
  | _ => none }
def FnExactStackLatticeWrongFalsely : Prop := fnExactStackLatticeRow.holds Try.pinned (OpenSpec.ofChange fnExactStackLatticeWrong)

/-- 'laws.FnExactGenerateSublattice': WHATEVER THE INPUT: true; the input reads as it did. -/
def fnExactGenerateSublatticeSpec : ChangeSpec := { name := "fnExactGenerateSublattice", fn := fun _ => fun
  | [d1, d2] => { results := [.lit (.bool true)], args := [d1, d2] }
  | _ => none }
def fnExactGenerateSublatticeRow : OpenClaim := { program := "ytdodfnbbfkcgnaa", sum := "c2b66167980868de92fc92f52967465eb932822ff99c77d0e8d6e8e42fa49cd4", func := "loop.example/g01078/laws.FnExactGenerateSublattice", spec := "fnExactGenerateSublattice", unfollowed := true, recurses := true, apart := false }
def FnExactGenerateSublatticeSaid : Prop := fnExactGenerateSublatticeRow.holds Try.pinned (OpenSpec.ofChange fnExactGenerateSublatticeSpec)

/-- ITS FALSE NEIGHBOUR: 'it returns false'. Refute it at one input. -/
def fnExactGenerateSublatticeWrong : ChangeSpec := { name := "fnExactGenerateSublattice", fn := fun _ => fun
  | [d1, d2] => { results := [.lit (.bool false)], args := [d1, d2] }
  | _ => none }
def FnExactGenerateSublatticeWrongFalsely : Prop := fnExactGenerateSublatticeRow.holds Try.pinned (OpenSpec.ofChange fnExactGenerateSublatticeWrong)

/-- 'laws.FnExactLatticeAlgebra': WHATEVER THE INPUT: true; the input reads as it did. -/
def fnExactLatticeAlgebraSpec : ChangeSpec := { name := "fnExactLatticeAlgebra", fn := fun _ => fun
  | [d] => { results := [.lit (.bool true)], args := [d] }
  | _ => none }
def fnExactLatticeAlgebraRow : OpenClaim := { program := "ytdodfnbbfkcgnaa", sum := "c2b66167980868de92fc92f52967465eb932822ff99c77d0e8d6e8e42fa49cd4", func := "loop.example/g01078/laws.FnExactLatticeAlgebra", spec := "fnExactLatticeAlgebra", unfollowed := true, recurses := true, apart := false }
def FnExactLatticeAlgebraSaid : Prop := fnExactLatticeAlgebraRow.holds Try.pinned (OpenSpec.ofChange fnExactLatticeAlgebraSpec)

/-- ITS FALSE NEIGHBOUR: 'it returns false'. Refute it at one input. -/
def fnExactLatticeAlgebraWrong : ChangeSpec := { name := "fnExactLatticeAlgebra", fn := fun _ => fun
  | [d] => { results := [.lit (.bool false)], args := [d] }
  | _ => none }
def FnExactLatticeAlgebraWrongFalsely : Prop := fnExactLatticeAlgebraRow.holds Try.pinned (OpenSpec.ofChange fnExactLatticeAlgebraWrong)

/-- 'laws.FnExactIsSeparating': WHATEVER THE INPUT: true; the input reads as it did. -/
def fnExactIsSeparatingSpec : ChangeSpec := { name := "fnExactIsSeparating", fn := fun _ => fun
  | [d1, d2] => { results := [.lit (.bool true)], args := [d1, d2] }
  | _ => none }
def fnExactIsSeparatingRow : OpenClaim := { program := "ytdodfnbbfkcgnaa", sum := "c2b66167980868de92fc92f52967465eb932822ff99c77d0e8d6e8e42fa49cd4", func := "loop.example/g01078/laws.FnExactIsSeparating", spec := "fnExactIsSeparating", apart := false }
def FnExactIsSeparatingSaid : Prop := fnExactIsSeparatingRow.holds Try.pinned (OpenSpec.ofChange fnExactIsSeparatingSpec)

/-- ITS FALSE NEIGHBOUR: 'it returns false'. Refute it at one input. -/
def fnExactIsSeparatingWrong : ChangeSpec := { name := "fnExactIsSeparating", fn := fun _ => fun
  | [d1, d2] => { results := [.lit (.bool false)], args := [d1, d2] }
  | _ => none }
def FnExactIsSeparatingWrongFalsely : Prop := fnExactIsSeparatingRow.holds Try.pinned (OpenSpec.ofChange fnExactIsSeparatingWrong)

/-- 'laws.FnExactSublatticePoset': WHATEVER THE INPUT: true; the input reads as it did. -/
def fnExactSublatticePosetSpec : ChangeSpec := { name := "fnExactSublatticePoset", fn := fun _ => fun
  | [d1, d2] => { results := [.lit (.bool true)], args := [d1, d2] }
  | _ => none }
def fnExactSublatticePosetRow : OpenClaim := { program := "ytdodfnbbfkcgnaa", sum := "c2b66167980868de92fc92f52967465eb932822ff99c77d0e8d6e8e42fa49cd4", func := "loop.example/g01078/laws.FnExactSublatticePoset", spec := "fnExactSublatticePoset", unfollowed := true, recurses := true, apart := false }
def FnExactSublatticePosetSaid : Prop := fnExactSublatticePosetRow.holds Try.pinned (OpenSpec.ofChange fnExactSublatticePosetSpec)

/-- ITS FALSE NEIGHBOUR: 'it returns false'. Refute it at one input. -/
def fnExactSublatticePosetWrong : ChangeSpec := { name := "fnExactSublatticePoset", fn := fun _ => fun
  | [d1, d2] => { results := [.lit (.bool false)], args := [d1, d2] }
  | _ => none }
def FnExactSublatticePosetWrongFalsely : Prop := fnExactSublatticePosetRow.holds Try.pinned (OpenSpec.ofChange fnExactSublatticePosetWrong)

/-- 'laws.FnExactLatticeOf': WHATEVER THE INPUT: true; the input reads as it did. -/
def fnExactLatticeOfSpec : ChangeSpec := { name := "fnExactLatticeOf", fn := fun _ => fun
  | [d] => { results := [.lit (.bool true)], args := [d] }
  | _ => none }
def fnExactLatticeOfRow : OpenClaim := { program := "ytdodfnbbfkcgnaa", sum := "c2b66167980868de92fc92f52967465eb932822ff99c77d0e8d6e8e42fa49cd4", func := "loop.example/g01078/laws.FnExactLatticeOf", spec := "fnExactLatticeOf", unfollowed := true, recurses := true, apart := false }
def FnExactLatticeOfSaid : Prop := fnExactLatticeOfRow.holds Try.pinned (OpenSpec.ofChange fnExactLatticeOfSpec)

/-- ITS FALSE NEIGHBOUR: 'it returns false'. Refute it at one input. -/
def fnExactLatticeOfWrong : ChangeSpec := { name := "fnExactLatticeOf", fn := fun _ => fun
  | [d] => { results := [.lit (.bool false)], args := [d] }
  | _ => none }
def FnExactLatticeOfWrongFalsely : Prop := fnExactLatticeOfRow.holds Try.pinned (OpenSpec.ofChange fnExactLatticeOfWrong)

/-- 'laws.FnExactDownsetsOf': WHATEVER THE INPUT: true; the input reads as it did. -/
def fnExactDownsetsOfSpec : ChangeSpec := { name := "fnExactDownsetsOf", fn := fun _ => fun
  | [d] => { results := [.lit (.bool true)], args := [d] }
  | _ => none }
def fnExactDownsetsOfRow : OpenClaim := { program := "ytdodfnbbfkcgnaa", sum := "c2b66167980868de92fc92f52967465eb932822ff99c77d0e8d6e8e42fa49cd4", func := "loop.example/g01078/laws.FnExactDownsetsOf", spec := "fnExactDownsetsOf", inPlace := ["internal/reflectlite.ValueOf", "internal/reflectlite.Swapper", "(internal/reflectlite.Value).Len"], unfollowed := true, recurses := true, apart := false }
def FnExactDownsetsOfSaid : Prop := fnExactDownsetsOfRow.holds Try.pinned (OpenSpec.ofChange fnExactDownsetsOfSpec)

/-- ITS FALSE NEIGHBOUR: 'it returns false'. Refute it at one input. -/
def fnExactDownsetsOfWrong : ChangeSpec := { name := "fnExactDownsetsOf", fn := fun _ => fun
  | [d] => { results := [.lit (.bool false)], args := [d] }
  | _ => none }
def FnExactDownsetsOfWrongFalsely : Prop := fnExactDownsetsOfRow.holds Try.pinned (OpenSpec.ofChange fnExactDownsetsOfWrong)

/- THE SECOND FORM. 'bulk': how many values and letters a reading holds, each counted each time it is reached (what is shared counts as often as it is met; a slice's spare places count too). A statement '..UptoSaid' is the law's where the arguments, and the package variables that the reading takes, are together of bulk at most 1048576: NARROWER than '..Said'. Prove '..Said' where nothing that the law and all that it calls make is longer than what came in: it says more and counts as full. Else prove '..UptoSaid'. A law counts once. -/
mutual
def uptoBulk {H : Type} : DataW H → Nat
  | .lit (.string bytes) => bytes.length + 1
  | .lit _ => 1
  | .nil => 1
  | .ptr d => uptoBulk d + 1
  | .slice elems spare => uptoBulkAll elems + uptoBulkAll spare + 1
  | .agg parts => uptoBulkAll parts + 1
  | .iface _ d => uptoBulk d + 1
  | .map entries => uptoBulkEntries entries + 1
  | .held _ => 1
def uptoBulkAll {H : Type} : List (DataW H) → Nat
  | [] => 0
  | d :: r => uptoBulk d + uptoBulkAll r
def uptoBulkEntries {H : Type} : List (Lit × DataW H) → Nat
  | [] => 0
  | x :: r => uptoBulkEntry x + uptoBulkEntries r
def uptoBulkEntry {H : Type} : Lit × DataW H → Nat
  | (.string bytes, d) => bytes.length + uptoBulk d + 1
  | (_, d) => uptoBulk d + 1
 end
def uptoSmall : (H : Type) → List (DataW H) → Bool := fun _ ds => decide (uptoBulkAll ds ≤ 1048576)
def OpenSpec.upto (s : _root_.Go.ChangeSpec) : _root_.Go.OpenSpec := { _root_.Go.OpenSpec.ofChange s with cond := some uptoSmall }

/-- 'laws.FnExactRenameElements', WHERE WHAT IT READS IS OF BULK AT MOST 1048576: true; the input reads as it did. -/
def fnExactRenameElementsUptoRow : OpenClaim := { program := "ytdodfnbbfkcgnaa", sum := "c2b66167980868de92fc92f52967465eb932822ff99c77d0e8d6e8e42fa49cd4", func := "loop.example/g01078/laws.FnExactRenameElements", spec := "fnExactRenameElements", apart := false, narrowed := true }
def FnExactRenameElementsUptoSaid : Prop := fnExactRenameElementsUptoRow.holds Try.pinned (OpenSpec.upto fnExactRenameElementsSpec)

/-- 'laws.FnExactFewestChains', WHERE WHAT IT READS IS OF BULK AT MOST 1048576: true; the input reads as it did. -/
def fnExactFewestChainsUptoRow : OpenClaim := { program := "ytdodfnbbfkcgnaa", sum := "c2b66167980868de92fc92f52967465eb932822ff99c77d0e8d6e8e42fa49cd4", func := "loop.example/g01078/laws.FnExactFewestChains", spec := "fnExactFewestChains", unfollowed := true, recurses := true, apart := false, narrowed := true }
def FnExactFewestChainsUptoSaid : Prop := fnExactFewestChainsUptoRow.holds Try.pinned (OpenSpec.upto fnExactFewestChainsSpec)

/-- 'laws.FnExactIsSublattice', WHERE WHAT IT READS IS OF BULK AT MOST 1048576: true; the input reads as it did. -/
def fnExactIsSublatticeUptoRow : OpenClaim := { program := "ytdodfnbbfkcgnaa", sum := "c2b66167980868de92fc92f52967465eb932822ff99c77d0e8d6e8e42fa49cd4", func := "loop.example/g01078/laws.FnExactIsSublattice", spec := "fnExactIsSublattice", unfollowed := true, recurses := true, apart := false, narrowed := true }
def FnExactIsSublatticeUptoSaid : Prop := fnExactIsSublatticeUptoRow.holds Try.pinned (OpenSpec.upto fnExactIsSublatticeSpec)

/-- 'laws.FnExactInverseIso', WHERE WHAT IT READS IS OF BULK AT MOST 1048576: true; the input reads as it did. -/
def fnExactInverseIsoUptoRow : OpenClaim := { program := "ytdodfnbbfkcgnaa", sum := "c2b66167980868de92fc92f52967465eb932822ff99c77d0e8d6e8e42fa49cd4", func := "loop.example/g01078/laws.FnExactInverseIso", spec := "fnExactInverseIso", apart := false, narrowed := true }
def FnExactInverseIsoUptoSaid : Prop := fnExactInverseIsoUptoRow.holds Try.pinned (OpenSpec.upto fnExactInverseIsoSpec)

/-- 'laws.FnExactProductLattice', WHERE WHAT IT READS IS OF BULK AT MOST 1048576: true; the input reads as it did. -/
def fnExactProductLatticeUptoRow : OpenClaim := { program := "ytdodfnbbfkcgnaa", sum := "c2b66167980868de92fc92f52967465eb932822ff99c77d0e8d6e8e42fa49cd4", func := "loop.example/g01078/laws.FnExactProductLattice", spec := "fnExactProductLattice", unfollowed := true, recurses := true, apart := false, narrowed := true }
def FnExactProductLatticeUptoSaid : Prop := fnExactProductLatticeUptoRow.holds Try.pinned (OpenSpec.upto fnExactProductLatticeSpec)

/-- 'laws.FnExactStackLattice', WHERE WHAT IT READS IS OF BULK AT MOST 1048576: true; the input reads as it did. -/
def fnExactStackLatticeUptoRow : OpenClaim := { program := "ytdodfnbbfkcgnaa", sum := "c2b66167980868de92fc92f52967465eb932822ff99c77d0e8d6e8e42fa49cd4", func := "loop.example/g01078/laws.FnExactStackLattice", spec := "fnExactStackLattice", unfollowed := true, recurses := true, apart := false, narrowed := true }
def FnExactStackLatticeUptoSaid : Prop := fnExactStackLatticeUptoRow.holds Try.pinned (OpenSpec.upto fnExactStackLatticeSpec)

/-- 'laws.FnExactGenerateSublattice', WHERE WHAT IT READS IS OF BULK AT MOST 1048576: true; the input reads as it did. -/
def fnExactGenerateSublatticeUptoRow : OpenClaim := { program := "ytdodfnbbfkcgnaa", sum := "c2b66167980868de92fc92f52967465eb932822ff99c77d0e8d6e8e42fa49cd4", func := "loop.example/g01078/laws.FnExactGenerateSublattice", spec := "fnExactGenerateSublattice", unfollowed := true, recurses := true, apart := false, narrowed := true }
def FnExactGenerateSublatticeUptoSaid : Prop := fnExactGenerateSublatticeUptoRow.holds Try.pinned (OpenSpec.upto fnExactGenerateSublatticeSpec)

/-- 'laws.FnExactLatticeAlgebra', WHERE WHAT IT READS IS OF BULK AT MOST 1048576: true; the input reads as it did. -/
def fnExactLatticeAlgebraUptoRow : OpenClaim := { program := "ytdodfnbbfkcgnaa", sum := "c2b66167980868de92fc92f52967465eb932822ff99c77d0e8d6e8e42fa49cd4", func := "loop.example/g01078/laws.FnExactLatticeAlgebra", spec := "fnExactLatticeAlgebra", unfollowed := true, recurses := true, apart := false, narrowed := true }
def FnExactLatticeAlgebraUptoSaid : Prop := fnExactLatticeAlgebraUptoRow.holds Try.pinned (OpenSpec.upto fnExactLatticeAlgebraSpec)

/-- 'laws.FnExactIsSeparating', WHERE WHAT IT READS IS OF BULK AT MOST 1048576: true; the input reads as it did. -/
def fnExactIsSeparatingUptoRow : OpenClaim := { program := "ytdodfnbbfkcgnaa", sum := "c2b66167980868de92fc92f52967465eb932822ff99c77d0e8d6e8e42fa49cd4", func := "loop.example/g01078/laws.FnExactIsSeparating", spec := "fnExactIsSeparating", apart := false, narrowed := true }
def FnExactIsSeparatingUptoSaid : Prop := fnExactIsSeparatingUptoRow.holds Try.pinned (OpenSpec.upto fnExactIsSeparatingSpec)

/-- 'laws.FnExactSublatticePoset', WHERE WHAT IT READS IS OF BULK AT MOST 1048576: true; the input reads as it did. -/
def fnExactSublatticePosetUptoRow : OpenClaim := { program := "ytdodfnbbfkcgnaa", sum := "c2b66167980868de92fc92f52967465eb932822ff99c77d0e8d6e8e42fa49cd4", func := "loop.example/g01078/laws.FnExactSublatticePoset", spec := "fnExactSublatticePoset", unfollowed := true, recurses := true, apart := false, narrowed := true }
def FnExactSublatticePosetUptoSaid : Prop := fnExactSublatticePosetUptoRow.holds Try.pinned (OpenSpec.upto fnExactSublatticePosetSpec)

/-- 'laws.FnExactLatticeOf', WHERE WHAT IT READS IS OF BULK AT MOST 1048576: true; the input reads as it did. -/
def fnExactLatticeOfUptoRow : OpenClaim := { program := "ytdodfnbbfkcgnaa", sum := "c2b66167980868de92fc92f52967465eb932822ff99c77d0e8d6e8e42fa49cd4", func := "loop.example/g01078/laws.FnExactLatticeOf", spec := "fnExactLatticeOf", unfollowed := true, recurses := true, apart := false, narrowed := true }
def FnExactLatticeOfUptoSaid : Prop := fnExactLatticeOfUptoRow.holds Try.pinned (OpenSpec.upto fnExactLatticeOfSpec)

/-- 'laws.FnExactDownsetsOf', WHERE WHAT IT READS IS OF BULK AT MOST 1048576: true; the input reads as it did. -/
def fnExactDownsetsOfUptoRow : OpenClaim := { program := "ytdodfnbbfkcgnaa", sum := "c2b66167980868de92fc92f52967465eb932822ff99c77d0e8d6e8e42fa49cd4", func := "loop.example/g01078/laws.FnExactDownsetsOf", spec := "fnExactDownsetsOf", inPlace := ["internal/reflectlite.ValueOf", "internal/reflectlite.Swapper", "(internal/reflectlite.Value).Len"], unfollowed := true, recurses := true, apart := false, narrowed := true }
def FnExactDownsetsOfUptoSaid : Prop := fnExactDownsetsOfUptoRow.holds Try.pinned (OpenSpec.upto fnExactDownsetsOfSpec)

end Rows
end Go.Proofs.Ytdodfnbbfkcgnaa
