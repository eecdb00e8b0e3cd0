/-
  DERIVED. GIVEN WITH THE SEED: THE CARDS: each row of YtbnoclklhcbidaaDoorRows.lean that lists a variable, with what it lists TIED to the program's text (the seventh form; the later family's looks); each row that meets fmt, with fmt's text TOLD by the authors' own Lean function (tested against real Go, not proved from fmt's source: count such statements apart). THE CARD IS WHAT COUNTS. Prove the row's statement (the work); the ties are given (YtbnoclklhcbidaaDoorTie.lean); close each card by the builder's one call (the guide's Derived/Test/ToyasCard.lean, 'card_holds'). Laid BY PROGRAM, IN A SANDBOX (cutbox-door.mjs). By AI agents, Wed Nov 11 2026. No macro, syntax, notation, axiom, sorry.
-/
import Derived.Test.YtbnoclklhcbidaaDoorRows
import GoSem.ClaimSeven
namespace Go.Proofs.YtbnoclklhcbidaaDoor
namespace Rows

/-- THE TIED CARD OF 'laws.FnExactPosetText'. -/
def fnExactPosetTextCard : Claim7 := { stood := { row := fnExactPosetTextRow, standIns := [], harness := (true, "a9005b4e2ff2474a23d05df2dc00cb0c6bbf638e6416726caab2697ea2dfc77e"), looks := false }, kinds := [], alts := [], laidByText := true, laidKinds := [.data, .data, .data], laidTests := true, laidLooks := .later }
def FnExactPosetTextCardSaid : Prop := Claim7.holds Tryd.pinned (.plain (OpenSpec.ofChange fnExactPosetTextSpec)) fnExactPosetTextCard

/-- THE TIED CARD OF 'laws.FnTermTexts'. -/
def fnTermTextsCard : Claim7 := { stood := { row := fnTermTextsRow, standIns := [], harness := (true, "a9005b4e2ff2474a23d05df2dc00cb0c6bbf638e6416726caab2697ea2dfc77e"), looks := false }, kinds := [], alts := [], laidByText := true, laidKinds := [.data, .data, .data], laidTests := true, laidLooks := .later }
def FnTermTextsCardSaid : Prop := Claim7.holds Tryd.pinned (.plain (OpenSpec.ofChange fnTermTextsSpec)) fnTermTextsCard

/-- THE SECOND FORM's CARD OF 'laws.FnExactPosetText'. -/
def fnExactPosetTextUptoCard : Claim7 := { stood := { row := fnExactPosetTextUptoRow, standIns := [], harness := (true, "a9005b4e2ff2474a23d05df2dc00cb0c6bbf638e6416726caab2697ea2dfc77e"), looks := false }, kinds := [], alts := [], laidByText := true, laidKinds := [.data, .data, .data], laidTests := true, laidLooks := .later }
def FnExactPosetTextUptoCardSaid : Prop := Claim7.holds Tryd.pinned (.plain (OpenSpec.upto fnExactPosetTextSpec)) fnExactPosetTextUptoCard

/-- THE SECOND FORM's CARD OF 'laws.FnTermTexts'. -/
def fnTermTextsUptoCard : Claim7 := { stood := { row := fnTermTextsUptoRow, standIns := [], harness := (true, "a9005b4e2ff2474a23d05df2dc00cb0c6bbf638e6416726caab2697ea2dfc77e"), looks := false }, kinds := [], alts := [], laidByText := true, laidKinds := [.data, .data, .data], laidTests := true, laidLooks := .later }
def FnTermTextsUptoCardSaid : Prop := Claim7.holds Tryd.pinned (.plain (OpenSpec.upto fnTermTextsSpec)) fnTermTextsUptoCard
end Rows
end Go.Proofs.YtbnoclklhcbidaaDoor
