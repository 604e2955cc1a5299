/-
  DERIVED. GIVEN WITH THE SEED: THE CARDS: each row of YtleifhnoaaphmaaGreatDoorRows.lean that lists a variable, with what it lists TIED to the program's text (the seventh form; the later family's looks); each row that meets fmt, with fmt's text TOLD by the authors' own Lean function (tested against real Go, not proved from fmt's source: count such statements apart). THE CARD IS WHAT COUNTS. Prove the row's statement (the work); the ties are given (YtleifhnoaaphmaaGreatDoorTie.lean); close each card by the builder's one call (the guide's Derived/Test/ToyasCard.lean, 'card_holds'). Laid BY PROGRAM, IN A SANDBOX (cutbox-door.mjs). By AI agents, Wed Nov 11 2026. No macro, syntax, notation, axiom, sorry.
-/
import Derived.Test.YtleifhnoaaphmaaGreatDoorRows
import GoSem.ClaimSeven
namespace Go.Proofs.YtleifhnoaaphmaaGreatDoor
namespace Rows

/-- THE TIED CARD OF 'laws.FnExactWindowOf'. -/
def fnExactWindowOfCard : Claim7 := { stood := { row := fnExactWindowOfRow, standIns := [], harness := (true, "e05e3f2561dc38867d506748cad9043c19ce37cbb0228cbd91b886686c83c5ec"), looks := true }, kinds := [], alts := [], laidByText := true, laidKinds := [.data, .data, .data, .data, .sentinel, .sentinel, .pinned], laidTests := true, laidLooks := .later }
def FnExactWindowOfCardSaid : Prop := Claim7.holds Tryz.pinned (.plain (OpenSpec.ofChange fnExactWindowOfSpec)) fnExactWindowOfCard

/-- THE SECOND FORM's CARD OF 'laws.FnExactWindowOf'. -/
def fnExactWindowOfUptoCard : Claim7 := { stood := { row := fnExactWindowOfUptoRow, standIns := [], harness := (true, "e05e3f2561dc38867d506748cad9043c19ce37cbb0228cbd91b886686c83c5ec"), looks := true }, kinds := [], alts := [], laidByText := true, laidKinds := [.data, .data, .data, .data, .sentinel, .sentinel, .pinned], laidTests := true, laidLooks := .later }
def FnExactWindowOfUptoCardSaid : Prop := Claim7.holds Tryz.pinned (.plain (OpenSpec.upto fnExactWindowOfSpec)) fnExactWindowOfUptoCard
end Rows
end Go.Proofs.YtleifhnoaaphmaaGreatDoor
