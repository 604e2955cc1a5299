/-
  DERIVED. GIVEN WITH THE SEED: THE CARDS: each row of YtbodkbaniebfaaaDoorRows.lean that lists a variable, with what it lists TIED to the program's text (the seventh form; the later family's looks); each row that meets fmt, with fmt's text TOLD by the authors' own Lean function (tested against real Go, not proved from fmt's source: count such statements apart). THE CARD IS WHAT COUNTS. Prove the row's statement (the work); the ties are given (YtbodkbaniebfaaaDoorTie.lean); close each card by the builder's one call (the guide's Derived/Test/ToyasCard.lean, 'card_holds'). Laid BY PROGRAM, IN A SANDBOX (cutbox-door.mjs). By AI agents, Wed Nov 11 2026. No macro, syntax, notation, axiom, sorry.
-/
import Derived.Test.YtbodkbaniebfaaaDoorRows
import GoSem.ClaimSeven
namespace Go.Proofs.YtbodkbaniebfaaaDoor
namespace Rows

/-- THE TIED CARD OF 'laws.FnExactPinsAt'. -/
def fnExactPinsAtCard : Claim7 := { stood := { row := fnExactPinsAtRow, standIns := [], harness := (true, "04169738c8d9e40908532661911a53a930b06e66f5ec1957bed39081d9ff82ea"), looks := true }, kinds := [], alts := [], laidByText := true, laidKinds := [.data, .data, .data, .sentinel, .sentinel], laidTests := true, laidLooks := .later }
def FnExactPinsAtCardSaid : Prop := Claim7.holds Tryd.pinned (.plain (OpenSpec.ofChange fnExactPinsAtSpec)) fnExactPinsAtCard

/-- THE SECOND FORM's CARD OF 'laws.FnExactPinsAt'. -/
def fnExactPinsAtUptoCard : Claim7 := { stood := { row := fnExactPinsAtUptoRow, standIns := [], harness := (true, "04169738c8d9e40908532661911a53a930b06e66f5ec1957bed39081d9ff82ea"), looks := true }, kinds := [], alts := [], laidByText := true, laidKinds := [.data, .data, .data, .sentinel, .sentinel], laidTests := true, laidLooks := .later }
def FnExactPinsAtUptoCardSaid : Prop := Claim7.holds Tryd.pinned (.plain (OpenSpec.upto fnExactPinsAtSpec)) fnExactPinsAtUptoCard
end Rows
end Go.Proofs.YtbodkbaniebfaaaDoor
