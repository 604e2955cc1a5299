/-
  DERIVED. GIVEN WITH THE SEED: THE CARDS: each row of YtfondhlknkhmmaaDoorRows.lean that lists a variable, with what it lists TIED to the program's text (the seventh form; the later family's looks); each row that meets fmt, with fmt's text TOLD by the authors' own Lean function (tested against real Go, not proved from fmt's source: count such statements apart). THE CARD IS WHAT COUNTS. Prove the row's statement (the work); the ties are given (YtfondhlknkhmmaaDoorTie.lean); close each card by the builder's one call (the guide's Derived/Test/ToyasCard.lean, 'card_holds'). Laid BY PROGRAM, IN A SANDBOX (cutbox-door.mjs). By AI agents, Wed Nov 11 2026. No macro, syntax, notation, axiom, sorry.
-/
import Derived.Test.YtfondhlknkhmmaaDoorRows
import GoSem.ClaimSeven
namespace Go.Proofs.YtfondhlknkhmmaaDoor
namespace Rows

/-- THE TIED CARD OF 'laws.FnExactStateOK'. -/
def fnExactStateOKCard : Claim7 := { stood := { row := fnExactStateOKRow, standIns := [], harness := (true, "4749d7d523e5575cd49911402a8e920e274513ca8113c0f2efe99780d71815e0"), looks := true }, kinds := [], alts := [], laidByText := true, laidKinds := [.data, .data, .data, .sentinel, .sentinel], laidTests := true, laidLooks := .later }
def FnExactStateOKCardSaid : Prop := Claim7.holds Tryd.pinned (.plain (OpenSpec.ofChange fnExactStateOKSpec)) fnExactStateOKCard

/-- THE TIED CARD OF 'laws.FnExactDueWindow'. -/
def fnExactDueWindowCard : Claim7 := { stood := { row := fnExactDueWindowRow, standIns := [], harness := (true, "4749d7d523e5575cd49911402a8e920e274513ca8113c0f2efe99780d71815e0"), looks := true }, kinds := [], alts := [], laidByText := true, laidKinds := [.data, .data, .data, .sentinel, .sentinel], laidTests := true, laidLooks := .later }
def FnExactDueWindowCardSaid : Prop := Claim7.holds Tryd.pinned (.plain (OpenSpec.ofChange fnExactDueWindowSpec)) fnExactDueWindowCard

/-- THE TIED CARD OF 'laws.FnExactExpiredEntry'. -/
def fnExactExpiredEntryCard : Claim7 := { stood := { row := fnExactExpiredEntryRow, standIns := [], harness := (true, "4749d7d523e5575cd49911402a8e920e274513ca8113c0f2efe99780d71815e0"), looks := true }, kinds := [], alts := [], laidByText := true, laidKinds := [.data, .data, .data, .sentinel, .sentinel], laidTests := true, laidLooks := .later }
def FnExactExpiredEntryCardSaid : Prop := Claim7.holds Tryd.pinned (.plain (OpenSpec.ofChange fnExactExpiredEntrySpec)) fnExactExpiredEntryCard

/-- THE SECOND FORM's CARD OF 'laws.FnExactStateOK'. -/
def fnExactStateOKUptoCard : Claim7 := { stood := { row := fnExactStateOKUptoRow, standIns := [], harness := (true, "4749d7d523e5575cd49911402a8e920e274513ca8113c0f2efe99780d71815e0"), looks := true }, kinds := [], alts := [], laidByText := true, laidKinds := [.data, .data, .data, .sentinel, .sentinel], laidTests := true, laidLooks := .later }
def FnExactStateOKUptoCardSaid : Prop := Claim7.holds Tryd.pinned (.plain (OpenSpec.upto fnExactStateOKSpec)) fnExactStateOKUptoCard

/-- THE SECOND FORM's CARD OF 'laws.FnExactDueWindow'. -/
def fnExactDueWindowUptoCard : Claim7 := { stood := { row := fnExactDueWindowUptoRow, standIns := [], harness := (true, "4749d7d523e5575cd49911402a8e920e274513ca8113c0f2efe99780d71815e0"), looks := true }, kinds := [], alts := [], laidByText := true, laidKinds := [.data, .data, .data, .sentinel, .sentinel], laidTests := true, laidLooks := .later }
def FnExactDueWindowUptoCardSaid : Prop := Claim7.holds Tryd.pinned (.plain (OpenSpec.upto fnExactDueWindowSpec)) fnExactDueWindowUptoCard

/-- THE SECOND FORM's CARD OF 'laws.FnExactExpiredEntry'. -/
def fnExactExpiredEntryUptoCard : Claim7 := { stood := { row := fnExactExpiredEntryUptoRow, standIns := [], harness := (true, "4749d7d523e5575cd49911402a8e920e274513ca8113c0f2efe99780d71815e0"), looks := true }, kinds := [], alts := [], laidByText := true, laidKinds := [.data, .data, .data, .sentinel, .sentinel], laidTests := true, laidLooks := .later }
def FnExactExpiredEntryUptoCardSaid : Prop := Claim7.holds Tryd.pinned (.plain (OpenSpec.upto fnExactExpiredEntrySpec)) fnExactExpiredEntryUptoCard
end Rows
end Go.Proofs.YtfondhlknkhmmaaDoor
