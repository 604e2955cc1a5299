/-
  DERIVED. GIVEN WITH THE SEED: THE CARDS: each row of YtfondhlknkhmmaaGreatDoorRows.lean that lists a variable, with what it lists TIED to the program's text (the seventh form; the later family's looks); each row that meets fmt, with fmt's text TOLD by the authors' own Lean function (tested against real Go, not proved from fmt's source: count such statements apart). THE CARD IS WHAT COUNTS. Prove the row's statement (the work); the ties are given (YtfondhlknkhmmaaGreatDoorTie.lean); close each card by the builder's one call (the guide's Derived/Test/ToyasCard.lean, 'card_holds'). Laid BY PROGRAM, IN A SANDBOX (cutbox-door.mjs). By AI agents, Wed Nov 11 2026. No macro, syntax, notation, axiom, sorry.
-/
import Derived.Test.YtfondhlknkhmmaaGreatDoorRows
import GoSem.ClaimSeven
namespace Go.Proofs.YtfondhlknkhmmaaGreatDoor
namespace Rows

/-- THE TIED CARD OF 'laws.FnExactOrphansOf'. -/
def fnExactOrphansOfCard : Claim7 := { stood := { row := fnExactOrphansOfRow, standIns := [], harness := (true, "e2042901abe41af4a833067c830a41e10b09220174dbe6404b7bf3252cf83739"), looks := true }, kinds := [], alts := [], laidByText := true, laidKinds := [.data, .data, .data, .sentinel, .sentinel], laidTests := true, laidLooks := .later }
def FnExactOrphansOfCardSaid : Prop := Claim7.holds Tryz.pinned (.plain (OpenSpec.ofChange fnExactOrphansOfSpec)) fnExactOrphansOfCard

/-- THE SECOND FORM's CARD OF 'laws.FnExactOrphansOf'. -/
def fnExactOrphansOfUptoCard : Claim7 := { stood := { row := fnExactOrphansOfUptoRow, standIns := [], harness := (true, "e2042901abe41af4a833067c830a41e10b09220174dbe6404b7bf3252cf83739"), looks := true }, kinds := [], alts := [], laidByText := true, laidKinds := [.data, .data, .data, .sentinel, .sentinel], laidTests := true, laidLooks := .later }
def FnExactOrphansOfUptoCardSaid : Prop := Claim7.holds Tryz.pinned (.plain (OpenSpec.upto fnExactOrphansOfSpec)) fnExactOrphansOfUptoCard
end Rows
end Go.Proofs.YtfondhlknkhmmaaGreatDoor
