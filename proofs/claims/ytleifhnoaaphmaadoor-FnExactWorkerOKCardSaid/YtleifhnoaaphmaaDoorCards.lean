/-
  DERIVED. GIVEN WITH THE SEED: THE CARDS: each row of YtleifhnoaaphmaaDoorRows.lean that lists a variable, with what it lists TIED to the program's text (the seventh form; the later family's looks); each row that meets fmt, with fmt's text TOLD by the authors' own Lean function (tested against real Go, not proved from fmt's source: count such statements apart). THE CARD IS WHAT COUNTS. Prove the row's statement (the work); the ties are given (YtleifhnoaaphmaaDoorTie.lean); close each card by the builder's one call (the guide's Derived/Test/ToyasCard.lean, 'card_holds'). Laid BY PROGRAM, IN A SANDBOX (cutbox-door.mjs). By AI agents, Wed Nov 11 2026. No macro, syntax, notation, axiom, sorry.
-/
import Derived.Test.YtleifhnoaaphmaaDoorRows
import GoSem.ClaimSeven
namespace Go.Proofs.YtleifhnoaaphmaaDoor
namespace Rows

/-- THE TIED CARD OF 'laws.FnExactDataKeys'. -/
def fnExactDataKeysCard : Claim7 := { stood := { row := fnExactDataKeysRow, standIns := [], harness := (true, "73e542857238418574b4f4449bf75f0aebce91033fb9fc1f2229ef47e71c9419"), looks := true }, kinds := [], alts := [], laidByText := true, laidKinds := [.data, .data, .data, .sentinel, .sentinel], laidTests := true, laidLooks := .later }
def FnExactDataKeysCardSaid : Prop := Claim7.holds Tryd.pinned (.plain (OpenSpec.ofChange fnExactDataKeysSpec)) fnExactDataKeysCard

/-- THE TIED CARD OF 'laws.FnExactWorkerOK'. -/
def fnExactWorkerOKCard : Claim7 := { stood := { row := fnExactWorkerOKRow, standIns := [], harness := (true, "73e542857238418574b4f4449bf75f0aebce91033fb9fc1f2229ef47e71c9419"), looks := true }, kinds := [], alts := [], laidByText := true, laidKinds := [.data, .data, .data, .sentinel, .sentinel], laidTests := true, laidLooks := .later }
def FnExactWorkerOKCardSaid : Prop := Claim7.holds Tryd.pinned (.plain (OpenSpec.ofChange fnExactWorkerOKSpec)) fnExactWorkerOKCard

/-- THE TIED CARD OF 'laws.FnExactReaderOK'. -/
def fnExactReaderOKCard : Claim7 := { stood := { row := fnExactReaderOKRow, standIns := [], harness := (true, "73e542857238418574b4f4449bf75f0aebce91033fb9fc1f2229ef47e71c9419"), looks := true }, kinds := [], alts := [], laidByText := true, laidKinds := [.data, .data, .data, .sentinel, .sentinel], laidTests := true, laidLooks := .later }
def FnExactReaderOKCardSaid : Prop := Claim7.holds Tryd.pinned (.plain (OpenSpec.ofChange fnExactReaderOKSpec)) fnExactReaderOKCard

/-- THE TIED CARD OF 'laws.FnExactAskReader'. -/
def fnExactAskReaderCard : Claim7 := { stood := { row := fnExactAskReaderRow, standIns := [], harness := (true, "73e542857238418574b4f4449bf75f0aebce91033fb9fc1f2229ef47e71c9419"), looks := true }, kinds := [], alts := [], laidByText := true, laidKinds := [.data, .data, .data, .sentinel, .sentinel], laidTests := true, laidLooks := .later }
def FnExactAskReaderCardSaid : Prop := Claim7.holds Tryd.pinned (.plain (OpenSpec.ofChange fnExactAskReaderSpec)) fnExactAskReaderCard

/-- THE TIED CARD OF 'laws.FnExactLeaseOf'. -/
def fnExactLeaseOfCard : Claim7 := { stood := { row := fnExactLeaseOfRow, standIns := [], harness := (true, "73e542857238418574b4f4449bf75f0aebce91033fb9fc1f2229ef47e71c9419"), looks := true }, kinds := [], alts := [], laidByText := true, laidKinds := [.data, .data, .data, .data, .sentinel, .sentinel, .pinned], laidTests := true, laidLooks := .later }
def FnExactLeaseOfCardSaid : Prop := Claim7.holds Tryd.pinned (.plain (OpenSpec.ofChange fnExactLeaseOfSpec)) fnExactLeaseOfCard

/-- THE SECOND FORM's CARD OF 'laws.FnExactDataKeys'. -/
def fnExactDataKeysUptoCard : Claim7 := { stood := { row := fnExactDataKeysUptoRow, standIns := [], harness := (true, "73e542857238418574b4f4449bf75f0aebce91033fb9fc1f2229ef47e71c9419"), looks := true }, kinds := [], alts := [], laidByText := true, laidKinds := [.data, .data, .data, .sentinel, .sentinel], laidTests := true, laidLooks := .later }
def FnExactDataKeysUptoCardSaid : Prop := Claim7.holds Tryd.pinned (.plain (OpenSpec.upto fnExactDataKeysSpec)) fnExactDataKeysUptoCard

/-- THE SECOND FORM's CARD OF 'laws.FnExactWorkerOK'. -/
def fnExactWorkerOKUptoCard : Claim7 := { stood := { row := fnExactWorkerOKUptoRow, standIns := [], harness := (true, "73e542857238418574b4f4449bf75f0aebce91033fb9fc1f2229ef47e71c9419"), looks := true }, kinds := [], alts := [], laidByText := true, laidKinds := [.data, .data, .data, .sentinel, .sentinel], laidTests := true, laidLooks := .later }
def FnExactWorkerOKUptoCardSaid : Prop := Claim7.holds Tryd.pinned (.plain (OpenSpec.upto fnExactWorkerOKSpec)) fnExactWorkerOKUptoCard

/-- THE SECOND FORM's CARD OF 'laws.FnExactReaderOK'. -/
def fnExactReaderOKUptoCard : Claim7 := { stood := { row := fnExactReaderOKUptoRow, standIns := [], harness := (true, "73e542857238418574b4f4449bf75f0aebce91033fb9fc1f2229ef47e71c9419"), looks := true }, kinds := [], alts := [], laidByText := true, laidKinds := [.data, .data, .data, .sentinel, .sentinel], laidTests := true, laidLooks := .later }
def FnExactReaderOKUptoCardSaid : Prop := Claim7.holds Tryd.pinned (.plain (OpenSpec.upto fnExactReaderOKSpec)) fnExactReaderOKUptoCard

/-- THE SECOND FORM's CARD OF 'laws.FnExactAskReader'. -/
def fnExactAskReaderUptoCard : Claim7 := { stood := { row := fnExactAskReaderUptoRow, standIns := [], harness := (true, "73e542857238418574b4f4449bf75f0aebce91033fb9fc1f2229ef47e71c9419"), looks := true }, kinds := [], alts := [], laidByText := true, laidKinds := [.data, .data, .data, .sentinel, .sentinel], laidTests := true, laidLooks := .later }
def FnExactAskReaderUptoCardSaid : Prop := Claim7.holds Tryd.pinned (.plain (OpenSpec.upto fnExactAskReaderSpec)) fnExactAskReaderUptoCard

/-- THE SECOND FORM's CARD OF 'laws.FnExactLeaseOf'. -/
def fnExactLeaseOfUptoCard : Claim7 := { stood := { row := fnExactLeaseOfUptoRow, standIns := [], harness := (true, "73e542857238418574b4f4449bf75f0aebce91033fb9fc1f2229ef47e71c9419"), looks := true }, kinds := [], alts := [], laidByText := true, laidKinds := [.data, .data, .data, .data, .sentinel, .sentinel, .pinned], laidTests := true, laidLooks := .later }
def FnExactLeaseOfUptoCardSaid : Prop := Claim7.holds Tryd.pinned (.plain (OpenSpec.upto fnExactLeaseOfSpec)) fnExactLeaseOfUptoCard
end Rows
end Go.Proofs.YtleifhnoaaphmaaDoor
