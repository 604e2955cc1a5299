/-
  DERIVED. GIVEN WITH THE SEED: THE CARDS: each row of YtbdhpmamlibmhaaDoorRows.lean that lists a variable, with what it lists TIED to the program's text (the seventh form; the later family's looks); each row that meets fmt, with fmt's text TOLD by the authors' own Lean function (tested against real Go, not proved from fmt's source: count such statements apart). THE CARD IS WHAT COUNTS. Prove the row's statement (the work); the ties are given (YtbdhpmamlibmhaaDoorTie.lean); close each card by the builder's one call (the guide's Derived/Test/ToyasCard.lean, 'card_holds'). Laid BY PROGRAM, IN A SANDBOX (cutbox-door.mjs). By AI agents, Wed Nov 11 2026. No macro, syntax, notation, axiom, sorry.
-/
import Derived.Test.YtbdhpmamlibmhaaDoorRows
import GoSem.ClaimSeven
namespace Go.Proofs.YtbdhpmamlibmhaaDoor
namespace Rows

/-- THE TIED CARD OF 'laws.FnExactPinKey'. -/
def fnExactPinKeyCard : Claim7 := { stood := { row := fnExactPinKeyRow, standIns := [], harness := (true, "dff28ac977c656e6e9ce6efc3fc78e73e5daa9c22265200157fe11d81197d3d4"), looks := true }, kinds := [], alts := [], laidByText := true, laidKinds := [.data, .data, .data], laidTests := true, laidLooks := .later }
def FnExactPinKeyCardSaid : Prop := Claim7.holds Tryd.pinned (.plain (OpenSpec.ofChange fnExactPinKeySpec)) fnExactPinKeyCard

/-- THE TIED CARD OF 'laws.FnExactDataKey'. -/
def fnExactDataKeyCard : Claim7 := { stood := { row := fnExactDataKeyRow, standIns := [], harness := (true, "dff28ac977c656e6e9ce6efc3fc78e73e5daa9c22265200157fe11d81197d3d4"), looks := true }, kinds := [], alts := [], laidByText := true, laidKinds := [.data, .data, .data], laidTests := true, laidLooks := .later }
def FnExactDataKeyCardSaid : Prop := Claim7.holds Tryd.pinned (.plain (OpenSpec.ofChange fnExactDataKeySpec)) fnExactDataKeyCard

/-- THE TIED CARD OF 'laws.FnExactSamplesText'. -/
def fnExactSamplesTextCard : Claim7 := { stood := { row := fnExactSamplesTextRow, standIns := [], harness := (true, "dff28ac977c656e6e9ce6efc3fc78e73e5daa9c22265200157fe11d81197d3d4"), looks := true }, kinds := [], alts := [], laidByText := true, laidKinds := [.data, .data, .data], laidTests := true, laidLooks := .later }
def FnExactSamplesTextCardSaid : Prop := Claim7.holds Tryd.pinned (.plain (OpenSpec.ofChange fnExactSamplesTextSpec)) fnExactSamplesTextCard

/-- THE TIED CARD OF 'laws.FnExactReadDataKey'. -/
def fnExactReadDataKeyCard : Claim7 := { stood := { row := fnExactReadDataKeyRow, standIns := [], harness := (true, "dff28ac977c656e6e9ce6efc3fc78e73e5daa9c22265200157fe11d81197d3d4"), looks := true }, kinds := [], alts := [], laidByText := true, laidKinds := [.data, .data, .data, .sentinel, .sentinel], laidTests := true, laidLooks := .later }
def FnExactReadDataKeyCardSaid : Prop := Claim7.holds Tryd.pinned (.plain (OpenSpec.ofChange fnExactReadDataKeySpec)) fnExactReadDataKeyCard

/-- THE TIED CARD OF 'laws.FnExactReadAgg'. -/
def fnExactReadAggCard : Claim7 := { stood := { row := fnExactReadAggRow, standIns := [], harness := (true, "dff28ac977c656e6e9ce6efc3fc78e73e5daa9c22265200157fe11d81197d3d4"), looks := true }, kinds := [], alts := [], laidByText := true, laidKinds := [.data, .data, .data, .data, .sentinel, .sentinel, .pinned], laidTests := true, laidLooks := .later }
def FnExactReadAggCardSaid : Prop := Claim7.holds Tryd.pinned (.plain (OpenSpec.ofChange fnExactReadAggSpec)) fnExactReadAggCard

/-- THE TIED CARD OF 'laws.FnExactReadLease'. -/
def fnExactReadLeaseCard : Claim7 := { stood := { row := fnExactReadLeaseRow, standIns := [], harness := (true, "dff28ac977c656e6e9ce6efc3fc78e73e5daa9c22265200157fe11d81197d3d4"), looks := true }, kinds := [], alts := [], laidByText := true, laidKinds := [.data, .data, .data, .data, .sentinel, .sentinel, .pinned], laidTests := true, laidLooks := .later }
def FnExactReadLeaseCardSaid : Prop := Claim7.holds Tryd.pinned (.plain (OpenSpec.ofChange fnExactReadLeaseSpec)) fnExactReadLeaseCard

/-- THE TIED CARD OF 'laws.FnExactReadSamples'. -/
def fnExactReadSamplesCard : Claim7 := { stood := { row := fnExactReadSamplesRow, standIns := [], harness := (true, "dff28ac977c656e6e9ce6efc3fc78e73e5daa9c22265200157fe11d81197d3d4"), looks := true }, kinds := [], alts := [], laidByText := true, laidKinds := [.data, .data, .data, .data, .sentinel, .sentinel, .pinned], laidTests := true, laidLooks := .later }
def FnExactReadSamplesCardSaid : Prop := Claim7.holds Tryd.pinned (.plain (OpenSpec.ofChange fnExactReadSamplesSpec)) fnExactReadSamplesCard

/-- THE TIED CARD OF 'laws.FnExactReadBuckets'. -/
def fnExactReadBucketsCard : Claim7 := { stood := { row := fnExactReadBucketsRow, standIns := [], harness := (true, "dff28ac977c656e6e9ce6efc3fc78e73e5daa9c22265200157fe11d81197d3d4"), looks := true }, kinds := [], alts := [], laidByText := true, laidKinds := [.data, .data, .data, .data, .sentinel, .sentinel, .pinned], laidTests := true, laidLooks := .later }
def FnExactReadBucketsCardSaid : Prop := Claim7.holds Tryd.pinned (.plain (OpenSpec.ofChange fnExactReadBucketsSpec)) fnExactReadBucketsCard

/-- THE TIED CARD OF 'laws.FnExactReadRecord'. -/
def fnExactReadRecordCard : Claim7 := { stood := { row := fnExactReadRecordRow, standIns := [], harness := (true, "dff28ac977c656e6e9ce6efc3fc78e73e5daa9c22265200157fe11d81197d3d4"), looks := true }, kinds := [], alts := [], laidByText := true, laidKinds := [.data, .data, .data, .data, .sentinel, .sentinel, .pinned], laidTests := true, laidLooks := .later }
def FnExactReadRecordCardSaid : Prop := Claim7.holds Tryd.pinned (.plain (OpenSpec.ofChange fnExactReadRecordSpec)) fnExactReadRecordCard

/-- THE TIED CARD OF 'laws.FnExactRecordOK'. -/
def fnExactRecordOKCard : Claim7 := { stood := { row := fnExactRecordOKRow, standIns := [], harness := (true, "dff28ac977c656e6e9ce6efc3fc78e73e5daa9c22265200157fe11d81197d3d4"), looks := true }, kinds := [], alts := [], laidByText := true, laidKinds := [.data, .data, .data, .sentinel, .sentinel], laidTests := true, laidLooks := .later }
def FnExactRecordOKCardSaid : Prop := Claim7.holds Tryd.pinned (.plain (OpenSpec.ofChange fnExactRecordOKSpec)) fnExactRecordOKCard

/-- THE SECOND FORM's CARD OF 'laws.FnExactPinKey'. -/
def fnExactPinKeyUptoCard : Claim7 := { stood := { row := fnExactPinKeyUptoRow, standIns := [], harness := (true, "dff28ac977c656e6e9ce6efc3fc78e73e5daa9c22265200157fe11d81197d3d4"), looks := true }, kinds := [], alts := [], laidByText := true, laidKinds := [.data, .data, .data], laidTests := true, laidLooks := .later }
def FnExactPinKeyUptoCardSaid : Prop := Claim7.holds Tryd.pinned (.plain (OpenSpec.upto fnExactPinKeySpec)) fnExactPinKeyUptoCard

/-- THE SECOND FORM's CARD OF 'laws.FnExactDataKey'. -/
def fnExactDataKeyUptoCard : Claim7 := { stood := { row := fnExactDataKeyUptoRow, standIns := [], harness := (true, "dff28ac977c656e6e9ce6efc3fc78e73e5daa9c22265200157fe11d81197d3d4"), looks := true }, kinds := [], alts := [], laidByText := true, laidKinds := [.data, .data, .data], laidTests := true, laidLooks := .later }
def FnExactDataKeyUptoCardSaid : Prop := Claim7.holds Tryd.pinned (.plain (OpenSpec.upto fnExactDataKeySpec)) fnExactDataKeyUptoCard

/-- THE SECOND FORM's CARD OF 'laws.FnExactSamplesText'. -/
def fnExactSamplesTextUptoCard : Claim7 := { stood := { row := fnExactSamplesTextUptoRow, standIns := [], harness := (true, "dff28ac977c656e6e9ce6efc3fc78e73e5daa9c22265200157fe11d81197d3d4"), looks := true }, kinds := [], alts := [], laidByText := true, laidKinds := [.data, .data, .data], laidTests := true, laidLooks := .later }
def FnExactSamplesTextUptoCardSaid : Prop := Claim7.holds Tryd.pinned (.plain (OpenSpec.upto fnExactSamplesTextSpec)) fnExactSamplesTextUptoCard

/-- THE SECOND FORM's CARD OF 'laws.FnExactReadDataKey'. -/
def fnExactReadDataKeyUptoCard : Claim7 := { stood := { row := fnExactReadDataKeyUptoRow, standIns := [], harness := (true, "dff28ac977c656e6e9ce6efc3fc78e73e5daa9c22265200157fe11d81197d3d4"), looks := true }, kinds := [], alts := [], laidByText := true, laidKinds := [.data, .data, .data, .sentinel, .sentinel], laidTests := true, laidLooks := .later }
def FnExactReadDataKeyUptoCardSaid : Prop := Claim7.holds Tryd.pinned (.plain (OpenSpec.upto fnExactReadDataKeySpec)) fnExactReadDataKeyUptoCard

/-- THE SECOND FORM's CARD OF 'laws.FnExactReadAgg'. -/
def fnExactReadAggUptoCard : Claim7 := { stood := { row := fnExactReadAggUptoRow, standIns := [], harness := (true, "dff28ac977c656e6e9ce6efc3fc78e73e5daa9c22265200157fe11d81197d3d4"), looks := true }, kinds := [], alts := [], laidByText := true, laidKinds := [.data, .data, .data, .data, .sentinel, .sentinel, .pinned], laidTests := true, laidLooks := .later }
def FnExactReadAggUptoCardSaid : Prop := Claim7.holds Tryd.pinned (.plain (OpenSpec.upto fnExactReadAggSpec)) fnExactReadAggUptoCard

/-- THE SECOND FORM's CARD OF 'laws.FnExactReadLease'. -/
def fnExactReadLeaseUptoCard : Claim7 := { stood := { row := fnExactReadLeaseUptoRow, standIns := [], harness := (true, "dff28ac977c656e6e9ce6efc3fc78e73e5daa9c22265200157fe11d81197d3d4"), looks := true }, kinds := [], alts := [], laidByText := true, laidKinds := [.data, .data, .data, .data, .sentinel, .sentinel, .pinned], laidTests := true, laidLooks := .later }
def FnExactReadLeaseUptoCardSaid : Prop := Claim7.holds Tryd.pinned (.plain (OpenSpec.upto fnExactReadLeaseSpec)) fnExactReadLeaseUptoCard

/-- THE SECOND FORM's CARD OF 'laws.FnExactReadSamples'. -/
def fnExactReadSamplesUptoCard : Claim7 := { stood := { row := fnExactReadSamplesUptoRow, standIns := [], harness := (true, "dff28ac977c656e6e9ce6efc3fc78e73e5daa9c22265200157fe11d81197d3d4"), looks := true }, kinds := [], alts := [], laidByText := true, laidKinds := [.data, .data, .data, .data, .sentinel, .sentinel, .pinned], laidTests := true, laidLooks := .later }
def FnExactReadSamplesUptoCardSaid : Prop := Claim7.holds Tryd.pinned (.plain (OpenSpec.upto fnExactReadSamplesSpec)) fnExactReadSamplesUptoCard

/-- THE SECOND FORM's CARD OF 'laws.FnExactReadBuckets'. -/
def fnExactReadBucketsUptoCard : Claim7 := { stood := { row := fnExactReadBucketsUptoRow, standIns := [], harness := (true, "dff28ac977c656e6e9ce6efc3fc78e73e5daa9c22265200157fe11d81197d3d4"), looks := true }, kinds := [], alts := [], laidByText := true, laidKinds := [.data, .data, .data, .data, .sentinel, .sentinel, .pinned], laidTests := true, laidLooks := .later }
def FnExactReadBucketsUptoCardSaid : Prop := Claim7.holds Tryd.pinned (.plain (OpenSpec.upto fnExactReadBucketsSpec)) fnExactReadBucketsUptoCard

/-- THE SECOND FORM's CARD OF 'laws.FnExactReadRecord'. -/
def fnExactReadRecordUptoCard : Claim7 := { stood := { row := fnExactReadRecordUptoRow, standIns := [], harness := (true, "dff28ac977c656e6e9ce6efc3fc78e73e5daa9c22265200157fe11d81197d3d4"), looks := true }, kinds := [], alts := [], laidByText := true, laidKinds := [.data, .data, .data, .data, .sentinel, .sentinel, .pinned], laidTests := true, laidLooks := .later }
def FnExactReadRecordUptoCardSaid : Prop := Claim7.holds Tryd.pinned (.plain (OpenSpec.upto fnExactReadRecordSpec)) fnExactReadRecordUptoCard

/-- THE SECOND FORM's CARD OF 'laws.FnExactRecordOK'. -/
def fnExactRecordOKUptoCard : Claim7 := { stood := { row := fnExactRecordOKUptoRow, standIns := [], harness := (true, "dff28ac977c656e6e9ce6efc3fc78e73e5daa9c22265200157fe11d81197d3d4"), looks := true }, kinds := [], alts := [], laidByText := true, laidKinds := [.data, .data, .data, .sentinel, .sentinel], laidTests := true, laidLooks := .later }
def FnExactRecordOKUptoCardSaid : Prop := Claim7.holds Tryd.pinned (.plain (OpenSpec.upto fnExactRecordOKSpec)) fnExactRecordOKUptoCard
end Rows
end Go.Proofs.YtbdhpmamlibmhaaDoor
