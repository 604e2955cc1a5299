/-
  No cell of these rows narrows 'for every input' (looked for: loops, veiled, ifaces, maps, wideKeys, modest, calm, conditions, laid).
  DERIVED. THE GIVEN ROWS OF THIS SEAT. 20 by the template 'for every input the law returns true; each argument reads behind the call as it read before'; 0 by the template 'total and deterministic' (their statements: YtllpmcoknljhcaaTotals.lean).
  GIVEN WITH THE SEED: the statements are not yours to turn. If you find one false, say at which input.
  Laid BY PROGRAM, IN A SANDBOX (cutbox-rows.mjs): the forced cells as the released guide's own fill.sh prints them over the translation 1d205722f642df56… (all of the seat's roots in one cut). By AI agents, Wed Nov 11 2026. No macro, syntax, notation, axiom, sorry.
-/
import Derived.Test.YtllpmcoknljhcaaChecked
import GoSem.Claim
import GoSem.ClaimJoined
import GoSem.ClaimMapViews
import Derived.JoinedTies
import Derived.KernelRfl
namespace Go.Proofs.Ytllpmcoknljhcaa
/- THE CELL 'sum', in the pinned program and in every row, IS THE sha256 OF THE DUMP (.gsa) THAT YtllpmcoknljhcaaProg.lean LOADS. Nothing in Lean hashes anything: it is a label: what it is worth is what the hold of that sum in a sandbox is worth. -/
noncomputable def Try.pinned : Pinned := { name := "ytllpmcoknljhcaa", sum := "1d205722f642df56e3f3bf879537f35b828c74c931731d4cd1d96067599e4c42", checked := Try.checked }
namespace Rows
def none {H : Type} : Left H := { results := [], args := [] }

/-- 'laws.FnExactMeanOf': WHATEVER THE INPUT: true; the input reads as it did. -/
def fnExactMeanOfSpec : ChangeSpec := { name := "fnExactMeanOf", fn := fun _ => fun
  | [d] => { results := [.lit (.bool true)], args := [d] }
  | _ => none }
def fnExactMeanOfRow : OpenClaim := { program := "ytllpmcoknljhcaa", sum := "1d205722f642df56e3f3bf879537f35b828c74c931731d4cd1d96067599e4c42", func := "loop.example/g00601/laws.FnExactMeanOf", spec := "fnExactMeanOf", apart := false }
def FnExactMeanOfSaid : Prop := fnExactMeanOfRow.holds Try.pinned (OpenSpec.ofChange fnExactMeanOfSpec)

/-- ITS FALSE NEIGHBOUR: 'it returns false'. Refute it at one input. -/
def fnExactMeanOfWrong : ChangeSpec := { name := "fnExactMeanOf", fn := fun _ => fun
  | [d] => { results := [.lit (.bool false)], args := [d] }
  | _ => none }
def FnExactMeanOfWrongFalsely : Prop := fnExactMeanOfRow.holds Try.pinned (OpenSpec.ofChange fnExactMeanOfWrong)

/-- 'laws.FnExactSamplesOK': WHATEVER THE INPUT: true; the input reads as it did. -/
def fnExactSamplesOKSpec : ChangeSpec := { name := "fnExactSamplesOK", fn := fun _ => fun
  | [d] => { results := [.lit (.bool true)], args := [d] }
  | _ => none }
def fnExactSamplesOKRow : OpenClaim := { program := "ytllpmcoknljhcaa", sum := "1d205722f642df56e3f3bf879537f35b828c74c931731d4cd1d96067599e4c42", func := "loop.example/g00601/laws.FnExactSamplesOK", spec := "fnExactSamplesOK", apart := false }
def FnExactSamplesOKSaid : Prop := fnExactSamplesOKRow.holds Try.pinned (OpenSpec.ofChange fnExactSamplesOKSpec)

/-- ITS FALSE NEIGHBOUR: 'it returns false'. Refute it at one input. -/
def fnExactSamplesOKWrong : ChangeSpec := { name := "fnExactSamplesOK", fn := fun _ => fun
  | [d] => { results := [.lit (.bool false)], args := [d] }
  | _ => none }
def FnExactSamplesOKWrongFalsely : Prop := fnExactSamplesOKRow.holds Try.pinned (OpenSpec.ofChange fnExactSamplesOKWrong)

/-- 'laws.FnExactNewStore': WHATEVER THE INPUT: true; the input reads as it did. -/
def fnExactNewStoreSpec : ChangeSpec := { name := "fnExactNewStore", fn := fun _ => fun
  | [] => { results := [.lit (.bool true)], args := [] }
  | _ => none }
def fnExactNewStoreRow : OpenClaim := { program := "ytllpmcoknljhcaa", sum := "1d205722f642df56e3f3bf879537f35b828c74c931731d4cd1d96067599e4c42", func := "loop.example/g00601/laws.FnExactNewStore", spec := "fnExactNewStore", apart := false }
def FnExactNewStoreSaid : Prop := fnExactNewStoreRow.holds Try.pinned (OpenSpec.ofChange fnExactNewStoreSpec)

/-- ITS FALSE NEIGHBOUR: 'it returns false'. Refute it at one input. -/
def fnExactNewStoreWrong : ChangeSpec := { name := "fnExactNewStore", fn := fun _ => fun
  | [] => { results := [.lit (.bool false)], args := [] }
  | _ => none }
def FnExactNewStoreWrongFalsely : Prop := fnExactNewStoreRow.holds Try.pinned (OpenSpec.ofChange fnExactNewStoreWrong)

/-- 'laws.FnExactNewIngester': WHATEVER THE INPUT: true; the input reads as it did. -/
def fnExactNewIngesterSpec : ChangeSpec := { name := "fnExactNewIngester", fn := fun _ => fun
  | [d] => { results := [.lit (.bool true)], args := [d] }
  | _ => none }
def fnExactNewIngesterRow : OpenClaim := { program := "ytllpmcoknljhcaa", sum := "1d205722f642df56e3f3bf879537f35b828c74c931731d4cd1d96067599e4c42", func := "loop.example/g00601/laws.FnExactNewIngester", spec := "fnExactNewIngester", apart := false }
def FnExactNewIngesterSaid : Prop := fnExactNewIngesterRow.holds Try.pinned (OpenSpec.ofChange fnExactNewIngesterSpec)

/-- ITS FALSE NEIGHBOUR: 'it returns false'. Refute it at one input. -/
def fnExactNewIngesterWrong : ChangeSpec := { name := "fnExactNewIngester", fn := fun _ => fun
  | [d] => { results := [.lit (.bool false)], args := [d] }
  | _ => none }
def FnExactNewIngesterWrongFalsely : Prop := fnExactNewIngesterRow.holds Try.pinned (OpenSpec.ofChange fnExactNewIngesterWrong)

/-- 'laws.FnExactMergeAgg': WHATEVER THE INPUT: true; the input reads as it did. -/
def fnExactMergeAggSpec : ChangeSpec := { name := "fnExactMergeAgg", fn := fun _ => fun
  | [d1, d2] => { results := [.lit (.bool true)], args := [d1, d2] }
  | _ => none }
def fnExactMergeAggRow : OpenClaim := { program := "ytllpmcoknljhcaa", sum := "1d205722f642df56e3f3bf879537f35b828c74c931731d4cd1d96067599e4c42", func := "loop.example/g00601/laws.FnExactMergeAgg", spec := "fnExactMergeAgg", apart := false }
def FnExactMergeAggSaid : Prop := fnExactMergeAggRow.holds Try.pinned (OpenSpec.ofChange fnExactMergeAggSpec)

/-- ITS FALSE NEIGHBOUR: 'it returns false'. Refute it at one input. -/
def fnExactMergeAggWrong : ChangeSpec := { name := "fnExactMergeAgg", fn := fun _ => fun
  | [d1, d2] => { results := [.lit (.bool false)], args := [d1, d2] }
  | _ => none }
def FnExactMergeAggWrongFalsely : Prop := fnExactMergeAggRow.holds Try.pinned (OpenSpec.ofChange fnExactMergeAggWrong)

/-- 'laws.FnExactSameIngester': WHATEVER THE INPUT: true; the input reads as it did. -/
def fnExactSameIngesterSpec : ChangeSpec := { name := "fnExactSameIngester", fn := fun _ => fun
  | [d1, d2] => { results := [.lit (.bool true)], args := [d1, d2] }
  | _ => none }
def fnExactSameIngesterRow : OpenClaim := { program := "ytllpmcoknljhcaa", sum := "1d205722f642df56e3f3bf879537f35b828c74c931731d4cd1d96067599e4c42", func := "loop.example/g00601/laws.FnExactSameIngester", spec := "fnExactSameIngester", apart := false }
def FnExactSameIngesterSaid : Prop := fnExactSameIngesterRow.holds Try.pinned (OpenSpec.ofChange fnExactSameIngesterSpec)

/-- ITS FALSE NEIGHBOUR: 'it returns false'. Refute it at one input. -/
def fnExactSameIngesterWrong : ChangeSpec := { name := "fnExactSameIngester", fn := fun _ => fun
  | [d1, d2] => { results := [.lit (.bool false)], args := [d1, d2] }
  | _ => none }
def FnExactSameIngesterWrongFalsely : Prop := fnExactSameIngesterRow.holds Try.pinned (OpenSpec.ofChange fnExactSameIngesterWrong)

/-- 'laws.FnExactSameStore': WHATEVER THE INPUT: true; the input reads as it did. -/
def fnExactSameStoreSpec : ChangeSpec := { name := "fnExactSameStore", fn := fun _ => fun
  | [d1, d2] => { results := [.lit (.bool true)], args := [d1, d2] }
  | _ => none }
def fnExactSameStoreRow : OpenClaim := { program := "ytllpmcoknljhcaa", sum := "1d205722f642df56e3f3bf879537f35b828c74c931731d4cd1d96067599e4c42", func := "loop.example/g00601/laws.FnExactSameStore", spec := "fnExactSameStore", apart := false }
def FnExactSameStoreSaid : Prop := fnExactSameStoreRow.holds Try.pinned (OpenSpec.ofChange fnExactSameStoreSpec)

/-- ITS FALSE NEIGHBOUR: 'it returns false'. Refute it at one input. -/
def fnExactSameStoreWrong : ChangeSpec := { name := "fnExactSameStore", fn := fun _ => fun
  | [d1, d2] => { results := [.lit (.bool false)], args := [d1, d2] }
  | _ => none }
def FnExactSameStoreWrongFalsely : Prop := fnExactSameStoreRow.holds Try.pinned (OpenSpec.ofChange fnExactSameStoreWrong)

/-- 'laws.FnExactBucketsOK': WHATEVER THE INPUT: true; the input reads as it did. -/
def fnExactBucketsOKSpec : ChangeSpec := { name := "fnExactBucketsOK", fn := fun _ => fun
  | [d] => { results := [.lit (.bool true)], args := [d] }
  | _ => none }
def fnExactBucketsOKRow : OpenClaim := { program := "ytllpmcoknljhcaa", sum := "1d205722f642df56e3f3bf879537f35b828c74c931731d4cd1d96067599e4c42", func := "loop.example/g00601/laws.FnExactBucketsOK", spec := "fnExactBucketsOK", apart := false }
def FnExactBucketsOKSaid : Prop := fnExactBucketsOKRow.holds Try.pinned (OpenSpec.ofChange fnExactBucketsOKSpec)

/-- ITS FALSE NEIGHBOUR: 'it returns false'. Refute it at one input. -/
def fnExactBucketsOKWrong : ChangeSpec := { name := "fnExactBucketsOK", fn := fun _ => fun
  | [d] => { results := [.lit (.bool false)], args := [d] }
  | _ => none }
def FnExactBucketsOKWrongFalsely : Prop := fnExactBucketsOKRow.holds Try.pinned (OpenSpec.ofChange fnExactBucketsOKWrong)

/-- 'laws.FnExactIngesterOK': WHATEVER THE INPUT: true; the input reads as it did. -/
def fnExactIngesterOKSpec : ChangeSpec := { name := "fnExactIngesterOK", fn := fun _ => fun
  | [d] => { results := [.lit (.bool true)], args := [d] }
  | _ => none }
def fnExactIngesterOKRow : OpenClaim := { program := "ytllpmcoknljhcaa", sum := "1d205722f642df56e3f3bf879537f35b828c74c931731d4cd1d96067599e4c42", func := "loop.example/g00601/laws.FnExactIngesterOK", spec := "fnExactIngesterOK", apart := false }
def FnExactIngesterOKSaid : Prop := fnExactIngesterOKRow.holds Try.pinned (OpenSpec.ofChange fnExactIngesterOKSpec)

/-- ITS FALSE NEIGHBOUR: 'it returns false'. Refute it at one input. -/
def fnExactIngesterOKWrong : ChangeSpec := { name := "fnExactIngesterOK", fn := fun _ => fun
  | [d] => { results := [.lit (.bool false)], args := [d] }
  | _ => none }
def FnExactIngesterOKWrongFalsely : Prop := fnExactIngesterOKRow.holds Try.pinned (OpenSpec.ofChange fnExactIngesterOKWrong)

/-- 'laws.FnExactStoreOK': WHATEVER THE INPUT: true; the input reads as it did. -/
def fnExactStoreOKSpec : ChangeSpec := { name := "fnExactStoreOK", fn := fun _ => fun
  | [d] => { results := [.lit (.bool true)], args := [d] }
  | _ => none }
def fnExactStoreOKRow : OpenClaim := { program := "ytllpmcoknljhcaa", sum := "1d205722f642df56e3f3bf879537f35b828c74c931731d4cd1d96067599e4c42", func := "loop.example/g00601/laws.FnExactStoreOK", spec := "fnExactStoreOK", apart := false }
def FnExactStoreOKSaid : Prop := fnExactStoreOKRow.holds Try.pinned (OpenSpec.ofChange fnExactStoreOKSpec)

/-- ITS FALSE NEIGHBOUR: 'it returns false'. Refute it at one input. -/
def fnExactStoreOKWrong : ChangeSpec := { name := "fnExactStoreOK", fn := fun _ => fun
  | [d] => { results := [.lit (.bool false)], args := [d] }
  | _ => none }
def FnExactStoreOKWrongFalsely : Prop := fnExactStoreOKRow.holds Try.pinned (OpenSpec.ofChange fnExactStoreOKWrong)

/-- 'laws.FnAgg': WHATEVER THE INPUT: true; the input reads as it did. -/
def fnAggSpec : ChangeSpec := { name := "fnAgg", fn := fun _ => fun
  | [d1, d2] => { results := [.lit (.bool true)], args := [d1, d2] }
  | _ => none }
def fnAggRow : OpenClaim := { program := "ytllpmcoknljhcaa", sum := "1d205722f642df56e3f3bf879537f35b828c74c931731d4cd1d96067599e4c42", func := "loop.example/g00601/laws.FnAgg", spec := "fnAgg", apart := false }
def FnAggSaid : Prop := fnAggRow.holds Try.pinned (OpenSpec.ofChange fnAggSpec)

/-- ITS FALSE NEIGHBOUR: 'it returns false'. Refute it at one input. -/
def fnAggWrong : ChangeSpec := { name := "fnAgg", fn := fun _ => fun
  | [d1, d2] => { results := [.lit (.bool false)], args := [d1, d2] }
  | _ => none }
def FnAggWrongFalsely : Prop := fnAggRow.holds Try.pinned (OpenSpec.ofChange fnAggWrong)

/-- 'laws.FnExactNewReader': WHATEVER THE INPUT: true; the input reads as it did. -/
def fnExactNewReaderSpec : ChangeSpec := { name := "fnExactNewReader", fn := fun _ => fun
  | [d] => { results := [.lit (.bool true)], args := [d] }
  | _ => none }
def fnExactNewReaderRow : OpenClaim := { program := "ytllpmcoknljhcaa", sum := "1d205722f642df56e3f3bf879537f35b828c74c931731d4cd1d96067599e4c42", func := "loop.example/g00601/laws.FnExactNewReader", spec := "fnExactNewReader", apart := false }
def FnExactNewReaderSaid : Prop := fnExactNewReaderRow.holds Try.pinned (OpenSpec.ofChange fnExactNewReaderSpec)

/-- ITS FALSE NEIGHBOUR: 'it returns false'. Refute it at one input. -/
def fnExactNewReaderWrong : ChangeSpec := { name := "fnExactNewReader", fn := fun _ => fun
  | [d] => { results := [.lit (.bool false)], args := [d] }
  | _ => none }
def FnExactNewReaderWrongFalsely : Prop := fnExactNewReaderRow.holds Try.pinned (OpenSpec.ofChange fnExactNewReaderWrong)

/-- 'laws.FnExactAggOf': WHATEVER THE INPUT: true; the input reads as it did. -/
def fnExactAggOfSpec : ChangeSpec := { name := "fnExactAggOf", fn := fun _ => fun
  | [d] => { results := [.lit (.bool true)], args := [d] }
  | _ => none }
def fnExactAggOfRow : OpenClaim := { program := "ytllpmcoknljhcaa", sum := "1d205722f642df56e3f3bf879537f35b828c74c931731d4cd1d96067599e4c42", func := "loop.example/g00601/laws.FnExactAggOf", spec := "fnExactAggOf", apart := false }
def FnExactAggOfSaid : Prop := fnExactAggOfRow.holds Try.pinned (OpenSpec.ofChange fnExactAggOfSpec)

/-- ITS FALSE NEIGHBOUR: 'it returns false'. Refute it at one input. -/
def fnExactAggOfWrong : ChangeSpec := { name := "fnExactAggOf", fn := fun _ => fun
  | [d] => { results := [.lit (.bool false)], args := [d] }
  | _ => none }
def FnExactAggOfWrongFalsely : Prop := fnExactAggOfRow.holds Try.pinned (OpenSpec.ofChange fnExactAggOfWrong)

/-- 'laws.FnExactActOK': WHATEVER THE INPUT: true; the input reads as it did. -/
def fnExactActOKSpec : ChangeSpec := { name := "fnExactActOK", fn := fun _ => fun
  | [d] => { results := [.lit (.bool true)], args := [d] }
  | _ => none }
def fnExactActOKRow : OpenClaim := { program := "ytllpmcoknljhcaa", sum := "1d205722f642df56e3f3bf879537f35b828c74c931731d4cd1d96067599e4c42", func := "loop.example/g00601/laws.FnExactActOK", spec := "fnExactActOK", apart := false }
def FnExactActOKSaid : Prop := fnExactActOKRow.holds Try.pinned (OpenSpec.ofChange fnExactActOKSpec)

/-- ITS FALSE NEIGHBOUR: 'it returns false'. Refute it at one input. -/
def fnExactActOKWrong : ChangeSpec := { name := "fnExactActOK", fn := fun _ => fun
  | [d] => { results := [.lit (.bool false)], args := [d] }
  | _ => none }
def FnExactActOKWrongFalsely : Prop := fnExactActOKRow.holds Try.pinned (OpenSpec.ofChange fnExactActOKWrong)

/-- 'laws.FnExactNewWorker': WHATEVER THE INPUT: true; the input reads as it did. -/
def fnExactNewWorkerSpec : ChangeSpec := { name := "fnExactNewWorker", fn := fun _ => fun
  | [d] => { results := [.lit (.bool true)], args := [d] }
  | _ => none }
def fnExactNewWorkerRow : OpenClaim := { program := "ytllpmcoknljhcaa", sum := "1d205722f642df56e3f3bf879537f35b828c74c931731d4cd1d96067599e4c42", func := "loop.example/g00601/laws.FnExactNewWorker", spec := "fnExactNewWorker", apart := false }
def FnExactNewWorkerSaid : Prop := fnExactNewWorkerRow.holds Try.pinned (OpenSpec.ofChange fnExactNewWorkerSpec)

/-- ITS FALSE NEIGHBOUR: 'it returns false'. Refute it at one input. -/
def fnExactNewWorkerWrong : ChangeSpec := { name := "fnExactNewWorker", fn := fun _ => fun
  | [d] => { results := [.lit (.bool false)], args := [d] }
  | _ => none }
def FnExactNewWorkerWrongFalsely : Prop := fnExactNewWorkerRow.holds Try.pinned (OpenSpec.ofChange fnExactNewWorkerWrong)

/-- 'laws.FnExactSameReader': WHATEVER THE INPUT: true; the input reads as it did. -/
def fnExactSameReaderSpec : ChangeSpec := { name := "fnExactSameReader", fn := fun _ => fun
  | [d1, d2] => { results := [.lit (.bool true)], args := [d1, d2] }
  | _ => none }
def fnExactSameReaderRow : OpenClaim := { program := "ytllpmcoknljhcaa", sum := "1d205722f642df56e3f3bf879537f35b828c74c931731d4cd1d96067599e4c42", func := "loop.example/g00601/laws.FnExactSameReader", spec := "fnExactSameReader", apart := false }
def FnExactSameReaderSaid : Prop := fnExactSameReaderRow.holds Try.pinned (OpenSpec.ofChange fnExactSameReaderSpec)

/-- ITS FALSE NEIGHBOUR: 'it returns false'. Refute it at one input. -/
def fnExactSameReaderWrong : ChangeSpec := { name := "fnExactSameReader", fn := fun _ => fun
  | [d1, d2] => { results := [.lit (.bool false)], args := [d1, d2] }
  | _ => none }
def FnExactSameReaderWrongFalsely : Prop := fnExactSameReaderRow.holds Try.pinned (OpenSpec.ofChange fnExactSameReaderWrong)

/-- 'laws.FnExactFoldRange': WHATEVER THE INPUT: true; the input reads as it did. -/
def fnExactFoldRangeSpec : ChangeSpec := { name := "fnExactFoldRange", fn := fun _ => fun
  | [d1, d2, d3] => { results := [.lit (.bool true)], args := [d1, d2, d3] }
  | _ => none }
def fnExactFoldRangeRow : OpenClaim := { program := "ytllpmcoknljhcaa", sum := "1d205722f642df56e3f3bf879537f35b828c74c931731d4cd1d96067599e4c42", func := "loop.example/g00601/laws.FnExactFoldRange", spec := "fnExactFoldRange", apart := false }
def FnExactFoldRangeSaid : Prop := fnExactFoldRangeRow.holds Try.pinned (OpenSpec.ofChange fnExactFoldRangeSpec)

/-- ITS FALSE NEIGHBOUR: 'it returns false'. Refute it at one input. -/
def fnExactFoldRangeWrong : ChangeSpec := { name := "fnExactFoldRange", fn := fun _ => fun
  | [d1, d2, d3] => { results := [.lit (.bool false)], args := [d1, d2, d3] }
  | _ => none }
def FnExactFoldRangeWrongFalsely : Prop := fnExactFoldRangeRow.holds Try.pinned (OpenSpec.ofChange fnExactFoldRangeWrong)

/-- 'laws.FnExactSameWorker': WHATEVER THE INPUT: true; the input reads as it did. -/
def fnExactSameWorkerSpec : ChangeSpec := { name := "fnExactSameWorker", fn := fun _ => fun
  | [d1, d2] => { results := [.lit (.bool true)], args := [d1, d2] }
  | _ => none }
def fnExactSameWorkerRow : OpenClaim := { program := "ytllpmcoknljhcaa", sum := "1d205722f642df56e3f3bf879537f35b828c74c931731d4cd1d96067599e4c42", func := "loop.example/g00601/laws.FnExactSameWorker", spec := "fnExactSameWorker", apart := false }
def FnExactSameWorkerSaid : Prop := fnExactSameWorkerRow.holds Try.pinned (OpenSpec.ofChange fnExactSameWorkerSpec)

/-- ITS FALSE NEIGHBOUR: 'it returns false'. Refute it at one input. -/
def fnExactSameWorkerWrong : ChangeSpec := { name := "fnExactSameWorker", fn := fun _ => fun
  | [d1, d2] => { results := [.lit (.bool false)], args := [d1, d2] }
  | _ => none }
def FnExactSameWorkerWrongFalsely : Prop := fnExactSameWorkerRow.holds Try.pinned (OpenSpec.ofChange fnExactSameWorkerWrong)

/-- 'laws.FnExactSameState': WHATEVER THE INPUT: true; the input reads as it did. -/
def fnExactSameStateSpec : ChangeSpec := { name := "fnExactSameState", fn := fun _ => fun
  | [d1, d2] => { results := [.lit (.bool true)], args := [d1, d2] }
  | _ => none }
def fnExactSameStateRow : OpenClaim := { program := "ytllpmcoknljhcaa", sum := "1d205722f642df56e3f3bf879537f35b828c74c931731d4cd1d96067599e4c42", func := "loop.example/g00601/laws.FnExactSameState", spec := "fnExactSameState", apart := false }
def FnExactSameStateSaid : Prop := fnExactSameStateRow.holds Try.pinned (OpenSpec.ofChange fnExactSameStateSpec)

/-- ITS FALSE NEIGHBOUR: 'it returns false'. Refute it at one input. -/
def fnExactSameStateWrong : ChangeSpec := { name := "fnExactSameState", fn := fun _ => fun
  | [d1, d2] => { results := [.lit (.bool false)], args := [d1, d2] }
  | _ => none }
def FnExactSameStateWrongFalsely : Prop := fnExactSameStateRow.holds Try.pinned (OpenSpec.ofChange fnExactSameStateWrong)

/-- 'laws.FnExactGiveBatch': WHATEVER THE INPUT: true; the input reads as it did. -/
def fnExactGiveBatchSpec : ChangeSpec := { name := "fnExactGiveBatch", fn := fun _ => fun
  | [d1, d2] => { results := [.lit (.bool true)], args := [d1, d2] }
  | _ => none }
def fnExactGiveBatchRow : OpenClaim := { program := "ytllpmcoknljhcaa", sum := "1d205722f642df56e3f3bf879537f35b828c74c931731d4cd1d96067599e4c42", func := "loop.example/g00601/laws.FnExactGiveBatch", spec := "fnExactGiveBatch", apart := false }
def FnExactGiveBatchSaid : Prop := fnExactGiveBatchRow.holds Try.pinned (OpenSpec.ofChange fnExactGiveBatchSpec)

/-- ITS FALSE NEIGHBOUR: 'it returns false'. Refute it at one input. -/
def fnExactGiveBatchWrong : ChangeSpec := { name := "fnExactGiveBatch", fn := fun _ => fun
  | [d1, d2] => { results := [.lit (.bool false)], args := [d1, d2] }
  | _ => none }
def FnExactGiveBatchWrongFalsely : Prop := fnExactGiveBatchRow.holds Try.pinned (OpenSpec.ofChange fnExactGiveBatchWrong)

/- THE SECOND FORM. 'bulk': how many values and letters a reading holds, each counted each time it is reached (what is shared counts as often as it is met; a slice's spare places count too). A statement '..UptoSaid' is the law's where the arguments, and the package variables that the reading takes, are together of bulk at most 1048576: NARROWER than '..Said'. Prove '..Said' where nothing that the law and all that it calls make is longer than what came in: it says more and counts as full. Else prove '..UptoSaid'. A law counts once. -/
mutual
def uptoBulk {H : Type} : DataW H → Nat
  | .lit (.string bytes) => bytes.length + 1
  | .lit _ => 1
  | .nil => 1
  | .ptr d => uptoBulk d + 1
  | .slice elems spare => uptoBulkAll elems + uptoBulkAll spare + 1
  | .agg parts => uptoBulkAll parts + 1
  | .iface _ d => uptoBulk d + 1
  | .map entries => uptoBulkEntries entries + 1
  | .held _ => 1
def uptoBulkAll {H : Type} : List (DataW H) → Nat
  | [] => 0
  | d :: r => uptoBulk d + uptoBulkAll r
def uptoBulkEntries {H : Type} : List (Lit × DataW H) → Nat
  | [] => 0
  | x :: r => uptoBulkEntry x + uptoBulkEntries r
def uptoBulkEntry {H : Type} : Lit × DataW H → Nat
  | (.string bytes, d) => bytes.length + uptoBulk d + 1
  | (_, d) => uptoBulk d + 1
 end
def uptoSmall : (H : Type) → List (DataW H) → Bool := fun _ ds => decide (uptoBulkAll ds ≤ 1048576)
def OpenSpec.upto (s : _root_.Go.ChangeSpec) : _root_.Go.OpenSpec := { _root_.Go.OpenSpec.ofChange s with cond := some uptoSmall }

/-- 'laws.FnExactMeanOf', WHERE WHAT IT READS IS OF BULK AT MOST 1048576: true; the input reads as it did. -/
def fnExactMeanOfUptoRow : OpenClaim := { program := "ytllpmcoknljhcaa", sum := "1d205722f642df56e3f3bf879537f35b828c74c931731d4cd1d96067599e4c42", func := "loop.example/g00601/laws.FnExactMeanOf", spec := "fnExactMeanOf", apart := false, narrowed := true }
def FnExactMeanOfUptoSaid : Prop := fnExactMeanOfUptoRow.holds Try.pinned (OpenSpec.upto fnExactMeanOfSpec)

/-- 'laws.FnExactSamplesOK', WHERE WHAT IT READS IS OF BULK AT MOST 1048576: true; the input reads as it did. -/
def fnExactSamplesOKUptoRow : OpenClaim := { program := "ytllpmcoknljhcaa", sum := "1d205722f642df56e3f3bf879537f35b828c74c931731d4cd1d96067599e4c42", func := "loop.example/g00601/laws.FnExactSamplesOK", spec := "fnExactSamplesOK", apart := false, narrowed := true }
def FnExactSamplesOKUptoSaid : Prop := fnExactSamplesOKUptoRow.holds Try.pinned (OpenSpec.upto fnExactSamplesOKSpec)

/-- 'laws.FnExactNewStore', WHERE WHAT IT READS IS OF BULK AT MOST 1048576: true; the input reads as it did. -/
def fnExactNewStoreUptoRow : OpenClaim := { program := "ytllpmcoknljhcaa", sum := "1d205722f642df56e3f3bf879537f35b828c74c931731d4cd1d96067599e4c42", func := "loop.example/g00601/laws.FnExactNewStore", spec := "fnExactNewStore", apart := false, narrowed := true }
def FnExactNewStoreUptoSaid : Prop := fnExactNewStoreUptoRow.holds Try.pinned (OpenSpec.upto fnExactNewStoreSpec)

/-- 'laws.FnExactNewIngester', WHERE WHAT IT READS IS OF BULK AT MOST 1048576: true; the input reads as it did. -/
def fnExactNewIngesterUptoRow : OpenClaim := { program := "ytllpmcoknljhcaa", sum := "1d205722f642df56e3f3bf879537f35b828c74c931731d4cd1d96067599e4c42", func := "loop.example/g00601/laws.FnExactNewIngester", spec := "fnExactNewIngester", apart := false, narrowed := true }
def FnExactNewIngesterUptoSaid : Prop := fnExactNewIngesterUptoRow.holds Try.pinned (OpenSpec.upto fnExactNewIngesterSpec)

/-- 'laws.FnExactMergeAgg', WHERE WHAT IT READS IS OF BULK AT MOST 1048576: true; the input reads as it did. -/
def fnExactMergeAggUptoRow : OpenClaim := { program := "ytllpmcoknljhcaa", sum := "1d205722f642df56e3f3bf879537f35b828c74c931731d4cd1d96067599e4c42", func := "loop.example/g00601/laws.FnExactMergeAgg", spec := "fnExactMergeAgg", apart := false, narrowed := true }
def FnExactMergeAggUptoSaid : Prop := fnExactMergeAggUptoRow.holds Try.pinned (OpenSpec.upto fnExactMergeAggSpec)

/-- 'laws.FnExactSameIngester', WHERE WHAT IT READS IS OF BULK AT MOST 1048576: true; the input reads as it did. -/
def fnExactSameIngesterUptoRow : OpenClaim := { program := "ytllpmcoknljhcaa", sum := "1d205722f642df56e3f3bf879537f35b828c74c931731d4cd1d96067599e4c42", func := "loop.example/g00601/laws.FnExactSameIngester", spec := "fnExactSameIngester", apart := false, narrowed := true }
def FnExactSameIngesterUptoSaid : Prop := fnExactSameIngesterUptoRow.holds Try.pinned (OpenSpec.upto fnExactSameIngesterSpec)

/-- 'laws.FnExactSameStore', WHERE WHAT IT READS IS OF BULK AT MOST 1048576: true; the input reads as it did. -/
def fnExactSameStoreUptoRow : OpenClaim := { program := "ytllpmcoknljhcaa", sum := "1d205722f642df56e3f3bf879537f35b828c74c931731d4cd1d96067599e4c42", func := "loop.example/g00601/laws.FnExactSameStore", spec := "fnExactSameStore", apart := false, narrowed := true }
def FnExactSameStoreUptoSaid : Prop := fnExactSameStoreUptoRow.holds Try.pinned (OpenSpec.upto fnExactSameStoreSpec)

/-- 'laws.FnExactBucketsOK', WHERE WHAT IT READS IS OF BULK AT MOST 1048576: true; the input reads as it did. -/
def fnExactBucketsOKUptoRow : OpenClaim := { program := "ytllpmcoknljhcaa", sum := "1d205722f642df56e3f3bf879537f35b828c74c931731d4cd1d96067599e4c42", func := "loop.example/g00601/laws.FnExactBucketsOK", spec := "fnExactBucketsOK", apart := false, narrowed := true }
def FnExactBucketsOKUptoSaid : Prop := fnExactBucketsOKUptoRow.holds Try.pinned (OpenSpec.upto fnExactBucketsOKSpec)

/-- 'laws.FnExactIngesterOK', WHERE WHAT IT READS IS OF BULK AT MOST 1048576: true; the input reads as it did. -/
def fnExactIngesterOKUptoRow : OpenClaim := { program := "ytllpmcoknljhcaa", sum := "1d205722f642df56e3f3bf879537f35b828c74c931731d4cd1d96067599e4c42", func := "loop.example/g00601/laws.FnExactIngesterOK", spec := "fnExactIngesterOK", apart := false, narrowed := true }
def FnExactIngesterOKUptoSaid : Prop := fnExactIngesterOKUptoRow.holds Try.pinned (OpenSpec.upto fnExactIngesterOKSpec)

/-- 'laws.FnExactStoreOK', WHERE WHAT IT READS IS OF BULK AT MOST 1048576: true; the input reads as it did. -/
def fnExactStoreOKUptoRow : OpenClaim := { program := "ytllpmcoknljhcaa", sum := "1d205722f642df56e3f3bf879537f35b828c74c931731d4cd1d96067599e4c42", func := "loop.example/g00601/laws.FnExactStoreOK", spec := "fnExactStoreOK", apart := false, narrowed := true }
def FnExactStoreOKUptoSaid : Prop := fnExactStoreOKUptoRow.holds Try.pinned (OpenSpec.upto fnExactStoreOKSpec)

/-- 'laws.FnAgg', WHERE WHAT IT READS IS OF BULK AT MOST 1048576: true; the input reads as it did. -/
def fnAggUptoRow : OpenClaim := { program := "ytllpmcoknljhcaa", sum := "1d205722f642df56e3f3bf879537f35b828c74c931731d4cd1d96067599e4c42", func := "loop.example/g00601/laws.FnAgg", spec := "fnAgg", apart := false, narrowed := true }
def FnAggUptoSaid : Prop := fnAggUptoRow.holds Try.pinned (OpenSpec.upto fnAggSpec)

/-- 'laws.FnExactNewReader', WHERE WHAT IT READS IS OF BULK AT MOST 1048576: true; the input reads as it did. -/
def fnExactNewReaderUptoRow : OpenClaim := { program := "ytllpmcoknljhcaa", sum := "1d205722f642df56e3f3bf879537f35b828c74c931731d4cd1d96067599e4c42", func := "loop.example/g00601/laws.FnExactNewReader", spec := "fnExactNewReader", apart := false, narrowed := true }
def FnExactNewReaderUptoSaid : Prop := fnExactNewReaderUptoRow.holds Try.pinned (OpenSpec.upto fnExactNewReaderSpec)

/-- 'laws.FnExactAggOf', WHERE WHAT IT READS IS OF BULK AT MOST 1048576: true; the input reads as it did. -/
def fnExactAggOfUptoRow : OpenClaim := { program := "ytllpmcoknljhcaa", sum := "1d205722f642df56e3f3bf879537f35b828c74c931731d4cd1d96067599e4c42", func := "loop.example/g00601/laws.FnExactAggOf", spec := "fnExactAggOf", apart := false, narrowed := true }
def FnExactAggOfUptoSaid : Prop := fnExactAggOfUptoRow.holds Try.pinned (OpenSpec.upto fnExactAggOfSpec)

/-- 'laws.FnExactActOK', WHERE WHAT IT READS IS OF BULK AT MOST 1048576: true; the input reads as it did. -/
def fnExactActOKUptoRow : OpenClaim := { program := "ytllpmcoknljhcaa", sum := "1d205722f642df56e3f3bf879537f35b828c74c931731d4cd1d96067599e4c42", func := "loop.example/g00601/laws.FnExactActOK", spec := "fnExactActOK", apart := false, narrowed := true }
def FnExactActOKUptoSaid : Prop := fnExactActOKUptoRow.holds Try.pinned (OpenSpec.upto fnExactActOKSpec)

/-- 'laws.FnExactNewWorker', WHERE WHAT IT READS IS OF BULK AT MOST 1048576: true; the input reads as it did. -/
def fnExactNewWorkerUptoRow : OpenClaim := { program := "ytllpmcoknljhcaa", sum := "1d205722f642df56e3f3bf879537f35b828c74c931731d4cd1d96067599e4c42", func := "loop.example/g00601/laws.FnExactNewWorker", spec := "fnExactNewWorker", apart := false, narrowed := true }
def FnExactNewWorkerUptoSaid : Prop := fnExactNewWorkerUptoRow.holds Try.pinned (OpenSpec.upto fnExactNewWorkerSpec)

/-- 'laws.FnExactSameReader', WHERE WHAT IT READS IS OF BULK AT MOST 1048576: true; the input reads as it did. -/
def fnExactSameReaderUptoRow : OpenClaim := { program := "ytllpmcoknljhcaa", sum := "1d205722f642df56e3f3bf879537f35b828c74c931731d4cd1d96067599e4c42", func := "loop.example/g00601/laws.FnExactSameReader", spec := "fnExactSameReader", apart := false, narrowed := true }
def FnExactSameReaderUptoSaid : Prop := fnExactSameReaderUptoRow.holds Try.pinned (OpenSpec.upto fnExactSameReaderSpec)

/-- 'laws.FnExactFoldRange', WHERE WHAT IT READS IS OF BULK AT MOST 1048576: true; the input reads as it did. -/
def fnExactFoldRangeUptoRow : OpenClaim := { program := "ytllpmcoknljhcaa", sum := "1d205722f642df56e3f3bf879537f35b828c74c931731d4cd1d96067599e4c42", func := "loop.example/g00601/laws.FnExactFoldRange", spec := "fnExactFoldRange", apart := false, narrowed := true }
def FnExactFoldRangeUptoSaid : Prop := fnExactFoldRangeUptoRow.holds Try.pinned (OpenSpec.upto fnExactFoldRangeSpec)

/-- 'laws.FnExactSameWorker', WHERE WHAT IT READS IS OF BULK AT MOST 1048576: true; the input reads as it did. -/
def fnExactSameWorkerUptoRow : OpenClaim := { program := "ytllpmcoknljhcaa", sum := "1d205722f642df56e3f3bf879537f35b828c74c931731d4cd1d96067599e4c42", func := "loop.example/g00601/laws.FnExactSameWorker", spec := "fnExactSameWorker", apart := false, narrowed := true }
def FnExactSameWorkerUptoSaid : Prop := fnExactSameWorkerUptoRow.holds Try.pinned (OpenSpec.upto fnExactSameWorkerSpec)

/-- 'laws.FnExactSameState', WHERE WHAT IT READS IS OF BULK AT MOST 1048576: true; the input reads as it did. -/
def fnExactSameStateUptoRow : OpenClaim := { program := "ytllpmcoknljhcaa", sum := "1d205722f642df56e3f3bf879537f35b828c74c931731d4cd1d96067599e4c42", func := "loop.example/g00601/laws.FnExactSameState", spec := "fnExactSameState", apart := false, narrowed := true }
def FnExactSameStateUptoSaid : Prop := fnExactSameStateUptoRow.holds Try.pinned (OpenSpec.upto fnExactSameStateSpec)

/-- 'laws.FnExactGiveBatch', WHERE WHAT IT READS IS OF BULK AT MOST 1048576: true; the input reads as it did. -/
def fnExactGiveBatchUptoRow : OpenClaim := { program := "ytllpmcoknljhcaa", sum := "1d205722f642df56e3f3bf879537f35b828c74c931731d4cd1d96067599e4c42", func := "loop.example/g00601/laws.FnExactGiveBatch", spec := "fnExactGiveBatch", apart := false, narrowed := true }
def FnExactGiveBatchUptoSaid : Prop := fnExactGiveBatchUptoRow.holds Try.pinned (OpenSpec.upto fnExactGiveBatchSpec)

end Rows
end Go.Proofs.Ytllpmcoknljhcaa
