/-
  No cell of these rows narrows 'for every input' (looked for: loops, veiled, ifaces, maps, wideKeys, modest, calm, conditions, laid).
  DERIVED. THE GIVEN ROWS OF THIS SEAT. 6 by the template 'for every input the law returns true; each argument reads behind the call as it read before'; 0 by the template 'total and deterministic' (their statements: YteiolcfgaklafaaTotals.lean).
  GIVEN WITH THE SEED: the statements are not yours to turn. If you find one false, say at which input.
  Laid BY PROGRAM, IN A SANDBOX (cutbox-rows.mjs): the forced cells as the released guide's own fill.sh prints them over the translation a43f6c58d15dba3a… (all of the seat's roots in one cut). By AI agents, Wed Nov 11 2026. No macro, syntax, notation, axiom, sorry.
-/
import Derived.Test.YteiolcfgaklafaaChecked
import GoSem.Claim
import GoSem.ClaimJoined
import GoSem.ClaimMapViews
import Derived.JoinedTies
import Derived.KernelRfl
namespace Go.Proofs.Yteiolcfgaklafaa
/- THE CELL 'sum', in the pinned program and in every row, IS THE sha256 OF THE DUMP (.gsa) THAT YteiolcfgaklafaaProg.lean LOADS. Nothing in Lean hashes anything: it is a label: what it is worth is what the hold of that sum in a sandbox is worth. -/
noncomputable def Try.pinned : Pinned := { name := "yteiolcfgaklafaa", sum := "a43f6c58d15dba3a9e946c4f2693a9580060a1cfa8cc3a123337096c09267350", checked := Try.checked }
namespace Rows
def none {H : Type} : Left H := { results := [], args := [] }

/-- 'laws.FnExactGiveBatch': WHATEVER THE INPUT: true; the input reads as it did. -/
def fnExactGiveBatchSpec : ChangeSpec := { name := "fnExactGiveBatch", fn := fun _ => fun
  | [d1, d2] => { results := [.lit (.bool true)], args := [d1, d2] }
  | _ => none }
def fnExactGiveBatchRow : OpenClaim := { program := "yteiolcfgaklafaa", sum := "a43f6c58d15dba3a9e946c4f2693a9580060a1cfa8cc3a123337096c09267350", func := "loop.example/g00601/laws.FnExactGiveBatch", spec := "fnExactGiveBatch", apart := false }
def FnExactGiveBatchSaid : Prop := fnExactGiveBatchRow.holds Try.pinned (OpenSpec.ofChange fnExactGiveBatchSpec)

/-- ITS FALSE NEIGHBOUR: 'it returns false'. Refute it at one input. -/
def fnExactGiveBatchWrong : ChangeSpec := { name := "fnExactGiveBatch", fn := fun _ => fun
  | [d1, d2] => { results := [.lit (.bool false)], args := [d1, d2] }
  | _ => none }
def FnExactGiveBatchWrongFalsely : Prop := fnExactGiveBatchRow.holds Try.pinned (OpenSpec.ofChange fnExactGiveBatchWrong)

/-- 'laws.FnExactStoreOK': WHATEVER THE INPUT: true; the input reads as it did. -/
def fnExactStoreOKSpec : ChangeSpec := { name := "fnExactStoreOK", fn := fun _ => fun
  | [d] => { results := [.lit (.bool true)], args := [d] }
  | _ => none }
def fnExactStoreOKRow : OpenClaim := { program := "yteiolcfgaklafaa", sum := "a43f6c58d15dba3a9e946c4f2693a9580060a1cfa8cc3a123337096c09267350", func := "loop.example/g00601/laws.FnExactStoreOK", spec := "fnExactStoreOK", apart := false }
def FnExactStoreOKSaid : Prop := fnExactStoreOKRow.holds Try.pinned (OpenSpec.ofChange fnExactStoreOKSpec)

/-- ITS FALSE NEIGHBOUR: 'it returns false'. Refute it at one input. -/
def fnExactStoreOKWrong : ChangeSpec := { name := "fnExactStoreOK", fn := fun _ => fun
  | [d] => { results := [.lit (.bool false)], args := [d] }
  | _ => none }
def FnExactStoreOKWrongFalsely : Prop := fnExactStoreOKRow.holds Try.pinned (OpenSpec.ofChange fnExactStoreOKWrong)

/-- 'laws.FnAgg': WHATEVER THE INPUT: true; the input reads as it did. -/
def fnAggSpec : ChangeSpec := { name := "fnAgg", fn := fun _ => fun
  | [d1, d2] => { results := [.lit (.bool true)], args := [d1, d2] }
  | _ => none }
def fnAggRow : OpenClaim := { program := "yteiolcfgaklafaa", sum := "a43f6c58d15dba3a9e946c4f2693a9580060a1cfa8cc3a123337096c09267350", func := "loop.example/g00601/laws.FnAgg", spec := "fnAgg", apart := false }
def FnAggSaid : Prop := fnAggRow.holds Try.pinned (OpenSpec.ofChange fnAggSpec)

/-- ITS FALSE NEIGHBOUR: 'it returns false'. Refute it at one input. -/
def fnAggWrong : ChangeSpec := { name := "fnAgg", fn := fun _ => fun
  | [d1, d2] => { results := [.lit (.bool false)], args := [d1, d2] }
  | _ => none }
def FnAggWrongFalsely : Prop := fnAggRow.holds Try.pinned (OpenSpec.ofChange fnAggWrong)

/-- 'laws.FnExactNewWorker': WHATEVER THE INPUT: true; the input reads as it did. -/
def fnExactNewWorkerSpec : ChangeSpec := { name := "fnExactNewWorker", fn := fun _ => fun
  | [d] => { results := [.lit (.bool true)], args := [d] }
  | _ => none }
def fnExactNewWorkerRow : OpenClaim := { program := "yteiolcfgaklafaa", sum := "a43f6c58d15dba3a9e946c4f2693a9580060a1cfa8cc3a123337096c09267350", func := "loop.example/g00601/laws.FnExactNewWorker", spec := "fnExactNewWorker", apart := false }
def FnExactNewWorkerSaid : Prop := fnExactNewWorkerRow.holds Try.pinned (OpenSpec.ofChange fnExactNewWorkerSpec)

/-- ITS FALSE NEIGHBOUR: 'it returns false'. Refute it at one input. -/
def fnExactNewWorkerWrong : ChangeSpec := { name := "fnExactNewWorker", fn := fun _ => fun
  | [d] => { results := [.lit (.bool false)], args := [d] }
  | _ => none }
def FnExactNewWorkerWrongFalsely : Prop := fnExactNewWorkerRow.holds Try.pinned (OpenSpec.ofChange fnExactNewWorkerWrong)

/-- 'laws.FnExactSameWorker': WHATEVER THE INPUT: true; the input reads as it did. -/
def fnExactSameWorkerSpec : ChangeSpec := { name := "fnExactSameWorker", fn := fun _ => fun
  | [d1, d2] => { results := [.lit (.bool true)], args := [d1, d2] }
  | _ => none }
def fnExactSameWorkerRow : OpenClaim := { program := "yteiolcfgaklafaa", sum := "a43f6c58d15dba3a9e946c4f2693a9580060a1cfa8cc3a123337096c09267350", func := "loop.example/g00601/laws.FnExactSameWorker", spec := "fnExactSameWorker", apart := false }
def FnExactSameWorkerSaid : Prop := fnExactSameWorkerRow.holds Try.pinned (OpenSpec.ofChange fnExactSameWorkerSpec)

/-- ITS FALSE NEIGHBOUR: 'it returns false'. Refute it at one input. -/
def fnExactSameWorkerWrong : ChangeSpec := { name := "fnExactSameWorker", fn := fun _ => fun
  | [d1, d2] => { results := [.lit (.bool false)], args := [d1, d2] }
  | _ => none }
def FnExactSameWorkerWrongFalsely : Prop := fnExactSameWorkerRow.holds Try.pinned (OpenSpec.ofChange fnExactSameWorkerWrong)

/-- 'laws.FnExactSameState': WHATEVER THE INPUT: true; the input reads as it did. -/
def fnExactSameStateSpec : ChangeSpec := { name := "fnExactSameState", fn := fun _ => fun
  | [d1, d2] => { results := [.lit (.bool true)], args := [d1, d2] }
  | _ => none }
def fnExactSameStateRow : OpenClaim := { program := "yteiolcfgaklafaa", sum := "a43f6c58d15dba3a9e946c4f2693a9580060a1cfa8cc3a123337096c09267350", func := "loop.example/g00601/laws.FnExactSameState", spec := "fnExactSameState", apart := false }
def FnExactSameStateSaid : Prop := fnExactSameStateRow.holds Try.pinned (OpenSpec.ofChange fnExactSameStateSpec)

/-- ITS FALSE NEIGHBOUR: 'it returns false'. Refute it at one input. -/
def fnExactSameStateWrong : ChangeSpec := { name := "fnExactSameState", fn := fun _ => fun
  | [d1, d2] => { results := [.lit (.bool false)], args := [d1, d2] }
  | _ => none }
def FnExactSameStateWrongFalsely : Prop := fnExactSameStateRow.holds Try.pinned (OpenSpec.ofChange fnExactSameStateWrong)

/- THE SECOND FORM. 'bulk': how many values and letters a reading holds, each counted each time it is reached (what is shared counts as often as it is met; a slice's spare places count too). A statement '..UptoSaid' is the law's where the arguments, and the package variables that the reading takes, are together of bulk at most 1048576: NARROWER than '..Said'. Prove '..Said' where nothing that the law and all that it calls make is longer than what came in: it says more and counts as full. Else prove '..UptoSaid'. A law counts once. -/
mutual
def uptoBulk {H : Type} : DataW H → Nat
  | .lit (.string bytes) => bytes.length + 1
  | .lit _ => 1
  | .nil => 1
  | .ptr d => uptoBulk d + 1
  | .slice elems spare => uptoBulkAll elems + uptoBulkAll spare + 1
  | .agg parts => uptoBulkAll parts + 1
  | .iface _ d => uptoBulk d + 1
  | .map entries => uptoBulkEntries entries + 1
  | .held _ => 1
def uptoBulkAll {H : Type} : List (DataW H) → Nat
  | [] => 0
  | d :: r => uptoBulk d + uptoBulkAll r
def uptoBulkEntries {H : Type} : List (Lit × DataW H) → Nat
  | [] => 0
  | x :: r => uptoBulkEntry x + uptoBulkEntries r
def uptoBulkEntry {H : Type} : Lit × DataW H → Nat
  | (.string bytes, d) => bytes.length + uptoBulk d + 1
  | (_, d) => uptoBulk d + 1
 end
def uptoSmall : (H : Type) → List (DataW H) → Bool := fun _ ds => decide (uptoBulkAll ds ≤ 1048576)
def OpenSpec.upto (s : _root_.Go.ChangeSpec) : _root_.Go.OpenSpec := { _root_.Go.OpenSpec.ofChange s with cond := some uptoSmall }

/-- 'laws.FnExactGiveBatch', WHERE WHAT IT READS IS OF BULK AT MOST 1048576: true; the input reads as it did. -/
def fnExactGiveBatchUptoRow : OpenClaim := { program := "yteiolcfgaklafaa", sum := "a43f6c58d15dba3a9e946c4f2693a9580060a1cfa8cc3a123337096c09267350", func := "loop.example/g00601/laws.FnExactGiveBatch", spec := "fnExactGiveBatch", apart := false, narrowed := true }
def FnExactGiveBatchUptoSaid : Prop := fnExactGiveBatchUptoRow.holds Try.pinned (OpenSpec.upto fnExactGiveBatchSpec)

/-- 'laws.FnExactStoreOK', WHERE WHAT IT READS IS OF BULK AT MOST 1048576: true; the input reads as it did. -/
def fnExactStoreOKUptoRow : OpenClaim := { program := "yteiolcfgaklafaa", sum := "a43f6c58d15dba3a9e946c4f2693a9580060a1cfa8cc3a123337096c09267350", func := "loop.example/g00601/laws.FnExactStoreOK", spec := "fnExactStoreOK", apart := false, narrowed := true }
def FnExactStoreOKUptoSaid : Prop := fnExactStoreOKUptoRow.holds Try.pinned (OpenSpec.upto fnExactStoreOKSpec)

/-- 'laws.FnAgg', WHERE WHAT IT READS IS OF BULK AT MOST 1048576: true; the input reads as it did. -/
def fnAggUptoRow : OpenClaim := { program := "yteiolcfgaklafaa", sum := "a43f6c58d15dba3a9e946c4f2693a9580060a1cfa8cc3a123337096c09267350", func := "loop.example/g00601/laws.FnAgg", spec := "fnAgg", apart := false, narrowed := true }
def FnAggUptoSaid : Prop := fnAggUptoRow.holds Try.pinned (OpenSpec.upto fnAggSpec)

/-- 'laws.FnExactNewWorker', WHERE WHAT IT READS IS OF BULK AT MOST 1048576: true; the input reads as it did. -/
def fnExactNewWorkerUptoRow : OpenClaim := { program := "yteiolcfgaklafaa", sum := "a43f6c58d15dba3a9e946c4f2693a9580060a1cfa8cc3a123337096c09267350", func := "loop.example/g00601/laws.FnExactNewWorker", spec := "fnExactNewWorker", apart := false, narrowed := true }
def FnExactNewWorkerUptoSaid : Prop := fnExactNewWorkerUptoRow.holds Try.pinned (OpenSpec.upto fnExactNewWorkerSpec)

/-- 'laws.FnExactSameWorker', WHERE WHAT IT READS IS OF BULK AT MOST 1048576: true; the input reads as it did. -/
def fnExactSameWorkerUptoRow : OpenClaim := { program := "yteiolcfgaklafaa", sum := "a43f6c58d15dba3a9e946c4f2693a9580060a1cfa8cc3a123337096c09267350", func := "loop.example/g00601/laws.FnExactSameWorker", spec := "fnExactSameWorker", apart := false, narrowed := true }
def FnExactSameWorkerUptoSaid : Prop := fnExactSameWorkerUptoRow.holds Try.pinned (OpenSpec.upto fnExactSameWorkerSpec)

/-- 'laws.FnExactSameState', WHERE WHAT IT READS IS OF BULK AT MOST 1048576: true; the input reads as it did. -/
def fnExactSameStateUptoRow : OpenClaim := { program := "yteiolcfgaklafaa", sum := "a43f6c58d15dba3a9e946c4f2693a9580060a1cfa8cc3a123337096c09267350", func := "loop.example/g00601/laws.FnExactSameState", spec := "fnExactSameState", apart := false, narrowed := true }
def FnExactSameStateUptoSaid : Prop := fnExactSameStateUptoRow.holds Try.pinned (OpenSpec.upto fnExactSameStateSpec)

end Rows
end Go.Proofs.Yteiolcfgaklafaa
