/-
  No cell of these rows narrows 'for every input' (looked for: loops, veiled, ifaces, maps, wideKeys, modest, calm, conditions, laid).
  DERIVED. THE GIVEN ROWS OF THIS SEAT. 11 by the template 'for every input the law returns true; each argument reads behind the call as it read before'; 0 by the template 'total and deterministic' (their statements: YtodmgklagfabaaaTotals.lean).
  GIVEN WITH THE SEED: the statements are not yours to turn. If you find one false, say at which input.
  Laid BY PROGRAM, IN A SANDBOX (cutbox-rows.mjs): the forced cells as the released guide's own fill.sh prints them over the translation 06298d4295fef0ba… (all of the seat's roots in one cut). By AI agents, Wed Nov 11 2026. No macro, syntax, notation, axiom, sorry.
-/
import Derived.Test.YtodmgklagfabaaaChecked
import GoSem.Claim
import GoSem.ClaimJoined
import GoSem.ClaimMapViews
import Derived.JoinedTies
import Derived.KernelRfl
namespace Go.Proofs.Ytodmgklagfabaaa
/- THE CELL 'sum', in the pinned program and in every row, IS THE sha256 OF THE DUMP (.gsa) THAT YtodmgklagfabaaaProg.lean LOADS. Nothing in Lean hashes anything: it is a label: what it is worth is what the hold of that sum in a sandbox is worth. -/
noncomputable def Try.pinned : Pinned := { name := "ytodmgklagfabaaa", sum := "06298d4295fef0babe4b8bfb0e7f6f30a1b9524083097d55938b97f47b353ef2", checked := Try.checked }
namespace Rows
def none {H : Type} : Left H := { results := [], args := [] }

/-- 'laws.FnExactConstants': WHATEVER THE INPUT: true; the input reads as it did. -/
def fnExactConstantsSpec : ChangeSpec := { name := "fnExactConstants", fn := fun _ => fun
  | [] => { results := [.lit (.bool true)], args := [] }
  | _ => none }
def fnExactConstantsRow : OpenClaim := { program := "ytodmgklagfabaaa", sum := "06298d4295fef0babe4b8bfb0e7f6f30a1b9524083097d55938b97f47b353ef2", func := "loop.example/g00601/laws.FnExactConstants", spec := "fnExactConstants", apart := false }
def FnExactConstantsSaid : Prop := fnExactConstantsRow.holds Try.pinned (OpenSpec.ofChange fnExactConstantsSpec)

/-- ITS FALSE NEIGHBOUR: 'it returns false'. Refute it at one input. -/
def fnExactConstantsWrong : ChangeSpec := { name := "fnExactConstants", fn := fun _ => fun
  | [] => { results := [.lit (.bool false)], args := [] }
  | _ => none }
def FnExactConstantsWrongFalsely : Prop := fnExactConstantsRow.holds Try.pinned (OpenSpec.ofChange fnExactConstantsWrong)

/-- 'laws.FnExactLeaseOK': WHATEVER THE INPUT: true; the input reads as it did. -/
def fnExactLeaseOKSpec : ChangeSpec := { name := "fnExactLeaseOK", fn := fun _ => fun
  | [d] => { results := [.lit (.bool true)], args := [d] }
  | _ => none }
def fnExactLeaseOKRow : OpenClaim := { program := "ytodmgklagfabaaa", sum := "06298d4295fef0babe4b8bfb0e7f6f30a1b9524083097d55938b97f47b353ef2", func := "loop.example/g00601/laws.FnExactLeaseOK", spec := "fnExactLeaseOK", apart := false }
def FnExactLeaseOKSaid : Prop := fnExactLeaseOKRow.holds Try.pinned (OpenSpec.ofChange fnExactLeaseOKSpec)

/-- ITS FALSE NEIGHBOUR: 'it returns false'. Refute it at one input. -/
def fnExactLeaseOKWrong : ChangeSpec := { name := "fnExactLeaseOK", fn := fun _ => fun
  | [d] => { results := [.lit (.bool false)], args := [d] }
  | _ => none }
def FnExactLeaseOKWrongFalsely : Prop := fnExactLeaseOKRow.holds Try.pinned (OpenSpec.ofChange fnExactLeaseOKWrong)

/-- 'laws.FnExactCodeWord': WHATEVER THE INPUT: true; the input reads as it did. -/
def fnExactCodeWordSpec : ChangeSpec := { name := "fnExactCodeWord", fn := fun _ => fun
  | [d] => { results := [.lit (.bool true)], args := [d] }
  | _ => none }
def fnExactCodeWordRow : OpenClaim := { program := "ytodmgklagfabaaa", sum := "06298d4295fef0babe4b8bfb0e7f6f30a1b9524083097d55938b97f47b353ef2", func := "loop.example/g00601/laws.FnExactCodeWord", spec := "fnExactCodeWord", apart := false }
def FnExactCodeWordSaid : Prop := fnExactCodeWordRow.holds Try.pinned (OpenSpec.ofChange fnExactCodeWordSpec)

/-- ITS FALSE NEIGHBOUR: 'it returns false'. Refute it at one input. -/
def fnExactCodeWordWrong : ChangeSpec := { name := "fnExactCodeWord", fn := fun _ => fun
  | [d] => { results := [.lit (.bool false)], args := [d] }
  | _ => none }
def FnExactCodeWordWrongFalsely : Prop := fnExactCodeWordRow.holds Try.pinned (OpenSpec.ofChange fnExactCodeWordWrong)

/-- 'laws.FnExactAlignDown': WHATEVER THE INPUT: true; the input reads as it did. -/
def fnExactAlignDownSpec : ChangeSpec := { name := "fnExactAlignDown", fn := fun _ => fun
  | [d1, d2] => { results := [.lit (.bool true)], args := [d1, d2] }
  | _ => none }
def fnExactAlignDownRow : OpenClaim := { program := "ytodmgklagfabaaa", sum := "06298d4295fef0babe4b8bfb0e7f6f30a1b9524083097d55938b97f47b353ef2", func := "loop.example/g00601/laws.FnExactAlignDown", spec := "fnExactAlignDown", apart := false }
def FnExactAlignDownSaid : Prop := fnExactAlignDownRow.holds Try.pinned (OpenSpec.ofChange fnExactAlignDownSpec)

/-- ITS FALSE NEIGHBOUR: 'it returns false'. Refute it at one input. -/
def fnExactAlignDownWrong : ChangeSpec := { name := "fnExactAlignDown", fn := fun _ => fun
  | [d1, d2] => { results := [.lit (.bool false)], args := [d1, d2] }
  | _ => none }
def FnExactAlignDownWrongFalsely : Prop := fnExactAlignDownRow.holds Try.pinned (OpenSpec.ofChange fnExactAlignDownWrong)

/-- 'laws.FnExactKeepOf': WHATEVER THE INPUT: true; the input reads as it did. -/
def fnExactKeepOfSpec : ChangeSpec := { name := "fnExactKeepOf", fn := fun _ => fun
  | [d] => { results := [.lit (.bool true)], args := [d] }
  | _ => none }
def fnExactKeepOfRow : OpenClaim := { program := "ytodmgklagfabaaa", sum := "06298d4295fef0babe4b8bfb0e7f6f30a1b9524083097d55938b97f47b353ef2", func := "loop.example/g00601/laws.FnExactKeepOf", spec := "fnExactKeepOf", apart := false }
def FnExactKeepOfSaid : Prop := fnExactKeepOfRow.holds Try.pinned (OpenSpec.ofChange fnExactKeepOfSpec)

/-- ITS FALSE NEIGHBOUR: 'it returns false'. Refute it at one input. -/
def fnExactKeepOfWrong : ChangeSpec := { name := "fnExactKeepOf", fn := fun _ => fun
  | [d] => { results := [.lit (.bool false)], args := [d] }
  | _ => none }
def FnExactKeepOfWrongFalsely : Prop := fnExactKeepOfRow.holds Try.pinned (OpenSpec.ofChange fnExactKeepOfWrong)

/-- 'laws.FnExactWidthOf': WHATEVER THE INPUT: true; the input reads as it did. -/
def fnExactWidthOfSpec : ChangeSpec := { name := "fnExactWidthOf", fn := fun _ => fun
  | [d] => { results := [.lit (.bool true)], args := [d] }
  | _ => none }
def fnExactWidthOfRow : OpenClaim := { program := "ytodmgklagfabaaa", sum := "06298d4295fef0babe4b8bfb0e7f6f30a1b9524083097d55938b97f47b353ef2", func := "loop.example/g00601/laws.FnExactWidthOf", spec := "fnExactWidthOf", apart := false }
def FnExactWidthOfSaid : Prop := fnExactWidthOfRow.holds Try.pinned (OpenSpec.ofChange fnExactWidthOfSpec)

/-- ITS FALSE NEIGHBOUR: 'it returns false'. Refute it at one input. -/
def fnExactWidthOfWrong : ChangeSpec := { name := "fnExactWidthOf", fn := fun _ => fun
  | [d] => { results := [.lit (.bool false)], args := [d] }
  | _ => none }
def FnExactWidthOfWrongFalsely : Prop := fnExactWidthOfRow.holds Try.pinned (OpenSpec.ofChange fnExactWidthOfWrong)

/-- 'laws.FnExactKeyOK': WHATEVER THE INPUT: true; the input reads as it did. -/
def fnExactKeyOKSpec : ChangeSpec := { name := "fnExactKeyOK", fn := fun _ => fun
  | [d] => { results := [.lit (.bool true)], args := [d] }
  | _ => none }
def fnExactKeyOKRow : OpenClaim := { program := "ytodmgklagfabaaa", sum := "06298d4295fef0babe4b8bfb0e7f6f30a1b9524083097d55938b97f47b353ef2", func := "loop.example/g00601/laws.FnExactKeyOK", spec := "fnExactKeyOK", apart := false }
def FnExactKeyOKSaid : Prop := fnExactKeyOKRow.holds Try.pinned (OpenSpec.ofChange fnExactKeyOKSpec)

/-- ITS FALSE NEIGHBOUR: 'it returns false'. Refute it at one input. -/
def fnExactKeyOKWrong : ChangeSpec := { name := "fnExactKeyOK", fn := fun _ => fun
  | [d] => { results := [.lit (.bool false)], args := [d] }
  | _ => none }
def FnExactKeyOKWrongFalsely : Prop := fnExactKeyOKRow.holds Try.pinned (OpenSpec.ofChange fnExactKeyOKWrong)

/-- 'laws.FnExactAggOK': WHATEVER THE INPUT: true; the input reads as it did. -/
def fnExactAggOKSpec : ChangeSpec := { name := "fnExactAggOK", fn := fun _ => fun
  | [d] => { results := [.lit (.bool true)], args := [d] }
  | _ => none }
def fnExactAggOKRow : OpenClaim := { program := "ytodmgklagfabaaa", sum := "06298d4295fef0babe4b8bfb0e7f6f30a1b9524083097d55938b97f47b353ef2", func := "loop.example/g00601/laws.FnExactAggOK", spec := "fnExactAggOK", apart := false }
def FnExactAggOKSaid : Prop := fnExactAggOKRow.holds Try.pinned (OpenSpec.ofChange fnExactAggOKSpec)

/-- ITS FALSE NEIGHBOUR: 'it returns false'. Refute it at one input. -/
def fnExactAggOKWrong : ChangeSpec := { name := "fnExactAggOK", fn := fun _ => fun
  | [d] => { results := [.lit (.bool false)], args := [d] }
  | _ => none }
def FnExactAggOKWrongFalsely : Prop := fnExactAggOKRow.holds Try.pinned (OpenSpec.ofChange fnExactAggOKWrong)

/-- 'laws.FnExactCodeOf': WHATEVER THE INPUT: true; the input reads as it did. -/
def fnExactCodeOfSpec : ChangeSpec := { name := "fnExactCodeOf", fn := fun _ => fun
  | [d] => { results := [.lit (.bool true)], args := [d] }
  | _ => none }
def fnExactCodeOfRow : OpenClaim := { program := "ytodmgklagfabaaa", sum := "06298d4295fef0babe4b8bfb0e7f6f30a1b9524083097d55938b97f47b353ef2", func := "loop.example/g00601/laws.FnExactCodeOf", spec := "fnExactCodeOf", apart := false }
def FnExactCodeOfSaid : Prop := fnExactCodeOfRow.holds Try.pinned (OpenSpec.ofChange fnExactCodeOfSpec)

/-- ITS FALSE NEIGHBOUR: 'it returns false'. Refute it at one input. -/
def fnExactCodeOfWrong : ChangeSpec := { name := "fnExactCodeOf", fn := fun _ => fun
  | [d] => { results := [.lit (.bool false)], args := [d] }
  | _ => none }
def FnExactCodeOfWrongFalsely : Prop := fnExactCodeOfRow.holds Try.pinned (OpenSpec.ofChange fnExactCodeOfWrong)

/-- 'laws.FnExactNameOK': WHATEVER THE INPUT: true; the input reads as it did. -/
def fnExactNameOKSpec : ChangeSpec := { name := "fnExactNameOK", fn := fun _ => fun
  | [d] => { results := [.lit (.bool true)], args := [d] }
  | _ => none }
def fnExactNameOKRow : OpenClaim := { program := "ytodmgklagfabaaa", sum := "06298d4295fef0babe4b8bfb0e7f6f30a1b9524083097d55938b97f47b353ef2", func := "loop.example/g00601/laws.FnExactNameOK", spec := "fnExactNameOK", apart := false }
def FnExactNameOKSaid : Prop := fnExactNameOKRow.holds Try.pinned (OpenSpec.ofChange fnExactNameOKSpec)

/-- ITS FALSE NEIGHBOUR: 'it returns false'. Refute it at one input. -/
def fnExactNameOKWrong : ChangeSpec := { name := "fnExactNameOK", fn := fun _ => fun
  | [d] => { results := [.lit (.bool false)], args := [d] }
  | _ => none }
def FnExactNameOKWrongFalsely : Prop := fnExactNameOKRow.holds Try.pinned (OpenSpec.ofChange fnExactNameOKWrong)

/-- 'laws.FnAlign': WHATEVER THE INPUT: true; the input reads as it did. -/
def fnAlignSpec : ChangeSpec := { name := "fnAlign", fn := fun _ => fun
  | [d] => { results := [.lit (.bool true)], args := [d] }
  | _ => none }
def fnAlignRow : OpenClaim := { program := "ytodmgklagfabaaa", sum := "06298d4295fef0babe4b8bfb0e7f6f30a1b9524083097d55938b97f47b353ef2", func := "loop.example/g00601/laws.FnAlign", spec := "fnAlign", apart := false }
def FnAlignSaid : Prop := fnAlignRow.holds Try.pinned (OpenSpec.ofChange fnAlignSpec)

/-- ITS FALSE NEIGHBOUR: 'it returns false'. Refute it at one input. -/
def fnAlignWrong : ChangeSpec := { name := "fnAlign", fn := fun _ => fun
  | [d] => { results := [.lit (.bool false)], args := [d] }
  | _ => none }
def FnAlignWrongFalsely : Prop := fnAlignRow.holds Try.pinned (OpenSpec.ofChange fnAlignWrong)

/- THE SECOND FORM. 'bulk': how many values and letters a reading holds, each counted each time it is reached (what is shared counts as often as it is met; a slice's spare places count too). A statement '..UptoSaid' is the law's where the arguments, and the package variables that the reading takes, are together of bulk at most 1048576: NARROWER than '..Said'. Prove '..Said' where nothing that the law and all that it calls make is longer than what came in: it says more and counts as full. Else prove '..UptoSaid'. A law counts once. -/
mutual
def uptoBulk {H : Type} : DataW H → Nat
  | .lit (.string bytes) => bytes.length + 1
  | .lit _ => 1
  | .nil => 1
  | .ptr d => uptoBulk d + 1
  | .slice elems spare => uptoBulkAll elems + uptoBulkAll spare + 1
  | .agg parts => uptoBulkAll parts + 1
  | .iface _ d => uptoBulk d + 1
  | .map entries => uptoBulkEntries entries + 1
  | .held _ => 1
def uptoBulkAll {H : Type} : List (DataW H) → Nat
  | [] => 0
  | d :: r => uptoBulk d + uptoBulkAll r
def uptoBulkEntries {H : Type} : List (Lit × DataW H) → Nat
  | [] => 0
  | x :: r => uptoBulkEntry x + uptoBulkEntries r
def uptoBulkEntry {H : Type} : Lit × DataW H → Nat
  | (.string bytes, d) => bytes.length + uptoBulk d + 1
  | (_, d) => uptoBulk d + 1
 end
def uptoSmall : (H : Type) → List (DataW H) → Bool := fun _ ds => decide (uptoBulkAll ds ≤ 1048576)
def OpenSpec.upto (s : _root_.Go.ChangeSpec) : _root_.Go.OpenSpec := { _root_.Go.OpenSpec.ofChange s with cond := some uptoSmall }

/-- 'laws.FnExactConstants', WHERE WHAT IT READS IS OF BULK AT MOST 1048576: true; the input reads as it did. -/
def fnExactConstantsUptoRow : OpenClaim := { program := "ytodmgklagfabaaa", sum := "06298d4295fef0babe4b8bfb0e7f6f30a1b9524083097d55938b97f47b353ef2", func := "loop.example/g00601/laws.FnExactConstants", spec := "fnExactConstants", apart := false, narrowed := true }
def FnExactConstantsUptoSaid : Prop := fnExactConstantsUptoRow.holds Try.pinned (OpenSpec.upto fnExactConstantsSpec)

/-- 'laws.FnExactLeaseOK', WHERE WHAT IT READS IS OF BULK AT MOST 1048576: true; the input reads as it did. -/
def fnExactLeaseOKUptoRow : OpenClaim := { program := "ytodmgklagfabaaa", sum := "06298d4295fef0babe4b8bfb0e7f6f30a1b9524083097d55938b97f47b353ef2", func := "loop.example/g00601/laws.FnExactLeaseOK", spec := "fnExactLeaseOK", apart := false, narrowed := true }
def FnExactLeaseOKUptoSaid : Prop := fnExactLeaseOKUptoRow.holds Try.pinned (OpenSpec.upto fnExactLeaseOKSpec)

/-- 'laws.FnExactCodeWord', WHERE WHAT IT READS IS OF BULK AT MOST 1048576: true; the input reads as it did. -/
def fnExactCodeWordUptoRow : OpenClaim := { program := "ytodmgklagfabaaa", sum := "06298d4295fef0babe4b8bfb0e7f6f30a1b9524083097d55938b97f47b353ef2", func := "loop.example/g00601/laws.FnExactCodeWord", spec := "fnExactCodeWord", apart := false, narrowed := true }
def FnExactCodeWordUptoSaid : Prop := fnExactCodeWordUptoRow.holds Try.pinned (OpenSpec.upto fnExactCodeWordSpec)

/-- 'laws.FnExactAlignDown', WHERE WHAT IT READS IS OF BULK AT MOST 1048576: true; the input reads as it did. -/
def fnExactAlignDownUptoRow : OpenClaim := { program := "ytodmgklagfabaaa", sum := "06298d4295fef0babe4b8bfb0e7f6f30a1b9524083097d55938b97f47b353ef2", func := "loop.example/g00601/laws.FnExactAlignDown", spec := "fnExactAlignDown", apart := false, narrowed := true }
def FnExactAlignDownUptoSaid : Prop := fnExactAlignDownUptoRow.holds Try.pinned (OpenSpec.upto fnExactAlignDownSpec)

/-- 'laws.FnExactKeepOf', WHERE WHAT IT READS IS OF BULK AT MOST 1048576: true; the input reads as it did. -/
def fnExactKeepOfUptoRow : OpenClaim := { program := "ytodmgklagfabaaa", sum := "06298d4295fef0babe4b8bfb0e7f6f30a1b9524083097d55938b97f47b353ef2", func := "loop.example/g00601/laws.FnExactKeepOf", spec := "fnExactKeepOf", apart := false, narrowed := true }
def FnExactKeepOfUptoSaid : Prop := fnExactKeepOfUptoRow.holds Try.pinned (OpenSpec.upto fnExactKeepOfSpec)

/-- 'laws.FnExactWidthOf', WHERE WHAT IT READS IS OF BULK AT MOST 1048576: true; the input reads as it did. -/
def fnExactWidthOfUptoRow : OpenClaim := { program := "ytodmgklagfabaaa", sum := "06298d4295fef0babe4b8bfb0e7f6f30a1b9524083097d55938b97f47b353ef2", func := "loop.example/g00601/laws.FnExactWidthOf", spec := "fnExactWidthOf", apart := false, narrowed := true }
def FnExactWidthOfUptoSaid : Prop := fnExactWidthOfUptoRow.holds Try.pinned (OpenSpec.upto fnExactWidthOfSpec)

/-- 'laws.FnExactKeyOK', WHERE WHAT IT READS IS OF BULK AT MOST 1048576: true; the input reads as it did. -/
def fnExactKeyOKUptoRow : OpenClaim := { program := "ytodmgklagfabaaa", sum := "06298d4295fef0babe4b8bfb0e7f6f30a1b9524083097d55938b97f47b353ef2", func := "loop.example/g00601/laws.FnExactKeyOK", spec := "fnExactKeyOK", apart := false, narrowed := true }
def FnExactKeyOKUptoSaid : Prop := fnExactKeyOKUptoRow.holds Try.pinned (OpenSpec.upto fnExactKeyOKSpec)

/-- 'laws.FnExactAggOK', WHERE WHAT IT READS IS OF BULK AT MOST 1048576: true; the input reads as it did. -/
def fnExactAggOKUptoRow : OpenClaim := { program := "ytodmgklagfabaaa", sum := "06298d4295fef0babe4b8bfb0e7f6f30a1b9524083097d55938b97f47b353ef2", func := "loop.example/g00601/laws.FnExactAggOK", spec := "fnExactAggOK", apart := false, narrowed := true }
def FnExactAggOKUptoSaid : Prop := fnExactAggOKUptoRow.holds Try.pinned (OpenSpec.upto fnExactAggOKSpec)

/-- 'laws.FnExactCodeOf', WHERE WHAT IT READS IS OF BULK AT MOST 1048576: true; the input reads as it did. -/
def fnExactCodeOfUptoRow : OpenClaim := { program := "ytodmgklagfabaaa", sum := "06298d4295fef0babe4b8bfb0e7f6f30a1b9524083097d55938b97f47b353ef2", func := "loop.example/g00601/laws.FnExactCodeOf", spec := "fnExactCodeOf", apart := false, narrowed := true }
def FnExactCodeOfUptoSaid : Prop := fnExactCodeOfUptoRow.holds Try.pinned (OpenSpec.upto fnExactCodeOfSpec)

/-- 'laws.FnExactNameOK', WHERE WHAT IT READS IS OF BULK AT MOST 1048576: true; the input reads as it did. -/
def fnExactNameOKUptoRow : OpenClaim := { program := "ytodmgklagfabaaa", sum := "06298d4295fef0babe4b8bfb0e7f6f30a1b9524083097d55938b97f47b353ef2", func := "loop.example/g00601/laws.FnExactNameOK", spec := "fnExactNameOK", apart := false, narrowed := true }
def FnExactNameOKUptoSaid : Prop := fnExactNameOKUptoRow.holds Try.pinned (OpenSpec.upto fnExactNameOKSpec)

/-- 'laws.FnAlign', WHERE WHAT IT READS IS OF BULK AT MOST 1048576: true; the input reads as it did. -/
def fnAlignUptoRow : OpenClaim := { program := "ytodmgklagfabaaa", sum := "06298d4295fef0babe4b8bfb0e7f6f30a1b9524083097d55938b97f47b353ef2", func := "loop.example/g00601/laws.FnAlign", spec := "fnAlign", apart := false, narrowed := true }
def FnAlignUptoSaid : Prop := fnAlignUptoRow.holds Try.pinned (OpenSpec.upto fnAlignSpec)

end Rows
end Go.Proofs.Ytodmgklagfabaaa
