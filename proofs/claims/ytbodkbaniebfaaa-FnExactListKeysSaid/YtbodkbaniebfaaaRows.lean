/-
  No cell of these rows narrows 'for every input' (looked for: loops, veiled, ifaces, maps, wideKeys, modest, calm, conditions, laid).
  DERIVED. THE GIVEN ROWS OF THIS SEAT. 4 by the template 'for every input the law returns true; each argument reads behind the call as it read before'; 0 by the template 'total and deterministic' (their statements: YtbodkbaniebfaaaTotals.lean).
  GIVEN WITH THE SEED: the statements are not yours to turn. If you find one false, say at which input.
  Laid BY PROGRAM, IN A SANDBOX (cutbox-rows.mjs): the forced cells as the released guide's own fill.sh prints them over the translation 923270646dbad758… (all of the seat's roots in one cut). By AI agents, Wed Nov 11 2026. No macro, syntax, notation, axiom, sorry.
-/
import Derived.Test.YtbodkbaniebfaaaChecked
import GoSem.Claim
import GoSem.ClaimJoined
import GoSem.ClaimMapViews
import Derived.JoinedTies
import Derived.KernelRfl
namespace Go.Proofs.Ytbodkbaniebfaaa
/- THE CELL 'sum', in the pinned program and in every row, IS THE sha256 OF THE DUMP (.gsa) THAT YtbodkbaniebfaaaProg.lean LOADS. Nothing in Lean hashes anything: it is a label: what it is worth is what the hold of that sum in a sandbox is worth. -/
noncomputable def Try.pinned : Pinned := { name := "ytbodkbaniebfaaa", sum := "923270646dbad758a2e8bd966ab93cd2ea34107332d4e7a6174740c0c73fd438", checked := Try.checked }
namespace Rows
def none {H : Type} : Left H := { results := [], args := [] }

/-- 'laws.FnExactDeleteVersion': WHATEVER THE INPUT: true; the input reads as it did. -/
def fnExactDeleteVersionSpec : ChangeSpec := { name := "fnExactDeleteVersion", fn := fun _ => fun
  | [d1, d2, d3] => { results := [.lit (.bool true)], args := [d1, d2, d3] }
  | _ => none }
def fnExactDeleteVersionRow : OpenClaim := { program := "ytbodkbaniebfaaa", sum := "923270646dbad758a2e8bd966ab93cd2ea34107332d4e7a6174740c0c73fd438", func := "loop.example/g00601/laws.FnExactDeleteVersion", spec := "fnExactDeleteVersion", inPlace := ["internal/bytealg.abigen_runtime_cmpstring"], unfollowed := true, recurses := true, apart := false }
def FnExactDeleteVersionSaid : Prop := fnExactDeleteVersionRow.holds Try.pinned (OpenSpec.ofChange fnExactDeleteVersionSpec)

/-- ITS FALSE NEIGHBOUR: 'it returns false'. Refute it at one input. -/
def fnExactDeleteVersionWrong : ChangeSpec := { name := "fnExactDeleteVersion", fn := fun _ => fun
  | [d1, d2, d3] => { results := [.lit (.bool false)], args := [d1, d2, d3] }
  | _ => none }
def FnExactDeleteVersionWrongFalsely : Prop := fnExactDeleteVersionRow.holds Try.pinned (OpenSpec.ofChange fnExactDeleteVersionWrong)

/-- 'laws.FnExactListKeys': WHATEVER THE INPUT: true; the input reads as it did. -/
def fnExactListKeysSpec : ChangeSpec := { name := "fnExactListKeys", fn := fun _ => fun
  | [d1, d2, d3, d4] => { results := [.lit (.bool true)], args := [d1, d2, d3, d4] }
  | _ => none }
def fnExactListKeysRow : OpenClaim := { program := "ytbodkbaniebfaaa", sum := "923270646dbad758a2e8bd966ab93cd2ea34107332d4e7a6174740c0c73fd438", func := "loop.example/g00601/laws.FnExactListKeys", spec := "fnExactListKeys", unfollowed := true, recurses := true, apart := false }
def FnExactListKeysSaid : Prop := fnExactListKeysRow.holds Try.pinned (OpenSpec.ofChange fnExactListKeysSpec)

/-- ITS FALSE NEIGHBOUR: 'it returns false'. Refute it at one input. -/
def fnExactListKeysWrong : ChangeSpec := { name := "fnExactListKeys", fn := fun _ => fun
  | [d1, d2, d3, d4] => { results := [.lit (.bool false)], args := [d1, d2, d3, d4] }
  | _ => none }
def FnExactListKeysWrongFalsely : Prop := fnExactListKeysRow.holds Try.pinned (OpenSpec.ofChange fnExactListKeysWrong)

/-- 'laws.FnExactPutAbsent': WHATEVER THE INPUT: true; the input reads as it did. -/
def fnExactPutAbsentSpec : ChangeSpec := { name := "fnExactPutAbsent", fn := fun _ => fun
  | [d1, d2, d3] => { results := [.lit (.bool true)], args := [d1, d2, d3] }
  | _ => none }
def fnExactPutAbsentRow : OpenClaim := { program := "ytbodkbaniebfaaa", sum := "923270646dbad758a2e8bd966ab93cd2ea34107332d4e7a6174740c0c73fd438", func := "loop.example/g00601/laws.FnExactPutAbsent", spec := "fnExactPutAbsent", inPlace := ["internal/bytealg.abigen_runtime_cmpstring", "slices.overlaps[loop.example/g00601/impl.Object]"], unfollowed := true, recurses := true, apart := false }
def FnExactPutAbsentSaid : Prop := fnExactPutAbsentRow.holds Try.pinned (OpenSpec.ofChange fnExactPutAbsentSpec)

/-- ITS FALSE NEIGHBOUR: 'it returns false'. Refute it at one input. -/
def fnExactPutAbsentWrong : ChangeSpec := { name := "fnExactPutAbsent", fn := fun _ => fun
  | [d1, d2, d3] => { results := [.lit (.bool false)], args := [d1, d2, d3] }
  | _ => none }
def FnExactPutAbsentWrongFalsely : Prop := fnExactPutAbsentRow.holds Try.pinned (OpenSpec.ofChange fnExactPutAbsentWrong)

/-- 'laws.FnExactPutVersion': WHATEVER THE INPUT: true; the input reads as it did. -/
def fnExactPutVersionSpec : ChangeSpec := { name := "fnExactPutVersion", fn := fun _ => fun
  | [d1, d2, d3, d4] => { results := [.lit (.bool true)], args := [d1, d2, d3, d4] }
  | _ => none }
def fnExactPutVersionRow : OpenClaim := { program := "ytbodkbaniebfaaa", sum := "923270646dbad758a2e8bd966ab93cd2ea34107332d4e7a6174740c0c73fd438", func := "loop.example/g00601/laws.FnExactPutVersion", spec := "fnExactPutVersion", inPlace := ["internal/bytealg.abigen_runtime_cmpstring", "slices.overlaps[loop.example/g00601/impl.Object]"], unfollowed := true, recurses := true, apart := false }
def FnExactPutVersionSaid : Prop := fnExactPutVersionRow.holds Try.pinned (OpenSpec.ofChange fnExactPutVersionSpec)

/-- ITS FALSE NEIGHBOUR: 'it returns false'. Refute it at one input. -/
def fnExactPutVersionWrong : ChangeSpec := { name := "fnExactPutVersion", fn := fun _ => fun
  | [d1, d2, d3, d4] => { results := [.lit (.bool false)], args := [d1, d2, d3, d4] }
  | _ => none }
def FnExactPutVersionWrongFalsely : Prop := fnExactPutVersionRow.holds Try.pinned (OpenSpec.ofChange fnExactPutVersionWrong)

/- THE SECOND FORM. 'bulk': how many values and letters a reading holds, each counted each time it is reached (what is shared counts as often as it is met; a slice's spare places count too). A statement '..UptoSaid' is the law's where the arguments, and the package variables that the reading takes, are together of bulk at most 1048576: NARROWER than '..Said'. Prove '..Said' where nothing that the law and all that it calls make is longer than what came in: it says more and counts as full. Else prove '..UptoSaid'. A law counts once. -/
mutual
def uptoBulk {H : Type} : DataW H → Nat
  | .lit (.string bytes) => bytes.length + 1
  | .lit _ => 1
  | .nil => 1
  | .ptr d => uptoBulk d + 1
  | .slice elems spare => uptoBulkAll elems + uptoBulkAll spare + 1
  | .agg parts => uptoBulkAll parts + 1
  | .iface _ d => uptoBulk d + 1
  | .map entries => uptoBulkEntries entries + 1
  | .held _ => 1
def uptoBulkAll {H : Type} : List (DataW H) → Nat
  | [] => 0
  | d :: r => uptoBulk d + uptoBulkAll r
def uptoBulkEntries {H : Type} : List (Lit × DataW H) → Nat
  | [] => 0
  | x :: r => uptoBulkEntry x + uptoBulkEntries r
def uptoBulkEntry {H : Type} : Lit × DataW H → Nat
  | (.string bytes, d) => bytes.length + uptoBulk d + 1
  | (_, d) => uptoBulk d + 1
 end
def uptoSmall : (H : Type) → List (DataW H) → Bool := fun _ ds => decide (uptoBulkAll ds ≤ 1048576)
def OpenSpec.upto (s : _root_.Go.ChangeSpec) : _root_.Go.OpenSpec := { _root_.Go.OpenSpec.ofChange s with cond := some uptoSmall }

/-- 'laws.FnExactDeleteVersion', WHERE WHAT IT READS IS OF BULK AT MOST 1048576: true; the input reads as it did. -/
def fnExactDeleteVersionUptoRow : OpenClaim := { program := "ytbodkbaniebfaaa", sum := "923270646dbad758a2e8bd966ab93cd2ea34107332d4e7a6174740c0c73fd438", func := "loop.example/g00601/laws.FnExactDeleteVersion", spec := "fnExactDeleteVersion", inPlace := ["internal/bytealg.abigen_runtime_cmpstring"], unfollowed := true, recurses := true, apart := false, narrowed := true }
def FnExactDeleteVersionUptoSaid : Prop := fnExactDeleteVersionUptoRow.holds Try.pinned (OpenSpec.upto fnExactDeleteVersionSpec)

/-- 'laws.FnExactListKeys', WHERE WHAT IT READS IS OF BULK AT MOST 1048576: true; the input reads as it did. -/
def fnExactListKeysUptoRow : OpenClaim := { program := "ytbodkbaniebfaaa", sum := "923270646dbad758a2e8bd966ab93cd2ea34107332d4e7a6174740c0c73fd438", func := "loop.example/g00601/laws.FnExactListKeys", spec := "fnExactListKeys", unfollowed := true, recurses := true, apart := false, narrowed := true }
def FnExactListKeysUptoSaid : Prop := fnExactListKeysUptoRow.holds Try.pinned (OpenSpec.upto fnExactListKeysSpec)

/-- 'laws.FnExactPutAbsent', WHERE WHAT IT READS IS OF BULK AT MOST 1048576: true; the input reads as it did. -/
def fnExactPutAbsentUptoRow : OpenClaim := { program := "ytbodkbaniebfaaa", sum := "923270646dbad758a2e8bd966ab93cd2ea34107332d4e7a6174740c0c73fd438", func := "loop.example/g00601/laws.FnExactPutAbsent", spec := "fnExactPutAbsent", inPlace := ["internal/bytealg.abigen_runtime_cmpstring", "slices.overlaps[loop.example/g00601/impl.Object]"], unfollowed := true, recurses := true, apart := false, narrowed := true }
def FnExactPutAbsentUptoSaid : Prop := fnExactPutAbsentUptoRow.holds Try.pinned (OpenSpec.upto fnExactPutAbsentSpec)

/-- 'laws.FnExactPutVersion', WHERE WHAT IT READS IS OF BULK AT MOST 1048576: true; the input reads as it did. -/
def fnExactPutVersionUptoRow : OpenClaim := { program := "ytbodkbaniebfaaa", sum := "923270646dbad758a2e8bd966ab93cd2ea34107332d4e7a6174740c0c73fd438", func := "loop.example/g00601/laws.FnExactPutVersion", spec := "fnExactPutVersion", inPlace := ["internal/bytealg.abigen_runtime_cmpstring", "slices.overlaps[loop.example/g00601/impl.Object]"], unfollowed := true, recurses := true, apart := false, narrowed := true }
def FnExactPutVersionUptoSaid : Prop := fnExactPutVersionUptoRow.holds Try.pinned (OpenSpec.upto fnExactPutVersionSpec)

end Rows
end Go.Proofs.Ytbodkbaniebfaaa
