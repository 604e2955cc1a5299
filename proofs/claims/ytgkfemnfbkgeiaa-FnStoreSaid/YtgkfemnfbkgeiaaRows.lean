/-
  No cell of these rows narrows 'for every input' (looked for: loops, veiled, ifaces, maps, wideKeys, modest, calm, conditions, laid).
  DERIVED. THE GIVEN ROWS OF THIS SEAT. 3 by the template 'for every input the law returns true; each argument reads behind the call as it read before'; 0 by the template 'total and deterministic' (their statements: YtgkfemnfbkgeiaaTotals.lean).
  GIVEN WITH THE SEED: the statements are not yours to turn. If you find one false, say at which input.
  Laid BY PROGRAM, IN A SANDBOX (cutbox-rows.mjs): the forced cells as the released guide's own fill.sh prints them over the translation 12510d9381239928… (all of the seat's roots in one cut). By AI agents, Wed Nov 11 2026. No macro, syntax, notation, axiom, sorry.
-/
import Derived.Test.YtgkfemnfbkgeiaaChecked
import GoSem.Claim
import GoSem.ClaimJoined
import GoSem.ClaimMapViews
import Derived.JoinedTies
import Derived.KernelRfl
namespace Go.Proofs.Ytgkfemnfbkgeiaa
/- THE CELL 'sum', in the pinned program and in every row, IS THE sha256 OF THE DUMP (.gsa) THAT YtgkfemnfbkgeiaaProg.lean LOADS. Nothing in Lean hashes anything: it is a label: what it is worth is what the hold of that sum in a sandbox is worth. -/
noncomputable def Try.pinned : Pinned := { name := "ytgkfemnfbkgeiaa", sum := "12510d9381239928a38d0680ff45233c4c5d9d403856c5fd925840f5bc2044c8", checked := Try.checked }
namespace Rows
def none {H : Type} : Left H := { results := [], args := [] }

/-- 'laws.FnList': WHATEVER THE INPUT: true; the input reads as it did. -/
def fnListSpec : ChangeSpec := { name := "fnList", fn := fun _ => fun
  | [d1, d2] => { results := [.lit (.bool true)], args := [d1, d2] }
  | _ => none }
def fnListRow : OpenClaim := { program := "ytgkfemnfbkgeiaa", sum := "12510d9381239928a38d0680ff45233c4c5d9d403856c5fd925840f5bc2044c8", func := "loop.example/g00601/laws.FnList", spec := "fnList", unfollowed := true, recurses := true, apart := false }
def FnListSaid : Prop := fnListRow.holds Try.pinned (OpenSpec.ofChange fnListSpec)

/-- ITS FALSE NEIGHBOUR: 'it returns false'. Refute it at one input. -/
def fnListWrong : ChangeSpec := { name := "fnList", fn := fun _ => fun
  | [d1, d2] => { results := [.lit (.bool false)], args := [d1, d2] }
  | _ => none }
def FnListWrongFalsely : Prop := fnListRow.holds Try.pinned (OpenSpec.ofChange fnListWrong)

/-- 'laws.FnStore': WHATEVER THE INPUT: true; the input reads as it did. -/
def fnStoreSpec : ChangeSpec := { name := "fnStore", fn := fun _ => fun
  | [d1, d2] => { results := [.lit (.bool true)], args := [d1, d2] }
  | _ => none }
def fnStoreRow : OpenClaim := { program := "ytgkfemnfbkgeiaa", sum := "12510d9381239928a38d0680ff45233c4c5d9d403856c5fd925840f5bc2044c8", func := "loop.example/g00601/laws.FnStore", spec := "fnStore", inPlace := ["internal/bytealg.abigen_runtime_cmpstring", "slices.overlaps[loop.example/g00601/impl.Object]"], unfollowed := true, recurses := true, apart := false }
def FnStoreSaid : Prop := fnStoreRow.holds Try.pinned (OpenSpec.ofChange fnStoreSpec)

/-- ITS FALSE NEIGHBOUR: 'it returns false'. Refute it at one input. -/
def fnStoreWrong : ChangeSpec := { name := "fnStore", fn := fun _ => fun
  | [d1, d2] => { results := [.lit (.bool false)], args := [d1, d2] }
  | _ => none }
def FnStoreWrongFalsely : Prop := fnStoreRow.holds Try.pinned (OpenSpec.ofChange fnStoreWrong)

/-- 'laws.FnCas': WHATEVER THE INPUT: true; the input reads as it did. -/
def fnCasSpec : ChangeSpec := { name := "fnCas", fn := fun _ => fun
  | [d1, d2] => { results := [.lit (.bool true)], args := [d1, d2] }
  | _ => none }
def fnCasRow : OpenClaim := { program := "ytgkfemnfbkgeiaa", sum := "12510d9381239928a38d0680ff45233c4c5d9d403856c5fd925840f5bc2044c8", func := "loop.example/g00601/laws.FnCas", spec := "fnCas", inPlace := ["internal/bytealg.abigen_runtime_cmpstring", "slices.overlaps[loop.example/g00601/impl.Object]"], unfollowed := true, recurses := true, apart := false }
def FnCasSaid : Prop := fnCasRow.holds Try.pinned (OpenSpec.ofChange fnCasSpec)

/-- ITS FALSE NEIGHBOUR: 'it returns false'. Refute it at one input. -/
def fnCasWrong : ChangeSpec := { name := "fnCas", fn := fun _ => fun
  | [d1, d2] => { results := [.lit (.bool false)], args := [d1, d2] }
  | _ => none }
def FnCasWrongFalsely : Prop := fnCasRow.holds Try.pinned (OpenSpec.ofChange fnCasWrong)

/- THE SECOND FORM. 'bulk': how many values and letters a reading holds, each counted each time it is reached (what is shared counts as often as it is met; a slice's spare places count too). A statement '..UptoSaid' is the law's where the arguments, and the package variables that the reading takes, are together of bulk at most 1048576: NARROWER than '..Said'. Prove '..Said' where nothing that the law and all that it calls make is longer than what came in: it says more and counts as full. Else prove '..UptoSaid'. A law counts once. -/
mutual
def uptoBulk {H : Type} : DataW H → Nat
  | .lit (.string bytes) => bytes.length + 1
  | .lit _ => 1
  | .nil => 1
  | .ptr d => uptoBulk d + 1
  | .slice elems spare => uptoBulkAll elems + uptoBulkAll spare + 1
  | .agg parts => uptoBulkAll parts + 1
  | .iface _ d => uptoBulk d + 1
  | .map entries => uptoBulkEntries entries + 1
  | .held _ => 1
def uptoBulkAll {H : Type} : List (DataW H) → Nat
  | [] => 0
  | d :: r => uptoBulk d + uptoBulkAll r
def uptoBulkEntries {H : Type} : List (Lit × DataW H) → Nat
  | [] => 0
  | x :: r => uptoBulkEntry x + uptoBulkEntries r
def uptoBulkEntry {H : Type} : Lit × DataW H → Nat
  | (.string bytes, d) => bytes.length + uptoBulk d + 1
  | (_, d) => uptoBulk d + 1
 end
def uptoSmall : (H : Type) → List (DataW H) → Bool := fun _ ds => decide (uptoBulkAll ds ≤ 1048576)
def OpenSpec.upto (s : _root_.Go.ChangeSpec) : _root_.Go.OpenSpec := { _root_.Go.OpenSpec.ofChange s with cond := some uptoSmall }

/-- 'laws.FnList', WHERE WHAT IT READS IS OF BULK AT MOST 1048576: true; the input reads as it did. -/
def fnListUptoRow : OpenClaim := { program := "ytgkfemnfbkgeiaa", sum := "12510d9381239928a38d0680ff45233c4c5d9d403856c5fd925840f5bc2044c8", func := "loop.example/g00601/laws.FnList", spec := "fnList", unfollowed := true, recurses := true, apart := false, narrowed := true }
def FnListUptoSaid : Prop := fnListUptoRow.holds Try.pinned (OpenSpec.upto fnListSpec)

/-- 'laws.FnStore', WHERE WHAT IT READS IS OF BULK AT MOST 1048576: true; the input reads as it did. -/
def fnStoreUptoRow : OpenClaim := { program := "ytgkfemnfbkgeiaa", sum := "12510d9381239928a38d0680ff45233c4c5d9d403856c5fd925840f5bc2044c8", func := "loop.example/g00601/laws.FnStore", spec := "fnStore", inPlace := ["internal/bytealg.abigen_runtime_cmpstring", "slices.overlaps[loop.example/g00601/impl.Object]"], unfollowed := true, recurses := true, apart := false, narrowed := true }
def FnStoreUptoSaid : Prop := fnStoreUptoRow.holds Try.pinned (OpenSpec.upto fnStoreSpec)

/-- 'laws.FnCas', WHERE WHAT IT READS IS OF BULK AT MOST 1048576: true; the input reads as it did. -/
def fnCasUptoRow : OpenClaim := { program := "ytgkfemnfbkgeiaa", sum := "12510d9381239928a38d0680ff45233c4c5d9d403856c5fd925840f5bc2044c8", func := "loop.example/g00601/laws.FnCas", spec := "fnCas", inPlace := ["internal/bytealg.abigen_runtime_cmpstring", "slices.overlaps[loop.example/g00601/impl.Object]"], unfollowed := true, recurses := true, apart := false, narrowed := true }
def FnCasUptoSaid : Prop := fnCasUptoRow.holds Try.pinned (OpenSpec.upto fnCasSpec)

end Rows
end Go.Proofs.Ytgkfemnfbkgeiaa
