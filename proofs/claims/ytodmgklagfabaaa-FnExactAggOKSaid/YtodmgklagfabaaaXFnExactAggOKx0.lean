-- Printed by this session's own program wip/tools/xprint.py, which widens the kit's print. Not trusted: Lean checks it.
import Derived.Test.YtodmgklagfabaaaProg
import Derived.Below
import Derived.Deep.Draws
import Derived.Deep.AppendLies
import Derived.Maps.AppendAt
import Derived.OwnWalk
import Derived.Laws.BytesArg
import Derived.Laws.MakeOwn
import Derived.Laws.OwnMore
import Derived.Deep.OwnRows
import Derived.Tactics
import Derived.Lib.ConvBytes
import Derived.Laws.Slices
import Derived.WalkKit
import Derived.KernelRfl
import Derived.RowKit3
import Derived.Deep.LoopGhost
import Derived.Deep.QuietTactic
import Derived.BigQuiet
import Derived.WideLaws
import Derived.Deep.DeepCutAuto
import Derived.Deep.CutBlock
import Derived.Deep.RegionHeld3
import Derived.Laws.Rows
import Derived.Lib.AppendStr
import Derived.ArgAppend
import Derived.Laws.IdiomCopy
import Derived.OrdersHeld
import Derived.Laws.BitsLemmas
import Derived.RowKit
import Derived.Test.YtodmgklagfabaaaWWords
import Derived.Test.YtodmgklagfabaaaWLast
import Derived.Test.YtodmgklagfabaaaWTab
import Derived.Test.YtodmgklagfabaaaWFour
import Derived.Test.YtodmgklagfabaaaWQPut
import Derived.Test.YtodmgklagfabaaaWApart
import Derived.Test.YtodmgklagfabaaaWArr
import Derived.Test.YtodmgklagfabaaaWZeros
import Derived.Test.YtodmgklagfabaaaWFoot
import Derived.Test.YtodmgklagfabaaaWKept
import Derived.Test.YtodmgklagfabaaaWShare
import Derived.Test.YtodmgklagfabaaaWN
import Derived.Test.YtodmgklagfabaaaWFootNe
import Derived.Test.YtodmgklagfabaaaWAt
import Derived.Test.YtodmgklagfabaaaWEqStruct
import Derived.Test.YtodmgklagfabaaaWRepsOne
import Derived.Test.YtodmgklagfabaaaWInv
import Derived.Test.YtodmgklagfabaaaWInvWords
import Derived.Test.YtodmgklagfabaaaWGuard
import Derived.Test.YtodmgklagfabaaaWNEv
import Derived.Test.YtodmgklagfabaaaWMore
namespace Go.Proofs.Ytodmgklagfabaaa.XFnExactAggOK
open Go.RowKit Go.Proofs.YtodmgklagfabaaaW.PrintWords Go.Proofs.YtodmgklagfabaaaW.PrintLast Go.Proofs.YtodmgklagfabaaaW.PrintMore
attribute [local go_sem] max2_int min2_int max_two min_two max_three min_three max_four min_four   -- for this text's walks alone
set_option linter.unusedVariables false
set_option linter.unusedSimpArgs false



def errW : Option Int → Value
  | none => .nilIface
  | some c => .iface 0 (.int .i64 c)
theorem errW_none : errW none = .nilIface := rfl
theorem errW_some (c : Int) : errW (some c) = .iface 0 (.int .i64 c) := rfl


-- the values' own types

end Go.Proofs.Ytodmgklagfabaaa.XFnExactAggOK
