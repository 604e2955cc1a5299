-- The kit's words, printed by its own program for this seat and cut to what the law reaches (wip/tools/trimw.py).
import Derived.Test.YtfondhlknkhmmaaGreatDoorWInv
import Derived.Test.YtfondhlknkhmmaaGreatDoorWFootNe
namespace Go.Proofs.YtfondhlknkhmmaaGreatDoorW.PrintWords
open Go.RowKit
end Go.Proofs.YtfondhlknkhmmaaGreatDoorW.PrintWords
namespace Go.Proofs.YtfondhlknkhmmaaGreatDoorW.PrintLast
section
variable {ops : Array Oper} {a : Act} {o og : Oper} {g : Nat} {t : Tmp} {u : Bool}
end
end Go.Proofs.YtfondhlknkhmmaaGreatDoorW.PrintLast
