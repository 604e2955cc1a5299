-- The kit's words, printed by its own program for this seat and cut to what the law reaches (wip/tools/trimw.py).
import Derived.Test.YtfondhlknkhmmaaDoorWInv
import Derived.Test.YtfondhlknkhmmaaDoorWFootNe
namespace Go.Proofs.YtfondhlknkhmmaaDoorW.PrintWords
open Go.RowKit
end Go.Proofs.YtfondhlknkhmmaaDoorW.PrintWords
namespace Go.Proofs.YtfondhlknkhmmaaDoorW.PrintLast
section
variable {ops : Array Oper} {a : Act} {o og : Oper} {g : Nat} {t : Tmp} {u : Bool}
end
end Go.Proofs.YtfondhlknkhmmaaDoorW.PrintLast
