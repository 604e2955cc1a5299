-- The kit's words, printed by its own program for this seat and cut to what the law reaches (wip/tools/trimw.py).
import Derived.Test.YtbodkbaniebfaaaDoorWInv
import Derived.Test.YtbodkbaniebfaaaDoorWFootNe
namespace Go.Proofs.YtbodkbaniebfaaaDoorW.PrintWords
open Go.RowKit
end Go.Proofs.YtbodkbaniebfaaaDoorW.PrintWords
namespace Go.Proofs.YtbodkbaniebfaaaDoorW.PrintLast
section
variable {ops : Array Oper} {a : Act} {o og : Oper} {g : Nat} {t : Tmp} {u : Bool}
end
end Go.Proofs.YtbodkbaniebfaaaDoorW.PrintLast
