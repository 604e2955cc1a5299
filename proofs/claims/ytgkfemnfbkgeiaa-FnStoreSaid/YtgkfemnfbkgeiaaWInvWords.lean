-- The kit's words, printed by its own program for this seat and cut to what the law reaches (wip/tools/trimw.py).
import Derived.Test.YtgkfemnfbkgeiaaWInv
import Derived.Test.YtgkfemnfbkgeiaaWFootNe
namespace Go.Proofs.YtgkfemnfbkgeiaaW.PrintWords
open Go.RowKit
end Go.Proofs.YtgkfemnfbkgeiaaW.PrintWords
namespace Go.Proofs.YtgkfemnfbkgeiaaW.PrintLast
section
variable {ops : Array Oper} {a : Act} {o og : Oper} {g : Nat} {t : Tmp} {u : Bool}
end
end Go.Proofs.YtgkfemnfbkgeiaaW.PrintLast
