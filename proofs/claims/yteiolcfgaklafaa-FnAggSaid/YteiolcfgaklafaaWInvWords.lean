-- The kit's words, printed by its own program for this seat and cut to what the law reaches (wip/tools/trimw.py).
import Derived.Test.YteiolcfgaklafaaWInv
import Derived.Test.YteiolcfgaklafaaWFootNe
namespace Go.Proofs.YteiolcfgaklafaaW.PrintWords
open Go.RowKit
end Go.Proofs.YteiolcfgaklafaaW.PrintWords
namespace Go.Proofs.YteiolcfgaklafaaW.PrintLast
section
variable {ops : Array Oper} {a : Act} {o og : Oper} {g : Nat} {t : Tmp} {u : Bool}
end
end Go.Proofs.YteiolcfgaklafaaW.PrintLast
