-- The kit's words, printed by its own program for this seat and cut to what the law reaches (wip/tools/trimw.py).
import Derived.Test.YtbdhpmamlibmhaaDoorWInv
import Derived.Test.YtbdhpmamlibmhaaDoorWFootNe
namespace Go.Proofs.YtbdhpmamlibmhaaDoorW.PrintWords
open Go.RowKit
end Go.Proofs.YtbdhpmamlibmhaaDoorW.PrintWords
namespace Go.Proofs.YtbdhpmamlibmhaaDoorW.PrintLast
section
variable {ops : Array Oper} {a : Act} {o og : Oper} {g : Nat} {t : Tmp} {u : Bool}
end
end Go.Proofs.YtbdhpmamlibmhaaDoorW.PrintLast
