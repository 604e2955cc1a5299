-- The kit's words, printed by its own program for this seat and cut to what the law reaches (wip/tools/trimw.py).
import Derived.Test.YtbodkbaniebfaaaWInv
import Derived.Test.YtbodkbaniebfaaaWFootNe
namespace Go.Proofs.YtbodkbaniebfaaaW.PrintWords
open Go.RowKit
end Go.Proofs.YtbodkbaniebfaaaW.PrintWords
namespace Go.Proofs.YtbodkbaniebfaaaW.PrintLast
section
variable {ops : Array Oper} {a : Act} {o og : Oper} {g : Nat} {t : Tmp} {u : Bool}
end
end Go.Proofs.YtbodkbaniebfaaaW.PrintLast
