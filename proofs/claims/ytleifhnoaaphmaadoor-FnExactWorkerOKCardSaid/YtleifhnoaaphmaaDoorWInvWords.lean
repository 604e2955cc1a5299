-- The kit's words, printed by its own program for this seat and cut to what the law reaches (wip/tools/trimw.py).
import Derived.Test.YtleifhnoaaphmaaDoorWInv
import Derived.Test.YtleifhnoaaphmaaDoorWFootNe
namespace Go.Proofs.YtleifhnoaaphmaaDoorW.PrintWords
open Go.RowKit
end Go.Proofs.YtleifhnoaaphmaaDoorW.PrintWords
namespace Go.Proofs.YtleifhnoaaphmaaDoorW.PrintLast
section
variable {ops : Array Oper} {a : Act} {o og : Oper} {g : Nat} {t : Tmp} {u : Bool}
end
end Go.Proofs.YtleifhnoaaphmaaDoorW.PrintLast
