-- The kit's words, printed by its own program for this seat and cut to what the law reaches (wip/tools/trimw.py).
import Derived.Test.YtmfichcgmofpkaaWInv
import Derived.Test.YtmfichcgmofpkaaWFootNe
namespace Go.Proofs.YtmfichcgmofpkaaW.PrintWords
open Go.RowKit
end Go.Proofs.YtmfichcgmofpkaaW.PrintWords
namespace Go.Proofs.YtmfichcgmofpkaaW.PrintLast
section
variable {ops : Array Oper} {a : Act} {o og : Oper} {g : Nat} {t : Tmp} {u : Bool}
end
end Go.Proofs.YtmfichcgmofpkaaW.PrintLast
