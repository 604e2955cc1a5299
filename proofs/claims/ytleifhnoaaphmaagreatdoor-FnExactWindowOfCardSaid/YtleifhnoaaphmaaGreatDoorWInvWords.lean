-- The kit's words, printed by its own program for this seat and cut to what the law reaches (wip/tools/trimw.py).
import Derived.Test.YtleifhnoaaphmaaGreatDoorWInv
import Derived.Test.YtleifhnoaaphmaaGreatDoorWFootNe
namespace Go.Proofs.YtleifhnoaaphmaaGreatDoorW.PrintWords
open Go.RowKit
end Go.Proofs.YtleifhnoaaphmaaGreatDoorW.PrintWords
namespace Go.Proofs.YtleifhnoaaphmaaGreatDoorW.PrintLast
section
variable {ops : Array Oper} {a : Act} {o og : Oper} {g : Nat} {t : Tmp} {u : Bool}
end
end Go.Proofs.YtleifhnoaaphmaaGreatDoorW.PrintLast
