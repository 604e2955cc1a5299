-- The kit's words, printed by its own program for this seat and cut to what the law reaches (wip/tools/trimw.py).
import Derived.Test.YtmfichcgmofpkaaWWords
namespace Go.Proofs.YtmfichcgmofpkaaW.PrintWords
open Go.RowKit
section
variable {P : Program} {ops : Array Oper} {rest : List Oper} {o : Oper} {a : Act} {Q : Exit → Act → World → Prop} {W : World}
end
end Go.Proofs.YtmfichcgmofpkaaW.PrintWords
