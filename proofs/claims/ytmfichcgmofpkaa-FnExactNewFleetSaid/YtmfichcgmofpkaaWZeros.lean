-- The kit's words, printed by its own program for this seat and cut to what the law reaches (wip/tools/trimw.py).
import Derived.Test.YtmfichcgmofpkaaWApart
import Derived.Test.YtmfichcgmofpkaaWArr
namespace Go.Proofs.YtmfichcgmofpkaaW.PrintWords
open Go.RowKit
section
variable {P : Program}
end
namespace Kd
section
variable {P : Program} {ops : Array Oper} {rest : List Oper} {o : Oper} {a : Act} {Q : Exit → Act → World → Prop} {Kc : Act → World → Prop} {α : Type}
end
section
variable {α : Type} {d : Kd α} {e : Nat} {w : World} {base : Nat} {ok : Nat → Prop} {v : Value} {xs : List α}
end
section
variable {P : Program} {ops : Array Oper} {rest : List Oper} {o : Oper} {a : Act} {Q : Exit → Act → World → Prop} {Kc : Act → World → Prop} {α : Type}
end
end Kd
end Go.Proofs.YtmfichcgmofpkaaW.PrintWords
