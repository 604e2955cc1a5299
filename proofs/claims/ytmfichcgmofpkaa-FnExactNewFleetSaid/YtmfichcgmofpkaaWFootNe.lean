-- The kit's words, printed by its own program for this seat and cut to what the law reaches (wip/tools/trimw.py).
import Derived.Test.YtmfichcgmofpkaaWN
namespace Go.Proofs.YtmfichcgmofpkaaW.PrintWords
open Go.RowKit
namespace Kd
section
variable {α : Type} {d : Kd α} {W : World} {g n : Nat} {S ok : Nat → Prop} {A : Option Addr} {ad : Addr} {xs : List α}
end
end Kd
end Go.Proofs.YtmfichcgmofpkaaW.PrintWords
