-- The kit's words, printed by its own program for this seat and cut to what the law reaches (wip/tools/trimw.py).
import Derived.Test.YtmfichcgmofpkaaWTab
namespace Go.Proofs.YtmfichcgmofpkaaW.PrintLast
section
variable {P : Program} {ops : Array Oper} {Q : Exit → Act → World → Prop} {md : Region.Mode} {T : Bool × List (List Nat × List Nat)} {B : List Nat} {O : List Nat} {b : Nat → Bool} {i j n : Nat}
def Closed (T : List (List Nat × List Nat)) (O : List Nat) (b : Nat → Bool) : Prop := ∀ d r, T[d]? = some r → O.contains d = true → b d = true → ∀ n ∈ r.1, O.contains n = true → b n = true
end
end Go.Proofs.YtmfichcgmofpkaaW.PrintLast
