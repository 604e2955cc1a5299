/- The pure statement of FnExactReadLease, and what its arguments read as. -/
import Derived.Test.YtbdhpmamlibmhaaDoorXFnExactReadLeasex
import Derived.Test.YtbdhpmamlibmhaaDoorOpn
namespace Go.Proofs.YtbdhpmamlibmhaaDoor.XFnExactReadLease
open Go.RowKit Go.Proofs.YtbdhpmamlibmhaaDoorO Go.Proofs.YtbdhpmamlibmhaaDoorW.PrintWords
set_option linter.unusedVariables false
def laws_FnExactReadLease.Pure : Prop := ∀ (a0 : ByteArray), a0.size ≤ 140737488351232 → ∃ k, laws_FnExactReadLease.f k a0 = some true
end Go.Proofs.YtbdhpmamlibmhaaDoor.XFnExactReadLease
