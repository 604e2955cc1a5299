/- The pure statement of FnExactReadDataKey, and what its arguments read as. -/
import Derived.Test.YtbdhpmamlibmhaaDoorXFnExactReadDataKeyx
import Derived.Test.YtbdhpmamlibmhaaDoorOpn
namespace Go.Proofs.YtbdhpmamlibmhaaDoor.XFnExactReadDataKey
open Go.RowKit Go.Proofs.YtbdhpmamlibmhaaDoorO Go.Proofs.YtbdhpmamlibmhaaDoorW.PrintWords
set_option linter.unusedVariables false
def laws_FnExactReadDataKey.Pure : Prop := ∀ (a0 : ByteArray), a0.size ≤ 140737488351232 → ∃ k, laws_FnExactReadDataKey.f k a0 = some true
end Go.Proofs.YtbdhpmamlibmhaaDoor.XFnExactReadDataKey
