/- The pure statement of FnExactPinKey, and what its arguments read as. -/
import Derived.Test.YtbdhpmamlibmhaaDoorXFnExactPinKeyx
import Derived.Test.YtbdhpmamlibmhaaDoorOpn
namespace Go.Proofs.YtbdhpmamlibmhaaDoor.XFnExactPinKey
open Go.RowKit Go.Proofs.YtbdhpmamlibmhaaDoorO Go.Proofs.YtbdhpmamlibmhaaDoorW.PrintWords
set_option linter.unusedVariables false
def laws_FnExactPinKey.Pure : Prop := ∀ (a0 : Int), (Lit.int .i64 a0).wf = true → ∃ k, laws_FnExactPinKey.f k a0 = some true
end Go.Proofs.YtbdhpmamlibmhaaDoor.XFnExactPinKey
