/- The pure statement of FnExactDataKey, and what its arguments read as. -/
import Derived.Test.YtbdhpmamlibmhaaDoorXFnExactDataKeyx
import Derived.Test.YtbdhpmamlibmhaaDoorOpn
namespace Go.Proofs.YtbdhpmamlibmhaaDoor.XFnExactDataKey
open Go.RowKit Go.Proofs.YtbdhpmamlibmhaaDoorO Go.Proofs.YtbdhpmamlibmhaaDoorW.PrintWords
set_option linter.unusedVariables false
def laws_FnExactDataKey.Pure : Prop := ∀ (a0 : Int) (a1 : Int) (a2 : Int), (Lit.int .i64 a0).wf = true → (Lit.int .i64 a1).wf = true → (Lit.int .i64 a2).wf = true → ∃ k, laws_FnExactDataKey.f k a0 a1 a2 = some true
end Go.Proofs.YtbdhpmamlibmhaaDoor.XFnExactDataKey
