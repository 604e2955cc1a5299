/- The pure statement of FnExactNewWorker, and what its arguments read as. -/
import Derived.Test.YteiolcfgaklafaaXFnExactNewWorkerx
import Derived.Test.YteiolcfgaklafaaOpn
namespace Go.Proofs.Yteiolcfgaklafaa.XFnExactNewWorker
open Go.RowKit Go.Proofs.YteiolcfgaklafaaO Go.Proofs.YteiolcfgaklafaaW.PrintWords
set_option linter.unusedVariables false
def laws_FnExactNewWorker.Pure : Prop := ∀ (a0 : Int), (Lit.int .i64 a0).wf = true → ∃ k, laws_FnExactNewWorker.f k a0 = some true
end Go.Proofs.Yteiolcfgaklafaa.XFnExactNewWorker
