/- The pure statement of FnExactNewIngester, and what its arguments read as. -/
import Derived.Test.YtllpmcoknljhcaaXFnExactNewIngesterx
import Derived.Test.YtllpmcoknljhcaaOpn
namespace Go.Proofs.Ytllpmcoknljhcaa.XFnExactNewIngester
open Go.RowKit Go.Proofs.YtllpmcoknljhcaaO Go.Proofs.YtllpmcoknljhcaaW.PrintWords
set_option linter.unusedVariables false
def laws_FnExactNewIngester.Pure : Prop := ∀ (a0 : Int), (Lit.int .i64 a0).wf = true → ∃ k, laws_FnExactNewIngester.f k a0 = some true
end Go.Proofs.Ytllpmcoknljhcaa.XFnExactNewIngester
