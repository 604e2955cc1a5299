/- The pure statement of FnExactNewReader, and what its arguments read as. -/
import Derived.Test.YtllpmcoknljhcaaXFnExactNewReaderx
import Derived.Test.YtllpmcoknljhcaaOpn
namespace Go.Proofs.Ytllpmcoknljhcaa.XFnExactNewReader
open Go.RowKit Go.Proofs.YtllpmcoknljhcaaO Go.Proofs.YtllpmcoknljhcaaW.PrintWords
set_option linter.unusedVariables false
def laws_FnExactNewReader.Pure : Prop := ∀ (a0 : Int), (Lit.int .i64 a0).wf = true → ∃ k, laws_FnExactNewReader.f k a0 = some true
end Go.Proofs.Ytllpmcoknljhcaa.XFnExactNewReader
