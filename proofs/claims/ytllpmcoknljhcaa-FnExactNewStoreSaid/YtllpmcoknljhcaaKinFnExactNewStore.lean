/- The pure statement of FnExactNewStore, and what its arguments read as. -/
import Derived.Test.YtllpmcoknljhcaaXFnExactNewStorex
import Derived.Test.YtllpmcoknljhcaaOpn
namespace Go.Proofs.Ytllpmcoknljhcaa.XFnExactNewStore
open Go.RowKit Go.Proofs.YtllpmcoknljhcaaO Go.Proofs.YtllpmcoknljhcaaW.PrintWords
set_option linter.unusedVariables false
def laws_FnExactNewStore.Pure : Prop := ∃ k, laws_FnExactNewStore.f k  = some true
end Go.Proofs.Ytllpmcoknljhcaa.XFnExactNewStore
