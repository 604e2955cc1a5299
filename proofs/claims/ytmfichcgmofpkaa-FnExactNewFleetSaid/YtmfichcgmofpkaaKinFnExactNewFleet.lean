/- The pure statement of FnExactNewFleet, and what its arguments read as. -/
import Derived.Test.YtmfichcgmofpkaaXFnExactNewFleetx
import Derived.Test.YtmfichcgmofpkaaOpn
namespace Go.Proofs.Ytmfichcgmofpkaa.XFnExactNewFleet
open Go.RowKit Go.Proofs.YtmfichcgmofpkaaO Go.Proofs.YtmfichcgmofpkaaW.PrintWords
set_option linter.unusedVariables false
def laws_FnExactNewFleet.Pure : Prop := ∃ k, laws_FnExactNewFleet.f k  = some true
end Go.Proofs.Ytmfichcgmofpkaa.XFnExactNewFleet
