/- The pure law of FnExactNewFleet: what the printed functions compute answers true for every input of the kinds and sizes that the statement gives. -/
import Derived.Test.YtmfichcgmofpkaaKinFnExactNewFleet
namespace Go.Proofs.Ytmfichcgmofpkaa.Pure
open Go.RowKit Go.Proofs.YtmfichcgmofpkaaW.PrintWords Go.Proofs.YtmfichcgmofpkaaW.PrintLast Go.Proofs.Ytmfichcgmofpkaa.XFnExactNewFleet
set_option linter.unusedSimpArgs false
set_option linter.unusedVariables false

-- BODY
theorem FnExactNewFleet : laws_FnExactNewFleet.Pure := by
  unfold laws_FnExactNewFleet.Pure
  exact ⟨30, by kernel_rfl⟩

end Go.Proofs.Ytmfichcgmofpkaa.Pure
