/- The pure statement of FnExactReadSamples, and what its arguments read as. -/
import Derived.Test.YtbdhpmamlibmhaaDoorXFnExactReadSamplesx
import Derived.Test.YtbdhpmamlibmhaaDoorOpn
namespace Go.Proofs.YtbdhpmamlibmhaaDoor.XFnExactReadSamples
open Go.RowKit Go.Proofs.YtbdhpmamlibmhaaDoorO Go.Proofs.YtbdhpmamlibmhaaDoorW.PrintWords
set_option linter.unusedVariables false
def laws_FnExactReadSamples.Pure : Prop := ∀ (a0 : ByteArray), a0.size ≤ 140737488351232 → ∃ k, laws_FnExactReadSamples.f k a0 = some true
end Go.Proofs.YtbdhpmamlibmhaaDoor.XFnExactReadSamples
