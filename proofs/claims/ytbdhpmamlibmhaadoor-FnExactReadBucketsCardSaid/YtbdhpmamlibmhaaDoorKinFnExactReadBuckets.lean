/- The pure statement of FnExactReadBuckets, and what its arguments read as. -/
import Derived.Test.YtbdhpmamlibmhaaDoorXFnExactReadBucketsx
import Derived.Test.YtbdhpmamlibmhaaDoorOpn
namespace Go.Proofs.YtbdhpmamlibmhaaDoor.XFnExactReadBuckets
open Go.RowKit Go.Proofs.YtbdhpmamlibmhaaDoorO Go.Proofs.YtbdhpmamlibmhaaDoorW.PrintWords
set_option linter.unusedVariables false
def laws_FnExactReadBuckets.Pure : Prop := ∀ (a0 : ByteArray), a0.size ≤ 140737488351232 → ∃ k, laws_FnExactReadBuckets.f k a0 = some true
end Go.Proofs.YtbdhpmamlibmhaaDoor.XFnExactReadBuckets
