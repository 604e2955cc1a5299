/- The pure statement of FnExactReadRecord, and what its arguments read as. -/
import Derived.Test.YtbdhpmamlibmhaaDoorXFnExactReadRecordx
import Derived.Test.YtbdhpmamlibmhaaDoorOpn
namespace Go.Proofs.YtbdhpmamlibmhaaDoor.XFnExactReadRecord
open Go.RowKit Go.Proofs.YtbdhpmamlibmhaaDoorO Go.Proofs.YtbdhpmamlibmhaaDoorW.PrintWords
set_option linter.unusedVariables false
def laws_FnExactReadRecord.Pure : Prop := ∀ (a0 : ByteArray), a0.size ≤ 140737488351232 → ∃ k, laws_FnExactReadRecord.f k a0 = some true
end Go.Proofs.YtbdhpmamlibmhaaDoor.XFnExactReadRecord
