-- Printed by this session's own program wip/tools/xprint.py, which widens the kit's print. Not trusted: Lean checks it.
import Derived.Test.YtbdhpmamlibmhaaDoorXFnExactReadRecordx0
import Derived.Test.YtbdhpmamlibmhaaDoorXFnExactReadRecordx1
import Derived.Test.YtbdhpmamlibmhaaDoorXFnExactReadRecordx2
import Derived.Test.YtbdhpmamlibmhaaDoorXFnExactReadRecordx3
import Derived.Test.YtbdhpmamlibmhaaDoorXFnExactReadRecordx4
import Derived.Test.YtbdhpmamlibmhaaDoorXFnExactReadRecordx5
import Derived.Test.YtbdhpmamlibmhaaDoorXFnExactReadRecordx6
import Derived.Test.YtbdhpmamlibmhaaDoorXFnExactReadRecordx7
import Derived.Test.YtbdhpmamlibmhaaDoorXFnExactReadRecordx8
namespace Go.Proofs.YtbdhpmamlibmhaaDoor.XFnExactReadRecord
open Go.RowKit Go.Proofs.YtbdhpmamlibmhaaDoorW.PrintWords Go.Proofs.YtbdhpmamlibmhaaDoorW.PrintLast Go.Proofs.YtbdhpmamlibmhaaDoorW.PrintMore
attribute [local go_sem] max2_int min2_int max_two min_two max_three min_three max_four min_four   -- for this text's walks alone
set_option linter.unusedVariables false
set_option linter.unusedSimpArgs false

end Go.Proofs.YtbdhpmamlibmhaaDoor.XFnExactReadRecord
