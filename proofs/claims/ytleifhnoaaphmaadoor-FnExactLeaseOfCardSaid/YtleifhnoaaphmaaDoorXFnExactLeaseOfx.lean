-- Printed by this session's own program wip/tools/xprint.py, which widens the kit's print. Not trusted: Lean checks it.
import Derived.Test.YtleifhnoaaphmaaDoorXFnExactLeaseOfx0
import Derived.Test.YtleifhnoaaphmaaDoorXFnExactLeaseOfx1
import Derived.Test.YtleifhnoaaphmaaDoorXFnExactLeaseOfx2
import Derived.Test.YtleifhnoaaphmaaDoorXFnExactLeaseOfx3
import Derived.Test.YtleifhnoaaphmaaDoorXFnExactLeaseOfx4
import Derived.Test.YtleifhnoaaphmaaDoorXFnExactLeaseOfx5
import Derived.Test.YtleifhnoaaphmaaDoorXFnExactLeaseOfx6
import Derived.Test.YtleifhnoaaphmaaDoorXFnExactLeaseOfx7
import Derived.Test.YtleifhnoaaphmaaDoorXFnExactLeaseOfx8
import Derived.Test.YtleifhnoaaphmaaDoorXFnExactLeaseOfx9
import Derived.Test.YtleifhnoaaphmaaDoorXFnExactLeaseOfx10
import Derived.Test.YtleifhnoaaphmaaDoorXFnExactLeaseOfx11
namespace Go.Proofs.YtleifhnoaaphmaaDoor.XFnExactLeaseOf
open Go.RowKit Go.Proofs.YtleifhnoaaphmaaDoorW.PrintWords Go.Proofs.YtleifhnoaaphmaaDoorW.PrintLast Go.Proofs.YtleifhnoaaphmaaDoorW.PrintMore
attribute [local go_sem] max2_int min2_int max_two min_two max_three min_three max_four min_four   -- for this text's walks alone
set_option linter.unusedVariables false
set_option linter.unusedSimpArgs false

end Go.Proofs.YtleifhnoaaphmaaDoor.XFnExactLeaseOf
