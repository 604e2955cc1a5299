-- Printed by this session's own program wip/tools/xprint.py, which widens the kit's print. Not trusted: Lean checks it.
import Derived.Test.YtleifhnoaaphmaaDoorXFnExactWorkerOKx0
import Derived.Test.YtleifhnoaaphmaaDoorXFnExactWorkerOKx1
import Derived.Test.YtleifhnoaaphmaaDoorXFnExactWorkerOKx2
import Derived.Test.YtleifhnoaaphmaaDoorXFnExactWorkerOKx3
import Derived.Test.YtleifhnoaaphmaaDoorXFnExactWorkerOKx4
import Derived.Test.YtleifhnoaaphmaaDoorXFnExactWorkerOKx5
import Derived.Test.YtleifhnoaaphmaaDoorXFnExactWorkerOKx6
import Derived.Test.YtleifhnoaaphmaaDoorXFnExactWorkerOKx7
import Derived.Test.YtleifhnoaaphmaaDoorXFnExactWorkerOKx8
import Derived.Test.YtleifhnoaaphmaaDoorXFnExactWorkerOKx9
import Derived.Test.YtleifhnoaaphmaaDoorXFnExactWorkerOKx10
import Derived.Test.YtleifhnoaaphmaaDoorXFnExactWorkerOKx11
import Derived.Test.YtleifhnoaaphmaaDoorXFnExactWorkerOKx12
namespace Go.Proofs.YtleifhnoaaphmaaDoor.XFnExactWorkerOK
open Go.RowKit Go.Proofs.YtleifhnoaaphmaaDoorW.PrintWords Go.Proofs.YtleifhnoaaphmaaDoorW.PrintLast Go.Proofs.YtleifhnoaaphmaaDoorW.PrintMore
attribute [local go_sem] max2_int min2_int max_two min_two max_three min_three max_four min_four   -- for this text's walks alone
set_option linter.unusedVariables false
set_option linter.unusedSimpArgs false

end Go.Proofs.YtleifhnoaaphmaaDoor.XFnExactWorkerOK
