-- Printed by this session's own program wip/tools/xprint.py, which widens the kit's print. Not trusted: Lean checks it.
import Derived.Test.YtleifhnoaaphmaaDoorXFnExactReaderOKx0
import Derived.Test.YtleifhnoaaphmaaDoorXFnExactReaderOKx1
import Derived.Test.YtleifhnoaaphmaaDoorXFnExactReaderOKx2
import Derived.Test.YtleifhnoaaphmaaDoorXFnExactReaderOKx3
import Derived.Test.YtleifhnoaaphmaaDoorXFnExactReaderOKx4
import Derived.Test.YtleifhnoaaphmaaDoorXFnExactReaderOKx5
import Derived.Test.YtleifhnoaaphmaaDoorXFnExactReaderOKx6
import Derived.Test.YtleifhnoaaphmaaDoorXFnExactReaderOKx7
import Derived.Test.YtleifhnoaaphmaaDoorXFnExactReaderOKx8
namespace Go.Proofs.YtleifhnoaaphmaaDoor.XFnExactReaderOK
open Go.RowKit Go.Proofs.YtleifhnoaaphmaaDoorW.PrintWords Go.Proofs.YtleifhnoaaphmaaDoorW.PrintLast Go.Proofs.YtleifhnoaaphmaaDoorW.PrintMore
attribute [local go_sem] max2_int min2_int max_two min_two max_three min_three max_four min_four   -- for this text's walks alone
set_option linter.unusedVariables false
set_option linter.unusedSimpArgs false

end Go.Proofs.YtleifhnoaaphmaaDoor.XFnExactReaderOK
