-- Printed by this session's own program wip/tools/xprint.py, which widens the kit's print. Not trusted: Lean checks it.
import Derived.Test.YtleifhnoaaphmaaDoorXFnExactAskReaderx0
import Derived.Test.YtleifhnoaaphmaaDoorXFnExactAskReaderx1
import Derived.Test.YtleifhnoaaphmaaDoorXFnExactAskReaderx2
import Derived.Test.YtleifhnoaaphmaaDoorXFnExactAskReaderx3
import Derived.Test.YtleifhnoaaphmaaDoorXFnExactAskReaderx4
import Derived.Test.YtleifhnoaaphmaaDoorXFnExactAskReaderx5
import Derived.Test.YtleifhnoaaphmaaDoorXFnExactAskReaderx6
import Derived.Test.YtleifhnoaaphmaaDoorXFnExactAskReaderx7
import Derived.Test.YtleifhnoaaphmaaDoorXFnExactAskReaderx8
import Derived.Test.YtleifhnoaaphmaaDoorXFnExactAskReaderx9
import Derived.Test.YtleifhnoaaphmaaDoorXFnExactAskReaderx10
import Derived.Test.YtleifhnoaaphmaaDoorXFnExactAskReaderx11
namespace Go.Proofs.YtleifhnoaaphmaaDoor.XFnExactAskReader
open Go.RowKit Go.Proofs.YtleifhnoaaphmaaDoorW.PrintWords Go.Proofs.YtleifhnoaaphmaaDoorW.PrintLast Go.Proofs.YtleifhnoaaphmaaDoorW.PrintMore
attribute [local go_sem] max2_int min2_int max_two min_two max_three min_three max_four min_four   -- for this text's walks alone
set_option linter.unusedVariables false
set_option linter.unusedSimpArgs false

end Go.Proofs.YtleifhnoaaphmaaDoor.XFnExactAskReader
