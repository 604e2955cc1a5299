-- Printed by this session's own program wip/tools/xprint.py, which widens the kit's print. Not trusted: Lean checks it.
import Derived.Test.YtleifhnoaaphmaaDoorXFnExactDataKeysx0
import Derived.Test.YtleifhnoaaphmaaDoorXFnExactDataKeysx1
import Derived.Test.YtleifhnoaaphmaaDoorXFnExactDataKeysx2
import Derived.Test.YtleifhnoaaphmaaDoorXFnExactDataKeysx3
import Derived.Test.YtleifhnoaaphmaaDoorXFnExactDataKeysx4
import Derived.Test.YtleifhnoaaphmaaDoorXFnExactDataKeysx5
import Derived.Test.YtleifhnoaaphmaaDoorXFnExactDataKeysx6
import Derived.Test.YtleifhnoaaphmaaDoorXFnExactDataKeysx7
import Derived.Test.YtleifhnoaaphmaaDoorXFnExactDataKeysx8
import Derived.Test.YtleifhnoaaphmaaDoorXFnExactDataKeysx9
import Derived.Test.YtleifhnoaaphmaaDoorXFnExactDataKeysx10
namespace Go.Proofs.YtleifhnoaaphmaaDoor.XFnExactDataKeys
open Go.RowKit Go.Proofs.YtleifhnoaaphmaaDoorW.PrintWords Go.Proofs.YtleifhnoaaphmaaDoorW.PrintLast Go.Proofs.YtleifhnoaaphmaaDoorW.PrintMore
attribute [local go_sem] max2_int min2_int max_two min_two max_three min_three max_four min_four   -- for this text's walks alone
set_option linter.unusedVariables false
set_option linter.unusedSimpArgs false

end Go.Proofs.YtleifhnoaaphmaaDoor.XFnExactDataKeys
