-- Printed by this session's own program wip/tools/xprint.py, which widens the kit's print. Not trusted: Lean checks it.
import Derived.Test.YtbodkbaniebfaaaXFnExactListKeysx0
import Derived.Test.YtbodkbaniebfaaaXFnExactListKeysx1
import Derived.Test.YtbodkbaniebfaaaXFnExactListKeysx2
import Derived.Test.YtbodkbaniebfaaaXFnExactListKeysx3
import Derived.Test.YtbodkbaniebfaaaXFnExactListKeysx4
import Derived.Test.YtbodkbaniebfaaaXFnExactListKeysx5
import Derived.Test.YtbodkbaniebfaaaXFnExactListKeysx6
import Derived.Test.YtbodkbaniebfaaaXFnExactListKeysx7
import Derived.Test.YtbodkbaniebfaaaXFnExactListKeysx8
import Derived.Test.YtbodkbaniebfaaaXFnExactListKeysx9
import Derived.Test.YtbodkbaniebfaaaXFnExactListKeysx10
namespace Go.Proofs.Ytbodkbaniebfaaa.XFnExactListKeys
open Go.RowKit Go.Proofs.YtbodkbaniebfaaaW.PrintWords Go.Proofs.YtbodkbaniebfaaaW.PrintLast Go.Proofs.YtbodkbaniebfaaaW.PrintMore
attribute [local go_sem] max2_int min2_int max_two min_two max_three min_three max_four min_four   -- for this text's walks alone
set_option linter.unusedVariables false
set_option linter.unusedSimpArgs false

end Go.Proofs.Ytbodkbaniebfaaa.XFnExactListKeys
