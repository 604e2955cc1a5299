-- Printed by this session's own program wip/tools/xprint.py, which widens the kit's print. Not trusted: Lean checks it.
import Derived.Test.YtbodkbaniebfaaaDoorXFnExactPinsAtx0
import Derived.Test.YtbodkbaniebfaaaDoorXFnExactPinsAtx1
import Derived.Test.YtbodkbaniebfaaaDoorXFnExactPinsAtx2
import Derived.Test.YtbodkbaniebfaaaDoorXFnExactPinsAtx3
import Derived.Test.YtbodkbaniebfaaaDoorXFnExactPinsAtx4
import Derived.Test.YtbodkbaniebfaaaDoorXFnExactPinsAtx5
import Derived.Test.YtbodkbaniebfaaaDoorXFnExactPinsAtx6
import Derived.Test.YtbodkbaniebfaaaDoorXFnExactPinsAtx7
import Derived.Test.YtbodkbaniebfaaaDoorXFnExactPinsAtx8
import Derived.Test.YtbodkbaniebfaaaDoorXFnExactPinsAtx9
import Derived.Test.YtbodkbaniebfaaaDoorXFnExactPinsAtx10
namespace Go.Proofs.YtbodkbaniebfaaaDoor.XFnExactPinsAt
open Go.RowKit Go.Proofs.YtbodkbaniebfaaaDoorW.PrintWords Go.Proofs.YtbodkbaniebfaaaDoorW.PrintLast Go.Proofs.YtbodkbaniebfaaaDoorW.PrintMore
attribute [local go_sem] max2_int min2_int max_two min_two max_three min_three max_four min_four   -- for this text's walks alone
set_option linter.unusedVariables false
set_option linter.unusedSimpArgs false

end Go.Proofs.YtbodkbaniebfaaaDoor.XFnExactPinsAt
