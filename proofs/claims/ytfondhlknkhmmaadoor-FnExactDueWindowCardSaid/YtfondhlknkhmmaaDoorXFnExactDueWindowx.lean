-- Printed by this session's own program wip/tools/xprint.py, which widens the kit's print. Not trusted: Lean checks it.
import Derived.Test.YtfondhlknkhmmaaDoorXFnExactDueWindowx0
import Derived.Test.YtfondhlknkhmmaaDoorXFnExactDueWindowx1
import Derived.Test.YtfondhlknkhmmaaDoorXFnExactDueWindowx2
import Derived.Test.YtfondhlknkhmmaaDoorXFnExactDueWindowx3
import Derived.Test.YtfondhlknkhmmaaDoorXFnExactDueWindowx4
import Derived.Test.YtfondhlknkhmmaaDoorXFnExactDueWindowx5
import Derived.Test.YtfondhlknkhmmaaDoorXFnExactDueWindowx6
import Derived.Test.YtfondhlknkhmmaaDoorXFnExactDueWindowx7
import Derived.Test.YtfondhlknkhmmaaDoorXFnExactDueWindowx8
import Derived.Test.YtfondhlknkhmmaaDoorXFnExactDueWindowx9
import Derived.Test.YtfondhlknkhmmaaDoorXFnExactDueWindowx10
import Derived.Test.YtfondhlknkhmmaaDoorXFnExactDueWindowx11
namespace Go.Proofs.YtfondhlknkhmmaaDoor.XFnExactDueWindow
open Go.RowKit Go.Proofs.YtfondhlknkhmmaaDoorW.PrintWords Go.Proofs.YtfondhlknkhmmaaDoorW.PrintLast Go.Proofs.YtfondhlknkhmmaaDoorW.PrintMore
attribute [local go_sem] max2_int min2_int max_two min_two max_three min_three max_four min_four   -- for this text's walks alone
set_option linter.unusedVariables false
set_option linter.unusedSimpArgs false

end Go.Proofs.YtfondhlknkhmmaaDoor.XFnExactDueWindow
