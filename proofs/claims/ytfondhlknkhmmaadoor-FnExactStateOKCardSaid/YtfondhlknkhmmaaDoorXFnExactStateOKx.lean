-- Printed by this session's own program wip/tools/xprint.py, which widens the kit's print. Not trusted: Lean checks it.
import Derived.Test.YtfondhlknkhmmaaDoorXFnExactStateOKx0
import Derived.Test.YtfondhlknkhmmaaDoorXFnExactStateOKx1
import Derived.Test.YtfondhlknkhmmaaDoorXFnExactStateOKx2
import Derived.Test.YtfondhlknkhmmaaDoorXFnExactStateOKx3
import Derived.Test.YtfondhlknkhmmaaDoorXFnExactStateOKx4
import Derived.Test.YtfondhlknkhmmaaDoorXFnExactStateOKx5
import Derived.Test.YtfondhlknkhmmaaDoorXFnExactStateOKx6
import Derived.Test.YtfondhlknkhmmaaDoorXFnExactStateOKx7
import Derived.Test.YtfondhlknkhmmaaDoorXFnExactStateOKx8
import Derived.Test.YtfondhlknkhmmaaDoorXFnExactStateOKx9
namespace Go.Proofs.YtfondhlknkhmmaaDoor.XFnExactStateOK
open Go.RowKit Go.Proofs.YtfondhlknkhmmaaDoorW.PrintWords Go.Proofs.YtfondhlknkhmmaaDoorW.PrintLast Go.Proofs.YtfondhlknkhmmaaDoorW.PrintMore
attribute [local go_sem] max2_int min2_int max_two min_two max_three min_three max_four min_four   -- for this text's walks alone
set_option linter.unusedVariables false
set_option linter.unusedSimpArgs false

end Go.Proofs.YtfondhlknkhmmaaDoor.XFnExactStateOK
