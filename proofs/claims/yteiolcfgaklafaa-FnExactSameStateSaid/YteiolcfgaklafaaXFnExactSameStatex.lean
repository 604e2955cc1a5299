-- Printed by this session's own program wip/tools/xprint.py, which widens the kit's print. Not trusted: Lean checks it.
import Derived.Test.YteiolcfgaklafaaXFnExactSameStatex0
import Derived.Test.YteiolcfgaklafaaXFnExactSameStatex1
import Derived.Test.YteiolcfgaklafaaXFnExactSameStatex2
import Derived.Test.YteiolcfgaklafaaXFnExactSameStatex3
import Derived.Test.YteiolcfgaklafaaXFnExactSameStatex4
import Derived.Test.YteiolcfgaklafaaXFnExactSameStatex5
import Derived.Test.YteiolcfgaklafaaXFnExactSameStatex6
import Derived.Test.YteiolcfgaklafaaXFnExactSameStatex7
import Derived.Test.YteiolcfgaklafaaXFnExactSameStatex8
import Derived.Test.YteiolcfgaklafaaXFnExactSameStatex9
namespace Go.Proofs.Yteiolcfgaklafaa.XFnExactSameState
open Go.RowKit Go.Proofs.YteiolcfgaklafaaW.PrintWords Go.Proofs.YteiolcfgaklafaaW.PrintLast Go.Proofs.YteiolcfgaklafaaW.PrintMore
attribute [local go_sem] max2_int min2_int max_two min_two max_three min_three max_four min_four   -- for this text's walks alone
set_option linter.unusedVariables false
set_option linter.unusedSimpArgs false

end Go.Proofs.Yteiolcfgaklafaa.XFnExactSameState
