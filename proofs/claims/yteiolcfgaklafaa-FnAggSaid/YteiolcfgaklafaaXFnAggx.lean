-- Printed by this session's own program wip/tools/xprint.py, which widens the kit's print. Not trusted: Lean checks it.
import Derived.Test.YteiolcfgaklafaaXFnAggx0
import Derived.Test.YteiolcfgaklafaaXFnAggx1
import Derived.Test.YteiolcfgaklafaaXFnAggx2
import Derived.Test.YteiolcfgaklafaaXFnAggx3
import Derived.Test.YteiolcfgaklafaaXFnAggx4
import Derived.Test.YteiolcfgaklafaaXFnAggx5
import Derived.Test.YteiolcfgaklafaaXFnAggx6
import Derived.Test.YteiolcfgaklafaaXFnAggx7
namespace Go.Proofs.Yteiolcfgaklafaa.XFnAgg
open Go.RowKit Go.Proofs.YteiolcfgaklafaaW.PrintWords Go.Proofs.YteiolcfgaklafaaW.PrintLast Go.Proofs.YteiolcfgaklafaaW.PrintMore
attribute [local go_sem] max2_int min2_int max_two min_two max_three min_three max_four min_four   -- for this text's walks alone
set_option linter.unusedVariables false
set_option linter.unusedSimpArgs false

end Go.Proofs.Yteiolcfgaklafaa.XFnAgg
