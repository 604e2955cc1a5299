-- Printed by this session's own program wip/tools/xprint.py, which widens the kit's print. Not trusted: Lean checks it.
import Derived.Test.YteiolcfgaklafaaXFnExactSameWorkerx0
import Derived.Test.YteiolcfgaklafaaXFnExactSameWorkerx1
import Derived.Test.YteiolcfgaklafaaXFnExactSameWorkerx2
import Derived.Test.YteiolcfgaklafaaXFnExactSameWorkerx3
import Derived.Test.YteiolcfgaklafaaXFnExactSameWorkerx4
import Derived.Test.YteiolcfgaklafaaXFnExactSameWorkerx5
import Derived.Test.YteiolcfgaklafaaXFnExactSameWorkerx6
import Derived.Test.YteiolcfgaklafaaXFnExactSameWorkerx7
import Derived.Test.YteiolcfgaklafaaXFnExactSameWorkerx8
namespace Go.Proofs.Yteiolcfgaklafaa.XFnExactSameWorker
open Go.RowKit Go.Proofs.YteiolcfgaklafaaW.PrintWords Go.Proofs.YteiolcfgaklafaaW.PrintLast Go.Proofs.YteiolcfgaklafaaW.PrintMore
attribute [local go_sem] max2_int min2_int max_two min_two max_three min_three max_four min_four   -- for this text's walks alone
set_option linter.unusedVariables false
set_option linter.unusedSimpArgs false

end Go.Proofs.Yteiolcfgaklafaa.XFnExactSameWorker
