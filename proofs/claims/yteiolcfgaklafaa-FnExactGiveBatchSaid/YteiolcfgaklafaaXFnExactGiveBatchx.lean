-- Printed by this session's own program wip/tools/xprint.py, which widens the kit's print. Not trusted: Lean checks it.
import Derived.Test.YteiolcfgaklafaaXFnExactGiveBatchx0
import Derived.Test.YteiolcfgaklafaaXFnExactGiveBatchx1
import Derived.Test.YteiolcfgaklafaaXFnExactGiveBatchx2
import Derived.Test.YteiolcfgaklafaaXFnExactGiveBatchx3
import Derived.Test.YteiolcfgaklafaaXFnExactGiveBatchx4
import Derived.Test.YteiolcfgaklafaaXFnExactGiveBatchx5
import Derived.Test.YteiolcfgaklafaaXFnExactGiveBatchx6
import Derived.Test.YteiolcfgaklafaaXFnExactGiveBatchx7
import Derived.Test.YteiolcfgaklafaaXFnExactGiveBatchx8
import Derived.Test.YteiolcfgaklafaaXFnExactGiveBatchx9
import Derived.Test.YteiolcfgaklafaaXFnExactGiveBatchx10
namespace Go.Proofs.Yteiolcfgaklafaa.XFnExactGiveBatch
open Go.RowKit Go.Proofs.YteiolcfgaklafaaW.PrintWords Go.Proofs.YteiolcfgaklafaaW.PrintLast Go.Proofs.YteiolcfgaklafaaW.PrintMore
attribute [local go_sem] max2_int min2_int max_two min_two max_three min_three max_four min_four   -- for this text's walks alone
set_option linter.unusedVariables false
set_option linter.unusedSimpArgs false

end Go.Proofs.Yteiolcfgaklafaa.XFnExactGiveBatch
