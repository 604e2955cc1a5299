-- Printed by this session's own program wip/tools/xprint.py, which widens the kit's print. Not trusted: Lean checks it.
import Derived.Test.YteiolcfgaklafaaXFnExactStoreOKx0
import Derived.Test.YteiolcfgaklafaaXFnExactStoreOKx1
import Derived.Test.YteiolcfgaklafaaXFnExactStoreOKx2
import Derived.Test.YteiolcfgaklafaaXFnExactStoreOKx3
import Derived.Test.YteiolcfgaklafaaXFnExactStoreOKx4
import Derived.Test.YteiolcfgaklafaaXFnExactStoreOKx5
namespace Go.Proofs.Yteiolcfgaklafaa.XFnExactStoreOK
open Go.RowKit Go.Proofs.YteiolcfgaklafaaW.PrintWords Go.Proofs.YteiolcfgaklafaaW.PrintLast Go.Proofs.YteiolcfgaklafaaW.PrintMore
attribute [local go_sem] max2_int min2_int max_two min_two max_three min_three max_four min_four   -- for this text's walks alone
set_option linter.unusedVariables false
set_option linter.unusedSimpArgs false

end Go.Proofs.Yteiolcfgaklafaa.XFnExactStoreOK
