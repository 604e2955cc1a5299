-- Printed by this session's own program wip/tools/xprint.py, which widens the kit's print. Not trusted: Lean checks it.
import Derived.Test.YtbodkbaniebfaaaXFnExactPutAbsentx0
import Derived.Test.YtbodkbaniebfaaaXFnExactPutAbsentx1
import Derived.Test.YtbodkbaniebfaaaXFnExactPutAbsentx2
import Derived.Test.YtbodkbaniebfaaaXFnExactPutAbsentx3
import Derived.Test.YtbodkbaniebfaaaXFnExactPutAbsentx4
import Derived.Test.YtbodkbaniebfaaaXFnExactPutAbsentx5
import Derived.Test.YtbodkbaniebfaaaXFnExactPutAbsentx6
import Derived.Test.YtbodkbaniebfaaaXFnExactPutAbsentx7
import Derived.Test.YtbodkbaniebfaaaXFnExactPutAbsentx8
import Derived.Test.YtbodkbaniebfaaaXFnExactPutAbsentx9
import Derived.Test.YtbodkbaniebfaaaXFnExactPutAbsentx10
import Derived.Test.YtbodkbaniebfaaaXFnExactPutAbsentx11
import Derived.Test.YtbodkbaniebfaaaXFnExactPutAbsentx12
import Derived.Test.YtbodkbaniebfaaaXFnExactPutAbsentx13
namespace Go.Proofs.Ytbodkbaniebfaaa.XFnExactPutAbsent
open Go.RowKit Go.Proofs.YtbodkbaniebfaaaW.PrintWords Go.Proofs.YtbodkbaniebfaaaW.PrintLast Go.Proofs.YtbodkbaniebfaaaW.PrintMore
attribute [local go_sem] max2_int min2_int max_two min_two max_three min_three max_four min_four   -- for this text's walks alone
set_option linter.unusedVariables false
set_option linter.unusedSimpArgs false

end Go.Proofs.Ytbodkbaniebfaaa.XFnExactPutAbsent
