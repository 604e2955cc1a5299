-- Printed by this session's own program wip/tools/xprint.py, which widens the kit's print. Not trusted: Lean checks it.
import Derived.Test.YtbodkbaniebfaaaXFnExactPutVersionx0
import Derived.Test.YtbodkbaniebfaaaXFnExactPutVersionx1
import Derived.Test.YtbodkbaniebfaaaXFnExactPutVersionx2
import Derived.Test.YtbodkbaniebfaaaXFnExactPutVersionx3
import Derived.Test.YtbodkbaniebfaaaXFnExactPutVersionx4
import Derived.Test.YtbodkbaniebfaaaXFnExactPutVersionx5
import Derived.Test.YtbodkbaniebfaaaXFnExactPutVersionx6
import Derived.Test.YtbodkbaniebfaaaXFnExactPutVersionx7
import Derived.Test.YtbodkbaniebfaaaXFnExactPutVersionx8
import Derived.Test.YtbodkbaniebfaaaXFnExactPutVersionx9
import Derived.Test.YtbodkbaniebfaaaXFnExactPutVersionx10
import Derived.Test.YtbodkbaniebfaaaXFnExactPutVersionx11
import Derived.Test.YtbodkbaniebfaaaXFnExactPutVersionx12
import Derived.Test.YtbodkbaniebfaaaXFnExactPutVersionx13
import Derived.Test.YtbodkbaniebfaaaXFnExactPutVersionx14
import Derived.Test.YtbodkbaniebfaaaXFnExactPutVersionx15
namespace Go.Proofs.Ytbodkbaniebfaaa.XFnExactPutVersion
open Go.RowKit Go.Proofs.YtbodkbaniebfaaaW.PrintWords Go.Proofs.YtbodkbaniebfaaaW.PrintLast Go.Proofs.YtbodkbaniebfaaaW.PrintMore
attribute [local go_sem] max2_int min2_int max_two min_two max_three min_three max_four min_four   -- for this text's walks alone
set_option linter.unusedVariables false
set_option linter.unusedSimpArgs false

end Go.Proofs.Ytbodkbaniebfaaa.XFnExactPutVersion
