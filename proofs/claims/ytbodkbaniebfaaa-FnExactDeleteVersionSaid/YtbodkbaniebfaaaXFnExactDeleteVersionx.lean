-- Printed by this session's own program wip/tools/xprint.py, which widens the kit's print. Not trusted: Lean checks it.
import Derived.Test.YtbodkbaniebfaaaXFnExactDeleteVersionx0
import Derived.Test.YtbodkbaniebfaaaXFnExactDeleteVersionx1
import Derived.Test.YtbodkbaniebfaaaXFnExactDeleteVersionx2
import Derived.Test.YtbodkbaniebfaaaXFnExactDeleteVersionx3
import Derived.Test.YtbodkbaniebfaaaXFnExactDeleteVersionx4
import Derived.Test.YtbodkbaniebfaaaXFnExactDeleteVersionx5
import Derived.Test.YtbodkbaniebfaaaXFnExactDeleteVersionx6
import Derived.Test.YtbodkbaniebfaaaXFnExactDeleteVersionx7
import Derived.Test.YtbodkbaniebfaaaXFnExactDeleteVersionx8
import Derived.Test.YtbodkbaniebfaaaXFnExactDeleteVersionx9
import Derived.Test.YtbodkbaniebfaaaXFnExactDeleteVersionx10
namespace Go.Proofs.Ytbodkbaniebfaaa.XFnExactDeleteVersion
open Go.RowKit Go.Proofs.YtbodkbaniebfaaaW.PrintWords Go.Proofs.YtbodkbaniebfaaaW.PrintLast Go.Proofs.YtbodkbaniebfaaaW.PrintMore
attribute [local go_sem] max2_int min2_int max_two min_two max_three min_three max_four min_four   -- for this text's walks alone
set_option linter.unusedVariables false
set_option linter.unusedSimpArgs false

end Go.Proofs.Ytbodkbaniebfaaa.XFnExactDeleteVersion
