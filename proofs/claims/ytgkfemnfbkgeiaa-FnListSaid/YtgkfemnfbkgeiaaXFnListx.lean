-- Printed by this session's own program wip/tools/xprint.py, which widens the kit's print. Not trusted: Lean checks it.
import Derived.Test.YtgkfemnfbkgeiaaXFnListx0
import Derived.Test.YtgkfemnfbkgeiaaXFnListx1
import Derived.Test.YtgkfemnfbkgeiaaXFnListx2
import Derived.Test.YtgkfemnfbkgeiaaXFnListx3
import Derived.Test.YtgkfemnfbkgeiaaXFnListx4
import Derived.Test.YtgkfemnfbkgeiaaXFnListx5
import Derived.Test.YtgkfemnfbkgeiaaXFnListx6
import Derived.Test.YtgkfemnfbkgeiaaXFnListx7
import Derived.Test.YtgkfemnfbkgeiaaXFnListx8
import Derived.Test.YtgkfemnfbkgeiaaXFnListx9
import Derived.Test.YtgkfemnfbkgeiaaXFnListx10
import Derived.Test.YtgkfemnfbkgeiaaXFnListx11
import Derived.Test.YtgkfemnfbkgeiaaXFnListx12
namespace Go.Proofs.Ytgkfemnfbkgeiaa.XFnList
open Go.RowKit Go.Proofs.YtgkfemnfbkgeiaaW.PrintWords Go.Proofs.YtgkfemnfbkgeiaaW.PrintLast Go.Proofs.YtgkfemnfbkgeiaaW.PrintMore
attribute [local go_sem] max2_int min2_int max_two min_two max_three min_three max_four min_four   -- for this text's walks alone
set_option linter.unusedVariables false
set_option linter.unusedSimpArgs false

end Go.Proofs.Ytgkfemnfbkgeiaa.XFnList
