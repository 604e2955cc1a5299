-- Printed by this session's own program wip/tools/xprint.py, which widens the kit's print. Not trusted: Lean checks it.
import Derived.Test.YtgkfemnfbkgeiaaXFnStorex0
import Derived.Test.YtgkfemnfbkgeiaaXFnStorex1
import Derived.Test.YtgkfemnfbkgeiaaXFnStorex2
import Derived.Test.YtgkfemnfbkgeiaaXFnStorex3
import Derived.Test.YtgkfemnfbkgeiaaXFnStorex4
import Derived.Test.YtgkfemnfbkgeiaaXFnStorex5
import Derived.Test.YtgkfemnfbkgeiaaXFnStorex6
import Derived.Test.YtgkfemnfbkgeiaaXFnStorex7
import Derived.Test.YtgkfemnfbkgeiaaXFnStorex8
import Derived.Test.YtgkfemnfbkgeiaaXFnStorex9
import Derived.Test.YtgkfemnfbkgeiaaXFnStorex10
import Derived.Test.YtgkfemnfbkgeiaaXFnStorex11
import Derived.Test.YtgkfemnfbkgeiaaXFnStorex12
import Derived.Test.YtgkfemnfbkgeiaaXFnStorex13
import Derived.Test.YtgkfemnfbkgeiaaXFnStorex14
import Derived.Test.YtgkfemnfbkgeiaaXFnStorex15
import Derived.Test.YtgkfemnfbkgeiaaXFnStorex16
import Derived.Test.YtgkfemnfbkgeiaaXFnStorex17
namespace Go.Proofs.Ytgkfemnfbkgeiaa.XFnStore
open Go.RowKit Go.Proofs.YtgkfemnfbkgeiaaW.PrintWords Go.Proofs.YtgkfemnfbkgeiaaW.PrintLast Go.Proofs.YtgkfemnfbkgeiaaW.PrintMore
attribute [local go_sem] max2_int min2_int max_two min_two max_three min_three max_four min_four   -- for this text's walks alone
set_option linter.unusedVariables false
set_option linter.unusedSimpArgs false

end Go.Proofs.Ytgkfemnfbkgeiaa.XFnStore
