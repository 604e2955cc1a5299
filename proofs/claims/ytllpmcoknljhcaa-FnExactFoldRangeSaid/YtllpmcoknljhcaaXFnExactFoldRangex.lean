-- Printed by this session's own program wip/tools/xprint.py, which widens the kit's print. Not trusted: Lean checks it.
import Derived.Test.YtllpmcoknljhcaaXFnExactFoldRangex0
import Derived.Test.YtllpmcoknljhcaaXFnExactFoldRangex1
import Derived.Test.YtllpmcoknljhcaaXFnExactFoldRangex2
import Derived.Test.YtllpmcoknljhcaaXFnExactFoldRangex3
import Derived.Test.YtllpmcoknljhcaaXFnExactFoldRangex4
import Derived.Test.YtllpmcoknljhcaaXFnExactFoldRangex5
import Derived.Test.YtllpmcoknljhcaaXFnExactFoldRangex6
import Derived.Test.YtllpmcoknljhcaaXFnExactFoldRangex7
namespace Go.Proofs.Ytllpmcoknljhcaa.XFnExactFoldRange
open Go.RowKit Go.Proofs.YtllpmcoknljhcaaW.PrintWords Go.Proofs.YtllpmcoknljhcaaW.PrintLast Go.Proofs.YtllpmcoknljhcaaW.PrintMore
attribute [local go_sem] max2_int min2_int max_two min_two max_three min_three max_four min_four   -- for this text's walks alone
set_option linter.unusedVariables false
set_option linter.unusedSimpArgs false

end Go.Proofs.Ytllpmcoknljhcaa.XFnExactFoldRange
