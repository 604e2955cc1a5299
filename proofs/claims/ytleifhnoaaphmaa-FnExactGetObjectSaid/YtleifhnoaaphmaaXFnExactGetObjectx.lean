-- Printed by this session's own program wip/tools/xprint.py, which widens the kit's print. Not trusted: Lean checks it.
import Derived.Test.YtleifhnoaaphmaaXFnExactGetObjectx0
import Derived.Test.YtleifhnoaaphmaaXFnExactGetObjectx1
import Derived.Test.YtleifhnoaaphmaaXFnExactGetObjectx2
import Derived.Test.YtleifhnoaaphmaaXFnExactGetObjectx3
import Derived.Test.YtleifhnoaaphmaaXFnExactGetObjectx4
import Derived.Test.YtleifhnoaaphmaaXFnExactGetObjectx5
import Derived.Test.YtleifhnoaaphmaaXFnExactGetObjectx6
import Derived.Test.YtleifhnoaaphmaaXFnExactGetObjectx7
import Derived.Test.YtleifhnoaaphmaaXFnExactGetObjectx8
namespace Go.Proofs.Ytleifhnoaaphmaa.XFnExactGetObject
open Go.RowKit Go.Proofs.YtleifhnoaaphmaaW.PrintWords Go.Proofs.YtleifhnoaaphmaaW.PrintLast Go.Proofs.YtleifhnoaaphmaaW.PrintMore
attribute [local go_sem] max2_int min2_int max_two min_two max_three min_three max_four min_four   -- for this text's walks alone
set_option linter.unusedVariables false
set_option linter.unusedSimpArgs false

end Go.Proofs.Ytleifhnoaaphmaa.XFnExactGetObject
