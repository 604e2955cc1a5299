-- Printed by this session's own program wip/tools/xprint.py, which widens the kit's print. Not trusted: Lean checks it.
import Derived.Test.YtgkfemnfbkgeiaaXFnCasx0
import Derived.Test.YtgkfemnfbkgeiaaXFnCasx1
import Derived.Test.YtgkfemnfbkgeiaaXFnCasx2
import Derived.Test.YtgkfemnfbkgeiaaXFnCasx3
import Derived.Test.YtgkfemnfbkgeiaaXFnCasx4
import Derived.Test.YtgkfemnfbkgeiaaXFnCasx5
import Derived.Test.YtgkfemnfbkgeiaaXFnCasx6
import Derived.Test.YtgkfemnfbkgeiaaXFnCasx7
import Derived.Test.YtgkfemnfbkgeiaaXFnCasx8
import Derived.Test.YtgkfemnfbkgeiaaXFnCasx9
import Derived.Test.YtgkfemnfbkgeiaaXFnCasx10
import Derived.Test.YtgkfemnfbkgeiaaXFnCasx11
import Derived.Test.YtgkfemnfbkgeiaaXFnCasx12
import Derived.Test.YtgkfemnfbkgeiaaXFnCasx13
import Derived.Test.YtgkfemnfbkgeiaaXFnCasx14
import Derived.Test.YtgkfemnfbkgeiaaXFnCasx15
import Derived.Test.YtgkfemnfbkgeiaaXFnCasx16
namespace Go.Proofs.Ytgkfemnfbkgeiaa.XFnCas
open Go.RowKit Go.Proofs.YtgkfemnfbkgeiaaW.PrintWords Go.Proofs.YtgkfemnfbkgeiaaW.PrintLast Go.Proofs.YtgkfemnfbkgeiaaW.PrintMore
attribute [local go_sem] max2_int min2_int max_two min_two max_three min_three max_four min_four   -- for this text's walks alone
set_option linter.unusedVariables false
set_option linter.unusedSimpArgs false

end Go.Proofs.Ytgkfemnfbkgeiaa.XFnCas
