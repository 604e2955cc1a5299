-- Printed by this session's own program wip/tools/xprint.py, which widens the kit's print. Not trusted: Lean checks it.
import Derived.Test.YtbdhpmamlibmhaaDoorXFnExactReadSamplesx0
import Derived.Test.YtbdhpmamlibmhaaDoorXFnExactReadSamplesx1
import Derived.Test.YtbdhpmamlibmhaaDoorXFnExactReadSamplesx2
import Derived.Test.YtbdhpmamlibmhaaDoorXFnExactReadSamplesx3
import Derived.Test.YtbdhpmamlibmhaaDoorXFnExactReadSamplesx4
import Derived.Test.YtbdhpmamlibmhaaDoorXFnExactReadSamplesx5
import Derived.Test.YtbdhpmamlibmhaaDoorXFnExactReadSamplesx6
import Derived.Test.YtbdhpmamlibmhaaDoorXFnExactReadSamplesx7
namespace Go.Proofs.YtbdhpmamlibmhaaDoor.XFnExactReadSamples
open Go.RowKit Go.Proofs.YtbdhpmamlibmhaaDoorW.PrintWords Go.Proofs.YtbdhpmamlibmhaaDoorW.PrintLast Go.Proofs.YtbdhpmamlibmhaaDoorW.PrintMore
attribute [local go_sem] max2_int min2_int max_two min_two max_three min_three max_four min_four   -- for this text's walks alone
set_option linter.unusedVariables false
set_option linter.unusedSimpArgs false

end Go.Proofs.YtbdhpmamlibmhaaDoor.XFnExactReadSamples
