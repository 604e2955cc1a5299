-- Printed by this session's own program wip/tools/xprint.py, which widens the kit's print. Not trusted: Lean checks it.
import Derived.Test.YtcdkphafiibpcaaXFnExactDownsamplex0
import Derived.Test.YtcdkphafiibpcaaXFnExactDownsamplex1
import Derived.Test.YtcdkphafiibpcaaXFnExactDownsamplex2
import Derived.Test.YtcdkphafiibpcaaXFnExactDownsamplex3
import Derived.Test.YtcdkphafiibpcaaXFnExactDownsamplex4
import Derived.Test.YtcdkphafiibpcaaXFnExactDownsamplex5
import Derived.Test.YtcdkphafiibpcaaXFnExactDownsamplex6
import Derived.Test.YtcdkphafiibpcaaXFnExactDownsamplex7
namespace Go.Proofs.Ytcdkphafiibpcaa.XFnExactDownsample
open Go.RowKit Go.Proofs.YtcdkphafiibpcaaW.PrintWords Go.Proofs.YtcdkphafiibpcaaW.PrintLast Go.Proofs.YtcdkphafiibpcaaW.PrintMore
attribute [local go_sem] max2_int min2_int max_two min_two max_three min_three max_four min_four   -- for this text's walks alone
set_option linter.unusedVariables false
set_option linter.unusedSimpArgs false

end Go.Proofs.Ytcdkphafiibpcaa.XFnExactDownsample
