-- Printed by this session's own program wip/tools/xprint.py, which widens the kit's print. Not trusted: Lean checks it.
import Derived.Test.YtcdkphafiibpcaaXFnExactRollUpx0
import Derived.Test.YtcdkphafiibpcaaXFnExactRollUpx1
import Derived.Test.YtcdkphafiibpcaaXFnExactRollUpx2
import Derived.Test.YtcdkphafiibpcaaXFnExactRollUpx3
import Derived.Test.YtcdkphafiibpcaaXFnExactRollUpx4
import Derived.Test.YtcdkphafiibpcaaXFnExactRollUpx5
import Derived.Test.YtcdkphafiibpcaaXFnExactRollUpx6
import Derived.Test.YtcdkphafiibpcaaXFnExactRollUpx7
import Derived.Test.YtcdkphafiibpcaaXFnExactRollUpx8
import Derived.Test.YtcdkphafiibpcaaXFnExactRollUpx9
namespace Go.Proofs.Ytcdkphafiibpcaa.XFnExactRollUp
open Go.RowKit Go.Proofs.YtcdkphafiibpcaaW.PrintWords Go.Proofs.YtcdkphafiibpcaaW.PrintLast Go.Proofs.YtcdkphafiibpcaaW.PrintMore
attribute [local go_sem] max2_int min2_int max_two min_two max_three min_three max_four min_four   -- for this text's walks alone
set_option linter.unusedVariables false
set_option linter.unusedSimpArgs false

end Go.Proofs.Ytcdkphafiibpcaa.XFnExactRollUp
