-- Printed by this session's own program wip/tools/xprint.py, which widens the kit's print. Not trusted: Lean checks it.
import Derived.Test.YtodmgklagfabaaaXFnExactLeaseOKx0
import Derived.Test.YtodmgklagfabaaaXFnExactLeaseOKx1
namespace Go.Proofs.Ytodmgklagfabaaa.XFnExactLeaseOK
open Go.RowKit Go.Proofs.YtodmgklagfabaaaW.PrintWords Go.Proofs.YtodmgklagfabaaaW.PrintLast Go.Proofs.YtodmgklagfabaaaW.PrintMore
attribute [local go_sem] max2_int min2_int max_two min_two max_three min_three max_four min_four   -- for this text's walks alone
set_option linter.unusedVariables false
set_option linter.unusedSimpArgs false

end Go.Proofs.Ytodmgklagfabaaa.XFnExactLeaseOK
