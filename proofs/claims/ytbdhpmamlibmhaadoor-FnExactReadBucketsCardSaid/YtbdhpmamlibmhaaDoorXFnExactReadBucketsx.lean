-- Printed by this session's own program wip/tools/xprint.py, which widens the kit's print. Not trusted: Lean checks it.
import Derived.Test.YtbdhpmamlibmhaaDoorXFnExactReadBucketsx0
import Derived.Test.YtbdhpmamlibmhaaDoorXFnExactReadBucketsx1
import Derived.Test.YtbdhpmamlibmhaaDoorXFnExactReadBucketsx2
import Derived.Test.YtbdhpmamlibmhaaDoorXFnExactReadBucketsx3
import Derived.Test.YtbdhpmamlibmhaaDoorXFnExactReadBucketsx4
import Derived.Test.YtbdhpmamlibmhaaDoorXFnExactReadBucketsx5
import Derived.Test.YtbdhpmamlibmhaaDoorXFnExactReadBucketsx6
import Derived.Test.YtbdhpmamlibmhaaDoorXFnExactReadBucketsx7
import Derived.Test.YtbdhpmamlibmhaaDoorXFnExactReadBucketsx8
import Derived.Test.YtbdhpmamlibmhaaDoorXFnExactReadBucketsx9
import Derived.Test.YtbdhpmamlibmhaaDoorXFnExactReadBucketsx10
namespace Go.Proofs.YtbdhpmamlibmhaaDoor.XFnExactReadBuckets
open Go.RowKit Go.Proofs.YtbdhpmamlibmhaaDoorW.PrintWords Go.Proofs.YtbdhpmamlibmhaaDoorW.PrintLast Go.Proofs.YtbdhpmamlibmhaaDoorW.PrintMore
attribute [local go_sem] max2_int min2_int max_two min_two max_three min_three max_four min_four   -- for this text's walks alone
set_option linter.unusedVariables false
set_option linter.unusedSimpArgs false

end Go.Proofs.YtbdhpmamlibmhaaDoor.XFnExactReadBuckets
