-- Printed by this session's own program wip/tools/xprint.py, which widens the kit's print. Not trusted: Lean checks it.
import Derived.Test.YtmfichcgmofpkaaXFnExactNewFleetx0
import Derived.Test.YtmfichcgmofpkaaXFnExactNewFleetx1
import Derived.Test.YtmfichcgmofpkaaXFnExactNewFleetx2
import Derived.Test.YtmfichcgmofpkaaXFnExactNewFleetx3
import Derived.Test.YtmfichcgmofpkaaXFnExactNewFleetx4
import Derived.Test.YtmfichcgmofpkaaXFnExactNewFleetx5
import Derived.Test.YtmfichcgmofpkaaXFnExactNewFleetx6
import Derived.Test.YtmfichcgmofpkaaXFnExactNewFleetx7
import Derived.Test.YtmfichcgmofpkaaXFnExactNewFleetx8
import Derived.Test.YtmfichcgmofpkaaXFnExactNewFleetx9
import Derived.Test.YtmfichcgmofpkaaXFnExactNewFleetx10
import Derived.Test.YtmfichcgmofpkaaXFnExactNewFleetx11
import Derived.Test.YtmfichcgmofpkaaXFnExactNewFleetx12
import Derived.Test.YtmfichcgmofpkaaXFnExactNewFleetx13
import Derived.Test.YtmfichcgmofpkaaXFnExactNewFleetx14
import Derived.Test.YtmfichcgmofpkaaXFnExactNewFleetx15
import Derived.Test.YtmfichcgmofpkaaXFnExactNewFleetx16
namespace Go.Proofs.Ytmfichcgmofpkaa.XFnExactNewFleet
open Go.RowKit Go.Proofs.YtmfichcgmofpkaaW.PrintWords Go.Proofs.YtmfichcgmofpkaaW.PrintLast Go.Proofs.YtmfichcgmofpkaaW.PrintMore
attribute [local go_sem] max2_int min2_int max_two min_two max_three min_three max_four min_four   -- for this text's walks alone
set_option linter.unusedVariables false
set_option linter.unusedSimpArgs false

end Go.Proofs.Ytmfichcgmofpkaa.XFnExactNewFleet
