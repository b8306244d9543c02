-- PRINTED by drive.py (a program of this session's, over the kit's print.py; wip/tools/drive.py). Lean checks it.
import Derived.Test.YtcogjabdddikjaaDoorQPSCntx0
import Derived.Test.YtcogjabdddikjaaDoorQPSCntx1
import Derived.Test.YtcogjabdddikjaaDoorQPSCntx2
import Derived.Test.YtcogjabdddikjaaDoorQPSCntx3
import Derived.Test.YtcogjabdddikjaaDoorQPSCntx4
import Derived.Test.YtcogjabdddikjaaDoorQPSCntx5
import Derived.Test.YtcogjabdddikjaaDoorQPSCntx6
import Derived.Test.YtcogjabdddikjaaDoorQPSCntx7
namespace Go.Proofs.YtcogjabdddikjaaDoor.PSCnt
open Go.RowKit Go.Proofs.YtcogjabdddikjaaDoorW.PrintWords Go.Proofs.YtcogjabdddikjaaDoorW.PrintLast Go.Proofs.YtcogjabdddikjaaDoorW.PrintMore
attribute [local go_sem] max2_int min2_int max_two min_two max_three min_three max_four min_four   -- for this text's walks alone
set_option linter.unusedVariables false
set_option linter.unusedSimpArgs false

end Go.Proofs.YtcogjabdddikjaaDoor.PSCnt
