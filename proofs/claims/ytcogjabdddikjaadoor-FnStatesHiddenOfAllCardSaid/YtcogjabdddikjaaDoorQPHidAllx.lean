-- PRINTED by drive.py (a program of this session's, over the kit's print.py; wip/tools/drive.py). Lean checks it.
import Derived.Test.YtcogjabdddikjaaDoorQPHidAllx0
import Derived.Test.YtcogjabdddikjaaDoorQPHidAllx1
import Derived.Test.YtcogjabdddikjaaDoorQPHidAllx2
import Derived.Test.YtcogjabdddikjaaDoorQPHidAllx3
import Derived.Test.YtcogjabdddikjaaDoorQPHidAllx4
import Derived.Test.YtcogjabdddikjaaDoorQPHidAllx5
import Derived.Test.YtcogjabdddikjaaDoorQPHidAllx6
import Derived.Test.YtcogjabdddikjaaDoorQPHidAllx7
import Derived.Test.YtcogjabdddikjaaDoorQPHidAllx8
import Derived.Test.YtcogjabdddikjaaDoorQPHidAllx9
import Derived.Test.YtcogjabdddikjaaDoorQPHidAllx10
import Derived.Test.YtcogjabdddikjaaDoorQPHidAllx11
import Derived.Test.YtcogjabdddikjaaDoorQPHidAllx12
import Derived.Test.YtcogjabdddikjaaDoorQPHidAllx13
import Derived.Test.YtcogjabdddikjaaDoorQPHidAllx14
import Derived.Test.YtcogjabdddikjaaDoorQPHidAllx15
import Derived.Test.YtcogjabdddikjaaDoorQPHidAllx16
namespace Go.Proofs.YtcogjabdddikjaaDoor.PHidAll
open Go.RowKit Go.Proofs.YtcogjabdddikjaaDoorW.PrintWords Go.Proofs.YtcogjabdddikjaaDoorW.PrintLast Go.Proofs.YtcogjabdddikjaaDoorW.PrintMore
attribute [local go_sem] max2_int min2_int max_two min_two max_three min_three max_four min_four   -- for this text's walks alone
set_option linter.unusedVariables false
set_option linter.unusedSimpArgs false

end Go.Proofs.YtcogjabdddikjaaDoor.PHidAll
