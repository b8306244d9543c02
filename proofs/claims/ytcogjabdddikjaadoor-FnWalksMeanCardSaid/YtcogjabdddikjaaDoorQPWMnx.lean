-- PRINTED by drive.py (a program of this session's, over the kit's print.py; wip/tools/drive.py). Lean checks it.
import Derived.Test.YtcogjabdddikjaaDoorQPWMnx0
import Derived.Test.YtcogjabdddikjaaDoorQPWMnx1
import Derived.Test.YtcogjabdddikjaaDoorQPWMnx2
import Derived.Test.YtcogjabdddikjaaDoorQPWMnx3
import Derived.Test.YtcogjabdddikjaaDoorQPWMnx4
import Derived.Test.YtcogjabdddikjaaDoorQPWMnx5
import Derived.Test.YtcogjabdddikjaaDoorQPWMnx6
import Derived.Test.YtcogjabdddikjaaDoorQPWMnx7
import Derived.Test.YtcogjabdddikjaaDoorQPWMnx8
import Derived.Test.YtcogjabdddikjaaDoorQPWMnx9
import Derived.Test.YtcogjabdddikjaaDoorQPWMnx10
namespace Go.Proofs.YtcogjabdddikjaaDoor.PWMn
open Go.RowKit Go.Proofs.YtcogjabdddikjaaDoorW.PrintWords Go.Proofs.YtcogjabdddikjaaDoorW.PrintLast Go.Proofs.YtcogjabdddikjaaDoorW.PrintMore
attribute [local go_sem] max2_int min2_int max_two min_two max_three min_three max_four min_four   -- for this text's walks alone
set_option linter.unusedVariables false
set_option linter.unusedSimpArgs false

end Go.Proofs.YtcogjabdddikjaaDoor.PWMn
