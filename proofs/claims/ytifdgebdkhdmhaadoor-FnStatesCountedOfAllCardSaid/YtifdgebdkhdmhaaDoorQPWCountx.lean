-- PRINTED by drive.py (a program of this session's, over the kit's print.py; wip/tools/drive.py). Lean checks it.
import Derived.Test.YtifdgebdkhdmhaaDoorQPWCountx0
import Derived.Test.YtifdgebdkhdmhaaDoorQPWCountx1
import Derived.Test.YtifdgebdkhdmhaaDoorQPWCountx2
import Derived.Test.YtifdgebdkhdmhaaDoorQPWCountx3
import Derived.Test.YtifdgebdkhdmhaaDoorQPWCountx4
import Derived.Test.YtifdgebdkhdmhaaDoorQPWCountx5
import Derived.Test.YtifdgebdkhdmhaaDoorQPWCountx6
namespace Go.Proofs.YtifdgebdkhdmhaaDoor.PWCount
open Go.RowKit Go.Proofs.YtifdgebdkhdmhaaDoorW.PrintWords Go.Proofs.YtifdgebdkhdmhaaDoorW.PrintLast Go.Proofs.YtifdgebdkhdmhaaDoorW.PrintMore
attribute [local go_sem] max2_int min2_int max_two min_two max_three min_three max_four min_four   -- for this text's walks alone
set_option linter.unusedVariables false
set_option linter.unusedSimpArgs false

end Go.Proofs.YtifdgebdkhdmhaaDoor.PWCount
