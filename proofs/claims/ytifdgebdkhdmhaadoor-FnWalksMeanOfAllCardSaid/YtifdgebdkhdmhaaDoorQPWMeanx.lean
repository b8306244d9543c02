-- PRINTED by drive.py (a program of this session's, over the kit's print.py; wip/tools/drive.py). Lean checks it.
import Derived.Test.YtifdgebdkhdmhaaDoorQPWMeanx0
import Derived.Test.YtifdgebdkhdmhaaDoorQPWMeanx1
import Derived.Test.YtifdgebdkhdmhaaDoorQPWMeanx2
import Derived.Test.YtifdgebdkhdmhaaDoorQPWMeanx3
import Derived.Test.YtifdgebdkhdmhaaDoorQPWMeanx4
import Derived.Test.YtifdgebdkhdmhaaDoorQPWMeanx5
import Derived.Test.YtifdgebdkhdmhaaDoorQPWMeanx6
import Derived.Test.YtifdgebdkhdmhaaDoorQPWMeanx7
import Derived.Test.YtifdgebdkhdmhaaDoorQPWMeanx8
import Derived.Test.YtifdgebdkhdmhaaDoorQPWMeanx9
namespace Go.Proofs.YtifdgebdkhdmhaaDoor.PWMean
open Go.RowKit Go.Proofs.YtifdgebdkhdmhaaDoorW.PrintWords Go.Proofs.YtifdgebdkhdmhaaDoorW.PrintLast Go.Proofs.YtifdgebdkhdmhaaDoorW.PrintMore
attribute [local go_sem] max2_int min2_int max_two min_two max_three min_three max_four min_four   -- for this text's walks alone
set_option linter.unusedVariables false
set_option linter.unusedSimpArgs false

end Go.Proofs.YtifdgebdkhdmhaaDoor.PWMean
