-- PRINTED by drive.py (a program of this session's, over the kit's print.py; wip/tools/drive.py). Lean checks it.
import Derived.Test.YtifdgebdkhdmhaaDoorQPLTickOfAllx0
import Derived.Test.YtifdgebdkhdmhaaDoorQPLTickOfAllx1
import Derived.Test.YtifdgebdkhdmhaaDoorQPLTickOfAllx2
import Derived.Test.YtifdgebdkhdmhaaDoorQPLTickOfAllx3
import Derived.Test.YtifdgebdkhdmhaaDoorQPLTickOfAllx4
import Derived.Test.YtifdgebdkhdmhaaDoorQPLTickOfAllx5
import Derived.Test.YtifdgebdkhdmhaaDoorQPLTickOfAllx6
import Derived.Test.YtifdgebdkhdmhaaDoorQPLTickOfAllx7
import Derived.Test.YtifdgebdkhdmhaaDoorQPLTickOfAllx8
namespace Go.Proofs.YtifdgebdkhdmhaaDoor.PLTickOfAll
open Go.RowKit Go.Proofs.YtifdgebdkhdmhaaDoorW.PrintWords Go.Proofs.YtifdgebdkhdmhaaDoorW.PrintLast Go.Proofs.YtifdgebdkhdmhaaDoorW.PrintMore
attribute [local go_sem] max2_int min2_int max_two min_two max_three min_three max_four min_four   -- for this text's walks alone
set_option linter.unusedVariables false
set_option linter.unusedSimpArgs false

end Go.Proofs.YtifdgebdkhdmhaaDoor.PLTickOfAll
