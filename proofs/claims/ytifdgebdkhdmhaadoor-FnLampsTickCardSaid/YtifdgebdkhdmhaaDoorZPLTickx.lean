-- PRINTED by drive.py (a program of this session's, over the kit's print.py; wip/tools/drive.py). Lean checks it.
import Derived.Test.YtifdgebdkhdmhaaDoorZPLTickx0
import Derived.Test.YtifdgebdkhdmhaaDoorZPLTickx1
import Derived.Test.YtifdgebdkhdmhaaDoorZPLTickx2
import Derived.Test.YtifdgebdkhdmhaaDoorZPLTickx3
import Derived.Test.YtifdgebdkhdmhaaDoorZPLTickx4
import Derived.Test.YtifdgebdkhdmhaaDoorZPLTickx5
import Derived.Test.YtifdgebdkhdmhaaDoorZPLTickx6
import Derived.Test.YtifdgebdkhdmhaaDoorZPLTickx7
import Derived.Test.YtifdgebdkhdmhaaDoorZPLTickx8
import Derived.Test.YtifdgebdkhdmhaaDoorZPLTickx9
import Derived.Test.YtifdgebdkhdmhaaDoorZPLTickx10
import Derived.Test.YtifdgebdkhdmhaaDoorZPLTickx11
import Derived.Test.YtifdgebdkhdmhaaDoorZPLTickx12
import Derived.Test.YtifdgebdkhdmhaaDoorZPLTickx13
namespace Go.Proofs.YtifdgebdkhdmhaaDoor.PLTick
open Go.RowKit Go.Proofs.YtifdgebdkhdmhaaDoorW.PrintWords Go.Proofs.YtifdgebdkhdmhaaDoorW.PrintLast Go.Proofs.YtifdgebdkhdmhaaDoorW.PrintMore
attribute [local go_sem] max2_int min2_int max_two min_two max_three min_three max_four min_four   -- for this text's walks alone
set_option linter.unusedVariables false
set_option linter.unusedSimpArgs false

end Go.Proofs.YtifdgebdkhdmhaaDoor.PLTick
