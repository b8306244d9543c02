-- PRINTED by drive.py (a program of this session's, over the kit's print.py; wip/tools/drive.py). Lean checks it.
import Derived.Test.YtiiahdjjngdgoaaDoorQPLTickx0
import Derived.Test.YtiiahdjjngdgoaaDoorQPLTickx1
import Derived.Test.YtiiahdjjngdgoaaDoorQPLTickx2
import Derived.Test.YtiiahdjjngdgoaaDoorQPLTickx3
import Derived.Test.YtiiahdjjngdgoaaDoorQPLTickx4
import Derived.Test.YtiiahdjjngdgoaaDoorQPLTickx5
import Derived.Test.YtiiahdjjngdgoaaDoorQPLTickx6
import Derived.Test.YtiiahdjjngdgoaaDoorQPLTickx7
import Derived.Test.YtiiahdjjngdgoaaDoorQPLTickx8
import Derived.Test.YtiiahdjjngdgoaaDoorQPLTickx9
import Derived.Test.YtiiahdjjngdgoaaDoorQPLTickx10
import Derived.Test.YtiiahdjjngdgoaaDoorQPLTickx11
import Derived.Test.YtiiahdjjngdgoaaDoorQPLTickx12
import Derived.Test.YtiiahdjjngdgoaaDoorQPLTickx13
namespace Go.Proofs.YtiiahdjjngdgoaaDoor.PLTick
open Go.RowKit Go.Proofs.YtiiahdjjngdgoaaDoorW.PrintWords Go.Proofs.YtiiahdjjngdgoaaDoorW.PrintLast Go.Proofs.YtiiahdjjngdgoaaDoorW.PrintMore
attribute [local go_sem] max2_int min2_int max_two min_two max_three min_three max_four min_four   -- for this text's walks alone
set_option linter.unusedVariables false
set_option linter.unusedSimpArgs false

end Go.Proofs.YtiiahdjjngdgoaaDoor.PLTick
