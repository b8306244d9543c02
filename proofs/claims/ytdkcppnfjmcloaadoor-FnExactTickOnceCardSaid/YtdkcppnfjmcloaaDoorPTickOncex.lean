-- PRINTED by drive.py (a program of this session's, over the kit's print.py; wip/tools/drive.py). Lean checks it.
import Derived.Test.YtdkcppnfjmcloaaDoorPTickOncex0
import Derived.Test.YtdkcppnfjmcloaaDoorPTickOncex1
import Derived.Test.YtdkcppnfjmcloaaDoorPTickOncex2
import Derived.Test.YtdkcppnfjmcloaaDoorPTickOncex3
namespace Go.Proofs.YtdkcppnfjmcloaaDoor.PTickOnce
open Go.RowKit Go.Proofs.YtdkcppnfjmcloaaDoorW.PrintWords Go.Proofs.YtdkcppnfjmcloaaDoorW.PrintLast Go.Proofs.YtdkcppnfjmcloaaDoorW.PrintMore
attribute [local go_sem] max2_int min2_int max_two min_two max_three min_three max_four min_four   -- for this text's walks alone
set_option linter.unusedVariables false
set_option linter.unusedSimpArgs false

end Go.Proofs.YtdkcppnfjmcloaaDoor.PTickOnce
