-- PRINTED by drive.py (a program of this session's, over the kit's print.py; wip/tools/drive.py). Lean checks it.
import Derived.Test.YtdkcppnfjmcloaaDoorPAreLampsx0
import Derived.Test.YtdkcppnfjmcloaaDoorPAreLampsx1
import Derived.Test.YtdkcppnfjmcloaaDoorPAreLampsx2
namespace Go.Proofs.YtdkcppnfjmcloaaDoor.PAreLamps
open Go.RowKit Go.Proofs.YtdkcppnfjmcloaaDoorW.PrintWords Go.Proofs.YtdkcppnfjmcloaaDoorW.PrintLast Go.Proofs.YtdkcppnfjmcloaaDoorW.PrintMore
attribute [local go_sem] max2_int min2_int max_two min_two max_three min_three max_four min_four   -- for this text's walks alone
set_option linter.unusedVariables false
set_option linter.unusedSimpArgs false

end Go.Proofs.YtdkcppnfjmcloaaDoor.PAreLamps
