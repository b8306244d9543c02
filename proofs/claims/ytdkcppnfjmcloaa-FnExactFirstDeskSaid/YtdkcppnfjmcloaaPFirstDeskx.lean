-- PRINTED by drive.py (a program of this session's, over the kit's print.py; wip/tools/drive.py). Lean checks it.
import Derived.Test.YtdkcppnfjmcloaaPFirstDeskx0
import Derived.Test.YtdkcppnfjmcloaaPFirstDeskx1
import Derived.Test.YtdkcppnfjmcloaaPFirstDeskx2
namespace Go.Proofs.Ytdkcppnfjmcloaa.PFirstDesk
open Go.RowKit Go.Proofs.YtdkcppnfjmcloaaW.PrintWords Go.Proofs.YtdkcppnfjmcloaaW.PrintLast Go.Proofs.YtdkcppnfjmcloaaW.PrintMore
attribute [local go_sem] max2_int min2_int max_two min_two max_three min_three max_four min_four   -- for this text's walks alone
set_option linter.unusedVariables false
set_option linter.unusedSimpArgs false

end Go.Proofs.Ytdkcppnfjmcloaa.PFirstDesk
