-- PRINTED by drive.py (a program of this session's, over the kit's print.py; wip/tools/drive.py). Lean checks it.
import Derived.Test.YtdkcppnfjmcloaaPRunningLampsx0
import Derived.Test.YtdkcppnfjmcloaaPRunningLampsx1
import Derived.Test.YtdkcppnfjmcloaaPRunningLampsx2
import Derived.Test.YtdkcppnfjmcloaaPRunningLampsx3
namespace Go.Proofs.Ytdkcppnfjmcloaa.PRunningLamps
open Go.RowKit Go.Proofs.YtdkcppnfjmcloaaW.PrintWords Go.Proofs.YtdkcppnfjmcloaaW.PrintLast Go.Proofs.YtdkcppnfjmcloaaW.PrintMore
attribute [local go_sem] max2_int min2_int max_two min_two max_three min_three max_four min_four   -- for this text's walks alone
set_option linter.unusedVariables false
set_option linter.unusedSimpArgs false

end Go.Proofs.Ytdkcppnfjmcloaa.PRunningLamps
