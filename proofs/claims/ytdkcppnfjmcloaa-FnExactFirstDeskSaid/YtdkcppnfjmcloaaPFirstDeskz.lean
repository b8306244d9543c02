/- What the printed functions answer, function by function: plain statements, without memory. (wip/after) -/
import Derived.Test.YtdkcppnfjmcloaaPFirstDeskx
import Derived.Test.YtdkcppnfjmcloaaEv
namespace Go.Proofs.Ytdkcppnfjmcloaa.PFirstDesk
open Go.RowKit Go.Proofs.YtdkcppnfjmcloaaW.PrintWords Go.Proofs.YtdkcppnfjmcloaaW.PrintLast Go.Proofs.YtdkcppnfjmcloaaW.PrintMore
set_option linter.unusedVariables false
set_option linter.unusedSimpArgs false

end Go.Proofs.Ytdkcppnfjmcloaa.PFirstDesk
