/- The program's FirstDesk and the reference's are one desk. No condition. (By reckoning.) -/
import Derived.Test.YtdkcppnfjmcloaaPFirstDeskz
import Derived.KernelRfl
namespace Go.Proofs.Ytdkcppnfjmcloaa.Pure
open Go.RowKit Go.Proofs.Ytdkcppnfjmcloaa.PFirstDesk Go.Proofs.YtdkcppnfjmcloaaW.PrintWords Go.Proofs.YtdkcppnfjmcloaaW.PrintLast Go.Proofs.YtdkcppnfjmcloaaW.PrintMore
theorem FnExactFirstDesk_pure : ∃ k, laws_FnExactFirstDesk.f k = some true := ⟨60, by decide +kernel⟩
end Go.Proofs.Ytdkcppnfjmcloaa.Pure
