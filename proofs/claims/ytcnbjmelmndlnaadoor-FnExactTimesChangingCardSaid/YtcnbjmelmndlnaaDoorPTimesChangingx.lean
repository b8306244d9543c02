-- PRINTED by drive.py (a program of this session's, over the kit's print.py; wip/tools/drive.py). Lean checks it.
import Derived.Test.YtcnbjmelmndlnaaDoorPTimesChangingx0
import Derived.Test.YtcnbjmelmndlnaaDoorPTimesChangingx1
import Derived.Test.YtcnbjmelmndlnaaDoorPTimesChangingx2
import Derived.Test.YtcnbjmelmndlnaaDoorPTimesChangingx3
import Derived.Test.YtcnbjmelmndlnaaDoorPTimesChangingx4
import Derived.Test.YtcnbjmelmndlnaaDoorPTimesChangingx5
import Derived.Test.YtcnbjmelmndlnaaDoorPTimesChangingx6
namespace Go.Proofs.YtcnbjmelmndlnaaDoor.PTimesChanging
open Go.RowKit Go.Proofs.YtcnbjmelmndlnaaDoorW.PrintWords Go.Proofs.YtcnbjmelmndlnaaDoorW.PrintLast Go.Proofs.YtcnbjmelmndlnaaDoorW.PrintMore
attribute [local go_sem] max2_int min2_int max_two min_two max_three min_three max_four min_four   -- for this text's walks alone
set_option linter.unusedVariables false
set_option linter.unusedSimpArgs false

end Go.Proofs.YtcnbjmelmndlnaaDoor.PTimesChanging
