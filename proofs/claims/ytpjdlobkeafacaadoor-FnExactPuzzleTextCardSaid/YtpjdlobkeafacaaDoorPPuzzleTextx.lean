-- PRINTED by drive.py (a program of this session's, over the kit's print.py; wip/tools/drive.py). Lean checks it.
import Derived.Test.YtpjdlobkeafacaaDoorPPuzzleTextx0
import Derived.Test.YtpjdlobkeafacaaDoorPPuzzleTextx1
import Derived.Test.YtpjdlobkeafacaaDoorPPuzzleTextx2
import Derived.Test.YtpjdlobkeafacaaDoorPPuzzleTextx3
import Derived.Test.YtpjdlobkeafacaaDoorPPuzzleTextx4
import Derived.Test.YtpjdlobkeafacaaDoorPPuzzleTextx5
import Derived.Test.YtpjdlobkeafacaaDoorPPuzzleTextx6
namespace Go.Proofs.YtpjdlobkeafacaaDoor.PPuzzleText
open Go.RowKit Go.Proofs.YtpjdlobkeafacaaDoorW.PrintWords Go.Proofs.YtpjdlobkeafacaaDoorW.PrintLast Go.Proofs.YtpjdlobkeafacaaDoorW.PrintMore
attribute [local go_sem] max2_int min2_int max_two min_two max_three min_three max_four min_four   -- for this text's walks alone
set_option linter.unusedVariables false
set_option linter.unusedSimpArgs false

end Go.Proofs.YtpjdlobkeafacaaDoor.PPuzzleText
