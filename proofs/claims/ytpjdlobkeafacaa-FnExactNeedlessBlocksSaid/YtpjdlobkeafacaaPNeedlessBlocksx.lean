-- PRINTED by drive.py (a program of this session's, over the kit's print.py; wip/tools/drive.py). Lean checks it.
import Derived.Test.YtpjdlobkeafacaaPNeedlessBlocksx0
import Derived.Test.YtpjdlobkeafacaaPNeedlessBlocksx1
import Derived.Test.YtpjdlobkeafacaaPNeedlessBlocksx2
import Derived.Test.YtpjdlobkeafacaaPNeedlessBlocksx3
import Derived.Test.YtpjdlobkeafacaaPNeedlessBlocksx4
import Derived.Test.YtpjdlobkeafacaaPNeedlessBlocksx5
import Derived.Test.YtpjdlobkeafacaaPNeedlessBlocksx6
import Derived.Test.YtpjdlobkeafacaaPNeedlessBlocksx7
namespace Go.Proofs.Ytpjdlobkeafacaa.PNeedlessBlocks
open Go.RowKit Go.Proofs.YtpjdlobkeafacaaW.PrintWords Go.Proofs.YtpjdlobkeafacaaW.PrintLast Go.Proofs.YtpjdlobkeafacaaW.PrintMore
attribute [local go_sem] max2_int min2_int max_two min_two max_three min_three max_four min_four   -- for this text's walks alone
set_option linter.unusedVariables false
set_option linter.unusedSimpArgs false

end Go.Proofs.Ytpjdlobkeafacaa.PNeedlessBlocks
