-- PRINTED by drive.py (a program of this session's, over the kit's print.py; wip/tools/drive.py). Lean checks it.
import Derived.Test.YtpjdlobkeafacaaPAddBlockx0
import Derived.Test.YtpjdlobkeafacaaPAddBlockx1
import Derived.Test.YtpjdlobkeafacaaPAddBlockx2
import Derived.Test.YtpjdlobkeafacaaPAddBlockx3
import Derived.Test.YtpjdlobkeafacaaPAddBlockx4
import Derived.Test.YtpjdlobkeafacaaPAddBlockx5
import Derived.Test.YtpjdlobkeafacaaPAddBlockx6
namespace Go.Proofs.Ytpjdlobkeafacaa.PAddBlock
open Go.RowKit Go.Proofs.YtpjdlobkeafacaaW.PrintWords Go.Proofs.YtpjdlobkeafacaaW.PrintLast Go.Proofs.YtpjdlobkeafacaaW.PrintMore
attribute [local go_sem] max2_int min2_int max_two min_two max_three min_three max_four min_four   -- for this text's walks alone
set_option linter.unusedVariables false
set_option linter.unusedSimpArgs false

end Go.Proofs.Ytpjdlobkeafacaa.PAddBlock
