-- PRINTED by drive.py (a program of this session's, over the kit's print.py; wip/tools/drive.py). Lean checks it.
import Derived.Test.YtepaleeepbjkbaaDoorPStatesBeforex0
import Derived.Test.YtepaleeepbjkbaaDoorPStatesBeforex1
import Derived.Test.YtepaleeepbjkbaaDoorPStatesBeforex2
import Derived.Test.YtepaleeepbjkbaaDoorPStatesBeforex3
import Derived.Test.YtepaleeepbjkbaaDoorPStatesBeforex4
import Derived.Test.YtepaleeepbjkbaaDoorPStatesBeforex5
import Derived.Test.YtepaleeepbjkbaaDoorPStatesBeforex6
namespace Go.Proofs.YtepaleeepbjkbaaDoor.PStatesBefore
open Go.RowKit Go.Proofs.YtepaleeepbjkbaaDoorW.PrintWords Go.Proofs.YtepaleeepbjkbaaDoorW.PrintLast Go.Proofs.YtepaleeepbjkbaaDoorW.PrintMore
attribute [local go_sem] max2_int min2_int max_two min_two max_three min_three max_four min_four   -- for this text's walks alone
set_option linter.unusedVariables false
set_option linter.unusedSimpArgs false

end Go.Proofs.YtepaleeepbjkbaaDoor.PStatesBefore
