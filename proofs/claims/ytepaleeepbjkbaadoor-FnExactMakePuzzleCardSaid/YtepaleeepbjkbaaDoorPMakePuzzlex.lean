-- PRINTED by drive.py (a program of this session's, over the kit's print.py; wip/tools/drive.py). Lean checks it.
import Derived.Test.YtepaleeepbjkbaaDoorPMakePuzzlex0
import Derived.Test.YtepaleeepbjkbaaDoorPMakePuzzlex1
import Derived.Test.YtepaleeepbjkbaaDoorPMakePuzzlex2
import Derived.Test.YtepaleeepbjkbaaDoorPMakePuzzlex3
import Derived.Test.YtepaleeepbjkbaaDoorPMakePuzzlex4
import Derived.Test.YtepaleeepbjkbaaDoorPMakePuzzlex5
import Derived.Test.YtepaleeepbjkbaaDoorPMakePuzzlex6
namespace Go.Proofs.YtepaleeepbjkbaaDoor.PMakePuzzle
open Go.RowKit Go.Proofs.YtepaleeepbjkbaaDoorW.PrintWords Go.Proofs.YtepaleeepbjkbaaDoorW.PrintLast Go.Proofs.YtepaleeepbjkbaaDoorW.PrintMore
attribute [local go_sem] max2_int min2_int max_two min_two max_three min_three max_four min_four   -- for this text's walks alone
set_option linter.unusedVariables false
set_option linter.unusedSimpArgs false

end Go.Proofs.YtepaleeepbjkbaaDoor.PMakePuzzle
