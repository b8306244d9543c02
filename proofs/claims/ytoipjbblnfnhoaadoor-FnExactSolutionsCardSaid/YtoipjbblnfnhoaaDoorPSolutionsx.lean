-- PRINTED by drive.py (a program of this session's, over the kit's print.py; wip/tools/drive.py). Lean checks it.
import Derived.Test.YtoipjbblnfnhoaaDoorPSolutionsx0
import Derived.Test.YtoipjbblnfnhoaaDoorPSolutionsx1
import Derived.Test.YtoipjbblnfnhoaaDoorPSolutionsx2
import Derived.Test.YtoipjbblnfnhoaaDoorPSolutionsx3
import Derived.Test.YtoipjbblnfnhoaaDoorPSolutionsx4
import Derived.Test.YtoipjbblnfnhoaaDoorPSolutionsx5
import Derived.Test.YtoipjbblnfnhoaaDoorPSolutionsx6
import Derived.Test.YtoipjbblnfnhoaaDoorPSolutionsx7
import Derived.Test.YtoipjbblnfnhoaaDoorPSolutionsx8
namespace Go.Proofs.YtoipjbblnfnhoaaDoor.PSolutions
open Go.RowKit Go.Proofs.YtoipjbblnfnhoaaDoorW.PrintWords Go.Proofs.YtoipjbblnfnhoaaDoorW.PrintLast Go.Proofs.YtoipjbblnfnhoaaDoorW.PrintMore
attribute [local go_sem] max2_int min2_int max_two min_two max_three min_three max_four min_four   -- for this text's walks alone
set_option linter.unusedVariables false
set_option linter.unusedSimpArgs false

end Go.Proofs.YtoipjbblnfnhoaaDoor.PSolutions
