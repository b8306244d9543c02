-- PRINTED by drive.py (a program of this session's, over the kit's print.py; wip/tools/drive.py). Lean checks it.
import Derived.Test.YtoipjbblnfnhoaaDoorPCountSolutionsx0
import Derived.Test.YtoipjbblnfnhoaaDoorPCountSolutionsx1
import Derived.Test.YtoipjbblnfnhoaaDoorPCountSolutionsx2
import Derived.Test.YtoipjbblnfnhoaaDoorPCountSolutionsx3
import Derived.Test.YtoipjbblnfnhoaaDoorPCountSolutionsx4
import Derived.Test.YtoipjbblnfnhoaaDoorPCountSolutionsx5
import Derived.Test.YtoipjbblnfnhoaaDoorPCountSolutionsx6
import Derived.Test.YtoipjbblnfnhoaaDoorPCountSolutionsx7
namespace Go.Proofs.YtoipjbblnfnhoaaDoor.PCountSolutions
open Go.RowKit Go.Proofs.YtoipjbblnfnhoaaDoorW.PrintWords Go.Proofs.YtoipjbblnfnhoaaDoorW.PrintLast Go.Proofs.YtoipjbblnfnhoaaDoorW.PrintMore
attribute [local go_sem] max2_int min2_int max_two min_two max_three min_three max_four min_four   -- for this text's walks alone
set_option linter.unusedVariables false
set_option linter.unusedSimpArgs false

end Go.Proofs.YtoipjbblnfnhoaaDoor.PCountSolutions
