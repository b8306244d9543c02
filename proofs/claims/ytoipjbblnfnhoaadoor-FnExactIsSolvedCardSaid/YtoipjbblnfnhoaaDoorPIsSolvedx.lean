-- PRINTED by drive.py (a program of this session's, over the kit's print.py; wip/tools/drive.py). Lean checks it.
import Derived.Test.YtoipjbblnfnhoaaDoorPIsSolvedx0
import Derived.Test.YtoipjbblnfnhoaaDoorPIsSolvedx1
import Derived.Test.YtoipjbblnfnhoaaDoorPIsSolvedx2
import Derived.Test.YtoipjbblnfnhoaaDoorPIsSolvedx3
import Derived.Test.YtoipjbblnfnhoaaDoorPIsSolvedx4
import Derived.Test.YtoipjbblnfnhoaaDoorPIsSolvedx5
import Derived.Test.YtoipjbblnfnhoaaDoorPIsSolvedx6
import Derived.Test.YtoipjbblnfnhoaaDoorPIsSolvedx7
namespace Go.Proofs.YtoipjbblnfnhoaaDoor.PIsSolved
open Go.RowKit Go.Proofs.YtoipjbblnfnhoaaDoorW.PrintWords Go.Proofs.YtoipjbblnfnhoaaDoorW.PrintLast Go.Proofs.YtoipjbblnfnhoaaDoorW.PrintMore
attribute [local go_sem] max2_int min2_int max_two min_two max_three min_three max_four min_four   -- for this text's walks alone
set_option linter.unusedVariables false
set_option linter.unusedSimpArgs false

end Go.Proofs.YtoipjbblnfnhoaaDoor.PIsSolved
