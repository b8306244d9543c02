-- PRINTED by drive.py (a program of this session's, over the kit's print.py; wip/tools/drive.py). Lean checks it.
import Derived.Test.YtoipjbblnfnhoaaDoorPDoesFitx0
import Derived.Test.YtoipjbblnfnhoaaDoorPDoesFitx1
import Derived.Test.YtoipjbblnfnhoaaDoorPDoesFitx2
import Derived.Test.YtoipjbblnfnhoaaDoorPDoesFitx3
import Derived.Test.YtoipjbblnfnhoaaDoorPDoesFitx4
import Derived.Test.YtoipjbblnfnhoaaDoorPDoesFitx5
namespace Go.Proofs.YtoipjbblnfnhoaaDoor.PDoesFit
open Go.RowKit Go.Proofs.YtoipjbblnfnhoaaDoorW.PrintWords Go.Proofs.YtoipjbblnfnhoaaDoorW.PrintLast Go.Proofs.YtoipjbblnfnhoaaDoorW.PrintMore
attribute [local go_sem] max2_int min2_int max_two min_two max_three min_three max_four min_four   -- for this text's walks alone
set_option linter.unusedVariables false
set_option linter.unusedSimpArgs false

end Go.Proofs.YtoipjbblnfnhoaaDoor.PDoesFit
