-- PRINTED by drive.py (a program of this session's, over the kit's print.py; wip/tools/drive.py). Lean checks it.
import Derived.Test.YtoipjbblnfnhoaaDoorPLeftByCluesx0
import Derived.Test.YtoipjbblnfnhoaaDoorPLeftByCluesx1
import Derived.Test.YtoipjbblnfnhoaaDoorPLeftByCluesx2
import Derived.Test.YtoipjbblnfnhoaaDoorPLeftByCluesx3
import Derived.Test.YtoipjbblnfnhoaaDoorPLeftByCluesx4
import Derived.Test.YtoipjbblnfnhoaaDoorPLeftByCluesx5
import Derived.Test.YtoipjbblnfnhoaaDoorPLeftByCluesx6
import Derived.Test.YtoipjbblnfnhoaaDoorPLeftByCluesx7
import Derived.Test.YtoipjbblnfnhoaaDoorPLeftByCluesx8
namespace Go.Proofs.YtoipjbblnfnhoaaDoor.PLeftByClues
open Go.RowKit Go.Proofs.YtoipjbblnfnhoaaDoorW.PrintWords Go.Proofs.YtoipjbblnfnhoaaDoorW.PrintLast Go.Proofs.YtoipjbblnfnhoaaDoorW.PrintMore
attribute [local go_sem] max2_int min2_int max_two min_two max_three min_three max_four min_four   -- for this text's walks alone
set_option linter.unusedVariables false
set_option linter.unusedSimpArgs false

end Go.Proofs.YtoipjbblnfnhoaaDoor.PLeftByClues
