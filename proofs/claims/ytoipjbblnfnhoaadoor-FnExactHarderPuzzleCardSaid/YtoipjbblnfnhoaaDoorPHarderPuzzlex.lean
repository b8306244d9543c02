-- PRINTED by drive.py (a program of this session's, over the kit's print.py; wip/tools/drive.py). Lean checks it.
import Derived.Test.YtoipjbblnfnhoaaDoorPHarderPuzzlex0
import Derived.Test.YtoipjbblnfnhoaaDoorPHarderPuzzlex1
import Derived.Test.YtoipjbblnfnhoaaDoorPHarderPuzzlex2
import Derived.Test.YtoipjbblnfnhoaaDoorPHarderPuzzlex3
import Derived.Test.YtoipjbblnfnhoaaDoorPHarderPuzzlex4
import Derived.Test.YtoipjbblnfnhoaaDoorPHarderPuzzlex5
import Derived.Test.YtoipjbblnfnhoaaDoorPHarderPuzzlex6
import Derived.Test.YtoipjbblnfnhoaaDoorPHarderPuzzlex7
import Derived.Test.YtoipjbblnfnhoaaDoorPHarderPuzzlex8
import Derived.Test.YtoipjbblnfnhoaaDoorPHarderPuzzlex9
import Derived.Test.YtoipjbblnfnhoaaDoorPHarderPuzzlex10
namespace Go.Proofs.YtoipjbblnfnhoaaDoor.PHarderPuzzle
open Go.RowKit Go.Proofs.YtoipjbblnfnhoaaDoorW.PrintWords Go.Proofs.YtoipjbblnfnhoaaDoorW.PrintLast Go.Proofs.YtoipjbblnfnhoaaDoorW.PrintMore
attribute [local go_sem] max2_int min2_int max_two min_two max_three min_three max_four min_four   -- for this text's walks alone
set_option linter.unusedVariables false
set_option linter.unusedSimpArgs false

end Go.Proofs.YtoipjbblnfnhoaaDoor.PHarderPuzzle
