/- The builtin clear over one element behind a row of the call's own: the row stays. -/
import Derived.Test.YtiiahdjjngdgoaaDoorQLib
import Derived.Lib.SliceRun
namespace Go.Proofs.YtiiahdjjngdgoaaDoor
open Go.RowKit Go.Proofs.YtiiahdjjngdgoaaDoorW.PrintWords Go.Proofs.YtiiahdjjngdgoaaDoorW.PrintLast Go.Proofs.YtiiahdjjngdgoaaDoorW.PrintMore
set_option linter.unusedVariables false
set_option linter.unusedSimpArgs false
end Go.Proofs.YtiiahdjjngdgoaaDoor
