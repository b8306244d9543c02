/- The builtin clear over one element behind a row of the call's own: the row stays. -/
import Derived.Test.YtcogjabdddikjaaDoorQLib
import Derived.Lib.SliceRun
namespace Go.Proofs.YtcogjabdddikjaaDoor
open Go.RowKit Go.Proofs.YtcogjabdddikjaaDoorW.PrintWords Go.Proofs.YtcogjabdddikjaaDoorW.PrintLast Go.Proofs.YtcogjabdddikjaaDoorW.PrintMore
set_option linter.unusedVariables false
set_option linter.unusedSimpArgs false
end Go.Proofs.YtcogjabdddikjaaDoor
