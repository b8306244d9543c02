/- The builtin clear over one element behind a row of the call's own: the row stays. -/
import Derived.Test.YtifdgebdkhdmhaaDoorZLib
import Derived.Lib.SliceRun
namespace Go.Proofs.YtifdgebdkhdmhaaDoor
open Go.RowKit Go.Proofs.YtifdgebdkhdmhaaDoorW.PrintWords Go.Proofs.YtifdgebdkhdmhaaDoorW.PrintLast Go.Proofs.YtifdgebdkhdmhaaDoorW.PrintMore
set_option linter.unusedVariables false
set_option linter.unusedSimpArgs false
end Go.Proofs.YtifdgebdkhdmhaaDoor
