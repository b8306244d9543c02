/- The table that strconv.Itoa reads: it stays where new memory is made; and the row's condition says that it lies there. No condition beyond each law's own. -/
import Derived.Test.YtifdgebdkhdmhaaDoorZState
import Derived.Lib.LaidTab
import Derived.Lib.AppendIntMem
import Derived.Shelf.Strconv.Itoa3
namespace Go.Proofs.YtifdgebdkhdmhaaDoor
open Go.RowKit Go.Proofs.YtifdgebdkhdmhaaDoorW.PrintWords Go.Proofs.YtifdgebdkhdmhaaDoorW.PrintLast Go.Proofs.YtifdgebdkhdmhaaDoorW.PrintMore
set_option linter.unusedVariables false
set_option linter.unusedSimpArgs false
end Go.Proofs.YtifdgebdkhdmhaaDoor
