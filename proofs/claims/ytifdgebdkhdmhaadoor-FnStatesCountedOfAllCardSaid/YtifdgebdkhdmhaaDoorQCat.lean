/- What the hand-made contracts of slices.Min and slices.Concat use of the library. No condition beyond each law's own. -/
import Derived.Test.YtifdgebdkhdmhaaDoorQState
import Derived.Lib.MinMaxS
import Derived.Shelf.Spec.SlicesGrow
import Derived.StillTailTactics
namespace Go.Proofs.YtifdgebdkhdmhaaDoor
open Go.RowKit Go.Proofs.YtifdgebdkhdmhaaDoorW.PrintWords Go.Proofs.YtifdgebdkhdmhaaDoorW.PrintLast Go.Proofs.YtifdgebdkhdmhaaDoorW.PrintMore
set_option linter.unusedVariables false
set_option linter.unusedSimpArgs false
end Go.Proofs.YtifdgebdkhdmhaaDoor
