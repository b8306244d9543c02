-- pruned by wip/tools/dead.py of what this claim does not name, out of a printed text
import Derived.Test.YtifdgebdkhdmhaaDoorZWInv
import Derived.Test.YtifdgebdkhdmhaaDoorZWFootNe
namespace Go.Proofs.YtifdgebdkhdmhaaDoorW.PrintWords
open Go.RowKit
end Go.Proofs.YtifdgebdkhdmhaaDoorW.PrintWords
namespace Go.Proofs.YtifdgebdkhdmhaaDoorW.PrintLast
section
variable {ops : Array Oper} {a : Act} {o og : Oper} {g : Nat} {t : Tmp} {u : Bool}
end
end Go.Proofs.YtifdgebdkhdmhaaDoorW.PrintLast
