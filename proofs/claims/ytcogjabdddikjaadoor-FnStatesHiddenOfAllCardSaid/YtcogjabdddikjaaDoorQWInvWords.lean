-- pruned by wip/tools/dead.py of what this claim does not name, out of a printed text
import Derived.Test.YtcogjabdddikjaaDoorQWInv
import Derived.Test.YtcogjabdddikjaaDoorQWFootNe
namespace Go.Proofs.YtcogjabdddikjaaDoorW.PrintWords
open Go.RowKit
end Go.Proofs.YtcogjabdddikjaaDoorW.PrintWords
namespace Go.Proofs.YtcogjabdddikjaaDoorW.PrintLast
section
variable {ops : Array Oper} {a : Act} {o og : Oper} {g : Nat} {t : Tmp} {u : Bool}
end
end Go.Proofs.YtcogjabdddikjaaDoorW.PrintLast
