-- pruned by wip/tools/dead.py of what this claim does not name, out of a printed text
import Derived.Test.YtiiahdjjngdgoaaDoorQWInv
import Derived.Test.YtiiahdjjngdgoaaDoorQWFootNe
namespace Go.Proofs.YtiiahdjjngdgoaaDoorW.PrintWords
open Go.RowKit
end Go.Proofs.YtiiahdjjngdgoaaDoorW.PrintWords
namespace Go.Proofs.YtiiahdjjngdgoaaDoorW.PrintLast
section
variable {ops : Array Oper} {a : Act} {o og : Oper} {g : Nat} {t : Tmp} {u : Bool}
end
end Go.Proofs.YtiiahdjjngdgoaaDoorW.PrintLast
