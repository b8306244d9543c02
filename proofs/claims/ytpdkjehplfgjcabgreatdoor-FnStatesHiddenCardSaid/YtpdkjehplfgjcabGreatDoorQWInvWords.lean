-- pruned by wip/tools/dead.py of what this claim does not name, out of a printed text
import Derived.Test.YtpdkjehplfgjcabGreatDoorQWInv
import Derived.Test.YtpdkjehplfgjcabGreatDoorQWFootNe
namespace Go.Proofs.YtpdkjehplfgjcabGreatDoorW.PrintWords
open Go.RowKit
end Go.Proofs.YtpdkjehplfgjcabGreatDoorW.PrintWords
namespace Go.Proofs.YtpdkjehplfgjcabGreatDoorW.PrintLast
section
variable {ops : Array Oper} {a : Act} {o og : Oper} {g : Nat} {t : Tmp} {u : Bool}
end
end Go.Proofs.YtpdkjehplfgjcabGreatDoorW.PrintLast
