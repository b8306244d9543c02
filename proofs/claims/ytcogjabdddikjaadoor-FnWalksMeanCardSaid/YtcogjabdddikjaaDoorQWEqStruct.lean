-- pruned by wip/tools/dead.py of what this claim does not name, out of a printed text
import Derived.Test.YtcogjabdddikjaaDoorQWWords
import Derived.Laws.StructEq
/-! ### 53. '==' of structs as_ one Bool -/
namespace Go.Proofs.YtcogjabdddikjaaDoorW.PrintWords
open Go.RowKit
section
variable {P : Program} {d : Nat} {xs ys : Array Value} {f : Field} {fs : List Field} {a b : Value} {r s : Bool} {w : World}
end
end Go.Proofs.YtcogjabdddikjaaDoorW.PrintWords
