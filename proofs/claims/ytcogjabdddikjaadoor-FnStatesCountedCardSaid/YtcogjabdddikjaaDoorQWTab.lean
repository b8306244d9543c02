-- pruned by wip/tools/dead.py of what this claim does not name, out of a printed text
import Derived.Test.YtcogjabdddikjaaDoorQWLast
import Derived.Test.YtcogjabdddikjaaDoorQWWords
/-! ### 50. A region's order in a table, made once a region: each step asks the table (numbers alone), not the operations -/
namespace Go.Proofs.YtcogjabdddikjaaDoorW.PrintLast
open Go.Proofs.YtcogjabdddikjaaDoorW.PrintWords (Aside0)
section
variable {md : Region.Mode} {ops : Array Oper} {T : Bool × List (List Nat × List Nat)} {l l' li lj lk : Array Bool} {ds : List Nat} {i j k : Nat}
end
end Go.Proofs.YtcogjabdddikjaaDoorW.PrintLast
