/- What an argument that can be read as data holds, said in the print's words for kinds: one lemma a kind. No condition. -/
import Derived.Test.YtifdgebdkhdmhaaDoorQWWords
import Derived.Deep.Slices
import Derived.ChangeArms
import Derived.ChangeSame
namespace Go.Proofs.YtifdgebdkhdmhaaDoor
open Go.RowKit Go.ChangeShapes Go.WideShapes Go.Proofs.YtifdgebdkhdmhaaDoorW.PrintWords
set_option linter.unusedVariables false
set_option linter.unusedSimpArgs false

end Go.Proofs.YtifdgebdkhdmhaaDoor
