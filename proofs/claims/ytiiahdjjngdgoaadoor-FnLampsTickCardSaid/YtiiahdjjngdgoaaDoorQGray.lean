/- States of rings and their reflected numbers, as plain lists of bytes (ring 0 first). No condition beyond each law's own. -/
import Derived.Test.YtiiahdjjngdgoaaDoorQState
namespace Go.Proofs.YtiiahdjjngdgoaaDoor
set_option linter.unusedVariables false
set_option linter.unusedSimpArgs false
end Go.Proofs.YtiiahdjjngdgoaaDoor
