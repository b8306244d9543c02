-- PRINTED by drive.py (a program of this session's, over the kit's print.py; wip/tools/drive.py). Lean checks it.
import Derived.Test.YtafkcmohbgcknaaDoorPCycx0
import Derived.Test.YtafkcmohbgcknaaDoorPCycx1
import Derived.Test.YtafkcmohbgcknaaDoorPCycx2
import Derived.Test.YtafkcmohbgcknaaDoorPCycx3
import Derived.Test.YtafkcmohbgcknaaDoorPCycx4
import Derived.Test.YtafkcmohbgcknaaDoorPCycx5
import Derived.Test.YtafkcmohbgcknaaDoorPCycx6
import Derived.Test.YtafkcmohbgcknaaDoorPCycx7
import Derived.Test.YtafkcmohbgcknaaDoorPCycx8
namespace Go.Proofs.YtafkcmohbgcknaaDoor.PCyc
open Go.RowKit Go.Proofs.YtafkcmohbgcknaaDoorW.PrintWords Go.Proofs.YtafkcmohbgcknaaDoorW.PrintLast Go.Proofs.YtafkcmohbgcknaaDoorW.PrintMore
attribute [local go_sem] max2_int min2_int max_two min_two max_three min_three max_four min_four   -- for this text's walks alone
set_option linter.unusedVariables false
set_option linter.unusedSimpArgs false

end Go.Proofs.YtafkcmohbgcknaaDoor.PCyc
