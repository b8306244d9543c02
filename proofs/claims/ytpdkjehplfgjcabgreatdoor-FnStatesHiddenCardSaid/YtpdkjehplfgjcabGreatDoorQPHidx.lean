-- PRINTED by drive.py (a program of this session's, over the kit's print.py; wip/tools/drive.py). Lean checks it.
import Derived.Test.YtpdkjehplfgjcabGreatDoorQPHidx0
import Derived.Test.YtpdkjehplfgjcabGreatDoorQPHidx1
import Derived.Test.YtpdkjehplfgjcabGreatDoorQPHidx2
import Derived.Test.YtpdkjehplfgjcabGreatDoorQPHidx3
import Derived.Test.YtpdkjehplfgjcabGreatDoorQPHidx4
import Derived.Test.YtpdkjehplfgjcabGreatDoorQPHidx5
import Derived.Test.YtpdkjehplfgjcabGreatDoorQPHidx6
import Derived.Test.YtpdkjehplfgjcabGreatDoorQPHidx7
import Derived.Test.YtpdkjehplfgjcabGreatDoorQPHidx8
import Derived.Test.YtpdkjehplfgjcabGreatDoorQPHidx9
import Derived.Test.YtpdkjehplfgjcabGreatDoorQPHidx10
import Derived.Test.YtpdkjehplfgjcabGreatDoorQPHidx11
import Derived.Test.YtpdkjehplfgjcabGreatDoorQPHidx12
import Derived.Test.YtpdkjehplfgjcabGreatDoorQPHidx13
import Derived.Test.YtpdkjehplfgjcabGreatDoorQPHidx14
import Derived.Test.YtpdkjehplfgjcabGreatDoorQPHidx15
import Derived.Test.YtpdkjehplfgjcabGreatDoorQPHidx16
import Derived.Test.YtpdkjehplfgjcabGreatDoorQPHidx17
import Derived.Test.YtpdkjehplfgjcabGreatDoorQPHidx18
import Derived.Test.YtpdkjehplfgjcabGreatDoorQPHidx19
namespace Go.Proofs.YtpdkjehplfgjcabGreatDoor.PHid
open Go.RowKit Go.Proofs.YtpdkjehplfgjcabGreatDoorW.PrintWords Go.Proofs.YtpdkjehplfgjcabGreatDoorW.PrintLast Go.Proofs.YtpdkjehplfgjcabGreatDoorW.PrintMore
attribute [local go_sem] max2_int min2_int max_two min_two max_three min_three max_four min_four   -- for this text's walks alone
set_option linter.unusedVariables false
set_option linter.unusedSimpArgs false

end Go.Proofs.YtpdkjehplfgjcabGreatDoor.PHid
