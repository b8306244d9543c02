-- squeezed (sq3.py); PRINTED by drive.py (a program of this session's, over the kit's print.py; wip/tools/drive.py). Lean checks it.
import Derived.Test.YtcogjabdddikjaaDoorProg
import Derived.Below
import Derived.Deep.Draws
import Derived.Deep.AppendLies
import Derived.Maps.AppendAt
import Derived.OwnWalk
import Derived.Laws.BytesArg
import Derived.Laws.MakeOwn
import Derived.Laws.OwnMore
import Derived.Deep.OwnRows
import Derived.Tactics
import Derived.Lib.ConvBytes
import Derived.Laws.Slices
import Derived.WalkKit
import Derived.KernelRfl
import Derived.RowKit3
import Derived.Deep.LoopGhost
import Derived.Deep.QuietTactic
import Derived.BigQuiet
import Derived.WideLaws
import Derived.Deep.DeepCutAuto
import Derived.Deep.CutBlock
import Derived.Deep.RegionHeld3
import Derived.Laws.Rows
import Derived.Lib.AppendStr
import Derived.ArgAppend
import Derived.Laws.IdiomCopy
import Derived.OrdersHeld
import Derived.Laws.BitsLemmas
import Derived.RowKit
import Derived.Test.YtcogjabdddikjaaDoorQLib
import Derived.Test.YtcogjabdddikjaaDoorQDel
import Derived.Deep.RegionLaw
import Derived.WalkSpells
import Derived.Lib.ConvBytes
import Derived.Test.YtcogjabdddikjaaDoorQShelf
import Derived.Test.YtcogjabdddikjaaDoorQState
import Derived.Test.YtcogjabdddikjaaDoorQWWords
import Derived.Test.YtcogjabdddikjaaDoorQWLast
import Derived.Test.YtcogjabdddikjaaDoorQWTab
import Derived.Test.YtcogjabdddikjaaDoorQWFour
import Derived.Test.YtcogjabdddikjaaDoorQWQPut
import Derived.Test.YtcogjabdddikjaaDoorQWApart
import Derived.Test.YtcogjabdddikjaaDoorQWArr
import Derived.Test.YtcogjabdddikjaaDoorQWZeros
import Derived.Test.YtcogjabdddikjaaDoorQWFoot
import Derived.Test.YtcogjabdddikjaaDoorQWKept
import Derived.Test.YtcogjabdddikjaaDoorQWShare
import Derived.Test.YtcogjabdddikjaaDoorQWN
import Derived.Test.YtcogjabdddikjaaDoorQWFootNe
import Derived.Test.YtcogjabdddikjaaDoorQWAt
import Derived.Test.YtcogjabdddikjaaDoorQWEqStruct
import Derived.Test.YtcogjabdddikjaaDoorQWRepsOne
import Derived.Test.YtcogjabdddikjaaDoorQWInv
import Derived.Test.YtcogjabdddikjaaDoorQWInvWords
import Derived.Test.YtcogjabdddikjaaDoorQWGuard
import Derived.Test.YtcogjabdddikjaaDoorQWNEv
import Derived.Test.YtcogjabdddikjaaDoorQWMore
import Derived.Test.YtcogjabdddikjaaDoorQSq
namespace Go.Proofs.YtcogjabdddikjaaDoor.PWMn
open Go.RowKit Go.Proofs.YtcogjabdddikjaaDoorW.PrintWords Go.Proofs.YtcogjabdddikjaaDoorW.PrintLast Go.Proofs.YtcogjabdddikjaaDoorW.PrintMore
attribute [local go_sem] max2_int min2_int max_two min_two max_three min_three max_four min_four   -- for this text's walks alone
set_option linter.unusedVariables false
set_option linter.unusedSimpArgs false



def errW : Option Int → Value
  | none => .nilIface
  | some c => .iface 0 (.int .i64 c)
theorem errW_none : errW none = .nilIface := rfl
theorem errW_some (c : Int) : errW (some c) = .iface 0 (.int .i64 c) := rfl

theorem info3 : (Tryd.prog.info? 3).map (fun i => (i.zero, i.size, i.bytes)) = some (some (.int .i64 0), 1, 8) := by kernel_rfl
theorem info5 : (Tryd.prog.info? 5).map (fun i => (i.zero, i.size, i.bytes)) = some (some (.int .u8 0), 1, 1) := by kernel_rfl
theorem info9 : (Tryd.prog.info? 9).map (fun i => (i.zero, i.size, i.bytes)) = some (some (.string ⟨#[]⟩), 1, 16) := by kernel_rfl
-- the values' own types
end Go.Proofs.YtcogjabdddikjaaDoor.PWMn
