-- PRINTED by drive.py (a program of this session's, over the kit's print.py; wip/tools/drive.py). Lean checks it.
import Derived.Test.YtoipjbblnfnhoaaDoorProg
import Derived.Below
import Derived.Deep.Draws
import Derived.Deep.AppendLies
import Derived.Maps.AppendAt
import Derived.OwnWalk
import Derived.Laws.BytesArg
import Derived.Laws.MakeOwn
import Derived.Laws.OwnMore
import Derived.Deep.OwnRows
import Derived.Tactics
import Derived.Lib.ConvBytes
import Derived.Laws.Slices
import Derived.WalkKit
import Derived.KernelRfl
import Derived.RowKit3
import Derived.Deep.LoopGhost
import Derived.Deep.QuietTactic
import Derived.BigQuiet
import Derived.WideLaws
import Derived.Deep.DeepCutAuto
import Derived.Deep.CutBlock
import Derived.Deep.RegionHeld3
import Derived.Laws.Rows
import Derived.Lib.AppendStr
import Derived.ArgAppend
import Derived.Laws.IdiomCopy
import Derived.OrdersHeld
import Derived.Laws.BitsLemmas
import Derived.RowKit
import Derived.Test.YtoipjbblnfnhoaaDoorLib
import Derived.Test.YtoipjbblnfnhoaaDoorDel
import Derived.Deep.RegionLaw
import Derived.WalkSpells
import Derived.Test.YtoipjbblnfnhoaaDoorShelf
import Derived.Test.YtoipjbblnfnhoaaDoorWWords
import Derived.Test.YtoipjbblnfnhoaaDoorWLast
import Derived.Test.YtoipjbblnfnhoaaDoorWTab
import Derived.Test.YtoipjbblnfnhoaaDoorWFour
import Derived.Test.YtoipjbblnfnhoaaDoorWQPut
import Derived.Test.YtoipjbblnfnhoaaDoorWApart
import Derived.Test.YtoipjbblnfnhoaaDoorWArr
import Derived.Test.YtoipjbblnfnhoaaDoorWZeros
import Derived.Test.YtoipjbblnfnhoaaDoorWFoot
import Derived.Test.YtoipjbblnfnhoaaDoorWKept
import Derived.Test.YtoipjbblnfnhoaaDoorWShare
import Derived.Test.YtoipjbblnfnhoaaDoorWN
import Derived.Test.YtoipjbblnfnhoaaDoorWFootNe
import Derived.Test.YtoipjbblnfnhoaaDoorWAt
import Derived.Test.YtoipjbblnfnhoaaDoorWEqStruct
import Derived.Test.YtoipjbblnfnhoaaDoorWRepsOne
import Derived.Test.YtoipjbblnfnhoaaDoorWInv
import Derived.Test.YtoipjbblnfnhoaaDoorWInvWords
import Derived.Test.YtoipjbblnfnhoaaDoorWGuard
import Derived.Test.YtoipjbblnfnhoaaDoorWNEv
import Derived.Test.YtoipjbblnfnhoaaDoorWMore
namespace Go.Proofs.YtoipjbblnfnhoaaDoor.PDoesFit
open Go.RowKit Go.Proofs.YtoipjbblnfnhoaaDoorW.PrintWords Go.Proofs.YtoipjbblnfnhoaaDoorW.PrintLast Go.Proofs.YtoipjbblnfnhoaaDoorW.PrintMore
attribute [local go_sem] max2_int min2_int max_two min_two max_three min_three max_four min_four   -- for this text's walks alone
set_option linter.unusedVariables false
set_option linter.unusedSimpArgs false



def errW : Option Int → Value
  | none => .nilIface
  | some c => .iface 0 (.int .i64 c)
theorem errW_none : errW none = .nilIface := rfl
theorem errW_some (c : Int) : errW (some c) = .iface 0 (.int .i64 c) := rfl

-- the values' own types

end Go.Proofs.YtoipjbblnfnhoaaDoor.PDoesFit
