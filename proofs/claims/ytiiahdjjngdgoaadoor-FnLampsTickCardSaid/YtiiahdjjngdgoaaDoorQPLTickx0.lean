-- squeezed (sq3.py); PRINTED by drive.py (a program of this session's, over the kit's print.py; wip/tools/drive.py). Lean checks it.
import Derived.Test.YtiiahdjjngdgoaaDoorProg
import Derived.Below
import Derived.Deep.Draws
import Derived.Deep.AppendLies
import Derived.Maps.AppendAt
import Derived.OwnWalk
import Derived.Laws.BytesArg
import Derived.Laws.MakeOwn
import Derived.Laws.OwnMore
import Derived.Deep.OwnRows
import Derived.Tactics
import Derived.Lib.ConvBytes
import Derived.Laws.Slices
import Derived.WalkKit
import Derived.KernelRfl
import Derived.RowKit3
import Derived.Deep.LoopGhost
import Derived.Deep.QuietTactic
import Derived.BigQuiet
import Derived.WideLaws
import Derived.Deep.DeepCutAuto
import Derived.Deep.CutBlock
import Derived.Deep.RegionHeld3
import Derived.Laws.Rows
import Derived.Lib.AppendStr
import Derived.ArgAppend
import Derived.Laws.IdiomCopy
import Derived.OrdersHeld
import Derived.Laws.BitsLemmas
import Derived.RowKit
import Derived.Test.YtiiahdjjngdgoaaDoorQLib
import Derived.Test.YtiiahdjjngdgoaaDoorQDel
import Derived.Deep.RegionLaw
import Derived.WalkSpells
import Derived.Lib.ConvBytes
import Derived.Test.YtiiahdjjngdgoaaDoorQShelf
import Derived.Test.YtiiahdjjngdgoaaDoorQState
import Derived.Test.YtiiahdjjngdgoaaDoorQCat
import Derived.Test.YtiiahdjjngdgoaaDoorQMap
import Derived.Test.YtiiahdjjngdgoaaDoorQWWords
import Derived.Test.YtiiahdjjngdgoaaDoorQWLast
import Derived.Test.YtiiahdjjngdgoaaDoorQWTab
import Derived.Test.YtiiahdjjngdgoaaDoorQWFour
import Derived.Test.YtiiahdjjngdgoaaDoorQWQPut
import Derived.Test.YtiiahdjjngdgoaaDoorQWApart
import Derived.Test.YtiiahdjjngdgoaaDoorQWArr
import Derived.Test.YtiiahdjjngdgoaaDoorQWZeros
import Derived.Test.YtiiahdjjngdgoaaDoorQWFoot
import Derived.Test.YtiiahdjjngdgoaaDoorQWKept
import Derived.Test.YtiiahdjjngdgoaaDoorQWShare
import Derived.Test.YtiiahdjjngdgoaaDoorQWN
import Derived.Test.YtiiahdjjngdgoaaDoorQWFootNe
import Derived.Test.YtiiahdjjngdgoaaDoorQWAt
import Derived.Test.YtiiahdjjngdgoaaDoorQWEqStruct
import Derived.Test.YtiiahdjjngdgoaaDoorQWRepsOne
import Derived.Test.YtiiahdjjngdgoaaDoorQWInv
import Derived.Test.YtiiahdjjngdgoaaDoorQWInvWords
import Derived.Test.YtiiahdjjngdgoaaDoorQWGuard
import Derived.Test.YtiiahdjjngdgoaaDoorQWNEv
import Derived.Test.YtiiahdjjngdgoaaDoorQWMore
import Derived.Test.YtiiahdjjngdgoaaDoorQSq
namespace Go.Proofs.YtiiahdjjngdgoaaDoor.PLTick
open Go.RowKit Go.Proofs.YtiiahdjjngdgoaaDoorW.PrintWords Go.Proofs.YtiiahdjjngdgoaaDoorW.PrintLast Go.Proofs.YtiiahdjjngdgoaaDoorW.PrintMore
attribute [local go_sem] max2_int min2_int max_two min_two max_three min_three max_four min_four   -- for this text's walks alone
set_option linter.unusedVariables false
set_option linter.unusedSimpArgs false



def errW : Option Int → Value
  | none => .nilIface
  | some c => .iface 0 (.int .i64 c)
theorem errW_none : errW none = .nilIface := rfl
theorem errW_some (c : Int) : errW (some c) = .iface 0 (.int .i64 c) := rfl

theorem info3 : (Tryd.prog.info? 3).map (fun i => (i.zero, i.size, i.bytes)) = some (some (.int .i64 0), 1, 8) := by kernel_rfl
theorem info9 : (Tryd.prog.info? 9).map (fun i => (i.zero, i.size, i.bytes)) = some (some (.string ⟨#[]⟩), 1, 16) := by kernel_rfl
-- the values' own types
/-! #### struct type 26 -/
structure S26 where
  f0 : (List ByteArray)
end Go.Proofs.YtiiahdjjngdgoaaDoor.PLTick
