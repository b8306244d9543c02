-- PRINTED by drive.py (a program of this session's, over the kit's print.py; wip/tools/drive.py). Lean checks it.
import Derived.Test.YtifdgebdkhdmhaaDoorZSq
import Derived.Test.YtifdgebdkhdmhaaDoorProg
import Derived.Below
import Derived.Deep.Draws
import Derived.Deep.AppendLies
import Derived.Maps.AppendAt
import Derived.OwnWalk
import Derived.Laws.BytesArg
import Derived.Laws.MakeOwn
import Derived.Laws.OwnMore
import Derived.Deep.OwnRows
import Derived.Tactics
import Derived.Lib.ConvBytes
import Derived.Laws.Slices
import Derived.WalkKit
import Derived.KernelRfl
import Derived.RowKit3
import Derived.Deep.LoopGhost
import Derived.Deep.QuietTactic
import Derived.BigQuiet
import Derived.WideLaws
import Derived.Deep.DeepCutAuto
import Derived.Deep.CutBlock
import Derived.Deep.RegionHeld3
import Derived.Laws.Rows
import Derived.Lib.AppendStr
import Derived.ArgAppend
import Derived.Laws.IdiomCopy
import Derived.OrdersHeld
import Derived.Laws.BitsLemmas
import Derived.RowKit
import Derived.Test.YtifdgebdkhdmhaaDoorZLib
import Derived.Test.YtifdgebdkhdmhaaDoorZDel
import Derived.Deep.RegionLaw
import Derived.WalkSpells
import Derived.Lib.ConvBytes
import Derived.Test.YtifdgebdkhdmhaaDoorZShelf
import Derived.Test.YtifdgebdkhdmhaaDoorZState
import Derived.Test.YtifdgebdkhdmhaaDoorZTab
import Derived.Test.YtifdgebdkhdmhaaDoorZCat
import Derived.Test.YtifdgebdkhdmhaaDoorZMap
import Derived.Test.YtifdgebdkhdmhaaDoorZWWords
import Derived.Test.YtifdgebdkhdmhaaDoorZWLast
import Derived.Test.YtifdgebdkhdmhaaDoorZWTab
import Derived.Test.YtifdgebdkhdmhaaDoorZWFour
import Derived.Test.YtifdgebdkhdmhaaDoorZWQPut
import Derived.Test.YtifdgebdkhdmhaaDoorZWApart
import Derived.Test.YtifdgebdkhdmhaaDoorZWArr
import Derived.Test.YtifdgebdkhdmhaaDoorZWZeros
import Derived.Test.YtifdgebdkhdmhaaDoorZWFoot
import Derived.Test.YtifdgebdkhdmhaaDoorZWKept
import Derived.Test.YtifdgebdkhdmhaaDoorZWShare
import Derived.Test.YtifdgebdkhdmhaaDoorZWN
import Derived.Test.YtifdgebdkhdmhaaDoorZWFootNe
import Derived.Test.YtifdgebdkhdmhaaDoorZWAt
import Derived.Test.YtifdgebdkhdmhaaDoorZWEqStruct
import Derived.Test.YtifdgebdkhdmhaaDoorZWRepsOne
import Derived.Test.YtifdgebdkhdmhaaDoorZWInv
import Derived.Test.YtifdgebdkhdmhaaDoorZWInvWords
import Derived.Test.YtifdgebdkhdmhaaDoorZWGuard
import Derived.Test.YtifdgebdkhdmhaaDoorZWNEv
import Derived.Test.YtifdgebdkhdmhaaDoorZWMore
namespace Go.Proofs.YtifdgebdkhdmhaaDoor.PLTick
open Go.RowKit Go.Proofs.YtifdgebdkhdmhaaDoorW.PrintWords Go.Proofs.YtifdgebdkhdmhaaDoorW.PrintLast Go.Proofs.YtifdgebdkhdmhaaDoorW.PrintMore
attribute [local go_sem] max2_int min2_int max_two min_two max_three min_three max_four min_four   -- for this text's walks alone
set_option linter.unusedVariables false
set_option linter.unusedSimpArgs false



def errW : Option Int → Value
  | none => .nilIface
  | some c => .iface 0 (.int .i64 c)
theorem errW_none : errW none = .nilIface := rfl
theorem errW_some (c : Int) : errW (some c) = .iface 0 (.int .i64 c) := rfl

theorem info3 : (Tryd.prog.info? 3).map (fun i => (i.zero, i.size, i.bytes)) = some (some (.int .i64 0), 1, 8) := by kernel_rfl
theorem info9 : (Tryd.prog.info? 9).map (fun i => (i.zero, i.size, i.bytes)) = some (some (.string ⟨#[]⟩), 1, 16) := by kernel_rfl
-- the values' own types
/-! #### struct type 29 -/
structure S29 where
  f0 : (List ByteArray)
end Go.Proofs.YtifdgebdkhdmhaaDoor.PLTick
