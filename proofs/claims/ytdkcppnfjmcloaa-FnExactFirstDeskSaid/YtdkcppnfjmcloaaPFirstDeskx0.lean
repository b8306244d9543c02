-- PRINTED by drive.py (a program of this session's, over the kit's print.py; wip/tools/drive.py). Lean checks it.
import Derived.Test.YtdkcppnfjmcloaaProg
import Derived.Below
import Derived.Deep.Draws
import Derived.Deep.AppendLies
import Derived.Maps.AppendAt
import Derived.OwnWalk
import Derived.Laws.BytesArg
import Derived.Laws.MakeOwn
import Derived.Laws.OwnMore
import Derived.Deep.OwnRows
import Derived.Tactics
import Derived.Lib.ConvBytes
import Derived.Laws.Slices
import Derived.WalkKit
import Derived.KernelRfl
import Derived.RowKit3
import Derived.Deep.LoopGhost
import Derived.Deep.QuietTactic
import Derived.BigQuiet
import Derived.WideLaws
import Derived.Deep.DeepCutAuto
import Derived.Deep.CutBlock
import Derived.Deep.RegionHeld3
import Derived.Laws.Rows
import Derived.Lib.AppendStr
import Derived.ArgAppend
import Derived.Laws.IdiomCopy
import Derived.OrdersHeld
import Derived.Laws.BitsLemmas
import Derived.RowKit
import Derived.Test.YtdkcppnfjmcloaaLib
import Derived.Test.YtdkcppnfjmcloaaDel
import Derived.Deep.RegionLaw
import Derived.WalkSpells
import Derived.Test.YtdkcppnfjmcloaaShelf
import Derived.Test.YtdkcppnfjmcloaaWWords
import Derived.Test.YtdkcppnfjmcloaaWLast
import Derived.Test.YtdkcppnfjmcloaaWTab
import Derived.Test.YtdkcppnfjmcloaaWFour
import Derived.Test.YtdkcppnfjmcloaaWQPut
import Derived.Test.YtdkcppnfjmcloaaWApart
import Derived.Test.YtdkcppnfjmcloaaWArr
import Derived.Test.YtdkcppnfjmcloaaWZeros
import Derived.Test.YtdkcppnfjmcloaaWFoot
import Derived.Test.YtdkcppnfjmcloaaWKept
import Derived.Test.YtdkcppnfjmcloaaWShare
import Derived.Test.YtdkcppnfjmcloaaWN
import Derived.Test.YtdkcppnfjmcloaaWFootNe
import Derived.Test.YtdkcppnfjmcloaaWAt
import Derived.Test.YtdkcppnfjmcloaaWEqStruct
import Derived.Test.YtdkcppnfjmcloaaWRepsOne
import Derived.Test.YtdkcppnfjmcloaaWInv
import Derived.Test.YtdkcppnfjmcloaaWInvWords
import Derived.Test.YtdkcppnfjmcloaaWGuard
import Derived.Test.YtdkcppnfjmcloaaWNEv
import Derived.Test.YtdkcppnfjmcloaaWMore
namespace Go.Proofs.Ytdkcppnfjmcloaa.PFirstDesk
open Go.RowKit Go.Proofs.YtdkcppnfjmcloaaW.PrintWords Go.Proofs.YtdkcppnfjmcloaaW.PrintLast Go.Proofs.YtdkcppnfjmcloaaW.PrintMore
attribute [local go_sem] max2_int min2_int max_two min_two max_three min_three max_four min_four   -- for this text's walks alone
set_option linter.unusedVariables false
set_option linter.unusedSimpArgs false



def errW : Option Int → Value
  | none => .nilIface
  | some c => .iface 0 (.int .i64 c)
theorem errW_none : errW none = .nilIface := rfl
theorem errW_some (c : Int) : errW (some c) = .iface 0 (.int .i64 c) := rfl

theorem info5 : (Try.prog.info? 5).map (fun i => (i.zero, i.size, i.bytes)) = some (some (.int .u8 0), 1, 1) := by kernel_rfl
theorem info9 : (Try.prog.info? 9).map (fun i => (i.zero, i.size, i.bytes)) = some (some (.string ⟨#[]⟩), 1, 16) := by kernel_rfl
-- the values' own types

end Go.Proofs.Ytdkcppnfjmcloaa.PFirstDesk
