/- What the hand-made contracts of slices.Min and slices.Concat use of the library. No condition beyond each law's own. -/
import Derived.Test.YtiiahdjjngdgoaaDoorQState
import Derived.Lib.MinMaxS
import Derived.Shelf.Spec.SlicesGrow
import Derived.StillTailTactics
namespace Go.Proofs.YtiiahdjjngdgoaaDoor
open Go.RowKit Go.Proofs.YtiiahdjjngdgoaaDoorW.PrintWords Go.Proofs.YtiiahdjjngdgoaaDoorW.PrintLast Go.Proofs.YtiiahdjjngdgoaaDoorW.PrintMore
set_option linter.unusedVariables false
set_option linter.unusedSimpArgs false
theorem minOfS_take (l : List ByteArray) (k : Nat) (h : k < l.length) (h0 : 0 < k) : Lib.minOfS (l.take (k + 1)) = Lib.minS (Lib.minOfS (l.take k)) l[k] := by
  unfold Lib.minOfS
  have e : (l.take (k + 1)).headD ByteArray.empty = (l.take k).headD ByteArray.empty := by
    obtain ⟨a, r, rfl⟩ : ∃ a r, l = a :: r := by cases l with | nil => simp at h | cons a r => exact ⟨a, r, rfl⟩
    obtain ⟨j, rfl⟩ : ∃ j, k = j + 1 := ⟨k - 1, by omega⟩
    rfl
  rw [e, List.take_succ_eq_append_getElem h, List.foldl_append]
  rfl
end Go.Proofs.YtiiahdjjngdgoaaDoor
