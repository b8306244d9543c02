-- squeezed (sq3.py); PRINTED by drive.py (a program of this session's, over the kit's print.py; wip/tools/drive.py). Lean checks it.
import Derived.Test.YtcogjabdddikjaaDoorQPWMnx0
import Derived.Test.YtcogjabdddikjaaDoorQPWMnx1
import Derived.Test.YtcogjabdddikjaaDoorQPWMnx2
import Derived.Test.YtcogjabdddikjaaDoorQPWMnx3
import Derived.Test.YtcogjabdddikjaaDoorQPWMnx4
import Derived.Test.YtcogjabdddikjaaDoorQPWMnx5
import Derived.Test.YtcogjabdddikjaaDoorQPWMnx6
import Derived.Test.YtcogjabdddikjaaDoorQPWMnx7
import Derived.Test.YtcogjabdddikjaaDoorQPWMnx8
import Derived.Test.YtcogjabdddikjaaDoorQPWMnx9
import Derived.Test.YtcogjabdddikjaaDoorQSq
namespace Go.Proofs.YtcogjabdddikjaaDoor.PWMn
open Go.RowKit Go.Proofs.YtcogjabdddikjaaDoorW.PrintWords Go.Proofs.YtcogjabdddikjaaDoorW.PrintLast Go.Proofs.YtcogjabdddikjaaDoorW.PrintMore
attribute [local go_sem] max2_int min2_int max_two min_two max_three min_three max_four min_four   -- for this text's walks alone
set_option linter.unusedVariables false
set_option linter.unusedSimpArgs false

/-! ### laws_FnWalksMean: function 4 -/
mutual
def laws_FnWalksMean.j0 : Nat → List Int → ByteArray → ByteArray → Int → Bool → Bool → Option (Bool)
 | 0, _, _, _, _, _, _ => none
 | k + 1, x1, x5, x6, x7, x8, x123 => if x123 = true then (none) else (if x8 = true then ((impl_FewestMoves.f k x5 x6).bind fun bt361 => (if bt361.2 = true then (if x7 < bt361.1 then (none) else (laws_FnWalksMean.j1 k x1 x5 x6 x7 ((x7 == 0) != (x5.toList == x6.toList)))) else (none))) else (laws_FnWalksMean.j3 k x1))
def laws_FnWalksMean.j3 : Nat → List Int → Option (Bool)
 | 0, _ => none
 | k + 1, x1 => (spec_DrawChanceBefore.f k x1).bind fun bt372 => ((impl_ChanceBefore.f k bt372.1 bt372.2.1 bt372.2.2).bind fun bt375 => ((spec_ChanceBefore.f k bt372.1 bt372.2.1 bt372.2.2).bind fun bt378 => ((spec_DrawWalksTo.f k x1).bind fun bt381 => ((impl_WalksTo.f k bt381.1 bt381.2.1 bt381.2.2).bind fun bt384 => ((spec_WalksTo.f k bt381.1 bt381.2.1 bt381.2.2).bind fun bt386 => ((impl_ChanceAfter.f k bt381.1 bt381.2.1 bt381.2.2).bind fun bt388 => ((spec_ChanceAfter.f k bt381.1 bt381.2.1 bt381.2.2).bind fun bt391 => ((impl_LikeliestAfter.f k bt381.1 bt381.2.2).bind fun bt394 => ((spec_LikeliestAfter.f k bt381.1 bt381.2.2).bind fun bt398 => (if (bt375.2.2 != bt378.2.2) = true then (none) else (if bt375.1 = bt378.1 then (if bt375.2.1 = bt378.2.1 then (if (bt384.2 != bt386.2) = true then (none) else (if bt384.1 = bt386.1 then (if (bt388.2.2 != bt391.2.2) = true then (none) else (if bt388.1 = bt391.1 then (if bt388.2.1 = bt391.2.1 then (if (bt388.2.2 != bt384.2) = true then (none) else (if (bt394.2 != bt398.2) = true then (none) else ((laws_yTexts.f k bt394.1 bt398.1).bind fun t402 => (if t402 = true then (if bt388.2.2 = true then (laws_FnWalksMean.j4 k bt372.1 bt372.2.1 bt372.2.2 bt375.1 bt375.2.1 bt375.2.2 bt381.1 bt381.2.1 bt381.2.2 bt384.1 bt388.1 bt388.2.1 bt388.2.2 bt394.1 (!bt394.2)) else (laws_FnWalksMean.j4 k bt372.1 bt372.2.1 bt372.2.2 bt375.1 bt375.2.1 bt375.2.2 bt381.1 bt381.2.1 bt381.2.2 bt384.1 bt388.1 bt388.2.1 bt388.2.2 bt394.1 false)) else (none))))) else (none)) else (none))) else (none))) else (none)) else (none))))))))))))
def laws_FnWalksMean.j4 : Nat → ByteArray → ByteArray → ByteArray → Int → Int → Bool → ByteArray → ByteArray → Int → Int → Int → Int → Bool → List ByteArray → Bool → Option (Bool)
 | 0, _, _, _, _, _, _, _, _, _, _, _, _, _, _, _ => none
 | k + 1, x26, x27, x28, x29, x30, x31, x35, x36, x37, x38, x42, x43, x44, x48, x323 => if x323 = true then (none) else (if x31 = true then ((impl_ChanceBefore.f k x26 x28 x27).bind fun bt403 => (if bt403.2.2 = true then (if (wrap64 ((wrap64 (x29 * bt403.2.1)) + (wrap64 (bt403.1 * x30)))) = (wrap64 (x30 * bt403.2.1)) then (if x26.toList = x27.toList then (if x29 = x30 then (if x26.toList = x28.toList then (if x29 = 0 then (laws_FnWalksMean.j5 k x35 x36 x37 x38 x42 x43 x44 x48) else (none)) else (laws_FnWalksMean.j5 k x35 x36 x37 x38 x42 x43 x44 x48)) else (none)) else (if x26.toList = x28.toList then (if x29 = 0 then (laws_FnWalksMean.j5 k x35 x36 x37 x38 x42 x43 x44 x48) else (none)) else (laws_FnWalksMean.j5 k x35 x36 x37 x38 x42 x43 x44 x48))) else (none)) else (none))) else (laws_FnWalksMean.j5 k x35 x36 x37 x38 x42 x43 x44 x48))
def laws_FnWalksMean.j5 : Nat → ByteArray → ByteArray → Int → Int → Int → Int → Bool → List ByteArray → Option (Bool)
 | 0, _, _, _, _, _, _, _, _ => none
 | k + 1, x35, x36, x37, x38, x42, x43, x44, x48 => if x44 = true then (if ((decide (x38 > 0)) != (decide (x42 > 0))) = true then (none) else (if x42 < 0 then (none) else (if x42 > x43 then (none) else (if x37 = 0 then (laws_FnWalksMean.j6 k x35 x36 x37 x38 x42 x43 x48 ((x42 == 1) != (x35.toList == x36.toList))) else (laws_FnWalksMean.j6 k x35 x36 x37 x38 x42 x43 x48 false))))) else (some true)
def laws_FnWalksMean.j6 : Nat → ByteArray → ByteArray → Int → Int → Int → Int → List ByteArray → Bool → Option (Bool)
 | 0, _, _, _, _, _, _, _, _ => none
 | k + 1, x35, x36, x37, x38, x42, x43, x48, x393 => if x393 = true then (none) else ((impl_WalksTo.f k x36 x35 x37).bind fun bt406 => (if bt406.2 = true then (laws_FnWalksMean.j7 k x35 x36 x37 x38 x42 x43 x48 (bt406.1 != x38)) else (none)))
def laws_FnWalksMean.j7 : Nat → ByteArray → ByteArray → Int → Int → Int → Int → List ByteArray → Bool → Option (Bool)
 | 0, _, _, _, _, _, _, _, _ => none
 | k + 1, x35, x36, x37, x38, x42, x43, x48, x407 => if x407 = true then (none) else (if (x48.length : Int) < 1 then (none) else (if 0 < (x48.length : Int) then ((impl_ChanceAfter.f k x35 (rdOf ByteArray.empty x48 0) x37).bind fun bt409 => (if bt409.2.2 = true then (if x37 ≤ 20 then (laws_FnWalksMean.j8 k x35 x36 x37 x38 (decide ((wrap64 (bt409.1 * x43)) < (wrap64 (x42 * bt409.2.1))))) else (laws_FnWalksMean.j8 k x35 x36 x37 x38 false)) else (none))) else (none)))
def laws_FnWalksMean.j8 : Nat → ByteArray → ByteArray → Int → Int → Bool → Option (Bool)
 | 0, _, _, _, _, _ => none
 | k + 1, x35, x36, x37, x38, x435 => if x435 = true then (none) else (if x37 > 0 then ((impl_MovesOf.f k x35).bind fun bt412 => (laws_FnWalksMean.l1 k x35 x36 x37 x38 bt412.2 0 bt412.1 (bt412.1.length : Int) 0)) else (some true))
def laws_FnWalksMean.l1 : Nat → ByteArray → ByteArray → Int → Int → Bool → Int → List Int → Int → Int → Option (Bool)
 | 0, _, _, _, _, _, _, _, _, _ => none
 | k + 1, x35, x36, x37, x38, x61, x62, x443, x444, x445 => if x445 < x444 then (if 0 ≤ x445 then (if x445 < (x443.length : Int) then ((impl_MoveRing.f x35 (rd x443 x445)).bind fun bt417 => ((impl_WalksTo.f k bt417.1 x36 (wrap64 (x37 - 1))).bind fun bt419 => (if bt417.2 = true then (if bt419.2 = true then (laws_FnWalksMean.l1 k x35 x36 x37 x38 x61 (wrap64 (x62 + bt419.1)) x443 x444 (wrap64 (x445 + 1))) else (none)) else (none)))) else (none)) else (none)) else (if x61 = true then (if x62 = x38 then (some true) else (none)) else (none))
def laws_FnWalksMean.j1 : Nat → List Int → ByteArray → ByteArray → Int → Bool → Option (Bool)
 | 0, _, _, _, _, _ => none
 | k + 1, x1, x5, x6, x7, x145 => if x145 = true then (none) else (if x5.toList = x6.toList then (laws_FnWalksMean.j3 k x1) else ((impl_MovesOf.f k x5).bind fun bt363 => (laws_FnWalksMean.l0 k x1 x5 x6 x7 bt363.1 bt363.2 0 bt363.1 (bt363.1.length : Int) 0)))
def laws_FnWalksMean.l0 : Nat → List Int → ByteArray → ByteArray → Int → List Int → Bool → Int → List Int → Int → Int → Option (Bool)
 | 0, _, _, _, _, _, _, _, _, _, _ => none
 | k + 1, x1, x5, x6, x7, x17, x18, x19, x154, x155, x156 => if x156 < x155 then (if 0 ≤ x156 then (if x156 < (x154.length : Int) then ((impl_MoveRing.f x5 (rd x154 x156)).bind fun bt368 => ((impl_MeanFrom.f k bt368.1 x6).bind fun bt370 => (if bt368.2 = true then (if bt370.2 = true then (laws_FnWalksMean.l0 k x1 x5 x6 x7 x17 x18 (wrap64 (x19 + bt370.1)) x154 x155 (wrap64 (x156 + 1))) else (none)) else (none)))) else (none)) else (none)) else (if x18 = true then (if (wrap64 ((wrap64 (x7 - 1)) * (x17.length : Int))) = x19 then (laws_FnWalksMean.j3 k x1) else (none)) else (none))
end
def laws_FnWalksMean.f (k : Nat) (l0 : List Int) (l1 : List Int) : Option (Bool) := (laws_big.f l0 l1).bind fun t350 => (if t350 = true then (some true) else ((spec_DrawMeanFrom.f k l0).bind fun bt351 => ((impl_MeanFrom.f k bt351.1 bt351.2).bind fun bt353 => ((spec_MeanFrom.f k bt351.1 bt351.2).bind fun bt355 => ((impl_MeanToClear.f k bt351.1).bind fun bt357 => ((spec_MeanToClear.f k bt351.1).bind fun bt359 => (if (bt353.2 != bt355.2) = true then (none) else (if bt353.1 = bt355.1 then (if (bt357.2 != bt359.2) = true then (none) else (if bt357.1 = bt359.1 then (if bt353.2 = true then (laws_FnWalksMean.j0 k l1 bt351.1 bt351.2 bt353.1 bt353.2 (!bt357.2)) else (laws_FnWalksMean.j0 k l1 bt351.1 bt351.2 bt353.1 bt353.2 false)) else (none))) else (none)))))))))
theorem laws_FnWalksMean.mono_l : ∀ k, Mo (laws_FnWalksMean.j0 k) (laws_FnWalksMean.j0 (k + 1)) ∧ Mo (laws_FnWalksMean.j3 k) (laws_FnWalksMean.j3 (k + 1)) ∧ Mo (laws_FnWalksMean.j4 k) (laws_FnWalksMean.j4 (k + 1)) ∧ Mo (laws_FnWalksMean.j5 k) (laws_FnWalksMean.j5 (k + 1)) ∧ Mo (laws_FnWalksMean.j6 k) (laws_FnWalksMean.j6 (k + 1)) ∧ Mo (laws_FnWalksMean.j7 k) (laws_FnWalksMean.j7 (k + 1)) ∧ Mo (laws_FnWalksMean.j8 k) (laws_FnWalksMean.j8 (k + 1)) ∧ Mo (laws_FnWalksMean.l1 k) (laws_FnWalksMean.l1 (k + 1)) ∧ Mo (laws_FnWalksMean.j1 k) (laws_FnWalksMean.j1 (k + 1)) ∧ Mo (laws_FnWalksMean.l0 k) (laws_FnWalksMean.l0 (k + 1))
 | 0 => m0
 | k + 1 => by
  have ⟨ih0, ih1, ih2, ih3, ih4, ih5, ih6, ih7, ih8, ih9⟩ := laws_FnWalksMean.mono_l k
  refine ⟨?_, ?_, ?_, ?_, ?_, ?_, ?_, ?_, ?_, ?_⟩ <;> (repeat refine mE fun _ => ?_) <;> first | (unfold laws_FnWalksMean.j0; exact mG) | (unfold laws_FnWalksMean.j3; exact mG) | (unfold laws_FnWalksMean.j4; exact mG) | (unfold laws_FnWalksMean.j5; exact mG) | (unfold laws_FnWalksMean.j6; exact mG) | (unfold laws_FnWalksMean.j7; exact mG) | (unfold laws_FnWalksMean.j8; exact mG) | (unfold laws_FnWalksMean.l1; exact mG) | (unfold laws_FnWalksMean.j1; exact mG) | (unfold laws_FnWalksMean.l0; exact mG)
instance laws_FnWalksMean.mI (k : Nat) : Mo (laws_FnWalksMean.f k) (laws_FnWalksMean.f (k + 1)) := by
 have ⟨ih0, ih1, ih2, ih3, ih4, ih5, ih6, ih7, ih8, ih9⟩ := laws_FnWalksMean.mono_l k
 (repeat refine mE fun _ => ?_); unfold laws_FnWalksMean.f; exact mG
theorem laws_FnWalksMean.mono : ∀ a0 a1 k, LeO (laws_FnWalksMean.f k a0 a1) (laws_FnWalksMean.f (k + 1) a0 a1) := fun a0 a1 k => (laws_FnWalksMean.mI k).out a0 a1
end Go.Proofs.YtcogjabdddikjaaDoor.PWMn
