-- squeezed (sq3.py); PRINTED by drive.py (a program of this session's, over the kit's print.py; wip/tools/drive.py). Lean checks it.
import Derived.Test.YtpdkjehplfgjcabGreatDoorQPHidx0
import Derived.Test.YtpdkjehplfgjcabGreatDoorQPHidx1
import Derived.Test.YtpdkjehplfgjcabGreatDoorQPHidx2
import Derived.Test.YtpdkjehplfgjcabGreatDoorQPHidx5
import Derived.Test.YtpdkjehplfgjcabGreatDoorQPHidx7
import Derived.Test.YtpdkjehplfgjcabGreatDoorQPHidx8
import Derived.Test.YtpdkjehplfgjcabGreatDoorQPHidx9
import Derived.Test.YtpdkjehplfgjcabGreatDoorQPHidx10
import Derived.Test.YtpdkjehplfgjcabGreatDoorQPHidx11
import Derived.Test.YtpdkjehplfgjcabGreatDoorQPHidx13
import Derived.Test.YtpdkjehplfgjcabGreatDoorQPHidx14
import Derived.Test.YtpdkjehplfgjcabGreatDoorQPHidx15
import Derived.Test.YtpdkjehplfgjcabGreatDoorQPHidx16
import Derived.Test.YtpdkjehplfgjcabGreatDoorQPHidx17
import Derived.Test.YtpdkjehplfgjcabGreatDoorQPHidx18
import Derived.Test.YtpdkjehplfgjcabGreatDoorQRange
import Derived.Test.YtpdkjehplfgjcabGreatDoorQSq
namespace Go.Proofs.YtpdkjehplfgjcabGreatDoor.PHid
open Go.RowKit Go.Proofs.YtpdkjehplfgjcabGreatDoorW.PrintWords Go.Proofs.YtpdkjehplfgjcabGreatDoorW.PrintLast Go.Proofs.YtpdkjehplfgjcabGreatDoorW.PrintMore
attribute [local go_sem] max2_int min2_int max_two min_two max_three min_three max_four min_four   -- for this text's walks alone
set_option linter.unusedVariables false
set_option linter.unusedSimpArgs false

attribute [local go_sem high] eqA40
/-! ### laws_FnStatesHidden: function 3 -/
mutual
def laws_FnStatesHidden.j0 : Nat → List Int → ByteArray → Int → Bool → Bool → Int → List (S40) → Option (Bool)
 | 0, _, _, _, _, _, _, _ => none
 | k + 1, x1, x5, x6, x9, x96, x631000, x631001 => if x96 = true then (none) else (if x9 = true then ((impl_Solutions.f x631000 x631001).bind fun bt638 => ((impl_NumberOfState.f k x5).bind fun bt642 => ((impl_DoesFit.f k 3 0 bt642.1 x5).bind fun bt644 => ((impl_CountOn.f x5).bind fun bt646 => ((impl_DoesFit.f k 1 bt646.1 0 x5).bind fun bt648 => ((impl_MovesOf.f k x5).bind fun bt650 => ((impl_IsPuzzle.f x631000 x631001).bind fun t654 => (if t654 = true then (if (x631001.length : Int) = x6 then (if bt638.2 = true then ((laws_xText.f k bt638.1 x5).bind fun t655 => (if t655 = true then (if bt642.2 = true then (if bt644.2 = true then (if bt644.1 = true then (if bt646.2 = true then (if bt648.2 = true then (if bt648.1 = true then (laws_FnStatesHidden.j1 k x1 x5 bt650.1 (!bt650.2)) else (none)) else (none)) else (none)) else (none)) else (none)) else (none)) else (none))) else (none)) else (none)) else (none))))))))) else (laws_FnStatesHidden.j3 k x1))
def laws_FnStatesHidden.j3 : Nat → List Int → Option (Bool)
 | 0, _ => none
 | k + 1, x1 => (spec_DrawHarderPuzzle.f k x1).bind fun bt661 => ((impl_HarderPuzzle.f k bt661.1 bt661.2).bind fun bt666 => ((spec_HarderPuzzle.f k bt661.1 bt661.2).bind fun bt672 => ((impl_IsSolved.f bt661.1 bt661.2).bind fun bt678 => (if (bt666.2.2 != bt672.2.2) = true then (none) else ((laws_xPuzzle.f k bt666.1 bt666.2.1 bt672.1 bt672.2.1).bind fun t680 => (if t680 = true then (if bt678.2 = true then (laws_FnStatesHidden.j4 k x1 bt666.2.2 (bt666.2.2 != bt678.1) bt661.1 bt661.2 bt666.1 bt666.2.1) else (laws_FnStatesHidden.j4 k x1 bt666.2.2 (bt666.2.2 != false) bt661.1 bt661.2 bt666.1 bt666.2.1)) else (none)))))))
def laws_FnStatesHidden.j4 : Nat → List Int → Bool → Bool → Int → List (S40) → Int → List (S40) → Option (Bool)
 | 0, _, _, _, _, _, _, _ => none
 | k + 1, x1, x30, x235, x666000, x666001, x672000, x672001 => if x235 = true then (none) else (if x30 = true then ((impl_Solutions.f x666000 x666001).bind fun bt681 => ((impl_Solutions.f x672000 x672001).bind fun bt685 => ((impl_NeedlessClues.f k x672000 x672001).bind fun bt689 => (if bt681.2 = true then (if bt685.2 = true then ((laws_xTexts.f k bt681.1 bt685.1).bind fun t693 => (if t693 = true then (if bt689.2 = true then (if (bt689.1.length : Int) = 0 then (if (x672001.length : Int) > (x666001.length : Int) then (none) else (laws_FnStatesHidden.j5 k x1)) else (none)) else (none)) else (none))) else (none)) else (none))))) else (laws_FnStatesHidden.j5 k x1))
def laws_FnStatesHidden.j5 : Nat → List Int → Option (Bool)
 | 0, _ => none
 | k + 1, x1 => (spec_DrawAddClue.f k x1).bind fun bt694 => ((impl_AddClue.f k bt694.1 bt694.2.1 bt694.2.2.1 bt694.2.2.2.1 bt694.2.2.2.2).bind fun bt703 => ((spec_AddClue.f k bt694.1 bt694.2.1 bt694.2.2.1 bt694.2.2.2.1 bt694.2.2.2.2).bind fun bt709 => ((spec_DrawDropClue.f k x1).bind fun bt715 => ((impl_DropClue.f bt715.1 bt715.2.1 bt715.2.2).bind fun bt721 => ((spec_DropClue.f k bt715.1 bt715.2.1 bt715.2.2).bind fun bt727 => ((spec_DrawDoesFit.f k x1).bind fun bt733 => ((impl_DoesFit.f k bt733.1 bt733.2.1 bt733.2.2.1 bt733.2.2.2).bind fun bt738 => ((spec_DoesFit.f k bt733.1 bt733.2.1 bt733.2.2.1 bt733.2.2.2).bind fun bt740 => ((spec_DrawIsClue.f k x1).bind fun bt742 => (if (bt703.2.2 != bt709.2.2) = true then (none) else ((laws_xPuzzle.f k bt703.1 bt703.2.1 bt709.1 bt709.2.1).bind fun t747 => (if t747 = true then (if (bt721.2.2 != bt727.2.2) = true then (none) else ((laws_xPuzzle.f k bt721.1 bt721.2.1 bt727.1 bt727.2.1).bind fun t748 => (if t748 = true then (if (bt738.2 != bt740.2) = true then (none) else (if (bt738.1 != bt740.1) = true then (none) else ((impl_IsClue.f k bt742.1 bt742.2.1 bt742.2.2.1 bt742.2.2.2).bind fun t749 => ((spec_IsClue.f k bt742.1 bt742.2.1 bt742.2.2.1 bt742.2.2.2).bind fun t750 => (if (t749 != t750) = true then (none) else (if bt738.2 = true then ((impl_IsClue.f k (bt733.2.2.2.size : Int) bt733.1 bt733.2.1 bt733.2.2.1).bind fun t751 => (laws_FnStatesHidden.j6 k bt703.2.2 bt715.2.2 bt721.2.2 (!t751) bt694.1 bt694.2.1 bt694.2.2.1 bt694.2.2.2.1 bt694.2.2.2.2 bt703.1 bt703.2.1 bt715.1 bt715.2.1 bt721.1 bt721.2.1)) else (laws_FnStatesHidden.j6 k bt703.2.2 bt715.2.2 bt721.2.2 false bt694.1 bt694.2.1 bt694.2.2.1 bt694.2.2.2.1 bt694.2.2.2.2 bt703.1 bt703.2.1 bt715.1 bt715.2.1 bt721.1 bt721.2.1))))))) else (none)))) else (none)))))))))))))
def laws_FnStatesHidden.j6 : Nat → Bool → Int → Bool → Bool → Int → List (S40) → Int → Int → Int → Int → List (S40) → Int → List (S40) → Int → List (S40) → Option (Bool)
 | 0, _, _, _, _, _, _, _, _, _, _, _, _, _, _, _ => none
 | k + 1, x44, x48, x50, x386, x702000, x702001, x703000, x703001, x703002, x709000, x709001, x721000, x721001, x727000, x727001 => if x386 = true then (none) else (if x44 = true then ((impl_DropClue.f x709000 x709001 (x702001.length : Int)).bind fun bt752 => (if bt752.2.2 = true then ((laws_xPuzzle.f k bt752.1 bt752.2.1 x702000 x702001).bind fun t758 => (if t758 = true then (if 0 ≤ (x702001.length : Int) then (if (x702001.length : Int) < (x709001.length : Int) then (if (!(((rd_T40 x709001 (x702001.length : Int)).f0) == x703000) || (!(((rd_T40 x709001 (x702001.length : Int)).f1) == x703001) || (!(((rd_T40 x709001 (x702001.length : Int)).f2) == x703002)))) = true then (none) else (laws_FnStatesHidden.j7 k x48 x50 x721000 x721001 x727000 x727001)) else (none)) else (none)) else (none))) else (none))) else (laws_FnStatesHidden.j7 k x48 x50 x721000 x721001 x727000 x727001))
def laws_FnStatesHidden.j7 : Nat → Int → Bool → Int → List (S40) → Int → List (S40) → Option (Bool)
 | 0, _, _, _, _, _, _ => none
 | k + 1, x48, x50, x721000, x721001, x727000, x727001 => if x50 = true then (laws_FnStatesHidden.j8 k x48 (x48 == (wrap64 ((x721001.length : Int) - 1))) x721000 x721001 x727000 x727001) else (laws_FnStatesHidden.j8 k x48 false x721000 x721001 x727000 x727001)
def laws_FnStatesHidden.j8 : Nat → Int → Bool → Int → List (S40) → Int → List (S40) → Option (Bool)
 | 0, _, _, _, _, _, _ => none
 | k + 1, x48, x423, x721000, x721001, x727000, x727001 => if x423 = true then (if 0 ≤ x48 then (if x48 < (x721001.length : Int) then ((impl_AddClue.f k x727000 x727001 ((rd_T40 x721001 x48).f0) ((rd_T40 x721001 x48).f1) ((rd_T40 x721001 x48).f2)).bind fun bt761 => (if bt761.2.2 = true then ((laws_xPuzzle.f k bt761.1 bt761.2.1 x721000 x721001).bind fun t767 => (some t767)) else (none))) else (none)) else (none)) else (some true)
def laws_FnStatesHidden.j1 : Nat → List Int → ByteArray → List Int → Bool → Option (Bool)
 | 0, _, _, _, _ => none
 | k + 1, x1, x5, x22, x179 => if x179 = true then (none) else (laws_FnStatesHidden.l0 k x1 x5 x22 x5 0)
def laws_FnStatesHidden.l0 : Nat → List Int → ByteArray → List Int → ByteArray → Int → Option (Bool)
 | 0, _, _, _, _, _ => none
 | k + 1, x1, x5, x22, x180, x181 => if x181 < (x180.size : Int) then (if 0 ≤ x181 then (if (bt x180 x181) < 128 then (if x181 < 1000000000 then ((laws_xHas.f k x22 x181).bind fun t656 => (if t656 = true then ((impl_DoesFit.f k 4 x181 1 x5).bind fun bt657 => (if bt657.2 = true then (if bt657.1 = true then (laws_FnStatesHidden.l0 k x1 x5 x22 x180 (wrap64 (x181 + 1))) else (none)) else (none))) else ((impl_DoesFit.f k 4 x181 0 x5).bind fun bt659 => (if bt659.2 = true then (if bt659.1 = true then (laws_FnStatesHidden.l0 k x1 x5 x22 x180 (wrap64 (x181 + 1))) else (none)) else (none))))) else (none)) else (none)) else (none)) else (laws_FnStatesHidden.j3 k x1)
end
def laws_FnStatesHidden.f (k : Nat) (l0 : List Int) (l1 : List Int) : Option (Bool) := (laws_big.f l0 l1).bind fun t621 => (if t621 = true then (some true) else ((spec_DrawMakePuzzle.f k l0).bind fun bt622 => ((impl_MakePuzzle.f bt622.1 bt622.2.1 bt622.2.2).bind fun bt625 => ((spec_MakePuzzle.f k bt622.1 bt622.2.1 bt622.2.2).bind fun bt631 => (if (bt625.2.2 != bt631.2.2) = true then (none) else ((laws_xPuzzle.f k bt625.1 bt625.2.1 bt631.1 bt631.2.1).bind fun t637 => (laws_FnStatesHidden.j0 k l1 bt622.1 bt622.2.1 bt625.2.2 (!t637) bt625.1 bt625.2.1)))))))
theorem laws_FnStatesHidden.mono_l : ∀ k, Mo (laws_FnStatesHidden.j0 k) (laws_FnStatesHidden.j0 (k + 1)) ∧ Mo (laws_FnStatesHidden.j3 k) (laws_FnStatesHidden.j3 (k + 1)) ∧ Mo (laws_FnStatesHidden.j4 k) (laws_FnStatesHidden.j4 (k + 1)) ∧ Mo (laws_FnStatesHidden.j5 k) (laws_FnStatesHidden.j5 (k + 1)) ∧ Mo (laws_FnStatesHidden.j6 k) (laws_FnStatesHidden.j6 (k + 1)) ∧ Mo (laws_FnStatesHidden.j7 k) (laws_FnStatesHidden.j7 (k + 1)) ∧ Mo (laws_FnStatesHidden.j8 k) (laws_FnStatesHidden.j8 (k + 1)) ∧ Mo (laws_FnStatesHidden.j1 k) (laws_FnStatesHidden.j1 (k + 1)) ∧ Mo (laws_FnStatesHidden.l0 k) (laws_FnStatesHidden.l0 (k + 1))
 | 0 => m0
 | k + 1 => by
  have ⟨ih0, ih1, ih2, ih3, ih4, ih5, ih6, ih7, ih8⟩ := laws_FnStatesHidden.mono_l k
  refine ⟨?_, ?_, ?_, ?_, ?_, ?_, ?_, ?_, ?_⟩ <;> (repeat refine mE fun _ => ?_) <;> first | (unfold laws_FnStatesHidden.j0; exact mG) | (unfold laws_FnStatesHidden.j3; exact mG) | (unfold laws_FnStatesHidden.j4; exact mG) | (unfold laws_FnStatesHidden.j5; exact mG) | (unfold laws_FnStatesHidden.j6; exact mG) | (unfold laws_FnStatesHidden.j7; exact mG) | (unfold laws_FnStatesHidden.j8; exact mG) | (unfold laws_FnStatesHidden.j1; exact mG) | (unfold laws_FnStatesHidden.l0; exact mG)
instance laws_FnStatesHidden.mI (k : Nat) : Mo (laws_FnStatesHidden.f k) (laws_FnStatesHidden.f (k + 1)) := by
 have ⟨ih0, ih1, ih2, ih3, ih4, ih5, ih6, ih7, ih8⟩ := laws_FnStatesHidden.mono_l k
 (repeat refine mE fun _ => ?_); unfold laws_FnStatesHidden.f; exact mG
theorem laws_FnStatesHidden.mono : ∀ a0 a1 k, LeO (laws_FnStatesHidden.f k a0 a1) (laws_FnStatesHidden.f (k + 1) a0 a1) := fun a0 a1 k => (laws_FnStatesHidden.mI k).out a0 a1
def laws_FnStatesHidden.T48 : Bool × List (List Nat × List Nat) := (true, [([], []), ([], []), ([0, 1], [0, 1]), ([2], [2]), ([3], [3]), ([3], [3]), ([4, 5, 3, 3], [3, 4, 5]), ([6, 3], [3, 6]), ([3, 7], [3, 7]), ([8, 6], [8]), ([9], [9]), ([9], [9]), ([10, 11, 9], [9, 10, 11]), ([9, 12], [9, 12]), ([13, 9], [13]), ([14], [14]), ([14], [14]), ([15, 16, 14, 14], [14, 15, 16]), ([17, 14], [14, 17]), ([14, 18], [14, 18]), ([19, 17], [19]), ([20], [20]), ([20], [20]), ([21, 22, 20], [20, 21, 22]), ([20, 23], [20, 23]), ([24, 20], [24]), ([25], [25]), ([25], [25]), ([26, 27, 25], [25, 26, 27]), ([25, 28], [25, 28]), ([29, 25], [29]), ([30], [30]), ([30], [30]), ([31, 32, 30, 30], [30, 31, 32]), ([30], [30]), ([30], [30]), ([34, 35, 33, 30], [30, 34, 35]), ([33, 36, 30], [30, 33, 36]), ([30, 37], [30, 37]), ([38, 36], [38]), ([39], [39]), ([40, 39, 39], [39, 40]), ([41], [41]), ([42, 41], [41, 42]), ([41], [41]), ([43, 44, 41, 41], [41, 43, 44]), ([45, 41], [41, 45]), ([41, 46, 39], [39, 41, 46]), ([39, 47], [39, 47])])
def laws_FnStatesHidden.B48 : List Nat := [0, 0, 3, 7, 15, 15, 63, 127, 255, 511, 1023, 1023, 4095, 8191, 16383, 32767, 32767, 131071, 262143, 524287, 1048575, 2097151, 2097151, 8388607, 16777215, 33554431, 67108863, 67108863, 268435455, 536870911, 1073741823, 2147483647, 2147483647, 8589934591, 2147483647, 2147483647, 68719476735, 137438953471, 274877906943, 549755813887, 1099511627775, 2199023255551, 4398046511103, 8796093022207, 4398046511103, 35184372088831, 70368744177663, 140737488355327, 281474976710655]
theorem laws_FnStatesHidden.tab48 : rtab .any (opsOf Tryz.f3 48) = laws_FnStatesHidden.T48 := by kernel_rfl
theorem laws_FnStatesHidden.bits48 : waitsOk laws_FnStatesHidden.T48.2 laws_FnStatesHidden.B48 = true := by kernel_rfl
def laws_FnStatesHidden.T52 : Bool × List (List Nat × List Nat) := (true, [([], []), ([0], [0]), ([1], [1]), ([2], [2]), ([2], [2]), ([3, 4, 2, 2], [2, 3, 4]), ([5, 2], [2, 5]), ([2, 6], [2, 6]), ([7, 5], [7]), ([8], [8]), ([9, 8], [8, 9]), ([8], [8]), ([11, 8], [8, 11]), ([12, 8], [8, 12]), ([10, 13, 8], [8, 10, 13]), ([14, 8], [8, 14]), ([8], [8]), ([15, 16, 8], [8, 15, 16]), ([8, 17], [8, 17])])
def laws_FnStatesHidden.B52 : List Nat := [0, 1, 3, 7, 7, 31, 63, 127, 255, 511, 1023, 511, 2559, 6655, 16383, 32767, 511, 131071, 262143]
theorem laws_FnStatesHidden.tab52 : rtab .any (opsOf Tryz.f3 52) = laws_FnStatesHidden.T52 := by kernel_rfl
theorem laws_FnStatesHidden.bits52 : waitsOk laws_FnStatesHidden.T52.2 laws_FnStatesHidden.B52 = true := by kernel_rfl
def laws_FnStatesHidden.T55 : Bool × List (List Nat × List Nat) := (true, [([], []), ([], []), ([1], [1]), ([], []), ([2, 3], [2, 3]), ([4], [4]), ([0, 5], [0, 5]), ([6], [6]), ([7], [7]), ([7], [7]), ([], []), ([10, 8, 6, 0, 1, 2, 3, 4, 5, 6, 7, 8, 10], [8, 10]), ([9, 11, 0, 1, 2, 3, 4, 5, 6, 7, 8, 9, 10, 11], [9])])
def laws_FnStatesHidden.B55 : List Nat := [0, 0, 2, 0, 14, 30, 63, 127, 255, 255, 0, 1535, 4095]
theorem laws_FnStatesHidden.tab55 : rtab .any (opsOf Tryz.f3 55) = laws_FnStatesHidden.T55 := by kernel_rfl
theorem laws_FnStatesHidden.bits55 : waitsOk laws_FnStatesHidden.T55.2 laws_FnStatesHidden.B55 = true := by kernel_rfl
end Go.Proofs.YtpdkjehplfgjcabGreatDoor.PHid
