-- squeezed (sq3.py); PRINTED by drive.py (a program of this session's, over the kit's print.py; wip/tools/drive.py). Lean checks it.
import Derived.Test.YtiiahdjjngdgoaaDoorQPLTickx0
import Derived.Test.YtiiahdjjngdgoaaDoorQPLTickx1
import Derived.Test.YtiiahdjjngdgoaaDoorQPLTickx4
import Derived.Test.YtiiahdjjngdgoaaDoorQPLTickx5
import Derived.Test.YtiiahdjjngdgoaaDoorQPLTickx6
import Derived.Test.YtiiahdjjngdgoaaDoorQPLTickx7
import Derived.Test.YtiiahdjjngdgoaaDoorQPLTickx8
import Derived.Test.YtiiahdjjngdgoaaDoorQPLTickx9
import Derived.Test.YtiiahdjjngdgoaaDoorQPLTickx10
import Derived.Test.YtiiahdjjngdgoaaDoorQPLTickx11
import Derived.Test.YtiiahdjjngdgoaaDoorQPLTickx12
import Derived.Test.YtiiahdjjngdgoaaDoorQRange
import Derived.Test.YtiiahdjjngdgoaaDoorQSq
namespace Go.Proofs.YtiiahdjjngdgoaaDoor.PLTick
open Go.RowKit Go.Proofs.YtiiahdjjngdgoaaDoorW.PrintWords Go.Proofs.YtiiahdjjngdgoaaDoorW.PrintLast Go.Proofs.YtiiahdjjngdgoaaDoorW.PrintMore
attribute [local go_sem] max2_int min2_int max_two min_two max_three min_three max_four min_four   -- for this text's walks alone
set_option linter.unusedVariables false
set_option linter.unusedSimpArgs false

/-! ### laws_FnLampsTick: function 3 -/
mutual
def laws_FnLampsTick.j0 : Nat → List Int → ByteArray → Int → ByteArray → Bool → List Int → Bool → List ByteArray → Option (Bool)
 | 0, _, _, _, _, _, _, _, _ => none
 | k + 1, x1, x6, x7, x8, x9, x12, x134, x409000 => if x134 = true then (none) else (if x9 = true then (if (x12.length : Int) = (x6.size : Int) then (if x7 ≤ 20 then (if 0 ≤ (x6.size : Int) then (if ((x6.size : Int) : Int).toNat ≤ 35184372088832 then (laws_FnLampsTick.l0 k x1 x6 x7 x8 x12 x6 (List.replicate ((x6.size : Int) : Int).toNat 0) 0 x409000) else (none)) else (none)) else (laws_FnLampsTick.j4 k x1 x6 x7 x8 x12)) else (none)) else (laws_FnLampsTick.j6 k x1))
def laws_FnLampsTick.j6 : Nat → List Int → Option (Bool)
 | 0, _ => none
 | k + 1, x1 => (spec_DrawCycleOfLamps.f k x1).bind fun bt434 => ((impl_CycleOfLamps.f bt434.1 bt434.2).bind fun bt439 => ((spec_CycleOfLamps.f k bt434.1 bt434.2).bind fun bt443 => ((impl_LeadOfLamps.f bt434.1 bt434.2).bind fun bt447 => ((spec_LeadOfLamps.f k bt434.1 bt434.2).bind fun bt450 => ((impl_TickOnce.f bt434.1 bt434.2).bind fun bt453 => ((spec_TickOnce.f bt434.1 bt434.2).bind fun bt455 => ((spec_DrawFirstTick.f k x1).bind fun bt457 => ((impl_FirstTick.f bt457.1 bt457.2.1 bt457.2.2).bind fun bt463 => ((spec_FirstTick.f k bt457.1 bt457.2.1 bt457.2.2).bind fun bt465 => (if (bt439.2 != bt443.2) = true then (none) else ((laws_xTexts.f k bt439.1 bt443.1).bind fun t467 => (if t467 = true then (if (bt447.2.2 != bt450.2.2) = true then (none) else (if bt447.1 = bt450.1 then (if bt447.2.1 = bt450.2.1 then (if (bt453.2 != bt455.2) = true then (none) else (if bt453.1.toList = bt455.1.toList then (if (bt463.2 != bt465.2) = true then (none) else (if bt463.1 = bt465.1 then (if (bt447.2.2 != bt439.2) = true then (none) else (laws_FnLampsTick.j7 k bt434.2 bt439.1 bt439.2 bt447.1 bt447.2.1 bt457.2.1 bt457.2.2 bt463.1 bt463.2 (bt453.2 != bt439.2) bt434.1 bt457.1)) else (none))) else (none))) else (none)) else (none))) else (none)))))))))))))
def laws_FnLampsTick.j7 : Nat → ByteArray → List ByteArray → Bool → Int → Int → ByteArray → Int → Int → Bool → Bool → List ByteArray → List ByteArray → Option (Bool)
 | 0, _, _, _, _, _, _, _, _, _, _, _, _ => none
 | k + 1, x25, x26, x27, x30, x31, x41, x42, x43, x44, x339, x439000, x463000 => if x339 = true then (none) else (if x27 = true then (if (x26.length : Int) = x31 then (if x31 < 1 then (none) else (laws_FnLampsTick.j8 k x25 x26 x30 x31 x41 x42 x43 x44 (decide (x30 < 0)) x439000 x463000)) else (none)) else (laws_FnLampsTick.j11 k x41 x42 x43 x44 x463000))
def laws_FnLampsTick.j11 : Nat → ByteArray → Int → Int → Bool → List ByteArray → Option (Bool)
 | 0, _, _, _, _, _ => none
 | k + 1, x41, x42, x43, x44, x463000 => if x44 = true then ((impl_TicksAfter.f k x463000 x41 x43).bind fun bt479 => (if bt479.2 = true then (if 0 ≤ x42 then (if x42 < (bt479.1.size : Int) then (if (bt bt479.1 x42) = 49 then (if x43 > 0 then ((impl_TicksAfter.f k x463000 x41 (wrap64 (x43 - 1))).bind fun bt481 => (if bt481.2 = true then (if x42 < (bt481.1.size : Int) then (if (bt bt481.1 x42) = 48 then (some true) else (none)) else (none)) else (none))) else (some true)) else (none)) else (none)) else (none)) else (none))) else (some true)
def laws_FnLampsTick.j8 : Nat → ByteArray → List ByteArray → Int → Int → ByteArray → Int → Int → Bool → Bool → List ByteArray → List ByteArray → Option (Bool)
 | 0, _, _, _, _, _, _, _, _, _, _, _ => none
 | k + 1, x25, x26, x30, x31, x41, x42, x43, x44, x352, x439000, x463000 => if x352 = true then (none) else (laws_FnLampsTick.l3 k x25 x26 x30 x31 x41 x42 x43 x44 x26 (x26.length : Int) 0 x439000 x463000)
def laws_FnLampsTick.l3 : Nat → ByteArray → List ByteArray → Int → Int → ByteArray → Int → Int → Bool → List ByteArray → Int → Int → List ByteArray → List ByteArray → Option (Bool)
 | 0, _, _, _, _, _, _, _, _, _, _, _, _, _ => none
 | k + 1, x25, x26, x30, x31, x41, x42, x43, x44, x353, x354, x355, x439000, x463000 => if x355 < x354 then (if 0 ≤ x355 then (if x355 < (x353.length : Int) then ((impl_TickOnce.f x439000 (rdOf ByteArray.empty x353 x355)).bind fun bt469 => (if bt469.2 = true then (if x31 = 0 then (none) else (if 0 ≤ (Int.tmod (wrap64 (x355 + 1)) x31) then (if (Int.tmod (wrap64 (x355 + 1)) x31) < (x26.length : Int) then (if bt469.1.toList = (rdOf ByteArray.empty x26 (Int.tmod (wrap64 (x355 + 1)) x31)).toList then (if 0 < (x26.length : Int) then (if (Op.bytesLess ((rdOf ByteArray.empty x353 x355).toList) ((rdOf ByteArray.empty x26 0).toList)) = true then (none) else (laws_FnLampsTick.l3 k x25 x26 x30 x31 x41 x42 x43 x44 x353 x354 (wrap64 (x355 + 1)) x439000 x463000)) else (none)) else (none)) else (none)) else (none))) else (none))) else (none)) else (none)) else ((impl_TicksAfter.f k x439000 x25 x30).bind fun bt473 => (if bt473.2 = true then ((laws_xText.f k x26 bt473.1).bind fun t475 => (laws_FnLampsTick.j10 k x25 x26 x30 x41 x42 x43 x44 (!t475) x439000 x463000)) else (none)))
def laws_FnLampsTick.j10 : Nat → ByteArray → List ByteArray → Int → ByteArray → Int → Int → Bool → Bool → List ByteArray → List ByteArray → Option (Bool)
 | 0, _, _, _, _, _, _, _, _, _, _ => none
 | k + 1, x25, x26, x30, x41, x42, x43, x44, x401, x439000, x463000 => if x401 = true then (none) else (if x30 > 0 then ((impl_TicksAfter.f k x439000 x25 (wrap64 (x30 - 1))).bind fun bt476 => (if bt476.2 = true then ((laws_xText.f k x26 bt476.1).bind fun t478 => (if t478 = true then (none) else (laws_FnLampsTick.j11 k x41 x42 x43 x44 x463000))) else (none))) else (laws_FnLampsTick.j11 k x41 x42 x43 x44 x463000))
def laws_FnLampsTick.j4 : Nat → List Int → ByteArray → Int → ByteArray → List Int → Option (Bool)
 | 0, _, _, _, _, _ => none
 | k + 1, x1, x6, x7, x8, x12 => laws_FnLampsTick.l2 k x1 x6 x7 x8 x12 (x12.length : Int) 0
def laws_FnLampsTick.l2 : Nat → List Int → ByteArray → Int → ByteArray → List Int → Int → Int → Option (Bool)
 | 0, _, _, _, _, _, _, _ => none
 | k + 1, x1, x6, x7, x8, x195, x196, x197 => if x197 < x196 then (if 0 ≤ x197 then (if x197 < (x195.length : Int) then (if (rd x195 x197) < 0 then (none) else (if (rd x195 x197) > x7 then (none) else (if x197 < (x6.size : Int) then (if x197 < (x8.size : Int) then (if (((Int.tmod (rd x195 x197) 2) == 1) != ((bt x6 x197) != (bt x8 x197))) = true then (none) else (laws_FnLampsTick.l2 k x1 x6 x7 x8 x195 x196 (wrap64 (x197 + 1)))) else (none)) else (none)))) else (none)) else (none)) else (laws_FnLampsTick.j6 k x1)
def laws_FnLampsTick.l0 : Nat → List Int → ByteArray → Int → ByteArray → List Int → ByteArray → List Int → Int → List ByteArray → Option (Bool)
 | 0, _, _, _, _, _, _, _, _, _ => none
 | k + 1, x1, x6, x7, x8, x12, x16, x17, x18, x409000 => if x18 < x7 then ((impl_TickOnce.f x409000 x16).bind fun bt429 => (if bt429.2 = true then (laws_FnLampsTick.j2 k x1 x6 x7 x8 x12 x16 x17 x18 bt429.1 ((bt429.1.size : Int) != (x16.size : Int)) x409000) else (none))) else (if x16.toList = x8.toList then ((laws_xSame.f k x17 x12).bind fun t428 => (if t428 = true then (laws_FnLampsTick.j4 k x1 x6 x7 x8 x12) else (none))) else (none))
def laws_FnLampsTick.j2 : Nat → List Int → ByteArray → Int → ByteArray → List Int → ByteArray → List Int → Int → ByteArray → Bool → List ByteArray → Option (Bool)
 | 0, _, _, _, _, _, _, _, _, _, _, _ => none
 | k + 1, x1, x6, x7, x8, x12, x16, x17, x18, x19, x166, x409000 => if x166 = true then (none) else (laws_FnLampsTick.l1 k x1 x6 x7 x8 x12 x16 x17 x18 x19 x19 0 x409000)
def laws_FnLampsTick.l1 : Nat → List Int → ByteArray → Int → ByteArray → List Int → ByteArray → List Int → Int → ByteArray → ByteArray → Int → List ByteArray → Option (Bool)
 | 0, _, _, _, _, _, _, _, _, _, _, _, _ => none
 | k + 1, x1, x6, x7, x8, x12, x16, x17, x18, x19, x167, x168, x409000 => if x168 < (x167.size : Int) then (if 0 ≤ x168 then (if (bt x167 x168) < 128 then (if x168 < 1000000000 then (if x168 < (x19.size : Int) then (if x168 < (x16.size : Int) then (if (bt x19 x168) = (bt x16 x168) then (laws_FnLampsTick.l1 k x1 x6 x7 x8 x12 x16 x17 x18 x19 x167 (wrap64 (x168 + 1)) x409000) else (if x168 < (x17.length : Int) then (laws_FnLampsTick.l1 k x1 x6 x7 x8 x12 x16 (x17.set (x168 : Int).toNat (wrap64 ((rd x17 x168) + 1))) x18 x19 x167 (wrap64 (x168 + 1)) x409000) else (none))) else (none)) else (none)) else (none)) else (none)) else (none)) else (laws_FnLampsTick.l0 k x1 x6 x7 x8 x12 x19 x17 (wrap64 (x18 + 1)) x409000)
end
def laws_FnLampsTick.f (k : Nat) (l0 : List Int) (l1 : List Int) : Option (Bool) := (laws_big.f l0 l1).bind fun t402 => (if t402 = true then (some true) else ((spec_DrawTicksAfter.f k l0).bind fun bt403 => ((impl_TicksAfter.f k bt403.1 bt403.2.1 bt403.2.2).bind fun bt409 => ((spec_TicksAfter.f k bt403.1 bt403.2.1 bt403.2.2).bind fun bt411 => ((impl_TimesChanging.f k bt403.1 bt403.2.1 bt403.2.2).bind fun bt413 => ((spec_TimesChanging.f k bt403.1 bt403.2.1 bt403.2.2).bind fun bt417 => (if (bt409.2 != bt411.2) = true then (none) else (if bt409.1.toList = bt411.1.toList then (if (bt413.2 != bt417.2) = true then (none) else ((laws_xSame.f k bt413.1 bt417.1).bind fun t421 => (if t421 = true then (if (bt413.2 != bt409.2) = true then (none) else ((impl_AreLamps.f bt403.1).bind fun t422 => ((spec_AreLamps.f bt403.1).bind fun t423 => (if (t422 != t423) = true then (none) else (if bt409.2 = true then ((impl_AreLamps.f bt403.1).bind fun t424 => (laws_FnLampsTick.j0 k l1 bt403.2.1 bt403.2.2 bt409.1 bt409.2 bt413.1 (!t424) bt403.1)) else (laws_FnLampsTick.j0 k l1 bt403.2.1 bt403.2.2 bt409.1 bt409.2 bt413.1 false bt403.1)))))) else (none)))) else (none)))))))))
theorem laws_FnLampsTick.mono_l : ∀ k, Mo (laws_FnLampsTick.j0 k) (laws_FnLampsTick.j0 (k + 1)) ∧ Mo (laws_FnLampsTick.j6 k) (laws_FnLampsTick.j6 (k + 1)) ∧ Mo (laws_FnLampsTick.j7 k) (laws_FnLampsTick.j7 (k + 1)) ∧ Mo (laws_FnLampsTick.j11 k) (laws_FnLampsTick.j11 (k + 1)) ∧ Mo (laws_FnLampsTick.j8 k) (laws_FnLampsTick.j8 (k + 1)) ∧ Mo (laws_FnLampsTick.l3 k) (laws_FnLampsTick.l3 (k + 1)) ∧ Mo (laws_FnLampsTick.j10 k) (laws_FnLampsTick.j10 (k + 1)) ∧ Mo (laws_FnLampsTick.j4 k) (laws_FnLampsTick.j4 (k + 1)) ∧ Mo (laws_FnLampsTick.l2 k) (laws_FnLampsTick.l2 (k + 1)) ∧ Mo (laws_FnLampsTick.l0 k) (laws_FnLampsTick.l0 (k + 1)) ∧ Mo (laws_FnLampsTick.j2 k) (laws_FnLampsTick.j2 (k + 1)) ∧ Mo (laws_FnLampsTick.l1 k) (laws_FnLampsTick.l1 (k + 1))
 | 0 => m0
 | k + 1 => by
  have ⟨ih0, ih1, ih2, ih3, ih4, ih5, ih6, ih7, ih8, ih9, ih10, ih11⟩ := laws_FnLampsTick.mono_l k
  refine ⟨?_, ?_, ?_, ?_, ?_, ?_, ?_, ?_, ?_, ?_, ?_, ?_⟩ <;> (repeat refine mE fun _ => ?_) <;> first | (unfold laws_FnLampsTick.j0; exact mG) | (unfold laws_FnLampsTick.j6; exact mG) | (unfold laws_FnLampsTick.j7; exact mG) | (unfold laws_FnLampsTick.j11; exact mG) | (unfold laws_FnLampsTick.j8; exact mG) | (unfold laws_FnLampsTick.l3; exact mG) | (unfold laws_FnLampsTick.j10; exact mG) | (unfold laws_FnLampsTick.j4; exact mG) | (unfold laws_FnLampsTick.l2; exact mG) | (unfold laws_FnLampsTick.l0; exact mG) | (unfold laws_FnLampsTick.j2; exact mG) | (unfold laws_FnLampsTick.l1; exact mG)
instance laws_FnLampsTick.mI (k : Nat) : Mo (laws_FnLampsTick.f k) (laws_FnLampsTick.f (k + 1)) := by
 have ⟨ih0, ih1, ih2, ih3, ih4, ih5, ih6, ih7, ih8, ih9, ih10, ih11⟩ := laws_FnLampsTick.mono_l k
 (repeat refine mE fun _ => ?_); unfold laws_FnLampsTick.f; exact mG
theorem laws_FnLampsTick.mono : ∀ a0 a1 k, LeO (laws_FnLampsTick.f k a0 a1) (laws_FnLampsTick.f (k + 1) a0 a1) := fun a0 a1 k => (laws_FnLampsTick.mI k).out a0 a1
def laws_FnLampsTick.T8 : Bool × List (List Nat × List Nat) := (true, [([], []), ([], []), ([0, 1], [0, 1]), ([2], [2]), ([3], [3]), ([3], [3]), ([4, 5, 3], [3, 4, 5]), ([3, 6], [3, 6]), ([7, 3], [7]), ([8], [8]), ([8], [8]), ([9, 10, 8], [8, 9, 10]), ([8, 11], [8, 11]), ([12, 8], [12]), ([13], [13]), ([13], [13]), ([14, 15, 13, 13], [13, 14, 15]), ([16, 13], [13, 16]), ([13, 17], [13, 17]), ([18, 16], [18]), ([19], [19]), ([19], [19]), ([20, 21, 19], [19, 20, 21]), ([19, 22], [19, 22]), ([23, 19], [23]), ([24], [24]), ([25, 24, 24], [24, 25]), ([24], [24]), ([27, 26, 24], [24, 27]), ([26, 28, 24], [24, 26, 28]), ([24, 29], [24, 29]), ([30, 28], [30]), ([31], [31]), ([32, 31, 31], [31, 32]), ([33], [33]), ([34, 33, 33], [33, 34]), ([35, 33], [33, 35]), ([33, 36, 31], [31, 33, 36]), ([31, 37], [31, 37])])
def laws_FnLampsTick.B8 : List Nat := [0, 0, 3, 7, 15, 15, 63, 127, 255, 511, 511, 2047, 4095, 8191, 16383, 16383, 65535, 131071, 262143, 524287, 1048575, 1048575, 4194303, 8388607, 16777215, 33554431, 67108863, 33554431, 268435455, 536870911, 1073741823, 2147483647, 4294967295, 8589934591, 17179869183, 34359738367, 68719476735, 137438953471, 274877906943]
theorem laws_FnLampsTick.tab8 : rtab .any (opsOf Tryd.f3 8) = laws_FnLampsTick.T8 := by kernel_rfl
theorem laws_FnLampsTick.bits8 : waitsOk laws_FnLampsTick.T8.2 laws_FnLampsTick.B8 = true := by kernel_rfl
def laws_FnLampsTick.T33 : Bool × List (List Nat × List Nat) := (true, [([], []), ([0], [0]), ([1], [1]), ([2], [2]), ([2], [2]), ([3, 4, 2], [2, 3, 4]), ([2, 5], [2, 5]), ([6, 2], [6]), ([7], [7]), ([8, 7], [7, 8]), ([9, 7], [7, 9]), ([7], [7]), ([7], [7]), ([11, 12, 7], [7, 11, 12]), ([7], [7]), ([7], [7]), ([14, 15, 7], [7, 14, 15]), ([13, 16, 7], [7, 13, 16]), ([10, 17, 7], [7, 10, 17]), ([7, 18], [7, 18])])
def laws_FnLampsTick.B33 : List Nat := [0, 1, 3, 7, 7, 31, 63, 127, 255, 511, 1023, 255, 255, 6399, 255, 255, 49407, 129279, 262143, 524287]
theorem laws_FnLampsTick.tab33 : rtab .any (opsOf Tryd.f3 33) = laws_FnLampsTick.T33 := by kernel_rfl
theorem laws_FnLampsTick.bits33 : waitsOk laws_FnLampsTick.T33.2 laws_FnLampsTick.B33 = true := by kernel_rfl
end Go.Proofs.YtiiahdjjngdgoaaDoor.PLTick
