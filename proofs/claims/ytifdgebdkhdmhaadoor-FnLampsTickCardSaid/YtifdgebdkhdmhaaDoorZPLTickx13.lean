-- PRINTED by drive.py (a program of this session's, over the kit's print.py; wip/tools/drive.py). Lean checks it.
import Derived.Test.YtifdgebdkhdmhaaDoorZSq
import Derived.Test.YtifdgebdkhdmhaaDoorZPLTickx0
import Derived.Test.YtifdgebdkhdmhaaDoorZPLTickx1
import Derived.Test.YtifdgebdkhdmhaaDoorZPLTickx2
import Derived.Test.YtifdgebdkhdmhaaDoorZPLTickx3
import Derived.Test.YtifdgebdkhdmhaaDoorZPLTickx4
import Derived.Test.YtifdgebdkhdmhaaDoorZPLTickx5
import Derived.Test.YtifdgebdkhdmhaaDoorZPLTickx6
import Derived.Test.YtifdgebdkhdmhaaDoorZPLTickx7
import Derived.Test.YtifdgebdkhdmhaaDoorZPLTickx11
import Derived.Test.YtifdgebdkhdmhaaDoorZPLTickx12
import Derived.Test.YtifdgebdkhdmhaaDoorZRange
namespace Go.Proofs.YtifdgebdkhdmhaaDoor.PLTick
open Go.RowKit Go.Proofs.YtifdgebdkhdmhaaDoorW.PrintWords Go.Proofs.YtifdgebdkhdmhaaDoorW.PrintLast Go.Proofs.YtifdgebdkhdmhaaDoorW.PrintMore
attribute [local go_sem] max2_int min2_int max_two min_two max_three min_three max_four min_four   -- for this text's walks alone
set_option linter.unusedVariables false
set_option linter.unusedSimpArgs false

/-! ### laws_FnLampsTick: function 8 -/
mutual
def laws_FnLampsTick.j0 : Nat → List Int → ByteArray → Int → ByteArray → Bool → List Int → Bool → List ByteArray → Option (Bool)
 | 0, _, _, _, _, _, _, _, _ => none
 | k + 1, x1, x6, x7, x8, x9, x12, x134, x414000 => if x134 = true then (none) else (if x9 = true then (if (x12.length : Int) = (x6.size : Int) then (if x7 ≤ 20 then (if 0 ≤ (x6.size : Int) then (if ((x6.size : Int) : Int).toNat ≤ 35184372088832 then (laws_FnLampsTick.l0 k x1 x6 x7 x8 x12 x6 (List.replicate ((x6.size : Int) : Int).toNat 0) 0 x414000) else (none)) else (none)) else (laws_FnLampsTick.j4 k x1 x6 x7 x8 x12)) else (none)) else (laws_FnLampsTick.j6 k x1))
def laws_FnLampsTick.j6 : Nat → List Int → Option (Bool)
 | 0, _ => none
 | k + 1, x1 => (spec_DrawCycleOfLamps.f k x1).bind fun bt439 => ((impl_CycleOfLamps.f bt439.1 bt439.2).bind fun bt444 => ((spec_CycleOfLamps.f k bt439.1 bt439.2).bind fun bt448 => ((impl_LeadOfLamps.f bt439.1 bt439.2).bind fun bt452 => ((spec_LeadOfLamps.f k bt439.1 bt439.2).bind fun bt455 => ((impl_TickOnce.f bt439.1 bt439.2).bind fun bt458 => ((spec_TickOnce.f bt439.1 bt439.2).bind fun bt460 => ((spec_DrawFirstTick.f k x1).bind fun bt462 => ((impl_FirstTick.f bt462.1 bt462.2.1 bt462.2.2).bind fun bt468 => ((spec_FirstTick.f k bt462.1 bt462.2.1 bt462.2.2).bind fun bt470 => (if (bt444.2 != bt448.2) = true then (none) else ((laws_xTexts.f k bt444.1 bt448.1).bind fun t472 => (if t472 = true then (if (bt452.2.2 != bt455.2.2) = true then (none) else (if bt452.1 = bt455.1 then (if bt452.2.1 = bt455.2.1 then (if (bt458.2 != bt460.2) = true then (none) else (if bt458.1.toList = bt460.1.toList then (if (bt468.2 != bt470.2) = true then (none) else (if bt468.1 = bt470.1 then (if (bt452.2.2 != bt444.2) = true then (none) else (laws_FnLampsTick.j7 k bt439.2 bt444.1 bt444.2 bt452.1 bt452.2.1 bt462.2.1 bt462.2.2 bt468.1 bt468.2 (bt458.2 != bt444.2) bt439.1 bt462.1)) else (none))) else (none))) else (none)) else (none))) else (none)))))))))))))
def laws_FnLampsTick.j7 : Nat → ByteArray → List ByteArray → Bool → Int → Int → ByteArray → Int → Int → Bool → Bool → List ByteArray → List ByteArray → Option (Bool)
 | 0, _, _, _, _, _, _, _, _, _, _, _, _ => none
 | k + 1, x25, x26, x27, x30, x31, x41, x42, x43, x44, x339, x444000, x468000 => if x339 = true then (none) else (if x27 = true then (if (x26.length : Int) = x31 then (if x31 < 1 then (none) else (laws_FnLampsTick.j8 k x25 x26 x30 x31 x41 x42 x43 x44 (decide (x30 < 0)) x444000 x468000)) else (none)) else (laws_FnLampsTick.j11 k x41 x42 x43 x44 x468000))
def laws_FnLampsTick.j11 : Nat → ByteArray → Int → Int → Bool → List ByteArray → Option (Bool)
 | 0, _, _, _, _, _ => none
 | k + 1, x41, x42, x43, x44, x468000 => if x44 = true then ((impl_TicksAfter.f k x468000 x41 x43).bind fun bt484 => (if bt484.2 = true then (if 0 ≤ x42 then (if x42 < (bt484.1.size : Int) then (if (bt bt484.1 x42) = 49 then (if x43 > 0 then ((impl_TicksAfter.f k x468000 x41 (wrap64 (x43 - 1))).bind fun bt486 => (if bt486.2 = true then (if x42 < (bt486.1.size : Int) then (if (bt bt486.1 x42) = 48 then (some true) else (none)) else (none)) else (none))) else (some true)) else (none)) else (none)) else (none)) else (none))) else (some true)
def laws_FnLampsTick.j8 : Nat → ByteArray → List ByteArray → Int → Int → ByteArray → Int → Int → Bool → Bool → List ByteArray → List ByteArray → Option (Bool)
 | 0, _, _, _, _, _, _, _, _, _, _, _ => none
 | k + 1, x25, x26, x30, x31, x41, x42, x43, x44, x352, x444000, x468000 => if x352 = true then (none) else (laws_FnLampsTick.l3 k x25 x26 x30 x31 x41 x42 x43 x44 x26 (x26.length : Int) 0 x444000 x468000)
def laws_FnLampsTick.l3 : Nat → ByteArray → List ByteArray → Int → Int → ByteArray → Int → Int → Bool → List ByteArray → Int → Int → List ByteArray → List ByteArray → Option (Bool)
 | 0, _, _, _, _, _, _, _, _, _, _, _, _, _ => none
 | k + 1, x25, x26, x30, x31, x41, x42, x43, x44, x353, x354, x355, x444000, x468000 => if x355 < x354 then (if 0 ≤ x355 then (if x355 < (x353.length : Int) then ((impl_TickOnce.f x444000 (rdOf ByteArray.empty x353 x355)).bind fun bt474 => (if bt474.2 = true then (if x31 = 0 then (none) else (if 0 ≤ (Int.tmod (wrap64 (x355 + 1)) x31) then (if (Int.tmod (wrap64 (x355 + 1)) x31) < (x26.length : Int) then (if bt474.1.toList = (rdOf ByteArray.empty x26 (Int.tmod (wrap64 (x355 + 1)) x31)).toList then (if 0 < (x26.length : Int) then (if (Op.bytesLess ((rdOf ByteArray.empty x353 x355).toList) ((rdOf ByteArray.empty x26 0).toList)) = true then (none) else (laws_FnLampsTick.l3 k x25 x26 x30 x31 x41 x42 x43 x44 x353 x354 (wrap64 (x355 + 1)) x444000 x468000)) else (none)) else (none)) else (none)) else (none))) else (none))) else (none)) else (none)) else ((impl_TicksAfter.f k x444000 x25 x30).bind fun bt478 => (if bt478.2 = true then ((laws_xText.f k x26 bt478.1).bind fun t480 => (laws_FnLampsTick.j10 k x25 x26 x30 x41 x42 x43 x44 (!t480) x444000 x468000)) else (none)))
def laws_FnLampsTick.j10 : Nat → ByteArray → List ByteArray → Int → ByteArray → Int → Int → Bool → Bool → List ByteArray → List ByteArray → Option (Bool)
 | 0, _, _, _, _, _, _, _, _, _, _ => none
 | k + 1, x25, x26, x30, x41, x42, x43, x44, x401, x444000, x468000 => if x401 = true then (none) else (if x30 > 0 then ((impl_TicksAfter.f k x444000 x25 (wrap64 (x30 - 1))).bind fun bt481 => (if bt481.2 = true then ((laws_xText.f k x26 bt481.1).bind fun t483 => (if t483 = true then (none) else (laws_FnLampsTick.j11 k x41 x42 x43 x44 x468000))) else (none))) else (laws_FnLampsTick.j11 k x41 x42 x43 x44 x468000))
def laws_FnLampsTick.j4 : Nat → List Int → ByteArray → Int → ByteArray → List Int → Option (Bool)
 | 0, _, _, _, _, _ => none
 | k + 1, x1, x6, x7, x8, x12 => laws_FnLampsTick.l2 k x1 x6 x7 x8 x12 (x12.length : Int) 0
def laws_FnLampsTick.l2 : Nat → List Int → ByteArray → Int → ByteArray → List Int → Int → Int → Option (Bool)
 | 0, _, _, _, _, _, _, _ => none
 | k + 1, x1, x6, x7, x8, x195, x196, x197 => if x197 < x196 then (if 0 ≤ x197 then (if x197 < (x195.length : Int) then (if (rd x195 x197) < 0 then (none) else (if (rd x195 x197) > x7 then (none) else (if x197 < (x6.size : Int) then (if x197 < (x8.size : Int) then (if (((Int.tmod (rd x195 x197) 2) == 1) != ((bt x6 x197) != (bt x8 x197))) = true then (none) else (laws_FnLampsTick.l2 k x1 x6 x7 x8 x195 x196 (wrap64 (x197 + 1)))) else (none)) else (none)))) else (none)) else (none)) else (laws_FnLampsTick.j6 k x1)
def laws_FnLampsTick.l0 : Nat → List Int → ByteArray → Int → ByteArray → List Int → ByteArray → List Int → Int → List ByteArray → Option (Bool)
 | 0, _, _, _, _, _, _, _, _, _ => none
 | k + 1, x1, x6, x7, x8, x12, x16, x17, x18, x414000 => if x18 < x7 then ((impl_TickOnce.f x414000 x16).bind fun bt434 => (if bt434.2 = true then (laws_FnLampsTick.j2 k x1 x6 x7 x8 x12 x16 x17 x18 bt434.1 ((bt434.1.size : Int) != (x16.size : Int)) x414000) else (none))) else (if x16.toList = x8.toList then ((laws_xSame.f k x17 x12).bind fun t433 => (if t433 = true then (laws_FnLampsTick.j4 k x1 x6 x7 x8 x12) else (none))) else (none))
def laws_FnLampsTick.j2 : Nat → List Int → ByteArray → Int → ByteArray → List Int → ByteArray → List Int → Int → ByteArray → Bool → List ByteArray → Option (Bool)
 | 0, _, _, _, _, _, _, _, _, _, _, _ => none
 | k + 1, x1, x6, x7, x8, x12, x16, x17, x18, x19, x166, x414000 => if x166 = true then (none) else (laws_FnLampsTick.l1 k x1 x6 x7 x8 x12 x16 x17 x18 x19 x19 0 x414000)
def laws_FnLampsTick.l1 : Nat → List Int → ByteArray → Int → ByteArray → List Int → ByteArray → List Int → Int → ByteArray → ByteArray → Int → List ByteArray → Option (Bool)
 | 0, _, _, _, _, _, _, _, _, _, _, _, _ => none
 | k + 1, x1, x6, x7, x8, x12, x16, x17, x18, x19, x167, x168, x414000 => if x168 < (x167.size : Int) then (if 0 ≤ x168 then (if (bt x167 x168) < 128 then (if x168 < 1000000000 then (if x168 < (x19.size : Int) then (if x168 < (x16.size : Int) then (if (bt x19 x168) = (bt x16 x168) then (laws_FnLampsTick.l1 k x1 x6 x7 x8 x12 x16 x17 x18 x19 x167 (wrap64 (x168 + 1)) x414000) else (if x168 < (x17.length : Int) then (laws_FnLampsTick.l1 k x1 x6 x7 x8 x12 x16 (x17.set (x168 : Int).toNat (wrap64 ((rd x17 x168) + 1))) x18 x19 x167 (wrap64 (x168 + 1)) x414000) else (none))) else (none)) else (none)) else (none)) else (none)) else (none)) else (laws_FnLampsTick.l0 k x1 x6 x7 x8 x12 x19 x17 (wrap64 (x18 + 1)) x414000)
end
def laws_FnLampsTick.f (k : Nat) (l0 : List Int) (l1 : List Int) : Option (Bool) := (laws_big.f l0 l1).bind fun t407 => (if t407 = true then (some true) else ((spec_DrawTicksAfter.f k l0).bind fun bt408 => ((impl_TicksAfter.f k bt408.1 bt408.2.1 bt408.2.2).bind fun bt414 => ((spec_TicksAfter.f k bt408.1 bt408.2.1 bt408.2.2).bind fun bt416 => ((impl_TimesChanging.f k bt408.1 bt408.2.1 bt408.2.2).bind fun bt418 => ((spec_TimesChanging.f k bt408.1 bt408.2.1 bt408.2.2).bind fun bt422 => (if (bt414.2 != bt416.2) = true then (none) else (if bt414.1.toList = bt416.1.toList then (if (bt418.2 != bt422.2) = true then (none) else ((laws_xSame.f k bt418.1 bt422.1).bind fun t426 => (if t426 = true then (if (bt418.2 != bt414.2) = true then (none) else ((impl_AreLamps.f bt408.1).bind fun t427 => ((spec_AreLamps.f bt408.1).bind fun t428 => (if (t427 != t428) = true then (none) else (if bt414.2 = true then ((impl_AreLamps.f bt408.1).bind fun t429 => (laws_FnLampsTick.j0 k l1 bt408.2.1 bt408.2.2 bt414.1 bt414.2 bt418.1 (!t429) bt408.1)) else (laws_FnLampsTick.j0 k l1 bt408.2.1 bt408.2.2 bt414.1 bt414.2 bt418.1 false bt408.1)))))) else (none)))) else (none)))))))))
theorem laws_FnLampsTick.mono_l : ∀ k, (∀ y0 y1 y2 y3 y4 y5 y6 y7, LeO (laws_FnLampsTick.j0 k y0 y1 y2 y3 y4 y5 y6 y7) (laws_FnLampsTick.j0 (k + 1) y0 y1 y2 y3 y4 y5 y6 y7)) ∧ (∀ y0, LeO (laws_FnLampsTick.j6 k y0) (laws_FnLampsTick.j6 (k + 1) y0)) ∧ (∀ y0 y1 y2 y3 y4 y5 y6 y7 y8 y9 y10 y11, LeO (laws_FnLampsTick.j7 k y0 y1 y2 y3 y4 y5 y6 y7 y8 y9 y10 y11) (laws_FnLampsTick.j7 (k + 1) y0 y1 y2 y3 y4 y5 y6 y7 y8 y9 y10 y11)) ∧ (∀ y0 y1 y2 y3 y4, LeO (laws_FnLampsTick.j11 k y0 y1 y2 y3 y4) (laws_FnLampsTick.j11 (k + 1) y0 y1 y2 y3 y4)) ∧ (∀ y0 y1 y2 y3 y4 y5 y6 y7 y8 y9 y10, LeO (laws_FnLampsTick.j8 k y0 y1 y2 y3 y4 y5 y6 y7 y8 y9 y10) (laws_FnLampsTick.j8 (k + 1) y0 y1 y2 y3 y4 y5 y6 y7 y8 y9 y10)) ∧ (∀ y0 y1 y2 y3 y4 y5 y6 y7 y8 y9 y10 y11 y12, LeO (laws_FnLampsTick.l3 k y0 y1 y2 y3 y4 y5 y6 y7 y8 y9 y10 y11 y12) (laws_FnLampsTick.l3 (k + 1) y0 y1 y2 y3 y4 y5 y6 y7 y8 y9 y10 y11 y12)) ∧ (∀ y0 y1 y2 y3 y4 y5 y6 y7 y8 y9, LeO (laws_FnLampsTick.j10 k y0 y1 y2 y3 y4 y5 y6 y7 y8 y9) (laws_FnLampsTick.j10 (k + 1) y0 y1 y2 y3 y4 y5 y6 y7 y8 y9)) ∧ (∀ y0 y1 y2 y3 y4, LeO (laws_FnLampsTick.j4 k y0 y1 y2 y3 y4) (laws_FnLampsTick.j4 (k + 1) y0 y1 y2 y3 y4)) ∧ (∀ y0 y1 y2 y3 y4 y5 y6, LeO (laws_FnLampsTick.l2 k y0 y1 y2 y3 y4 y5 y6) (laws_FnLampsTick.l2 (k + 1) y0 y1 y2 y3 y4 y5 y6)) ∧ (∀ y0 y1 y2 y3 y4 y5 y6 y7 y8, LeO (laws_FnLampsTick.l0 k y0 y1 y2 y3 y4 y5 y6 y7 y8) (laws_FnLampsTick.l0 (k + 1) y0 y1 y2 y3 y4 y5 y6 y7 y8)) ∧ (∀ y0 y1 y2 y3 y4 y5 y6 y7 y8 y9 y10, LeO (laws_FnLampsTick.j2 k y0 y1 y2 y3 y4 y5 y6 y7 y8 y9 y10) (laws_FnLampsTick.j2 (k + 1) y0 y1 y2 y3 y4 y5 y6 y7 y8 y9 y10)) ∧ (∀ y0 y1 y2 y3 y4 y5 y6 y7 y8 y9 y10 y11, LeO (laws_FnLampsTick.l1 k y0 y1 y2 y3 y4 y5 y6 y7 y8 y9 y10 y11) (laws_FnLampsTick.l1 (k + 1) y0 y1 y2 y3 y4 y5 y6 y7 y8 y9 y10 y11))
 | 0 => ⟨fun _ _ _ _ _ _ _ _ r h => by simp [laws_FnLampsTick.j0] at h, fun _ r h => by simp [laws_FnLampsTick.j6] at h, fun _ _ _ _ _ _ _ _ _ _ _ _ r h => by simp [laws_FnLampsTick.j7] at h, fun _ _ _ _ _ r h => by simp [laws_FnLampsTick.j11] at h, fun _ _ _ _ _ _ _ _ _ _ _ r h => by simp [laws_FnLampsTick.j8] at h, fun _ _ _ _ _ _ _ _ _ _ _ _ _ r h => by simp [laws_FnLampsTick.l3] at h, fun _ _ _ _ _ _ _ _ _ _ r h => by simp [laws_FnLampsTick.j10] at h, fun _ _ _ _ _ r h => by simp [laws_FnLampsTick.j4] at h, fun _ _ _ _ _ _ _ r h => by simp [laws_FnLampsTick.l2] at h, fun _ _ _ _ _ _ _ _ _ r h => by simp [laws_FnLampsTick.l0] at h, fun _ _ _ _ _ _ _ _ _ _ _ r h => by simp [laws_FnLampsTick.j2] at h, fun _ _ _ _ _ _ _ _ _ _ _ _ r h => by simp [laws_FnLampsTick.l1] at h⟩
 | k + 1 => by
  obtain ⟨ih0, ih1, ih2, ih3, ih4, ih5, ih6, ih7, ih8, ih9, ih10, ih11⟩ := laws_FnLampsTick.mono_l k
  refine ⟨?_, ?_, ?_, ?_, ?_, ?_, ?_, ?_, ?_, ?_, ?_, ?_⟩
  ·intro y0 y1 y2 y3 y4 y5 y6 y7
   unfold laws_FnLampsTick.j0
   repeat' first
   | wE ih0 _ _ _ _ _ _ _ _
   | wE ih1 _
   | wE ih2 _ _ _ _ _ _ _ _ _ _ _ _
   | wE ih3 _ _ _ _ _
   | wE ih4 _ _ _ _ _ _ _ _ _ _ _
   | wE ih5 _ _ _ _ _ _ _ _ _ _ _ _ _
   | wE ih6 _ _ _ _ _ _ _ _ _ _
   | wE ih7 _ _ _ _ _
   | wE ih8 _ _ _ _ _ _ _
   | wE ih9 _ _ _ _ _ _ _ _ _
   | wE ih10 _ _ _ _ _ _ _ _ _ _ _
   | wE ih11 _ _ _ _ _ _ _ _ _ _ _ _
   | wE impl_TicksAfter.mono _ _ _ _
   | wE impl_TimesChanging.mono _ _ _ _
   | wE laws_xSame.mono _ _ _
   | wE laws_xText.mono _ _ _
   | wE laws_xTexts.mono _ _ _
   | wE spec_CycleOfLamps.mono _ _ _
   | wE spec_DrawCycleOfLamps.mono _ _
   | wE spec_DrawFirstTick.mono _ _
   | wE spec_DrawTicksAfter.mono _ _
   | wE spec_FirstTick.mono _ _ _ _
   | wE spec_LeadOfLamps.mono _ _ _
   | wE spec_TicksAfter.mono _ _ _ _
   | wE spec_TimesChanging.mono _ _ _ _
   | wE LeO.refl _
   | wE LeO.none _
   | wR LeO.ite ?_ ?_
   | wR LeO.bind ?_ (fun _ => ?_)
   | exact ih0 _ _ _ _ _ _ _ _
   | exact ih1 _
   | exact ih2 _ _ _ _ _ _ _ _ _ _ _ _
   | exact ih3 _ _ _ _ _
   | exact ih4 _ _ _ _ _ _ _ _ _ _ _
   | exact ih5 _ _ _ _ _ _ _ _ _ _ _ _ _
   | exact ih6 _ _ _ _ _ _ _ _ _ _
   | exact ih7 _ _ _ _ _
   | exact ih8 _ _ _ _ _ _ _
   | exact ih9 _ _ _ _ _ _ _ _ _
   | exact ih10 _ _ _ _ _ _ _ _ _ _ _
   | exact ih11 _ _ _ _ _ _ _ _ _ _ _ _
   | exact impl_TicksAfter.mono _ _ _ _
   | exact impl_TimesChanging.mono _ _ _ _
   | exact laws_xSame.mono _ _ _
   | exact laws_xText.mono _ _ _
   | exact laws_xTexts.mono _ _ _
   | exact spec_CycleOfLamps.mono _ _ _
   | exact spec_DrawCycleOfLamps.mono _ _
   | exact spec_DrawFirstTick.mono _ _
   | exact spec_DrawTicksAfter.mono _ _
   | exact spec_FirstTick.mono _ _ _ _
   | exact spec_LeadOfLamps.mono _ _ _
   | exact spec_TicksAfter.mono _ _ _ _
   | exact spec_TimesChanging.mono _ _ _ _
   | exact LeO.none _
   | refine LeO.ite ?_ ?_
   | refine LeO.bind ?_ (fun _ => ?_)
  ·intro y0
   unfold laws_FnLampsTick.j6
   repeat' first
   | wE ih0 _ _ _ _ _ _ _ _
   | wE ih1 _
   | wE ih2 _ _ _ _ _ _ _ _ _ _ _ _
   | wE ih3 _ _ _ _ _
   | wE ih4 _ _ _ _ _ _ _ _ _ _ _
   | wE ih5 _ _ _ _ _ _ _ _ _ _ _ _ _
   | wE ih6 _ _ _ _ _ _ _ _ _ _
   | wE ih7 _ _ _ _ _
   | wE ih8 _ _ _ _ _ _ _
   | wE ih9 _ _ _ _ _ _ _ _ _
   | wE ih10 _ _ _ _ _ _ _ _ _ _ _
   | wE ih11 _ _ _ _ _ _ _ _ _ _ _ _
   | wE impl_TicksAfter.mono _ _ _ _
   | wE impl_TimesChanging.mono _ _ _ _
   | wE laws_xSame.mono _ _ _
   | wE laws_xText.mono _ _ _
   | wE laws_xTexts.mono _ _ _
   | wE spec_CycleOfLamps.mono _ _ _
   | wE spec_DrawCycleOfLamps.mono _ _
   | wE spec_DrawFirstTick.mono _ _
   | wE spec_DrawTicksAfter.mono _ _
   | wE spec_FirstTick.mono _ _ _ _
   | wE spec_LeadOfLamps.mono _ _ _
   | wE spec_TicksAfter.mono _ _ _ _
   | wE spec_TimesChanging.mono _ _ _ _
   | wE LeO.refl _
   | wE LeO.none _
   | wR LeO.ite ?_ ?_
   | wR LeO.bind ?_ (fun _ => ?_)
   | exact ih0 _ _ _ _ _ _ _ _
   | exact ih1 _
   | exact ih2 _ _ _ _ _ _ _ _ _ _ _ _
   | exact ih3 _ _ _ _ _
   | exact ih4 _ _ _ _ _ _ _ _ _ _ _
   | exact ih5 _ _ _ _ _ _ _ _ _ _ _ _ _
   | exact ih6 _ _ _ _ _ _ _ _ _ _
   | exact ih7 _ _ _ _ _
   | exact ih8 _ _ _ _ _ _ _
   | exact ih9 _ _ _ _ _ _ _ _ _
   | exact ih10 _ _ _ _ _ _ _ _ _ _ _
   | exact ih11 _ _ _ _ _ _ _ _ _ _ _ _
   | exact impl_TicksAfter.mono _ _ _ _
   | exact impl_TimesChanging.mono _ _ _ _
   | exact laws_xSame.mono _ _ _
   | exact laws_xText.mono _ _ _
   | exact laws_xTexts.mono _ _ _
   | exact spec_CycleOfLamps.mono _ _ _
   | exact spec_DrawCycleOfLamps.mono _ _
   | exact spec_DrawFirstTick.mono _ _
   | exact spec_DrawTicksAfter.mono _ _
   | exact spec_FirstTick.mono _ _ _ _
   | exact spec_LeadOfLamps.mono _ _ _
   | exact spec_TicksAfter.mono _ _ _ _
   | exact spec_TimesChanging.mono _ _ _ _
   | exact LeO.none _
   | refine LeO.ite ?_ ?_
   | refine LeO.bind ?_ (fun _ => ?_)
  ·intro y0 y1 y2 y3 y4 y5 y6 y7 y8 y9 y10 y11
   unfold laws_FnLampsTick.j7
   repeat' first
   | wE ih0 _ _ _ _ _ _ _ _
   | wE ih1 _
   | wE ih2 _ _ _ _ _ _ _ _ _ _ _ _
   | wE ih3 _ _ _ _ _
   | wE ih4 _ _ _ _ _ _ _ _ _ _ _
   | wE ih5 _ _ _ _ _ _ _ _ _ _ _ _ _
   | wE ih6 _ _ _ _ _ _ _ _ _ _
   | wE ih7 _ _ _ _ _
   | wE ih8 _ _ _ _ _ _ _
   | wE ih9 _ _ _ _ _ _ _ _ _
   | wE ih10 _ _ _ _ _ _ _ _ _ _ _
   | wE ih11 _ _ _ _ _ _ _ _ _ _ _ _
   | wE impl_TicksAfter.mono _ _ _ _
   | wE impl_TimesChanging.mono _ _ _ _
   | wE laws_xSame.mono _ _ _
   | wE laws_xText.mono _ _ _
   | wE laws_xTexts.mono _ _ _
   | wE spec_CycleOfLamps.mono _ _ _
   | wE spec_DrawCycleOfLamps.mono _ _
   | wE spec_DrawFirstTick.mono _ _
   | wE spec_DrawTicksAfter.mono _ _
   | wE spec_FirstTick.mono _ _ _ _
   | wE spec_LeadOfLamps.mono _ _ _
   | wE spec_TicksAfter.mono _ _ _ _
   | wE spec_TimesChanging.mono _ _ _ _
   | wE LeO.refl _
   | wE LeO.none _
   | wR LeO.ite ?_ ?_
   | wR LeO.bind ?_ (fun _ => ?_)
   | exact ih0 _ _ _ _ _ _ _ _
   | exact ih1 _
   | exact ih2 _ _ _ _ _ _ _ _ _ _ _ _
   | exact ih3 _ _ _ _ _
   | exact ih4 _ _ _ _ _ _ _ _ _ _ _
   | exact ih5 _ _ _ _ _ _ _ _ _ _ _ _ _
   | exact ih6 _ _ _ _ _ _ _ _ _ _
   | exact ih7 _ _ _ _ _
   | exact ih8 _ _ _ _ _ _ _
   | exact ih9 _ _ _ _ _ _ _ _ _
   | exact ih10 _ _ _ _ _ _ _ _ _ _ _
   | exact ih11 _ _ _ _ _ _ _ _ _ _ _ _
   | exact impl_TicksAfter.mono _ _ _ _
   | exact impl_TimesChanging.mono _ _ _ _
   | exact laws_xSame.mono _ _ _
   | exact laws_xText.mono _ _ _
   | exact laws_xTexts.mono _ _ _
   | exact spec_CycleOfLamps.mono _ _ _
   | exact spec_DrawCycleOfLamps.mono _ _
   | exact spec_DrawFirstTick.mono _ _
   | exact spec_DrawTicksAfter.mono _ _
   | exact spec_FirstTick.mono _ _ _ _
   | exact spec_LeadOfLamps.mono _ _ _
   | exact spec_TicksAfter.mono _ _ _ _
   | exact spec_TimesChanging.mono _ _ _ _
   | exact LeO.none _
   | refine LeO.ite ?_ ?_
   | refine LeO.bind ?_ (fun _ => ?_)
  ·intro y0 y1 y2 y3 y4
   unfold laws_FnLampsTick.j11
   repeat' first
   | wE ih0 _ _ _ _ _ _ _ _
   | wE ih1 _
   | wE ih2 _ _ _ _ _ _ _ _ _ _ _ _
   | wE ih3 _ _ _ _ _
   | wE ih4 _ _ _ _ _ _ _ _ _ _ _
   | wE ih5 _ _ _ _ _ _ _ _ _ _ _ _ _
   | wE ih6 _ _ _ _ _ _ _ _ _ _
   | wE ih7 _ _ _ _ _
   | wE ih8 _ _ _ _ _ _ _
   | wE ih9 _ _ _ _ _ _ _ _ _
   | wE ih10 _ _ _ _ _ _ _ _ _ _ _
   | wE ih11 _ _ _ _ _ _ _ _ _ _ _ _
   | wE impl_TicksAfter.mono _ _ _ _
   | wE impl_TimesChanging.mono _ _ _ _
   | wE laws_xSame.mono _ _ _
   | wE laws_xText.mono _ _ _
   | wE laws_xTexts.mono _ _ _
   | wE spec_CycleOfLamps.mono _ _ _
   | wE spec_DrawCycleOfLamps.mono _ _
   | wE spec_DrawFirstTick.mono _ _
   | wE spec_DrawTicksAfter.mono _ _
   | wE spec_FirstTick.mono _ _ _ _
   | wE spec_LeadOfLamps.mono _ _ _
   | wE spec_TicksAfter.mono _ _ _ _
   | wE spec_TimesChanging.mono _ _ _ _
   | wE LeO.refl _
   | wE LeO.none _
   | wR LeO.ite ?_ ?_
   | wR LeO.bind ?_ (fun _ => ?_)
   | exact ih0 _ _ _ _ _ _ _ _
   | exact ih1 _
   | exact ih2 _ _ _ _ _ _ _ _ _ _ _ _
   | exact ih3 _ _ _ _ _
   | exact ih4 _ _ _ _ _ _ _ _ _ _ _
   | exact ih5 _ _ _ _ _ _ _ _ _ _ _ _ _
   | exact ih6 _ _ _ _ _ _ _ _ _ _
   | exact ih7 _ _ _ _ _
   | exact ih8 _ _ _ _ _ _ _
   | exact ih9 _ _ _ _ _ _ _ _ _
   | exact ih10 _ _ _ _ _ _ _ _ _ _ _
   | exact ih11 _ _ _ _ _ _ _ _ _ _ _ _
   | exact impl_TicksAfter.mono _ _ _ _
   | exact impl_TimesChanging.mono _ _ _ _
   | exact laws_xSame.mono _ _ _
   | exact laws_xText.mono _ _ _
   | exact laws_xTexts.mono _ _ _
   | exact spec_CycleOfLamps.mono _ _ _
   | exact spec_DrawCycleOfLamps.mono _ _
   | exact spec_DrawFirstTick.mono _ _
   | exact spec_DrawTicksAfter.mono _ _
   | exact spec_FirstTick.mono _ _ _ _
   | exact spec_LeadOfLamps.mono _ _ _
   | exact spec_TicksAfter.mono _ _ _ _
   | exact spec_TimesChanging.mono _ _ _ _
   | exact LeO.none _
   | refine LeO.ite ?_ ?_
   | refine LeO.bind ?_ (fun _ => ?_)
  ·intro y0 y1 y2 y3 y4 y5 y6 y7 y8 y9 y10
   unfold laws_FnLampsTick.j8
   repeat' first
   | wE ih0 _ _ _ _ _ _ _ _
   | wE ih1 _
   | wE ih2 _ _ _ _ _ _ _ _ _ _ _ _
   | wE ih3 _ _ _ _ _
   | wE ih4 _ _ _ _ _ _ _ _ _ _ _
   | wE ih5 _ _ _ _ _ _ _ _ _ _ _ _ _
   | wE ih6 _ _ _ _ _ _ _ _ _ _
   | wE ih7 _ _ _ _ _
   | wE ih8 _ _ _ _ _ _ _
   | wE ih9 _ _ _ _ _ _ _ _ _
   | wE ih10 _ _ _ _ _ _ _ _ _ _ _
   | wE ih11 _ _ _ _ _ _ _ _ _ _ _ _
   | wE impl_TicksAfter.mono _ _ _ _
   | wE impl_TimesChanging.mono _ _ _ _
   | wE laws_xSame.mono _ _ _
   | wE laws_xText.mono _ _ _
   | wE laws_xTexts.mono _ _ _
   | wE spec_CycleOfLamps.mono _ _ _
   | wE spec_DrawCycleOfLamps.mono _ _
   | wE spec_DrawFirstTick.mono _ _
   | wE spec_DrawTicksAfter.mono _ _
   | wE spec_FirstTick.mono _ _ _ _
   | wE spec_LeadOfLamps.mono _ _ _
   | wE spec_TicksAfter.mono _ _ _ _
   | wE spec_TimesChanging.mono _ _ _ _
   | wE LeO.refl _
   | wE LeO.none _
   | wR LeO.ite ?_ ?_
   | wR LeO.bind ?_ (fun _ => ?_)
   | exact ih0 _ _ _ _ _ _ _ _
   | exact ih1 _
   | exact ih2 _ _ _ _ _ _ _ _ _ _ _ _
   | exact ih3 _ _ _ _ _
   | exact ih4 _ _ _ _ _ _ _ _ _ _ _
   | exact ih5 _ _ _ _ _ _ _ _ _ _ _ _ _
   | exact ih6 _ _ _ _ _ _ _ _ _ _
   | exact ih7 _ _ _ _ _
   | exact ih8 _ _ _ _ _ _ _
   | exact ih9 _ _ _ _ _ _ _ _ _
   | exact ih10 _ _ _ _ _ _ _ _ _ _ _
   | exact ih11 _ _ _ _ _ _ _ _ _ _ _ _
   | exact impl_TicksAfter.mono _ _ _ _
   | exact impl_TimesChanging.mono _ _ _ _
   | exact laws_xSame.mono _ _ _
   | exact laws_xText.mono _ _ _
   | exact laws_xTexts.mono _ _ _
   | exact spec_CycleOfLamps.mono _ _ _
   | exact spec_DrawCycleOfLamps.mono _ _
   | exact spec_DrawFirstTick.mono _ _
   | exact spec_DrawTicksAfter.mono _ _
   | exact spec_FirstTick.mono _ _ _ _
   | exact spec_LeadOfLamps.mono _ _ _
   | exact spec_TicksAfter.mono _ _ _ _
   | exact spec_TimesChanging.mono _ _ _ _
   | exact LeO.none _
   | refine LeO.ite ?_ ?_
   | refine LeO.bind ?_ (fun _ => ?_)
  ·intro y0 y1 y2 y3 y4 y5 y6 y7 y8 y9 y10 y11 y12
   unfold laws_FnLampsTick.l3
   repeat' first
   | wE ih0 _ _ _ _ _ _ _ _
   | wE ih1 _
   | wE ih2 _ _ _ _ _ _ _ _ _ _ _ _
   | wE ih3 _ _ _ _ _
   | wE ih4 _ _ _ _ _ _ _ _ _ _ _
   | wE ih5 _ _ _ _ _ _ _ _ _ _ _ _ _
   | wE ih6 _ _ _ _ _ _ _ _ _ _
   | wE ih7 _ _ _ _ _
   | wE ih8 _ _ _ _ _ _ _
   | wE ih9 _ _ _ _ _ _ _ _ _
   | wE ih10 _ _ _ _ _ _ _ _ _ _ _
   | wE ih11 _ _ _ _ _ _ _ _ _ _ _ _
   | wE impl_TicksAfter.mono _ _ _ _
   | wE impl_TimesChanging.mono _ _ _ _
   | wE laws_xSame.mono _ _ _
   | wE laws_xText.mono _ _ _
   | wE laws_xTexts.mono _ _ _
   | wE spec_CycleOfLamps.mono _ _ _
   | wE spec_DrawCycleOfLamps.mono _ _
   | wE spec_DrawFirstTick.mono _ _
   | wE spec_DrawTicksAfter.mono _ _
   | wE spec_FirstTick.mono _ _ _ _
   | wE spec_LeadOfLamps.mono _ _ _
   | wE spec_TicksAfter.mono _ _ _ _
   | wE spec_TimesChanging.mono _ _ _ _
   | wE LeO.refl _
   | wE LeO.none _
   | wR LeO.ite ?_ ?_
   | wR LeO.bind ?_ (fun _ => ?_)
   | exact ih0 _ _ _ _ _ _ _ _
   | exact ih1 _
   | exact ih2 _ _ _ _ _ _ _ _ _ _ _ _
   | exact ih3 _ _ _ _ _
   | exact ih4 _ _ _ _ _ _ _ _ _ _ _
   | exact ih5 _ _ _ _ _ _ _ _ _ _ _ _ _
   | exact ih6 _ _ _ _ _ _ _ _ _ _
   | exact ih7 _ _ _ _ _
   | exact ih8 _ _ _ _ _ _ _
   | exact ih9 _ _ _ _ _ _ _ _ _
   | exact ih10 _ _ _ _ _ _ _ _ _ _ _
   | exact ih11 _ _ _ _ _ _ _ _ _ _ _ _
   | exact impl_TicksAfter.mono _ _ _ _
   | exact impl_TimesChanging.mono _ _ _ _
   | exact laws_xSame.mono _ _ _
   | exact laws_xText.mono _ _ _
   | exact laws_xTexts.mono _ _ _
   | exact spec_CycleOfLamps.mono _ _ _
   | exact spec_DrawCycleOfLamps.mono _ _
   | exact spec_DrawFirstTick.mono _ _
   | exact spec_DrawTicksAfter.mono _ _
   | exact spec_FirstTick.mono _ _ _ _
   | exact spec_LeadOfLamps.mono _ _ _
   | exact spec_TicksAfter.mono _ _ _ _
   | exact spec_TimesChanging.mono _ _ _ _
   | exact LeO.none _
   | refine LeO.ite ?_ ?_
   | refine LeO.bind ?_ (fun _ => ?_)
  ·intro y0 y1 y2 y3 y4 y5 y6 y7 y8 y9
   unfold laws_FnLampsTick.j10
   repeat' first
   | wE ih0 _ _ _ _ _ _ _ _
   | wE ih1 _
   | wE ih2 _ _ _ _ _ _ _ _ _ _ _ _
   | wE ih3 _ _ _ _ _
   | wE ih4 _ _ _ _ _ _ _ _ _ _ _
   | wE ih5 _ _ _ _ _ _ _ _ _ _ _ _ _
   | wE ih6 _ _ _ _ _ _ _ _ _ _
   | wE ih7 _ _ _ _ _
   | wE ih8 _ _ _ _ _ _ _
   | wE ih9 _ _ _ _ _ _ _ _ _
   | wE ih10 _ _ _ _ _ _ _ _ _ _ _
   | wE ih11 _ _ _ _ _ _ _ _ _ _ _ _
   | wE impl_TicksAfter.mono _ _ _ _
   | wE impl_TimesChanging.mono _ _ _ _
   | wE laws_xSame.mono _ _ _
   | wE laws_xText.mono _ _ _
   | wE laws_xTexts.mono _ _ _
   | wE spec_CycleOfLamps.mono _ _ _
   | wE spec_DrawCycleOfLamps.mono _ _
   | wE spec_DrawFirstTick.mono _ _
   | wE spec_DrawTicksAfter.mono _ _
   | wE spec_FirstTick.mono _ _ _ _
   | wE spec_LeadOfLamps.mono _ _ _
   | wE spec_TicksAfter.mono _ _ _ _
   | wE spec_TimesChanging.mono _ _ _ _
   | wE LeO.refl _
   | wE LeO.none _
   | wR LeO.ite ?_ ?_
   | wR LeO.bind ?_ (fun _ => ?_)
   | exact ih0 _ _ _ _ _ _ _ _
   | exact ih1 _
   | exact ih2 _ _ _ _ _ _ _ _ _ _ _ _
   | exact ih3 _ _ _ _ _
   | exact ih4 _ _ _ _ _ _ _ _ _ _ _
   | exact ih5 _ _ _ _ _ _ _ _ _ _ _ _ _
   | exact ih6 _ _ _ _ _ _ _ _ _ _
   | exact ih7 _ _ _ _ _
   | exact ih8 _ _ _ _ _ _ _
   | exact ih9 _ _ _ _ _ _ _ _ _
   | exact ih10 _ _ _ _ _ _ _ _ _ _ _
   | exact ih11 _ _ _ _ _ _ _ _ _ _ _ _
   | exact impl_TicksAfter.mono _ _ _ _
   | exact impl_TimesChanging.mono _ _ _ _
   | exact laws_xSame.mono _ _ _
   | exact laws_xText.mono _ _ _
   | exact laws_xTexts.mono _ _ _
   | exact spec_CycleOfLamps.mono _ _ _
   | exact spec_DrawCycleOfLamps.mono _ _
   | exact spec_DrawFirstTick.mono _ _
   | exact spec_DrawTicksAfter.mono _ _
   | exact spec_FirstTick.mono _ _ _ _
   | exact spec_LeadOfLamps.mono _ _ _
   | exact spec_TicksAfter.mono _ _ _ _
   | exact spec_TimesChanging.mono _ _ _ _
   | exact LeO.none _
   | refine LeO.ite ?_ ?_
   | refine LeO.bind ?_ (fun _ => ?_)
  ·intro y0 y1 y2 y3 y4
   unfold laws_FnLampsTick.j4
   repeat' first
   | wE ih0 _ _ _ _ _ _ _ _
   | wE ih1 _
   | wE ih2 _ _ _ _ _ _ _ _ _ _ _ _
   | wE ih3 _ _ _ _ _
   | wE ih4 _ _ _ _ _ _ _ _ _ _ _
   | wE ih5 _ _ _ _ _ _ _ _ _ _ _ _ _
   | wE ih6 _ _ _ _ _ _ _ _ _ _
   | wE ih7 _ _ _ _ _
   | wE ih8 _ _ _ _ _ _ _
   | wE ih9 _ _ _ _ _ _ _ _ _
   | wE ih10 _ _ _ _ _ _ _ _ _ _ _
   | wE ih11 _ _ _ _ _ _ _ _ _ _ _ _
   | wE impl_TicksAfter.mono _ _ _ _
   | wE impl_TimesChanging.mono _ _ _ _
   | wE laws_xSame.mono _ _ _
   | wE laws_xText.mono _ _ _
   | wE laws_xTexts.mono _ _ _
   | wE spec_CycleOfLamps.mono _ _ _
   | wE spec_DrawCycleOfLamps.mono _ _
   | wE spec_DrawFirstTick.mono _ _
   | wE spec_DrawTicksAfter.mono _ _
   | wE spec_FirstTick.mono _ _ _ _
   | wE spec_LeadOfLamps.mono _ _ _
   | wE spec_TicksAfter.mono _ _ _ _
   | wE spec_TimesChanging.mono _ _ _ _
   | wE LeO.refl _
   | wE LeO.none _
   | wR LeO.ite ?_ ?_
   | wR LeO.bind ?_ (fun _ => ?_)
   | exact ih0 _ _ _ _ _ _ _ _
   | exact ih1 _
   | exact ih2 _ _ _ _ _ _ _ _ _ _ _ _
   | exact ih3 _ _ _ _ _
   | exact ih4 _ _ _ _ _ _ _ _ _ _ _
   | exact ih5 _ _ _ _ _ _ _ _ _ _ _ _ _
   | exact ih6 _ _ _ _ _ _ _ _ _ _
   | exact ih7 _ _ _ _ _
   | exact ih8 _ _ _ _ _ _ _
   | exact ih9 _ _ _ _ _ _ _ _ _
   | exact ih10 _ _ _ _ _ _ _ _ _ _ _
   | exact ih11 _ _ _ _ _ _ _ _ _ _ _ _
   | exact impl_TicksAfter.mono _ _ _ _
   | exact impl_TimesChanging.mono _ _ _ _
   | exact laws_xSame.mono _ _ _
   | exact laws_xText.mono _ _ _
   | exact laws_xTexts.mono _ _ _
   | exact spec_CycleOfLamps.mono _ _ _
   | exact spec_DrawCycleOfLamps.mono _ _
   | exact spec_DrawFirstTick.mono _ _
   | exact spec_DrawTicksAfter.mono _ _
   | exact spec_FirstTick.mono _ _ _ _
   | exact spec_LeadOfLamps.mono _ _ _
   | exact spec_TicksAfter.mono _ _ _ _
   | exact spec_TimesChanging.mono _ _ _ _
   | exact LeO.none _
   | refine LeO.ite ?_ ?_
   | refine LeO.bind ?_ (fun _ => ?_)
  ·intro y0 y1 y2 y3 y4 y5 y6
   unfold laws_FnLampsTick.l2
   repeat' first
   | wE ih0 _ _ _ _ _ _ _ _
   | wE ih1 _
   | wE ih2 _ _ _ _ _ _ _ _ _ _ _ _
   | wE ih3 _ _ _ _ _
   | wE ih4 _ _ _ _ _ _ _ _ _ _ _
   | wE ih5 _ _ _ _ _ _ _ _ _ _ _ _ _
   | wE ih6 _ _ _ _ _ _ _ _ _ _
   | wE ih7 _ _ _ _ _
   | wE ih8 _ _ _ _ _ _ _
   | wE ih9 _ _ _ _ _ _ _ _ _
   | wE ih10 _ _ _ _ _ _ _ _ _ _ _
   | wE ih11 _ _ _ _ _ _ _ _ _ _ _ _
   | wE impl_TicksAfter.mono _ _ _ _
   | wE impl_TimesChanging.mono _ _ _ _
   | wE laws_xSame.mono _ _ _
   | wE laws_xText.mono _ _ _
   | wE laws_xTexts.mono _ _ _
   | wE spec_CycleOfLamps.mono _ _ _
   | wE spec_DrawCycleOfLamps.mono _ _
   | wE spec_DrawFirstTick.mono _ _
   | wE spec_DrawTicksAfter.mono _ _
   | wE spec_FirstTick.mono _ _ _ _
   | wE spec_LeadOfLamps.mono _ _ _
   | wE spec_TicksAfter.mono _ _ _ _
   | wE spec_TimesChanging.mono _ _ _ _
   | wE LeO.refl _
   | wE LeO.none _
   | wR LeO.ite ?_ ?_
   | wR LeO.bind ?_ (fun _ => ?_)
   | exact ih0 _ _ _ _ _ _ _ _
   | exact ih1 _
   | exact ih2 _ _ _ _ _ _ _ _ _ _ _ _
   | exact ih3 _ _ _ _ _
   | exact ih4 _ _ _ _ _ _ _ _ _ _ _
   | exact ih5 _ _ _ _ _ _ _ _ _ _ _ _ _
   | exact ih6 _ _ _ _ _ _ _ _ _ _
   | exact ih7 _ _ _ _ _
   | exact ih8 _ _ _ _ _ _ _
   | exact ih9 _ _ _ _ _ _ _ _ _
   | exact ih10 _ _ _ _ _ _ _ _ _ _ _
   | exact ih11 _ _ _ _ _ _ _ _ _ _ _ _
   | exact impl_TicksAfter.mono _ _ _ _
   | exact impl_TimesChanging.mono _ _ _ _
   | exact laws_xSame.mono _ _ _
   | exact laws_xText.mono _ _ _
   | exact laws_xTexts.mono _ _ _
   | exact spec_CycleOfLamps.mono _ _ _
   | exact spec_DrawCycleOfLamps.mono _ _
   | exact spec_DrawFirstTick.mono _ _
   | exact spec_DrawTicksAfter.mono _ _
   | exact spec_FirstTick.mono _ _ _ _
   | exact spec_LeadOfLamps.mono _ _ _
   | exact spec_TicksAfter.mono _ _ _ _
   | exact spec_TimesChanging.mono _ _ _ _
   | exact LeO.none _
   | refine LeO.ite ?_ ?_
   | refine LeO.bind ?_ (fun _ => ?_)
  ·intro y0 y1 y2 y3 y4 y5 y6 y7 y8
   unfold laws_FnLampsTick.l0
   repeat' first
   | wE ih0 _ _ _ _ _ _ _ _
   | wE ih1 _
   | wE ih2 _ _ _ _ _ _ _ _ _ _ _ _
   | wE ih3 _ _ _ _ _
   | wE ih4 _ _ _ _ _ _ _ _ _ _ _
   | wE ih5 _ _ _ _ _ _ _ _ _ _ _ _ _
   | wE ih6 _ _ _ _ _ _ _ _ _ _
   | wE ih7 _ _ _ _ _
   | wE ih8 _ _ _ _ _ _ _
   | wE ih9 _ _ _ _ _ _ _ _ _
   | wE ih10 _ _ _ _ _ _ _ _ _ _ _
   | wE ih11 _ _ _ _ _ _ _ _ _ _ _ _
   | wE impl_TicksAfter.mono _ _ _ _
   | wE impl_TimesChanging.mono _ _ _ _
   | wE laws_xSame.mono _ _ _
   | wE laws_xText.mono _ _ _
   | wE laws_xTexts.mono _ _ _
   | wE spec_CycleOfLamps.mono _ _ _
   | wE spec_DrawCycleOfLamps.mono _ _
   | wE spec_DrawFirstTick.mono _ _
   | wE spec_DrawTicksAfter.mono _ _
   | wE spec_FirstTick.mono _ _ _ _
   | wE spec_LeadOfLamps.mono _ _ _
   | wE spec_TicksAfter.mono _ _ _ _
   | wE spec_TimesChanging.mono _ _ _ _
   | wE LeO.refl _
   | wE LeO.none _
   | wR LeO.ite ?_ ?_
   | wR LeO.bind ?_ (fun _ => ?_)
   | exact ih0 _ _ _ _ _ _ _ _
   | exact ih1 _
   | exact ih2 _ _ _ _ _ _ _ _ _ _ _ _
   | exact ih3 _ _ _ _ _
   | exact ih4 _ _ _ _ _ _ _ _ _ _ _
   | exact ih5 _ _ _ _ _ _ _ _ _ _ _ _ _
   | exact ih6 _ _ _ _ _ _ _ _ _ _
   | exact ih7 _ _ _ _ _
   | exact ih8 _ _ _ _ _ _ _
   | exact ih9 _ _ _ _ _ _ _ _ _
   | exact ih10 _ _ _ _ _ _ _ _ _ _ _
   | exact ih11 _ _ _ _ _ _ _ _ _ _ _ _
   | exact impl_TicksAfter.mono _ _ _ _
   | exact impl_TimesChanging.mono _ _ _ _
   | exact laws_xSame.mono _ _ _
   | exact laws_xText.mono _ _ _
   | exact laws_xTexts.mono _ _ _
   | exact spec_CycleOfLamps.mono _ _ _
   | exact spec_DrawCycleOfLamps.mono _ _
   | exact spec_DrawFirstTick.mono _ _
   | exact spec_DrawTicksAfter.mono _ _
   | exact spec_FirstTick.mono _ _ _ _
   | exact spec_LeadOfLamps.mono _ _ _
   | exact spec_TicksAfter.mono _ _ _ _
   | exact spec_TimesChanging.mono _ _ _ _
   | exact LeO.none _
   | refine LeO.ite ?_ ?_
   | refine LeO.bind ?_ (fun _ => ?_)
  ·intro y0 y1 y2 y3 y4 y5 y6 y7 y8 y9 y10
   unfold laws_FnLampsTick.j2
   repeat' first
   | wE ih0 _ _ _ _ _ _ _ _
   | wE ih1 _
   | wE ih2 _ _ _ _ _ _ _ _ _ _ _ _
   | wE ih3 _ _ _ _ _
   | wE ih4 _ _ _ _ _ _ _ _ _ _ _
   | wE ih5 _ _ _ _ _ _ _ _ _ _ _ _ _
   | wE ih6 _ _ _ _ _ _ _ _ _ _
   | wE ih7 _ _ _ _ _
   | wE ih8 _ _ _ _ _ _ _
   | wE ih9 _ _ _ _ _ _ _ _ _
   | wE ih10 _ _ _ _ _ _ _ _ _ _ _
   | wE ih11 _ _ _ _ _ _ _ _ _ _ _ _
   | wE impl_TicksAfter.mono _ _ _ _
   | wE impl_TimesChanging.mono _ _ _ _
   | wE laws_xSame.mono _ _ _
   | wE laws_xText.mono _ _ _
   | wE laws_xTexts.mono _ _ _
   | wE spec_CycleOfLamps.mono _ _ _
   | wE spec_DrawCycleOfLamps.mono _ _
   | wE spec_DrawFirstTick.mono _ _
   | wE spec_DrawTicksAfter.mono _ _
   | wE spec_FirstTick.mono _ _ _ _
   | wE spec_LeadOfLamps.mono _ _ _
   | wE spec_TicksAfter.mono _ _ _ _
   | wE spec_TimesChanging.mono _ _ _ _
   | wE LeO.refl _
   | wE LeO.none _
   | wR LeO.ite ?_ ?_
   | wR LeO.bind ?_ (fun _ => ?_)
   | exact ih0 _ _ _ _ _ _ _ _
   | exact ih1 _
   | exact ih2 _ _ _ _ _ _ _ _ _ _ _ _
   | exact ih3 _ _ _ _ _
   | exact ih4 _ _ _ _ _ _ _ _ _ _ _
   | exact ih5 _ _ _ _ _ _ _ _ _ _ _ _ _
   | exact ih6 _ _ _ _ _ _ _ _ _ _
   | exact ih7 _ _ _ _ _
   | exact ih8 _ _ _ _ _ _ _
   | exact ih9 _ _ _ _ _ _ _ _ _
   | exact ih10 _ _ _ _ _ _ _ _ _ _ _
   | exact ih11 _ _ _ _ _ _ _ _ _ _ _ _
   | exact impl_TicksAfter.mono _ _ _ _
   | exact impl_TimesChanging.mono _ _ _ _
   | exact laws_xSame.mono _ _ _
   | exact laws_xText.mono _ _ _
   | exact laws_xTexts.mono _ _ _
   | exact spec_CycleOfLamps.mono _ _ _
   | exact spec_DrawCycleOfLamps.mono _ _
   | exact spec_DrawFirstTick.mono _ _
   | exact spec_DrawTicksAfter.mono _ _
   | exact spec_FirstTick.mono _ _ _ _
   | exact spec_LeadOfLamps.mono _ _ _
   | exact spec_TicksAfter.mono _ _ _ _
   | exact spec_TimesChanging.mono _ _ _ _
   | exact LeO.none _
   | refine LeO.ite ?_ ?_
   | refine LeO.bind ?_ (fun _ => ?_)
  ·intro y0 y1 y2 y3 y4 y5 y6 y7 y8 y9 y10 y11
   unfold laws_FnLampsTick.l1
   repeat' first
   | wE ih0 _ _ _ _ _ _ _ _
   | wE ih1 _
   | wE ih2 _ _ _ _ _ _ _ _ _ _ _ _
   | wE ih3 _ _ _ _ _
   | wE ih4 _ _ _ _ _ _ _ _ _ _ _
   | wE ih5 _ _ _ _ _ _ _ _ _ _ _ _ _
   | wE ih6 _ _ _ _ _ _ _ _ _ _
   | wE ih7 _ _ _ _ _
   | wE ih8 _ _ _ _ _ _ _
   | wE ih9 _ _ _ _ _ _ _ _ _
   | wE ih10 _ _ _ _ _ _ _ _ _ _ _
   | wE ih11 _ _ _ _ _ _ _ _ _ _ _ _
   | wE impl_TicksAfter.mono _ _ _ _
   | wE impl_TimesChanging.mono _ _ _ _
   | wE laws_xSame.mono _ _ _
   | wE laws_xText.mono _ _ _
   | wE laws_xTexts.mono _ _ _
   | wE spec_CycleOfLamps.mono _ _ _
   | wE spec_DrawCycleOfLamps.mono _ _
   | wE spec_DrawFirstTick.mono _ _
   | wE spec_DrawTicksAfter.mono _ _
   | wE spec_FirstTick.mono _ _ _ _
   | wE spec_LeadOfLamps.mono _ _ _
   | wE spec_TicksAfter.mono _ _ _ _
   | wE spec_TimesChanging.mono _ _ _ _
   | wE LeO.refl _
   | wE LeO.none _
   | wR LeO.ite ?_ ?_
   | wR LeO.bind ?_ (fun _ => ?_)
   | exact ih0 _ _ _ _ _ _ _ _
   | exact ih1 _
   | exact ih2 _ _ _ _ _ _ _ _ _ _ _ _
   | exact ih3 _ _ _ _ _
   | exact ih4 _ _ _ _ _ _ _ _ _ _ _
   | exact ih5 _ _ _ _ _ _ _ _ _ _ _ _ _
   | exact ih6 _ _ _ _ _ _ _ _ _ _
   | exact ih7 _ _ _ _ _
   | exact ih8 _ _ _ _ _ _ _
   | exact ih9 _ _ _ _ _ _ _ _ _
   | exact ih10 _ _ _ _ _ _ _ _ _ _ _
   | exact ih11 _ _ _ _ _ _ _ _ _ _ _ _
   | exact impl_TicksAfter.mono _ _ _ _
   | exact impl_TimesChanging.mono _ _ _ _
   | exact laws_xSame.mono _ _ _
   | exact laws_xText.mono _ _ _
   | exact laws_xTexts.mono _ _ _
   | exact spec_CycleOfLamps.mono _ _ _
   | exact spec_DrawCycleOfLamps.mono _ _
   | exact spec_DrawFirstTick.mono _ _
   | exact spec_DrawTicksAfter.mono _ _
   | exact spec_FirstTick.mono _ _ _ _
   | exact spec_LeadOfLamps.mono _ _ _
   | exact spec_TicksAfter.mono _ _ _ _
   | exact spec_TimesChanging.mono _ _ _ _
   | exact LeO.none _
   | refine LeO.ite ?_ ?_
   | refine LeO.bind ?_ (fun _ => ?_)
theorem laws_FnLampsTick.mono : ∀ a0 a1 k, LeO (laws_FnLampsTick.f k a0 a1) (laws_FnLampsTick.f (k + 1) a0 a1) := by
 intro a0 a1 k
 obtain ⟨ih0, ih1, ih2, ih3, ih4, ih5, ih6, ih7, ih8, ih9, ih10, ih11⟩ := laws_FnLampsTick.mono_l k
 unfold laws_FnLampsTick.f
 repeat' first
   | wE ih0 _ _ _ _ _ _ _ _
   | wE ih1 _
   | wE ih2 _ _ _ _ _ _ _ _ _ _ _ _
   | wE ih3 _ _ _ _ _
   | wE ih4 _ _ _ _ _ _ _ _ _ _ _
   | wE ih5 _ _ _ _ _ _ _ _ _ _ _ _ _
   | wE ih6 _ _ _ _ _ _ _ _ _ _
   | wE ih7 _ _ _ _ _
   | wE ih8 _ _ _ _ _ _ _
   | wE ih9 _ _ _ _ _ _ _ _ _
   | wE ih10 _ _ _ _ _ _ _ _ _ _ _
   | wE ih11 _ _ _ _ _ _ _ _ _ _ _ _
   | wE impl_TicksAfter.mono _ _ _ _
   | wE impl_TimesChanging.mono _ _ _ _
   | wE laws_xSame.mono _ _ _
   | wE laws_xText.mono _ _ _
   | wE laws_xTexts.mono _ _ _
   | wE spec_CycleOfLamps.mono _ _ _
   | wE spec_DrawCycleOfLamps.mono _ _
   | wE spec_DrawFirstTick.mono _ _
   | wE spec_DrawTicksAfter.mono _ _
   | wE spec_FirstTick.mono _ _ _ _
   | wE spec_LeadOfLamps.mono _ _ _
   | wE spec_TicksAfter.mono _ _ _ _
   | wE spec_TimesChanging.mono _ _ _ _
   | wE LeO.refl _
   | wE LeO.none _
   | wR LeO.ite ?_ ?_
   | wR LeO.bind ?_ (fun _ => ?_)
   | exact ih0 _ _ _ _ _ _ _ _
   | exact ih1 _
   | exact ih2 _ _ _ _ _ _ _ _ _ _ _ _
   | exact ih3 _ _ _ _ _
   | exact ih4 _ _ _ _ _ _ _ _ _ _ _
   | exact ih5 _ _ _ _ _ _ _ _ _ _ _ _ _
   | exact ih6 _ _ _ _ _ _ _ _ _ _
   | exact ih7 _ _ _ _ _
   | exact ih8 _ _ _ _ _ _ _
   | exact ih9 _ _ _ _ _ _ _ _ _
   | exact ih10 _ _ _ _ _ _ _ _ _ _ _
   | exact ih11 _ _ _ _ _ _ _ _ _ _ _ _
   | exact impl_TicksAfter.mono _ _ _ _
   | exact impl_TimesChanging.mono _ _ _ _
   | exact laws_xSame.mono _ _ _
   | exact laws_xText.mono _ _ _
   | exact laws_xTexts.mono _ _ _
   | exact spec_CycleOfLamps.mono _ _ _
   | exact spec_DrawCycleOfLamps.mono _ _
   | exact spec_DrawFirstTick.mono _ _
   | exact spec_DrawTicksAfter.mono _ _
   | exact spec_FirstTick.mono _ _ _ _
   | exact spec_LeadOfLamps.mono _ _ _
   | exact spec_TicksAfter.mono _ _ _ _
   | exact spec_TimesChanging.mono _ _ _ _
   | exact LeO.none _
   | refine LeO.ite ?_ ?_
   | refine LeO.bind ?_ (fun _ => ?_)
def laws_FnLampsTick.T8 : Bool × List (List Nat × List Nat) := (true, [([], []), ([], []), ([0, 1], [0, 1]), ([2], [2]), ([3], [3]), ([3], [3]), ([4, 5, 3], [3, 4, 5]), ([3, 6], [3, 6]), ([7, 3], [7]), ([8], [8]), ([8], [8]), ([9, 10, 8], [8, 9, 10]), ([8, 11], [8, 11]), ([12, 8], [12]), ([13], [13]), ([13], [13]), ([14, 15, 13, 13], [13, 14, 15]), ([16, 13], [13, 16]), ([13, 17], [13, 17]), ([18, 16], [18]), ([19], [19]), ([19], [19]), ([20, 21, 19], [19, 20, 21]), ([19, 22], [19, 22]), ([23, 19], [23]), ([24], [24]), ([25, 24, 24], [24, 25]), ([24], [24]), ([27, 26, 24], [24, 27]), ([26, 28, 24], [24, 26, 28]), ([24, 29], [24, 29]), ([30, 28], [30]), ([31], [31]), ([32, 31, 31], [31, 32]), ([33], [33]), ([34, 33, 33], [33, 34]), ([35, 33], [33, 35]), ([33, 36, 31], [31, 33, 36]), ([31, 37], [31, 37])])
def laws_FnLampsTick.B8 : List Nat := [0, 0, 3, 7, 15, 15, 63, 127, 255, 511, 511, 2047, 4095, 8191, 16383, 16383, 65535, 131071, 262143, 524287, 1048575, 1048575, 4194303, 8388607, 16777215, 33554431, 67108863, 33554431, 268435455, 536870911, 1073741823, 2147483647, 4294967295, 8589934591, 17179869183, 34359738367, 68719476735, 137438953471, 274877906943]
theorem laws_FnLampsTick.tab8 : rtab .any (opsOf Tryd.f8 8) = laws_FnLampsTick.T8 := by kernel_rfl
theorem laws_FnLampsTick.bits8 : waitsOk laws_FnLampsTick.T8.2 laws_FnLampsTick.B8 = true := by kernel_rfl
def laws_FnLampsTick.T33 : Bool × List (List Nat × List Nat) := (true, [([], []), ([0], [0]), ([1], [1]), ([2], [2]), ([2], [2]), ([3, 4, 2], [2, 3, 4]), ([2, 5], [2, 5]), ([6, 2], [6]), ([7], [7]), ([8, 7], [7, 8]), ([9, 7], [7, 9]), ([7], [7]), ([7], [7]), ([11, 12, 7], [7, 11, 12]), ([7], [7]), ([7], [7]), ([14, 15, 7], [7, 14, 15]), ([13, 16, 7], [7, 13, 16]), ([10, 17, 7], [7, 10, 17]), ([7, 18], [7, 18])])
def laws_FnLampsTick.B33 : List Nat := [0, 1, 3, 7, 7, 31, 63, 127, 255, 511, 1023, 255, 255, 6399, 255, 255, 49407, 129279, 262143, 524287]
theorem laws_FnLampsTick.tab33 : rtab .any (opsOf Tryd.f8 33) = laws_FnLampsTick.T33 := by kernel_rfl
theorem laws_FnLampsTick.bits33 : waitsOk laws_FnLampsTick.T33.2 laws_FnLampsTick.B33 = true := by kernel_rfl
end Go.Proofs.YtifdgebdkhdmhaaDoor.PLTick
