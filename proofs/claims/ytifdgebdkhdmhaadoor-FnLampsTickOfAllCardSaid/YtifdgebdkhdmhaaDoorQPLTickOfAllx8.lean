-- PRINTED by drive.py (a program of this session's, over the kit's print.py; wip/tools/drive.py). Lean checks it.
import Derived.Test.YtifdgebdkhdmhaaDoorQPLTickOfAllx0
import Derived.Test.YtifdgebdkhdmhaaDoorQPLTickOfAllx1
import Derived.Test.YtifdgebdkhdmhaaDoorQPLTickOfAllx2
import Derived.Test.YtifdgebdkhdmhaaDoorQPLTickOfAllx3
import Derived.Test.YtifdgebdkhdmhaaDoorQPLTickOfAllx4
import Derived.Test.YtifdgebdkhdmhaaDoorQPLTickOfAllx5
import Derived.Test.YtifdgebdkhdmhaaDoorQPLTickOfAllx6
import Derived.Test.YtifdgebdkhdmhaaDoorQPLTickOfAllx7
import Derived.Test.YtifdgebdkhdmhaaDoorQRange
namespace Go.Proofs.YtifdgebdkhdmhaaDoor.PLTickOfAll
open Go.RowKit Go.Proofs.YtifdgebdkhdmhaaDoorW.PrintWords Go.Proofs.YtifdgebdkhdmhaaDoorW.PrintLast Go.Proofs.YtifdgebdkhdmhaaDoorW.PrintMore
attribute [local go_sem] max2_int min2_int max_two min_two max_three min_three max_four min_four   -- for this text's walks alone
set_option linter.unusedVariables false
set_option linter.unusedSimpArgs false

/-! ### laws_FnLampsTickOfAll: function 5 -/
mutual
def laws_FnLampsTickOfAll.j0 : Nat → ByteArray → Int → ByteArray → ByteArray → Int → Bool → List ByteArray → List ByteArray → List ByteArray → Option (Bool)
 | 0, _, _, _, _, _, _, _, _, _ => none
 | k + 1, x1, x2, x4, x6, x7, x75, x233000, x234000, x235000 => if x75 = true then (some true) else ((impl_TicksAfter.f k x233000 x1 x2).bind fun bt235 => ((spec_TicksAfter.f k x233000 x1 x2).bind fun bt237 => ((impl_TimesChanging.f k x233000 x1 x2).bind fun bt239 => ((spec_TimesChanging.f k x233000 x1 x2).bind fun bt243 => (if (bt235.2 != bt237.2) = true then (none) else (if bt235.1.toList = bt237.1.toList then (if (bt239.2 != bt243.2) = true then (none) else ((laws_xSame.f k bt239.1 bt243.1).bind fun t247 => (if t247 = true then (if (bt239.2 != bt235.2) = true then (none) else ((impl_AreLamps.f x233000).bind fun t248 => ((spec_AreLamps.f x233000).bind fun t249 => (if (t248 != t249) = true then (none) else (if bt235.2 = true then ((impl_AreLamps.f x233000).bind fun t250 => (laws_FnLampsTickOfAll.j1 k x1 x2 x4 x6 x7 bt235.1 bt235.2 bt239.1 (!t250) x233000 x234000 x235000)) else (laws_FnLampsTickOfAll.j1 k x1 x2 x4 x6 x7 bt235.1 bt235.2 bt239.1 false x233000 x234000 x235000)))))) else (none)))) else (none)))))))
def laws_FnLampsTickOfAll.j1 : Nat → ByteArray → Int → ByteArray → ByteArray → Int → ByteArray → Bool → List Int → Bool → List ByteArray → List ByteArray → List ByteArray → Option (Bool)
 | 0, _, _, _, _, _, _, _, _, _, _, _, _ => none
 | k + 1, x1, x2, x4, x6, x7, x17, x18, x21, x142, x233000, x234000, x235000 => if x142 = true then (none) else (if x18 = true then (if (x21.length : Int) = (x1.size : Int) then (if x2 ≤ 20 then (if 0 ≤ (x1.size : Int) then (if ((x1.size : Int) : Int).toNat ≤ 35184372088832 then (laws_FnLampsTickOfAll.l0 k x1 x2 x4 x6 x7 x17 x21 x1 (List.replicate ((x1.size : Int) : Int).toNat 0) 0 x233000 x234000 x235000) else (none)) else (none)) else (laws_FnLampsTickOfAll.j5 k x1 x2 x4 x6 x7 x17 x21 x234000 x235000)) else (none)) else (laws_FnLampsTickOfAll.j7 k x4 x6 x7 x234000 x235000))
def laws_FnLampsTickOfAll.j7 : Nat → ByteArray → ByteArray → Int → List ByteArray → List ByteArray → Option (Bool)
 | 0, _, _, _, _, _ => none
 | k + 1, x4, x6, x7, x234000, x235000 => (impl_CycleOfLamps.f x234000 x4).bind fun bt260 => ((spec_CycleOfLamps.f k x234000 x4).bind fun bt264 => ((impl_LeadOfLamps.f x234000 x4).bind fun bt268 => ((spec_LeadOfLamps.f k x234000 x4).bind fun bt271 => ((impl_TickOnce.f x234000 x4).bind fun bt274 => ((spec_TickOnce.f x234000 x4).bind fun bt276 => ((impl_FirstTick.f x235000 x6 x7).bind fun bt278 => ((spec_FirstTick.f k x235000 x6 x7).bind fun bt280 => (if (bt260.2 != bt264.2) = true then (none) else ((laws_xTexts.f k bt260.1 bt264.1).bind fun t282 => (if t282 = true then (if (bt268.2.2 != bt271.2.2) = true then (none) else (if bt268.1 = bt271.1 then (if bt268.2.1 = bt271.2.1 then (if (bt274.2 != bt276.2) = true then (none) else (if bt274.1.toList = bt276.1.toList then (if (bt278.2 != bt280.2) = true then (none) else (if bt278.1 = bt280.1 then (if (bt268.2.2 != bt260.2) = true then (none) else (laws_FnLampsTickOfAll.j8 k x4 x6 x7 bt260.1 bt260.2 bt268.1 bt268.2.1 bt278.1 bt278.2 (bt274.2 != bt260.2) x234000 x235000)) else (none))) else (none))) else (none)) else (none))) else (none)))))))))))
def laws_FnLampsTickOfAll.j8 : Nat → ByteArray → ByteArray → Int → List ByteArray → Bool → Int → Int → Int → Bool → Bool → List ByteArray → List ByteArray → Option (Bool)
 | 0, _, _, _, _, _, _, _, _, _, _, _, _ => none
 | k + 1, x4, x6, x7, x33, x34, x37, x38, x47, x48, x336, x234000, x235000 => if x336 = true then (none) else (if x34 = true then (if (x33.length : Int) = x38 then (if x38 < 1 then (none) else (laws_FnLampsTickOfAll.j9 k x4 x6 x7 x33 x37 x38 x47 x48 (decide (x37 < 0)) x234000 x235000)) else (none)) else (laws_FnLampsTickOfAll.j12 k x6 x7 x47 x48 x235000))
def laws_FnLampsTickOfAll.j12 : Nat → ByteArray → Int → Int → Bool → List ByteArray → Option (Bool)
 | 0, _, _, _, _, _ => none
 | k + 1, x6, x7, x47, x48, x235000 => if x48 = true then ((impl_TicksAfter.f k x235000 x6 x47).bind fun bt294 => (if bt294.2 = true then (if 0 ≤ x7 then (if x7 < (bt294.1.size : Int) then (if (bt bt294.1 x7) = 49 then (if x47 > 0 then ((impl_TicksAfter.f k x235000 x6 (wrap64 (x47 - 1))).bind fun bt296 => (if bt296.2 = true then (if x7 < (bt296.1.size : Int) then (if (bt bt296.1 x7) = 48 then (some true) else (none)) else (none)) else (none))) else (some true)) else (none)) else (none)) else (none)) else (none))) else (some true)
def laws_FnLampsTickOfAll.j9 : Nat → ByteArray → ByteArray → Int → List ByteArray → Int → Int → Int → Bool → Bool → List ByteArray → List ByteArray → Option (Bool)
 | 0, _, _, _, _, _, _, _, _, _, _, _ => none
 | k + 1, x4, x6, x7, x33, x37, x38, x47, x48, x349, x234000, x235000 => if x349 = true then (none) else (laws_FnLampsTickOfAll.l3 k x4 x6 x7 x33 x37 x38 x47 x48 x33 (x33.length : Int) 0 x234000 x235000)
def laws_FnLampsTickOfAll.l3 : Nat → ByteArray → ByteArray → Int → List ByteArray → Int → Int → Int → Bool → List ByteArray → Int → Int → List ByteArray → List ByteArray → Option (Bool)
 | 0, _, _, _, _, _, _, _, _, _, _, _, _, _ => none
 | k + 1, x4, x6, x7, x33, x37, x38, x47, x48, x350, x351, x352, x234000, x235000 => if x352 < x351 then (if 0 ≤ x352 then (if x352 < (x350.length : Int) then ((impl_TickOnce.f x234000 (rdOf ByteArray.empty x350 x352)).bind fun bt284 => (if bt284.2 = true then (if x38 = 0 then (none) else (if 0 ≤ (Int.tmod (wrap64 (x352 + 1)) x38) then (if (Int.tmod (wrap64 (x352 + 1)) x38) < (x33.length : Int) then (if bt284.1.toList = (rdOf ByteArray.empty x33 (Int.tmod (wrap64 (x352 + 1)) x38)).toList then (if 0 < (x33.length : Int) then (if (Op.bytesLess ((rdOf ByteArray.empty x350 x352).toList) ((rdOf ByteArray.empty x33 0).toList)) = true then (none) else (laws_FnLampsTickOfAll.l3 k x4 x6 x7 x33 x37 x38 x47 x48 x350 x351 (wrap64 (x352 + 1)) x234000 x235000)) else (none)) else (none)) else (none)) else (none))) else (none))) else (none)) else (none)) else ((impl_TicksAfter.f k x234000 x4 x37).bind fun bt288 => (if bt288.2 = true then ((laws_xText.f k x33 bt288.1).bind fun t290 => (laws_FnLampsTickOfAll.j11 k x4 x6 x7 x33 x37 x47 x48 (!t290) x234000 x235000)) else (none)))
def laws_FnLampsTickOfAll.j11 : Nat → ByteArray → ByteArray → Int → List ByteArray → Int → Int → Bool → Bool → List ByteArray → List ByteArray → Option (Bool)
 | 0, _, _, _, _, _, _, _, _, _, _ => none
 | k + 1, x4, x6, x7, x33, x37, x47, x48, x398, x234000, x235000 => if x398 = true then (none) else (if x37 > 0 then ((impl_TicksAfter.f k x234000 x4 (wrap64 (x37 - 1))).bind fun bt291 => (if bt291.2 = true then ((laws_xText.f k x33 bt291.1).bind fun t293 => (if t293 = true then (none) else (laws_FnLampsTickOfAll.j12 k x6 x7 x47 x48 x235000))) else (none))) else (laws_FnLampsTickOfAll.j12 k x6 x7 x47 x48 x235000))
def laws_FnLampsTickOfAll.j5 : Nat → ByteArray → Int → ByteArray → ByteArray → Int → ByteArray → List Int → List ByteArray → List ByteArray → Option (Bool)
 | 0, _, _, _, _, _, _, _, _, _ => none
 | k + 1, x1, x2, x4, x6, x7, x17, x21, x234000, x235000 => laws_FnLampsTickOfAll.l2 k x1 x2 x4 x6 x7 x17 x21 (x21.length : Int) 0 x234000 x235000
def laws_FnLampsTickOfAll.l2 : Nat → ByteArray → Int → ByteArray → ByteArray → Int → ByteArray → List Int → Int → Int → List ByteArray → List ByteArray → Option (Bool)
 | 0, _, _, _, _, _, _, _, _, _, _, _ => none
 | k + 1, x1, x2, x4, x6, x7, x17, x203, x204, x205, x234000, x235000 => if x205 < x204 then (if 0 ≤ x205 then (if x205 < (x203.length : Int) then (if (rd x203 x205) < 0 then (none) else (if (rd x203 x205) > x2 then (none) else (if x205 < (x1.size : Int) then (if x205 < (x17.size : Int) then (if (((Int.tmod (rd x203 x205) 2) == 1) != ((bt x1 x205) != (bt x17 x205))) = true then (none) else (laws_FnLampsTickOfAll.l2 k x1 x2 x4 x6 x7 x17 x203 x204 (wrap64 (x205 + 1)) x234000 x235000)) else (none)) else (none)))) else (none)) else (none)) else (laws_FnLampsTickOfAll.j7 k x4 x6 x7 x234000 x235000)
def laws_FnLampsTickOfAll.l0 : Nat → ByteArray → Int → ByteArray → ByteArray → Int → ByteArray → List Int → ByteArray → List Int → Int → List ByteArray → List ByteArray → List ByteArray → Option (Bool)
 | 0, _, _, _, _, _, _, _, _, _, _, _, _, _ => none
 | k + 1, x1, x2, x4, x6, x7, x17, x21, x25, x26, x27, x233000, x234000, x235000 => if x27 < x2 then ((impl_TickOnce.f x233000 x25).bind fun bt255 => (if bt255.2 = true then (laws_FnLampsTickOfAll.j3 k x1 x2 x4 x6 x7 x17 x21 x25 x26 x27 bt255.1 ((bt255.1.size : Int) != (x25.size : Int)) x233000 x234000 x235000) else (none))) else (if x25.toList = x17.toList then ((laws_xSame.f k x26 x21).bind fun t254 => (if t254 = true then (laws_FnLampsTickOfAll.j5 k x1 x2 x4 x6 x7 x17 x21 x234000 x235000) else (none))) else (none))
def laws_FnLampsTickOfAll.j3 : Nat → ByteArray → Int → ByteArray → ByteArray → Int → ByteArray → List Int → ByteArray → List Int → Int → ByteArray → Bool → List ByteArray → List ByteArray → List ByteArray → Option (Bool)
 | 0, _, _, _, _, _, _, _, _, _, _, _, _, _, _, _ => none
 | k + 1, x1, x2, x4, x6, x7, x17, x21, x25, x26, x27, x28, x174, x233000, x234000, x235000 => if x174 = true then (none) else (laws_FnLampsTickOfAll.l1 k x1 x2 x4 x6 x7 x17 x21 x25 x26 x27 x28 x28 0 x233000 x234000 x235000)
def laws_FnLampsTickOfAll.l1 : Nat → ByteArray → Int → ByteArray → ByteArray → Int → ByteArray → List Int → ByteArray → List Int → Int → ByteArray → ByteArray → Int → List ByteArray → List ByteArray → List ByteArray → Option (Bool)
 | 0, _, _, _, _, _, _, _, _, _, _, _, _, _, _, _, _ => none
 | k + 1, x1, x2, x4, x6, x7, x17, x21, x25, x26, x27, x28, x175, x176, x233000, x234000, x235000 => if x176 < (x175.size : Int) then (if 0 ≤ x176 then (if (bt x175 x176) < 128 then (if x176 < 1000000000 then (if x176 < (x28.size : Int) then (if x176 < (x25.size : Int) then (if (bt x28 x176) = (bt x25 x176) then (laws_FnLampsTickOfAll.l1 k x1 x2 x4 x6 x7 x17 x21 x25 x26 x27 x28 x175 (wrap64 (x176 + 1)) x233000 x234000 x235000) else (if x176 < (x26.length : Int) then (laws_FnLampsTickOfAll.l1 k x1 x2 x4 x6 x7 x17 x21 x25 (x26.set (x176 : Int).toNat (wrap64 ((rd x26 x176) + 1))) x27 x28 x175 (wrap64 (x176 + 1)) x233000 x234000 x235000) else (none))) else (none)) else (none)) else (none)) else (none)) else (none)) else (laws_FnLampsTickOfAll.l0 k x1 x2 x4 x6 x7 x17 x21 x28 x26 (wrap64 (x27 + 1)) x233000 x234000 x235000)
end
def laws_FnLampsTickOfAll.f (k : Nat) (l0_0 : List ByteArray) (a1 : ByteArray) (a2 : Int) (l3_0 : List ByteArray) (a4 : ByteArray) (l5_0 : List ByteArray) (a6 : ByteArray) (a7 : Int) : Option (Bool) := if (a1.size : Int) > 1048576 then (laws_FnLampsTickOfAll.j0 k a1 a2 a4 a6 a7 true l0_0 l3_0 l5_0) else (if (a4.size : Int) > 1048576 then (laws_FnLampsTickOfAll.j0 k a1 a2 a4 a6 a7 true l0_0 l3_0 l5_0) else (laws_FnLampsTickOfAll.j0 k a1 a2 a4 a6 a7 (decide ((a6.size : Int) > 1048576)) l0_0 l3_0 l5_0))
theorem laws_FnLampsTickOfAll.mono_l : ∀ k, (∀ y0 y1 y2 y3 y4 y5 y6 y7 y8, LeO (laws_FnLampsTickOfAll.j0 k y0 y1 y2 y3 y4 y5 y6 y7 y8) (laws_FnLampsTickOfAll.j0 (k + 1) y0 y1 y2 y3 y4 y5 y6 y7 y8)) ∧ (∀ y0 y1 y2 y3 y4 y5 y6 y7 y8 y9 y10 y11, LeO (laws_FnLampsTickOfAll.j1 k y0 y1 y2 y3 y4 y5 y6 y7 y8 y9 y10 y11) (laws_FnLampsTickOfAll.j1 (k + 1) y0 y1 y2 y3 y4 y5 y6 y7 y8 y9 y10 y11)) ∧ (∀ y0 y1 y2 y3 y4, LeO (laws_FnLampsTickOfAll.j7 k y0 y1 y2 y3 y4) (laws_FnLampsTickOfAll.j7 (k + 1) y0 y1 y2 y3 y4)) ∧ (∀ y0 y1 y2 y3 y4 y5 y6 y7 y8 y9 y10 y11, LeO (laws_FnLampsTickOfAll.j8 k y0 y1 y2 y3 y4 y5 y6 y7 y8 y9 y10 y11) (laws_FnLampsTickOfAll.j8 (k + 1) y0 y1 y2 y3 y4 y5 y6 y7 y8 y9 y10 y11)) ∧ (∀ y0 y1 y2 y3 y4, LeO (laws_FnLampsTickOfAll.j12 k y0 y1 y2 y3 y4) (laws_FnLampsTickOfAll.j12 (k + 1) y0 y1 y2 y3 y4)) ∧ (∀ y0 y1 y2 y3 y4 y5 y6 y7 y8 y9 y10, LeO (laws_FnLampsTickOfAll.j9 k y0 y1 y2 y3 y4 y5 y6 y7 y8 y9 y10) (laws_FnLampsTickOfAll.j9 (k + 1) y0 y1 y2 y3 y4 y5 y6 y7 y8 y9 y10)) ∧ (∀ y0 y1 y2 y3 y4 y5 y6 y7 y8 y9 y10 y11 y12, LeO (laws_FnLampsTickOfAll.l3 k y0 y1 y2 y3 y4 y5 y6 y7 y8 y9 y10 y11 y12) (laws_FnLampsTickOfAll.l3 (k + 1) y0 y1 y2 y3 y4 y5 y6 y7 y8 y9 y10 y11 y12)) ∧ (∀ y0 y1 y2 y3 y4 y5 y6 y7 y8 y9, LeO (laws_FnLampsTickOfAll.j11 k y0 y1 y2 y3 y4 y5 y6 y7 y8 y9) (laws_FnLampsTickOfAll.j11 (k + 1) y0 y1 y2 y3 y4 y5 y6 y7 y8 y9)) ∧ (∀ y0 y1 y2 y3 y4 y5 y6 y7 y8, LeO (laws_FnLampsTickOfAll.j5 k y0 y1 y2 y3 y4 y5 y6 y7 y8) (laws_FnLampsTickOfAll.j5 (k + 1) y0 y1 y2 y3 y4 y5 y6 y7 y8)) ∧ (∀ y0 y1 y2 y3 y4 y5 y6 y7 y8 y9 y10, LeO (laws_FnLampsTickOfAll.l2 k y0 y1 y2 y3 y4 y5 y6 y7 y8 y9 y10) (laws_FnLampsTickOfAll.l2 (k + 1) y0 y1 y2 y3 y4 y5 y6 y7 y8 y9 y10)) ∧ (∀ y0 y1 y2 y3 y4 y5 y6 y7 y8 y9 y10 y11 y12, LeO (laws_FnLampsTickOfAll.l0 k y0 y1 y2 y3 y4 y5 y6 y7 y8 y9 y10 y11 y12) (laws_FnLampsTickOfAll.l0 (k + 1) y0 y1 y2 y3 y4 y5 y6 y7 y8 y9 y10 y11 y12)) ∧ (∀ y0 y1 y2 y3 y4 y5 y6 y7 y8 y9 y10 y11 y12 y13 y14, LeO (laws_FnLampsTickOfAll.j3 k y0 y1 y2 y3 y4 y5 y6 y7 y8 y9 y10 y11 y12 y13 y14) (laws_FnLampsTickOfAll.j3 (k + 1) y0 y1 y2 y3 y4 y5 y6 y7 y8 y9 y10 y11 y12 y13 y14)) ∧ (∀ y0 y1 y2 y3 y4 y5 y6 y7 y8 y9 y10 y11 y12 y13 y14 y15, LeO (laws_FnLampsTickOfAll.l1 k y0 y1 y2 y3 y4 y5 y6 y7 y8 y9 y10 y11 y12 y13 y14 y15) (laws_FnLampsTickOfAll.l1 (k + 1) y0 y1 y2 y3 y4 y5 y6 y7 y8 y9 y10 y11 y12 y13 y14 y15))
 | 0 => ⟨fun _ _ _ _ _ _ _ _ _ r h => by simp [laws_FnLampsTickOfAll.j0] at h, fun _ _ _ _ _ _ _ _ _ _ _ _ r h => by simp [laws_FnLampsTickOfAll.j1] at h, fun _ _ _ _ _ r h => by simp [laws_FnLampsTickOfAll.j7] at h, fun _ _ _ _ _ _ _ _ _ _ _ _ r h => by simp [laws_FnLampsTickOfAll.j8] at h, fun _ _ _ _ _ r h => by simp [laws_FnLampsTickOfAll.j12] at h, fun _ _ _ _ _ _ _ _ _ _ _ r h => by simp [laws_FnLampsTickOfAll.j9] at h, fun _ _ _ _ _ _ _ _ _ _ _ _ _ r h => by simp [laws_FnLampsTickOfAll.l3] at h, fun _ _ _ _ _ _ _ _ _ _ r h => by simp [laws_FnLampsTickOfAll.j11] at h, fun _ _ _ _ _ _ _ _ _ r h => by simp [laws_FnLampsTickOfAll.j5] at h, fun _ _ _ _ _ _ _ _ _ _ _ r h => by simp [laws_FnLampsTickOfAll.l2] at h, fun _ _ _ _ _ _ _ _ _ _ _ _ _ r h => by simp [laws_FnLampsTickOfAll.l0] at h, fun _ _ _ _ _ _ _ _ _ _ _ _ _ _ _ r h => by simp [laws_FnLampsTickOfAll.j3] at h, fun _ _ _ _ _ _ _ _ _ _ _ _ _ _ _ _ r h => by simp [laws_FnLampsTickOfAll.l1] at h⟩
 | k + 1 => by
  obtain ⟨ih0, ih1, ih2, ih3, ih4, ih5, ih6, ih7, ih8, ih9, ih10, ih11, ih12⟩ := laws_FnLampsTickOfAll.mono_l k
  refine ⟨?_, ?_, ?_, ?_, ?_, ?_, ?_, ?_, ?_, ?_, ?_, ?_, ?_⟩
  ·intro y0 y1 y2 y3 y4 y5 y6 y7 y8
   unfold laws_FnLampsTickOfAll.j0
   repeat' first
   | (with_reducible exact ih0 _ _ _ _ _ _ _ _ _)
   | (with_reducible exact ih1 _ _ _ _ _ _ _ _ _ _ _ _)
   | (with_reducible exact ih2 _ _ _ _ _)
   | (with_reducible exact ih3 _ _ _ _ _ _ _ _ _ _ _ _)
   | (with_reducible exact ih4 _ _ _ _ _)
   | (with_reducible exact ih5 _ _ _ _ _ _ _ _ _ _ _)
   | (with_reducible exact ih6 _ _ _ _ _ _ _ _ _ _ _ _ _)
   | (with_reducible exact ih7 _ _ _ _ _ _ _ _ _ _)
   | (with_reducible exact ih8 _ _ _ _ _ _ _ _ _)
   | (with_reducible exact ih9 _ _ _ _ _ _ _ _ _ _ _)
   | (with_reducible exact ih10 _ _ _ _ _ _ _ _ _ _ _ _ _)
   | (with_reducible exact ih11 _ _ _ _ _ _ _ _ _ _ _ _ _ _ _)
   | (with_reducible exact ih12 _ _ _ _ _ _ _ _ _ _ _ _ _ _ _ _)
   | (with_reducible exact impl_TicksAfter.mono _ _ _ _)
   | (with_reducible exact impl_TimesChanging.mono _ _ _ _)
   | (with_reducible exact laws_xSame.mono _ _ _)
   | (with_reducible exact laws_xText.mono _ _ _)
   | (with_reducible exact laws_xTexts.mono _ _ _)
   | (with_reducible exact spec_CycleOfLamps.mono _ _ _)
   | (with_reducible exact spec_FirstTick.mono _ _ _ _)
   | (with_reducible exact spec_LeadOfLamps.mono _ _ _)
   | (with_reducible exact spec_TicksAfter.mono _ _ _ _)
   | (with_reducible exact spec_TimesChanging.mono _ _ _ _)
   | (with_reducible exact LeO.refl _)
   | (with_reducible exact LeO.none _)
   | (with_reducible refine LeO.ite ?_ ?_)
   | (with_reducible refine LeO.bind ?_ (fun _ => ?_))
   | exact ih0 _ _ _ _ _ _ _ _ _
   | exact ih1 _ _ _ _ _ _ _ _ _ _ _ _
   | exact ih2 _ _ _ _ _
   | exact ih3 _ _ _ _ _ _ _ _ _ _ _ _
   | exact ih4 _ _ _ _ _
   | exact ih5 _ _ _ _ _ _ _ _ _ _ _
   | exact ih6 _ _ _ _ _ _ _ _ _ _ _ _ _
   | exact ih7 _ _ _ _ _ _ _ _ _ _
   | exact ih8 _ _ _ _ _ _ _ _ _
   | exact ih9 _ _ _ _ _ _ _ _ _ _ _
   | exact ih10 _ _ _ _ _ _ _ _ _ _ _ _ _
   | exact ih11 _ _ _ _ _ _ _ _ _ _ _ _ _ _ _
   | exact ih12 _ _ _ _ _ _ _ _ _ _ _ _ _ _ _ _
   | exact impl_TicksAfter.mono _ _ _ _
   | exact impl_TimesChanging.mono _ _ _ _
   | exact laws_xSame.mono _ _ _
   | exact laws_xText.mono _ _ _
   | exact laws_xTexts.mono _ _ _
   | exact spec_CycleOfLamps.mono _ _ _
   | exact spec_FirstTick.mono _ _ _ _
   | exact spec_LeadOfLamps.mono _ _ _
   | exact spec_TicksAfter.mono _ _ _ _
   | exact spec_TimesChanging.mono _ _ _ _
   | exact LeO.none _
   | refine LeO.ite ?_ ?_
   | refine LeO.bind ?_ (fun _ => ?_)
  ·intro y0 y1 y2 y3 y4 y5 y6 y7 y8 y9 y10 y11
   unfold laws_FnLampsTickOfAll.j1
   repeat' first
   | (with_reducible exact ih0 _ _ _ _ _ _ _ _ _)
   | (with_reducible exact ih1 _ _ _ _ _ _ _ _ _ _ _ _)
   | (with_reducible exact ih2 _ _ _ _ _)
   | (with_reducible exact ih3 _ _ _ _ _ _ _ _ _ _ _ _)
   | (with_reducible exact ih4 _ _ _ _ _)
   | (with_reducible exact ih5 _ _ _ _ _ _ _ _ _ _ _)
   | (with_reducible exact ih6 _ _ _ _ _ _ _ _ _ _ _ _ _)
   | (with_reducible exact ih7 _ _ _ _ _ _ _ _ _ _)
   | (with_reducible exact ih8 _ _ _ _ _ _ _ _ _)
   | (with_reducible exact ih9 _ _ _ _ _ _ _ _ _ _ _)
   | (with_reducible exact ih10 _ _ _ _ _ _ _ _ _ _ _ _ _)
   | (with_reducible exact ih11 _ _ _ _ _ _ _ _ _ _ _ _ _ _ _)
   | (with_reducible exact ih12 _ _ _ _ _ _ _ _ _ _ _ _ _ _ _ _)
   | (with_reducible exact impl_TicksAfter.mono _ _ _ _)
   | (with_reducible exact impl_TimesChanging.mono _ _ _ _)
   | (with_reducible exact laws_xSame.mono _ _ _)
   | (with_reducible exact laws_xText.mono _ _ _)
   | (with_reducible exact laws_xTexts.mono _ _ _)
   | (with_reducible exact spec_CycleOfLamps.mono _ _ _)
   | (with_reducible exact spec_FirstTick.mono _ _ _ _)
   | (with_reducible exact spec_LeadOfLamps.mono _ _ _)
   | (with_reducible exact spec_TicksAfter.mono _ _ _ _)
   | (with_reducible exact spec_TimesChanging.mono _ _ _ _)
   | (with_reducible exact LeO.refl _)
   | (with_reducible exact LeO.none _)
   | (with_reducible refine LeO.ite ?_ ?_)
   | (with_reducible refine LeO.bind ?_ (fun _ => ?_))
   | exact ih0 _ _ _ _ _ _ _ _ _
   | exact ih1 _ _ _ _ _ _ _ _ _ _ _ _
   | exact ih2 _ _ _ _ _
   | exact ih3 _ _ _ _ _ _ _ _ _ _ _ _
   | exact ih4 _ _ _ _ _
   | exact ih5 _ _ _ _ _ _ _ _ _ _ _
   | exact ih6 _ _ _ _ _ _ _ _ _ _ _ _ _
   | exact ih7 _ _ _ _ _ _ _ _ _ _
   | exact ih8 _ _ _ _ _ _ _ _ _
   | exact ih9 _ _ _ _ _ _ _ _ _ _ _
   | exact ih10 _ _ _ _ _ _ _ _ _ _ _ _ _
   | exact ih11 _ _ _ _ _ _ _ _ _ _ _ _ _ _ _
   | exact ih12 _ _ _ _ _ _ _ _ _ _ _ _ _ _ _ _
   | exact impl_TicksAfter.mono _ _ _ _
   | exact impl_TimesChanging.mono _ _ _ _
   | exact laws_xSame.mono _ _ _
   | exact laws_xText.mono _ _ _
   | exact laws_xTexts.mono _ _ _
   | exact spec_CycleOfLamps.mono _ _ _
   | exact spec_FirstTick.mono _ _ _ _
   | exact spec_LeadOfLamps.mono _ _ _
   | exact spec_TicksAfter.mono _ _ _ _
   | exact spec_TimesChanging.mono _ _ _ _
   | exact LeO.none _
   | refine LeO.ite ?_ ?_
   | refine LeO.bind ?_ (fun _ => ?_)
  ·intro y0 y1 y2 y3 y4
   unfold laws_FnLampsTickOfAll.j7
   repeat' first
   | (with_reducible exact ih0 _ _ _ _ _ _ _ _ _)
   | (with_reducible exact ih1 _ _ _ _ _ _ _ _ _ _ _ _)
   | (with_reducible exact ih2 _ _ _ _ _)
   | (with_reducible exact ih3 _ _ _ _ _ _ _ _ _ _ _ _)
   | (with_reducible exact ih4 _ _ _ _ _)
   | (with_reducible exact ih5 _ _ _ _ _ _ _ _ _ _ _)
   | (with_reducible exact ih6 _ _ _ _ _ _ _ _ _ _ _ _ _)
   | (with_reducible exact ih7 _ _ _ _ _ _ _ _ _ _)
   | (with_reducible exact ih8 _ _ _ _ _ _ _ _ _)
   | (with_reducible exact ih9 _ _ _ _ _ _ _ _ _ _ _)
   | (with_reducible exact ih10 _ _ _ _ _ _ _ _ _ _ _ _ _)
   | (with_reducible exact ih11 _ _ _ _ _ _ _ _ _ _ _ _ _ _ _)
   | (with_reducible exact ih12 _ _ _ _ _ _ _ _ _ _ _ _ _ _ _ _)
   | (with_reducible exact impl_TicksAfter.mono _ _ _ _)
   | (with_reducible exact impl_TimesChanging.mono _ _ _ _)
   | (with_reducible exact laws_xSame.mono _ _ _)
   | (with_reducible exact laws_xText.mono _ _ _)
   | (with_reducible exact laws_xTexts.mono _ _ _)
   | (with_reducible exact spec_CycleOfLamps.mono _ _ _)
   | (with_reducible exact spec_FirstTick.mono _ _ _ _)
   | (with_reducible exact spec_LeadOfLamps.mono _ _ _)
   | (with_reducible exact spec_TicksAfter.mono _ _ _ _)
   | (with_reducible exact spec_TimesChanging.mono _ _ _ _)
   | (with_reducible exact LeO.refl _)
   | (with_reducible exact LeO.none _)
   | (with_reducible refine LeO.ite ?_ ?_)
   | (with_reducible refine LeO.bind ?_ (fun _ => ?_))
   | exact ih0 _ _ _ _ _ _ _ _ _
   | exact ih1 _ _ _ _ _ _ _ _ _ _ _ _
   | exact ih2 _ _ _ _ _
   | exact ih3 _ _ _ _ _ _ _ _ _ _ _ _
   | exact ih4 _ _ _ _ _
   | exact ih5 _ _ _ _ _ _ _ _ _ _ _
   | exact ih6 _ _ _ _ _ _ _ _ _ _ _ _ _
   | exact ih7 _ _ _ _ _ _ _ _ _ _
   | exact ih8 _ _ _ _ _ _ _ _ _
   | exact ih9 _ _ _ _ _ _ _ _ _ _ _
   | exact ih10 _ _ _ _ _ _ _ _ _ _ _ _ _
   | exact ih11 _ _ _ _ _ _ _ _ _ _ _ _ _ _ _
   | exact ih12 _ _ _ _ _ _ _ _ _ _ _ _ _ _ _ _
   | exact impl_TicksAfter.mono _ _ _ _
   | exact impl_TimesChanging.mono _ _ _ _
   | exact laws_xSame.mono _ _ _
   | exact laws_xText.mono _ _ _
   | exact laws_xTexts.mono _ _ _
   | exact spec_CycleOfLamps.mono _ _ _
   | exact spec_FirstTick.mono _ _ _ _
   | exact spec_LeadOfLamps.mono _ _ _
   | exact spec_TicksAfter.mono _ _ _ _
   | exact spec_TimesChanging.mono _ _ _ _
   | exact LeO.none _
   | refine LeO.ite ?_ ?_
   | refine LeO.bind ?_ (fun _ => ?_)
  ·intro y0 y1 y2 y3 y4 y5 y6 y7 y8 y9 y10 y11
   unfold laws_FnLampsTickOfAll.j8
   repeat' first
   | (with_reducible exact ih0 _ _ _ _ _ _ _ _ _)
   | (with_reducible exact ih1 _ _ _ _ _ _ _ _ _ _ _ _)
   | (with_reducible exact ih2 _ _ _ _ _)
   | (with_reducible exact ih3 _ _ _ _ _ _ _ _ _ _ _ _)
   | (with_reducible exact ih4 _ _ _ _ _)
   | (with_reducible exact ih5 _ _ _ _ _ _ _ _ _ _ _)
   | (with_reducible exact ih6 _ _ _ _ _ _ _ _ _ _ _ _ _)
   | (with_reducible exact ih7 _ _ _ _ _ _ _ _ _ _)
   | (with_reducible exact ih8 _ _ _ _ _ _ _ _ _)
   | (with_reducible exact ih9 _ _ _ _ _ _ _ _ _ _ _)
   | (with_reducible exact ih10 _ _ _ _ _ _ _ _ _ _ _ _ _)
   | (with_reducible exact ih11 _ _ _ _ _ _ _ _ _ _ _ _ _ _ _)
   | (with_reducible exact ih12 _ _ _ _ _ _ _ _ _ _ _ _ _ _ _ _)
   | (with_reducible exact impl_TicksAfter.mono _ _ _ _)
   | (with_reducible exact impl_TimesChanging.mono _ _ _ _)
   | (with_reducible exact laws_xSame.mono _ _ _)
   | (with_reducible exact laws_xText.mono _ _ _)
   | (with_reducible exact laws_xTexts.mono _ _ _)
   | (with_reducible exact spec_CycleOfLamps.mono _ _ _)
   | (with_reducible exact spec_FirstTick.mono _ _ _ _)
   | (with_reducible exact spec_LeadOfLamps.mono _ _ _)
   | (with_reducible exact spec_TicksAfter.mono _ _ _ _)
   | (with_reducible exact spec_TimesChanging.mono _ _ _ _)
   | (with_reducible exact LeO.refl _)
   | (with_reducible exact LeO.none _)
   | (with_reducible refine LeO.ite ?_ ?_)
   | (with_reducible refine LeO.bind ?_ (fun _ => ?_))
   | exact ih0 _ _ _ _ _ _ _ _ _
   | exact ih1 _ _ _ _ _ _ _ _ _ _ _ _
   | exact ih2 _ _ _ _ _
   | exact ih3 _ _ _ _ _ _ _ _ _ _ _ _
   | exact ih4 _ _ _ _ _
   | exact ih5 _ _ _ _ _ _ _ _ _ _ _
   | exact ih6 _ _ _ _ _ _ _ _ _ _ _ _ _
   | exact ih7 _ _ _ _ _ _ _ _ _ _
   | exact ih8 _ _ _ _ _ _ _ _ _
   | exact ih9 _ _ _ _ _ _ _ _ _ _ _
   | exact ih10 _ _ _ _ _ _ _ _ _ _ _ _ _
   | exact ih11 _ _ _ _ _ _ _ _ _ _ _ _ _ _ _
   | exact ih12 _ _ _ _ _ _ _ _ _ _ _ _ _ _ _ _
   | exact impl_TicksAfter.mono _ _ _ _
   | exact impl_TimesChanging.mono _ _ _ _
   | exact laws_xSame.mono _ _ _
   | exact laws_xText.mono _ _ _
   | exact laws_xTexts.mono _ _ _
   | exact spec_CycleOfLamps.mono _ _ _
   | exact spec_FirstTick.mono _ _ _ _
   | exact spec_LeadOfLamps.mono _ _ _
   | exact spec_TicksAfter.mono _ _ _ _
   | exact spec_TimesChanging.mono _ _ _ _
   | exact LeO.none _
   | refine LeO.ite ?_ ?_
   | refine LeO.bind ?_ (fun _ => ?_)
  ·intro y0 y1 y2 y3 y4
   unfold laws_FnLampsTickOfAll.j12
   repeat' first
   | (with_reducible exact ih0 _ _ _ _ _ _ _ _ _)
   | (with_reducible exact ih1 _ _ _ _ _ _ _ _ _ _ _ _)
   | (with_reducible exact ih2 _ _ _ _ _)
   | (with_reducible exact ih3 _ _ _ _ _ _ _ _ _ _ _ _)
   | (with_reducible exact ih4 _ _ _ _ _)
   | (with_reducible exact ih5 _ _ _ _ _ _ _ _ _ _ _)
   | (with_reducible exact ih6 _ _ _ _ _ _ _ _ _ _ _ _ _)
   | (with_reducible exact ih7 _ _ _ _ _ _ _ _ _ _)
   | (with_reducible exact ih8 _ _ _ _ _ _ _ _ _)
   | (with_reducible exact ih9 _ _ _ _ _ _ _ _ _ _ _)
   | (with_reducible exact ih10 _ _ _ _ _ _ _ _ _ _ _ _ _)
   | (with_reducible exact ih11 _ _ _ _ _ _ _ _ _ _ _ _ _ _ _)
   | (with_reducible exact ih12 _ _ _ _ _ _ _ _ _ _ _ _ _ _ _ _)
   | (with_reducible exact impl_TicksAfter.mono _ _ _ _)
   | (with_reducible exact impl_TimesChanging.mono _ _ _ _)
   | (with_reducible exact laws_xSame.mono _ _ _)
   | (with_reducible exact laws_xText.mono _ _ _)
   | (with_reducible exact laws_xTexts.mono _ _ _)
   | (with_reducible exact spec_CycleOfLamps.mono _ _ _)
   | (with_reducible exact spec_FirstTick.mono _ _ _ _)
   | (with_reducible exact spec_LeadOfLamps.mono _ _ _)
   | (with_reducible exact spec_TicksAfter.mono _ _ _ _)
   | (with_reducible exact spec_TimesChanging.mono _ _ _ _)
   | (with_reducible exact LeO.refl _)
   | (with_reducible exact LeO.none _)
   | (with_reducible refine LeO.ite ?_ ?_)
   | (with_reducible refine LeO.bind ?_ (fun _ => ?_))
   | exact ih0 _ _ _ _ _ _ _ _ _
   | exact ih1 _ _ _ _ _ _ _ _ _ _ _ _
   | exact ih2 _ _ _ _ _
   | exact ih3 _ _ _ _ _ _ _ _ _ _ _ _
   | exact ih4 _ _ _ _ _
   | exact ih5 _ _ _ _ _ _ _ _ _ _ _
   | exact ih6 _ _ _ _ _ _ _ _ _ _ _ _ _
   | exact ih7 _ _ _ _ _ _ _ _ _ _
   | exact ih8 _ _ _ _ _ _ _ _ _
   | exact ih9 _ _ _ _ _ _ _ _ _ _ _
   | exact ih10 _ _ _ _ _ _ _ _ _ _ _ _ _
   | exact ih11 _ _ _ _ _ _ _ _ _ _ _ _ _ _ _
   | exact ih12 _ _ _ _ _ _ _ _ _ _ _ _ _ _ _ _
   | exact impl_TicksAfter.mono _ _ _ _
   | exact impl_TimesChanging.mono _ _ _ _
   | exact laws_xSame.mono _ _ _
   | exact laws_xText.mono _ _ _
   | exact laws_xTexts.mono _ _ _
   | exact spec_CycleOfLamps.mono _ _ _
   | exact spec_FirstTick.mono _ _ _ _
   | exact spec_LeadOfLamps.mono _ _ _
   | exact spec_TicksAfter.mono _ _ _ _
   | exact spec_TimesChanging.mono _ _ _ _
   | exact LeO.none _
   | refine LeO.ite ?_ ?_
   | refine LeO.bind ?_ (fun _ => ?_)
  ·intro y0 y1 y2 y3 y4 y5 y6 y7 y8 y9 y10
   unfold laws_FnLampsTickOfAll.j9
   repeat' first
   | (with_reducible exact ih0 _ _ _ _ _ _ _ _ _)
   | (with_reducible exact ih1 _ _ _ _ _ _ _ _ _ _ _ _)
   | (with_reducible exact ih2 _ _ _ _ _)
   | (with_reducible exact ih3 _ _ _ _ _ _ _ _ _ _ _ _)
   | (with_reducible exact ih4 _ _ _ _ _)
   | (with_reducible exact ih5 _ _ _ _ _ _ _ _ _ _ _)
   | (with_reducible exact ih6 _ _ _ _ _ _ _ _ _ _ _ _ _)
   | (with_reducible exact ih7 _ _ _ _ _ _ _ _ _ _)
   | (with_reducible exact ih8 _ _ _ _ _ _ _ _ _)
   | (with_reducible exact ih9 _ _ _ _ _ _ _ _ _ _ _)
   | (with_reducible exact ih10 _ _ _ _ _ _ _ _ _ _ _ _ _)
   | (with_reducible exact ih11 _ _ _ _ _ _ _ _ _ _ _ _ _ _ _)
   | (with_reducible exact ih12 _ _ _ _ _ _ _ _ _ _ _ _ _ _ _ _)
   | (with_reducible exact impl_TicksAfter.mono _ _ _ _)
   | (with_reducible exact impl_TimesChanging.mono _ _ _ _)
   | (with_reducible exact laws_xSame.mono _ _ _)
   | (with_reducible exact laws_xText.mono _ _ _)
   | (with_reducible exact laws_xTexts.mono _ _ _)
   | (with_reducible exact spec_CycleOfLamps.mono _ _ _)
   | (with_reducible exact spec_FirstTick.mono _ _ _ _)
   | (with_reducible exact spec_LeadOfLamps.mono _ _ _)
   | (with_reducible exact spec_TicksAfter.mono _ _ _ _)
   | (with_reducible exact spec_TimesChanging.mono _ _ _ _)
   | (with_reducible exact LeO.refl _)
   | (with_reducible exact LeO.none _)
   | (with_reducible refine LeO.ite ?_ ?_)
   | (with_reducible refine LeO.bind ?_ (fun _ => ?_))
   | exact ih0 _ _ _ _ _ _ _ _ _
   | exact ih1 _ _ _ _ _ _ _ _ _ _ _ _
   | exact ih2 _ _ _ _ _
   | exact ih3 _ _ _ _ _ _ _ _ _ _ _ _
   | exact ih4 _ _ _ _ _
   | exact ih5 _ _ _ _ _ _ _ _ _ _ _
   | exact ih6 _ _ _ _ _ _ _ _ _ _ _ _ _
   | exact ih7 _ _ _ _ _ _ _ _ _ _
   | exact ih8 _ _ _ _ _ _ _ _ _
   | exact ih9 _ _ _ _ _ _ _ _ _ _ _
   | exact ih10 _ _ _ _ _ _ _ _ _ _ _ _ _
   | exact ih11 _ _ _ _ _ _ _ _ _ _ _ _ _ _ _
   | exact ih12 _ _ _ _ _ _ _ _ _ _ _ _ _ _ _ _
   | exact impl_TicksAfter.mono _ _ _ _
   | exact impl_TimesChanging.mono _ _ _ _
   | exact laws_xSame.mono _ _ _
   | exact laws_xText.mono _ _ _
   | exact laws_xTexts.mono _ _ _
   | exact spec_CycleOfLamps.mono _ _ _
   | exact spec_FirstTick.mono _ _ _ _
   | exact spec_LeadOfLamps.mono _ _ _
   | exact spec_TicksAfter.mono _ _ _ _
   | exact spec_TimesChanging.mono _ _ _ _
   | exact LeO.none _
   | refine LeO.ite ?_ ?_
   | refine LeO.bind ?_ (fun _ => ?_)
  ·intro y0 y1 y2 y3 y4 y5 y6 y7 y8 y9 y10 y11 y12
   unfold laws_FnLampsTickOfAll.l3
   repeat' first
   | (with_reducible exact ih0 _ _ _ _ _ _ _ _ _)
   | (with_reducible exact ih1 _ _ _ _ _ _ _ _ _ _ _ _)
   | (with_reducible exact ih2 _ _ _ _ _)
   | (with_reducible exact ih3 _ _ _ _ _ _ _ _ _ _ _ _)
   | (with_reducible exact ih4 _ _ _ _ _)
   | (with_reducible exact ih5 _ _ _ _ _ _ _ _ _ _ _)
   | (with_reducible exact ih6 _ _ _ _ _ _ _ _ _ _ _ _ _)
   | (with_reducible exact ih7 _ _ _ _ _ _ _ _ _ _)
   | (with_reducible exact ih8 _ _ _ _ _ _ _ _ _)
   | (with_reducible exact ih9 _ _ _ _ _ _ _ _ _ _ _)
   | (with_reducible exact ih10 _ _ _ _ _ _ _ _ _ _ _ _ _)
   | (with_reducible exact ih11 _ _ _ _ _ _ _ _ _ _ _ _ _ _ _)
   | (with_reducible exact ih12 _ _ _ _ _ _ _ _ _ _ _ _ _ _ _ _)
   | (with_reducible exact impl_TicksAfter.mono _ _ _ _)
   | (with_reducible exact impl_TimesChanging.mono _ _ _ _)
   | (with_reducible exact laws_xSame.mono _ _ _)
   | (with_reducible exact laws_xText.mono _ _ _)
   | (with_reducible exact laws_xTexts.mono _ _ _)
   | (with_reducible exact spec_CycleOfLamps.mono _ _ _)
   | (with_reducible exact spec_FirstTick.mono _ _ _ _)
   | (with_reducible exact spec_LeadOfLamps.mono _ _ _)
   | (with_reducible exact spec_TicksAfter.mono _ _ _ _)
   | (with_reducible exact spec_TimesChanging.mono _ _ _ _)
   | (with_reducible exact LeO.refl _)
   | (with_reducible exact LeO.none _)
   | (with_reducible refine LeO.ite ?_ ?_)
   | (with_reducible refine LeO.bind ?_ (fun _ => ?_))
   | exact ih0 _ _ _ _ _ _ _ _ _
   | exact ih1 _ _ _ _ _ _ _ _ _ _ _ _
   | exact ih2 _ _ _ _ _
   | exact ih3 _ _ _ _ _ _ _ _ _ _ _ _
   | exact ih4 _ _ _ _ _
   | exact ih5 _ _ _ _ _ _ _ _ _ _ _
   | exact ih6 _ _ _ _ _ _ _ _ _ _ _ _ _
   | exact ih7 _ _ _ _ _ _ _ _ _ _
   | exact ih8 _ _ _ _ _ _ _ _ _
   | exact ih9 _ _ _ _ _ _ _ _ _ _ _
   | exact ih10 _ _ _ _ _ _ _ _ _ _ _ _ _
   | exact ih11 _ _ _ _ _ _ _ _ _ _ _ _ _ _ _
   | exact ih12 _ _ _ _ _ _ _ _ _ _ _ _ _ _ _ _
   | exact impl_TicksAfter.mono _ _ _ _
   | exact impl_TimesChanging.mono _ _ _ _
   | exact laws_xSame.mono _ _ _
   | exact laws_xText.mono _ _ _
   | exact laws_xTexts.mono _ _ _
   | exact spec_CycleOfLamps.mono _ _ _
   | exact spec_FirstTick.mono _ _ _ _
   | exact spec_LeadOfLamps.mono _ _ _
   | exact spec_TicksAfter.mono _ _ _ _
   | exact spec_TimesChanging.mono _ _ _ _
   | exact LeO.none _
   | refine LeO.ite ?_ ?_
   | refine LeO.bind ?_ (fun _ => ?_)
  ·intro y0 y1 y2 y3 y4 y5 y6 y7 y8 y9
   unfold laws_FnLampsTickOfAll.j11
   repeat' first
   | (with_reducible exact ih0 _ _ _ _ _ _ _ _ _)
   | (with_reducible exact ih1 _ _ _ _ _ _ _ _ _ _ _ _)
   | (with_reducible exact ih2 _ _ _ _ _)
   | (with_reducible exact ih3 _ _ _ _ _ _ _ _ _ _ _ _)
   | (with_reducible exact ih4 _ _ _ _ _)
   | (with_reducible exact ih5 _ _ _ _ _ _ _ _ _ _ _)
   | (with_reducible exact ih6 _ _ _ _ _ _ _ _ _ _ _ _ _)
   | (with_reducible exact ih7 _ _ _ _ _ _ _ _ _ _)
   | (with_reducible exact ih8 _ _ _ _ _ _ _ _ _)
   | (with_reducible exact ih9 _ _ _ _ _ _ _ _ _ _ _)
   | (with_reducible exact ih10 _ _ _ _ _ _ _ _ _ _ _ _ _)
   | (with_reducible exact ih11 _ _ _ _ _ _ _ _ _ _ _ _ _ _ _)
   | (with_reducible exact ih12 _ _ _ _ _ _ _ _ _ _ _ _ _ _ _ _)
   | (with_reducible exact impl_TicksAfter.mono _ _ _ _)
   | (with_reducible exact impl_TimesChanging.mono _ _ _ _)
   | (with_reducible exact laws_xSame.mono _ _ _)
   | (with_reducible exact laws_xText.mono _ _ _)
   | (with_reducible exact laws_xTexts.mono _ _ _)
   | (with_reducible exact spec_CycleOfLamps.mono _ _ _)
   | (with_reducible exact spec_FirstTick.mono _ _ _ _)
   | (with_reducible exact spec_LeadOfLamps.mono _ _ _)
   | (with_reducible exact spec_TicksAfter.mono _ _ _ _)
   | (with_reducible exact spec_TimesChanging.mono _ _ _ _)
   | (with_reducible exact LeO.refl _)
   | (with_reducible exact LeO.none _)
   | (with_reducible refine LeO.ite ?_ ?_)
   | (with_reducible refine LeO.bind ?_ (fun _ => ?_))
   | exact ih0 _ _ _ _ _ _ _ _ _
   | exact ih1 _ _ _ _ _ _ _ _ _ _ _ _
   | exact ih2 _ _ _ _ _
   | exact ih3 _ _ _ _ _ _ _ _ _ _ _ _
   | exact ih4 _ _ _ _ _
   | exact ih5 _ _ _ _ _ _ _ _ _ _ _
   | exact ih6 _ _ _ _ _ _ _ _ _ _ _ _ _
   | exact ih7 _ _ _ _ _ _ _ _ _ _
   | exact ih8 _ _ _ _ _ _ _ _ _
   | exact ih9 _ _ _ _ _ _ _ _ _ _ _
   | exact ih10 _ _ _ _ _ _ _ _ _ _ _ _ _
   | exact ih11 _ _ _ _ _ _ _ _ _ _ _ _ _ _ _
   | exact ih12 _ _ _ _ _ _ _ _ _ _ _ _ _ _ _ _
   | exact impl_TicksAfter.mono _ _ _ _
   | exact impl_TimesChanging.mono _ _ _ _
   | exact laws_xSame.mono _ _ _
   | exact laws_xText.mono _ _ _
   | exact laws_xTexts.mono _ _ _
   | exact spec_CycleOfLamps.mono _ _ _
   | exact spec_FirstTick.mono _ _ _ _
   | exact spec_LeadOfLamps.mono _ _ _
   | exact spec_TicksAfter.mono _ _ _ _
   | exact spec_TimesChanging.mono _ _ _ _
   | exact LeO.none _
   | refine LeO.ite ?_ ?_
   | refine LeO.bind ?_ (fun _ => ?_)
  ·intro y0 y1 y2 y3 y4 y5 y6 y7 y8
   unfold laws_FnLampsTickOfAll.j5
   repeat' first
   | (with_reducible exact ih0 _ _ _ _ _ _ _ _ _)
   | (with_reducible exact ih1 _ _ _ _ _ _ _ _ _ _ _ _)
   | (with_reducible exact ih2 _ _ _ _ _)
   | (with_reducible exact ih3 _ _ _ _ _ _ _ _ _ _ _ _)
   | (with_reducible exact ih4 _ _ _ _ _)
   | (with_reducible exact ih5 _ _ _ _ _ _ _ _ _ _ _)
   | (with_reducible exact ih6 _ _ _ _ _ _ _ _ _ _ _ _ _)
   | (with_reducible exact ih7 _ _ _ _ _ _ _ _ _ _)
   | (with_reducible exact ih8 _ _ _ _ _ _ _ _ _)
   | (with_reducible exact ih9 _ _ _ _ _ _ _ _ _ _ _)
   | (with_reducible exact ih10 _ _ _ _ _ _ _ _ _ _ _ _ _)
   | (with_reducible exact ih11 _ _ _ _ _ _ _ _ _ _ _ _ _ _ _)
   | (with_reducible exact ih12 _ _ _ _ _ _ _ _ _ _ _ _ _ _ _ _)
   | (with_reducible exact impl_TicksAfter.mono _ _ _ _)
   | (with_reducible exact impl_TimesChanging.mono _ _ _ _)
   | (with_reducible exact laws_xSame.mono _ _ _)
   | (with_reducible exact laws_xText.mono _ _ _)
   | (with_reducible exact laws_xTexts.mono _ _ _)
   | (with_reducible exact spec_CycleOfLamps.mono _ _ _)
   | (with_reducible exact spec_FirstTick.mono _ _ _ _)
   | (with_reducible exact spec_LeadOfLamps.mono _ _ _)
   | (with_reducible exact spec_TicksAfter.mono _ _ _ _)
   | (with_reducible exact spec_TimesChanging.mono _ _ _ _)
   | (with_reducible exact LeO.refl _)
   | (with_reducible exact LeO.none _)
   | (with_reducible refine LeO.ite ?_ ?_)
   | (with_reducible refine LeO.bind ?_ (fun _ => ?_))
   | exact ih0 _ _ _ _ _ _ _ _ _
   | exact ih1 _ _ _ _ _ _ _ _ _ _ _ _
   | exact ih2 _ _ _ _ _
   | exact ih3 _ _ _ _ _ _ _ _ _ _ _ _
   | exact ih4 _ _ _ _ _
   | exact ih5 _ _ _ _ _ _ _ _ _ _ _
   | exact ih6 _ _ _ _ _ _ _ _ _ _ _ _ _
   | exact ih7 _ _ _ _ _ _ _ _ _ _
   | exact ih8 _ _ _ _ _ _ _ _ _
   | exact ih9 _ _ _ _ _ _ _ _ _ _ _
   | exact ih10 _ _ _ _ _ _ _ _ _ _ _ _ _
   | exact ih11 _ _ _ _ _ _ _ _ _ _ _ _ _ _ _
   | exact ih12 _ _ _ _ _ _ _ _ _ _ _ _ _ _ _ _
   | exact impl_TicksAfter.mono _ _ _ _
   | exact impl_TimesChanging.mono _ _ _ _
   | exact laws_xSame.mono _ _ _
   | exact laws_xText.mono _ _ _
   | exact laws_xTexts.mono _ _ _
   | exact spec_CycleOfLamps.mono _ _ _
   | exact spec_FirstTick.mono _ _ _ _
   | exact spec_LeadOfLamps.mono _ _ _
   | exact spec_TicksAfter.mono _ _ _ _
   | exact spec_TimesChanging.mono _ _ _ _
   | exact LeO.none _
   | refine LeO.ite ?_ ?_
   | refine LeO.bind ?_ (fun _ => ?_)
  ·intro y0 y1 y2 y3 y4 y5 y6 y7 y8 y9 y10
   unfold laws_FnLampsTickOfAll.l2
   repeat' first
   | (with_reducible exact ih0 _ _ _ _ _ _ _ _ _)
   | (with_reducible exact ih1 _ _ _ _ _ _ _ _ _ _ _ _)
   | (with_reducible exact ih2 _ _ _ _ _)
   | (with_reducible exact ih3 _ _ _ _ _ _ _ _ _ _ _ _)
   | (with_reducible exact ih4 _ _ _ _ _)
   | (with_reducible exact ih5 _ _ _ _ _ _ _ _ _ _ _)
   | (with_reducible exact ih6 _ _ _ _ _ _ _ _ _ _ _ _ _)
   | (with_reducible exact ih7 _ _ _ _ _ _ _ _ _ _)
   | (with_reducible exact ih8 _ _ _ _ _ _ _ _ _)
   | (with_reducible exact ih9 _ _ _ _ _ _ _ _ _ _ _)
   | (with_reducible exact ih10 _ _ _ _ _ _ _ _ _ _ _ _ _)
   | (with_reducible exact ih11 _ _ _ _ _ _ _ _ _ _ _ _ _ _ _)
   | (with_reducible exact ih12 _ _ _ _ _ _ _ _ _ _ _ _ _ _ _ _)
   | (with_reducible exact impl_TicksAfter.mono _ _ _ _)
   | (with_reducible exact impl_TimesChanging.mono _ _ _ _)
   | (with_reducible exact laws_xSame.mono _ _ _)
   | (with_reducible exact laws_xText.mono _ _ _)
   | (with_reducible exact laws_xTexts.mono _ _ _)
   | (with_reducible exact spec_CycleOfLamps.mono _ _ _)
   | (with_reducible exact spec_FirstTick.mono _ _ _ _)
   | (with_reducible exact spec_LeadOfLamps.mono _ _ _)
   | (with_reducible exact spec_TicksAfter.mono _ _ _ _)
   | (with_reducible exact spec_TimesChanging.mono _ _ _ _)
   | (with_reducible exact LeO.refl _)
   | (with_reducible exact LeO.none _)
   | (with_reducible refine LeO.ite ?_ ?_)
   | (with_reducible refine LeO.bind ?_ (fun _ => ?_))
   | exact ih0 _ _ _ _ _ _ _ _ _
   | exact ih1 _ _ _ _ _ _ _ _ _ _ _ _
   | exact ih2 _ _ _ _ _
   | exact ih3 _ _ _ _ _ _ _ _ _ _ _ _
   | exact ih4 _ _ _ _ _
   | exact ih5 _ _ _ _ _ _ _ _ _ _ _
   | exact ih6 _ _ _ _ _ _ _ _ _ _ _ _ _
   | exact ih7 _ _ _ _ _ _ _ _ _ _
   | exact ih8 _ _ _ _ _ _ _ _ _
   | exact ih9 _ _ _ _ _ _ _ _ _ _ _
   | exact ih10 _ _ _ _ _ _ _ _ _ _ _ _ _
   | exact ih11 _ _ _ _ _ _ _ _ _ _ _ _ _ _ _
   | exact ih12 _ _ _ _ _ _ _ _ _ _ _ _ _ _ _ _
   | exact impl_TicksAfter.mono _ _ _ _
   | exact impl_TimesChanging.mono _ _ _ _
   | exact laws_xSame.mono _ _ _
   | exact laws_xText.mono _ _ _
   | exact laws_xTexts.mono _ _ _
   | exact spec_CycleOfLamps.mono _ _ _
   | exact spec_FirstTick.mono _ _ _ _
   | exact spec_LeadOfLamps.mono _ _ _
   | exact spec_TicksAfter.mono _ _ _ _
   | exact spec_TimesChanging.mono _ _ _ _
   | exact LeO.none _
   | refine LeO.ite ?_ ?_
   | refine LeO.bind ?_ (fun _ => ?_)
  ·intro y0 y1 y2 y3 y4 y5 y6 y7 y8 y9 y10 y11 y12
   unfold laws_FnLampsTickOfAll.l0
   repeat' first
   | (with_reducible exact ih0 _ _ _ _ _ _ _ _ _)
   | (with_reducible exact ih1 _ _ _ _ _ _ _ _ _ _ _ _)
   | (with_reducible exact ih2 _ _ _ _ _)
   | (with_reducible exact ih3 _ _ _ _ _ _ _ _ _ _ _ _)
   | (with_reducible exact ih4 _ _ _ _ _)
   | (with_reducible exact ih5 _ _ _ _ _ _ _ _ _ _ _)
   | (with_reducible exact ih6 _ _ _ _ _ _ _ _ _ _ _ _ _)
   | (with_reducible exact ih7 _ _ _ _ _ _ _ _ _ _)
   | (with_reducible exact ih8 _ _ _ _ _ _ _ _ _)
   | (with_reducible exact ih9 _ _ _ _ _ _ _ _ _ _ _)
   | (with_reducible exact ih10 _ _ _ _ _ _ _ _ _ _ _ _ _)
   | (with_reducible exact ih11 _ _ _ _ _ _ _ _ _ _ _ _ _ _ _)
   | (with_reducible exact ih12 _ _ _ _ _ _ _ _ _ _ _ _ _ _ _ _)
   | (with_reducible exact impl_TicksAfter.mono _ _ _ _)
   | (with_reducible exact impl_TimesChanging.mono _ _ _ _)
   | (with_reducible exact laws_xSame.mono _ _ _)
   | (with_reducible exact laws_xText.mono _ _ _)
   | (with_reducible exact laws_xTexts.mono _ _ _)
   | (with_reducible exact spec_CycleOfLamps.mono _ _ _)
   | (with_reducible exact spec_FirstTick.mono _ _ _ _)
   | (with_reducible exact spec_LeadOfLamps.mono _ _ _)
   | (with_reducible exact spec_TicksAfter.mono _ _ _ _)
   | (with_reducible exact spec_TimesChanging.mono _ _ _ _)
   | (with_reducible exact LeO.refl _)
   | (with_reducible exact LeO.none _)
   | (with_reducible refine LeO.ite ?_ ?_)
   | (with_reducible refine LeO.bind ?_ (fun _ => ?_))
   | exact ih0 _ _ _ _ _ _ _ _ _
   | exact ih1 _ _ _ _ _ _ _ _ _ _ _ _
   | exact ih2 _ _ _ _ _
   | exact ih3 _ _ _ _ _ _ _ _ _ _ _ _
   | exact ih4 _ _ _ _ _
   | exact ih5 _ _ _ _ _ _ _ _ _ _ _
   | exact ih6 _ _ _ _ _ _ _ _ _ _ _ _ _
   | exact ih7 _ _ _ _ _ _ _ _ _ _
   | exact ih8 _ _ _ _ _ _ _ _ _
   | exact ih9 _ _ _ _ _ _ _ _ _ _ _
   | exact ih10 _ _ _ _ _ _ _ _ _ _ _ _ _
   | exact ih11 _ _ _ _ _ _ _ _ _ _ _ _ _ _ _
   | exact ih12 _ _ _ _ _ _ _ _ _ _ _ _ _ _ _ _
   | exact impl_TicksAfter.mono _ _ _ _
   | exact impl_TimesChanging.mono _ _ _ _
   | exact laws_xSame.mono _ _ _
   | exact laws_xText.mono _ _ _
   | exact laws_xTexts.mono _ _ _
   | exact spec_CycleOfLamps.mono _ _ _
   | exact spec_FirstTick.mono _ _ _ _
   | exact spec_LeadOfLamps.mono _ _ _
   | exact spec_TicksAfter.mono _ _ _ _
   | exact spec_TimesChanging.mono _ _ _ _
   | exact LeO.none _
   | refine LeO.ite ?_ ?_
   | refine LeO.bind ?_ (fun _ => ?_)
  ·intro y0 y1 y2 y3 y4 y5 y6 y7 y8 y9 y10 y11 y12 y13 y14
   unfold laws_FnLampsTickOfAll.j3
   repeat' first
   | (with_reducible exact ih0 _ _ _ _ _ _ _ _ _)
   | (with_reducible exact ih1 _ _ _ _ _ _ _ _ _ _ _ _)
   | (with_reducible exact ih2 _ _ _ _ _)
   | (with_reducible exact ih3 _ _ _ _ _ _ _ _ _ _ _ _)
   | (with_reducible exact ih4 _ _ _ _ _)
   | (with_reducible exact ih5 _ _ _ _ _ _ _ _ _ _ _)
   | (with_reducible exact ih6 _ _ _ _ _ _ _ _ _ _ _ _ _)
   | (with_reducible exact ih7 _ _ _ _ _ _ _ _ _ _)
   | (with_reducible exact ih8 _ _ _ _ _ _ _ _ _)
   | (with_reducible exact ih9 _ _ _ _ _ _ _ _ _ _ _)
   | (with_reducible exact ih10 _ _ _ _ _ _ _ _ _ _ _ _ _)
   | (with_reducible exact ih11 _ _ _ _ _ _ _ _ _ _ _ _ _ _ _)
   | (with_reducible exact ih12 _ _ _ _ _ _ _ _ _ _ _ _ _ _ _ _)
   | (with_reducible exact impl_TicksAfter.mono _ _ _ _)
   | (with_reducible exact impl_TimesChanging.mono _ _ _ _)
   | (with_reducible exact laws_xSame.mono _ _ _)
   | (with_reducible exact laws_xText.mono _ _ _)
   | (with_reducible exact laws_xTexts.mono _ _ _)
   | (with_reducible exact spec_CycleOfLamps.mono _ _ _)
   | (with_reducible exact spec_FirstTick.mono _ _ _ _)
   | (with_reducible exact spec_LeadOfLamps.mono _ _ _)
   | (with_reducible exact spec_TicksAfter.mono _ _ _ _)
   | (with_reducible exact spec_TimesChanging.mono _ _ _ _)
   | (with_reducible exact LeO.refl _)
   | (with_reducible exact LeO.none _)
   | (with_reducible refine LeO.ite ?_ ?_)
   | (with_reducible refine LeO.bind ?_ (fun _ => ?_))
   | exact ih0 _ _ _ _ _ _ _ _ _
   | exact ih1 _ _ _ _ _ _ _ _ _ _ _ _
   | exact ih2 _ _ _ _ _
   | exact ih3 _ _ _ _ _ _ _ _ _ _ _ _
   | exact ih4 _ _ _ _ _
   | exact ih5 _ _ _ _ _ _ _ _ _ _ _
   | exact ih6 _ _ _ _ _ _ _ _ _ _ _ _ _
   | exact ih7 _ _ _ _ _ _ _ _ _ _
   | exact ih8 _ _ _ _ _ _ _ _ _
   | exact ih9 _ _ _ _ _ _ _ _ _ _ _
   | exact ih10 _ _ _ _ _ _ _ _ _ _ _ _ _
   | exact ih11 _ _ _ _ _ _ _ _ _ _ _ _ _ _ _
   | exact ih12 _ _ _ _ _ _ _ _ _ _ _ _ _ _ _ _
   | exact impl_TicksAfter.mono _ _ _ _
   | exact impl_TimesChanging.mono _ _ _ _
   | exact laws_xSame.mono _ _ _
   | exact laws_xText.mono _ _ _
   | exact laws_xTexts.mono _ _ _
   | exact spec_CycleOfLamps.mono _ _ _
   | exact spec_FirstTick.mono _ _ _ _
   | exact spec_LeadOfLamps.mono _ _ _
   | exact spec_TicksAfter.mono _ _ _ _
   | exact spec_TimesChanging.mono _ _ _ _
   | exact LeO.none _
   | refine LeO.ite ?_ ?_
   | refine LeO.bind ?_ (fun _ => ?_)
  ·intro y0 y1 y2 y3 y4 y5 y6 y7 y8 y9 y10 y11 y12 y13 y14 y15
   unfold laws_FnLampsTickOfAll.l1
   repeat' first
   | (with_reducible exact ih0 _ _ _ _ _ _ _ _ _)
   | (with_reducible exact ih1 _ _ _ _ _ _ _ _ _ _ _ _)
   | (with_reducible exact ih2 _ _ _ _ _)
   | (with_reducible exact ih3 _ _ _ _ _ _ _ _ _ _ _ _)
   | (with_reducible exact ih4 _ _ _ _ _)
   | (with_reducible exact ih5 _ _ _ _ _ _ _ _ _ _ _)
   | (with_reducible exact ih6 _ _ _ _ _ _ _ _ _ _ _ _ _)
   | (with_reducible exact ih7 _ _ _ _ _ _ _ _ _ _)
   | (with_reducible exact ih8 _ _ _ _ _ _ _ _ _)
   | (with_reducible exact ih9 _ _ _ _ _ _ _ _ _ _ _)
   | (with_reducible exact ih10 _ _ _ _ _ _ _ _ _ _ _ _ _)
   | (with_reducible exact ih11 _ _ _ _ _ _ _ _ _ _ _ _ _ _ _)
   | (with_reducible exact ih12 _ _ _ _ _ _ _ _ _ _ _ _ _ _ _ _)
   | (with_reducible exact impl_TicksAfter.mono _ _ _ _)
   | (with_reducible exact impl_TimesChanging.mono _ _ _ _)
   | (with_reducible exact laws_xSame.mono _ _ _)
   | (with_reducible exact laws_xText.mono _ _ _)
   | (with_reducible exact laws_xTexts.mono _ _ _)
   | (with_reducible exact spec_CycleOfLamps.mono _ _ _)
   | (with_reducible exact spec_FirstTick.mono _ _ _ _)
   | (with_reducible exact spec_LeadOfLamps.mono _ _ _)
   | (with_reducible exact spec_TicksAfter.mono _ _ _ _)
   | (with_reducible exact spec_TimesChanging.mono _ _ _ _)
   | (with_reducible exact LeO.refl _)
   | (with_reducible exact LeO.none _)
   | (with_reducible refine LeO.ite ?_ ?_)
   | (with_reducible refine LeO.bind ?_ (fun _ => ?_))
   | exact ih0 _ _ _ _ _ _ _ _ _
   | exact ih1 _ _ _ _ _ _ _ _ _ _ _ _
   | exact ih2 _ _ _ _ _
   | exact ih3 _ _ _ _ _ _ _ _ _ _ _ _
   | exact ih4 _ _ _ _ _
   | exact ih5 _ _ _ _ _ _ _ _ _ _ _
   | exact ih6 _ _ _ _ _ _ _ _ _ _ _ _ _
   | exact ih7 _ _ _ _ _ _ _ _ _ _
   | exact ih8 _ _ _ _ _ _ _ _ _
   | exact ih9 _ _ _ _ _ _ _ _ _ _ _
   | exact ih10 _ _ _ _ _ _ _ _ _ _ _ _ _
   | exact ih11 _ _ _ _ _ _ _ _ _ _ _ _ _ _ _
   | exact ih12 _ _ _ _ _ _ _ _ _ _ _ _ _ _ _ _
   | exact impl_TicksAfter.mono _ _ _ _
   | exact impl_TimesChanging.mono _ _ _ _
   | exact laws_xSame.mono _ _ _
   | exact laws_xText.mono _ _ _
   | exact laws_xTexts.mono _ _ _
   | exact spec_CycleOfLamps.mono _ _ _
   | exact spec_FirstTick.mono _ _ _ _
   | exact spec_LeadOfLamps.mono _ _ _
   | exact spec_TicksAfter.mono _ _ _ _
   | exact spec_TimesChanging.mono _ _ _ _
   | exact LeO.none _
   | refine LeO.ite ?_ ?_
   | refine LeO.bind ?_ (fun _ => ?_)
theorem laws_FnLampsTickOfAll.mono : ∀ a0 a1 a2 a3 a4 a5 a6 a7 k, LeO (laws_FnLampsTickOfAll.f k a0 a1 a2 a3 a4 a5 a6 a7) (laws_FnLampsTickOfAll.f (k + 1) a0 a1 a2 a3 a4 a5 a6 a7) := by
 intro a0 a1 a2 a3 a4 a5 a6 a7 k
 obtain ⟨ih0, ih1, ih2, ih3, ih4, ih5, ih6, ih7, ih8, ih9, ih10, ih11, ih12⟩ := laws_FnLampsTickOfAll.mono_l k
 unfold laws_FnLampsTickOfAll.f
 repeat' first
   | (with_reducible exact ih0 _ _ _ _ _ _ _ _ _)
   | (with_reducible exact ih1 _ _ _ _ _ _ _ _ _ _ _ _)
   | (with_reducible exact ih2 _ _ _ _ _)
   | (with_reducible exact ih3 _ _ _ _ _ _ _ _ _ _ _ _)
   | (with_reducible exact ih4 _ _ _ _ _)
   | (with_reducible exact ih5 _ _ _ _ _ _ _ _ _ _ _)
   | (with_reducible exact ih6 _ _ _ _ _ _ _ _ _ _ _ _ _)
   | (with_reducible exact ih7 _ _ _ _ _ _ _ _ _ _)
   | (with_reducible exact ih8 _ _ _ _ _ _ _ _ _)
   | (with_reducible exact ih9 _ _ _ _ _ _ _ _ _ _ _)
   | (with_reducible exact ih10 _ _ _ _ _ _ _ _ _ _ _ _ _)
   | (with_reducible exact ih11 _ _ _ _ _ _ _ _ _ _ _ _ _ _ _)
   | (with_reducible exact ih12 _ _ _ _ _ _ _ _ _ _ _ _ _ _ _ _)
   | (with_reducible exact impl_TicksAfter.mono _ _ _ _)
   | (with_reducible exact impl_TimesChanging.mono _ _ _ _)
   | (with_reducible exact laws_xSame.mono _ _ _)
   | (with_reducible exact laws_xText.mono _ _ _)
   | (with_reducible exact laws_xTexts.mono _ _ _)
   | (with_reducible exact spec_CycleOfLamps.mono _ _ _)
   | (with_reducible exact spec_FirstTick.mono _ _ _ _)
   | (with_reducible exact spec_LeadOfLamps.mono _ _ _)
   | (with_reducible exact spec_TicksAfter.mono _ _ _ _)
   | (with_reducible exact spec_TimesChanging.mono _ _ _ _)
   | (with_reducible exact LeO.refl _)
   | (with_reducible exact LeO.none _)
   | (with_reducible refine LeO.ite ?_ ?_)
   | (with_reducible refine LeO.bind ?_ (fun _ => ?_))
   | exact ih0 _ _ _ _ _ _ _ _ _
   | exact ih1 _ _ _ _ _ _ _ _ _ _ _ _
   | exact ih2 _ _ _ _ _
   | exact ih3 _ _ _ _ _ _ _ _ _ _ _ _
   | exact ih4 _ _ _ _ _
   | exact ih5 _ _ _ _ _ _ _ _ _ _ _
   | exact ih6 _ _ _ _ _ _ _ _ _ _ _ _ _
   | exact ih7 _ _ _ _ _ _ _ _ _ _
   | exact ih8 _ _ _ _ _ _ _ _ _
   | exact ih9 _ _ _ _ _ _ _ _ _ _ _
   | exact ih10 _ _ _ _ _ _ _ _ _ _ _ _ _
   | exact ih11 _ _ _ _ _ _ _ _ _ _ _ _ _ _ _
   | exact ih12 _ _ _ _ _ _ _ _ _ _ _ _ _ _ _ _
   | exact impl_TicksAfter.mono _ _ _ _
   | exact impl_TimesChanging.mono _ _ _ _
   | exact laws_xSame.mono _ _ _
   | exact laws_xText.mono _ _ _
   | exact laws_xTexts.mono _ _ _
   | exact spec_CycleOfLamps.mono _ _ _
   | exact spec_FirstTick.mono _ _ _ _
   | exact spec_LeadOfLamps.mono _ _ _
   | exact spec_TicksAfter.mono _ _ _ _
   | exact spec_TimesChanging.mono _ _ _ _
   | exact LeO.none _
   | refine LeO.ite ?_ ?_
   | refine LeO.bind ?_ (fun _ => ?_)
def laws_FnLampsTickOfAll.T7 : Bool × List (List Nat × List Nat) := (true, [([], []), ([], []), ([0, 1], [0, 1]), ([2], [2]), ([3], [3]), ([3], [3]), ([4, 5, 3], [3, 4, 5]), ([3, 6], [3, 6]), ([7, 3], [7]), ([8], [8]), ([8], [8]), ([9, 10, 8], [8, 9, 10]), ([8, 11], [8, 11]), ([12, 8], [12]), ([13], [13]), ([13], [13]), ([14, 15, 13, 13], [13, 14, 15]), ([16, 13], [13, 16]), ([13, 17], [13, 17]), ([18, 16], [18]), ([19], [19]), ([19], [19]), ([20, 21, 19], [19, 20, 21]), ([19, 22], [19, 22]), ([23, 19], [23]), ([24], [24]), ([25, 24, 24], [24, 25]), ([24], [24]), ([27, 26, 24], [24, 27]), ([26, 28, 24], [24, 26, 28]), ([24, 29], [24, 29]), ([30, 28], [30]), ([31], [31]), ([32, 31, 31], [31, 32]), ([33], [33]), ([34, 33, 33], [33, 34]), ([35, 33], [33, 35]), ([33, 36, 31], [31, 33, 36]), ([31, 37], [31, 37])])
def laws_FnLampsTickOfAll.B7 : List Nat := [0, 0, 3, 7, 15, 15, 63, 127, 255, 511, 511, 2047, 4095, 8191, 16383, 16383, 65535, 131071, 262143, 524287, 1048575, 1048575, 4194303, 8388607, 16777215, 33554431, 67108863, 33554431, 268435455, 536870911, 1073741823, 2147483647, 4294967295, 8589934591, 17179869183, 34359738367, 68719476735, 137438953471, 274877906943]
theorem laws_FnLampsTickOfAll.tab7 : rtab .any (opsOf Tryd.f5 7) = laws_FnLampsTickOfAll.T7 := by kernel_rfl
theorem laws_FnLampsTickOfAll.bits7 : waitsOk laws_FnLampsTickOfAll.T7.2 laws_FnLampsTickOfAll.B7 = true := by kernel_rfl
def laws_FnLampsTickOfAll.T32 : Bool × List (List Nat × List Nat) := (true, [([], []), ([0], [0]), ([1], [1]), ([2], [2]), ([2], [2]), ([3, 4, 2], [2, 3, 4]), ([2, 5], [2, 5]), ([6, 2], [6]), ([7], [7]), ([8, 7], [7, 8]), ([9, 7], [7, 9]), ([7], [7]), ([7], [7]), ([11, 12, 7], [7, 11, 12]), ([7], [7]), ([7], [7]), ([14, 15, 7], [7, 14, 15]), ([13, 16, 7], [7, 13, 16]), ([10, 17, 7], [7, 10, 17]), ([7, 18], [7, 18])])
def laws_FnLampsTickOfAll.B32 : List Nat := [0, 1, 3, 7, 7, 31, 63, 127, 255, 511, 1023, 255, 255, 6399, 255, 255, 49407, 129279, 262143, 524287]
theorem laws_FnLampsTickOfAll.tab32 : rtab .any (opsOf Tryd.f5 32) = laws_FnLampsTickOfAll.T32 := by kernel_rfl
theorem laws_FnLampsTickOfAll.bits32 : waitsOk laws_FnLampsTickOfAll.T32.2 laws_FnLampsTickOfAll.B32 = true := by kernel_rfl
end Go.Proofs.YtifdgebdkhdmhaaDoor.PLTickOfAll
