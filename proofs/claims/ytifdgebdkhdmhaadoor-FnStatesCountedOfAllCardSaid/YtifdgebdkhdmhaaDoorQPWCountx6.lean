-- PRINTED by drive.py (a program of this session's, over the kit's print.py; wip/tools/drive.py). Lean checks it.
import Derived.Test.YtifdgebdkhdmhaaDoorQPWCountx0
import Derived.Test.YtifdgebdkhdmhaaDoorQPWCountx1
import Derived.Test.YtifdgebdkhdmhaaDoorQPWCountx2
import Derived.Test.YtifdgebdkhdmhaaDoorQPWCountx3
import Derived.Test.YtifdgebdkhdmhaaDoorQPWCountx4
import Derived.Test.YtifdgebdkhdmhaaDoorQPWCountx5
namespace Go.Proofs.YtifdgebdkhdmhaaDoor.PWCount
open Go.RowKit Go.Proofs.YtifdgebdkhdmhaaDoorW.PrintWords Go.Proofs.YtifdgebdkhdmhaaDoorW.PrintLast Go.Proofs.YtifdgebdkhdmhaaDoorW.PrintMore
attribute [local go_sem] max2_int min2_int max_two min_two max_three min_three max_four min_four   -- for this text's walks alone
set_option linter.unusedVariables false
set_option linter.unusedSimpArgs false

/-! ### laws_FnStatesCountedOfAll: function 7 -/
mutual
def laws_FnStatesCountedOfAll.j0 : Nat → Int → Int → Int → ByteArray → ByteArray → Bool → Option (Bool)
 | 0, _, _, _, _, _, _ => none
 | k + 1, x0, x1, x2, x3, x4, x84 => if x84 = true then (some true) else ((impl_StatesWithOn.f k x0 x1).bind fun bt238 => ((spec_StatesWithOn.f k x0 x1).bind fun bt242 => ((impl_CountWithOn.f k x0 x1).bind fun bt246 => ((spec_CountWithOn.f k x0 x1).bind fun bt248 => ((impl_LeastWithOn.f k x0 x1).bind fun bt250 => ((spec_LeastWithOn.f k x0 x1).bind fun bt252 => ((impl_GreatestWithOn.f k x0 x1).bind fun bt254 => ((spec_GreatestWithOn.f k x0 x1).bind fun bt256 => ((impl_SumWithOn.f k x0 x1).bind fun bt258 => ((spec_SumWithOn.f k x0 x1).bind fun bt260 => (if (bt238.2 != bt242.2) = true then (none) else ((laws_yTexts.f k bt238.1 bt242.1).bind fun t262 => (if t262 = true then (if (bt246.2 != bt248.2) = true then (none) else (if bt246.1 = bt248.1 then (if (bt250.2 != bt252.2) = true then (none) else (if bt250.1.toList = bt252.1.toList then (if (bt254.2 != bt256.2) = true then (none) else (if bt254.1.toList = bt256.1.toList then (if (bt258.2 != bt260.2) = true then (none) else (if bt258.1 = bt260.1 then (if (bt250.2 != bt246.2) = true then (none) else (if (bt254.2 != bt246.2) = true then (none) else (if (bt258.2 != bt246.2) = true then (none) else (if bt246.2 = true then (laws_FnStatesCountedOfAll.j1 k x0 x1 x2 x3 x4 bt238.1 bt238.2 bt246.1 bt246.2 bt250.1 bt254.1 bt258.1 (bt238.2 != (decide (bt246.1 ≤ 100)))) else (laws_FnStatesCountedOfAll.j1 k x0 x1 x2 x3 x4 bt238.1 bt238.2 bt246.1 bt246.2 bt250.1 bt254.1 bt258.1 (bt238.2 != false)))))) else (none))) else (none))) else (none))) else (none))) else (none))))))))))))))
def laws_FnStatesCountedOfAll.j1 : Nat → Int → Int → Int → ByteArray → ByteArray → List ByteArray → Bool → Int → Bool → ByteArray → ByteArray → Int → Bool → Option (Bool)
 | 0, _, _, _, _, _, _, _, _, _, _, _, _, _ => none
 | k + 1, x0, x1, x2, x3, x4, x11, x12, x15, x16, x19, x23, x27, x217 => if x217 = true then (none) else (if x16 = true then ((impl_NumberOfState.f k x19).bind fun bt263 => ((impl_NumberOfState.f k x23).bind fun bt265 => ((impl_CountOn.f x19).bind fun bt267 => ((impl_CountOn.f x23).bind fun bt269 => (if bt263.2 = true then (if bt265.2 = true then (if bt263.1 > bt265.1 then (none) else (if bt267.2 = true then (if bt267.1 = x1 then (if bt269.2 = true then (if bt269.1 = x1 then (if x15 < 1 then (none) else (laws_FnStatesCountedOfAll.j2 k x0 x1 x2 x3 x4 x11 x12 x15 x19 x23 x27 ((bt263.1 == bt265.1) != (x15 == 1)))) else (none)) else (none)) else (none)) else (none))) else (none)) else (none)))))) else (laws_FnStatesCountedOfAll.j4 k x0 x1 x2 x3 x4 x11 x12 x15 x19 x23 x27))
def laws_FnStatesCountedOfAll.j4 : Nat → Int → Int → Int → ByteArray → ByteArray → List ByteArray → Bool → Int → ByteArray → ByteArray → Int → Option (Bool)
 | 0, _, _, _, _, _, _, _, _, _, _, _ => none
 | k + 1, x0, x1, x2, x3, x4, x11, x12, x15, x19, x23, x27 => if x12 = true then (laws_FnStatesCountedOfAll.l1 k x0 x1 x2 x3 x4 x11 x15 x19 x23 x27 0 (-1) x11 (x11.length : Int) 0) else (laws_FnStatesCountedOfAll.j6 k x2 x3 x4)
def laws_FnStatesCountedOfAll.j6 : Nat → Int → ByteArray → ByteArray → Option (Bool)
 | 0, _, _, _ => none
 | k + 1, x2, x3, x4 => (impl_MeanNumber.f k x2).bind fun bt280 => ((spec_MeanNumber.f x2).bind fun bt283 => ((impl_MeanOfPairs.f k x2).bind fun bt286 => ((spec_MeanOfPairs.f k x2).bind fun bt289 => ((impl_MeanOnAlong.f k x3 x4).bind fun bt292 => ((spec_MeanOnAlong.f k x3 x4).bind fun bt295 => (if (bt280.2.2 != bt283.2.2) = true then (none) else (if bt280.1 = bt283.1 then (if bt280.2.1 = bt283.2.1 then (if (bt286.2.2 != bt289.2.2) = true then (none) else (if bt286.1 = bt289.1 then (if bt286.2.1 = bt289.2.1 then (if (bt286.2.2 != bt280.2.2) = true then (none) else (if (bt292.2.2 != bt295.2.2) = true then (none) else (if bt292.1 = bt295.1 then (laws_FnStatesCountedOfAll.j7 k x2 x3 x4 bt280.1 bt280.2.1 bt280.2.2 bt286.1 bt286.2.1 bt292.1 bt292.2.1 bt292.2.2 (bt292.2.1 != bt295.2.1)) else (none)))) else (none)) else (none))) else (none)) else (none))))))))
def laws_FnStatesCountedOfAll.j7 : Nat → Int → ByteArray → ByteArray → Int → Int → Bool → Int → Int → Int → Int → Bool → Bool → Option (Bool)
 | 0, _, _, _, _, _, _, _, _, _, _, _, _ => none
 | k + 1, x2, x3, x4, x51, x52, x53, x57, x58, x63, x64, x65, x454 => if x454 = true then (none) else (if x53 = true then (if 0 ≤ x2 then (if (wrap64 (x51 * 2)) = (wrap64 (x52 * (wrap64 ((shl .i64 1 x2) - 1)))) then (if (wrap64 ((wrap64 (x57 * 3)) * (shl .i64 1 x2))) = (wrap64 (x58 * (wrap64 ((wrap64 ((shl .i64 1 x2) * (shl .i64 1 x2))) - 1)))) then (laws_FnStatesCountedOfAll.j8 k x3 x4 x63 x64 x65) else (none)) else (none)) else (none)) else (laws_FnStatesCountedOfAll.j8 k x3 x4 x63 x64 x65))
def laws_FnStatesCountedOfAll.j8 : Nat → ByteArray → ByteArray → Int → Int → Bool → Option (Bool)
 | 0, _, _, _, _, _ => none
 | k + 1, x3, x4, x63, x64, x65 => if x65 = true then ((impl_StatesBetween.f k x3 x4).bind fun bt298 => (if bt298.2 = true then (laws_FnStatesCountedOfAll.l2 k x63 x64 bt298.1 0 bt298.1 (bt298.1.length : Int) 0) else (some true))) else (some true)
def laws_FnStatesCountedOfAll.l2 : Nat → Int → Int → List ByteArray → Int → List ByteArray → Int → Int → Option (Bool)
 | 0, _, _, _, _, _, _, _ => none
 | k + 1, x63, x64, x70, x72, x486, x487, x488 => if x488 < x487 then (if 0 ≤ x488 then (if x488 < (x486.length : Int) then ((impl_CountOn.f (rdOf ByteArray.empty x486 x488)).bind fun bt303 => (if bt303.2 = true then (laws_FnStatesCountedOfAll.l2 k x63 x64 x70 (wrap64 (x72 + bt303.1)) x486 x487 (wrap64 (x488 + 1))) else (none))) else (none)) else (none)) else (some ((wrap64 (x72 * x64)) == (wrap64 (x63 * (x70.length : Int)))))
def laws_FnStatesCountedOfAll.l1 : Nat → Int → Int → Int → ByteArray → ByteArray → List ByteArray → Int → ByteArray → ByteArray → Int → Int → Int → List ByteArray → Int → Int → Option (Bool)
 | 0, _, _, _, _, _, _, _, _, _, _, _, _, _, _, _ => none
 | k + 1, x0, x1, x2, x3, x4, x11, x15, x19, x23, x27, x43, x44, x301, x302, x303 => if x303 < x302 then (if 0 ≤ x303 then (if x303 < (x301.length : Int) then ((impl_NumberOfState.f k (rdOf ByteArray.empty x301 x303)).bind fun bt274 => ((impl_CountOn.f (rdOf ByteArray.empty x301 x303)).bind fun bt276 => (if bt274.2 = true then (if bt274.1 ≤ x44 then (none) else (if bt276.2 = true then (if bt276.1 = x1 then (if ((rdOf ByteArray.empty x301 x303).size : Int) = x0 then (laws_FnStatesCountedOfAll.l1 k x0 x1 x2 x3 x4 x11 x15 x19 x23 x27 (wrap64 (x43 + bt274.1)) bt274.1 x301 x302 (wrap64 (x303 + 1))) else (none)) else (none)) else (none))) else (none)))) else (none)) else (none)) else (if (x11.length : Int) = x15 then (if x43 = x27 then (if 0 < (x11.length : Int) then (if (rdOf ByteArray.empty x11 0).toList = x19.toList then (if 0 ≤ (wrap64 (x15 - 1)) then (if (wrap64 (x15 - 1)) < (x11.length : Int) then (if (rdOf ByteArray.empty x11 (wrap64 (x15 - 1))).toList = x23.toList then (laws_FnStatesCountedOfAll.j6 k x2 x3 x4) else (none)) else (none)) else (none)) else (none)) else (none)) else (none)) else (none))
def laws_FnStatesCountedOfAll.j2 : Nat → Int → Int → Int → ByteArray → ByteArray → List ByteArray → Bool → Int → ByteArray → ByteArray → Int → Bool → Option (Bool)
 | 0, _, _, _, _, _, _, _, _, _, _, _, _ => none
 | k + 1, x0, x1, x2, x3, x4, x11, x12, x15, x19, x23, x27, x279 => if x279 = true then (none) else (laws_FnStatesCountedOfAll.l0 k x0 x1 x2 x3 x4 x11 x12 x15 x19 x23 x27 0 0)
def laws_FnStatesCountedOfAll.l0 : Nat → Int → Int → Int → ByteArray → ByteArray → List ByteArray → Bool → Int → ByteArray → ByteArray → Int → Int → Int → Option (Bool)
 | 0, _, _, _, _, _, _, _, _, _, _, _, _, _ => none
 | k + 1, x0, x1, x2, x3, x4, x11, x12, x15, x19, x23, x27, x39, x40 => if x40 ≤ x0 then ((impl_CountWithOn.f k x0 x40).bind fun bt271 => (if bt271.2 = true then (laws_FnStatesCountedOfAll.l0 k x0 x1 x2 x3 x4 x11 x12 x15 x19 x23 x27 (wrap64 (x39 + bt271.1)) (wrap64 (x40 + 1))) else (none))) else (if 0 ≤ x0 then (if x39 = (shl .i64 1 x0) then (laws_FnStatesCountedOfAll.j4 k x0 x1 x2 x3 x4 x11 x12 x15 x19 x23 x27) else (none)) else (none))
end
def laws_FnStatesCountedOfAll.f (k : Nat) (a0 : Int) (a1 : Int) (a2 : Int) (a3 : ByteArray) (a4 : ByteArray) : Option (Bool) := if (a3.size : Int) > 1048576 then (laws_FnStatesCountedOfAll.j0 k a0 a1 a2 a3 a4 true) else (laws_FnStatesCountedOfAll.j0 k a0 a1 a2 a3 a4 (decide ((a4.size : Int) > 1048576)))
theorem laws_FnStatesCountedOfAll.mono_l : ∀ k, (∀ y0 y1 y2 y3 y4 y5, LeO (laws_FnStatesCountedOfAll.j0 k y0 y1 y2 y3 y4 y5) (laws_FnStatesCountedOfAll.j0 (k + 1) y0 y1 y2 y3 y4 y5)) ∧ (∀ y0 y1 y2 y3 y4 y5 y6 y7 y8 y9 y10 y11 y12, LeO (laws_FnStatesCountedOfAll.j1 k y0 y1 y2 y3 y4 y5 y6 y7 y8 y9 y10 y11 y12) (laws_FnStatesCountedOfAll.j1 (k + 1) y0 y1 y2 y3 y4 y5 y6 y7 y8 y9 y10 y11 y12)) ∧ (∀ y0 y1 y2 y3 y4 y5 y6 y7 y8 y9 y10, LeO (laws_FnStatesCountedOfAll.j4 k y0 y1 y2 y3 y4 y5 y6 y7 y8 y9 y10) (laws_FnStatesCountedOfAll.j4 (k + 1) y0 y1 y2 y3 y4 y5 y6 y7 y8 y9 y10)) ∧ (∀ y0 y1 y2, LeO (laws_FnStatesCountedOfAll.j6 k y0 y1 y2) (laws_FnStatesCountedOfAll.j6 (k + 1) y0 y1 y2)) ∧ (∀ y0 y1 y2 y3 y4 y5 y6 y7 y8 y9 y10 y11, LeO (laws_FnStatesCountedOfAll.j7 k y0 y1 y2 y3 y4 y5 y6 y7 y8 y9 y10 y11) (laws_FnStatesCountedOfAll.j7 (k + 1) y0 y1 y2 y3 y4 y5 y6 y7 y8 y9 y10 y11)) ∧ (∀ y0 y1 y2 y3 y4, LeO (laws_FnStatesCountedOfAll.j8 k y0 y1 y2 y3 y4) (laws_FnStatesCountedOfAll.j8 (k + 1) y0 y1 y2 y3 y4)) ∧ (∀ y0 y1 y2 y3 y4 y5 y6, LeO (laws_FnStatesCountedOfAll.l2 k y0 y1 y2 y3 y4 y5 y6) (laws_FnStatesCountedOfAll.l2 (k + 1) y0 y1 y2 y3 y4 y5 y6)) ∧ (∀ y0 y1 y2 y3 y4 y5 y6 y7 y8 y9 y10 y11 y12 y13 y14, LeO (laws_FnStatesCountedOfAll.l1 k y0 y1 y2 y3 y4 y5 y6 y7 y8 y9 y10 y11 y12 y13 y14) (laws_FnStatesCountedOfAll.l1 (k + 1) y0 y1 y2 y3 y4 y5 y6 y7 y8 y9 y10 y11 y12 y13 y14)) ∧ (∀ y0 y1 y2 y3 y4 y5 y6 y7 y8 y9 y10 y11, LeO (laws_FnStatesCountedOfAll.j2 k y0 y1 y2 y3 y4 y5 y6 y7 y8 y9 y10 y11) (laws_FnStatesCountedOfAll.j2 (k + 1) y0 y1 y2 y3 y4 y5 y6 y7 y8 y9 y10 y11)) ∧ (∀ y0 y1 y2 y3 y4 y5 y6 y7 y8 y9 y10 y11 y12, LeO (laws_FnStatesCountedOfAll.l0 k y0 y1 y2 y3 y4 y5 y6 y7 y8 y9 y10 y11 y12) (laws_FnStatesCountedOfAll.l0 (k + 1) y0 y1 y2 y3 y4 y5 y6 y7 y8 y9 y10 y11 y12))
 | 0 => ⟨fun _ _ _ _ _ _ r h => by simp [laws_FnStatesCountedOfAll.j0] at h, fun _ _ _ _ _ _ _ _ _ _ _ _ _ r h => by simp [laws_FnStatesCountedOfAll.j1] at h, fun _ _ _ _ _ _ _ _ _ _ _ r h => by simp [laws_FnStatesCountedOfAll.j4] at h, fun _ _ _ r h => by simp [laws_FnStatesCountedOfAll.j6] at h, fun _ _ _ _ _ _ _ _ _ _ _ _ r h => by simp [laws_FnStatesCountedOfAll.j7] at h, fun _ _ _ _ _ r h => by simp [laws_FnStatesCountedOfAll.j8] at h, fun _ _ _ _ _ _ _ r h => by simp [laws_FnStatesCountedOfAll.l2] at h, fun _ _ _ _ _ _ _ _ _ _ _ _ _ _ _ r h => by simp [laws_FnStatesCountedOfAll.l1] at h, fun _ _ _ _ _ _ _ _ _ _ _ _ r h => by simp [laws_FnStatesCountedOfAll.j2] at h, fun _ _ _ _ _ _ _ _ _ _ _ _ _ r h => by simp [laws_FnStatesCountedOfAll.l0] at h⟩
 | k + 1 => by
  obtain ⟨ih0, ih1, ih2, ih3, ih4, ih5, ih6, ih7, ih8, ih9⟩ := laws_FnStatesCountedOfAll.mono_l k
  refine ⟨?_, ?_, ?_, ?_, ?_, ?_, ?_, ?_, ?_, ?_⟩
  ·intro y0 y1 y2 y3 y4 y5
   unfold laws_FnStatesCountedOfAll.j0
   repeat' first
   | (with_reducible exact ih0 _ _ _ _ _ _)
   | (with_reducible exact ih1 _ _ _ _ _ _ _ _ _ _ _ _ _)
   | (with_reducible exact ih2 _ _ _ _ _ _ _ _ _ _ _)
   | (with_reducible exact ih3 _ _ _)
   | (with_reducible exact ih4 _ _ _ _ _ _ _ _ _ _ _ _)
   | (with_reducible exact ih5 _ _ _ _ _)
   | (with_reducible exact ih6 _ _ _ _ _ _ _)
   | (with_reducible exact ih7 _ _ _ _ _ _ _ _ _ _ _ _ _ _ _)
   | (with_reducible exact ih8 _ _ _ _ _ _ _ _ _ _ _ _)
   | (with_reducible exact ih9 _ _ _ _ _ _ _ _ _ _ _ _ _)
   | (with_reducible exact impl_CountWithOn.mono _ _ _)
   | (with_reducible exact impl_GreatestWithOn.mono _ _ _)
   | (with_reducible exact impl_LeastWithOn.mono _ _ _)
   | (with_reducible exact impl_MeanNumber.mono _ _)
   | (with_reducible exact impl_MeanOfPairs.mono _ _)
   | (with_reducible exact impl_MeanOnAlong.mono _ _ _)
   | (with_reducible exact impl_NumberOfState.mono _ _)
   | (with_reducible exact impl_StatesBetween.mono _ _ _)
   | (with_reducible exact impl_StatesWithOn.mono _ _ _)
   | (with_reducible exact impl_SumWithOn.mono _ _ _)
   | (with_reducible exact laws_yTexts.mono _ _ _)
   | (with_reducible exact spec_CountWithOn.mono _ _ _)
   | (with_reducible exact spec_GreatestWithOn.mono _ _ _)
   | (with_reducible exact spec_LeastWithOn.mono _ _ _)
   | (with_reducible exact spec_MeanOfPairs.mono _ _)
   | (with_reducible exact spec_MeanOnAlong.mono _ _ _)
   | (with_reducible exact spec_StatesWithOn.mono _ _ _)
   | (with_reducible exact spec_SumWithOn.mono _ _ _)
   | (with_reducible exact LeO.refl _)
   | (with_reducible exact LeO.none _)
   | (with_reducible refine LeO.ite ?_ ?_)
   | (with_reducible refine LeO.bind ?_ (fun _ => ?_))
   | exact ih0 _ _ _ _ _ _
   | exact ih1 _ _ _ _ _ _ _ _ _ _ _ _ _
   | exact ih2 _ _ _ _ _ _ _ _ _ _ _
   | exact ih3 _ _ _
   | exact ih4 _ _ _ _ _ _ _ _ _ _ _ _
   | exact ih5 _ _ _ _ _
   | exact ih6 _ _ _ _ _ _ _
   | exact ih7 _ _ _ _ _ _ _ _ _ _ _ _ _ _ _
   | exact ih8 _ _ _ _ _ _ _ _ _ _ _ _
   | exact ih9 _ _ _ _ _ _ _ _ _ _ _ _ _
   | exact impl_CountWithOn.mono _ _ _
   | exact impl_GreatestWithOn.mono _ _ _
   | exact impl_LeastWithOn.mono _ _ _
   | exact impl_MeanNumber.mono _ _
   | exact impl_MeanOfPairs.mono _ _
   | exact impl_MeanOnAlong.mono _ _ _
   | exact impl_NumberOfState.mono _ _
   | exact impl_StatesBetween.mono _ _ _
   | exact impl_StatesWithOn.mono _ _ _
   | exact impl_SumWithOn.mono _ _ _
   | exact laws_yTexts.mono _ _ _
   | exact spec_CountWithOn.mono _ _ _
   | exact spec_GreatestWithOn.mono _ _ _
   | exact spec_LeastWithOn.mono _ _ _
   | exact spec_MeanOfPairs.mono _ _
   | exact spec_MeanOnAlong.mono _ _ _
   | exact spec_StatesWithOn.mono _ _ _
   | exact spec_SumWithOn.mono _ _ _
   | exact LeO.none _
   | refine LeO.ite ?_ ?_
   | refine LeO.bind ?_ (fun _ => ?_)
  ·intro y0 y1 y2 y3 y4 y5 y6 y7 y8 y9 y10 y11 y12
   unfold laws_FnStatesCountedOfAll.j1
   repeat' first
   | (with_reducible exact ih0 _ _ _ _ _ _)
   | (with_reducible exact ih1 _ _ _ _ _ _ _ _ _ _ _ _ _)
   | (with_reducible exact ih2 _ _ _ _ _ _ _ _ _ _ _)
   | (with_reducible exact ih3 _ _ _)
   | (with_reducible exact ih4 _ _ _ _ _ _ _ _ _ _ _ _)
   | (with_reducible exact ih5 _ _ _ _ _)
   | (with_reducible exact ih6 _ _ _ _ _ _ _)
   | (with_reducible exact ih7 _ _ _ _ _ _ _ _ _ _ _ _ _ _ _)
   | (with_reducible exact ih8 _ _ _ _ _ _ _ _ _ _ _ _)
   | (with_reducible exact ih9 _ _ _ _ _ _ _ _ _ _ _ _ _)
   | (with_reducible exact impl_CountWithOn.mono _ _ _)
   | (with_reducible exact impl_GreatestWithOn.mono _ _ _)
   | (with_reducible exact impl_LeastWithOn.mono _ _ _)
   | (with_reducible exact impl_MeanNumber.mono _ _)
   | (with_reducible exact impl_MeanOfPairs.mono _ _)
   | (with_reducible exact impl_MeanOnAlong.mono _ _ _)
   | (with_reducible exact impl_NumberOfState.mono _ _)
   | (with_reducible exact impl_StatesBetween.mono _ _ _)
   | (with_reducible exact impl_StatesWithOn.mono _ _ _)
   | (with_reducible exact impl_SumWithOn.mono _ _ _)
   | (with_reducible exact laws_yTexts.mono _ _ _)
   | (with_reducible exact spec_CountWithOn.mono _ _ _)
   | (with_reducible exact spec_GreatestWithOn.mono _ _ _)
   | (with_reducible exact spec_LeastWithOn.mono _ _ _)
   | (with_reducible exact spec_MeanOfPairs.mono _ _)
   | (with_reducible exact spec_MeanOnAlong.mono _ _ _)
   | (with_reducible exact spec_StatesWithOn.mono _ _ _)
   | (with_reducible exact spec_SumWithOn.mono _ _ _)
   | (with_reducible exact LeO.refl _)
   | (with_reducible exact LeO.none _)
   | (with_reducible refine LeO.ite ?_ ?_)
   | (with_reducible refine LeO.bind ?_ (fun _ => ?_))
   | exact ih0 _ _ _ _ _ _
   | exact ih1 _ _ _ _ _ _ _ _ _ _ _ _ _
   | exact ih2 _ _ _ _ _ _ _ _ _ _ _
   | exact ih3 _ _ _
   | exact ih4 _ _ _ _ _ _ _ _ _ _ _ _
   | exact ih5 _ _ _ _ _
   | exact ih6 _ _ _ _ _ _ _
   | exact ih7 _ _ _ _ _ _ _ _ _ _ _ _ _ _ _
   | exact ih8 _ _ _ _ _ _ _ _ _ _ _ _
   | exact ih9 _ _ _ _ _ _ _ _ _ _ _ _ _
   | exact impl_CountWithOn.mono _ _ _
   | exact impl_GreatestWithOn.mono _ _ _
   | exact impl_LeastWithOn.mono _ _ _
   | exact impl_MeanNumber.mono _ _
   | exact impl_MeanOfPairs.mono _ _
   | exact impl_MeanOnAlong.mono _ _ _
   | exact impl_NumberOfState.mono _ _
   | exact impl_StatesBetween.mono _ _ _
   | exact impl_StatesWithOn.mono _ _ _
   | exact impl_SumWithOn.mono _ _ _
   | exact laws_yTexts.mono _ _ _
   | exact spec_CountWithOn.mono _ _ _
   | exact spec_GreatestWithOn.mono _ _ _
   | exact spec_LeastWithOn.mono _ _ _
   | exact spec_MeanOfPairs.mono _ _
   | exact spec_MeanOnAlong.mono _ _ _
   | exact spec_StatesWithOn.mono _ _ _
   | exact spec_SumWithOn.mono _ _ _
   | exact LeO.none _
   | refine LeO.ite ?_ ?_
   | refine LeO.bind ?_ (fun _ => ?_)
  ·intro y0 y1 y2 y3 y4 y5 y6 y7 y8 y9 y10
   unfold laws_FnStatesCountedOfAll.j4
   repeat' first
   | (with_reducible exact ih0 _ _ _ _ _ _)
   | (with_reducible exact ih1 _ _ _ _ _ _ _ _ _ _ _ _ _)
   | (with_reducible exact ih2 _ _ _ _ _ _ _ _ _ _ _)
   | (with_reducible exact ih3 _ _ _)
   | (with_reducible exact ih4 _ _ _ _ _ _ _ _ _ _ _ _)
   | (with_reducible exact ih5 _ _ _ _ _)
   | (with_reducible exact ih6 _ _ _ _ _ _ _)
   | (with_reducible exact ih7 _ _ _ _ _ _ _ _ _ _ _ _ _ _ _)
   | (with_reducible exact ih8 _ _ _ _ _ _ _ _ _ _ _ _)
   | (with_reducible exact ih9 _ _ _ _ _ _ _ _ _ _ _ _ _)
   | (with_reducible exact impl_CountWithOn.mono _ _ _)
   | (with_reducible exact impl_GreatestWithOn.mono _ _ _)
   | (with_reducible exact impl_LeastWithOn.mono _ _ _)
   | (with_reducible exact impl_MeanNumber.mono _ _)
   | (with_reducible exact impl_MeanOfPairs.mono _ _)
   | (with_reducible exact impl_MeanOnAlong.mono _ _ _)
   | (with_reducible exact impl_NumberOfState.mono _ _)
   | (with_reducible exact impl_StatesBetween.mono _ _ _)
   | (with_reducible exact impl_StatesWithOn.mono _ _ _)
   | (with_reducible exact impl_SumWithOn.mono _ _ _)
   | (with_reducible exact laws_yTexts.mono _ _ _)
   | (with_reducible exact spec_CountWithOn.mono _ _ _)
   | (with_reducible exact spec_GreatestWithOn.mono _ _ _)
   | (with_reducible exact spec_LeastWithOn.mono _ _ _)
   | (with_reducible exact spec_MeanOfPairs.mono _ _)
   | (with_reducible exact spec_MeanOnAlong.mono _ _ _)
   | (with_reducible exact spec_StatesWithOn.mono _ _ _)
   | (with_reducible exact spec_SumWithOn.mono _ _ _)
   | (with_reducible exact LeO.refl _)
   | (with_reducible exact LeO.none _)
   | (with_reducible refine LeO.ite ?_ ?_)
   | (with_reducible refine LeO.bind ?_ (fun _ => ?_))
   | exact ih0 _ _ _ _ _ _
   | exact ih1 _ _ _ _ _ _ _ _ _ _ _ _ _
   | exact ih2 _ _ _ _ _ _ _ _ _ _ _
   | exact ih3 _ _ _
   | exact ih4 _ _ _ _ _ _ _ _ _ _ _ _
   | exact ih5 _ _ _ _ _
   | exact ih6 _ _ _ _ _ _ _
   | exact ih7 _ _ _ _ _ _ _ _ _ _ _ _ _ _ _
   | exact ih8 _ _ _ _ _ _ _ _ _ _ _ _
   | exact ih9 _ _ _ _ _ _ _ _ _ _ _ _ _
   | exact impl_CountWithOn.mono _ _ _
   | exact impl_GreatestWithOn.mono _ _ _
   | exact impl_LeastWithOn.mono _ _ _
   | exact impl_MeanNumber.mono _ _
   | exact impl_MeanOfPairs.mono _ _
   | exact impl_MeanOnAlong.mono _ _ _
   | exact impl_NumberOfState.mono _ _
   | exact impl_StatesBetween.mono _ _ _
   | exact impl_StatesWithOn.mono _ _ _
   | exact impl_SumWithOn.mono _ _ _
   | exact laws_yTexts.mono _ _ _
   | exact spec_CountWithOn.mono _ _ _
   | exact spec_GreatestWithOn.mono _ _ _
   | exact spec_LeastWithOn.mono _ _ _
   | exact spec_MeanOfPairs.mono _ _
   | exact spec_MeanOnAlong.mono _ _ _
   | exact spec_StatesWithOn.mono _ _ _
   | exact spec_SumWithOn.mono _ _ _
   | exact LeO.none _
   | refine LeO.ite ?_ ?_
   | refine LeO.bind ?_ (fun _ => ?_)
  ·intro y0 y1 y2
   unfold laws_FnStatesCountedOfAll.j6
   repeat' first
   | (with_reducible exact ih0 _ _ _ _ _ _)
   | (with_reducible exact ih1 _ _ _ _ _ _ _ _ _ _ _ _ _)
   | (with_reducible exact ih2 _ _ _ _ _ _ _ _ _ _ _)
   | (with_reducible exact ih3 _ _ _)
   | (with_reducible exact ih4 _ _ _ _ _ _ _ _ _ _ _ _)
   | (with_reducible exact ih5 _ _ _ _ _)
   | (with_reducible exact ih6 _ _ _ _ _ _ _)
   | (with_reducible exact ih7 _ _ _ _ _ _ _ _ _ _ _ _ _ _ _)
   | (with_reducible exact ih8 _ _ _ _ _ _ _ _ _ _ _ _)
   | (with_reducible exact ih9 _ _ _ _ _ _ _ _ _ _ _ _ _)
   | (with_reducible exact impl_CountWithOn.mono _ _ _)
   | (with_reducible exact impl_GreatestWithOn.mono _ _ _)
   | (with_reducible exact impl_LeastWithOn.mono _ _ _)
   | (with_reducible exact impl_MeanNumber.mono _ _)
   | (with_reducible exact impl_MeanOfPairs.mono _ _)
   | (with_reducible exact impl_MeanOnAlong.mono _ _ _)
   | (with_reducible exact impl_NumberOfState.mono _ _)
   | (with_reducible exact impl_StatesBetween.mono _ _ _)
   | (with_reducible exact impl_StatesWithOn.mono _ _ _)
   | (with_reducible exact impl_SumWithOn.mono _ _ _)
   | (with_reducible exact laws_yTexts.mono _ _ _)
   | (with_reducible exact spec_CountWithOn.mono _ _ _)
   | (with_reducible exact spec_GreatestWithOn.mono _ _ _)
   | (with_reducible exact spec_LeastWithOn.mono _ _ _)
   | (with_reducible exact spec_MeanOfPairs.mono _ _)
   | (with_reducible exact spec_MeanOnAlong.mono _ _ _)
   | (with_reducible exact spec_StatesWithOn.mono _ _ _)
   | (with_reducible exact spec_SumWithOn.mono _ _ _)
   | (with_reducible exact LeO.refl _)
   | (with_reducible exact LeO.none _)
   | (with_reducible refine LeO.ite ?_ ?_)
   | (with_reducible refine LeO.bind ?_ (fun _ => ?_))
   | exact ih0 _ _ _ _ _ _
   | exact ih1 _ _ _ _ _ _ _ _ _ _ _ _ _
   | exact ih2 _ _ _ _ _ _ _ _ _ _ _
   | exact ih3 _ _ _
   | exact ih4 _ _ _ _ _ _ _ _ _ _ _ _
   | exact ih5 _ _ _ _ _
   | exact ih6 _ _ _ _ _ _ _
   | exact ih7 _ _ _ _ _ _ _ _ _ _ _ _ _ _ _
   | exact ih8 _ _ _ _ _ _ _ _ _ _ _ _
   | exact ih9 _ _ _ _ _ _ _ _ _ _ _ _ _
   | exact impl_CountWithOn.mono _ _ _
   | exact impl_GreatestWithOn.mono _ _ _
   | exact impl_LeastWithOn.mono _ _ _
   | exact impl_MeanNumber.mono _ _
   | exact impl_MeanOfPairs.mono _ _
   | exact impl_MeanOnAlong.mono _ _ _
   | exact impl_NumberOfState.mono _ _
   | exact impl_StatesBetween.mono _ _ _
   | exact impl_StatesWithOn.mono _ _ _
   | exact impl_SumWithOn.mono _ _ _
   | exact laws_yTexts.mono _ _ _
   | exact spec_CountWithOn.mono _ _ _
   | exact spec_GreatestWithOn.mono _ _ _
   | exact spec_LeastWithOn.mono _ _ _
   | exact spec_MeanOfPairs.mono _ _
   | exact spec_MeanOnAlong.mono _ _ _
   | exact spec_StatesWithOn.mono _ _ _
   | exact spec_SumWithOn.mono _ _ _
   | exact LeO.none _
   | refine LeO.ite ?_ ?_
   | refine LeO.bind ?_ (fun _ => ?_)
  ·intro y0 y1 y2 y3 y4 y5 y6 y7 y8 y9 y10 y11
   unfold laws_FnStatesCountedOfAll.j7
   repeat' first
   | (with_reducible exact ih0 _ _ _ _ _ _)
   | (with_reducible exact ih1 _ _ _ _ _ _ _ _ _ _ _ _ _)
   | (with_reducible exact ih2 _ _ _ _ _ _ _ _ _ _ _)
   | (with_reducible exact ih3 _ _ _)
   | (with_reducible exact ih4 _ _ _ _ _ _ _ _ _ _ _ _)
   | (with_reducible exact ih5 _ _ _ _ _)
   | (with_reducible exact ih6 _ _ _ _ _ _ _)
   | (with_reducible exact ih7 _ _ _ _ _ _ _ _ _ _ _ _ _ _ _)
   | (with_reducible exact ih8 _ _ _ _ _ _ _ _ _ _ _ _)
   | (with_reducible exact ih9 _ _ _ _ _ _ _ _ _ _ _ _ _)
   | (with_reducible exact impl_CountWithOn.mono _ _ _)
   | (with_reducible exact impl_GreatestWithOn.mono _ _ _)
   | (with_reducible exact impl_LeastWithOn.mono _ _ _)
   | (with_reducible exact impl_MeanNumber.mono _ _)
   | (with_reducible exact impl_MeanOfPairs.mono _ _)
   | (with_reducible exact impl_MeanOnAlong.mono _ _ _)
   | (with_reducible exact impl_NumberOfState.mono _ _)
   | (with_reducible exact impl_StatesBetween.mono _ _ _)
   | (with_reducible exact impl_StatesWithOn.mono _ _ _)
   | (with_reducible exact impl_SumWithOn.mono _ _ _)
   | (with_reducible exact laws_yTexts.mono _ _ _)
   | (with_reducible exact spec_CountWithOn.mono _ _ _)
   | (with_reducible exact spec_GreatestWithOn.mono _ _ _)
   | (with_reducible exact spec_LeastWithOn.mono _ _ _)
   | (with_reducible exact spec_MeanOfPairs.mono _ _)
   | (with_reducible exact spec_MeanOnAlong.mono _ _ _)
   | (with_reducible exact spec_StatesWithOn.mono _ _ _)
   | (with_reducible exact spec_SumWithOn.mono _ _ _)
   | (with_reducible exact LeO.refl _)
   | (with_reducible exact LeO.none _)
   | (with_reducible refine LeO.ite ?_ ?_)
   | (with_reducible refine LeO.bind ?_ (fun _ => ?_))
   | exact ih0 _ _ _ _ _ _
   | exact ih1 _ _ _ _ _ _ _ _ _ _ _ _ _
   | exact ih2 _ _ _ _ _ _ _ _ _ _ _
   | exact ih3 _ _ _
   | exact ih4 _ _ _ _ _ _ _ _ _ _ _ _
   | exact ih5 _ _ _ _ _
   | exact ih6 _ _ _ _ _ _ _
   | exact ih7 _ _ _ _ _ _ _ _ _ _ _ _ _ _ _
   | exact ih8 _ _ _ _ _ _ _ _ _ _ _ _
   | exact ih9 _ _ _ _ _ _ _ _ _ _ _ _ _
   | exact impl_CountWithOn.mono _ _ _
   | exact impl_GreatestWithOn.mono _ _ _
   | exact impl_LeastWithOn.mono _ _ _
   | exact impl_MeanNumber.mono _ _
   | exact impl_MeanOfPairs.mono _ _
   | exact impl_MeanOnAlong.mono _ _ _
   | exact impl_NumberOfState.mono _ _
   | exact impl_StatesBetween.mono _ _ _
   | exact impl_StatesWithOn.mono _ _ _
   | exact impl_SumWithOn.mono _ _ _
   | exact laws_yTexts.mono _ _ _
   | exact spec_CountWithOn.mono _ _ _
   | exact spec_GreatestWithOn.mono _ _ _
   | exact spec_LeastWithOn.mono _ _ _
   | exact spec_MeanOfPairs.mono _ _
   | exact spec_MeanOnAlong.mono _ _ _
   | exact spec_StatesWithOn.mono _ _ _
   | exact spec_SumWithOn.mono _ _ _
   | exact LeO.none _
   | refine LeO.ite ?_ ?_
   | refine LeO.bind ?_ (fun _ => ?_)
  ·intro y0 y1 y2 y3 y4
   unfold laws_FnStatesCountedOfAll.j8
   repeat' first
   | (with_reducible exact ih0 _ _ _ _ _ _)
   | (with_reducible exact ih1 _ _ _ _ _ _ _ _ _ _ _ _ _)
   | (with_reducible exact ih2 _ _ _ _ _ _ _ _ _ _ _)
   | (with_reducible exact ih3 _ _ _)
   | (with_reducible exact ih4 _ _ _ _ _ _ _ _ _ _ _ _)
   | (with_reducible exact ih5 _ _ _ _ _)
   | (with_reducible exact ih6 _ _ _ _ _ _ _)
   | (with_reducible exact ih7 _ _ _ _ _ _ _ _ _ _ _ _ _ _ _)
   | (with_reducible exact ih8 _ _ _ _ _ _ _ _ _ _ _ _)
   | (with_reducible exact ih9 _ _ _ _ _ _ _ _ _ _ _ _ _)
   | (with_reducible exact impl_CountWithOn.mono _ _ _)
   | (with_reducible exact impl_GreatestWithOn.mono _ _ _)
   | (with_reducible exact impl_LeastWithOn.mono _ _ _)
   | (with_reducible exact impl_MeanNumber.mono _ _)
   | (with_reducible exact impl_MeanOfPairs.mono _ _)
   | (with_reducible exact impl_MeanOnAlong.mono _ _ _)
   | (with_reducible exact impl_NumberOfState.mono _ _)
   | (with_reducible exact impl_StatesBetween.mono _ _ _)
   | (with_reducible exact impl_StatesWithOn.mono _ _ _)
   | (with_reducible exact impl_SumWithOn.mono _ _ _)
   | (with_reducible exact laws_yTexts.mono _ _ _)
   | (with_reducible exact spec_CountWithOn.mono _ _ _)
   | (with_reducible exact spec_GreatestWithOn.mono _ _ _)
   | (with_reducible exact spec_LeastWithOn.mono _ _ _)
   | (with_reducible exact spec_MeanOfPairs.mono _ _)
   | (with_reducible exact spec_MeanOnAlong.mono _ _ _)
   | (with_reducible exact spec_StatesWithOn.mono _ _ _)
   | (with_reducible exact spec_SumWithOn.mono _ _ _)
   | (with_reducible exact LeO.refl _)
   | (with_reducible exact LeO.none _)
   | (with_reducible refine LeO.ite ?_ ?_)
   | (with_reducible refine LeO.bind ?_ (fun _ => ?_))
   | exact ih0 _ _ _ _ _ _
   | exact ih1 _ _ _ _ _ _ _ _ _ _ _ _ _
   | exact ih2 _ _ _ _ _ _ _ _ _ _ _
   | exact ih3 _ _ _
   | exact ih4 _ _ _ _ _ _ _ _ _ _ _ _
   | exact ih5 _ _ _ _ _
   | exact ih6 _ _ _ _ _ _ _
   | exact ih7 _ _ _ _ _ _ _ _ _ _ _ _ _ _ _
   | exact ih8 _ _ _ _ _ _ _ _ _ _ _ _
   | exact ih9 _ _ _ _ _ _ _ _ _ _ _ _ _
   | exact impl_CountWithOn.mono _ _ _
   | exact impl_GreatestWithOn.mono _ _ _
   | exact impl_LeastWithOn.mono _ _ _
   | exact impl_MeanNumber.mono _ _
   | exact impl_MeanOfPairs.mono _ _
   | exact impl_MeanOnAlong.mono _ _ _
   | exact impl_NumberOfState.mono _ _
   | exact impl_StatesBetween.mono _ _ _
   | exact impl_StatesWithOn.mono _ _ _
   | exact impl_SumWithOn.mono _ _ _
   | exact laws_yTexts.mono _ _ _
   | exact spec_CountWithOn.mono _ _ _
   | exact spec_GreatestWithOn.mono _ _ _
   | exact spec_LeastWithOn.mono _ _ _
   | exact spec_MeanOfPairs.mono _ _
   | exact spec_MeanOnAlong.mono _ _ _
   | exact spec_StatesWithOn.mono _ _ _
   | exact spec_SumWithOn.mono _ _ _
   | exact LeO.none _
   | refine LeO.ite ?_ ?_
   | refine LeO.bind ?_ (fun _ => ?_)
  ·intro y0 y1 y2 y3 y4 y5 y6
   unfold laws_FnStatesCountedOfAll.l2
   repeat' first
   | (with_reducible exact ih0 _ _ _ _ _ _)
   | (with_reducible exact ih1 _ _ _ _ _ _ _ _ _ _ _ _ _)
   | (with_reducible exact ih2 _ _ _ _ _ _ _ _ _ _ _)
   | (with_reducible exact ih3 _ _ _)
   | (with_reducible exact ih4 _ _ _ _ _ _ _ _ _ _ _ _)
   | (with_reducible exact ih5 _ _ _ _ _)
   | (with_reducible exact ih6 _ _ _ _ _ _ _)
   | (with_reducible exact ih7 _ _ _ _ _ _ _ _ _ _ _ _ _ _ _)
   | (with_reducible exact ih8 _ _ _ _ _ _ _ _ _ _ _ _)
   | (with_reducible exact ih9 _ _ _ _ _ _ _ _ _ _ _ _ _)
   | (with_reducible exact impl_CountWithOn.mono _ _ _)
   | (with_reducible exact impl_GreatestWithOn.mono _ _ _)
   | (with_reducible exact impl_LeastWithOn.mono _ _ _)
   | (with_reducible exact impl_MeanNumber.mono _ _)
   | (with_reducible exact impl_MeanOfPairs.mono _ _)
   | (with_reducible exact impl_MeanOnAlong.mono _ _ _)
   | (with_reducible exact impl_NumberOfState.mono _ _)
   | (with_reducible exact impl_StatesBetween.mono _ _ _)
   | (with_reducible exact impl_StatesWithOn.mono _ _ _)
   | (with_reducible exact impl_SumWithOn.mono _ _ _)
   | (with_reducible exact laws_yTexts.mono _ _ _)
   | (with_reducible exact spec_CountWithOn.mono _ _ _)
   | (with_reducible exact spec_GreatestWithOn.mono _ _ _)
   | (with_reducible exact spec_LeastWithOn.mono _ _ _)
   | (with_reducible exact spec_MeanOfPairs.mono _ _)
   | (with_reducible exact spec_MeanOnAlong.mono _ _ _)
   | (with_reducible exact spec_StatesWithOn.mono _ _ _)
   | (with_reducible exact spec_SumWithOn.mono _ _ _)
   | (with_reducible exact LeO.refl _)
   | (with_reducible exact LeO.none _)
   | (with_reducible refine LeO.ite ?_ ?_)
   | (with_reducible refine LeO.bind ?_ (fun _ => ?_))
   | exact ih0 _ _ _ _ _ _
   | exact ih1 _ _ _ _ _ _ _ _ _ _ _ _ _
   | exact ih2 _ _ _ _ _ _ _ _ _ _ _
   | exact ih3 _ _ _
   | exact ih4 _ _ _ _ _ _ _ _ _ _ _ _
   | exact ih5 _ _ _ _ _
   | exact ih6 _ _ _ _ _ _ _
   | exact ih7 _ _ _ _ _ _ _ _ _ _ _ _ _ _ _
   | exact ih8 _ _ _ _ _ _ _ _ _ _ _ _
   | exact ih9 _ _ _ _ _ _ _ _ _ _ _ _ _
   | exact impl_CountWithOn.mono _ _ _
   | exact impl_GreatestWithOn.mono _ _ _
   | exact impl_LeastWithOn.mono _ _ _
   | exact impl_MeanNumber.mono _ _
   | exact impl_MeanOfPairs.mono _ _
   | exact impl_MeanOnAlong.mono _ _ _
   | exact impl_NumberOfState.mono _ _
   | exact impl_StatesBetween.mono _ _ _
   | exact impl_StatesWithOn.mono _ _ _
   | exact impl_SumWithOn.mono _ _ _
   | exact laws_yTexts.mono _ _ _
   | exact spec_CountWithOn.mono _ _ _
   | exact spec_GreatestWithOn.mono _ _ _
   | exact spec_LeastWithOn.mono _ _ _
   | exact spec_MeanOfPairs.mono _ _
   | exact spec_MeanOnAlong.mono _ _ _
   | exact spec_StatesWithOn.mono _ _ _
   | exact spec_SumWithOn.mono _ _ _
   | exact LeO.none _
   | refine LeO.ite ?_ ?_
   | refine LeO.bind ?_ (fun _ => ?_)
  ·intro y0 y1 y2 y3 y4 y5 y6 y7 y8 y9 y10 y11 y12 y13 y14
   unfold laws_FnStatesCountedOfAll.l1
   repeat' first
   | (with_reducible exact ih0 _ _ _ _ _ _)
   | (with_reducible exact ih1 _ _ _ _ _ _ _ _ _ _ _ _ _)
   | (with_reducible exact ih2 _ _ _ _ _ _ _ _ _ _ _)
   | (with_reducible exact ih3 _ _ _)
   | (with_reducible exact ih4 _ _ _ _ _ _ _ _ _ _ _ _)
   | (with_reducible exact ih5 _ _ _ _ _)
   | (with_reducible exact ih6 _ _ _ _ _ _ _)
   | (with_reducible exact ih7 _ _ _ _ _ _ _ _ _ _ _ _ _ _ _)
   | (with_reducible exact ih8 _ _ _ _ _ _ _ _ _ _ _ _)
   | (with_reducible exact ih9 _ _ _ _ _ _ _ _ _ _ _ _ _)
   | (with_reducible exact impl_CountWithOn.mono _ _ _)
   | (with_reducible exact impl_GreatestWithOn.mono _ _ _)
   | (with_reducible exact impl_LeastWithOn.mono _ _ _)
   | (with_reducible exact impl_MeanNumber.mono _ _)
   | (with_reducible exact impl_MeanOfPairs.mono _ _)
   | (with_reducible exact impl_MeanOnAlong.mono _ _ _)
   | (with_reducible exact impl_NumberOfState.mono _ _)
   | (with_reducible exact impl_StatesBetween.mono _ _ _)
   | (with_reducible exact impl_StatesWithOn.mono _ _ _)
   | (with_reducible exact impl_SumWithOn.mono _ _ _)
   | (with_reducible exact laws_yTexts.mono _ _ _)
   | (with_reducible exact spec_CountWithOn.mono _ _ _)
   | (with_reducible exact spec_GreatestWithOn.mono _ _ _)
   | (with_reducible exact spec_LeastWithOn.mono _ _ _)
   | (with_reducible exact spec_MeanOfPairs.mono _ _)
   | (with_reducible exact spec_MeanOnAlong.mono _ _ _)
   | (with_reducible exact spec_StatesWithOn.mono _ _ _)
   | (with_reducible exact spec_SumWithOn.mono _ _ _)
   | (with_reducible exact LeO.refl _)
   | (with_reducible exact LeO.none _)
   | (with_reducible refine LeO.ite ?_ ?_)
   | (with_reducible refine LeO.bind ?_ (fun _ => ?_))
   | exact ih0 _ _ _ _ _ _
   | exact ih1 _ _ _ _ _ _ _ _ _ _ _ _ _
   | exact ih2 _ _ _ _ _ _ _ _ _ _ _
   | exact ih3 _ _ _
   | exact ih4 _ _ _ _ _ _ _ _ _ _ _ _
   | exact ih5 _ _ _ _ _
   | exact ih6 _ _ _ _ _ _ _
   | exact ih7 _ _ _ _ _ _ _ _ _ _ _ _ _ _ _
   | exact ih8 _ _ _ _ _ _ _ _ _ _ _ _
   | exact ih9 _ _ _ _ _ _ _ _ _ _ _ _ _
   | exact impl_CountWithOn.mono _ _ _
   | exact impl_GreatestWithOn.mono _ _ _
   | exact impl_LeastWithOn.mono _ _ _
   | exact impl_MeanNumber.mono _ _
   | exact impl_MeanOfPairs.mono _ _
   | exact impl_MeanOnAlong.mono _ _ _
   | exact impl_NumberOfState.mono _ _
   | exact impl_StatesBetween.mono _ _ _
   | exact impl_StatesWithOn.mono _ _ _
   | exact impl_SumWithOn.mono _ _ _
   | exact laws_yTexts.mono _ _ _
   | exact spec_CountWithOn.mono _ _ _
   | exact spec_GreatestWithOn.mono _ _ _
   | exact spec_LeastWithOn.mono _ _ _
   | exact spec_MeanOfPairs.mono _ _
   | exact spec_MeanOnAlong.mono _ _ _
   | exact spec_StatesWithOn.mono _ _ _
   | exact spec_SumWithOn.mono _ _ _
   | exact LeO.none _
   | refine LeO.ite ?_ ?_
   | refine LeO.bind ?_ (fun _ => ?_)
  ·intro y0 y1 y2 y3 y4 y5 y6 y7 y8 y9 y10 y11
   unfold laws_FnStatesCountedOfAll.j2
   repeat' first
   | (with_reducible exact ih0 _ _ _ _ _ _)
   | (with_reducible exact ih1 _ _ _ _ _ _ _ _ _ _ _ _ _)
   | (with_reducible exact ih2 _ _ _ _ _ _ _ _ _ _ _)
   | (with_reducible exact ih3 _ _ _)
   | (with_reducible exact ih4 _ _ _ _ _ _ _ _ _ _ _ _)
   | (with_reducible exact ih5 _ _ _ _ _)
   | (with_reducible exact ih6 _ _ _ _ _ _ _)
   | (with_reducible exact ih7 _ _ _ _ _ _ _ _ _ _ _ _ _ _ _)
   | (with_reducible exact ih8 _ _ _ _ _ _ _ _ _ _ _ _)
   | (with_reducible exact ih9 _ _ _ _ _ _ _ _ _ _ _ _ _)
   | (with_reducible exact impl_CountWithOn.mono _ _ _)
   | (with_reducible exact impl_GreatestWithOn.mono _ _ _)
   | (with_reducible exact impl_LeastWithOn.mono _ _ _)
   | (with_reducible exact impl_MeanNumber.mono _ _)
   | (with_reducible exact impl_MeanOfPairs.mono _ _)
   | (with_reducible exact impl_MeanOnAlong.mono _ _ _)
   | (with_reducible exact impl_NumberOfState.mono _ _)
   | (with_reducible exact impl_StatesBetween.mono _ _ _)
   | (with_reducible exact impl_StatesWithOn.mono _ _ _)
   | (with_reducible exact impl_SumWithOn.mono _ _ _)
   | (with_reducible exact laws_yTexts.mono _ _ _)
   | (with_reducible exact spec_CountWithOn.mono _ _ _)
   | (with_reducible exact spec_GreatestWithOn.mono _ _ _)
   | (with_reducible exact spec_LeastWithOn.mono _ _ _)
   | (with_reducible exact spec_MeanOfPairs.mono _ _)
   | (with_reducible exact spec_MeanOnAlong.mono _ _ _)
   | (with_reducible exact spec_StatesWithOn.mono _ _ _)
   | (with_reducible exact spec_SumWithOn.mono _ _ _)
   | (with_reducible exact LeO.refl _)
   | (with_reducible exact LeO.none _)
   | (with_reducible refine LeO.ite ?_ ?_)
   | (with_reducible refine LeO.bind ?_ (fun _ => ?_))
   | exact ih0 _ _ _ _ _ _
   | exact ih1 _ _ _ _ _ _ _ _ _ _ _ _ _
   | exact ih2 _ _ _ _ _ _ _ _ _ _ _
   | exact ih3 _ _ _
   | exact ih4 _ _ _ _ _ _ _ _ _ _ _ _
   | exact ih5 _ _ _ _ _
   | exact ih6 _ _ _ _ _ _ _
   | exact ih7 _ _ _ _ _ _ _ _ _ _ _ _ _ _ _
   | exact ih8 _ _ _ _ _ _ _ _ _ _ _ _
   | exact ih9 _ _ _ _ _ _ _ _ _ _ _ _ _
   | exact impl_CountWithOn.mono _ _ _
   | exact impl_GreatestWithOn.mono _ _ _
   | exact impl_LeastWithOn.mono _ _ _
   | exact impl_MeanNumber.mono _ _
   | exact impl_MeanOfPairs.mono _ _
   | exact impl_MeanOnAlong.mono _ _ _
   | exact impl_NumberOfState.mono _ _
   | exact impl_StatesBetween.mono _ _ _
   | exact impl_StatesWithOn.mono _ _ _
   | exact impl_SumWithOn.mono _ _ _
   | exact laws_yTexts.mono _ _ _
   | exact spec_CountWithOn.mono _ _ _
   | exact spec_GreatestWithOn.mono _ _ _
   | exact spec_LeastWithOn.mono _ _ _
   | exact spec_MeanOfPairs.mono _ _
   | exact spec_MeanOnAlong.mono _ _ _
   | exact spec_StatesWithOn.mono _ _ _
   | exact spec_SumWithOn.mono _ _ _
   | exact LeO.none _
   | refine LeO.ite ?_ ?_
   | refine LeO.bind ?_ (fun _ => ?_)
  ·intro y0 y1 y2 y3 y4 y5 y6 y7 y8 y9 y10 y11 y12
   unfold laws_FnStatesCountedOfAll.l0
   repeat' first
   | (with_reducible exact ih0 _ _ _ _ _ _)
   | (with_reducible exact ih1 _ _ _ _ _ _ _ _ _ _ _ _ _)
   | (with_reducible exact ih2 _ _ _ _ _ _ _ _ _ _ _)
   | (with_reducible exact ih3 _ _ _)
   | (with_reducible exact ih4 _ _ _ _ _ _ _ _ _ _ _ _)
   | (with_reducible exact ih5 _ _ _ _ _)
   | (with_reducible exact ih6 _ _ _ _ _ _ _)
   | (with_reducible exact ih7 _ _ _ _ _ _ _ _ _ _ _ _ _ _ _)
   | (with_reducible exact ih8 _ _ _ _ _ _ _ _ _ _ _ _)
   | (with_reducible exact ih9 _ _ _ _ _ _ _ _ _ _ _ _ _)
   | (with_reducible exact impl_CountWithOn.mono _ _ _)
   | (with_reducible exact impl_GreatestWithOn.mono _ _ _)
   | (with_reducible exact impl_LeastWithOn.mono _ _ _)
   | (with_reducible exact impl_MeanNumber.mono _ _)
   | (with_reducible exact impl_MeanOfPairs.mono _ _)
   | (with_reducible exact impl_MeanOnAlong.mono _ _ _)
   | (with_reducible exact impl_NumberOfState.mono _ _)
   | (with_reducible exact impl_StatesBetween.mono _ _ _)
   | (with_reducible exact impl_StatesWithOn.mono _ _ _)
   | (with_reducible exact impl_SumWithOn.mono _ _ _)
   | (with_reducible exact laws_yTexts.mono _ _ _)
   | (with_reducible exact spec_CountWithOn.mono _ _ _)
   | (with_reducible exact spec_GreatestWithOn.mono _ _ _)
   | (with_reducible exact spec_LeastWithOn.mono _ _ _)
   | (with_reducible exact spec_MeanOfPairs.mono _ _)
   | (with_reducible exact spec_MeanOnAlong.mono _ _ _)
   | (with_reducible exact spec_StatesWithOn.mono _ _ _)
   | (with_reducible exact spec_SumWithOn.mono _ _ _)
   | (with_reducible exact LeO.refl _)
   | (with_reducible exact LeO.none _)
   | (with_reducible refine LeO.ite ?_ ?_)
   | (with_reducible refine LeO.bind ?_ (fun _ => ?_))
   | exact ih0 _ _ _ _ _ _
   | exact ih1 _ _ _ _ _ _ _ _ _ _ _ _ _
   | exact ih2 _ _ _ _ _ _ _ _ _ _ _
   | exact ih3 _ _ _
   | exact ih4 _ _ _ _ _ _ _ _ _ _ _ _
   | exact ih5 _ _ _ _ _
   | exact ih6 _ _ _ _ _ _ _
   | exact ih7 _ _ _ _ _ _ _ _ _ _ _ _ _ _ _
   | exact ih8 _ _ _ _ _ _ _ _ _ _ _ _
   | exact ih9 _ _ _ _ _ _ _ _ _ _ _ _ _
   | exact impl_CountWithOn.mono _ _ _
   | exact impl_GreatestWithOn.mono _ _ _
   | exact impl_LeastWithOn.mono _ _ _
   | exact impl_MeanNumber.mono _ _
   | exact impl_MeanOfPairs.mono _ _
   | exact impl_MeanOnAlong.mono _ _ _
   | exact impl_NumberOfState.mono _ _
   | exact impl_StatesBetween.mono _ _ _
   | exact impl_StatesWithOn.mono _ _ _
   | exact impl_SumWithOn.mono _ _ _
   | exact laws_yTexts.mono _ _ _
   | exact spec_CountWithOn.mono _ _ _
   | exact spec_GreatestWithOn.mono _ _ _
   | exact spec_LeastWithOn.mono _ _ _
   | exact spec_MeanOfPairs.mono _ _
   | exact spec_MeanOnAlong.mono _ _ _
   | exact spec_StatesWithOn.mono _ _ _
   | exact spec_SumWithOn.mono _ _ _
   | exact LeO.none _
   | refine LeO.ite ?_ ?_
   | refine LeO.bind ?_ (fun _ => ?_)
theorem laws_FnStatesCountedOfAll.mono : ∀ a0 a1 a2 a3 a4 k, LeO (laws_FnStatesCountedOfAll.f k a0 a1 a2 a3 a4) (laws_FnStatesCountedOfAll.f (k + 1) a0 a1 a2 a3 a4) := by
 intro a0 a1 a2 a3 a4 k
 obtain ⟨ih0, ih1, ih2, ih3, ih4, ih5, ih6, ih7, ih8, ih9⟩ := laws_FnStatesCountedOfAll.mono_l k
 unfold laws_FnStatesCountedOfAll.f
 repeat' first
   | (with_reducible exact ih0 _ _ _ _ _ _)
   | (with_reducible exact ih1 _ _ _ _ _ _ _ _ _ _ _ _ _)
   | (with_reducible exact ih2 _ _ _ _ _ _ _ _ _ _ _)
   | (with_reducible exact ih3 _ _ _)
   | (with_reducible exact ih4 _ _ _ _ _ _ _ _ _ _ _ _)
   | (with_reducible exact ih5 _ _ _ _ _)
   | (with_reducible exact ih6 _ _ _ _ _ _ _)
   | (with_reducible exact ih7 _ _ _ _ _ _ _ _ _ _ _ _ _ _ _)
   | (with_reducible exact ih8 _ _ _ _ _ _ _ _ _ _ _ _)
   | (with_reducible exact ih9 _ _ _ _ _ _ _ _ _ _ _ _ _)
   | (with_reducible exact impl_CountWithOn.mono _ _ _)
   | (with_reducible exact impl_GreatestWithOn.mono _ _ _)
   | (with_reducible exact impl_LeastWithOn.mono _ _ _)
   | (with_reducible exact impl_MeanNumber.mono _ _)
   | (with_reducible exact impl_MeanOfPairs.mono _ _)
   | (with_reducible exact impl_MeanOnAlong.mono _ _ _)
   | (with_reducible exact impl_NumberOfState.mono _ _)
   | (with_reducible exact impl_StatesBetween.mono _ _ _)
   | (with_reducible exact impl_StatesWithOn.mono _ _ _)
   | (with_reducible exact impl_SumWithOn.mono _ _ _)
   | (with_reducible exact laws_yTexts.mono _ _ _)
   | (with_reducible exact spec_CountWithOn.mono _ _ _)
   | (with_reducible exact spec_GreatestWithOn.mono _ _ _)
   | (with_reducible exact spec_LeastWithOn.mono _ _ _)
   | (with_reducible exact spec_MeanOfPairs.mono _ _)
   | (with_reducible exact spec_MeanOnAlong.mono _ _ _)
   | (with_reducible exact spec_StatesWithOn.mono _ _ _)
   | (with_reducible exact spec_SumWithOn.mono _ _ _)
   | (with_reducible exact LeO.refl _)
   | (with_reducible exact LeO.none _)
   | (with_reducible refine LeO.ite ?_ ?_)
   | (with_reducible refine LeO.bind ?_ (fun _ => ?_))
   | exact ih0 _ _ _ _ _ _
   | exact ih1 _ _ _ _ _ _ _ _ _ _ _ _ _
   | exact ih2 _ _ _ _ _ _ _ _ _ _ _
   | exact ih3 _ _ _
   | exact ih4 _ _ _ _ _ _ _ _ _ _ _ _
   | exact ih5 _ _ _ _ _
   | exact ih6 _ _ _ _ _ _ _
   | exact ih7 _ _ _ _ _ _ _ _ _ _ _ _ _ _ _
   | exact ih8 _ _ _ _ _ _ _ _ _ _ _ _
   | exact ih9 _ _ _ _ _ _ _ _ _ _ _ _ _
   | exact impl_CountWithOn.mono _ _ _
   | exact impl_GreatestWithOn.mono _ _ _
   | exact impl_LeastWithOn.mono _ _ _
   | exact impl_MeanNumber.mono _ _
   | exact impl_MeanOfPairs.mono _ _
   | exact impl_MeanOnAlong.mono _ _ _
   | exact impl_NumberOfState.mono _ _
   | exact impl_StatesBetween.mono _ _ _
   | exact impl_StatesWithOn.mono _ _ _
   | exact impl_SumWithOn.mono _ _ _
   | exact laws_yTexts.mono _ _ _
   | exact spec_CountWithOn.mono _ _ _
   | exact spec_GreatestWithOn.mono _ _ _
   | exact spec_LeastWithOn.mono _ _ _
   | exact spec_MeanOfPairs.mono _ _
   | exact spec_MeanOnAlong.mono _ _ _
   | exact spec_StatesWithOn.mono _ _ _
   | exact spec_SumWithOn.mono _ _ _
   | exact LeO.none _
   | refine LeO.ite ?_ ?_
   | refine LeO.bind ?_ (fun _ => ?_)
end Go.Proofs.YtifdgebdkhdmhaaDoor.PWCount
