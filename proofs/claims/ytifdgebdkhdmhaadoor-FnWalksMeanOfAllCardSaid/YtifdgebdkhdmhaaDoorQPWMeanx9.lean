-- PRINTED by drive.py (a program of this session's, over the kit's print.py; wip/tools/drive.py). Lean checks it.
import Derived.Test.YtifdgebdkhdmhaaDoorQPWMeanx0
import Derived.Test.YtifdgebdkhdmhaaDoorQPWMeanx1
import Derived.Test.YtifdgebdkhdmhaaDoorQPWMeanx2
import Derived.Test.YtifdgebdkhdmhaaDoorQPWMeanx3
import Derived.Test.YtifdgebdkhdmhaaDoorQPWMeanx4
import Derived.Test.YtifdgebdkhdmhaaDoorQPWMeanx5
import Derived.Test.YtifdgebdkhdmhaaDoorQPWMeanx6
import Derived.Test.YtifdgebdkhdmhaaDoorQPWMeanx7
import Derived.Test.YtifdgebdkhdmhaaDoorQPWMeanx8
namespace Go.Proofs.YtifdgebdkhdmhaaDoor.PWMean
open Go.RowKit Go.Proofs.YtifdgebdkhdmhaaDoorW.PrintWords Go.Proofs.YtifdgebdkhdmhaaDoorW.PrintLast Go.Proofs.YtifdgebdkhdmhaaDoorW.PrintMore
attribute [local go_sem] max2_int min2_int max_two min_two max_three min_three max_four min_four   -- for this text's walks alone
set_option linter.unusedVariables false
set_option linter.unusedSimpArgs false

/-! ### laws_FnWalksMeanOfAll: function 6 -/
mutual
def laws_FnWalksMeanOfAll.j0 : Nat → ByteArray → ByteArray → ByteArray → ByteArray → ByteArray → ByteArray → ByteArray → Int → Bool → Option (Bool)
 | 0, _, _, _, _, _, _, _, _, _ => none
 | k + 1, x0, x1, x2, x3, x4, x5, x6, x7, x105 => if x105 = true then (some true) else ((impl_MeanFrom.f k x0 x1).bind fun bt267 => ((spec_MeanFrom.f k x0 x1).bind fun bt269 => ((impl_MeanToClear.f k x0).bind fun bt271 => ((spec_MeanToClear.f k x0).bind fun bt273 => (if (bt267.2 != bt269.2) = true then (none) else (if bt267.1 = bt269.1 then (if (bt271.2 != bt273.2) = true then (none) else (if bt271.1 = bt273.1 then (if bt267.2 = true then (laws_FnWalksMeanOfAll.j1 k x0 x1 x2 x3 x4 x5 x6 x7 bt267.1 bt267.2 (!bt271.2)) else (laws_FnWalksMeanOfAll.j1 k x0 x1 x2 x3 x4 x5 x6 x7 bt267.1 bt267.2 false)) else (none))) else (none)))))))
def laws_FnWalksMeanOfAll.j1 : Nat → ByteArray → ByteArray → ByteArray → ByteArray → ByteArray → ByteArray → ByteArray → Int → Int → Bool → Bool → Option (Bool)
 | 0, _, _, _, _, _, _, _, _, _, _, _ => none
 | k + 1, x0, x1, x2, x3, x4, x5, x6, x7, x17, x18, x152 => if x152 = true then (none) else (if x18 = true then ((impl_FewestMoves.f k x0 x1).bind fun bt275 => (if bt275.2 = true then (if x17 < bt275.1 then (none) else (laws_FnWalksMeanOfAll.j2 k x0 x1 x2 x3 x4 x5 x6 x7 x17 ((x17 == 0) != (x0.toList == x1.toList)))) else (none))) else (laws_FnWalksMeanOfAll.j4 k x2 x3 x4 x5 x6 x7))
def laws_FnWalksMeanOfAll.j4 : Nat → ByteArray → ByteArray → ByteArray → ByteArray → ByteArray → Int → Option (Bool)
 | 0, _, _, _, _, _, _ => none
 | k + 1, x2, x3, x4, x5, x6, x7 => (impl_ChanceBefore.f k x2 x3 x4).bind fun bt286 => ((spec_ChanceBefore.f k x2 x3 x4).bind fun bt289 => ((impl_WalksTo.f k x5 x6 x7).bind fun bt292 => ((spec_WalksTo.f k x5 x6 x7).bind fun bt294 => ((impl_ChanceAfter.f k x5 x6 x7).bind fun bt296 => ((spec_ChanceAfter.f k x5 x6 x7).bind fun bt299 => ((impl_LikeliestAfter.f k x5 x7).bind fun bt302 => ((spec_LikeliestAfter.f k x5 x7).bind fun bt306 => (if (bt286.2.2 != bt289.2.2) = true then (none) else (if bt286.1 = bt289.1 then (if bt286.2.1 = bt289.2.1 then (if (bt292.2 != bt294.2) = true then (none) else (if bt292.1 = bt294.1 then (if (bt296.2.2 != bt299.2.2) = true then (none) else (if bt296.1 = bt299.1 then (if bt296.2.1 = bt299.2.1 then (if (bt296.2.2 != bt292.2) = true then (none) else (if (bt302.2 != bt306.2) = true then (none) else ((laws_yTexts.f k bt302.1 bt306.1).bind fun t310 => (if t310 = true then (if bt296.2.2 = true then (laws_FnWalksMeanOfAll.j5 k x2 x3 x4 x5 x6 x7 bt286.1 bt286.2.1 bt286.2.2 bt292.1 bt296.1 bt296.2.1 bt296.2.2 bt302.1 (!bt302.2)) else (laws_FnWalksMeanOfAll.j5 k x2 x3 x4 x5 x6 x7 bt286.1 bt286.2.1 bt286.2.2 bt292.1 bt296.1 bt296.2.1 bt296.2.2 bt302.1 false)) else (none))))) else (none)) else (none))) else (none))) else (none)) else (none))))))))))
def laws_FnWalksMeanOfAll.j5 : Nat → ByteArray → ByteArray → ByteArray → ByteArray → ByteArray → Int → Int → Int → Bool → Int → Int → Int → Bool → List ByteArray → Bool → Option (Bool)
 | 0, _, _, _, _, _, _, _, _, _, _, _, _, _, _, _ => none
 | k + 1, x2, x3, x4, x5, x6, x7, x36, x37, x38, x42, x46, x47, x48, x52, x340 => if x340 = true then (none) else (if x38 = true then ((impl_ChanceBefore.f k x2 x4 x3).bind fun bt311 => (if bt311.2.2 = true then (if (wrap64 ((wrap64 (x36 * bt311.2.1)) + (wrap64 (bt311.1 * x37)))) = (wrap64 (x37 * bt311.2.1)) then (if x2.toList = x3.toList then (if x36 = x37 then (if x2.toList = x4.toList then (if x36 = 0 then (laws_FnWalksMeanOfAll.j6 k x5 x6 x7 x42 x46 x47 x48 x52) else (none)) else (laws_FnWalksMeanOfAll.j6 k x5 x6 x7 x42 x46 x47 x48 x52)) else (none)) else (if x2.toList = x4.toList then (if x36 = 0 then (laws_FnWalksMeanOfAll.j6 k x5 x6 x7 x42 x46 x47 x48 x52) else (none)) else (laws_FnWalksMeanOfAll.j6 k x5 x6 x7 x42 x46 x47 x48 x52))) else (none)) else (none))) else (laws_FnWalksMeanOfAll.j6 k x5 x6 x7 x42 x46 x47 x48 x52))
def laws_FnWalksMeanOfAll.j6 : Nat → ByteArray → ByteArray → Int → Int → Int → Int → Bool → List ByteArray → Option (Bool)
 | 0, _, _, _, _, _, _, _, _ => none
 | k + 1, x5, x6, x7, x42, x46, x47, x48, x52 => if x48 = true then (if ((decide (x42 > 0)) != (decide (x46 > 0))) = true then (none) else (if x46 < 0 then (none) else (if x46 > x47 then (none) else (if x7 = 0 then (laws_FnWalksMeanOfAll.j7 k x5 x6 x7 x42 x46 x47 x52 ((x46 == 1) != (x5.toList == x6.toList))) else (laws_FnWalksMeanOfAll.j7 k x5 x6 x7 x42 x46 x47 x52 false))))) else (some true)
def laws_FnWalksMeanOfAll.j7 : Nat → ByteArray → ByteArray → Int → Int → Int → Int → List ByteArray → Bool → Option (Bool)
 | 0, _, _, _, _, _, _, _, _ => none
 | k + 1, x5, x6, x7, x42, x46, x47, x52, x410 => if x410 = true then (none) else ((impl_WalksTo.f k x6 x5 x7).bind fun bt314 => (if bt314.2 = true then (laws_FnWalksMeanOfAll.j8 k x5 x6 x7 x42 x46 x47 x52 (bt314.1 != x42)) else (none)))
def laws_FnWalksMeanOfAll.j8 : Nat → ByteArray → ByteArray → Int → Int → Int → Int → List ByteArray → Bool → Option (Bool)
 | 0, _, _, _, _, _, _, _, _ => none
 | k + 1, x5, x6, x7, x42, x46, x47, x52, x424 => if x424 = true then (none) else (if (x52.length : Int) < 1 then (none) else (if 0 < (x52.length : Int) then ((impl_ChanceAfter.f k x5 (rdOf ByteArray.empty x52 0) x7).bind fun bt317 => (if bt317.2.2 = true then (if x7 ≤ 20 then (laws_FnWalksMeanOfAll.j9 k x5 x6 x7 x42 (decide ((wrap64 (bt317.1 * x47)) < (wrap64 (x46 * bt317.2.1))))) else (laws_FnWalksMeanOfAll.j9 k x5 x6 x7 x42 false)) else (none))) else (none)))
def laws_FnWalksMeanOfAll.j9 : Nat → ByteArray → ByteArray → Int → Int → Bool → Option (Bool)
 | 0, _, _, _, _, _ => none
 | k + 1, x5, x6, x7, x42, x452 => if x452 = true then (none) else (if x7 > 0 then ((impl_MovesOf.f k x5).bind fun bt320 => (laws_FnWalksMeanOfAll.l1 k x5 x6 x7 x42 bt320.2 0 bt320.1 (bt320.1.length : Int) 0)) else (some true))
def laws_FnWalksMeanOfAll.l1 : Nat → ByteArray → ByteArray → Int → Int → Bool → Int → List Int → Int → Int → Option (Bool)
 | 0, _, _, _, _, _, _, _, _, _ => none
 | k + 1, x5, x6, x7, x42, x65, x66, x460, x461, x462 => if x462 < x461 then (if 0 ≤ x462 then (if x462 < (x460.length : Int) then ((impl_MoveRing.f x5 (rd x460 x462)).bind fun bt325 => ((impl_WalksTo.f k bt325.1 x6 (wrap64 (x7 - 1))).bind fun bt327 => (if bt325.2 = true then (if bt327.2 = true then (laws_FnWalksMeanOfAll.l1 k x5 x6 x7 x42 x65 (wrap64 (x66 + bt327.1)) x460 x461 (wrap64 (x462 + 1))) else (none)) else (none)))) else (none)) else (none)) else (if x65 = true then (if x66 = x42 then (some true) else (none)) else (none))
def laws_FnWalksMeanOfAll.j2 : Nat → ByteArray → ByteArray → ByteArray → ByteArray → ByteArray → ByteArray → ByteArray → Int → Int → Bool → Option (Bool)
 | 0, _, _, _, _, _, _, _, _, _, _ => none
 | k + 1, x0, x1, x2, x3, x4, x5, x6, x7, x17, x174 => if x174 = true then (none) else (if x0.toList = x1.toList then (laws_FnWalksMeanOfAll.j4 k x2 x3 x4 x5 x6 x7) else ((impl_MovesOf.f k x0).bind fun bt277 => (laws_FnWalksMeanOfAll.l0 k x0 x1 x2 x3 x4 x5 x6 x7 x17 bt277.1 bt277.2 0 bt277.1 (bt277.1.length : Int) 0)))
def laws_FnWalksMeanOfAll.l0 : Nat → ByteArray → ByteArray → ByteArray → ByteArray → ByteArray → ByteArray → ByteArray → Int → Int → List Int → Bool → Int → List Int → Int → Int → Option (Bool)
 | 0, _, _, _, _, _, _, _, _, _, _, _, _, _, _, _ => none
 | k + 1, x0, x1, x2, x3, x4, x5, x6, x7, x17, x27, x28, x29, x183, x184, x185 => if x185 < x184 then (if 0 ≤ x185 then (if x185 < (x183.length : Int) then ((impl_MoveRing.f x0 (rd x183 x185)).bind fun bt282 => ((impl_MeanFrom.f k bt282.1 x1).bind fun bt284 => (if bt282.2 = true then (if bt284.2 = true then (laws_FnWalksMeanOfAll.l0 k x0 x1 x2 x3 x4 x5 x6 x7 x17 x27 x28 (wrap64 (x29 + bt284.1)) x183 x184 (wrap64 (x185 + 1))) else (none)) else (none)))) else (none)) else (none)) else (if x28 = true then (if (wrap64 ((wrap64 (x17 - 1)) * (x27.length : Int))) = x29 then (laws_FnWalksMeanOfAll.j4 k x2 x3 x4 x5 x6 x7) else (none)) else (none))
end
def laws_FnWalksMeanOfAll.f (k : Nat) (a0 : ByteArray) (a1 : ByteArray) (a2 : ByteArray) (a3 : ByteArray) (a4 : ByteArray) (a5 : ByteArray) (a6 : ByteArray) (a7 : Int) : Option (Bool) := if (a0.size : Int) > 1048576 then (laws_FnWalksMeanOfAll.j0 k a0 a1 a2 a3 a4 a5 a6 a7 true) else (if (a1.size : Int) > 1048576 then (laws_FnWalksMeanOfAll.j0 k a0 a1 a2 a3 a4 a5 a6 a7 true) else (if (a2.size : Int) > 1048576 then (laws_FnWalksMeanOfAll.j0 k a0 a1 a2 a3 a4 a5 a6 a7 true) else (if (a3.size : Int) > 1048576 then (laws_FnWalksMeanOfAll.j0 k a0 a1 a2 a3 a4 a5 a6 a7 true) else (if (a4.size : Int) > 1048576 then (laws_FnWalksMeanOfAll.j0 k a0 a1 a2 a3 a4 a5 a6 a7 true) else (if (a5.size : Int) > 1048576 then (laws_FnWalksMeanOfAll.j0 k a0 a1 a2 a3 a4 a5 a6 a7 true) else (laws_FnWalksMeanOfAll.j0 k a0 a1 a2 a3 a4 a5 a6 a7 (decide ((a6.size : Int) > 1048576))))))))
theorem laws_FnWalksMeanOfAll.mono_l : ∀ k, (∀ y0 y1 y2 y3 y4 y5 y6 y7 y8, LeO (laws_FnWalksMeanOfAll.j0 k y0 y1 y2 y3 y4 y5 y6 y7 y8) (laws_FnWalksMeanOfAll.j0 (k + 1) y0 y1 y2 y3 y4 y5 y6 y7 y8)) ∧ (∀ y0 y1 y2 y3 y4 y5 y6 y7 y8 y9 y10, LeO (laws_FnWalksMeanOfAll.j1 k y0 y1 y2 y3 y4 y5 y6 y7 y8 y9 y10) (laws_FnWalksMeanOfAll.j1 (k + 1) y0 y1 y2 y3 y4 y5 y6 y7 y8 y9 y10)) ∧ (∀ y0 y1 y2 y3 y4 y5, LeO (laws_FnWalksMeanOfAll.j4 k y0 y1 y2 y3 y4 y5) (laws_FnWalksMeanOfAll.j4 (k + 1) y0 y1 y2 y3 y4 y5)) ∧ (∀ y0 y1 y2 y3 y4 y5 y6 y7 y8 y9 y10 y11 y12 y13 y14, LeO (laws_FnWalksMeanOfAll.j5 k y0 y1 y2 y3 y4 y5 y6 y7 y8 y9 y10 y11 y12 y13 y14) (laws_FnWalksMeanOfAll.j5 (k + 1) y0 y1 y2 y3 y4 y5 y6 y7 y8 y9 y10 y11 y12 y13 y14)) ∧ (∀ y0 y1 y2 y3 y4 y5 y6 y7, LeO (laws_FnWalksMeanOfAll.j6 k y0 y1 y2 y3 y4 y5 y6 y7) (laws_FnWalksMeanOfAll.j6 (k + 1) y0 y1 y2 y3 y4 y5 y6 y7)) ∧ (∀ y0 y1 y2 y3 y4 y5 y6 y7, LeO (laws_FnWalksMeanOfAll.j7 k y0 y1 y2 y3 y4 y5 y6 y7) (laws_FnWalksMeanOfAll.j7 (k + 1) y0 y1 y2 y3 y4 y5 y6 y7)) ∧ (∀ y0 y1 y2 y3 y4 y5 y6 y7, LeO (laws_FnWalksMeanOfAll.j8 k y0 y1 y2 y3 y4 y5 y6 y7) (laws_FnWalksMeanOfAll.j8 (k + 1) y0 y1 y2 y3 y4 y5 y6 y7)) ∧ (∀ y0 y1 y2 y3 y4, LeO (laws_FnWalksMeanOfAll.j9 k y0 y1 y2 y3 y4) (laws_FnWalksMeanOfAll.j9 (k + 1) y0 y1 y2 y3 y4)) ∧ (∀ y0 y1 y2 y3 y4 y5 y6 y7 y8, LeO (laws_FnWalksMeanOfAll.l1 k y0 y1 y2 y3 y4 y5 y6 y7 y8) (laws_FnWalksMeanOfAll.l1 (k + 1) y0 y1 y2 y3 y4 y5 y6 y7 y8)) ∧ (∀ y0 y1 y2 y3 y4 y5 y6 y7 y8 y9, LeO (laws_FnWalksMeanOfAll.j2 k y0 y1 y2 y3 y4 y5 y6 y7 y8 y9) (laws_FnWalksMeanOfAll.j2 (k + 1) y0 y1 y2 y3 y4 y5 y6 y7 y8 y9)) ∧ (∀ y0 y1 y2 y3 y4 y5 y6 y7 y8 y9 y10 y11 y12 y13 y14, LeO (laws_FnWalksMeanOfAll.l0 k y0 y1 y2 y3 y4 y5 y6 y7 y8 y9 y10 y11 y12 y13 y14) (laws_FnWalksMeanOfAll.l0 (k + 1) y0 y1 y2 y3 y4 y5 y6 y7 y8 y9 y10 y11 y12 y13 y14))
 | 0 => ⟨fun _ _ _ _ _ _ _ _ _ r h => by simp [laws_FnWalksMeanOfAll.j0] at h, fun _ _ _ _ _ _ _ _ _ _ _ r h => by simp [laws_FnWalksMeanOfAll.j1] at h, fun _ _ _ _ _ _ r h => by simp [laws_FnWalksMeanOfAll.j4] at h, fun _ _ _ _ _ _ _ _ _ _ _ _ _ _ _ r h => by simp [laws_FnWalksMeanOfAll.j5] at h, fun _ _ _ _ _ _ _ _ r h => by simp [laws_FnWalksMeanOfAll.j6] at h, fun _ _ _ _ _ _ _ _ r h => by simp [laws_FnWalksMeanOfAll.j7] at h, fun _ _ _ _ _ _ _ _ r h => by simp [laws_FnWalksMeanOfAll.j8] at h, fun _ _ _ _ _ r h => by simp [laws_FnWalksMeanOfAll.j9] at h, fun _ _ _ _ _ _ _ _ _ r h => by simp [laws_FnWalksMeanOfAll.l1] at h, fun _ _ _ _ _ _ _ _ _ _ r h => by simp [laws_FnWalksMeanOfAll.j2] at h, fun _ _ _ _ _ _ _ _ _ _ _ _ _ _ _ r h => by simp [laws_FnWalksMeanOfAll.l0] at h⟩
 | k + 1 => by
  obtain ⟨ih0, ih1, ih2, ih3, ih4, ih5, ih6, ih7, ih8, ih9, ih10⟩ := laws_FnWalksMeanOfAll.mono_l k
  refine ⟨?_, ?_, ?_, ?_, ?_, ?_, ?_, ?_, ?_, ?_, ?_⟩
  ·intro y0 y1 y2 y3 y4 y5 y6 y7 y8
   unfold laws_FnWalksMeanOfAll.j0
   repeat' first
   | (with_reducible exact ih0 _ _ _ _ _ _ _ _ _)
   | (with_reducible exact ih1 _ _ _ _ _ _ _ _ _ _ _)
   | (with_reducible exact ih2 _ _ _ _ _ _)
   | (with_reducible exact ih3 _ _ _ _ _ _ _ _ _ _ _ _ _ _ _)
   | (with_reducible exact ih4 _ _ _ _ _ _ _ _)
   | (with_reducible exact ih5 _ _ _ _ _ _ _ _)
   | (with_reducible exact ih6 _ _ _ _ _ _ _ _)
   | (with_reducible exact ih7 _ _ _ _ _)
   | (with_reducible exact ih8 _ _ _ _ _ _ _ _ _)
   | (with_reducible exact ih9 _ _ _ _ _ _ _ _ _ _)
   | (with_reducible exact ih10 _ _ _ _ _ _ _ _ _ _ _ _ _ _ _)
   | (with_reducible exact impl_ChanceAfter.mono _ _ _ _)
   | (with_reducible exact impl_ChanceBefore.mono _ _ _ _)
   | (with_reducible exact impl_FewestMoves.mono _ _ _)
   | (with_reducible exact impl_LikeliestAfter.mono _ _ _)
   | (with_reducible exact impl_MeanFrom.mono _ _ _)
   | (with_reducible exact impl_MeanToClear.mono _ _)
   | (with_reducible exact impl_MovesOf.mono _ _)
   | (with_reducible exact impl_WalksTo.mono _ _ _ _)
   | (with_reducible exact laws_yTexts.mono _ _ _)
   | (with_reducible exact spec_ChanceAfter.mono _ _ _ _)
   | (with_reducible exact spec_ChanceBefore.mono _ _ _ _)
   | (with_reducible exact spec_LikeliestAfter.mono _ _ _)
   | (with_reducible exact spec_MeanFrom.mono _ _ _)
   | (with_reducible exact spec_MeanToClear.mono _ _)
   | (with_reducible exact spec_WalksTo.mono _ _ _ _)
   | (with_reducible exact LeO.refl _)
   | (with_reducible exact LeO.none _)
   | (with_reducible refine LeO.ite ?_ ?_)
   | (with_reducible refine LeO.bind ?_ (fun _ => ?_))
   | exact ih0 _ _ _ _ _ _ _ _ _
   | exact ih1 _ _ _ _ _ _ _ _ _ _ _
   | exact ih2 _ _ _ _ _ _
   | exact ih3 _ _ _ _ _ _ _ _ _ _ _ _ _ _ _
   | exact ih4 _ _ _ _ _ _ _ _
   | exact ih5 _ _ _ _ _ _ _ _
   | exact ih6 _ _ _ _ _ _ _ _
   | exact ih7 _ _ _ _ _
   | exact ih8 _ _ _ _ _ _ _ _ _
   | exact ih9 _ _ _ _ _ _ _ _ _ _
   | exact ih10 _ _ _ _ _ _ _ _ _ _ _ _ _ _ _
   | exact impl_ChanceAfter.mono _ _ _ _
   | exact impl_ChanceBefore.mono _ _ _ _
   | exact impl_FewestMoves.mono _ _ _
   | exact impl_LikeliestAfter.mono _ _ _
   | exact impl_MeanFrom.mono _ _ _
   | exact impl_MeanToClear.mono _ _
   | exact impl_MovesOf.mono _ _
   | exact impl_WalksTo.mono _ _ _ _
   | exact laws_yTexts.mono _ _ _
   | exact spec_ChanceAfter.mono _ _ _ _
   | exact spec_ChanceBefore.mono _ _ _ _
   | exact spec_LikeliestAfter.mono _ _ _
   | exact spec_MeanFrom.mono _ _ _
   | exact spec_MeanToClear.mono _ _
   | exact spec_WalksTo.mono _ _ _ _
   | exact LeO.none _
   | refine LeO.ite ?_ ?_
   | refine LeO.bind ?_ (fun _ => ?_)
  ·intro y0 y1 y2 y3 y4 y5 y6 y7 y8 y9 y10
   unfold laws_FnWalksMeanOfAll.j1
   repeat' first
   | (with_reducible exact ih0 _ _ _ _ _ _ _ _ _)
   | (with_reducible exact ih1 _ _ _ _ _ _ _ _ _ _ _)
   | (with_reducible exact ih2 _ _ _ _ _ _)
   | (with_reducible exact ih3 _ _ _ _ _ _ _ _ _ _ _ _ _ _ _)
   | (with_reducible exact ih4 _ _ _ _ _ _ _ _)
   | (with_reducible exact ih5 _ _ _ _ _ _ _ _)
   | (with_reducible exact ih6 _ _ _ _ _ _ _ _)
   | (with_reducible exact ih7 _ _ _ _ _)
   | (with_reducible exact ih8 _ _ _ _ _ _ _ _ _)
   | (with_reducible exact ih9 _ _ _ _ _ _ _ _ _ _)
   | (with_reducible exact ih10 _ _ _ _ _ _ _ _ _ _ _ _ _ _ _)
   | (with_reducible exact impl_ChanceAfter.mono _ _ _ _)
   | (with_reducible exact impl_ChanceBefore.mono _ _ _ _)
   | (with_reducible exact impl_FewestMoves.mono _ _ _)
   | (with_reducible exact impl_LikeliestAfter.mono _ _ _)
   | (with_reducible exact impl_MeanFrom.mono _ _ _)
   | (with_reducible exact impl_MeanToClear.mono _ _)
   | (with_reducible exact impl_MovesOf.mono _ _)
   | (with_reducible exact impl_WalksTo.mono _ _ _ _)
   | (with_reducible exact laws_yTexts.mono _ _ _)
   | (with_reducible exact spec_ChanceAfter.mono _ _ _ _)
   | (with_reducible exact spec_ChanceBefore.mono _ _ _ _)
   | (with_reducible exact spec_LikeliestAfter.mono _ _ _)
   | (with_reducible exact spec_MeanFrom.mono _ _ _)
   | (with_reducible exact spec_MeanToClear.mono _ _)
   | (with_reducible exact spec_WalksTo.mono _ _ _ _)
   | (with_reducible exact LeO.refl _)
   | (with_reducible exact LeO.none _)
   | (with_reducible refine LeO.ite ?_ ?_)
   | (with_reducible refine LeO.bind ?_ (fun _ => ?_))
   | exact ih0 _ _ _ _ _ _ _ _ _
   | exact ih1 _ _ _ _ _ _ _ _ _ _ _
   | exact ih2 _ _ _ _ _ _
   | exact ih3 _ _ _ _ _ _ _ _ _ _ _ _ _ _ _
   | exact ih4 _ _ _ _ _ _ _ _
   | exact ih5 _ _ _ _ _ _ _ _
   | exact ih6 _ _ _ _ _ _ _ _
   | exact ih7 _ _ _ _ _
   | exact ih8 _ _ _ _ _ _ _ _ _
   | exact ih9 _ _ _ _ _ _ _ _ _ _
   | exact ih10 _ _ _ _ _ _ _ _ _ _ _ _ _ _ _
   | exact impl_ChanceAfter.mono _ _ _ _
   | exact impl_ChanceBefore.mono _ _ _ _
   | exact impl_FewestMoves.mono _ _ _
   | exact impl_LikeliestAfter.mono _ _ _
   | exact impl_MeanFrom.mono _ _ _
   | exact impl_MeanToClear.mono _ _
   | exact impl_MovesOf.mono _ _
   | exact impl_WalksTo.mono _ _ _ _
   | exact laws_yTexts.mono _ _ _
   | exact spec_ChanceAfter.mono _ _ _ _
   | exact spec_ChanceBefore.mono _ _ _ _
   | exact spec_LikeliestAfter.mono _ _ _
   | exact spec_MeanFrom.mono _ _ _
   | exact spec_MeanToClear.mono _ _
   | exact spec_WalksTo.mono _ _ _ _
   | exact LeO.none _
   | refine LeO.ite ?_ ?_
   | refine LeO.bind ?_ (fun _ => ?_)
  ·intro y0 y1 y2 y3 y4 y5
   unfold laws_FnWalksMeanOfAll.j4
   repeat' first
   | (with_reducible exact ih0 _ _ _ _ _ _ _ _ _)
   | (with_reducible exact ih1 _ _ _ _ _ _ _ _ _ _ _)
   | (with_reducible exact ih2 _ _ _ _ _ _)
   | (with_reducible exact ih3 _ _ _ _ _ _ _ _ _ _ _ _ _ _ _)
   | (with_reducible exact ih4 _ _ _ _ _ _ _ _)
   | (with_reducible exact ih5 _ _ _ _ _ _ _ _)
   | (with_reducible exact ih6 _ _ _ _ _ _ _ _)
   | (with_reducible exact ih7 _ _ _ _ _)
   | (with_reducible exact ih8 _ _ _ _ _ _ _ _ _)
   | (with_reducible exact ih9 _ _ _ _ _ _ _ _ _ _)
   | (with_reducible exact ih10 _ _ _ _ _ _ _ _ _ _ _ _ _ _ _)
   | (with_reducible exact impl_ChanceAfter.mono _ _ _ _)
   | (with_reducible exact impl_ChanceBefore.mono _ _ _ _)
   | (with_reducible exact impl_FewestMoves.mono _ _ _)
   | (with_reducible exact impl_LikeliestAfter.mono _ _ _)
   | (with_reducible exact impl_MeanFrom.mono _ _ _)
   | (with_reducible exact impl_MeanToClear.mono _ _)
   | (with_reducible exact impl_MovesOf.mono _ _)
   | (with_reducible exact impl_WalksTo.mono _ _ _ _)
   | (with_reducible exact laws_yTexts.mono _ _ _)
   | (with_reducible exact spec_ChanceAfter.mono _ _ _ _)
   | (with_reducible exact spec_ChanceBefore.mono _ _ _ _)
   | (with_reducible exact spec_LikeliestAfter.mono _ _ _)
   | (with_reducible exact spec_MeanFrom.mono _ _ _)
   | (with_reducible exact spec_MeanToClear.mono _ _)
   | (with_reducible exact spec_WalksTo.mono _ _ _ _)
   | (with_reducible exact LeO.refl _)
   | (with_reducible exact LeO.none _)
   | (with_reducible refine LeO.ite ?_ ?_)
   | (with_reducible refine LeO.bind ?_ (fun _ => ?_))
   | exact ih0 _ _ _ _ _ _ _ _ _
   | exact ih1 _ _ _ _ _ _ _ _ _ _ _
   | exact ih2 _ _ _ _ _ _
   | exact ih3 _ _ _ _ _ _ _ _ _ _ _ _ _ _ _
   | exact ih4 _ _ _ _ _ _ _ _
   | exact ih5 _ _ _ _ _ _ _ _
   | exact ih6 _ _ _ _ _ _ _ _
   | exact ih7 _ _ _ _ _
   | exact ih8 _ _ _ _ _ _ _ _ _
   | exact ih9 _ _ _ _ _ _ _ _ _ _
   | exact ih10 _ _ _ _ _ _ _ _ _ _ _ _ _ _ _
   | exact impl_ChanceAfter.mono _ _ _ _
   | exact impl_ChanceBefore.mono _ _ _ _
   | exact impl_FewestMoves.mono _ _ _
   | exact impl_LikeliestAfter.mono _ _ _
   | exact impl_MeanFrom.mono _ _ _
   | exact impl_MeanToClear.mono _ _
   | exact impl_MovesOf.mono _ _
   | exact impl_WalksTo.mono _ _ _ _
   | exact laws_yTexts.mono _ _ _
   | exact spec_ChanceAfter.mono _ _ _ _
   | exact spec_ChanceBefore.mono _ _ _ _
   | exact spec_LikeliestAfter.mono _ _ _
   | exact spec_MeanFrom.mono _ _ _
   | exact spec_MeanToClear.mono _ _
   | exact spec_WalksTo.mono _ _ _ _
   | exact LeO.none _
   | refine LeO.ite ?_ ?_
   | refine LeO.bind ?_ (fun _ => ?_)
  ·intro y0 y1 y2 y3 y4 y5 y6 y7 y8 y9 y10 y11 y12 y13 y14
   unfold laws_FnWalksMeanOfAll.j5
   repeat' first
   | (with_reducible exact ih0 _ _ _ _ _ _ _ _ _)
   | (with_reducible exact ih1 _ _ _ _ _ _ _ _ _ _ _)
   | (with_reducible exact ih2 _ _ _ _ _ _)
   | (with_reducible exact ih3 _ _ _ _ _ _ _ _ _ _ _ _ _ _ _)
   | (with_reducible exact ih4 _ _ _ _ _ _ _ _)
   | (with_reducible exact ih5 _ _ _ _ _ _ _ _)
   | (with_reducible exact ih6 _ _ _ _ _ _ _ _)
   | (with_reducible exact ih7 _ _ _ _ _)
   | (with_reducible exact ih8 _ _ _ _ _ _ _ _ _)
   | (with_reducible exact ih9 _ _ _ _ _ _ _ _ _ _)
   | (with_reducible exact ih10 _ _ _ _ _ _ _ _ _ _ _ _ _ _ _)
   | (with_reducible exact impl_ChanceAfter.mono _ _ _ _)
   | (with_reducible exact impl_ChanceBefore.mono _ _ _ _)
   | (with_reducible exact impl_FewestMoves.mono _ _ _)
   | (with_reducible exact impl_LikeliestAfter.mono _ _ _)
   | (with_reducible exact impl_MeanFrom.mono _ _ _)
   | (with_reducible exact impl_MeanToClear.mono _ _)
   | (with_reducible exact impl_MovesOf.mono _ _)
   | (with_reducible exact impl_WalksTo.mono _ _ _ _)
   | (with_reducible exact laws_yTexts.mono _ _ _)
   | (with_reducible exact spec_ChanceAfter.mono _ _ _ _)
   | (with_reducible exact spec_ChanceBefore.mono _ _ _ _)
   | (with_reducible exact spec_LikeliestAfter.mono _ _ _)
   | (with_reducible exact spec_MeanFrom.mono _ _ _)
   | (with_reducible exact spec_MeanToClear.mono _ _)
   | (with_reducible exact spec_WalksTo.mono _ _ _ _)
   | (with_reducible exact LeO.refl _)
   | (with_reducible exact LeO.none _)
   | (with_reducible refine LeO.ite ?_ ?_)
   | (with_reducible refine LeO.bind ?_ (fun _ => ?_))
   | exact ih0 _ _ _ _ _ _ _ _ _
   | exact ih1 _ _ _ _ _ _ _ _ _ _ _
   | exact ih2 _ _ _ _ _ _
   | exact ih3 _ _ _ _ _ _ _ _ _ _ _ _ _ _ _
   | exact ih4 _ _ _ _ _ _ _ _
   | exact ih5 _ _ _ _ _ _ _ _
   | exact ih6 _ _ _ _ _ _ _ _
   | exact ih7 _ _ _ _ _
   | exact ih8 _ _ _ _ _ _ _ _ _
   | exact ih9 _ _ _ _ _ _ _ _ _ _
   | exact ih10 _ _ _ _ _ _ _ _ _ _ _ _ _ _ _
   | exact impl_ChanceAfter.mono _ _ _ _
   | exact impl_ChanceBefore.mono _ _ _ _
   | exact impl_FewestMoves.mono _ _ _
   | exact impl_LikeliestAfter.mono _ _ _
   | exact impl_MeanFrom.mono _ _ _
   | exact impl_MeanToClear.mono _ _
   | exact impl_MovesOf.mono _ _
   | exact impl_WalksTo.mono _ _ _ _
   | exact laws_yTexts.mono _ _ _
   | exact spec_ChanceAfter.mono _ _ _ _
   | exact spec_ChanceBefore.mono _ _ _ _
   | exact spec_LikeliestAfter.mono _ _ _
   | exact spec_MeanFrom.mono _ _ _
   | exact spec_MeanToClear.mono _ _
   | exact spec_WalksTo.mono _ _ _ _
   | exact LeO.none _
   | refine LeO.ite ?_ ?_
   | refine LeO.bind ?_ (fun _ => ?_)
  ·intro y0 y1 y2 y3 y4 y5 y6 y7
   unfold laws_FnWalksMeanOfAll.j6
   repeat' first
   | (with_reducible exact ih0 _ _ _ _ _ _ _ _ _)
   | (with_reducible exact ih1 _ _ _ _ _ _ _ _ _ _ _)
   | (with_reducible exact ih2 _ _ _ _ _ _)
   | (with_reducible exact ih3 _ _ _ _ _ _ _ _ _ _ _ _ _ _ _)
   | (with_reducible exact ih4 _ _ _ _ _ _ _ _)
   | (with_reducible exact ih5 _ _ _ _ _ _ _ _)
   | (with_reducible exact ih6 _ _ _ _ _ _ _ _)
   | (with_reducible exact ih7 _ _ _ _ _)
   | (with_reducible exact ih8 _ _ _ _ _ _ _ _ _)
   | (with_reducible exact ih9 _ _ _ _ _ _ _ _ _ _)
   | (with_reducible exact ih10 _ _ _ _ _ _ _ _ _ _ _ _ _ _ _)
   | (with_reducible exact impl_ChanceAfter.mono _ _ _ _)
   | (with_reducible exact impl_ChanceBefore.mono _ _ _ _)
   | (with_reducible exact impl_FewestMoves.mono _ _ _)
   | (with_reducible exact impl_LikeliestAfter.mono _ _ _)
   | (with_reducible exact impl_MeanFrom.mono _ _ _)
   | (with_reducible exact impl_MeanToClear.mono _ _)
   | (with_reducible exact impl_MovesOf.mono _ _)
   | (with_reducible exact impl_WalksTo.mono _ _ _ _)
   | (with_reducible exact laws_yTexts.mono _ _ _)
   | (with_reducible exact spec_ChanceAfter.mono _ _ _ _)
   | (with_reducible exact spec_ChanceBefore.mono _ _ _ _)
   | (with_reducible exact spec_LikeliestAfter.mono _ _ _)
   | (with_reducible exact spec_MeanFrom.mono _ _ _)
   | (with_reducible exact spec_MeanToClear.mono _ _)
   | (with_reducible exact spec_WalksTo.mono _ _ _ _)
   | (with_reducible exact LeO.refl _)
   | (with_reducible exact LeO.none _)
   | (with_reducible refine LeO.ite ?_ ?_)
   | (with_reducible refine LeO.bind ?_ (fun _ => ?_))
   | exact ih0 _ _ _ _ _ _ _ _ _
   | exact ih1 _ _ _ _ _ _ _ _ _ _ _
   | exact ih2 _ _ _ _ _ _
   | exact ih3 _ _ _ _ _ _ _ _ _ _ _ _ _ _ _
   | exact ih4 _ _ _ _ _ _ _ _
   | exact ih5 _ _ _ _ _ _ _ _
   | exact ih6 _ _ _ _ _ _ _ _
   | exact ih7 _ _ _ _ _
   | exact ih8 _ _ _ _ _ _ _ _ _
   | exact ih9 _ _ _ _ _ _ _ _ _ _
   | exact ih10 _ _ _ _ _ _ _ _ _ _ _ _ _ _ _
   | exact impl_ChanceAfter.mono _ _ _ _
   | exact impl_ChanceBefore.mono _ _ _ _
   | exact impl_FewestMoves.mono _ _ _
   | exact impl_LikeliestAfter.mono _ _ _
   | exact impl_MeanFrom.mono _ _ _
   | exact impl_MeanToClear.mono _ _
   | exact impl_MovesOf.mono _ _
   | exact impl_WalksTo.mono _ _ _ _
   | exact laws_yTexts.mono _ _ _
   | exact spec_ChanceAfter.mono _ _ _ _
   | exact spec_ChanceBefore.mono _ _ _ _
   | exact spec_LikeliestAfter.mono _ _ _
   | exact spec_MeanFrom.mono _ _ _
   | exact spec_MeanToClear.mono _ _
   | exact spec_WalksTo.mono _ _ _ _
   | exact LeO.none _
   | refine LeO.ite ?_ ?_
   | refine LeO.bind ?_ (fun _ => ?_)
  ·intro y0 y1 y2 y3 y4 y5 y6 y7
   unfold laws_FnWalksMeanOfAll.j7
   repeat' first
   | (with_reducible exact ih0 _ _ _ _ _ _ _ _ _)
   | (with_reducible exact ih1 _ _ _ _ _ _ _ _ _ _ _)
   | (with_reducible exact ih2 _ _ _ _ _ _)
   | (with_reducible exact ih3 _ _ _ _ _ _ _ _ _ _ _ _ _ _ _)
   | (with_reducible exact ih4 _ _ _ _ _ _ _ _)
   | (with_reducible exact ih5 _ _ _ _ _ _ _ _)
   | (with_reducible exact ih6 _ _ _ _ _ _ _ _)
   | (with_reducible exact ih7 _ _ _ _ _)
   | (with_reducible exact ih8 _ _ _ _ _ _ _ _ _)
   | (with_reducible exact ih9 _ _ _ _ _ _ _ _ _ _)
   | (with_reducible exact ih10 _ _ _ _ _ _ _ _ _ _ _ _ _ _ _)
   | (with_reducible exact impl_ChanceAfter.mono _ _ _ _)
   | (with_reducible exact impl_ChanceBefore.mono _ _ _ _)
   | (with_reducible exact impl_FewestMoves.mono _ _ _)
   | (with_reducible exact impl_LikeliestAfter.mono _ _ _)
   | (with_reducible exact impl_MeanFrom.mono _ _ _)
   | (with_reducible exact impl_MeanToClear.mono _ _)
   | (with_reducible exact impl_MovesOf.mono _ _)
   | (with_reducible exact impl_WalksTo.mono _ _ _ _)
   | (with_reducible exact laws_yTexts.mono _ _ _)
   | (with_reducible exact spec_ChanceAfter.mono _ _ _ _)
   | (with_reducible exact spec_ChanceBefore.mono _ _ _ _)
   | (with_reducible exact spec_LikeliestAfter.mono _ _ _)
   | (with_reducible exact spec_MeanFrom.mono _ _ _)
   | (with_reducible exact spec_MeanToClear.mono _ _)
   | (with_reducible exact spec_WalksTo.mono _ _ _ _)
   | (with_reducible exact LeO.refl _)
   | (with_reducible exact LeO.none _)
   | (with_reducible refine LeO.ite ?_ ?_)
   | (with_reducible refine LeO.bind ?_ (fun _ => ?_))
   | exact ih0 _ _ _ _ _ _ _ _ _
   | exact ih1 _ _ _ _ _ _ _ _ _ _ _
   | exact ih2 _ _ _ _ _ _
   | exact ih3 _ _ _ _ _ _ _ _ _ _ _ _ _ _ _
   | exact ih4 _ _ _ _ _ _ _ _
   | exact ih5 _ _ _ _ _ _ _ _
   | exact ih6 _ _ _ _ _ _ _ _
   | exact ih7 _ _ _ _ _
   | exact ih8 _ _ _ _ _ _ _ _ _
   | exact ih9 _ _ _ _ _ _ _ _ _ _
   | exact ih10 _ _ _ _ _ _ _ _ _ _ _ _ _ _ _
   | exact impl_ChanceAfter.mono _ _ _ _
   | exact impl_ChanceBefore.mono _ _ _ _
   | exact impl_FewestMoves.mono _ _ _
   | exact impl_LikeliestAfter.mono _ _ _
   | exact impl_MeanFrom.mono _ _ _
   | exact impl_MeanToClear.mono _ _
   | exact impl_MovesOf.mono _ _
   | exact impl_WalksTo.mono _ _ _ _
   | exact laws_yTexts.mono _ _ _
   | exact spec_ChanceAfter.mono _ _ _ _
   | exact spec_ChanceBefore.mono _ _ _ _
   | exact spec_LikeliestAfter.mono _ _ _
   | exact spec_MeanFrom.mono _ _ _
   | exact spec_MeanToClear.mono _ _
   | exact spec_WalksTo.mono _ _ _ _
   | exact LeO.none _
   | refine LeO.ite ?_ ?_
   | refine LeO.bind ?_ (fun _ => ?_)
  ·intro y0 y1 y2 y3 y4 y5 y6 y7
   unfold laws_FnWalksMeanOfAll.j8
   repeat' first
   | (with_reducible exact ih0 _ _ _ _ _ _ _ _ _)
   | (with_reducible exact ih1 _ _ _ _ _ _ _ _ _ _ _)
   | (with_reducible exact ih2 _ _ _ _ _ _)
   | (with_reducible exact ih3 _ _ _ _ _ _ _ _ _ _ _ _ _ _ _)
   | (with_reducible exact ih4 _ _ _ _ _ _ _ _)
   | (with_reducible exact ih5 _ _ _ _ _ _ _ _)
   | (with_reducible exact ih6 _ _ _ _ _ _ _ _)
   | (with_reducible exact ih7 _ _ _ _ _)
   | (with_reducible exact ih8 _ _ _ _ _ _ _ _ _)
   | (with_reducible exact ih9 _ _ _ _ _ _ _ _ _ _)
   | (with_reducible exact ih10 _ _ _ _ _ _ _ _ _ _ _ _ _ _ _)
   | (with_reducible exact impl_ChanceAfter.mono _ _ _ _)
   | (with_reducible exact impl_ChanceBefore.mono _ _ _ _)
   | (with_reducible exact impl_FewestMoves.mono _ _ _)
   | (with_reducible exact impl_LikeliestAfter.mono _ _ _)
   | (with_reducible exact impl_MeanFrom.mono _ _ _)
   | (with_reducible exact impl_MeanToClear.mono _ _)
   | (with_reducible exact impl_MovesOf.mono _ _)
   | (with_reducible exact impl_WalksTo.mono _ _ _ _)
   | (with_reducible exact laws_yTexts.mono _ _ _)
   | (with_reducible exact spec_ChanceAfter.mono _ _ _ _)
   | (with_reducible exact spec_ChanceBefore.mono _ _ _ _)
   | (with_reducible exact spec_LikeliestAfter.mono _ _ _)
   | (with_reducible exact spec_MeanFrom.mono _ _ _)
   | (with_reducible exact spec_MeanToClear.mono _ _)
   | (with_reducible exact spec_WalksTo.mono _ _ _ _)
   | (with_reducible exact LeO.refl _)
   | (with_reducible exact LeO.none _)
   | (with_reducible refine LeO.ite ?_ ?_)
   | (with_reducible refine LeO.bind ?_ (fun _ => ?_))
   | exact ih0 _ _ _ _ _ _ _ _ _
   | exact ih1 _ _ _ _ _ _ _ _ _ _ _
   | exact ih2 _ _ _ _ _ _
   | exact ih3 _ _ _ _ _ _ _ _ _ _ _ _ _ _ _
   | exact ih4 _ _ _ _ _ _ _ _
   | exact ih5 _ _ _ _ _ _ _ _
   | exact ih6 _ _ _ _ _ _ _ _
   | exact ih7 _ _ _ _ _
   | exact ih8 _ _ _ _ _ _ _ _ _
   | exact ih9 _ _ _ _ _ _ _ _ _ _
   | exact ih10 _ _ _ _ _ _ _ _ _ _ _ _ _ _ _
   | exact impl_ChanceAfter.mono _ _ _ _
   | exact impl_ChanceBefore.mono _ _ _ _
   | exact impl_FewestMoves.mono _ _ _
   | exact impl_LikeliestAfter.mono _ _ _
   | exact impl_MeanFrom.mono _ _ _
   | exact impl_MeanToClear.mono _ _
   | exact impl_MovesOf.mono _ _
   | exact impl_WalksTo.mono _ _ _ _
   | exact laws_yTexts.mono _ _ _
   | exact spec_ChanceAfter.mono _ _ _ _
   | exact spec_ChanceBefore.mono _ _ _ _
   | exact spec_LikeliestAfter.mono _ _ _
   | exact spec_MeanFrom.mono _ _ _
   | exact spec_MeanToClear.mono _ _
   | exact spec_WalksTo.mono _ _ _ _
   | exact LeO.none _
   | refine LeO.ite ?_ ?_
   | refine LeO.bind ?_ (fun _ => ?_)
  ·intro y0 y1 y2 y3 y4
   unfold laws_FnWalksMeanOfAll.j9
   repeat' first
   | (with_reducible exact ih0 _ _ _ _ _ _ _ _ _)
   | (with_reducible exact ih1 _ _ _ _ _ _ _ _ _ _ _)
   | (with_reducible exact ih2 _ _ _ _ _ _)
   | (with_reducible exact ih3 _ _ _ _ _ _ _ _ _ _ _ _ _ _ _)
   | (with_reducible exact ih4 _ _ _ _ _ _ _ _)
   | (with_reducible exact ih5 _ _ _ _ _ _ _ _)
   | (with_reducible exact ih6 _ _ _ _ _ _ _ _)
   | (with_reducible exact ih7 _ _ _ _ _)
   | (with_reducible exact ih8 _ _ _ _ _ _ _ _ _)
   | (with_reducible exact ih9 _ _ _ _ _ _ _ _ _ _)
   | (with_reducible exact ih10 _ _ _ _ _ _ _ _ _ _ _ _ _ _ _)
   | (with_reducible exact impl_ChanceAfter.mono _ _ _ _)
   | (with_reducible exact impl_ChanceBefore.mono _ _ _ _)
   | (with_reducible exact impl_FewestMoves.mono _ _ _)
   | (with_reducible exact impl_LikeliestAfter.mono _ _ _)
   | (with_reducible exact impl_MeanFrom.mono _ _ _)
   | (with_reducible exact impl_MeanToClear.mono _ _)
   | (with_reducible exact impl_MovesOf.mono _ _)
   | (with_reducible exact impl_WalksTo.mono _ _ _ _)
   | (with_reducible exact laws_yTexts.mono _ _ _)
   | (with_reducible exact spec_ChanceAfter.mono _ _ _ _)
   | (with_reducible exact spec_ChanceBefore.mono _ _ _ _)
   | (with_reducible exact spec_LikeliestAfter.mono _ _ _)
   | (with_reducible exact spec_MeanFrom.mono _ _ _)
   | (with_reducible exact spec_MeanToClear.mono _ _)
   | (with_reducible exact spec_WalksTo.mono _ _ _ _)
   | (with_reducible exact LeO.refl _)
   | (with_reducible exact LeO.none _)
   | (with_reducible refine LeO.ite ?_ ?_)
   | (with_reducible refine LeO.bind ?_ (fun _ => ?_))
   | exact ih0 _ _ _ _ _ _ _ _ _
   | exact ih1 _ _ _ _ _ _ _ _ _ _ _
   | exact ih2 _ _ _ _ _ _
   | exact ih3 _ _ _ _ _ _ _ _ _ _ _ _ _ _ _
   | exact ih4 _ _ _ _ _ _ _ _
   | exact ih5 _ _ _ _ _ _ _ _
   | exact ih6 _ _ _ _ _ _ _ _
   | exact ih7 _ _ _ _ _
   | exact ih8 _ _ _ _ _ _ _ _ _
   | exact ih9 _ _ _ _ _ _ _ _ _ _
   | exact ih10 _ _ _ _ _ _ _ _ _ _ _ _ _ _ _
   | exact impl_ChanceAfter.mono _ _ _ _
   | exact impl_ChanceBefore.mono _ _ _ _
   | exact impl_FewestMoves.mono _ _ _
   | exact impl_LikeliestAfter.mono _ _ _
   | exact impl_MeanFrom.mono _ _ _
   | exact impl_MeanToClear.mono _ _
   | exact impl_MovesOf.mono _ _
   | exact impl_WalksTo.mono _ _ _ _
   | exact laws_yTexts.mono _ _ _
   | exact spec_ChanceAfter.mono _ _ _ _
   | exact spec_ChanceBefore.mono _ _ _ _
   | exact spec_LikeliestAfter.mono _ _ _
   | exact spec_MeanFrom.mono _ _ _
   | exact spec_MeanToClear.mono _ _
   | exact spec_WalksTo.mono _ _ _ _
   | exact LeO.none _
   | refine LeO.ite ?_ ?_
   | refine LeO.bind ?_ (fun _ => ?_)
  ·intro y0 y1 y2 y3 y4 y5 y6 y7 y8
   unfold laws_FnWalksMeanOfAll.l1
   repeat' first
   | (with_reducible exact ih0 _ _ _ _ _ _ _ _ _)
   | (with_reducible exact ih1 _ _ _ _ _ _ _ _ _ _ _)
   | (with_reducible exact ih2 _ _ _ _ _ _)
   | (with_reducible exact ih3 _ _ _ _ _ _ _ _ _ _ _ _ _ _ _)
   | (with_reducible exact ih4 _ _ _ _ _ _ _ _)
   | (with_reducible exact ih5 _ _ _ _ _ _ _ _)
   | (with_reducible exact ih6 _ _ _ _ _ _ _ _)
   | (with_reducible exact ih7 _ _ _ _ _)
   | (with_reducible exact ih8 _ _ _ _ _ _ _ _ _)
   | (with_reducible exact ih9 _ _ _ _ _ _ _ _ _ _)
   | (with_reducible exact ih10 _ _ _ _ _ _ _ _ _ _ _ _ _ _ _)
   | (with_reducible exact impl_ChanceAfter.mono _ _ _ _)
   | (with_reducible exact impl_ChanceBefore.mono _ _ _ _)
   | (with_reducible exact impl_FewestMoves.mono _ _ _)
   | (with_reducible exact impl_LikeliestAfter.mono _ _ _)
   | (with_reducible exact impl_MeanFrom.mono _ _ _)
   | (with_reducible exact impl_MeanToClear.mono _ _)
   | (with_reducible exact impl_MovesOf.mono _ _)
   | (with_reducible exact impl_WalksTo.mono _ _ _ _)
   | (with_reducible exact laws_yTexts.mono _ _ _)
   | (with_reducible exact spec_ChanceAfter.mono _ _ _ _)
   | (with_reducible exact spec_ChanceBefore.mono _ _ _ _)
   | (with_reducible exact spec_LikeliestAfter.mono _ _ _)
   | (with_reducible exact spec_MeanFrom.mono _ _ _)
   | (with_reducible exact spec_MeanToClear.mono _ _)
   | (with_reducible exact spec_WalksTo.mono _ _ _ _)
   | (with_reducible exact LeO.refl _)
   | (with_reducible exact LeO.none _)
   | (with_reducible refine LeO.ite ?_ ?_)
   | (with_reducible refine LeO.bind ?_ (fun _ => ?_))
   | exact ih0 _ _ _ _ _ _ _ _ _
   | exact ih1 _ _ _ _ _ _ _ _ _ _ _
   | exact ih2 _ _ _ _ _ _
   | exact ih3 _ _ _ _ _ _ _ _ _ _ _ _ _ _ _
   | exact ih4 _ _ _ _ _ _ _ _
   | exact ih5 _ _ _ _ _ _ _ _
   | exact ih6 _ _ _ _ _ _ _ _
   | exact ih7 _ _ _ _ _
   | exact ih8 _ _ _ _ _ _ _ _ _
   | exact ih9 _ _ _ _ _ _ _ _ _ _
   | exact ih10 _ _ _ _ _ _ _ _ _ _ _ _ _ _ _
   | exact impl_ChanceAfter.mono _ _ _ _
   | exact impl_ChanceBefore.mono _ _ _ _
   | exact impl_FewestMoves.mono _ _ _
   | exact impl_LikeliestAfter.mono _ _ _
   | exact impl_MeanFrom.mono _ _ _
   | exact impl_MeanToClear.mono _ _
   | exact impl_MovesOf.mono _ _
   | exact impl_WalksTo.mono _ _ _ _
   | exact laws_yTexts.mono _ _ _
   | exact spec_ChanceAfter.mono _ _ _ _
   | exact spec_ChanceBefore.mono _ _ _ _
   | exact spec_LikeliestAfter.mono _ _ _
   | exact spec_MeanFrom.mono _ _ _
   | exact spec_MeanToClear.mono _ _
   | exact spec_WalksTo.mono _ _ _ _
   | exact LeO.none _
   | refine LeO.ite ?_ ?_
   | refine LeO.bind ?_ (fun _ => ?_)
  ·intro y0 y1 y2 y3 y4 y5 y6 y7 y8 y9
   unfold laws_FnWalksMeanOfAll.j2
   repeat' first
   | (with_reducible exact ih0 _ _ _ _ _ _ _ _ _)
   | (with_reducible exact ih1 _ _ _ _ _ _ _ _ _ _ _)
   | (with_reducible exact ih2 _ _ _ _ _ _)
   | (with_reducible exact ih3 _ _ _ _ _ _ _ _ _ _ _ _ _ _ _)
   | (with_reducible exact ih4 _ _ _ _ _ _ _ _)
   | (with_reducible exact ih5 _ _ _ _ _ _ _ _)
   | (with_reducible exact ih6 _ _ _ _ _ _ _ _)
   | (with_reducible exact ih7 _ _ _ _ _)
   | (with_reducible exact ih8 _ _ _ _ _ _ _ _ _)
   | (with_reducible exact ih9 _ _ _ _ _ _ _ _ _ _)
   | (with_reducible exact ih10 _ _ _ _ _ _ _ _ _ _ _ _ _ _ _)
   | (with_reducible exact impl_ChanceAfter.mono _ _ _ _)
   | (with_reducible exact impl_ChanceBefore.mono _ _ _ _)
   | (with_reducible exact impl_FewestMoves.mono _ _ _)
   | (with_reducible exact impl_LikeliestAfter.mono _ _ _)
   | (with_reducible exact impl_MeanFrom.mono _ _ _)
   | (with_reducible exact impl_MeanToClear.mono _ _)
   | (with_reducible exact impl_MovesOf.mono _ _)
   | (with_reducible exact impl_WalksTo.mono _ _ _ _)
   | (with_reducible exact laws_yTexts.mono _ _ _)
   | (with_reducible exact spec_ChanceAfter.mono _ _ _ _)
   | (with_reducible exact spec_ChanceBefore.mono _ _ _ _)
   | (with_reducible exact spec_LikeliestAfter.mono _ _ _)
   | (with_reducible exact spec_MeanFrom.mono _ _ _)
   | (with_reducible exact spec_MeanToClear.mono _ _)
   | (with_reducible exact spec_WalksTo.mono _ _ _ _)
   | (with_reducible exact LeO.refl _)
   | (with_reducible exact LeO.none _)
   | (with_reducible refine LeO.ite ?_ ?_)
   | (with_reducible refine LeO.bind ?_ (fun _ => ?_))
   | exact ih0 _ _ _ _ _ _ _ _ _
   | exact ih1 _ _ _ _ _ _ _ _ _ _ _
   | exact ih2 _ _ _ _ _ _
   | exact ih3 _ _ _ _ _ _ _ _ _ _ _ _ _ _ _
   | exact ih4 _ _ _ _ _ _ _ _
   | exact ih5 _ _ _ _ _ _ _ _
   | exact ih6 _ _ _ _ _ _ _ _
   | exact ih7 _ _ _ _ _
   | exact ih8 _ _ _ _ _ _ _ _ _
   | exact ih9 _ _ _ _ _ _ _ _ _ _
   | exact ih10 _ _ _ _ _ _ _ _ _ _ _ _ _ _ _
   | exact impl_ChanceAfter.mono _ _ _ _
   | exact impl_ChanceBefore.mono _ _ _ _
   | exact impl_FewestMoves.mono _ _ _
   | exact impl_LikeliestAfter.mono _ _ _
   | exact impl_MeanFrom.mono _ _ _
   | exact impl_MeanToClear.mono _ _
   | exact impl_MovesOf.mono _ _
   | exact impl_WalksTo.mono _ _ _ _
   | exact laws_yTexts.mono _ _ _
   | exact spec_ChanceAfter.mono _ _ _ _
   | exact spec_ChanceBefore.mono _ _ _ _
   | exact spec_LikeliestAfter.mono _ _ _
   | exact spec_MeanFrom.mono _ _ _
   | exact spec_MeanToClear.mono _ _
   | exact spec_WalksTo.mono _ _ _ _
   | exact LeO.none _
   | refine LeO.ite ?_ ?_
   | refine LeO.bind ?_ (fun _ => ?_)
  ·intro y0 y1 y2 y3 y4 y5 y6 y7 y8 y9 y10 y11 y12 y13 y14
   unfold laws_FnWalksMeanOfAll.l0
   repeat' first
   | (with_reducible exact ih0 _ _ _ _ _ _ _ _ _)
   | (with_reducible exact ih1 _ _ _ _ _ _ _ _ _ _ _)
   | (with_reducible exact ih2 _ _ _ _ _ _)
   | (with_reducible exact ih3 _ _ _ _ _ _ _ _ _ _ _ _ _ _ _)
   | (with_reducible exact ih4 _ _ _ _ _ _ _ _)
   | (with_reducible exact ih5 _ _ _ _ _ _ _ _)
   | (with_reducible exact ih6 _ _ _ _ _ _ _ _)
   | (with_reducible exact ih7 _ _ _ _ _)
   | (with_reducible exact ih8 _ _ _ _ _ _ _ _ _)
   | (with_reducible exact ih9 _ _ _ _ _ _ _ _ _ _)
   | (with_reducible exact ih10 _ _ _ _ _ _ _ _ _ _ _ _ _ _ _)
   | (with_reducible exact impl_ChanceAfter.mono _ _ _ _)
   | (with_reducible exact impl_ChanceBefore.mono _ _ _ _)
   | (with_reducible exact impl_FewestMoves.mono _ _ _)
   | (with_reducible exact impl_LikeliestAfter.mono _ _ _)
   | (with_reducible exact impl_MeanFrom.mono _ _ _)
   | (with_reducible exact impl_MeanToClear.mono _ _)
   | (with_reducible exact impl_MovesOf.mono _ _)
   | (with_reducible exact impl_WalksTo.mono _ _ _ _)
   | (with_reducible exact laws_yTexts.mono _ _ _)
   | (with_reducible exact spec_ChanceAfter.mono _ _ _ _)
   | (with_reducible exact spec_ChanceBefore.mono _ _ _ _)
   | (with_reducible exact spec_LikeliestAfter.mono _ _ _)
   | (with_reducible exact spec_MeanFrom.mono _ _ _)
   | (with_reducible exact spec_MeanToClear.mono _ _)
   | (with_reducible exact spec_WalksTo.mono _ _ _ _)
   | (with_reducible exact LeO.refl _)
   | (with_reducible exact LeO.none _)
   | (with_reducible refine LeO.ite ?_ ?_)
   | (with_reducible refine LeO.bind ?_ (fun _ => ?_))
   | exact ih0 _ _ _ _ _ _ _ _ _
   | exact ih1 _ _ _ _ _ _ _ _ _ _ _
   | exact ih2 _ _ _ _ _ _
   | exact ih3 _ _ _ _ _ _ _ _ _ _ _ _ _ _ _
   | exact ih4 _ _ _ _ _ _ _ _
   | exact ih5 _ _ _ _ _ _ _ _
   | exact ih6 _ _ _ _ _ _ _ _
   | exact ih7 _ _ _ _ _
   | exact ih8 _ _ _ _ _ _ _ _ _
   | exact ih9 _ _ _ _ _ _ _ _ _ _
   | exact ih10 _ _ _ _ _ _ _ _ _ _ _ _ _ _ _
   | exact impl_ChanceAfter.mono _ _ _ _
   | exact impl_ChanceBefore.mono _ _ _ _
   | exact impl_FewestMoves.mono _ _ _
   | exact impl_LikeliestAfter.mono _ _ _
   | exact impl_MeanFrom.mono _ _ _
   | exact impl_MeanToClear.mono _ _
   | exact impl_MovesOf.mono _ _
   | exact impl_WalksTo.mono _ _ _ _
   | exact laws_yTexts.mono _ _ _
   | exact spec_ChanceAfter.mono _ _ _ _
   | exact spec_ChanceBefore.mono _ _ _ _
   | exact spec_LikeliestAfter.mono _ _ _
   | exact spec_MeanFrom.mono _ _ _
   | exact spec_MeanToClear.mono _ _
   | exact spec_WalksTo.mono _ _ _ _
   | exact LeO.none _
   | refine LeO.ite ?_ ?_
   | refine LeO.bind ?_ (fun _ => ?_)
theorem laws_FnWalksMeanOfAll.mono : ∀ a0 a1 a2 a3 a4 a5 a6 a7 k, LeO (laws_FnWalksMeanOfAll.f k a0 a1 a2 a3 a4 a5 a6 a7) (laws_FnWalksMeanOfAll.f (k + 1) a0 a1 a2 a3 a4 a5 a6 a7) := by
 intro a0 a1 a2 a3 a4 a5 a6 a7 k
 obtain ⟨ih0, ih1, ih2, ih3, ih4, ih5, ih6, ih7, ih8, ih9, ih10⟩ := laws_FnWalksMeanOfAll.mono_l k
 unfold laws_FnWalksMeanOfAll.f
 repeat' first
   | (with_reducible exact ih0 _ _ _ _ _ _ _ _ _)
   | (with_reducible exact ih1 _ _ _ _ _ _ _ _ _ _ _)
   | (with_reducible exact ih2 _ _ _ _ _ _)
   | (with_reducible exact ih3 _ _ _ _ _ _ _ _ _ _ _ _ _ _ _)
   | (with_reducible exact ih4 _ _ _ _ _ _ _ _)
   | (with_reducible exact ih5 _ _ _ _ _ _ _ _)
   | (with_reducible exact ih6 _ _ _ _ _ _ _ _)
   | (with_reducible exact ih7 _ _ _ _ _)
   | (with_reducible exact ih8 _ _ _ _ _ _ _ _ _)
   | (with_reducible exact ih9 _ _ _ _ _ _ _ _ _ _)
   | (with_reducible exact ih10 _ _ _ _ _ _ _ _ _ _ _ _ _ _ _)
   | (with_reducible exact impl_ChanceAfter.mono _ _ _ _)
   | (with_reducible exact impl_ChanceBefore.mono _ _ _ _)
   | (with_reducible exact impl_FewestMoves.mono _ _ _)
   | (with_reducible exact impl_LikeliestAfter.mono _ _ _)
   | (with_reducible exact impl_MeanFrom.mono _ _ _)
   | (with_reducible exact impl_MeanToClear.mono _ _)
   | (with_reducible exact impl_MovesOf.mono _ _)
   | (with_reducible exact impl_WalksTo.mono _ _ _ _)
   | (with_reducible exact laws_yTexts.mono _ _ _)
   | (with_reducible exact spec_ChanceAfter.mono _ _ _ _)
   | (with_reducible exact spec_ChanceBefore.mono _ _ _ _)
   | (with_reducible exact spec_LikeliestAfter.mono _ _ _)
   | (with_reducible exact spec_MeanFrom.mono _ _ _)
   | (with_reducible exact spec_MeanToClear.mono _ _)
   | (with_reducible exact spec_WalksTo.mono _ _ _ _)
   | (with_reducible exact LeO.refl _)
   | (with_reducible exact LeO.none _)
   | (with_reducible refine LeO.ite ?_ ?_)
   | (with_reducible refine LeO.bind ?_ (fun _ => ?_))
   | exact ih0 _ _ _ _ _ _ _ _ _
   | exact ih1 _ _ _ _ _ _ _ _ _ _ _
   | exact ih2 _ _ _ _ _ _
   | exact ih3 _ _ _ _ _ _ _ _ _ _ _ _ _ _ _
   | exact ih4 _ _ _ _ _ _ _ _
   | exact ih5 _ _ _ _ _ _ _ _
   | exact ih6 _ _ _ _ _ _ _ _
   | exact ih7 _ _ _ _ _
   | exact ih8 _ _ _ _ _ _ _ _ _
   | exact ih9 _ _ _ _ _ _ _ _ _ _
   | exact ih10 _ _ _ _ _ _ _ _ _ _ _ _ _ _ _
   | exact impl_ChanceAfter.mono _ _ _ _
   | exact impl_ChanceBefore.mono _ _ _ _
   | exact impl_FewestMoves.mono _ _ _
   | exact impl_LikeliestAfter.mono _ _ _
   | exact impl_MeanFrom.mono _ _ _
   | exact impl_MeanToClear.mono _ _
   | exact impl_MovesOf.mono _ _
   | exact impl_WalksTo.mono _ _ _ _
   | exact laws_yTexts.mono _ _ _
   | exact spec_ChanceAfter.mono _ _ _ _
   | exact spec_ChanceBefore.mono _ _ _ _
   | exact spec_LikeliestAfter.mono _ _ _
   | exact spec_MeanFrom.mono _ _ _
   | exact spec_MeanToClear.mono _ _
   | exact spec_WalksTo.mono _ _ _ _
   | exact LeO.none _
   | refine LeO.ite ?_ ?_
   | refine LeO.bind ?_ (fun _ => ?_)
end Go.Proofs.YtifdgebdkhdmhaaDoor.PWMean
