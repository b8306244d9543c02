-- squeezed (sq3.py); PRINTED by drive.py (a program of this session's, over the kit's print.py; wip/tools/drive.py). Lean checks it.
import Derived.Test.YtcogjabdddikjaaDoorQPSCntx0
import Derived.Test.YtcogjabdddikjaaDoorQPSCntx1
import Derived.Test.YtcogjabdddikjaaDoorQPSCntx2
import Derived.Test.YtcogjabdddikjaaDoorQPSCntx3
import Derived.Test.YtcogjabdddikjaaDoorQPSCntx4
import Derived.Test.YtcogjabdddikjaaDoorQPSCntx5
import Derived.Test.YtcogjabdddikjaaDoorQPSCntx6
import Derived.Test.YtcogjabdddikjaaDoorQSq
namespace Go.Proofs.YtcogjabdddikjaaDoor.PSCnt
open Go.RowKit Go.Proofs.YtcogjabdddikjaaDoorW.PrintWords Go.Proofs.YtcogjabdddikjaaDoorW.PrintLast Go.Proofs.YtcogjabdddikjaaDoorW.PrintMore
attribute [local go_sem] max2_int min2_int max_two min_two max_three min_three max_four min_four   -- for this text's walks alone
set_option linter.unusedVariables false
set_option linter.unusedSimpArgs false

/-! ### laws_FnStatesCounted: function 3 -/
mutual
def laws_FnStatesCounted.j0 : Nat → List Int → Int → Int → List ByteArray → Bool → Int → Bool → ByteArray → ByteArray → Int → Bool → Option (Bool)
 | 0, _, _, _, _, _, _, _, _, _, _, _ => none
 | k + 1, x1, x5, x6, x7, x8, x11, x12, x15, x19, x23, x216 => if x216 = true then (none) else (if x12 = true then ((impl_NumberOfState.f k x15).bind fun bt349 => ((impl_NumberOfState.f k x19).bind fun bt351 => ((impl_CountOn.f x15).bind fun bt353 => ((impl_CountOn.f x19).bind fun bt355 => (if bt349.2 = true then (if bt351.2 = true then (if bt349.1 > bt351.1 then (none) else (if bt353.2 = true then (if bt353.1 = x6 then (if bt355.2 = true then (if bt355.1 = x6 then (if x11 < 1 then (none) else (laws_FnStatesCounted.j1 k x1 x5 x6 x7 x8 x11 x15 x19 x23 ((bt349.1 == bt351.1) != (x11 == 1)))) else (none)) else (none)) else (none)) else (none))) else (none)) else (none)))))) else (laws_FnStatesCounted.j3 k x1 x5 x6 x7 x8 x11 x15 x19 x23))
def laws_FnStatesCounted.j3 : Nat → List Int → Int → Int → List ByteArray → Bool → Int → ByteArray → ByteArray → Int → Option (Bool)
 | 0, _, _, _, _, _, _, _, _, _ => none
 | k + 1, x1, x5, x6, x7, x8, x11, x15, x19, x23 => if x8 = true then (laws_FnStatesCounted.l1 k x1 x5 x6 x7 x11 x15 x19 x23 0 (-1) x7 (x7.length : Int) 0) else (laws_FnStatesCounted.j5 k x1)
def laws_FnStatesCounted.j5 : Nat → List Int → Option (Bool)
 | 0, _ => none
 | k + 1, x1 => (spec_DrawMeanNumber.f x1).bind fun t366 => ((impl_MeanNumber.f k t366).bind fun bt367 => ((spec_MeanNumber.f t366).bind fun bt370 => ((impl_MeanOfPairs.f k t366).bind fun bt373 => ((spec_MeanOfPairs.f k t366).bind fun bt376 => ((spec_DrawMeanOnAlong.f k x1).bind fun bt379 => ((impl_MeanOnAlong.f k bt379.1 bt379.2).bind fun bt381 => ((spec_MeanOnAlong.f k bt379.1 bt379.2).bind fun bt384 => (if (bt367.2.2 != bt370.2.2) = true then (none) else (if bt367.1 = bt370.1 then (if bt367.2.1 = bt370.2.1 then (if (bt373.2.2 != bt376.2.2) = true then (none) else (if bt373.1 = bt376.1 then (if bt373.2.1 = bt376.2.1 then (if (bt373.2.2 != bt367.2.2) = true then (none) else (if (bt381.2.2 != bt384.2.2) = true then (none) else (if bt381.1 = bt384.1 then (laws_FnStatesCounted.j6 k t366 bt367.1 bt367.2.1 bt367.2.2 bt373.1 bt373.2.1 bt379.1 bt379.2 bt381.1 bt381.2.1 bt381.2.2 (bt381.2.1 != bt384.2.1)) else (none)))) else (none)) else (none))) else (none)) else (none))))))))))
def laws_FnStatesCounted.j6 : Nat → Int → Int → Int → Bool → Int → Int → ByteArray → ByteArray → Int → Int → Bool → Bool → Option (Bool)
 | 0, _, _, _, _, _, _, _, _, _, _, _, _ => none
 | k + 1, x47, x48, x49, x50, x54, x55, x60, x61, x62, x63, x64, x460 => if x460 = true then (none) else (if x50 = true then (if 0 ≤ x47 then (if (wrap64 (x48 * 2)) = (wrap64 (x49 * (wrap64 ((shl .i64 1 x47) - 1)))) then (if (wrap64 ((wrap64 (x54 * 3)) * (shl .i64 1 x47))) = (wrap64 (x55 * (wrap64 ((wrap64 ((shl .i64 1 x47) * (shl .i64 1 x47))) - 1)))) then (laws_FnStatesCounted.j7 k x60 x61 x62 x63 x64) else (none)) else (none)) else (none)) else (laws_FnStatesCounted.j7 k x60 x61 x62 x63 x64))
def laws_FnStatesCounted.j7 : Nat → ByteArray → ByteArray → Int → Int → Bool → Option (Bool)
 | 0, _, _, _, _, _ => none
 | k + 1, x60, x61, x62, x63, x64 => if x64 = true then ((impl_StatesBetween.f k x60 x61).bind fun bt387 => (if bt387.2 = true then (laws_FnStatesCounted.l2 k x62 x63 bt387.1 0 bt387.1 (bt387.1.length : Int) 0) else (some true))) else (some true)
def laws_FnStatesCounted.l2 : Nat → Int → Int → List ByteArray → Int → List ByteArray → Int → Int → Option (Bool)
 | 0, _, _, _, _, _, _, _ => none
 | k + 1, x62, x63, x69, x71, x492, x493, x494 => if x494 < x493 then (if 0 ≤ x494 then (if x494 < (x492.length : Int) then ((impl_CountOn.f (rdOf ByteArray.empty x492 x494)).bind fun bt392 => (if bt392.2 = true then (laws_FnStatesCounted.l2 k x62 x63 x69 (wrap64 (x71 + bt392.1)) x492 x493 (wrap64 (x494 + 1))) else (none))) else (none)) else (none)) else (some ((wrap64 (x71 * x63)) == (wrap64 (x62 * (x69.length : Int)))))
def laws_FnStatesCounted.l1 : Nat → List Int → Int → Int → List ByteArray → Int → ByteArray → ByteArray → Int → Int → Int → List ByteArray → Int → Int → Option (Bool)
 | 0, _, _, _, _, _, _, _, _, _, _, _, _, _ => none
 | k + 1, x1, x5, x6, x7, x11, x15, x19, x23, x39, x40, x300, x301, x302 => if x302 < x301 then (if 0 ≤ x302 then (if x302 < (x300.length : Int) then ((impl_NumberOfState.f k (rdOf ByteArray.empty x300 x302)).bind fun bt360 => ((impl_CountOn.f (rdOf ByteArray.empty x300 x302)).bind fun bt362 => (if bt360.2 = true then (if bt360.1 ≤ x40 then (none) else (if bt362.2 = true then (if bt362.1 = x6 then (if ((rdOf ByteArray.empty x300 x302).size : Int) = x5 then (laws_FnStatesCounted.l1 k x1 x5 x6 x7 x11 x15 x19 x23 (wrap64 (x39 + bt360.1)) bt360.1 x300 x301 (wrap64 (x302 + 1))) else (none)) else (none)) else (none))) else (none)))) else (none)) else (none)) else (if (x7.length : Int) = x11 then (if x39 = x23 then (if 0 < (x7.length : Int) then (if (rdOf ByteArray.empty x7 0).toList = x15.toList then (if 0 ≤ (wrap64 (x11 - 1)) then (if (wrap64 (x11 - 1)) < (x7.length : Int) then (if (rdOf ByteArray.empty x7 (wrap64 (x11 - 1))).toList = x19.toList then (laws_FnStatesCounted.j5 k x1) else (none)) else (none)) else (none)) else (none)) else (none)) else (none)) else (none))
def laws_FnStatesCounted.j1 : Nat → List Int → Int → Int → List ByteArray → Bool → Int → ByteArray → ByteArray → Int → Bool → Option (Bool)
 | 0, _, _, _, _, _, _, _, _, _, _ => none
 | k + 1, x1, x5, x6, x7, x8, x11, x15, x19, x23, x278 => if x278 = true then (none) else (laws_FnStatesCounted.l0 k x1 x5 x6 x7 x8 x11 x15 x19 x23 0 0)
def laws_FnStatesCounted.l0 : Nat → List Int → Int → Int → List ByteArray → Bool → Int → ByteArray → ByteArray → Int → Int → Int → Option (Bool)
 | 0, _, _, _, _, _, _, _, _, _, _, _ => none
 | k + 1, x1, x5, x6, x7, x8, x11, x15, x19, x23, x35, x36 => if x36 ≤ x5 then ((impl_CountWithOn.f k x5 x36).bind fun bt357 => (if bt357.2 = true then (laws_FnStatesCounted.l0 k x1 x5 x6 x7 x8 x11 x15 x19 x23 (wrap64 (x35 + bt357.1)) (wrap64 (x36 + 1))) else (none))) else (if 0 ≤ x5 then (if x35 = (shl .i64 1 x5) then (laws_FnStatesCounted.j3 k x1 x5 x6 x7 x8 x11 x15 x19 x23) else (none)) else (none))
end
def laws_FnStatesCounted.f (k : Nat) (l0 : List Int) (l1 : List Int) : Option (Bool) := (laws_big.f l0 l1).bind fun t321 => (if t321 = true then (some true) else ((spec_DrawStatesWithOn.f l0).bind fun bt322 => ((impl_StatesWithOn.f k bt322.1 bt322.2).bind fun bt324 => ((spec_StatesWithOn.f k bt322.1 bt322.2).bind fun bt328 => ((impl_CountWithOn.f k bt322.1 bt322.2).bind fun bt332 => ((spec_CountWithOn.f k bt322.1 bt322.2).bind fun bt334 => ((impl_LeastWithOn.f k bt322.1 bt322.2).bind fun bt336 => ((spec_LeastWithOn.f k bt322.1 bt322.2).bind fun bt338 => ((impl_GreatestWithOn.f k bt322.1 bt322.2).bind fun bt340 => ((spec_GreatestWithOn.f k bt322.1 bt322.2).bind fun bt342 => ((impl_SumWithOn.f k bt322.1 bt322.2).bind fun bt344 => ((spec_SumWithOn.f k bt322.1 bt322.2).bind fun bt346 => (if (bt324.2 != bt328.2) = true then (none) else ((laws_yTexts.f k bt324.1 bt328.1).bind fun t348 => (if t348 = true then (if (bt332.2 != bt334.2) = true then (none) else (if bt332.1 = bt334.1 then (if (bt336.2 != bt338.2) = true then (none) else (if bt336.1.toList = bt338.1.toList then (if (bt340.2 != bt342.2) = true then (none) else (if bt340.1.toList = bt342.1.toList then (if (bt344.2 != bt346.2) = true then (none) else (if bt344.1 = bt346.1 then (if (bt336.2 != bt332.2) = true then (none) else (if (bt340.2 != bt332.2) = true then (none) else (if (bt344.2 != bt332.2) = true then (none) else (if bt332.2 = true then (laws_FnStatesCounted.j0 k l1 bt322.1 bt322.2 bt324.1 bt324.2 bt332.1 bt332.2 bt336.1 bt340.1 bt344.1 (bt324.2 != (decide (bt332.1 ≤ 100)))) else (laws_FnStatesCounted.j0 k l1 bt322.1 bt322.2 bt324.1 bt324.2 bt332.1 bt332.2 bt336.1 bt340.1 bt344.1 (bt324.2 != false)))))) else (none))) else (none))) else (none))) else (none))) else (none))))))))))))))))
theorem laws_FnStatesCounted.mono_l : ∀ k, Mo (laws_FnStatesCounted.j0 k) (laws_FnStatesCounted.j0 (k + 1)) ∧ Mo (laws_FnStatesCounted.j3 k) (laws_FnStatesCounted.j3 (k + 1)) ∧ Mo (laws_FnStatesCounted.j5 k) (laws_FnStatesCounted.j5 (k + 1)) ∧ Mo (laws_FnStatesCounted.j6 k) (laws_FnStatesCounted.j6 (k + 1)) ∧ Mo (laws_FnStatesCounted.j7 k) (laws_FnStatesCounted.j7 (k + 1)) ∧ Mo (laws_FnStatesCounted.l2 k) (laws_FnStatesCounted.l2 (k + 1)) ∧ Mo (laws_FnStatesCounted.l1 k) (laws_FnStatesCounted.l1 (k + 1)) ∧ Mo (laws_FnStatesCounted.j1 k) (laws_FnStatesCounted.j1 (k + 1)) ∧ Mo (laws_FnStatesCounted.l0 k) (laws_FnStatesCounted.l0 (k + 1))
 | 0 => m0
 | k + 1 => by
  have ⟨ih0, ih1, ih2, ih3, ih4, ih5, ih6, ih7, ih8⟩ := laws_FnStatesCounted.mono_l k
  refine ⟨?_, ?_, ?_, ?_, ?_, ?_, ?_, ?_, ?_⟩ <;> (repeat refine mE fun _ => ?_) <;> first | (unfold laws_FnStatesCounted.j0; exact mG) | (unfold laws_FnStatesCounted.j3; exact mG) | (unfold laws_FnStatesCounted.j5; exact mG) | (unfold laws_FnStatesCounted.j6; exact mG) | (unfold laws_FnStatesCounted.j7; exact mG) | (unfold laws_FnStatesCounted.l2; exact mG) | (unfold laws_FnStatesCounted.l1; exact mG) | (unfold laws_FnStatesCounted.j1; exact mG) | (unfold laws_FnStatesCounted.l0; exact mG)
instance laws_FnStatesCounted.mI (k : Nat) : Mo (laws_FnStatesCounted.f k) (laws_FnStatesCounted.f (k + 1)) := by
 have ⟨ih0, ih1, ih2, ih3, ih4, ih5, ih6, ih7, ih8⟩ := laws_FnStatesCounted.mono_l k
 (repeat refine mE fun _ => ?_); unfold laws_FnStatesCounted.f; exact mG
theorem laws_FnStatesCounted.mono : ∀ a0 a1 k, LeO (laws_FnStatesCounted.f k a0 a1) (laws_FnStatesCounted.f (k + 1) a0 a1) := fun a0 a1 k => (laws_FnStatesCounted.mI k).out a0 a1
end Go.Proofs.YtcogjabdddikjaaDoor.PSCnt
