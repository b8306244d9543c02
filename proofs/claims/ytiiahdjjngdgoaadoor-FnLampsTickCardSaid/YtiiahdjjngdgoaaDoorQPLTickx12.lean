-- squeezed (sq3.py); PRINTED by drive.py (a program of this session's, over the kit's print.py; wip/tools/drive.py). Lean checks it.
import Derived.Test.YtiiahdjjngdgoaaDoorQPLTickx0
import Derived.Test.YtiiahdjjngdgoaaDoorQSq
namespace Go.Proofs.YtiiahdjjngdgoaaDoor.PLTick
open Go.RowKit Go.Proofs.YtiiahdjjngdgoaaDoorW.PrintWords Go.Proofs.YtiiahdjjngdgoaaDoorW.PrintLast Go.Proofs.YtiiahdjjngdgoaaDoorW.PrintMore
attribute [local go_sem] max2_int min2_int max_two min_two max_three min_three max_four min_four   -- for this text's walks alone
set_option linter.unusedVariables false
set_option linter.unusedSimpArgs false

/-! ### laws_xText: function 26 -/
def laws_xText.l0 : Nat → ByteArray → List ByteArray → Int → Int → Option (Bool)
 | 0, _, _, _, _ => none
 | k + 1, x1, x7, x8, x9 => if x9 < x8 then (if 0 ≤ x9 then (if x9 < (x7.length : Int) then (if (rdOf ByteArray.empty x7 x9).toList = x1.toList then (some true) else (laws_xText.l0 k x1 x7 x8 (wrap64 (x9 + 1)))) else (none)) else (none)) else (some false)
def laws_xText.f (k : Nat) (l0 : List ByteArray) (a1 : ByteArray) : Option (Bool) := laws_xText.l0 k a1 l0 (l0.length : Int) 0
theorem laws_xText.mono_l : ∀ k, Mo (laws_xText.l0 k) (laws_xText.l0 (k + 1))
 | 0 => m0
 | k + 1 => by
  have ih0 := laws_xText.mono_l k
  (repeat refine mE fun _ => ?_) <;> first | (unfold laws_xText.l0; exact mG)
instance laws_xText.mI (k : Nat) : Mo (laws_xText.f k) (laws_xText.f (k + 1)) := by
 have ih0 := laws_xText.mono_l k
 (repeat refine mE fun _ => ?_); unfold laws_xText.f; exact mG
theorem laws_xText.mono : ∀ a0 a1 k, LeO (laws_xText.f k a0 a1) (laws_xText.f (k + 1) a0 a1) := fun a0 a1 k => (laws_xText.mI k).out a0 a1
set_option maxHeartbeats 8000000 in
set_option maxRecDepth 100000 in
theorem laws_xText.calls (k : Nat) (A0 : Option Addr) (c0 : Nat) (l0 : List ByteArray) (a1 : ByteArray) (r : Bool) (w : World) (hr0 : Kd.C Kd.string w A0 l0.length l0) (hc0 : l0.length ≤ c0) (h : laws_xText.f k l0 a1 = some r) :
  Calls Tryd.prog 26 #[.slice A0 l0.length c0, .string a1] w fun e w' => e = .returned (.bool r) ∧ Drawn0 w w' := by
 have HR0 := aM hr0
 have HC0 := aM hc0
 clear hr0 hc0
 have H := h
 clear h; unfold laws_xText.f at H
 have H' := aM H
 clear H
 go_enter Tryd.func26, Tryd.ntmps26
 go_wp2
 go_loopg [9] k (fun kq v9 w' => ∃ (x9_1 : Int), v9 = .int .i64 x9_1 ∧ Aside0 (laws_xText.l0 kq a1 l0 (l0.length : Int) x9_1 = some r) ∧ Aside0 (kq ≤ k) ∧ Drawn0 w w')
 case atStart => exact ⟨(0), rF, H', kR, d0⟩
 case round =>
  clear H'
  obtain ⟨x9_1, rfl, HA, HK1, ⟨m1, rfl⟩⟩ := hrel
  obtain rfl | ⟨k1, rfl⟩ := fz gk
  ·exact zA HA
  have H := HA.out
  clear HA
  simp only [laws_xText.l0] at H
  refine iI H ?_ ?_ <;> clear H <;> intro c3 H
  ·have c3b0 := dT c3
   clear c3
   refine iY H ?_; clear H; intro c4 H
   have c4b0 := dT c4
   clear c4
   refine iY H ?_; clear H; intro c5 H
   have c5b0 := dT c5
   clear c5
   refine iI H ?_ ?_ <;> clear H <;> intro c6 H
   ·have c6b0 := qT c6
    have c6b1 := nF c6
    clear c6
    obtain rfl := Option.some.inj H
    have p401 : 0 ≤ (x9_1 : Int) := oD
    have q401 : x9_1 < (l0.length : Int) := oD
    obtain ⟨ad401, e401, hx401_0⟩ := Kd.at_string HR0.out x9_1 p401 q401
    cases e401
    replace p401 := eq_true p401
    replace q401 := eq_true q401
    go_wp2
    go_ret
    exact ⟨rF, d0⟩
   have c6b0 := qF c6
   have c6b1 := nT c6
   have H' := aM H
   clear H
   have p401 : 0 ≤ (x9_1 : Int) := oD
   have q401 : x9_1 < (l0.length : Int) := oD
   obtain ⟨ad401, e401, hx401_0⟩ := Kd.at_string HR0.out x9_1 p401 q401
   cases e401
   replace p401 := eq_true p401
   replace q401 := eq_true q401
   go_wp2
   go_roundg k1
   case measure => have := HK1.out; omega
   case rel => exact ⟨(wrap64 (x9_1 + 1)), rF, H', ⟨by have := HK1.out; omega⟩, d0⟩
  have c3b0 := dF c3
  clear c3
  obtain rfl := Option.some.inj H
  go_wp2
  go_ret
  exact ⟨rF, d0⟩

end Go.Proofs.YtiiahdjjngdgoaaDoor.PLTick
