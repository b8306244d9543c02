-- squeezed; PRINTED by drive.py (a program of this session's, over the kit's print.py; wip/tools/drive.py). Lean checks it.
import Derived.Test.YtifdgebdkhdmhaaDoorQPWCountx0
import Derived.Test.YtifdgebdkhdmhaaDoorQPWCountx1
import Derived.Test.YtifdgebdkhdmhaaDoorQPWCountx2
import Derived.Test.YtifdgebdkhdmhaaDoorQPWCountx3
import Derived.Test.YtifdgebdkhdmhaaDoorQPWCountx4
import Derived.Test.YtifdgebdkhdmhaaDoorQPWCountx5
import Derived.Test.YtifdgebdkhdmhaaDoorQPWCountx6
import Derived.Test.YtifdgebdkhdmhaaDoorQUp
namespace Go.Proofs.YtifdgebdkhdmhaaDoor.PWCount
open Go.RowKit Go.Proofs.YtifdgebdkhdmhaaDoorW.PrintWords Go.Proofs.YtifdgebdkhdmhaaDoorW.PrintLast Go.Proofs.YtifdgebdkhdmhaaDoorW.PrintMore
attribute [local go_sem] max2_int min2_int max_two min_two max_three min_three max_four min_four   -- for this text's walks alone
set_option linter.unusedVariables false
set_option linter.unusedSimpArgs false

set_option maxHeartbeats 8000000 in
set_option maxRecDepth 100000 in
theorem laws_FnStatesCountedOfAll.calls (k : Nat) (a0 : Int) (a1 : Int) (a2 : Int) (a3 : ByteArray) (a4 : ByteArray) (r : Bool) (w : World) (h : laws_FnStatesCountedOfAll.f k a0 a1 a2 a3 a4 = some r) :
  Calls Tryd.prog 7 #[.int .i64 a0, .int .i64 a1, .int .i64 a2, .string a3, .string a4] w fun e w' => e = .returned (.bool r) ∧ Below w.heap.size w w' := by
 have HB := aM (Below.refl w.heap.size w)
 have H : (if (a3.size : Int) > 1048576 then (laws_FnStatesCountedOfAll.j0 k a0 a1 a2 a3 a4 true) else (laws_FnStatesCountedOfAll.j0 k a0 a1 a2 a3 a4 (decide ((a4.size : Int) > 1048576)))) = some r := h
 clear h
 have HC6 := aM H
 clear H
 go_enter Tryd.func7, Tryd.ntmps7
 go_upto_region 1 with (fail)
 go_cut [84] from 77 to 84 (fun v84 wc => ∃ (kq : Nat) (x84_5 : Bool), v84 = .bool x84_5 ∧ Aside0 (laws_FnStatesCountedOfAll.j0 kq a0 a1 a2 a3 a4 x84_5 = some r) ∧ Aside0 (kq ≤ k) ∧ Aside0 (Below w.heap.size w wc))
 case first => as_aux_lemma =>
  have H := HC6.out
  clear HC6
  by_cases c7 : (a3.size : Int) > 1048576
  ·rw [if_pos c7] at H
   have c7b0 : decide (1048576 < (a3.size : Int)) = true := decide_eq_true c7
   have c7b1 : decide (1048576 < a3.size) = true := decide_eq_true (by omega)
   clear c7
   (first | rw [c7b0] | (simp only [i64_w, i32_w]; rw [c7b0]) | skip)
   have H' := aM H
   clear H
   go_wp2
   go_meet
   case rel => exact ⟨_, (true), (by first | rfl | (simp; done) | (simp [*]; done)), H', ⟨by first | omega | exact Nat.le_refl _⟩, ⟨by repeat (first | (with_reducible first | exact HB.out | apply aL | apply dN | apply dR) | exact HB.out)⟩⟩
  ·rw [if_neg c7] at H
   have c7b0 : decide (1048576 < (a3.size : Int)) = false := decide_eq_false c7
   have c7b1 : decide (1048576 < a3.size) = false := decide_eq_false (by omega)
   clear c7
   (first | rw [c7b0] | (simp only [i64_w, i32_w]; rw [c7b0]) | skip)
   have H' := aM H
   clear H
   go_wp2
   go_meet
   case rel => exact ⟨_, (decide ((a4.size : Int) > 1048576)), (by first | rfl | (simp; done) | (simp [*]; done)), H', ⟨by first | omega | exact Nat.le_refl _⟩, ⟨by repeat (first | (with_reducible first | exact HB.out | apply aL | apply dN | apply dR) | exact HB.out)⟩⟩
 case rest => as_aux_lemma =>
  clear HC6
  try clear p2;try clear c7;try clear c7b0;try clear c7b1
  obtain ⟨kq, x84_5, rfl, HA, HJ5, HB⟩ := hcut
  cases kq with
  | zero => exact absurd HA.out (by simp [laws_FnStatesCountedOfAll.j0])
  | succ kj5 =>
   have H := HA.out
   clear HA
   simp only [laws_FnStatesCountedOfAll.j0] at H
   by_cases c8 : x84_5 = true
   ·subst c8
    have H1 : (some true) = some r := by rw [if_pos rfl] at H; exact H
    clear H
    have H := H1
    clear H1
    obtain rfl := Option.some.inj H
    go_wp2
    go_ret
    exact ⟨by first | rfl | (simp [errW_none, errW_some] <;> rfl) | (simp [*, errW_none, errW_some] <;> rfl), by repeat (first | (with_reducible first | exact HB.out | apply aL | apply dN | apply dR) | exact HB.out)⟩
   ·replace c8 := Bool.eq_false_iff.mpr c8
    subst c8
    have H1 : ((impl_StatesWithOn.f kj5 a0 a1).bind fun bt238 => ((spec_StatesWithOn.f kj5 a0 a1).bind fun bt242 => ((impl_CountWithOn.f kj5 a0 a1).bind fun bt246 => ((spec_CountWithOn.f kj5 a0 a1).bind fun bt248 => ((impl_LeastWithOn.f kj5 a0 a1).bind fun bt250 => ((spec_LeastWithOn.f kj5 a0 a1).bind fun bt252 => ((impl_GreatestWithOn.f kj5 a0 a1).bind fun bt254 => ((spec_GreatestWithOn.f kj5 a0 a1).bind fun bt256 => ((impl_SumWithOn.f kj5 a0 a1).bind fun bt258 => ((spec_SumWithOn.f kj5 a0 a1).bind fun bt260 => (if (bt238.2 != bt242.2) = true then (none) else ((laws_yTexts.f kj5 bt238.1 bt242.1).bind fun t262 => (if t262 = true then (if (bt246.2 != bt248.2) = true then (none) else (if bt246.1 = bt248.1 then (if (bt250.2 != bt252.2) = true then (none) else (if bt250.1.toList = bt252.1.toList then (if (bt254.2 != bt256.2) = true then (none) else (if bt254.1.toList = bt256.1.toList then (if (bt258.2 != bt260.2) = true then (none) else (if bt258.1 = bt260.1 then (if (bt250.2 != bt246.2) = true then (none) else (if (bt254.2 != bt246.2) = true then (none) else (if (bt258.2 != bt246.2) = true then (none) else (if bt246.2 = true then (laws_FnStatesCountedOfAll.j1 kj5 a0 a1 a2 a3 a4 bt238.1 bt238.2 bt246.1 bt246.2 bt250.1 bt254.1 bt258.1 (bt238.2 != (decide (bt246.1 ≤ 100)))) else (laws_FnStatesCountedOfAll.j1 kj5 a0 a1 a2 a3 a4 bt238.1 bt238.2 bt246.1 bt246.2 bt250.1 bt254.1 bt258.1 (bt238.2 != false)))))) else (none))) else (none))) else (none))) else (none))) else (none)))))))))))))) = some r := by rw [if_neg (show ¬ (false = true) by decide)] at H; exact H
    clear H
    have H := H1
    clear H1
    replace H := Option.bind_eq_some_iff.mp H
    obtain ⟨⟨t238, t239⟩, A90, H⟩ := H
    replace H : ((spec_StatesWithOn.f kj5 a0 a1).bind fun bt242 => ((impl_CountWithOn.f kj5 a0 a1).bind fun bt246 => ((spec_CountWithOn.f kj5 a0 a1).bind fun bt248 => ((impl_LeastWithOn.f kj5 a0 a1).bind fun bt250 => ((spec_LeastWithOn.f kj5 a0 a1).bind fun bt252 => ((impl_GreatestWithOn.f kj5 a0 a1).bind fun bt254 => ((spec_GreatestWithOn.f kj5 a0 a1).bind fun bt256 => ((impl_SumWithOn.f kj5 a0 a1).bind fun bt258 => ((spec_SumWithOn.f kj5 a0 a1).bind fun bt260 => (if (t239 != bt242.2) = true then (none) else ((laws_yTexts.f kj5 t238 bt242.1).bind fun t262 => (if t262 = true then (if (bt246.2 != bt248.2) = true then (none) else (if bt246.1 = bt248.1 then (if (bt250.2 != bt252.2) = true then (none) else (if bt250.1.toList = bt252.1.toList then (if (bt254.2 != bt256.2) = true then (none) else (if bt254.1.toList = bt256.1.toList then (if (bt258.2 != bt260.2) = true then (none) else (if bt258.1 = bt260.1 then (if (bt250.2 != bt246.2) = true then (none) else (if (bt254.2 != bt246.2) = true then (none) else (if (bt258.2 != bt246.2) = true then (none) else (if bt246.2 = true then (laws_FnStatesCountedOfAll.j1 kj5 a0 a1 a2 a3 a4 t238 t239 bt246.1 bt246.2 bt250.1 bt254.1 bt258.1 (t239 != (decide (bt246.1 ≤ 100)))) else (laws_FnStatesCountedOfAll.j1 kj5 a0 a1 a2 a3 a4 t238 t239 bt246.1 bt246.2 bt250.1 bt254.1 bt258.1 (t239 != false)))))) else (none))) else (none))) else (none))) else (none))) else (none))))))))))))) = some r := H
    have A9 := aM A90
    clear A90
    replace H := Option.bind_eq_some_iff.mp H
    obtain ⟨⟨t242, t243⟩, A100, H⟩ := H
    replace H : ((impl_CountWithOn.f kj5 a0 a1).bind fun bt246 => ((spec_CountWithOn.f kj5 a0 a1).bind fun bt248 => ((impl_LeastWithOn.f kj5 a0 a1).bind fun bt250 => ((spec_LeastWithOn.f kj5 a0 a1).bind fun bt252 => ((impl_GreatestWithOn.f kj5 a0 a1).bind fun bt254 => ((spec_GreatestWithOn.f kj5 a0 a1).bind fun bt256 => ((impl_SumWithOn.f kj5 a0 a1).bind fun bt258 => ((spec_SumWithOn.f kj5 a0 a1).bind fun bt260 => (if (t239 != t243) = true then (none) else ((laws_yTexts.f kj5 t238 t242).bind fun t262 => (if t262 = true then (if (bt246.2 != bt248.2) = true then (none) else (if bt246.1 = bt248.1 then (if (bt250.2 != bt252.2) = true then (none) else (if bt250.1.toList = bt252.1.toList then (if (bt254.2 != bt256.2) = true then (none) else (if bt254.1.toList = bt256.1.toList then (if (bt258.2 != bt260.2) = true then (none) else (if bt258.1 = bt260.1 then (if (bt250.2 != bt246.2) = true then (none) else (if (bt254.2 != bt246.2) = true then (none) else (if (bt258.2 != bt246.2) = true then (none) else (if bt246.2 = true then (laws_FnStatesCountedOfAll.j1 kj5 a0 a1 a2 a3 a4 t238 t239 bt246.1 bt246.2 bt250.1 bt254.1 bt258.1 (t239 != (decide (bt246.1 ≤ 100)))) else (laws_FnStatesCountedOfAll.j1 kj5 a0 a1 a2 a3 a4 t238 t239 bt246.1 bt246.2 bt250.1 bt254.1 bt258.1 (t239 != false)))))) else (none))) else (none))) else (none))) else (none))) else (none)))))))))))) = some r := H
    have A10 := aM A100
    clear A100
    replace H := Option.bind_eq_some_iff.mp H
    obtain ⟨⟨t246, t247⟩, A110, H⟩ := H
    replace H : ((spec_CountWithOn.f kj5 a0 a1).bind fun bt248 => ((impl_LeastWithOn.f kj5 a0 a1).bind fun bt250 => ((spec_LeastWithOn.f kj5 a0 a1).bind fun bt252 => ((impl_GreatestWithOn.f kj5 a0 a1).bind fun bt254 => ((spec_GreatestWithOn.f kj5 a0 a1).bind fun bt256 => ((impl_SumWithOn.f kj5 a0 a1).bind fun bt258 => ((spec_SumWithOn.f kj5 a0 a1).bind fun bt260 => (if (t239 != t243) = true then (none) else ((laws_yTexts.f kj5 t238 t242).bind fun t262 => (if t262 = true then (if (t247 != bt248.2) = true then (none) else (if t246 = bt248.1 then (if (bt250.2 != bt252.2) = true then (none) else (if bt250.1.toList = bt252.1.toList then (if (bt254.2 != bt256.2) = true then (none) else (if bt254.1.toList = bt256.1.toList then (if (bt258.2 != bt260.2) = true then (none) else (if bt258.1 = bt260.1 then (if (bt250.2 != t247) = true then (none) else (if (bt254.2 != t247) = true then (none) else (if (bt258.2 != t247) = true then (none) else (if t247 = true then (laws_FnStatesCountedOfAll.j1 kj5 a0 a1 a2 a3 a4 t238 t239 t246 t247 bt250.1 bt254.1 bt258.1 (t239 != (decide (t246 ≤ 100)))) else (laws_FnStatesCountedOfAll.j1 kj5 a0 a1 a2 a3 a4 t238 t239 t246 t247 bt250.1 bt254.1 bt258.1 (t239 != false)))))) else (none))) else (none))) else (none))) else (none))) else (none))))))))))) = some r := H
    have A11 := aM A110
    clear A110
    replace H := Option.bind_eq_some_iff.mp H
    obtain ⟨⟨t248, t249⟩, A120, H⟩ := H
    replace H : ((impl_LeastWithOn.f kj5 a0 a1).bind fun bt250 => ((spec_LeastWithOn.f kj5 a0 a1).bind fun bt252 => ((impl_GreatestWithOn.f kj5 a0 a1).bind fun bt254 => ((spec_GreatestWithOn.f kj5 a0 a1).bind fun bt256 => ((impl_SumWithOn.f kj5 a0 a1).bind fun bt258 => ((spec_SumWithOn.f kj5 a0 a1).bind fun bt260 => (if (t239 != t243) = true then (none) else ((laws_yTexts.f kj5 t238 t242).bind fun t262 => (if t262 = true then (if (t247 != t249) = true then (none) else (if t246 = t248 then (if (bt250.2 != bt252.2) = true then (none) else (if bt250.1.toList = bt252.1.toList then (if (bt254.2 != bt256.2) = true then (none) else (if bt254.1.toList = bt256.1.toList then (if (bt258.2 != bt260.2) = true then (none) else (if bt258.1 = bt260.1 then (if (bt250.2 != t247) = true then (none) else (if (bt254.2 != t247) = true then (none) else (if (bt258.2 != t247) = true then (none) else (if t247 = true then (laws_FnStatesCountedOfAll.j1 kj5 a0 a1 a2 a3 a4 t238 t239 t246 t247 bt250.1 bt254.1 bt258.1 (t239 != (decide (t246 ≤ 100)))) else (laws_FnStatesCountedOfAll.j1 kj5 a0 a1 a2 a3 a4 t238 t239 t246 t247 bt250.1 bt254.1 bt258.1 (t239 != false)))))) else (none))) else (none))) else (none))) else (none))) else (none)))))))))) = some r := H
    have A12 := aM A120
    clear A120
    replace H := Option.bind_eq_some_iff.mp H
    obtain ⟨⟨t250, t251⟩, A130, H⟩ := H
    replace H : ((spec_LeastWithOn.f kj5 a0 a1).bind fun bt252 => ((impl_GreatestWithOn.f kj5 a0 a1).bind fun bt254 => ((spec_GreatestWithOn.f kj5 a0 a1).bind fun bt256 => ((impl_SumWithOn.f kj5 a0 a1).bind fun bt258 => ((spec_SumWithOn.f kj5 a0 a1).bind fun bt260 => (if (t239 != t243) = true then (none) else ((laws_yTexts.f kj5 t238 t242).bind fun t262 => (if t262 = true then (if (t247 != t249) = true then (none) else (if t246 = t248 then (if (t251 != bt252.2) = true then (none) else (if t250.toList = bt252.1.toList then (if (bt254.2 != bt256.2) = true then (none) else (if bt254.1.toList = bt256.1.toList then (if (bt258.2 != bt260.2) = true then (none) else (if bt258.1 = bt260.1 then (if (t251 != t247) = true then (none) else (if (bt254.2 != t247) = true then (none) else (if (bt258.2 != t247) = true then (none) else (if t247 = true then (laws_FnStatesCountedOfAll.j1 kj5 a0 a1 a2 a3 a4 t238 t239 t246 t247 t250 bt254.1 bt258.1 (t239 != (decide (t246 ≤ 100)))) else (laws_FnStatesCountedOfAll.j1 kj5 a0 a1 a2 a3 a4 t238 t239 t246 t247 t250 bt254.1 bt258.1 (t239 != false)))))) else (none))) else (none))) else (none))) else (none))) else (none))))))))) = some r := H
    have A13 := aM A130
    clear A130
    replace H := Option.bind_eq_some_iff.mp H
    obtain ⟨⟨t252, t253⟩, A140, H⟩ := H
    replace H : ((impl_GreatestWithOn.f kj5 a0 a1).bind fun bt254 => ((spec_GreatestWithOn.f kj5 a0 a1).bind fun bt256 => ((impl_SumWithOn.f kj5 a0 a1).bind fun bt258 => ((spec_SumWithOn.f kj5 a0 a1).bind fun bt260 => (if (t239 != t243) = true then (none) else ((laws_yTexts.f kj5 t238 t242).bind fun t262 => (if t262 = true then (if (t247 != t249) = true then (none) else (if t246 = t248 then (if (t251 != t253) = true then (none) else (if t250.toList = t252.toList then (if (bt254.2 != bt256.2) = true then (none) else (if bt254.1.toList = bt256.1.toList then (if (bt258.2 != bt260.2) = true then (none) else (if bt258.1 = bt260.1 then (if (t251 != t247) = true then (none) else (if (bt254.2 != t247) = true then (none) else (if (bt258.2 != t247) = true then (none) else (if t247 = true then (laws_FnStatesCountedOfAll.j1 kj5 a0 a1 a2 a3 a4 t238 t239 t246 t247 t250 bt254.1 bt258.1 (t239 != (decide (t246 ≤ 100)))) else (laws_FnStatesCountedOfAll.j1 kj5 a0 a1 a2 a3 a4 t238 t239 t246 t247 t250 bt254.1 bt258.1 (t239 != false)))))) else (none))) else (none))) else (none))) else (none))) else (none)))))))) = some r := H
    have A14 := aM A140
    clear A140
    replace H := Option.bind_eq_some_iff.mp H
    obtain ⟨⟨t254, t255⟩, A150, H⟩ := H
    replace H : ((spec_GreatestWithOn.f kj5 a0 a1).bind fun bt256 => ((impl_SumWithOn.f kj5 a0 a1).bind fun bt258 => ((spec_SumWithOn.f kj5 a0 a1).bind fun bt260 => (if (t239 != t243) = true then (none) else ((laws_yTexts.f kj5 t238 t242).bind fun t262 => (if t262 = true then (if (t247 != t249) = true then (none) else (if t246 = t248 then (if (t251 != t253) = true then (none) else (if t250.toList = t252.toList then (if (t255 != bt256.2) = true then (none) else (if t254.toList = bt256.1.toList then (if (bt258.2 != bt260.2) = true then (none) else (if bt258.1 = bt260.1 then (if (t251 != t247) = true then (none) else (if (t255 != t247) = true then (none) else (if (bt258.2 != t247) = true then (none) else (if t247 = true then (laws_FnStatesCountedOfAll.j1 kj5 a0 a1 a2 a3 a4 t238 t239 t246 t247 t250 t254 bt258.1 (t239 != (decide (t246 ≤ 100)))) else (laws_FnStatesCountedOfAll.j1 kj5 a0 a1 a2 a3 a4 t238 t239 t246 t247 t250 t254 bt258.1 (t239 != false)))))) else (none))) else (none))) else (none))) else (none))) else (none))))))) = some r := H
    have A15 := aM A150
    clear A150
    replace H := Option.bind_eq_some_iff.mp H
    obtain ⟨⟨t256, t257⟩, A160, H⟩ := H
    replace H : ((impl_SumWithOn.f kj5 a0 a1).bind fun bt258 => ((spec_SumWithOn.f kj5 a0 a1).bind fun bt260 => (if (t239 != t243) = true then (none) else ((laws_yTexts.f kj5 t238 t242).bind fun t262 => (if t262 = true then (if (t247 != t249) = true then (none) else (if t246 = t248 then (if (t251 != t253) = true then (none) else (if t250.toList = t252.toList then (if (t255 != t257) = true then (none) else (if t254.toList = t256.toList then (if (bt258.2 != bt260.2) = true then (none) else (if bt258.1 = bt260.1 then (if (t251 != t247) = true then (none) else (if (t255 != t247) = true then (none) else (if (bt258.2 != t247) = true then (none) else (if t247 = true then (laws_FnStatesCountedOfAll.j1 kj5 a0 a1 a2 a3 a4 t238 t239 t246 t247 t250 t254 bt258.1 (t239 != (decide (t246 ≤ 100)))) else (laws_FnStatesCountedOfAll.j1 kj5 a0 a1 a2 a3 a4 t238 t239 t246 t247 t250 t254 bt258.1 (t239 != false)))))) else (none))) else (none))) else (none))) else (none))) else (none)))))) = some r := H
    have A16 := aM A160
    clear A160
    replace H := Option.bind_eq_some_iff.mp H
    obtain ⟨⟨t258, t259⟩, A170, H⟩ := H
    replace H : ((spec_SumWithOn.f kj5 a0 a1).bind fun bt260 => (if (t239 != t243) = true then (none) else ((laws_yTexts.f kj5 t238 t242).bind fun t262 => (if t262 = true then (if (t247 != t249) = true then (none) else (if t246 = t248 then (if (t251 != t253) = true then (none) else (if t250.toList = t252.toList then (if (t255 != t257) = true then (none) else (if t254.toList = t256.toList then (if (t259 != bt260.2) = true then (none) else (if t258 = bt260.1 then (if (t251 != t247) = true then (none) else (if (t255 != t247) = true then (none) else (if (t259 != t247) = true then (none) else (if t247 = true then (laws_FnStatesCountedOfAll.j1 kj5 a0 a1 a2 a3 a4 t238 t239 t246 t247 t250 t254 t258 (t239 != (decide (t246 ≤ 100)))) else (laws_FnStatesCountedOfAll.j1 kj5 a0 a1 a2 a3 a4 t238 t239 t246 t247 t250 t254 t258 (t239 != false)))))) else (none))) else (none))) else (none))) else (none))) else (none))))) = some r := H
    have A17 := aM A170
    clear A170
    replace H := Option.bind_eq_some_iff.mp H
    obtain ⟨⟨t260, t261⟩, A180, H⟩ := H
    replace H : (if (t239 != t243) = true then (none) else ((laws_yTexts.f kj5 t238 t242).bind fun t262 => (if t262 = true then (if (t247 != t249) = true then (none) else (if t246 = t248 then (if (t251 != t253) = true then (none) else (if t250.toList = t252.toList then (if (t255 != t257) = true then (none) else (if t254.toList = t256.toList then (if (t259 != t261) = true then (none) else (if t258 = t260 then (if (t251 != t247) = true then (none) else (if (t255 != t247) = true then (none) else (if (t259 != t247) = true then (none) else (if t247 = true then (laws_FnStatesCountedOfAll.j1 kj5 a0 a1 a2 a3 a4 t238 t239 t246 t247 t250 t254 t258 (t239 != (decide (t246 ≤ 100)))) else (laws_FnStatesCountedOfAll.j1 kj5 a0 a1 a2 a3 a4 t238 t239 t246 t247 t250 t254 t258 (t239 != false)))))) else (none))) else (none))) else (none))) else (none))) else (none)))) = some r := H
    have A18 := aM A180
    clear A180
    have HC19 := aM H
    clear H
    go_upto_region 13 with (first | ((with_reducible refine gate_callee (f := 58) rfl ?_); refine goesL_ (some 88) rfl rfl Tryd.func58 (by kernel_rfl) rfl #[.int .i64 a0, .int .i64 a1] rfl (by (try simp only [List.map_toArray, List.map_cons, List.map_nil]); first | done | rfl | (simp only [List.length_drop, List.length_take]; rfl)) ?_; (with_reducible refine (impl_StatesWithOn.calls kj5 a0 a1 t238 t239 _ A9.out).mono ?_); rintro e w20 ⟨v240, rfl, ho0, hb⟩; refine ⟨_, rfl, ?_⟩; have n0_ := aM (Kd.R_lower ho0 (below_size (by repeat (first | (with_reducible first | exact HB.out | apply aL | apply dN | apply dR) | exact HB.out)))); have n1_ := aM (below_step (by repeat (first | (with_reducible first | exact HB.out | apply aL | apply dN | apply dR) | exact HB.out)) hb); clear HB; have HO241 := n0_; have HB := n1_; clear n0_ n1_; (try clear hb); (try clear hb2); (try clear hk); (try clear hi); (try clear ho0)) | ((with_reducible refine gate_callee (f := 59) rfl ?_); refine goesL_ (some 94) rfl rfl Tryd.func59 (by kernel_rfl) rfl #[.int .i64 a0, .int .i64 a1] rfl (by (try simp only [List.map_toArray, List.map_cons, List.map_nil]); first | done | rfl | (simp only [List.length_drop, List.length_take]; rfl)) ?_; (with_reducible refine (spec_StatesWithOn.calls kj5 a0 a1 t242 t243 _ A10.out).mono ?_); rintro e w21 ⟨v244, rfl, ho0, hb⟩; refine ⟨_, rfl, ?_⟩; have n0_ := aM (Kd.R_elder' (rU HO241.out) (Kd.R_base ho0) hb); have n1_ := aM (Kd.R_lower (Kd.R_new' ho0 (Kd.R_lt (rU HO241.out))) (below_size (by repeat (first | (with_reducible first | exact HB.out | apply aL | apply dN | apply dR) | exact HB.out)))); have n2_ := aM (below_step (by repeat (first | (with_reducible first | exact HB.out | apply aL | apply dN | apply dR) | exact HB.out)) hb); clear HO241; clear HB; have HO241 := n0_; have HO245 := n1_; have HB := n2_; clear n0_ n1_ n2_; (try clear hb); (try clear hb2); (try clear hk); (try clear hi); (try clear ho0)) | ((with_reducible refine gate_callee (f := 60) rfl ?_); refine goesL_ (some 100) rfl rfl Tryd.func60 (by kernel_rfl) rfl #[.int .i64 a0, .int .i64 a1] rfl (by (try simp only [List.map_toArray, List.map_cons, List.map_nil]); first | done | rfl | (simp only [List.length_drop, List.length_take]; rfl)) ?_; (with_reducible refine (impl_CountWithOn.calls kj5 a0 a1 t246 t247 _ A11.out).mono ?_); rintro e w' ⟨rfl, ⟨nd, rfl⟩⟩; refine ⟨_, rfl, ?_⟩) | ((with_reducible refine gate_callee (f := 61) rfl ?_); refine goesL_ (some 106) rfl rfl Tryd.func61 (by kernel_rfl) rfl #[.int .i64 a0, .int .i64 a1] rfl (by (try simp only [List.map_toArray, List.map_cons, List.map_nil]); first | done | rfl | (simp only [List.length_drop, List.length_take]; rfl)) ?_; (with_reducible refine (spec_CountWithOn.calls kj5 a0 a1 t248 t249 _ A12.out).mono ?_); rintro e w22 ⟨rfl, hb⟩; refine ⟨_, rfl, ?_⟩; have n0_ := aM (Kd.R_below (rU HO241.out) hb); have n1_ := aM (Kd.R_below (rU HO245.out) hb); have n2_ := aM (below_step (by repeat (first | (with_reducible first | exact HB.out | apply aL | apply dN | apply dR) | exact HB.out)) hb); clear HO241; clear HO245; clear HB; have HO241 := n0_; have HO245 := n1_; have HB := n2_; clear n0_ n1_ n2_; (try clear hb); (try clear hb2); (try clear hk); (try clear hi)) | ((with_reducible refine gate_callee (f := 62) rfl ?_); refine goesL_ (some 112) rfl rfl Tryd.func62 (by kernel_rfl) rfl #[.int .i64 a0, .int .i64 a1] rfl (by (try simp only [List.map_toArray, List.map_cons, List.map_nil]); first | done | rfl | (simp only [List.length_drop, List.length_take]; rfl)) ?_; (with_reducible refine (impl_LeastWithOn.calls kj5 a0 a1 t250 t251 _ A13.out).mono ?_); rintro e w23 ⟨rfl, hb⟩; refine ⟨_, rfl, ?_⟩; have n0_ := aM (Kd.R_below (rU HO241.out) hb); have n1_ := aM (Kd.R_below (rU HO245.out) hb); have n2_ := aM (below_step (by repeat (first | (with_reducible first | exact HB.out | apply aL | apply dN | apply dR) | exact HB.out)) hb); clear HO241; clear HO245; clear HB; have HO241 := n0_; have HO245 := n1_; have HB := n2_; clear n0_ n1_ n2_; (try clear hb); (try clear hb2); (try clear hk); (try clear hi)) | ((with_reducible refine gate_callee (f := 63) rfl ?_); refine goesL_ (some 118) rfl rfl Tryd.func63 (by kernel_rfl) rfl #[.int .i64 a0, .int .i64 a1] rfl (by (try simp only [List.map_toArray, List.map_cons, List.map_nil]); first | done | rfl | (simp only [List.length_drop, List.length_take]; rfl)) ?_; (with_reducible refine (spec_LeastWithOn.calls kj5 a0 a1 t252 t253 _ A14.out).mono ?_); rintro e w24 ⟨rfl, hb⟩; refine ⟨_, rfl, ?_⟩; have n0_ := aM (Kd.R_below (rU HO241.out) hb); have n1_ := aM (Kd.R_below (rU HO245.out) hb); have n2_ := aM (below_step (by repeat (first | (with_reducible first | exact HB.out | apply aL | apply dN | apply dR) | exact HB.out)) hb); clear HO241; clear HO245; clear HB; have HO241 := n0_; have HO245 := n1_; have HB := n2_; clear n0_ n1_ n2_; (try clear hb); (try clear hb2); (try clear hk); (try clear hi)) | ((with_reducible refine gate_callee (f := 64) rfl ?_); refine goesL_ (some 124) rfl rfl Tryd.func64 (by kernel_rfl) rfl #[.int .i64 a0, .int .i64 a1] rfl (by (try simp only [List.map_toArray, List.map_cons, List.map_nil]); first | done | rfl | (simp only [List.length_drop, List.length_take]; rfl)) ?_; (with_reducible refine (impl_GreatestWithOn.calls kj5 a0 a1 t254 t255 _ A15.out).mono ?_); rintro e w25 ⟨rfl, hb⟩; refine ⟨_, rfl, ?_⟩; have n0_ := aM (Kd.R_below (rU HO241.out) hb); have n1_ := aM (Kd.R_below (rU HO245.out) hb); have n2_ := aM (below_step (by repeat (first | (with_reducible first | exact HB.out | apply aL | apply dN | apply dR) | exact HB.out)) hb); clear HO241; clear HO245; clear HB; have HO241 := n0_; have HO245 := n1_; have HB := n2_; clear n0_ n1_ n2_; (try clear hb); (try clear hb2); (try clear hk); (try clear hi)) | ((with_reducible refine gate_callee (f := 65) rfl ?_); refine goesL_ (some 130) rfl rfl Tryd.func65 (by kernel_rfl) rfl #[.int .i64 a0, .int .i64 a1] rfl (by (try simp only [List.map_toArray, List.map_cons, List.map_nil]); first | done | rfl | (simp only [List.length_drop, List.length_take]; rfl)) ?_; (with_reducible refine (spec_GreatestWithOn.calls kj5 a0 a1 t256 t257 _ A16.out).mono ?_); rintro e w26 ⟨rfl, hb⟩; refine ⟨_, rfl, ?_⟩; have n0_ := aM (Kd.R_below (rU HO241.out) hb); have n1_ := aM (Kd.R_below (rU HO245.out) hb); have n2_ := aM (below_step (by repeat (first | (with_reducible first | exact HB.out | apply aL | apply dN | apply dR) | exact HB.out)) hb); clear HO241; clear HO245; clear HB; have HO241 := n0_; have HO245 := n1_; have HB := n2_; clear n0_ n1_ n2_; (try clear hb); (try clear hb2); (try clear hk); (try clear hi)) | ((with_reducible refine gate_callee (f := 66) rfl ?_); refine goesL_ (some 136) rfl rfl Tryd.func66 (by kernel_rfl) rfl #[.int .i64 a0, .int .i64 a1] rfl (by (try simp only [List.map_toArray, List.map_cons, List.map_nil]); first | done | rfl | (simp only [List.length_drop, List.length_take]; rfl)) ?_; (with_reducible refine (impl_SumWithOn.calls kj5 a0 a1 t258 t259 _ A17.out).mono ?_); rintro e w27 ⟨rfl, hb⟩; refine ⟨_, rfl, ?_⟩; have n0_ := aM (Kd.R_below (rU HO241.out) hb); have n1_ := aM (Kd.R_below (rU HO245.out) hb); have n2_ := aM (below_step (by repeat (first | (with_reducible first | exact HB.out | apply aL | apply dN | apply dR) | exact HB.out)) hb); clear HO241; clear HO245; clear HB; have HO241 := n0_; have HO245 := n1_; have HB := n2_; clear n0_ n1_ n2_; (try clear hb); (try clear hb2); (try clear hk); (try clear hi)) | ((with_reducible refine gate_callee (f := 67) rfl ?_); refine goesL_ (some 142) rfl rfl Tryd.func67 (by kernel_rfl) rfl #[.int .i64 a0, .int .i64 a1] rfl (by (try simp only [List.map_toArray, List.map_cons, List.map_nil]); first | done | rfl | (simp only [List.length_drop, List.length_take]; rfl)) ?_; (with_reducible refine (spec_SumWithOn.calls kj5 a0 a1 t260 t261 _ A18.out).mono ?_); rintro e w28 ⟨rfl, hb⟩; refine ⟨_, rfl, ?_⟩; have n0_ := aM (Kd.R_below (rU HO241.out) hb); have n1_ := aM (Kd.R_below (rU HO245.out) hb); have n2_ := aM (below_step (by repeat (first | (with_reducible first | exact HB.out | apply aL | apply dN | apply dR) | exact HB.out)) hb); clear HO241; clear HO245; clear HB; have HO241 := n0_; have HO245 := n1_; have HB := n2_; clear n0_ n1_ n2_; (try clear hb); (try clear hb2); (try clear hk); (try clear hi)))
    (try simp only [Act.put, List.setIfInBounds_toArray, List.set_cons_zero, List.set_cons_succ])
    go_cut [217] from 85 to 217 (fun v217 wc => ∃ (kq : Nat) (x217_18 : Bool), v217 = .bool x217_18 ∧ Aside0 (laws_FnStatesCountedOfAll.j1 kq a0 a1 a2 a3 a4 t238 t239 t246 t247 t250 t254 t258 x217_18 = some r) ∧ Aside0 (kq ≤ kj5) ∧ Aside0 (Kd.R Kd.string 9 wc w.heap.size (fun _ => True) v240 t238) ∧ Aside0 (Below w.heap.size w wc))
    case first => as_aux_lemma =>
     have H := HC19.out
     clear HC19
     by_cases c29 : (t239 != t243) = true
     ·rw [if_pos c29] at H
      exact absurd H (by simp)
     ·rw [if_neg c29] at H
      have c29b0 : (t239 != t243) = false := by simpa using c29
      (try (have c29b1 : decide (t239 = t243) = true := by simpa using c29))
      (try (have c29b2 : (t239 == t243) = true := by simpa using c29))
      clear c29
      (first | rw [c29b0] | (simp only [i64_w, i32_w]; rw [c29b0]) | skip)
      replace H := Option.bind_eq_some_iff.mp H
      obtain ⟨t262, A300, H⟩ := H
      replace H : (if t262 = true then (if (t247 != t249) = true then (none) else (if t246 = t248 then (if (t251 != t253) = true then (none) else (if t250.toList = t252.toList then (if (t255 != t257) = true then (none) else (if t254.toList = t256.toList then (if (t259 != t261) = true then (none) else (if t258 = t260 then (if (t251 != t247) = true then (none) else (if (t255 != t247) = true then (none) else (if (t259 != t247) = true then (none) else (if t247 = true then (laws_FnStatesCountedOfAll.j1 kj5 a0 a1 a2 a3 a4 t238 t239 t246 t247 t250 t254 t258 (t239 != (decide (t246 ≤ 100)))) else (laws_FnStatesCountedOfAll.j1 kj5 a0 a1 a2 a3 a4 t238 t239 t246 t247 t250 t254 t258 (t239 != false)))))) else (none))) else (none))) else (none))) else (none))) else (none)) = some r := H
      have A30 := aM A300
      clear A300
      by_cases c31 : t262 = true
      ·subst c31
       have H1 : (if (t247 != t249) = true then (none) else (if t246 = t248 then (if (t251 != t253) = true then (none) else (if t250.toList = t252.toList then (if (t255 != t257) = true then (none) else (if t254.toList = t256.toList then (if (t259 != t261) = true then (none) else (if t258 = t260 then (if (t251 != t247) = true then (none) else (if (t255 != t247) = true then (none) else (if (t259 != t247) = true then (none) else (if t247 = true then (laws_FnStatesCountedOfAll.j1 kj5 a0 a1 a2 a3 a4 t238 t239 t246 t247 t250 t254 t258 (t239 != (decide (t246 ≤ 100)))) else (laws_FnStatesCountedOfAll.j1 kj5 a0 a1 a2 a3 a4 t238 t239 t246 t247 t250 t254 t258 (t239 != false)))))) else (none))) else (none))) else (none))) else (none))) = some r := by rw [if_pos rfl] at H; exact H
       clear H
       have H := H1
       clear H1
       by_cases c32 : (t247 != t249) = true
       ·rw [if_pos c32] at H
        exact absurd H (by simp)
       ·rw [if_neg c32] at H
        have c32b0 : (t247 != t249) = false := by simpa using c32
        (try (have c32b1 : decide (t247 = t249) = true := by simpa using c32))
        (try (have c32b2 : (t247 == t249) = true := by simpa using c32))
        clear c32
        by_cases c33 : t246 = t248
        ·rw [if_pos c33] at H
         have c33b0 : (t246 == t248) = true := beq_iff_eq.mpr c33
         have c33b1 : (t246 != t248) = false := bne_eq_false_iff_eq.mpr c33
         clear c33
         by_cases c34 : (t251 != t253) = true
         ·rw [if_pos c34] at H
          exact absurd H (by simp)
         ·rw [if_neg c34] at H
          have c34b0 : (t251 != t253) = false := by simpa using c34
          (try (have c34b1 : decide (t251 = t253) = true := by simpa using c34))
          (try (have c34b2 : (t251 == t253) = true := by simpa using c34))
          clear c34
          by_cases c35 : t250.toList = t252.toList
          ·rw [if_pos c35] at H
           have c35b0 : (t250.toList == t252.toList) = true := beq_iff_eq.mpr c35
           have c35b1 : (t250.toList != t252.toList) = false := bne_eq_false_iff_eq.mpr c35
           clear c35
           by_cases c36 : (t255 != t257) = true
           ·rw [if_pos c36] at H
            exact absurd H (by simp)
           ·rw [if_neg c36] at H
            have c36b0 : (t255 != t257) = false := by simpa using c36
            (try (have c36b1 : decide (t255 = t257) = true := by simpa using c36))
            (try (have c36b2 : (t255 == t257) = true := by simpa using c36))
            clear c36
            by_cases c37 : t254.toList = t256.toList
            ·rw [if_pos c37] at H
             have c37b0 : (t254.toList == t256.toList) = true := beq_iff_eq.mpr c37
             have c37b1 : (t254.toList != t256.toList) = false := bne_eq_false_iff_eq.mpr c37
             clear c37
             by_cases c38 : (t259 != t261) = true
             ·rw [if_pos c38] at H
              exact absurd H (by simp)
             ·rw [if_neg c38] at H
              have c38b0 : (t259 != t261) = false := by simpa using c38
              (try (have c38b1 : decide (t259 = t261) = true := by simpa using c38))
              (try (have c38b2 : (t259 == t261) = true := by simpa using c38))
              clear c38
              by_cases c39 : t258 = t260
              ·rw [if_pos c39] at H
               have c39b0 : (t258 == t260) = true := beq_iff_eq.mpr c39
               have c39b1 : (t258 != t260) = false := bne_eq_false_iff_eq.mpr c39
               clear c39
               by_cases c40 : (t251 != t247) = true
               ·rw [if_pos c40] at H
                exact absurd H (by simp)
               ·rw [if_neg c40] at H
                have c40b0 : (t251 != t247) = false := by simpa using c40
                (try (have c40b1 : decide (t251 = t247) = true := by simpa using c40))
                (try (have c40b2 : (t251 == t247) = true := by simpa using c40))
                clear c40
                by_cases c41 : (t255 != t247) = true
                ·rw [if_pos c41] at H
                 exact absurd H (by simp)
                ·rw [if_neg c41] at H
                 have c41b0 : (t255 != t247) = false := by simpa using c41
                 (try (have c41b1 : decide (t255 = t247) = true := by simpa using c41))
                 (try (have c41b2 : (t255 == t247) = true := by simpa using c41))
                 clear c41
                 by_cases c42 : (t259 != t247) = true
                 ·rw [if_pos c42] at H
                  exact absurd H (by simp)
                 ·rw [if_neg c42] at H
                  have c42b0 : (t259 != t247) = false := by simpa using c42
                  (try (have c42b1 : decide (t259 = t247) = true := by simpa using c42))
                  (try (have c42b2 : (t259 == t247) = true := by simpa using c42))
                  clear c42
                  by_cases c43 : t247 = true
                  ·subst c43
                   have H1 : (laws_FnStatesCountedOfAll.j1 kj5 a0 a1 a2 a3 a4 t238 t239 t246 true t250 t254 t258 (t239 != (decide (t246 ≤ 100)))) = some r := by rw [if_pos rfl] at H; exact H
                   clear H
                   have H := H1
                   clear H1
                   have H' := aM H
                   clear H
                   obtain ⟨Ao44, co44, eo44⟩ := Kd.R_slice HO241.out
                   subst eo44
                   obtain ⟨Ao45, co45, eo45⟩ := Kd.R_slice HO245.out
                   subst eo45
                   go_wp2_with (first | (go_at_call 57; (with_reducible refine (laws_yTexts.calls kj5 _ _ t238 _ _ t242 true _ ?side1 ?side2 ?side3 ?side4 A30.out).mono ?_); (case side1 => exact cU (Kd.R_reads' HO241.out).2.2); (case side2 => exact (Kd.R_reads' HO241.out).2.1); (case side3 => exact cU (Kd.R_reads' HO245.out).2.2); (case side4 => exact (Kd.R_reads' HO245.out).2.1); rintro e w' ⟨rfl, ⟨nd, rfl⟩⟩))
                   go_meet
                   case rel => exact ⟨_, ((t239 != (decide (t246 ≤ 100)))), (by first | rfl | (simp; done) | (simp [*]; done)), H', ⟨by have := HJ5.out; first | omega | exact Nat.le_refl _⟩, ⟨by (with_reducible repeat (first | apply Kd.R_alloc | apply Kd.R_drewN | apply Kd.R_drew)); exact Kd.R_mono HO241.out (fun _ hk => trivial)⟩, ⟨by repeat (first | (with_reducible first | exact HB.out | apply aL | apply dN | apply dR) | exact HB.out)⟩⟩
                  ·replace c43 := Bool.eq_false_iff.mpr c43
                   subst c43
                   have H1 : (laws_FnStatesCountedOfAll.j1 kj5 a0 a1 a2 a3 a4 t238 t239 t246 false t250 t254 t258 (t239 != false)) = some r := by rw [if_neg (show ¬ (false = true) by decide)] at H; exact H
                   clear H
                   have H := H1
                   clear H1
                   have H' := aM H
                   clear H
                   obtain ⟨Ao46, co46, eo46⟩ := Kd.R_slice HO241.out
                   subst eo46
                   obtain ⟨Ao47, co47, eo47⟩ := Kd.R_slice HO245.out
                   subst eo47
                   go_wp2_with (first | (go_at_call 57; (with_reducible refine (laws_yTexts.calls kj5 _ _ t238 _ _ t242 true _ ?side1 ?side2 ?side3 ?side4 A30.out).mono ?_); (case side1 => exact cU (Kd.R_reads' HO241.out).2.2); (case side2 => exact (Kd.R_reads' HO241.out).2.1); (case side3 => exact cU (Kd.R_reads' HO245.out).2.2); (case side4 => exact (Kd.R_reads' HO245.out).2.1); rintro e w' ⟨rfl, ⟨nd, rfl⟩⟩))
                   go_meet
                   case rel => exact ⟨_, ((t239 != false)), (by first | rfl | (simp; done) | (simp [*]; done)), H', ⟨by have := HJ5.out; first | omega | exact Nat.le_refl _⟩, ⟨by (with_reducible repeat (first | apply Kd.R_alloc | apply Kd.R_drewN | apply Kd.R_drew)); exact Kd.R_mono HO241.out (fun _ hk => trivial)⟩, ⟨by repeat (first | (with_reducible first | exact HB.out | apply aL | apply dN | apply dR) | exact HB.out)⟩⟩
              ·rw [if_neg c39] at H
               exact absurd H (by simp)
            ·rw [if_neg c37] at H
             exact absurd H (by simp)
          ·rw [if_neg c35] at H
           exact absurd H (by simp)
        ·rw [if_neg c33] at H
         exact absurd H (by simp)
      ·replace c31 := Bool.eq_false_iff.mpr c31
       subst c31
       have H1 : (none) = some r := by rw [if_neg (show ¬ (false = true) by decide)] at H; exact H
       clear H
       have H := H1
       clear H1
       exact absurd H (by simp)
    case rest => as_aux_lemma =>
     clear HC19
     try clear c2;try clear p2;try clear c3;try clear c4;try clear c5;try clear c6;try clear c7;try clear c7b0;try clear c7b1;try clear c8;try clear c29;try clear c29b0;try clear c29b1;try clear c29b2;try clear c31;try clear c32;try clear c32b0;try clear c32b1;try clear c32b2;try clear c33;try clear c33b0;try clear c33b1;try clear c34;try clear c34b0;try clear c34b1;try clear c34b2;try clear c35;try clear c35b0;try clear c35b1;try clear c36;try clear c36b0;try clear c36b1;try clear c36b2;try clear c37;try clear c37b0;try clear c37b1;try clear c38;try clear c38b0;try clear c38b1;try clear c38b2;try clear c39;try clear c39b0;try clear c39b1;try clear c40;try clear c40b0;try clear c40b1;try clear c40b2;try clear c41;try clear c41b0;try clear c41b1;try clear c41b2;try clear c42;try clear c42b0;try clear c42b1;try clear c42b2;try clear c43;try clear p2
     obtain ⟨kq, x217_18, rfl, HA, HJ18, HO_11, HB⟩ := hcut
     cases kq with
     | zero => exact absurd HA.out (by simp [laws_FnStatesCountedOfAll.j1])
     | succ kj18 =>
      have H := HA.out
      clear HA
      simp only [laws_FnStatesCountedOfAll.j1] at H
      by_cases c48 : x217_18 = true
      ·subst c48
       have H1 : (none) = some r := by rw [if_pos rfl] at H; exact H
       clear H
       have H := H1
       clear H1
       exact absurd H (by simp)
      ·replace c48 := Bool.eq_false_iff.mpr c48
       subst c48
       have H1 : (if t247 = true then ((impl_NumberOfState.f kj18 t250).bind fun bt263 => ((impl_NumberOfState.f kj18 t254).bind fun bt265 => ((impl_CountOn.f t250).bind fun bt267 => ((impl_CountOn.f t254).bind fun bt269 => (if bt263.2 = true then (if bt265.2 = true then (if bt263.1 > bt265.1 then (none) else (if bt267.2 = true then (if bt267.1 = a1 then (if bt269.2 = true then (if bt269.1 = a1 then (if t246 < 1 then (none) else (laws_FnStatesCountedOfAll.j2 kj18 a0 a1 a2 a3 a4 t238 t239 t246 t250 t254 t258 ((bt263.1 == bt265.1) != (t246 == 1)))) else (none)) else (none)) else (none)) else (none))) else (none)) else (none)))))) else (laws_FnStatesCountedOfAll.j4 kj18 a0 a1 a2 a3 a4 t238 t239 t246 t250 t254 t258)) = some r := by rw [if_neg (show ¬ (false = true) by decide)] at H; exact H
       clear H
       have H := H1
       clear H1
       have HC49 := aM H
       clear H
       go_upto_if 218 with (fail)
       go_cut [] from 218 to 218 (fun wc => ∃ (kq : Nat), Aside0 (laws_FnStatesCountedOfAll.j4 kq a0 a1 a2 a3 a4 t238 t239 t246 t250 t254 t258 = some r) ∧ Aside0 (kq ≤ kj18) ∧ Aside0 (Kd.R Kd.string 9 wc w.heap.size (fun _ => True) v240 t238) ∧ Aside0 (Below w.heap.size w wc))
       case first => as_aux_lemma =>
        have H := HC49.out
        clear HC49
        by_cases c50 : t247 = true
        ·subst c50
         have H1 : ((impl_NumberOfState.f kj18 t250).bind fun bt263 => ((impl_NumberOfState.f kj18 t254).bind fun bt265 => ((impl_CountOn.f t250).bind fun bt267 => ((impl_CountOn.f t254).bind fun bt269 => (if bt263.2 = true then (if bt265.2 = true then (if bt263.1 > bt265.1 then (none) else (if bt267.2 = true then (if bt267.1 = a1 then (if bt269.2 = true then (if bt269.1 = a1 then (if t246 < 1 then (none) else (laws_FnStatesCountedOfAll.j2 kj18 a0 a1 a2 a3 a4 t238 t239 t246 t250 t254 t258 ((bt263.1 == bt265.1) != (t246 == 1)))) else (none)) else (none)) else (none)) else (none))) else (none)) else (none)))))) = some r := by rw [if_pos rfl] at H; exact H
         clear H
         have H := H1
         clear H1
         replace H := Option.bind_eq_some_iff.mp H
         obtain ⟨⟨t263, t264⟩, A510, H⟩ := H
         replace H : ((impl_NumberOfState.f kj18 t254).bind fun bt265 => ((impl_CountOn.f t250).bind fun bt267 => ((impl_CountOn.f t254).bind fun bt269 => (if t264 = true then (if bt265.2 = true then (if t263 > bt265.1 then (none) else (if bt267.2 = true then (if bt267.1 = a1 then (if bt269.2 = true then (if bt269.1 = a1 then (if t246 < 1 then (none) else (laws_FnStatesCountedOfAll.j2 kj18 a0 a1 a2 a3 a4 t238 t239 t246 t250 t254 t258 ((t263 == bt265.1) != (t246 == 1)))) else (none)) else (none)) else (none)) else (none))) else (none)) else (none))))) = some r := H
         have A51 := aM A510
         clear A510
         replace H := Option.bind_eq_some_iff.mp H
         obtain ⟨⟨t265, t266⟩, A520, H⟩ := H
         replace H : ((impl_CountOn.f t250).bind fun bt267 => ((impl_CountOn.f t254).bind fun bt269 => (if t264 = true then (if t266 = true then (if t263 > t265 then (none) else (if bt267.2 = true then (if bt267.1 = a1 then (if bt269.2 = true then (if bt269.1 = a1 then (if t246 < 1 then (none) else (laws_FnStatesCountedOfAll.j2 kj18 a0 a1 a2 a3 a4 t238 t239 t246 t250 t254 t258 ((t263 == t265) != (t246 == 1)))) else (none)) else (none)) else (none)) else (none))) else (none)) else (none)))) = some r := H
         have A52 := aM A520
         clear A520
         replace H := Option.bind_eq_some_iff.mp H
         obtain ⟨⟨t267, t268⟩, A530, H⟩ := H
         replace H : ((impl_CountOn.f t254).bind fun bt269 => (if t264 = true then (if t266 = true then (if t263 > t265 then (none) else (if t268 = true then (if t267 = a1 then (if bt269.2 = true then (if bt269.1 = a1 then (if t246 < 1 then (none) else (laws_FnStatesCountedOfAll.j2 kj18 a0 a1 a2 a3 a4 t238 t239 t246 t250 t254 t258 ((t263 == t265) != (t246 == 1)))) else (none)) else (none)) else (none)) else (none))) else (none)) else (none))) = some r := H
         have A53 := aM A530
         clear A530
         replace H := Option.bind_eq_some_iff.mp H
         obtain ⟨⟨t269, t270⟩, A540, H⟩ := H
         replace H : (if t264 = true then (if t266 = true then (if t263 > t265 then (none) else (if t268 = true then (if t267 = a1 then (if t270 = true then (if t269 = a1 then (if t246 < 1 then (none) else (laws_FnStatesCountedOfAll.j2 kj18 a0 a1 a2 a3 a4 t238 t239 t246 t250 t254 t258 ((t263 == t265) != (t246 == 1)))) else (none)) else (none)) else (none)) else (none))) else (none)) else (none)) = some r := H
         have A54 := aM A540
         clear A540
         have HC55 := aM H
         clear H
         go_upto_region 20 with (first | ((with_reducible refine gate_callee (f := 68) rfl ?_); refine goesL_ (some 221) rfl rfl Tryd.func68 (by kernel_rfl) rfl #[.string t250] rfl (by (try simp only [List.map_toArray, List.map_cons, List.map_nil]); first | done | rfl | (simp only [List.length_drop, List.length_take]; rfl)) ?_; (with_reducible refine (impl_NumberOfState.calls kj18 t250 t263 t264 _ A51.out).mono ?_); rintro e w56 ⟨rfl, hb⟩; refine ⟨_, rfl, ?_⟩; have n0_ := aM (Kd.R_below (rU HO_11.out) hb); have n1_ := aM (below_step (by repeat (first | (with_reducible first | exact HB.out | apply aL | apply dN | apply dR) | exact HB.out)) hb); clear HO_11; clear HB; have HO_11 := n0_; have HB := n1_; clear n0_ n1_; (try clear hb); (try clear hb2); (try clear hk); (try clear hi)) | ((with_reducible refine gate_callee (f := 68) rfl ?_); refine goesL_ (some 226) rfl rfl Tryd.func68 (by kernel_rfl) rfl #[.string t254] rfl (by (try simp only [List.map_toArray, List.map_cons, List.map_nil]); first | done | rfl | (simp only [List.length_drop, List.length_take]; rfl)) ?_; (with_reducible refine (impl_NumberOfState.calls kj18 t254 t265 t266 _ A52.out).mono ?_); rintro e w57 ⟨rfl, hb⟩; refine ⟨_, rfl, ?_⟩; have n0_ := aM (Kd.R_below (rU HO_11.out) hb); have n1_ := aM (below_step (by repeat (first | (with_reducible first | exact HB.out | apply aL | apply dN | apply dR) | exact HB.out)) hb); clear HO_11; clear HB; have HO_11 := n0_; have HB := n1_; clear n0_ n1_; (try clear hb); (try clear hb2); (try clear hk); (try clear hi)) | ((with_reducible refine gate_callee (f := 69) rfl ?_); refine goesL_ (some 231) rfl rfl Tryd.func69 (by kernel_rfl) rfl #[.string t250] rfl (by (try simp only [List.map_toArray, List.map_cons, List.map_nil]); first | done | rfl | (simp only [List.length_drop, List.length_take]; rfl)) ?_; (with_reducible refine (impl_CountOn.calls t250 t267 t268 _ A53.out).mono ?_); rintro e w58 ⟨rfl, hb⟩; refine ⟨_, rfl, ?_⟩; have n0_ := aM (Kd.R_below (rU HO_11.out) hb); have n1_ := aM (below_step (by repeat (first | (with_reducible first | exact HB.out | apply aL | apply dN | apply dR) | exact HB.out)) hb); clear HO_11; clear HB; have HO_11 := n0_; have HB := n1_; clear n0_ n1_; (try clear hb); (try clear hb2); (try clear hk); (try clear hi)) | ((with_reducible refine gate_callee (f := 69) rfl ?_); refine goesL_ (some 236) rfl rfl Tryd.func69 (by kernel_rfl) rfl #[.string t254] rfl (by (try simp only [List.map_toArray, List.map_cons, List.map_nil]); first | done | rfl | (simp only [List.length_drop, List.length_take]; rfl)) ?_; (with_reducible refine (impl_CountOn.calls t254 t269 t270 _ A54.out).mono ?_); rintro e w59 ⟨rfl, hb⟩; refine ⟨_, rfl, ?_⟩; have n0_ := aM (Kd.R_below (rU HO_11.out) hb); have n1_ := aM (below_step (by repeat (first | (with_reducible first | exact HB.out | apply aL | apply dN | apply dR) | exact HB.out)) hb); clear HO_11; clear HB; have HO_11 := n0_; have HB := n1_; clear n0_ n1_; (try clear hb); (try clear hb2); (try clear hk); (try clear hi)))
         (try simp only [Act.put, List.setIfInBounds_toArray, List.set_cons_zero, List.set_cons_succ])
         go_cut [279] from 219 to 279 (fun v279 wc => ∃ (kq : Nat) (x279_54 : Bool), v279 = .bool x279_54 ∧ Aside0 (laws_FnStatesCountedOfAll.j2 kq a0 a1 a2 a3 a4 t238 t239 t246 t250 t254 t258 x279_54 = some r) ∧ Aside0 (kq ≤ kj18) ∧ Aside0 (Kd.R Kd.string 9 wc w.heap.size (fun _ => True) v240 t238) ∧ Aside0 (Below w.heap.size w wc))
         case first => as_aux_lemma =>
          have H := HC55.out
          clear HC55
          by_cases c60 : t264 = true
          ·subst c60
           have H1 : (if t266 = true then (if t263 > t265 then (none) else (if t268 = true then (if t267 = a1 then (if t270 = true then (if t269 = a1 then (if t246 < 1 then (none) else (laws_FnStatesCountedOfAll.j2 kj18 a0 a1 a2 a3 a4 t238 t239 t246 t250 t254 t258 ((t263 == t265) != (t246 == 1)))) else (none)) else (none)) else (none)) else (none))) else (none)) = some r := by rw [if_pos rfl] at H; exact H
           clear H
           have H := H1
           clear H1
           by_cases c61 : t266 = true
           ·subst c61
            have H1 : (if t263 > t265 then (none) else (if t268 = true then (if t267 = a1 then (if t270 = true then (if t269 = a1 then (if t246 < 1 then (none) else (laws_FnStatesCountedOfAll.j2 kj18 a0 a1 a2 a3 a4 t238 t239 t246 t250 t254 t258 ((t263 == t265) != (t246 == 1)))) else (none)) else (none)) else (none)) else (none))) = some r := by rw [if_pos rfl] at H; exact H
            clear H
            have H := H1
            clear H1
            by_cases c62 : t263 > t265
            ·rw [if_pos c62] at H
             exact absurd H (by simp)
            ·rw [if_neg c62] at H
             have c62b0 : decide (t265 < t263) = false := decide_eq_false c62
             clear c62
             (first | rw [c62b0] | (simp only [i64_w, i32_w]; rw [c62b0]) | skip)
             by_cases c63 : t268 = true
             ·subst c63
              have H1 : (if t267 = a1 then (if t270 = true then (if t269 = a1 then (if t246 < 1 then (none) else (laws_FnStatesCountedOfAll.j2 kj18 a0 a1 a2 a3 a4 t238 t239 t246 t250 t254 t258 ((t263 == t265) != (t246 == 1)))) else (none)) else (none)) else (none)) = some r := by rw [if_pos rfl] at H; exact H
              clear H
              have H := H1
              clear H1
              by_cases c64 : t267 = a1
              ·rw [if_pos c64] at H
               have c64b0 : (t267 == a1) = true := beq_iff_eq.mpr c64
               have c64b1 : (t267 != a1) = false := bne_eq_false_iff_eq.mpr c64
               clear c64
               by_cases c65 : t270 = true
               ·subst c65
                have H1 : (if t269 = a1 then (if t246 < 1 then (none) else (laws_FnStatesCountedOfAll.j2 kj18 a0 a1 a2 a3 a4 t238 t239 t246 t250 t254 t258 ((t263 == t265) != (t246 == 1)))) else (none)) = some r := by rw [if_pos rfl] at H; exact H
                clear H
                have H := H1
                clear H1
                by_cases c66 : t269 = a1
                ·rw [if_pos c66] at H
                 have c66b0 : (t269 == a1) = true := beq_iff_eq.mpr c66
                 have c66b1 : (t269 != a1) = false := bne_eq_false_iff_eq.mpr c66
                 clear c66
                 by_cases c67 : t246 < 1
                 ·rw [if_pos c67] at H
                  exact absurd H (by simp)
                 ·rw [if_neg c67] at H
                  have c67b0 : decide (t246 < 1) = false := decide_eq_false c67
                  clear c67
                  have H' := aM H
                  clear H
                  go_wp2
                  go_meet
                  case rel => exact ⟨_, (((t263 == t265) != (t246 == 1))), (by first | rfl | (simp; done) | (simp [*]; done)), H', ⟨by have := HJ5.out; have := HJ18.out; first | omega | exact Nat.le_refl _⟩, ⟨by (with_reducible repeat (first | apply Kd.R_alloc | apply Kd.R_drewN | apply Kd.R_drew)); exact HO_11.out⟩, ⟨by repeat (first | (with_reducible first | exact HB.out | apply aL | apply dN | apply dR) | exact HB.out)⟩⟩
                ·rw [if_neg c66] at H
                 exact absurd H (by simp)
               ·replace c65 := Bool.eq_false_iff.mpr c65
                subst c65
                have H1 : (none) = some r := by rw [if_neg (show ¬ (false = true) by decide)] at H; exact H
                clear H
                have H := H1
                clear H1
                exact absurd H (by simp)
              ·rw [if_neg c64] at H
               exact absurd H (by simp)
             ·replace c63 := Bool.eq_false_iff.mpr c63
              subst c63
              have H1 : (none) = some r := by rw [if_neg (show ¬ (false = true) by decide)] at H; exact H
              clear H
              have H := H1
              clear H1
              exact absurd H (by simp)
           ·replace c61 := Bool.eq_false_iff.mpr c61
            subst c61
            have H1 : (none) = some r := by rw [if_neg (show ¬ (false = true) by decide)] at H; exact H
            clear H
            have H := H1
            clear H1
            exact absurd H (by simp)
          ·replace c60 := Bool.eq_false_iff.mpr c60
           subst c60
           have H1 : (none) = some r := by rw [if_neg (show ¬ (false = true) by decide)] at H; exact H
           clear H
           have H := H1
           clear H1
           exact absurd H (by simp)
         case rest => as_aux_lemma =>
          clear HC55
          try clear c2;try clear p2;try clear c3;try clear c4;try clear c5;try clear c6;try clear c7;try clear c7b0;try clear c7b1;try clear c8;try clear c29;try clear c29b0;try clear c29b1;try clear c29b2;try clear c31;try clear c32;try clear c32b0;try clear c32b1;try clear c32b2;try clear c33;try clear c33b0;try clear c33b1;try clear c34;try clear c34b0;try clear c34b1;try clear c34b2;try clear c35;try clear c35b0;try clear c35b1;try clear c36;try clear c36b0;try clear c36b1;try clear c36b2;try clear c37;try clear c37b0;try clear c37b1;try clear c38;try clear c38b0;try clear c38b1;try clear c38b2;try clear c39;try clear c39b0;try clear c39b1;try clear c40;try clear c40b0;try clear c40b1;try clear c40b2;try clear c41;try clear c41b0;try clear c41b1;try clear c41b2;try clear c42;try clear c42b0;try clear c42b1;try clear c42b2;try clear c43;try clear c48;try clear c50;try clear c58;try clear c59;try clear c60;try clear c61;try clear c62;try clear c62b0;try clear c63;try clear c64;try clear c64b0;try clear c64b1;try clear c65;try clear c66;try clear c66b0;try clear c66b1;try clear c67;try clear c67b0;try clear p2
          obtain ⟨kq, x279_54, rfl, HA, HJ54, HO_11, HB⟩ := hcut
          cases kq with
          | zero => exact absurd HA.out (by simp [laws_FnStatesCountedOfAll.j2])
          | succ kj54 =>
           have H := HA.out
           clear HA
           simp only [laws_FnStatesCountedOfAll.j2] at H
           by_cases c68 : x279_54 = true
           ·subst c68
            have H1 : (none) = some r := by rw [if_pos rfl] at H; exact H
            clear H
            have H := H1
            clear H1
            exact absurd H (by simp)
           ·replace c68 := Bool.eq_false_iff.mpr c68
            subst c68
            have H1 : (laws_FnStatesCountedOfAll.l0 kj54 a0 a1 a2 a3 a4 t238 t239 t246 t250 t254 t258 0 0) = some r := by rw [if_neg (show ¬ (false = true) by decide)] at H; exact H
            clear H
            have H := H1
            clear H1
            have H' := aM H
            clear H
            go_wp2
            go_loopg [39, 40] kj54 (fun kq v39 v40 w' => ∃ (x39_4 : Int) (x40_4 : Int), v39 = .int .i64 x39_4 ∧ v40 = .int .i64 x40_4 ∧ Aside0 (laws_FnStatesCountedOfAll.l0 kq a0 a1 a2 a3 a4 t238 t239 t246 t250 t254 t258 x39_4 x40_4 = some r) ∧ Aside0 (kq ≤ kj54) ∧ Aside0 (Kd.R Kd.string 9 w' w.heap.size (fun _ => True) v240 t238) ∧ Aside0 (Below w.heap.size w w'))
            case atStart => exact ⟨(0), (0), (by first | rfl | (simp; done) | (simp [*]; done)), (by first | rfl | (simp; done) | (simp [*]; done)), H', ⟨Nat.le_refl _⟩, ⟨by (with_reducible repeat (first | apply Kd.R_alloc | apply Kd.R_drewN | apply Kd.R_drew)); exact HO_11.out⟩, ⟨by repeat (first | (with_reducible first | exact HB.out | apply aL | apply dN | apply dR) | exact HB.out)⟩⟩
            case round => as_aux_lemma =>
             clear H'
             try clear c2;try clear p2;try clear c3;try clear c4;try clear c5;try clear c6;try clear c7;try clear c7b0;try clear c7b1;try clear c8;try clear c29;try clear c29b0;try clear c29b1;try clear c29b2;try clear c31;try clear c32;try clear c32b0;try clear c32b1;try clear c32b2;try clear c33;try clear c33b0;try clear c33b1;try clear c34;try clear c34b0;try clear c34b1;try clear c34b2;try clear c35;try clear c35b0;try clear c35b1;try clear c36;try clear c36b0;try clear c36b1;try clear c36b2;try clear c37;try clear c37b0;try clear c37b1;try clear c38;try clear c38b0;try clear c38b1;try clear c38b2;try clear c39;try clear c39b0;try clear c39b1;try clear c40;try clear c40b0;try clear c40b1;try clear c40b2;try clear c41;try clear c41b0;try clear c41b1;try clear c41b2;try clear c42;try clear c42b0;try clear c42b1;try clear c42b2;try clear c43;try clear c48;try clear c50;try clear c58;try clear c59;try clear c60;try clear c61;try clear c62;try clear c62b0;try clear c63;try clear c64;try clear c64b0;try clear c64b1;try clear c65;try clear c66;try clear c66b0;try clear c66b1;try clear c67;try clear c67b0;try clear c68;try clear p2
             obtain ⟨x39_4, x40_4, rfl, rfl, HA, HK4, HO_11, HB⟩ := hrel
             cases gk with
             | zero => exact absurd HA.out (by simp [laws_FnStatesCountedOfAll.l0])
             | succ k4 =>
              have H := HA.out
              clear HA
              simp only [laws_FnStatesCountedOfAll.l0] at H
              by_cases c69 : x40_4 ≤ a0
              ·rw [if_pos c69] at H
               have c69b0 : decide (x40_4 ≤ a0) = true := decide_eq_true c69
               clear c69
               replace H := Option.bind_eq_some_iff.mp H
               obtain ⟨⟨t271, t272⟩, A700, H⟩ := H
               replace H : (if t272 = true then (laws_FnStatesCountedOfAll.l0 k4 a0 a1 a2 a3 a4 t238 t239 t246 t250 t254 t258 (wrap64 (x39_4 + t271)) (wrap64 (x40_4 + 1))) else (none)) = some r := H
               have A70 := aM A700
               clear A700
               by_cases c71 : t272 = true
               ·subst c71
                have H1 : (laws_FnStatesCountedOfAll.l0 k4 a0 a1 a2 a3 a4 t238 t239 t246 t250 t254 t258 (wrap64 (x39_4 + t271)) (wrap64 (x40_4 + 1))) = some r := by rw [if_pos rfl] at H; exact H
                clear H
                have H := H1
                clear H1
                have H' := aM H
                clear H
                go_wp2_with (first | ((with_reducible refine gate_callee (f := 60) rfl ?_); refine goesL_ (some 288) rfl rfl Tryd.func60 (by kernel_rfl) rfl #[.int .i64 a0, .int .i64 x40_4] rfl (by (try simp only [List.map_toArray, List.map_cons, List.map_nil]); first | done | rfl | (simp only [List.length_drop, List.length_take]; rfl)) ?_; (with_reducible refine (impl_CountWithOn.calls k4 a0 x40_4 t271 true _ A70.out).mono ?_); rintro e w' ⟨rfl, ⟨nd, rfl⟩⟩; refine ⟨_, rfl, ?_⟩))
                go_roundg k4
                case measure => have := HJ5.out; have := HJ18.out; have := HJ54.out; have := HK4.out; omega
                case rel => exact ⟨(wrap64 (x39_4 + t271)), (wrap64 (x40_4 + 1)), (by first | rfl | (simp; done) | (simp [*]; done)), (by first | rfl | (simp; done) | (simp [*]; done)), H', ⟨by have := HJ5.out; have := HJ18.out; have := HJ54.out; have := HK4.out; omega⟩, ⟨by (with_reducible repeat (first | apply Kd.R_alloc | apply Kd.R_drewN | apply Kd.R_drew)); exact HO_11.out⟩, ⟨by repeat (first | (with_reducible first | exact HB.out | apply aL | apply dN | apply dR) | exact HB.out)⟩⟩
               ·replace c71 := Bool.eq_false_iff.mpr c71
                subst c71
                have H1 : (none) = some r := by rw [if_neg (show ¬ (false = true) by decide)] at H; exact H
                clear H
                have H := H1
                clear H1
                exact absurd H (by simp)
              ·rw [if_neg c69] at H
               have c69b0 : decide (x40_4 ≤ a0) = false := decide_eq_false c69
               clear c69
               by_cases c72 : 0 ≤ a0
               ·rw [if_pos c72] at H
                have c72b0 := eq_true c72
                have c72b1 : decide (0 ≤ a0) = true := decide_eq_true c72
                clear c72
                obtain ⟨ji73, hji73⟩ : ∃ j_ : Int, (shl .i64 1 a0) = j_ := ⟨_, rfl⟩
                replace H : (if x39_4 = (ji73) then (laws_FnStatesCountedOfAll.j4 k4 a0 a1 a2 a3 a4 t238 t239 t246 t250 t254 t258) else (none)) = some r := by first | (rw [hji73] at H; exact H) | (simp only [hji73] at H ⊢; exact H)
                have hji73_ : (IntKind.i64.wrap (1 * 2 ^ min a0.toNat 64)) = ji73 := hji73
                have hji73z : a0 ≤ 64 → (IntKind.i64.wrap (1 * 2 ^ a0.toNat)) = ji73 := shl_small hji73
                have hji73u : (IntKind.i64.wrap (2 ^ min a0.toNat 64)) = ji73 := by have h_ := hji73_; rw [Int.one_mul] at h_; exact h_
                have hji73v : a0 ≤ 64 → (IntKind.i64.wrap (2 ^ a0.toNat)) = ji73 := fun hle_ => by have h_ := hji73z hle_; rw [Int.one_mul] at h_; exact h_
                have hji73y : (wrap64 (1 * 2 ^ min a0.toNat 64)) = ji73 := (i64_w _).symm.trans hji73_
                have hji73x : a0 ≤ 64 → (wrap64 (1 * 2 ^ a0.toNat)) = ji73 := fun h_ => (i64_w _).symm.trans (hji73z h_)
                by_cases c74 : x39_4 = (ji73)
                ·rw [if_pos c74] at H
                 have c74b0 : (x39_4 == (ji73)) = true := beq_iff_eq.mpr c74
                 have c74b1 : (x39_4 != (ji73)) = false := bne_eq_false_iff_eq.mpr c74
                 clear c74
                 have H' := aM H
                 clear H
                 go_wp2
                 go_meet
                 case rel => exact ⟨_, H', ⟨by have := HJ5.out; have := HJ18.out; have := HJ54.out; have := HK4.out; first | omega | exact Nat.le_refl _⟩, ⟨by (with_reducible repeat (first | apply Kd.R_alloc | apply Kd.R_drewN | apply Kd.R_drew)); exact HO_11.out⟩, ⟨by repeat (first | (with_reducible first | exact HB.out | apply aL | apply dN | apply dR) | exact HB.out)⟩⟩
                ·rw [if_neg c74] at H
                 exact absurd H (by simp)
               ·rw [if_neg c72] at H
                exact absurd H (by simp)
        ·replace c50 := Bool.eq_false_iff.mpr c50
         subst c50
         have H1 : (laws_FnStatesCountedOfAll.j4 kj18 a0 a1 a2 a3 a4 t238 t239 t246 t250 t254 t258) = some r := by rw [if_neg (show ¬ (false = true) by decide)] at H; exact H
         clear H
         have H := H1
         clear H1
         have H' := aM H
         clear H
         go_wp2
         go_meet
         case rel => exact ⟨_, H', ⟨by have := HJ5.out; have := HJ18.out; first | omega | exact Nat.le_refl _⟩, ⟨by (with_reducible repeat (first | apply Kd.R_alloc | apply Kd.R_drewN | apply Kd.R_drew)); exact HO_11.out⟩, ⟨by repeat (first | (with_reducible first | exact HB.out | apply aL | apply dN | apply dR) | exact HB.out)⟩⟩
       case rest => as_aux_lemma =>
        clear HC49
        try clear c2;try clear p2;try clear c3;try clear c4;try clear c5;try clear c6;try clear p6;try clear c7;try clear c7b0;try clear c7b1;try clear c8;try clear c29;try clear c29b0;try clear c29b1;try clear c29b2;try clear c31;try clear c32;try clear c32b0;try clear c32b1;try clear c32b2;try clear c33;try clear c33b0;try clear c33b1;try clear c34;try clear c34b0;try clear c34b1;try clear c34b2;try clear c35;try clear c35b0;try clear c35b1;try clear c36;try clear c36b0;try clear c36b1;try clear c36b2;try clear c37;try clear c37b0;try clear c37b1;try clear c38;try clear c38b0;try clear c38b1;try clear c38b2;try clear c39;try clear c39b0;try clear c39b1;try clear c40;try clear c40b0;try clear c40b1;try clear c40b2;try clear c41;try clear c41b0;try clear c41b1;try clear c41b2;try clear c42;try clear c42b0;try clear c42b1;try clear c42b2;try clear c43;try clear c48;try clear c50;try clear c58;try clear c59;try clear c60;try clear c61;try clear c62;try clear c62b0;try clear c63;try clear c64;try clear c64b0;try clear c64b1;try clear p64;try clear c65;try clear c66;try clear c66b0;try clear c66b1;try clear c67;try clear c67b0;try clear c68;try clear c69;try clear c69b0;try clear c71;try clear c72;try clear c72b0;try clear c72b1;try clear c74;try clear c74b0;try clear c74b1;try clear p2
        obtain ⟨kq, HA, HJ48, HO_11, HB⟩ := hcut
        cases kq with
        | zero => exact absurd HA.out (by simp [laws_FnStatesCountedOfAll.j4])
        | succ kj48 =>
         have H := HA.out
         clear HA
         simp only [laws_FnStatesCountedOfAll.j4] at H
         have HC75 := aM H
         clear H
         go_upto_if 300 with (fail)
         go_cut [] from 300 to 300 (fun wc => ∃ (kq : Nat), Aside0 (laws_FnStatesCountedOfAll.j6 kq a2 a3 a4 = some r) ∧ Aside0 (kq ≤ kj48) ∧ Aside0 (Below w.heap.size w wc))
         case first => as_aux_lemma =>
          have H := HC75.out
          clear HC75
          by_cases c76 : t239 = true
          ·subst c76
           have H1 : (laws_FnStatesCountedOfAll.l1 kj48 a0 a1 a2 a3 a4 t238 t246 t250 t254 t258 0 (-1) t238 (t238.length : Int) 0) = some r := by rw [if_pos rfl] at H; exact H
           clear H
           have H := H1
           clear H1
           have H' := aM H
           clear H
           obtain ⟨Ao77, co77, eo77⟩ := Kd.R_slice HO_11.out
           subst eo77
           go_wp2
           go_loopg [43, 44, 303] kj48 (fun kq v43 v44 v303 w' => ∃ (x43_4 : Int) (x44_4 : Int) (x303_4 : Int), v43 = .int .i64 x43_4 ∧ v44 = .int .i64 x44_4 ∧ v303 = .int .i64 x303_4 ∧ Aside0 (laws_FnStatesCountedOfAll.l1 kq a0 a1 a2 a3 a4 t238 t246 t250 t254 t258 x43_4 x44_4 t238 (t238.length : Int) x303_4 = some r) ∧ Aside0 (kq ≤ kj48) ∧ Aside0 (Kd.R Kd.string 9 w' w.heap.size (fun _ => True) (.slice Ao77 t238.length co77) t238) ∧ Aside0 (Kd.R Kd.string 9 w' w.heap.size (fun _ => True) (.slice Ao77 t238.length co77) t238) ∧ Aside0 (Below w.heap.size w w'))
           case atStart => exact ⟨(0), ((-1)), (0), (by first | rfl | (simp; done) | (simp [*]; done)), (by first | rfl | (simp; done) | (simp [*]; done)), (by first | rfl | (simp; done) | (simp [*]; done)), H', ⟨Nat.le_refl _⟩, ⟨by (with_reducible repeat (first | apply Kd.R_alloc | apply Kd.R_drewN | apply Kd.R_drew)); exact HO_11.out⟩, ⟨by (with_reducible repeat (first | apply Kd.R_alloc | apply Kd.R_drewN | apply Kd.R_drew)); exact HO_11.out⟩, ⟨by repeat (first | (with_reducible first | exact HB.out | apply aL | apply dN | apply dR) | exact HB.out)⟩⟩
           case round => as_aux_lemma =>
            clear H'
            try clear c2;try clear p2;try clear c3;try clear c4;try clear c5;try clear c6;try clear p6;try clear c7;try clear c7b0;try clear c7b1;try clear c8;try clear c29;try clear c29b0;try clear c29b1;try clear c29b2;try clear c31;try clear c32;try clear c32b0;try clear c32b1;try clear c32b2;try clear c33;try clear c33b0;try clear c33b1;try clear c34;try clear c34b0;try clear c34b1;try clear c34b2;try clear c35;try clear c35b0;try clear c35b1;try clear c36;try clear c36b0;try clear c36b1;try clear c36b2;try clear c37;try clear c37b0;try clear c37b1;try clear c38;try clear c38b0;try clear c38b1;try clear c38b2;try clear c39;try clear c39b0;try clear c39b1;try clear c40;try clear c40b0;try clear c40b1;try clear c40b2;try clear c41;try clear c41b0;try clear c41b1;try clear c41b2;try clear c42;try clear c42b0;try clear c42b1;try clear c42b2;try clear c43;try clear c48;try clear c50;try clear c58;try clear c59;try clear c60;try clear c61;try clear c62;try clear c62b0;try clear c63;try clear c64;try clear c64b0;try clear c64b1;try clear p64;try clear c65;try clear c66;try clear c66b0;try clear c66b1;try clear c67;try clear c67b0;try clear c68;try clear c69;try clear c69b0;try clear c71;try clear c72;try clear c72b0;try clear c72b1;try clear c74;try clear c74b0;try clear c74b1;try clear c76;try clear p2;try clear p6;try clear p64
            obtain ⟨x43_4, x44_4, x303_4, rfl, rfl, rfl, HA, HK4, HO_11, HO_301, HB⟩ := hrel
            cases gk with
            | zero => exact absurd HA.out (by simp [laws_FnStatesCountedOfAll.l1])
            | succ k4 =>
             have H := HA.out
             clear HA
             simp only [laws_FnStatesCountedOfAll.l1] at H
             by_cases c78 : x303_4 < (t238.length : Int)
             ·rw [if_pos c78] at H
              have c78b0 : decide (x303_4 < (t238.length : Int)) = true := decide_eq_true c78
              clear c78
              (first | rw [c78b0] | (simp only [i64_w, i32_w]; rw [c78b0]) | skip)
              by_cases c79 : 0 ≤ x303_4
              ·rw [if_pos c79] at H
               have c79b0 : decide (0 ≤ x303_4) = true := decide_eq_true c79
               clear c79
               by_cases c80 : x303_4 < (t238.length : Int)
               ·rw [if_pos c80] at H
                have c80b0 : decide (x303_4 < (t238.length : Int)) = true := decide_eq_true c80
                clear c80
                replace H := Option.bind_eq_some_iff.mp H
                obtain ⟨⟨t274, t275⟩, A810, H⟩ := H
                replace H : ((impl_CountOn.f (rdOf ByteArray.empty t238 x303_4)).bind fun bt276 => (if t275 = true then (if t274 ≤ x44_4 then (none) else (if bt276.2 = true then (if bt276.1 = a1 then (if ((rdOf ByteArray.empty t238 x303_4).size : Int) = a0 then (laws_FnStatesCountedOfAll.l1 k4 a0 a1 a2 a3 a4 t238 t246 t250 t254 t258 (wrap64 (x43_4 + t274)) t274 t238 (t238.length : Int) (wrap64 (x303_4 + 1))) else (none)) else (none)) else (none))) else (none))) = some r := H
                have A81 := aM A810
                clear A810
                replace H := Option.bind_eq_some_iff.mp H
                obtain ⟨⟨t276, t277⟩, A820, H⟩ := H
                replace H : (if t275 = true then (if t274 ≤ x44_4 then (none) else (if t277 = true then (if t276 = a1 then (if ((rdOf ByteArray.empty t238 x303_4).size : Int) = a0 then (laws_FnStatesCountedOfAll.l1 k4 a0 a1 a2 a3 a4 t238 t246 t250 t254 t258 (wrap64 (x43_4 + t274)) t274 t238 (t238.length : Int) (wrap64 (x303_4 + 1))) else (none)) else (none)) else (none))) else (none)) = some r := H
                have A82 := aM A820
                clear A820
                by_cases c83 : t275 = true
                ·subst c83
                 have H1 : (if t274 ≤ x44_4 then (none) else (if t277 = true then (if t276 = a1 then (if ((rdOf ByteArray.empty t238 x303_4).size : Int) = a0 then (laws_FnStatesCountedOfAll.l1 k4 a0 a1 a2 a3 a4 t238 t246 t250 t254 t258 (wrap64 (x43_4 + t274)) t274 t238 (t238.length : Int) (wrap64 (x303_4 + 1))) else (none)) else (none)) else (none))) = some r := by rw [if_pos rfl] at H; exact H
                 clear H
                 have H := H1
                 clear H1
                 by_cases c84 : t274 ≤ x44_4
                 ·rw [if_pos c84] at H
                  exact absurd H (by simp)
                 ·rw [if_neg c84] at H
                  have c84b0 : decide (t274 ≤ x44_4) = false := decide_eq_false c84
                  clear c84
                  by_cases c85 : t277 = true
                  ·subst c85
                   have H1 : (if t276 = a1 then (if ((rdOf ByteArray.empty t238 x303_4).size : Int) = a0 then (laws_FnStatesCountedOfAll.l1 k4 a0 a1 a2 a3 a4 t238 t246 t250 t254 t258 (wrap64 (x43_4 + t274)) t274 t238 (t238.length : Int) (wrap64 (x303_4 + 1))) else (none)) else (none)) = some r := by rw [if_pos rfl] at H; exact H
                   clear H
                   have H := H1
                   clear H1
                   by_cases c86 : t276 = a1
                   ·rw [if_pos c86] at H
                    have c86b0 : (t276 == a1) = true := beq_iff_eq.mpr c86
                    have c86b1 : (t276 != a1) = false := bne_eq_false_iff_eq.mpr c86
                    clear c86
                    by_cases c87 : ((rdOf ByteArray.empty t238 x303_4).size : Int) = a0
                    ·rw [if_pos c87] at H
                     have c87b0 : (((rdOf ByteArray.empty t238 x303_4).size : Int) == a0) = true := beq_iff_eq.mpr c87
                     have c87b1 : (((rdOf ByteArray.empty t238 x303_4).size : Int) != a0) = false := bne_eq_false_iff_eq.mpr c87
                     clear c87
                     have H' := aM H
                     clear H
                     have p273 : 0 ≤ (x303_4 : Int) := of_decide_eq_true (by first | (with_reducible assumption) | assumption)
                     have q273 : x303_4 < (t238.length : Int) := of_decide_eq_true (by first | (with_reducible assumption) | assumption)
                     obtain ⟨ad273, e273, hx273_0⟩ := Kd.at_string (Kd.R_reads' HO_301.out).2.2 x303_4 p273 q273
                     cases e273
                     replace p273 := eq_true p273
                     replace q273 := eq_true q273
                     go_wp2_with (first | ((with_reducible refine gate_callee (f := 68) rfl ?_); refine goesL_ (some 309) rfl rfl Tryd.func68 (by kernel_rfl) rfl #[.string (rdOf ByteArray.empty t238 x303_4)] rfl (by (try simp only [List.map_toArray, List.map_cons, List.map_nil]); first | done | rfl | (simp only [List.length_drop, List.length_take]; rfl)) ?_; (with_reducible refine (impl_NumberOfState.calls k4 (rdOf ByteArray.empty t238 x303_4) t274 true _ A81.out).mono ?_); rintro e w88 ⟨rfl, hb⟩; refine ⟨_, rfl, ?_⟩; have n0_ := aM (Kd.R_below (rU HO_11.out) hb); have n1_ := aM (Kd.R_below (rU HO_301.out) hb); have n2_ := aM (below_step (by repeat (first | (with_reducible first | exact HB.out | apply aL | apply dN | apply dR) | exact HB.out)) hb); clear HO_11; clear HO_301; clear HB; have HO_11 := n0_; have HO_301 := n1_; have HB := n2_; clear n0_ n1_ n2_; (try clear hb); (try clear hb2); (try clear hk); (try clear hi)) | ((with_reducible refine gate_callee (f := 69) rfl ?_); refine goesL_ (some 314) rfl rfl Tryd.func69 (by kernel_rfl) rfl #[.string (rdOf ByteArray.empty t238 x303_4)] rfl (by (try simp only [List.map_toArray, List.map_cons, List.map_nil]); first | done | rfl | (simp only [List.length_drop, List.length_take]; rfl)) ?_; (with_reducible refine (impl_CountOn.calls (rdOf ByteArray.empty t238 x303_4) t276 true _ A82.out).mono ?_); rintro e w89 ⟨rfl, hb⟩; refine ⟨_, rfl, ?_⟩; have n0_ := aM (Kd.R_below (rU HO_11.out) hb); have n1_ := aM (Kd.R_below (rU HO_301.out) hb); have n2_ := aM (below_step (by repeat (first | (with_reducible first | exact HB.out | apply aL | apply dN | apply dR) | exact HB.out)) hb); clear HO_11; clear HO_301; clear HB; have HO_11 := n0_; have HO_301 := n1_; have HB := n2_; clear n0_ n1_ n2_; (try clear hb); (try clear hb2); (try clear hk); (try clear hi)))
                     go_roundg k4
                     case measure => have := HJ5.out; have := HJ18.out; have := HJ48.out; have := HK4.out; omega
                     case rel => exact ⟨(wrap64 (x43_4 + t274)), (t274), (wrap64 (x303_4 + 1)), (by first | rfl | (simp; done) | (simp [*]; done)), (by first | rfl | (simp; done) | (simp [*]; done)), (by first | rfl | (simp; done) | (simp [*]; done)), H', ⟨by have := HJ5.out; have := HJ18.out; have := HJ48.out; have := HK4.out; omega⟩, ⟨by (with_reducible repeat (first | apply Kd.R_alloc | apply Kd.R_drewN | apply Kd.R_drew)); exact HO_11.out⟩, ⟨by (with_reducible repeat (first | apply Kd.R_alloc | apply Kd.R_drewN | apply Kd.R_drew)); exact HO_301.out⟩, ⟨by repeat (first | (with_reducible first | exact HB.out | apply aL | apply dN | apply dR) | exact HB.out)⟩⟩
                    ·rw [if_neg c87] at H
                     exact absurd H (by simp)
                   ·rw [if_neg c86] at H
                    exact absurd H (by simp)
                  ·replace c85 := Bool.eq_false_iff.mpr c85
                   subst c85
                   have H1 : (none) = some r := by rw [if_neg (show ¬ (false = true) by decide)] at H; exact H
                   clear H
                   have H := H1
                   clear H1
                   exact absurd H (by simp)
                ·replace c83 := Bool.eq_false_iff.mpr c83
                 subst c83
                 have H1 : (none) = some r := by rw [if_neg (show ¬ (false = true) by decide)] at H; exact H
                 clear H
                 have H := H1
                 clear H1
                 exact absurd H (by simp)
               ·rw [if_neg c80] at H
                exact absurd H (by simp)
              ·rw [if_neg c79] at H
               exact absurd H (by simp)
             ·rw [if_neg c78] at H
              have c78b0 : decide (x303_4 < (t238.length : Int)) = false := decide_eq_false c78
              clear c78
              (first | rw [c78b0] | (simp only [i64_w, i32_w]; rw [c78b0]) | skip)
              by_cases c90 : (t238.length : Int) = t246
              ·rw [if_pos c90] at H
               have c90b0 : ((t238.length : Int) == t246) = true := beq_iff_eq.mpr c90
               have c90b1 : ((t238.length : Int) != t246) = false := bne_eq_false_iff_eq.mpr c90
               clear c90
               by_cases c91 : x43_4 = t258
               ·rw [if_pos c91] at H
                have c91b0 : (x43_4 == t258) = true := beq_iff_eq.mpr c91
                have c91b1 : (x43_4 != t258) = false := bne_eq_false_iff_eq.mpr c91
                clear c91
                by_cases c92 : 0 < (t238.length : Int)
                ·rw [if_pos c92] at H
                 have c92b0 : decide (0 < (t238.length : Int)) = true := decide_eq_true c92
                 have c92b1 : decide (0 < t238.length) = true := decide_eq_true (by omega)
                 clear c92
                 by_cases c93 : (rdOf ByteArray.empty t238 0).toList = t250.toList
                 ·rw [if_pos c93] at H
                  have c93b0 : ((rdOf ByteArray.empty t238 0).toList == t250.toList) = true := beq_iff_eq.mpr c93
                  have c93b1 : ((rdOf ByteArray.empty t238 0).toList != t250.toList) = false := bne_eq_false_iff_eq.mpr c93
                  clear c93
                  obtain ⟨ji94, hji94⟩ : ∃ j_ : Int, (wrap64 (t246 - 1)) = j_ := ⟨_, rfl⟩
                  replace H : (if 0 ≤ (ji94) then (if (ji94) < (t238.length : Int) then (if (rdOf ByteArray.empty t238 (ji94)).toList = t254.toList then (laws_FnStatesCountedOfAll.j6 k4 a2 a3 a4) else (none)) else (none)) else (none)) = some r := by first | (rw [hji94] at H; exact H) | (simp only [hji94] at H ⊢; exact H)
                  have hji94w : (IntKind.i64.wrap (t246 - 1)) = ji94 := (i64_w _).trans hji94
                  by_cases c95 : 0 ≤ (ji94)
                  ·rw [if_pos c95] at H
                   have c95b0 : decide (0 ≤ (ji94)) = true := decide_eq_true c95
                   clear c95
                   by_cases c96 : (ji94) < (t238.length : Int)
                   ·rw [if_pos c96] at H
                    have c96b0 : decide ((ji94) < (t238.length : Int)) = true := decide_eq_true c96
                    clear c96
                    by_cases c97 : (rdOf ByteArray.empty t238 (ji94)).toList = t254.toList
                    ·rw [if_pos c97] at H
                     have c97b0 : ((rdOf ByteArray.empty t238 (ji94)).toList == t254.toList) = true := beq_iff_eq.mpr c97
                     have c97b1 : ((rdOf ByteArray.empty t238 (ji94)).toList != t254.toList) = false := bne_eq_false_iff_eq.mpr c97
                     clear c97
                     have H' := aM H
                     clear H
                     have p278 : 0 ≤ (0 : Int) := (by omega)
                     have q278 : 0 < (t238.length : Int) := of_decide_eq_true (by first | (with_reducible assumption) | assumption)
                     obtain ⟨ad278, e278, hx278_0⟩ := Kd.at_string (Kd.R_reads' HO_11.out).2.2 0 p278 q278
                     cases e278
                     have qi278 : (0 < t238.length) = True := eq_true (by omega)
                     (try rw [show ((0 : Int)).toNat = 0 from rfl] at hx278_0)
                     (try rw [Addr.add_zero'] at hx278_0)
                     replace p278 := eq_true p278
                     replace q278 := eq_true q278
                     have p279 : 0 ≤ ((ji94) : Int) := of_decide_eq_true (by first | (with_reducible assumption) | assumption)
                     have q279 : (ji94) < (t238.length : Int) := of_decide_eq_true (by first | (with_reducible assumption) | assumption)
                     obtain ⟨ad279, e279, hx279_0⟩ := Kd.at_string (Kd.R_reads' HO_11.out).2.2 (ji94) p279 q279
                     obtain rfl : ad278 = ad279 := (by injection e279)
                     replace p279 := eq_true p279
                     replace q279 := eq_true q279
                     go_wp2
                     go_meet
                     case rel => exact ⟨_, H', ⟨by have := HJ5.out; have := HJ18.out; have := HJ48.out; have := HK4.out; first | omega | exact Nat.le_refl _⟩, ⟨by repeat (first | (with_reducible first | exact HB.out | apply aL | apply dN | apply dR) | exact HB.out)⟩⟩
                    ·rw [if_neg c97] at H
                     exact absurd H (by simp)
                   ·rw [if_neg c96] at H
                    exact absurd H (by simp)
                  ·rw [if_neg c95] at H
                   exact absurd H (by simp)
                 ·rw [if_neg c93] at H
                  exact absurd H (by simp)
                ·rw [if_neg c92] at H
                 exact absurd H (by simp)
               ·rw [if_neg c91] at H
                exact absurd H (by simp)
              ·rw [if_neg c90] at H
               exact absurd H (by simp)
          ·replace c76 := Bool.eq_false_iff.mpr c76
           subst c76
           have H1 : (laws_FnStatesCountedOfAll.j6 kj48 a2 a3 a4) = some r := by rw [if_neg (show ¬ (false = true) by decide)] at H; exact H
           clear H
           have H := H1
           clear H1
           have H' := aM H
           clear H
           go_wp2
           go_meet
           case rel => exact ⟨_, H', ⟨by have := HJ5.out; have := HJ18.out; have := HJ48.out; first | omega | exact Nat.le_refl _⟩, ⟨by repeat (first | (with_reducible first | exact HB.out | apply aL | apply dN | apply dR) | exact HB.out)⟩⟩
         case rest => as_aux_lemma =>
          clear HC75
          try clear c2;try clear p2;try clear q2;try clear hx2;try clear qi2;try clear c3;try clear c4;try clear c5;try clear c6;try clear p6;try clear c7;try clear c7b0;try clear c7b1;try clear c8;try clear c9;try clear p27;try clear q27;try clear hx27;try clear qi27;try clear c29;try clear c29b0;try clear c29b1;try clear c29b2;try clear c31;try clear c32;try clear c32b0;try clear c32b1;try clear c32b2;try clear c33;try clear c33b0;try clear c33b1;try clear c34;try clear c34b0;try clear c34b1;try clear c34b2;try clear c35;try clear c35b0;try clear c35b1;try clear c36;try clear c36b0;try clear c36b1;try clear c36b2;try clear c37;try clear c37b0;try clear c37b1;try clear c38;try clear c38b0;try clear c38b1;try clear c38b2;try clear c39;try clear c39b0;try clear c39b1;try clear c40;try clear c40b0;try clear c40b1;try clear c40b2;try clear c41;try clear c41b0;try clear c41b1;try clear c41b2;try clear c42;try clear c42b0;try clear c42b1;try clear c42b2;try clear c43;try clear c48;try clear c50;try clear c58;try clear c59;try clear c60;try clear c61;try clear c62;try clear c62b0;try clear c63;try clear c64;try clear c64b0;try clear c64b1;try clear p64;try clear c65;try clear c66;try clear c66b0;try clear c66b1;try clear c67;try clear c67b0;try clear c68;try clear c69;try clear c69b0;try clear c71;try clear c72;try clear c72b0;try clear c72b1;try clear c74;try clear c74b0;try clear c74b1;try clear c76;try clear c78;try clear c78b0;try clear c79;try clear c79b0;try clear c80;try clear c80b0;try clear c83;try clear c84;try clear c84b0;try clear c85;try clear c86;try clear c86b0;try clear c86b1;try clear c87;try clear c87b0;try clear c87b1;try clear c90;try clear c90b0;try clear c90b1;try clear c91;try clear c91b0;try clear c91b1;try clear c92;try clear c92b0;try clear c92b1;try clear c93;try clear c93b0;try clear c93b1;try clear c95;try clear c95b0;try clear c96;try clear c96b0;try clear c97;try clear c97b0;try clear c97b1;try clear hx273_0;try clear hx278_0;try clear hx279_0;try clear p2;try clear p273;try clear p278;try clear p279;try clear p6;try clear p64;try clear q273;try clear q278;try clear q279
          obtain ⟨kq, HA, HJ74, HB⟩ := hcut
          cases kq with
          | zero => exact absurd HA.out (by simp [laws_FnStatesCountedOfAll.j6])
          | succ kj74 =>
           have H := HA.out
           clear HA
           simp only [laws_FnStatesCountedOfAll.j6] at H
           replace H := Option.bind_eq_some_iff.mp H
           obtain ⟨⟨t280, t281, t282⟩, A980, H⟩ := H
           replace H : ((spec_MeanNumber.f a2).bind fun bt283 => ((impl_MeanOfPairs.f kj74 a2).bind fun bt286 => ((spec_MeanOfPairs.f kj74 a2).bind fun bt289 => ((impl_MeanOnAlong.f kj74 a3 a4).bind fun bt292 => ((spec_MeanOnAlong.f kj74 a3 a4).bind fun bt295 => (if (t282 != bt283.2.2) = true then (none) else (if t280 = bt283.1 then (if t281 = bt283.2.1 then (if (bt286.2.2 != bt289.2.2) = true then (none) else (if bt286.1 = bt289.1 then (if bt286.2.1 = bt289.2.1 then (if (bt286.2.2 != t282) = true then (none) else (if (bt292.2.2 != bt295.2.2) = true then (none) else (if bt292.1 = bt295.1 then (laws_FnStatesCountedOfAll.j7 kj74 a2 a3 a4 t280 t281 t282 bt286.1 bt286.2.1 bt292.1 bt292.2.1 bt292.2.2 (bt292.2.1 != bt295.2.1)) else (none)))) else (none)) else (none))) else (none)) else (none)))))))) = some r := H
           have A98 := aM A980
           clear A980
           replace H := Option.bind_eq_some_iff.mp H
           obtain ⟨⟨t283, t284, t285⟩, A990, H⟩ := H
           replace H : ((impl_MeanOfPairs.f kj74 a2).bind fun bt286 => ((spec_MeanOfPairs.f kj74 a2).bind fun bt289 => ((impl_MeanOnAlong.f kj74 a3 a4).bind fun bt292 => ((spec_MeanOnAlong.f kj74 a3 a4).bind fun bt295 => (if (t282 != t285) = true then (none) else (if t280 = t283 then (if t281 = t284 then (if (bt286.2.2 != bt289.2.2) = true then (none) else (if bt286.1 = bt289.1 then (if bt286.2.1 = bt289.2.1 then (if (bt286.2.2 != t282) = true then (none) else (if (bt292.2.2 != bt295.2.2) = true then (none) else (if bt292.1 = bt295.1 then (laws_FnStatesCountedOfAll.j7 kj74 a2 a3 a4 t280 t281 t282 bt286.1 bt286.2.1 bt292.1 bt292.2.1 bt292.2.2 (bt292.2.1 != bt295.2.1)) else (none)))) else (none)) else (none))) else (none)) else (none))))))) = some r := H
           have A99 := aM A990
           clear A990
           replace H := Option.bind_eq_some_iff.mp H
           obtain ⟨⟨t286, t287, t288⟩, A1000, H⟩ := H
           replace H : ((spec_MeanOfPairs.f kj74 a2).bind fun bt289 => ((impl_MeanOnAlong.f kj74 a3 a4).bind fun bt292 => ((spec_MeanOnAlong.f kj74 a3 a4).bind fun bt295 => (if (t282 != t285) = true then (none) else (if t280 = t283 then (if t281 = t284 then (if (t288 != bt289.2.2) = true then (none) else (if t286 = bt289.1 then (if t287 = bt289.2.1 then (if (t288 != t282) = true then (none) else (if (bt292.2.2 != bt295.2.2) = true then (none) else (if bt292.1 = bt295.1 then (laws_FnStatesCountedOfAll.j7 kj74 a2 a3 a4 t280 t281 t282 t286 t287 bt292.1 bt292.2.1 bt292.2.2 (bt292.2.1 != bt295.2.1)) else (none)))) else (none)) else (none))) else (none)) else (none)))))) = some r := H
           have A100 := aM A1000
           clear A1000
           replace H := Option.bind_eq_some_iff.mp H
           obtain ⟨⟨t289, t290, t291⟩, A1010, H⟩ := H
           replace H : ((impl_MeanOnAlong.f kj74 a3 a4).bind fun bt292 => ((spec_MeanOnAlong.f kj74 a3 a4).bind fun bt295 => (if (t282 != t285) = true then (none) else (if t280 = t283 then (if t281 = t284 then (if (t288 != t291) = true then (none) else (if t286 = t289 then (if t287 = t290 then (if (t288 != t282) = true then (none) else (if (bt292.2.2 != bt295.2.2) = true then (none) else (if bt292.1 = bt295.1 then (laws_FnStatesCountedOfAll.j7 kj74 a2 a3 a4 t280 t281 t282 t286 t287 bt292.1 bt292.2.1 bt292.2.2 (bt292.2.1 != bt295.2.1)) else (none)))) else (none)) else (none))) else (none)) else (none))))) = some r := H
           have A101 := aM A1010
           clear A1010
           replace H := Option.bind_eq_some_iff.mp H
           obtain ⟨⟨t292, t293, t294⟩, A1020, H⟩ := H
           replace H : ((spec_MeanOnAlong.f kj74 a3 a4).bind fun bt295 => (if (t282 != t285) = true then (none) else (if t280 = t283 then (if t281 = t284 then (if (t288 != t291) = true then (none) else (if t286 = t289 then (if t287 = t290 then (if (t288 != t282) = true then (none) else (if (t294 != bt295.2.2) = true then (none) else (if t292 = bt295.1 then (laws_FnStatesCountedOfAll.j7 kj74 a2 a3 a4 t280 t281 t282 t286 t287 t292 t293 t294 (t293 != bt295.2.1)) else (none)))) else (none)) else (none))) else (none)) else (none)))) = some r := H
           have A102 := aM A1020
           clear A1020
           replace H := Option.bind_eq_some_iff.mp H
           obtain ⟨⟨t295, t296, t297⟩, A1030, H⟩ := H
           replace H : (if (t282 != t285) = true then (none) else (if t280 = t283 then (if t281 = t284 then (if (t288 != t291) = true then (none) else (if t286 = t289 then (if t287 = t290 then (if (t288 != t282) = true then (none) else (if (t294 != t297) = true then (none) else (if t292 = t295 then (laws_FnStatesCountedOfAll.j7 kj74 a2 a3 a4 t280 t281 t282 t286 t287 t292 t293 t294 (t293 != t296)) else (none)))) else (none)) else (none))) else (none)) else (none))) = some r := H
           have A103 := aM A1030
           clear A1030
           have HC104 := aM H
           clear H
           go_upto_region 52 with (first | ((with_reducible refine gate_callee (f := 70) rfl ?_); refine goesL_ (some 371) rfl rfl Tryd.func70 (by kernel_rfl) rfl #[.int .i64 a2] rfl (by (try simp only [List.map_toArray, List.map_cons, List.map_nil]); first | done | rfl | (simp only [List.length_drop, List.length_take]; rfl)) ?_; (with_reducible refine (impl_MeanNumber.calls kj74 a2 t280 t281 t282 _ A98.out).mono ?_); rintro e w' ⟨rfl, ⟨nd, rfl⟩⟩; refine ⟨_, rfl, ?_⟩) | ((with_reducible refine gate_callee (f := 71) rfl ?_); refine goesL_ (some 377) rfl rfl Tryd.func71 (by kernel_rfl) rfl #[.int .i64 a2] rfl (by (try simp only [List.map_toArray, List.map_cons, List.map_nil]); first | done | rfl | (simp only [List.length_drop, List.length_take]; rfl)) ?_; (with_reducible refine (spec_MeanNumber.calls a2 t283 t284 t285 _ A99.out).mono ?_); rintro e w' ⟨rfl, ⟨nd, rfl⟩⟩; refine ⟨_, rfl, ?_⟩) | ((with_reducible refine gate_callee (f := 72) rfl ?_); refine goesL_ (some 383) rfl rfl Tryd.func72 (by kernel_rfl) rfl #[.int .i64 a2] rfl (by (try simp only [List.map_toArray, List.map_cons, List.map_nil]); first | done | rfl | (simp only [List.length_drop, List.length_take]; rfl)) ?_; (with_reducible refine (impl_MeanOfPairs.calls kj74 a2 t286 t287 t288 _ A100.out).mono ?_); rintro e w' ⟨rfl, ⟨nd, rfl⟩⟩; refine ⟨_, rfl, ?_⟩) | ((with_reducible refine gate_callee (f := 73) rfl ?_); refine goesL_ (some 389) rfl rfl Tryd.func73 (by kernel_rfl) rfl #[.int .i64 a2] rfl (by (try simp only [List.map_toArray, List.map_cons, List.map_nil]); first | done | rfl | (simp only [List.length_drop, List.length_take]; rfl)) ?_; (with_reducible refine (spec_MeanOfPairs.calls kj74 a2 t289 t290 t291 _ A101.out).mono ?_); rintro e w' ⟨rfl, ⟨nd, rfl⟩⟩; refine ⟨_, rfl, ?_⟩) | ((with_reducible refine gate_callee (f := 74) rfl ?_); refine goesL_ (some 396) rfl rfl Tryd.func74 (by kernel_rfl) rfl #[.string a3, .string a4] rfl (by (try simp only [List.map_toArray, List.map_cons, List.map_nil]); first | done | rfl | (simp only [List.length_drop, List.length_take]; rfl)) ?_; (with_reducible refine (impl_MeanOnAlong.calls kj74 a3 a4 t292 t293 t294 _ A102.out).mono ?_); rintro e w105 ⟨rfl, hb⟩; refine ⟨_, rfl, ?_⟩; have n0_ := aM (below_step (by repeat (first | (with_reducible first | exact HB.out | apply aL | apply dN | apply dR) | exact HB.out)) hb); clear HB; have HB := n0_; clear n0_; (try clear hb); (try clear hb2); (try clear hk); (try clear hi)) | ((with_reducible refine gate_callee (f := 75) rfl ?_); refine goesL_ (some 403) rfl rfl Tryd.func75 (by kernel_rfl) rfl #[.string a3, .string a4] rfl (by (try simp only [List.map_toArray, List.map_cons, List.map_nil]); first | done | rfl | (simp only [List.length_drop, List.length_take]; rfl)) ?_; (with_reducible refine (spec_MeanOnAlong.calls kj74 a3 a4 t295 t296 t297 _ A103.out).mono ?_); rintro e w' ⟨rfl, ⟨nd, rfl⟩⟩; refine ⟨_, rfl, ?_⟩))
           (try simp only [Act.put, List.setIfInBounds_toArray, List.set_cons_zero, List.set_cons_succ])
           go_cut [454] from 369 to 454 (fun v454 wc => ∃ (kq : Nat) (x454_103 : Bool), v454 = .bool x454_103 ∧ Aside0 (laws_FnStatesCountedOfAll.j7 kq a2 a3 a4 t280 t281 t282 t286 t287 t292 t293 t294 x454_103 = some r) ∧ Aside0 (kq ≤ kj74) ∧ Aside0 (Below w.heap.size w wc))
           case first => as_aux_lemma =>
            have H := HC104.out
            clear HC104
            by_cases c106 : (t282 != t285) = true
            ·rw [if_pos c106] at H
             exact absurd H (by simp)
            ·rw [if_neg c106] at H
             have c106b0 : (t282 != t285) = false := by simpa using c106
             (try (have c106b1 : decide (t282 = t285) = true := by simpa using c106))
             (try (have c106b2 : (t282 == t285) = true := by simpa using c106))
             clear c106
             (first | rw [c106b0] | (simp only [i64_w, i32_w]; rw [c106b0]) | skip)
             by_cases c107 : t280 = t283
             ·rw [if_pos c107] at H
              have c107b0 : (t280 == t283) = true := beq_iff_eq.mpr c107
              have c107b1 : (t280 != t283) = false := bne_eq_false_iff_eq.mpr c107
              clear c107
              by_cases c108 : t281 = t284
              ·rw [if_pos c108] at H
               have c108b0 : (t281 == t284) = true := beq_iff_eq.mpr c108
               have c108b1 : (t281 != t284) = false := bne_eq_false_iff_eq.mpr c108
               clear c108
               by_cases c109 : (t288 != t291) = true
               ·rw [if_pos c109] at H
                exact absurd H (by simp)
               ·rw [if_neg c109] at H
                have c109b0 : (t288 != t291) = false := by simpa using c109
                (try (have c109b1 : decide (t288 = t291) = true := by simpa using c109))
                (try (have c109b2 : (t288 == t291) = true := by simpa using c109))
                clear c109
                by_cases c110 : t286 = t289
                ·rw [if_pos c110] at H
                 have c110b0 : (t286 == t289) = true := beq_iff_eq.mpr c110
                 have c110b1 : (t286 != t289) = false := bne_eq_false_iff_eq.mpr c110
                 clear c110
                 by_cases c111 : t287 = t290
                 ·rw [if_pos c111] at H
                  have c111b0 : (t287 == t290) = true := beq_iff_eq.mpr c111
                  have c111b1 : (t287 != t290) = false := bne_eq_false_iff_eq.mpr c111
                  clear c111
                  by_cases c112 : (t288 != t282) = true
                  ·rw [if_pos c112] at H
                   exact absurd H (by simp)
                  ·rw [if_neg c112] at H
                   have c112b0 : (t288 != t282) = false := by simpa using c112
                   (try (have c112b1 : decide (t288 = t282) = true := by simpa using c112))
                   (try (have c112b2 : (t288 == t282) = true := by simpa using c112))
                   clear c112
                   by_cases c113 : (t294 != t297) = true
                   ·rw [if_pos c113] at H
                    exact absurd H (by simp)
                   ·rw [if_neg c113] at H
                    have c113b0 : (t294 != t297) = false := by simpa using c113
                    (try (have c113b1 : decide (t294 = t297) = true := by simpa using c113))
                    (try (have c113b2 : (t294 == t297) = true := by simpa using c113))
                    clear c113
                    by_cases c114 : t292 = t295
                    ·rw [if_pos c114] at H
                     have c114b0 : (t292 == t295) = true := beq_iff_eq.mpr c114
                     have c114b1 : (t292 != t295) = false := bne_eq_false_iff_eq.mpr c114
                     clear c114
                     have H' := aM H
                     clear H
                     go_wp2
                     go_meet
                     case rel => exact ⟨_, ((t293 != t296)), (by first | rfl | (simp; done) | (simp [*]; done)), H', ⟨by have := HJ5.out; have := HJ18.out; have := HJ48.out; have := HJ74.out; first | omega | exact Nat.le_refl _⟩, ⟨by repeat (first | (with_reducible first | exact HB.out | apply aL | apply dN | apply dR) | exact HB.out)⟩⟩
                    ·rw [if_neg c114] at H
                     exact absurd H (by simp)
                 ·rw [if_neg c111] at H
                  exact absurd H (by simp)
                ·rw [if_neg c110] at H
                 exact absurd H (by simp)
              ·rw [if_neg c108] at H
               exact absurd H (by simp)
             ·rw [if_neg c107] at H
              exact absurd H (by simp)
           case rest => as_aux_lemma =>
            clear HC104
            try clear c1;try clear c2;try clear p2;try clear q2;try clear hx2;try clear qi2;try clear c3;try clear c4;try clear c5;try clear c6;try clear p6;try clear c7;try clear c7b0;try clear c7b1;try clear c8;try clear c9;try clear c10;try clear c11;try clear p27;try clear q27;try clear hx27;try clear qi27;try clear c29;try clear c29b0;try clear c29b1;try clear c29b2;try clear c31;try clear c32;try clear c32b0;try clear c32b1;try clear c32b2;try clear c33;try clear c33b0;try clear c33b1;try clear c34;try clear c34b0;try clear c34b1;try clear c34b2;try clear c35;try clear c35b0;try clear c35b1;try clear c36;try clear c36b0;try clear c36b1;try clear c36b2;try clear c37;try clear c37b0;try clear c37b1;try clear c38;try clear c38b0;try clear c38b1;try clear c38b2;try clear c39;try clear c39b0;try clear c39b1;try clear c40;try clear c40b0;try clear c40b1;try clear c40b2;try clear c41;try clear c41b0;try clear c41b1;try clear c41b2;try clear c42;try clear c42b0;try clear c42b1;try clear c42b2;try clear c43;try clear c48;try clear c50;try clear c58;try clear c59;try clear c60;try clear c61;try clear c62;try clear c62b0;try clear c63;try clear c64;try clear c64b0;try clear c64b1;try clear p64;try clear c65;try clear c66;try clear c66b0;try clear c66b1;try clear c67;try clear c67b0;try clear c68;try clear c69;try clear c69b0;try clear c70;try clear c71;try clear c72;try clear c72b0;try clear c72b1;try clear c73;try clear c74;try clear c74b0;try clear c74b1;try clear c75;try clear c76;try clear c78;try clear c78b0;try clear c79;try clear c79b0;try clear c80;try clear c80b0;try clear c83;try clear c84;try clear c84b0;try clear c85;try clear c86;try clear c86b0;try clear c86b1;try clear c87;try clear c87b0;try clear c87b1;try clear c90;try clear c90b0;try clear c90b1;try clear c91;try clear c91b0;try clear c91b1;try clear c92;try clear c92b0;try clear c92b1;try clear c93;try clear c93b0;try clear c93b1;try clear c95;try clear c95b0;try clear c96;try clear c96b0;try clear c97;try clear c97b0;try clear c97b1;try clear c106;try clear c106b0;try clear c106b1;try clear c106b2;try clear c107;try clear c107b0;try clear c107b1;try clear c108;try clear c108b0;try clear c108b1;try clear c109;try clear c109b0;try clear c109b1;try clear c109b2;try clear c110;try clear c110b0;try clear c110b1;try clear c111;try clear c111b0;try clear c111b1;try clear c112;try clear c112b0;try clear c112b1;try clear c112b2;try clear c113;try clear c113b0;try clear c113b1;try clear c113b2;try clear c114;try clear c114b0;try clear c114b1;try clear hx273_0;try clear hx278_0;try clear hx279_0;try clear p2;try clear p27;try clear p273;try clear p278;try clear p279;try clear p6;try clear p64;try clear q2;try clear q27;try clear q273;try clear q278;try clear q279
            obtain ⟨kq, x454_103, rfl, HA, HJ103, HB⟩ := hcut
            cases kq with
            | zero => exact absurd HA.out (by simp [laws_FnStatesCountedOfAll.j7])
            | succ kj103 =>
             have H := HA.out
             clear HA
             simp only [laws_FnStatesCountedOfAll.j7] at H
             by_cases c115 : x454_103 = true
             ·subst c115
              have H1 : (none) = some r := by rw [if_pos rfl] at H; exact H
              clear H
              have H := H1
              clear H1
              exact absurd H (by simp)
             ·replace c115 := Bool.eq_false_iff.mpr c115
              subst c115
              have H1 : (if t282 = true then (if 0 ≤ a2 then (if (wrap64 (t280 * 2)) = (wrap64 (t281 * (wrap64 ((shl .i64 1 a2) - 1)))) then (if (wrap64 ((wrap64 (t286 * 3)) * (shl .i64 1 a2))) = (wrap64 (t287 * (wrap64 ((wrap64 ((shl .i64 1 a2) * (shl .i64 1 a2))) - 1)))) then (laws_FnStatesCountedOfAll.j8 kj103 a3 a4 t292 t293 t294) else (none)) else (none)) else (none)) else (laws_FnStatesCountedOfAll.j8 kj103 a3 a4 t292 t293 t294)) = some r := by rw [if_neg (show ¬ (false = true) by decide)] at H; exact H
              clear H
              have H := H1
              clear H1
              have HC116 := aM H
              clear H
              go_upto_if 455 with (fail)
              go_cut [] from 455 to 455 (fun wc => ∃ (kq : Nat), Aside0 (laws_FnStatesCountedOfAll.j8 kq a3 a4 t292 t293 t294 = some r) ∧ Aside0 (kq ≤ kj103) ∧ Aside0 (Below w.heap.size w wc))
              case first => as_aux_lemma =>
               have H := HC116.out
               clear HC116
               by_cases c117 : t282 = true
               ·subst c117
                have H1 : (if 0 ≤ a2 then (if (wrap64 (t280 * 2)) = (wrap64 (t281 * (wrap64 ((shl .i64 1 a2) - 1)))) then (if (wrap64 ((wrap64 (t286 * 3)) * (shl .i64 1 a2))) = (wrap64 (t287 * (wrap64 ((wrap64 ((shl .i64 1 a2) * (shl .i64 1 a2))) - 1)))) then (laws_FnStatesCountedOfAll.j8 kj103 a3 a4 t292 t293 t294) else (none)) else (none)) else (none)) = some r := by rw [if_pos rfl] at H; exact H
                clear H
                have H := H1
                clear H1
                by_cases c118 : 0 ≤ a2
                ·rw [if_pos c118] at H
                 have c118b0 := eq_true c118
                 have c118b1 : decide (0 ≤ a2) = true := decide_eq_true c118
                 clear c118
                 obtain ⟨ji119, hji119⟩ : ∃ j_ : Int, (shl .i64 1 a2) = j_ := ⟨_, rfl⟩
                 replace H : (if (wrap64 (t280 * 2)) = (wrap64 (t281 * (wrap64 ((ji119) - 1)))) then (if (wrap64 ((wrap64 (t286 * 3)) * (ji119))) = (wrap64 (t287 * (wrap64 ((wrap64 ((ji119) * (ji119))) - 1)))) then (laws_FnStatesCountedOfAll.j8 kj103 a3 a4 t292 t293 t294) else (none)) else (none)) = some r := by first | (rw [hji119] at H; exact H) | (simp only [hji119] at H ⊢; exact H)
                 have hji119_ : (IntKind.i64.wrap (1 * 2 ^ min a2.toNat 64)) = ji119 := hji119
                 have hji119z : a2 ≤ 64 → (IntKind.i64.wrap (1 * 2 ^ a2.toNat)) = ji119 := shl_small hji119
                 have hji119u : (IntKind.i64.wrap (2 ^ min a2.toNat 64)) = ji119 := by have h_ := hji119_; rw [Int.one_mul] at h_; exact h_
                 have hji119v : a2 ≤ 64 → (IntKind.i64.wrap (2 ^ a2.toNat)) = ji119 := fun hle_ => by have h_ := hji119z hle_; rw [Int.one_mul] at h_; exact h_
                 have hji119y : (wrap64 (1 * 2 ^ min a2.toNat 64)) = ji119 := (i64_w _).symm.trans hji119_
                 have hji119x : a2 ≤ 64 → (wrap64 (1 * 2 ^ a2.toNat)) = ji119 := fun h_ => (i64_w _).symm.trans (hji119z h_)
                 by_cases c120 : (wrap64 (t280 * 2)) = (wrap64 (t281 * (wrap64 ((ji119) - 1))))
                 ·rw [if_pos c120] at H
                  have c120b0 : ((wrap64 (t280 * 2)) == (wrap64 (t281 * (wrap64 ((ji119) - 1))))) = true := beq_iff_eq.mpr c120
                  have c120b1 : ((wrap64 (t280 * 2)) != (wrap64 (t281 * (wrap64 ((ji119) - 1))))) = false := bne_eq_false_iff_eq.mpr c120
                  clear c120
                  (first | rw [c120b0] | (simp only [i64_w, i32_w]; rw [c120b0]) | skip)
                  by_cases c121 : (wrap64 ((wrap64 (t286 * 3)) * (ji119))) = (wrap64 (t287 * (wrap64 ((wrap64 ((ji119) * (ji119))) - 1))))
                  ·rw [if_pos c121] at H
                   have c121b0 : ((wrap64 ((wrap64 (t286 * 3)) * (ji119))) == (wrap64 (t287 * (wrap64 ((wrap64 ((ji119) * (ji119))) - 1))))) = true := beq_iff_eq.mpr c121
                   have c121b1 : ((wrap64 ((wrap64 (t286 * 3)) * (ji119))) != (wrap64 (t287 * (wrap64 ((wrap64 ((ji119) * (ji119))) - 1))))) = false := bne_eq_false_iff_eq.mpr c121
                   clear c121
                   have H' := aM H
                   clear H
                   go_wp2
                   go_meet
                   case rel => exact ⟨_, H', ⟨by have := HJ5.out; have := HJ18.out; have := HJ48.out; have := HJ74.out; have := HJ103.out; first | omega | exact Nat.le_refl _⟩, ⟨by repeat (first | (with_reducible first | exact HB.out | apply aL | apply dN | apply dR) | exact HB.out)⟩⟩
                  ·rw [if_neg c121] at H
                   exact absurd H (by simp)
                 ·rw [if_neg c120] at H
                  exact absurd H (by simp)
                ·rw [if_neg c118] at H
                 exact absurd H (by simp)
               ·replace c117 := Bool.eq_false_iff.mpr c117
                subst c117
                have H1 : (laws_FnStatesCountedOfAll.j8 kj103 a3 a4 t292 t293 t294) = some r := by rw [if_neg (show ¬ (false = true) by decide)] at H; exact H
                clear H
                have H := H1
                clear H1
                have H' := aM H
                clear H
                go_wp2
                go_meet
                case rel => exact ⟨_, H', ⟨by have := HJ5.out; have := HJ18.out; have := HJ48.out; have := HJ74.out; have := HJ103.out; first | omega | exact Nat.le_refl _⟩, ⟨by repeat (first | (with_reducible first | exact HB.out | apply aL | apply dN | apply dR) | exact HB.out)⟩⟩
              case rest => as_aux_lemma =>
               clear HC116
               try clear c1;try clear c2;try clear p2;try clear q2;try clear hx2;try clear qi2;try clear c3;try clear c4;try clear c5;try clear c6;try clear p6;try clear c7;try clear c7b0;try clear c7b1;try clear c8;try clear c9;try clear c10;try clear c11;try clear c12;try clear p27;try clear q27;try clear hx27;try clear qi27;try clear c29;try clear c29b0;try clear c29b1;try clear c29b2;try clear c31;try clear c32;try clear c32b0;try clear c32b1;try clear c32b2;try clear c33;try clear c33b0;try clear c33b1;try clear c34;try clear c34b0;try clear c34b1;try clear c34b2;try clear c35;try clear c35b0;try clear c35b1;try clear c36;try clear c36b0;try clear c36b1;try clear c36b2;try clear c37;try clear c37b0;try clear c37b1;try clear c38;try clear c38b0;try clear c38b1;try clear c38b2;try clear c39;try clear c39b0;try clear c39b1;try clear c40;try clear c40b0;try clear c40b1;try clear c40b2;try clear c41;try clear c41b0;try clear c41b1;try clear c41b2;try clear c42;try clear c42b0;try clear c42b1;try clear c42b2;try clear c43;try clear c48;try clear c50;try clear c58;try clear c59;try clear c60;try clear c61;try clear c62;try clear c62b0;try clear c63;try clear c64;try clear c64b0;try clear c64b1;try clear p64;try clear c65;try clear c66;try clear c66b0;try clear c66b1;try clear c67;try clear c67b0;try clear c68;try clear c69;try clear c69b0;try clear c70;try clear c71;try clear c72;try clear c72b0;try clear c72b1;try clear c73;try clear c74;try clear c74b0;try clear c74b1;try clear c75;try clear c76;try clear c78;try clear c78b0;try clear c79;try clear c79b0;try clear c80;try clear c80b0;try clear c83;try clear c84;try clear c84b0;try clear c85;try clear c86;try clear c86b0;try clear c86b1;try clear c87;try clear c87b0;try clear c87b1;try clear c90;try clear c90b0;try clear c90b1;try clear c91;try clear c91b0;try clear c91b1;try clear c92;try clear c92b0;try clear c92b1;try clear c93;try clear c93b0;try clear c93b1;try clear c95;try clear c95b0;try clear c96;try clear c96b0;try clear c97;try clear c97b0;try clear c97b1;try clear c106;try clear c106b0;try clear c106b1;try clear c106b2;try clear c107;try clear c107b0;try clear c107b1;try clear c108;try clear c108b0;try clear c108b1;try clear c109;try clear c109b0;try clear c109b1;try clear c109b2;try clear c110;try clear c110b0;try clear c110b1;try clear c111;try clear c111b0;try clear c111b1;try clear c112;try clear c112b0;try clear c112b1;try clear c112b2;try clear c113;try clear c113b0;try clear c113b1;try clear c113b2;try clear c114;try clear c114b0;try clear c114b1;try clear c115;try clear c117;try clear c118;try clear c118b0;try clear c118b1;try clear c120;try clear c120b0;try clear c120b1;try clear c121;try clear c121b0;try clear c121b1;try clear hx273_0;try clear hx278_0;try clear hx279_0;try clear p2;try clear p27;try clear p273;try clear p278;try clear p279;try clear p6;try clear p64;try clear q2;try clear q27;try clear q273;try clear q278;try clear q279
               obtain ⟨kq, HA, HJ115, HB⟩ := hcut
               cases kq with
               | zero => exact absurd HA.out (by simp [laws_FnStatesCountedOfAll.j8])
               | succ kj115 =>
                have H := HA.out
                clear HA
                simp only [laws_FnStatesCountedOfAll.j8] at H
                by_cases c122 : t294 = true
                ·subst c122
                 have H1 : ((impl_StatesBetween.f kj115 a3 a4).bind fun bt298 => (if bt298.2 = true then (laws_FnStatesCountedOfAll.l2 kj115 t292 t293 bt298.1 0 bt298.1 (bt298.1.length : Int) 0) else (some true))) = some r := by rw [if_pos rfl] at H; exact H
                 clear H
                 have H := H1
                 clear H1
                 replace H := Option.bind_eq_some_iff.mp H
                 obtain ⟨⟨t298, t299⟩, A1230, H⟩ := H
                 replace H : (if t299 = true then (laws_FnStatesCountedOfAll.l2 kj115 t292 t293 t298 0 t298 (t298.length : Int) 0) else (some true)) = some r := H
                 have A123 := aM A1230
                 clear A1230
                 by_cases c124 : t299 = true
                 ·subst c124
                  have H1 : (laws_FnStatesCountedOfAll.l2 kj115 t292 t293 t298 0 t298 (t298.length : Int) 0) = some r := by rw [if_pos rfl] at H; exact H
                  clear H
                  have H := H1
                  clear H1
                  have H' := aM H
                  clear H
                  go_wp2_with (first | ((with_reducible refine gate_callee (f := 76) rfl ?_); refine goesL_ (some 482) rfl rfl Tryd.func76 (by kernel_rfl) rfl #[.string a3, .string a4] rfl (by (try simp only [List.map_toArray, List.map_cons, List.map_nil]); first | done | rfl | (simp only [List.length_drop, List.length_take]; rfl)) ?_; (with_reducible refine (impl_StatesBetween.calls kj115 a3 a4 t298 true _ A123.out).mono ?_); rintro e w125 ⟨v300, rfl, ho0, hb⟩; refine ⟨_, rfl, ?_⟩; have n0_ := aM (Kd.R_lower ho0 (below_size (by repeat (first | (with_reducible first | exact HB.out | apply aL | apply dN | apply dR) | exact HB.out)))); have n1_ := aM (below_step (by repeat (first | (with_reducible first | exact HB.out | apply aL | apply dN | apply dR) | exact HB.out)) hb); clear HB; have HO301 := n0_; have HB := n1_; clear n0_ n1_; (try clear hb); (try clear hb2); (try clear hk); (try clear hi); (try clear ho0); obtain ⟨Ao126, co126, eo126⟩ := Kd.R_slice HO301.out; subst eo126))
                  go_loopg [72, 488] kj115 (fun kq v72 v488 w' => ∃ (x72_7 : Int) (x488_7 : Int), v72 = .int .i64 x72_7 ∧ v488 = .int .i64 x488_7 ∧ Aside0 (laws_FnStatesCountedOfAll.l2 kq t292 t293 t298 x72_7 t298 (t298.length : Int) x488_7 = some r) ∧ Aside0 (kq ≤ kj115) ∧ Aside0 (Kd.R Kd.string 9 w' w.heap.size (fun _ => True) (.slice Ao126 t298.length co126) t298) ∧ Aside0 (Kd.R Kd.string 9 w' w.heap.size (fun _ => True) (.slice Ao126 t298.length co126) t298) ∧ Aside0 (Below w.heap.size w w'))
                  case atStart => exact ⟨(0), (0), (by first | rfl | (simp; done) | (simp [*]; done)), (by first | rfl | (simp; done) | (simp [*]; done)), H', ⟨Nat.le_refl _⟩, ⟨by (with_reducible repeat (first | apply Kd.R_alloc | apply Kd.R_drewN | apply Kd.R_drew)); exact HO301.out⟩, ⟨by (with_reducible repeat (first | apply Kd.R_alloc | apply Kd.R_drewN | apply Kd.R_drew)); exact HO301.out⟩, ⟨by repeat (first | (with_reducible first | exact HB.out | apply aL | apply dN | apply dR) | exact HB.out)⟩⟩
                  case round => as_aux_lemma =>
                   clear H'
                   try clear c1;try clear c2;try clear p2;try clear q2;try clear hx2;try clear qi2;try clear c3;try clear c4;try clear c5;try clear c6;try clear p6;try clear c7;try clear c7b0;try clear c7b1;try clear c8;try clear c9;try clear c10;try clear c11;try clear c12;try clear p27;try clear q27;try clear hx27;try clear qi27;try clear c29;try clear c29b0;try clear c29b1;try clear c29b2;try clear c31;try clear c32;try clear c32b0;try clear c32b1;try clear c32b2;try clear c33;try clear c33b0;try clear c33b1;try clear c34;try clear c34b0;try clear c34b1;try clear c34b2;try clear c35;try clear c35b0;try clear c35b1;try clear c36;try clear c36b0;try clear c36b1;try clear c36b2;try clear c37;try clear c37b0;try clear c37b1;try clear c38;try clear c38b0;try clear c38b1;try clear c38b2;try clear c39;try clear c39b0;try clear c39b1;try clear c40;try clear c40b0;try clear c40b1;try clear c40b2;try clear c41;try clear c41b0;try clear c41b1;try clear c41b2;try clear c42;try clear c42b0;try clear c42b1;try clear c42b2;try clear c43;try clear c48;try clear c50;try clear c58;try clear c59;try clear c60;try clear c61;try clear c62;try clear c62b0;try clear c63;try clear c64;try clear c64b0;try clear c64b1;try clear p64;try clear c65;try clear c66;try clear c66b0;try clear c66b1;try clear c67;try clear c67b0;try clear c68;try clear c69;try clear c69b0;try clear c70;try clear c71;try clear c72;try clear c72b0;try clear c72b1;try clear c73;try clear c74;try clear c74b0;try clear c74b1;try clear c75;try clear c76;try clear c78;try clear c78b0;try clear c79;try clear c79b0;try clear c80;try clear c80b0;try clear c83;try clear c84;try clear c84b0;try clear c85;try clear c86;try clear c86b0;try clear c86b1;try clear c87;try clear c87b0;try clear c87b1;try clear c90;try clear c90b0;try clear c90b1;try clear c91;try clear c91b0;try clear c91b1;try clear c92;try clear c92b0;try clear c92b1;try clear c93;try clear c93b0;try clear c93b1;try clear c95;try clear c95b0;try clear c96;try clear c96b0;try clear c97;try clear c97b0;try clear c97b1;try clear c106;try clear c106b0;try clear c106b1;try clear c106b2;try clear c107;try clear c107b0;try clear c107b1;try clear c108;try clear c108b0;try clear c108b1;try clear c109;try clear c109b0;try clear c109b1;try clear c109b2;try clear c110;try clear c110b0;try clear c110b1;try clear c111;try clear c111b0;try clear c111b1;try clear c112;try clear c112b0;try clear c112b1;try clear c112b2;try clear c113;try clear c113b0;try clear c113b1;try clear c113b2;try clear c114;try clear c114b0;try clear c114b1;try clear c115;try clear c117;try clear c118;try clear c118b0;try clear c118b1;try clear c120;try clear c120b0;try clear c120b1;try clear c121;try clear c121b0;try clear c121b1;try clear c122;try clear c124;try clear hx273_0;try clear hx278_0;try clear hx279_0;try clear p2;try clear p27;try clear p273;try clear p278;try clear p279;try clear p6;try clear p64;try clear q2;try clear q27;try clear q273;try clear q278;try clear q279
                   obtain ⟨x72_7, x488_7, rfl, rfl, HA, HK7, HO_70, HO_486, HB⟩ := hrel
                   cases gk with
                   | zero => exact absurd HA.out (by simp [laws_FnStatesCountedOfAll.l2])
                   | succ k7 =>
                    have H := HA.out
                    clear HA
                    simp only [laws_FnStatesCountedOfAll.l2] at H
                    by_cases c127 : x488_7 < (t298.length : Int)
                    ·rw [if_pos c127] at H
                     have c127b0 : decide (x488_7 < (t298.length : Int)) = true := decide_eq_true c127
                     clear c127
                     by_cases c128 : 0 ≤ x488_7
                     ·rw [if_pos c128] at H
                      have c128b0 : decide (0 ≤ x488_7) = true := decide_eq_true c128
                      clear c128
                      by_cases c129 : x488_7 < (t298.length : Int)
                      ·rw [if_pos c129] at H
                       have c129b0 : decide (x488_7 < (t298.length : Int)) = true := decide_eq_true c129
                       clear c129
                       replace H := Option.bind_eq_some_iff.mp H
                       obtain ⟨⟨t303, t304⟩, A1300, H⟩ := H
                       replace H : (if t304 = true then (laws_FnStatesCountedOfAll.l2 k7 t292 t293 t298 (wrap64 (x72_7 + t303)) t298 (t298.length : Int) (wrap64 (x488_7 + 1))) else (none)) = some r := H
                       have A130 := aM A1300
                       clear A1300
                       by_cases c131 : t304 = true
                       ·subst c131
                        have H1 : (laws_FnStatesCountedOfAll.l2 k7 t292 t293 t298 (wrap64 (x72_7 + t303)) t298 (t298.length : Int) (wrap64 (x488_7 + 1))) = some r := by rw [if_pos rfl] at H; exact H
                        clear H
                        have H := H1
                        clear H1
                        have H' := aM H
                        clear H
                        have p302 : 0 ≤ (x488_7 : Int) := of_decide_eq_true (by first | (with_reducible assumption) | assumption)
                        have q302 : x488_7 < (t298.length : Int) := of_decide_eq_true (by first | (with_reducible assumption) | assumption)
                        obtain ⟨ad302, e302, hx302_0⟩ := Kd.at_string (Kd.R_reads' HO_486.out).2.2 x488_7 p302 q302
                        cases e302
                        replace p302 := eq_true p302
                        replace q302 := eq_true q302
                        go_wp2_with (first | ((with_reducible refine gate_callee (f := 69) rfl ?_); refine goesL_ (some 494) rfl rfl Tryd.func69 (by kernel_rfl) rfl #[.string (rdOf ByteArray.empty t298 x488_7)] rfl (by (try simp only [List.map_toArray, List.map_cons, List.map_nil]); first | done | rfl | (simp only [List.length_drop, List.length_take]; rfl)) ?_; (with_reducible refine (impl_CountOn.calls (rdOf ByteArray.empty t298 x488_7) t303 true _ A130.out).mono ?_); rintro e w132 ⟨rfl, hb⟩; refine ⟨_, rfl, ?_⟩; have n0_ := aM (Kd.R_below (rU HO_70.out) hb); have n1_ := aM (Kd.R_below (rU HO_486.out) hb); have n2_ := aM (below_step (by repeat (first | (with_reducible first | exact HB.out | apply aL | apply dN | apply dR) | exact HB.out)) hb); clear HO_70; clear HO_486; clear HB; have HO_70 := n0_; have HO_486 := n1_; have HB := n2_; clear n0_ n1_ n2_; (try clear hb); (try clear hb2); (try clear hk); (try clear hi)))
                        go_roundg k7
                        case measure => have := HJ5.out; have := HJ18.out; have := HJ48.out; have := HJ74.out; have := HJ103.out; have := HJ115.out; have := HK7.out; omega
                        case rel => exact ⟨(wrap64 (x72_7 + t303)), (wrap64 (x488_7 + 1)), (by first | rfl | (simp; done) | (simp [*]; done)), (by first | rfl | (simp; done) | (simp [*]; done)), H', ⟨by have := HJ5.out; have := HJ18.out; have := HJ48.out; have := HJ74.out; have := HJ103.out; have := HJ115.out; have := HK7.out; omega⟩, ⟨by (with_reducible repeat (first | apply Kd.R_alloc | apply Kd.R_drewN | apply Kd.R_drew)); exact HO_70.out⟩, ⟨by (with_reducible repeat (first | apply Kd.R_alloc | apply Kd.R_drewN | apply Kd.R_drew)); exact HO_486.out⟩, ⟨by repeat (first | (with_reducible first | exact HB.out | apply aL | apply dN | apply dR) | exact HB.out)⟩⟩
                       ·replace c131 := Bool.eq_false_iff.mpr c131
                        subst c131
                        have H1 : (none) = some r := by rw [if_neg (show ¬ (false = true) by decide)] at H; exact H
                        clear H
                        have H := H1
                        clear H1
                        exact absurd H (by simp)
                      ·rw [if_neg c129] at H
                       exact absurd H (by simp)
                     ·rw [if_neg c128] at H
                      exact absurd H (by simp)
                    ·rw [if_neg c127] at H
                     have c127b0 : decide (x488_7 < (t298.length : Int)) = false := decide_eq_false c127
                     clear c127
                     obtain rfl := Option.some.inj H
                     go_wp2
                     go_ret
                     exact ⟨by first | rfl | (simp [errW_none, errW_some] <;> rfl) | (simp [*, errW_none, errW_some] <;> rfl), by repeat (first | (with_reducible first | exact HB.out | apply aL | apply dN | apply dR) | exact HB.out)⟩
                 ·replace c124 := Bool.eq_false_iff.mpr c124
                  subst c124
                  have H1 : (some true) = some r := by rw [if_neg (show ¬ (false = true) by decide)] at H; exact H
                  clear H
                  have H := H1
                  clear H1
                  obtain rfl := Option.some.inj H
                  go_wp2_with (first | ((with_reducible refine gate_callee (f := 76) rfl ?_); refine goesL_ (some 482) rfl rfl Tryd.func76 (by kernel_rfl) rfl #[.string a3, .string a4] rfl (by (try simp only [List.map_toArray, List.map_cons, List.map_nil]); first | done | rfl | (simp only [List.length_drop, List.length_take]; rfl)) ?_; (with_reducible refine (impl_StatesBetween.calls kj115 a3 a4 t298 false _ A123.out).mono ?_); rintro e w133 ⟨v300, rfl, ho0, hb⟩; refine ⟨_, rfl, ?_⟩; have n0_ := aM (Kd.R_lower ho0 (below_size (by repeat (first | (with_reducible first | exact HB.out | apply aL | apply dN | apply dR) | exact HB.out)))); have n1_ := aM (below_step (by repeat (first | (with_reducible first | exact HB.out | apply aL | apply dN | apply dR) | exact HB.out)) hb); clear HB; have HO301 := n0_; have HB := n1_; clear n0_ n1_; (try clear hb); (try clear hb2); (try clear hk); (try clear hi); (try clear ho0)))
                  go_ret
                  exact ⟨by first | rfl | (simp [errW_none, errW_some] <;> rfl) | (simp [*, errW_none, errW_some] <;> rfl), by repeat (first | (with_reducible first | exact HB.out | apply aL | apply dN | apply dR) | exact HB.out)⟩
                ·replace c122 := Bool.eq_false_iff.mpr c122
                 subst c122
                 have H1 : (some true) = some r := by rw [if_neg (show ¬ (false = true) by decide)] at H; exact H
                 clear H
                 have H := H1
                 clear H1
                 obtain rfl := Option.some.inj H
                 go_wp2
                 go_ret
                 exact ⟨by first | rfl | (simp [errW_none, errW_some] <;> rfl) | (simp [*, errW_none, errW_some] <;> rfl), by repeat (first | (with_reducible first | exact HB.out | apply aL | apply dN | apply dR) | exact HB.out)⟩

/-- THE ONE PURE STATEMENT of laws_FnStatesCountedOfAll: yours. -/
def laws_FnStatesCountedOfAll.Pure : Prop := ∀ (a0 : Int) (a1 : Int) (a2 : Int) (a3 : ByteArray) (a4 : ByteArray), (Lit.int .i64 a0).wf = true → (Lit.int .i64 a1).wf = true → (Lit.int .i64 a2).wf = true → a3.size ≤ 140737488351232 → a4.size ≤ 140737488351232 → ∃ k, laws_FnStatesCountedOfAll.f k a0 a1 a2 a3 a4 = some true
end Go.Proofs.YtifdgebdkhdmhaaDoor.PWCount
