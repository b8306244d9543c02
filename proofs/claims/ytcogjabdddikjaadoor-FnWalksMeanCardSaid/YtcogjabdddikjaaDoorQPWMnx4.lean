-- squeezed (sq3.py); PRINTED by drive.py (a program of this session's, over the kit's print.py; wip/tools/drive.py). Lean checks it.
import Derived.Test.YtcogjabdddikjaaDoorQPWMnx0
import Derived.Test.YtcogjabdddikjaaDoorQPWMnx2
import Derived.Test.YtcogjabdddikjaaDoorQPWMnx3
import Derived.Test.YtcogjabdddikjaaDoorQSq
namespace Go.Proofs.YtcogjabdddikjaaDoor.PWMn
open Go.RowKit Go.Proofs.YtcogjabdddikjaaDoorW.PrintWords Go.Proofs.YtcogjabdddikjaaDoorW.PrintLast Go.Proofs.YtcogjabdddikjaaDoorW.PrintMore
attribute [local go_sem] max2_int min2_int max_two min_two max_three min_three max_four min_four   -- for this text's walks alone
set_option linter.unusedVariables false
set_option linter.unusedSimpArgs false

/-! ### impl_lowest: function 80 -/
def impl_lowest.l0 : Nat → Int → Int → Int → Int → Option (Int × Int)
 | 0, _, _, _, _ => none
 | k + 1, x0, x1, x6, x7 => if x7 > 0 then (if x7 = 0 then (none) else (impl_lowest.l0 k x0 x1 x7 (Int.tmod x6 x7))) else (if x6 = 0 then (none) else (some (wrap64 (Int.tdiv x0 x6), wrap64 (Int.tdiv x1 x6))))
def impl_lowest.f (k : Nat) (a0 : Int) (a1 : Int) : Option (Int × Int) := impl_lowest.l0 k a0 a1 a0 a1
theorem impl_lowest.mono_l : ∀ k, Mo (impl_lowest.l0 k) (impl_lowest.l0 (k + 1))
 | 0 => m0
 | k + 1 => by
  have ih0 := impl_lowest.mono_l k
  (repeat refine mE fun _ => ?_) <;> first | (unfold impl_lowest.l0; exact mG)
instance impl_lowest.mI (k : Nat) : Mo (impl_lowest.f k) (impl_lowest.f (k + 1)) := by
 have ih0 := impl_lowest.mono_l k
 (repeat refine mE fun _ => ?_); unfold impl_lowest.f; exact mG
theorem impl_lowest.mono : ∀ a0 a1 k, LeO (impl_lowest.f k a0 a1) (impl_lowest.f (k + 1) a0 a1) := fun a0 a1 k => (impl_lowest.mI k).out a0 a1
set_option maxHeartbeats 8000000 in
set_option maxRecDepth 100000 in
theorem impl_lowest.calls (k : Nat) (a0 : Int) (a1 : Int) (r1 : Int) (r2 : Int) (w : World) (h : impl_lowest.f k a0 a1 = some (r1, r2)) :
  Calls Tryd.prog 80 #[.int .i64 a0, .int .i64 a1] w fun e w' => e = .returned (.tuple #[.int .i64 r1, .int .i64 r2]) ∧ Drawn0 w w' := by
 have H := h
 clear h; unfold impl_lowest.f at H
 have H' := aM H
 clear H
 go_enter Tryd.func80, Tryd.ntmps80
 go_wp2
 repeat (go_quiet (fail); try go_wp2)
 go_loopg [6, 7] k (fun kq v6 v7 w' => ∃ (x6_1 : Int) (x7_1 : Int), v6 = .int .i64 x6_1 ∧ v7 = .int .i64 x7_1 ∧ Aside0 (impl_lowest.l0 kq a0 a1 x6_1 x7_1 = some (r1, r2)) ∧ Aside0 (kq ≤ k) ∧ Drawn0 w w')
 case atStart => exact ⟨(a0), (a1), rF, rF, H', kR, d0⟩
 case round =>
  clear H'
  obtain ⟨x6_1, x7_1, rfl, rfl, HA, HK1, ⟨m1, rfl⟩⟩ := hrel
  obtain rfl | ⟨k1, rfl⟩ := fz gk
  ·exact zA HA
  have H := HA.out
  clear HA
  simp only [impl_lowest.l0] at H
  refine iI H ?_ ?_ <;> clear H <;> intro c3 H
  ·have c3b0 := gT c3
   clear c3
   refine iN H ?_; clear H; intro c4 H
   have c4b0 := qF c4
   have c4b1 := nT c4
   have H' := aM H
   clear H
   go_wp2
   repeat (go_quiet (fail); try go_wp2)
   go_roundg k1
   case measure => have := HK1.out; omega
   case rel => exact ⟨(x7_1), (Int.tmod x6_1 x7_1), rF, rF, H', ⟨by have := HK1.out; omega⟩, d0⟩
  have c3b0 := gF c3
  clear c3
  refine iN H ?_; clear H; intro c5 H
  have c5b0 := qF c5
  have c5b1 := nT c5
  simp only [Option.some.injEq, Prod.mk.injEq] at H
  obtain ⟨rfl, rfl⟩ := H
  go_wp2
  repeat (go_quiet (fail); try go_wp2)
  go_ret2
  exact ⟨rF, d0⟩

/-! ### impl_ChanceBefore: function 39 -/
def impl_ChanceBefore.j0 : Nat → ByteArray → ByteArray → ByteArray → Bool → Option (Int × Int × Bool)
 | 0, _, _, _, _ => none
 | k + 1, x0, x1, x2, x30 => if x30 = true then (some (0, 0, false)) else ((impl_number.f k x0).bind fun t216 => ((impl_number.f k x1).bind fun t217 => ((impl_number.f k x2).bind fun t218 => ((impl_apart.f t217 t218).bind fun t219 => ((impl_apart.f t216 t218).bind fun t220 => ((impl_apart.f t216 t217).bind fun t221 => (if (wrap64 (t221 + t220)) = t219 then ((impl_lowest.f k t220 t219).bind fun bt222 => (some (bt222.1, bt222.2, true))) else ((impl_apart.f t216 t217).bind fun t224 => (if t224 < t220 then (some (1, 1, true)) else (some (0, 1, true)))))))))))
def impl_ChanceBefore.f (k : Nat) (a0 : ByteArray) (a1 : ByteArray) (a2 : ByteArray) : Option (Int × Int × Bool) := (impl_alike.f a0 a1).bind fun t214 => (if t214 = true then ((impl_alike.f a1 a2).bind fun t215 => (if t215 = true then (impl_ChanceBefore.j0 k a0 a1 a2 (a1.toList == a2.toList)) else (impl_ChanceBefore.j0 k a0 a1 a2 true))) else (impl_ChanceBefore.j0 k a0 a1 a2 true))
theorem impl_ChanceBefore.mono_l : ∀ k, Mo (impl_ChanceBefore.j0 k) (impl_ChanceBefore.j0 (k + 1))
 | 0 => m0
 | k + 1 => by
  have ih0 := impl_ChanceBefore.mono_l k
  (repeat refine mE fun _ => ?_) <;> first | (unfold impl_ChanceBefore.j0; exact mG)
instance impl_ChanceBefore.mI (k : Nat) : Mo (impl_ChanceBefore.f k) (impl_ChanceBefore.f (k + 1)) := by
 have ih0 := impl_ChanceBefore.mono_l k
 (repeat refine mE fun _ => ?_); unfold impl_ChanceBefore.f; exact mG
theorem impl_ChanceBefore.mono : ∀ a0 a1 a2 k, LeO (impl_ChanceBefore.f k a0 a1 a2) (impl_ChanceBefore.f (k + 1) a0 a1 a2) := fun a0 a1 a2 k => (impl_ChanceBefore.mI k).out a0 a1 a2
set_option maxHeartbeats 8000000 in
set_option maxRecDepth 100000 in
theorem impl_ChanceBefore.calls (k : Nat) (a0 : ByteArray) (a1 : ByteArray) (a2 : ByteArray) (r1 : Int) (r2 : Int) (r3 : Bool) (w : World) (h : impl_ChanceBefore.f k a0 a1 a2 = some (r1, r2, r3)) :
  Calls Tryd.prog 39 #[.string a0, .string a1, .string a2] w fun e w' => e = .returned (.tuple #[.int .i64 r1, .int .i64 r2, .bool r3]) ∧ Below w.heap.size w w' := by
 have HB := aM (Below.refl w.heap.size w)
 have H := h
 clear h; unfold impl_ChanceBefore.f at H
 have HC4 := aM H
 clear H
 go_enter Tryd.func39, Tryd.ntmps39
 go_upto_region 1 with (fail)
 go_cut [30] (fun v30 wc => ∃ (kq : Nat) (x30_3 : Bool), v30 = .bool x30_3 ∧ Aside0 (impl_ChanceBefore.j0 kq a0 a1 a2 x30_3 = some (r1, r2, r3)) ∧ Aside0 (kq ≤ k) ∧ Aside0 (Below w.heap.size w wc))
 case first =>
  have H := HC4.out
  clear HC4
  replace H := bC H; obtain ⟨t214, A5, H⟩ := H
  refine iB H ?_ ?_ <;> clear H <;> rintro rfl H
  ·replace H := bC H; obtain ⟨t215, A7, H⟩ := H
   refine iB H ?_ ?_ <;> clear H <;> rintro rfl H
   ·have H' := aM H
    clear H
    go_wp2_with (first | ((with_reducible refine gG 84 (some 18) rfl rfl ?_); refine gC Tryd.func84 (impl_alike.calls a0 a1 true _ A5.out) ?_; rintro w9 hb; replace HB := hS HB hb; clear hb) | (go_at_call 84; (with_reducible refine (impl_alike.calls a1 a2 true _ A7.out).mono ?_); rintro e w10 ⟨rfl, hb⟩; replace HB := hS HB hb; clear hb))
    go_meet
    case rel => exact ⟨_, ((a1.toList == a2.toList)), rF, H', kL, hV HB⟩
   have H' := aM H
   clear H
   go_wp2_with (first | ((with_reducible refine gG 84 (some 18) rfl rfl ?_); refine gC Tryd.func84 (impl_alike.calls a0 a1 true _ A5.out) ?_; rintro w11 hb; replace HB := hS HB hb; clear hb) | (go_at_call 84; (with_reducible refine (impl_alike.calls a1 a2 false _ A7.out).mono ?_); rintro e w12 ⟨rfl, hb⟩; replace HB := hS HB hb; clear hb))
   go_meet
   case rel => exact ⟨_, (true), rF, H', kL, hV HB⟩
  have H' := aM H
  clear H
  go_wp2_with (first | ((with_reducible refine gG 84 (some 18) rfl rfl ?_); refine gC Tryd.func84 (impl_alike.calls a0 a1 false _ A5.out) ?_; rintro w13 hb; replace HB := hS HB hb; clear hb))
  go_meet
  case rel => exact ⟨_, (true), rF, H', kL, hV HB⟩
 case rest =>
  clear HC4
  obtain ⟨kq, x30_3, rfl, HA, HJ3, HB⟩ := hcut
  obtain rfl | ⟨kj3, rfl⟩ := fz kq
  ·exact zA HA
  have H := HA.out
  clear HA
  simp only [impl_ChanceBefore.j0] at H
  refine iB H ?_ ?_ <;> clear H <;> rintro rfl H
  ·simp only [Option.some.injEq, Prod.mk.injEq] at H
   obtain ⟨rfl, rfl, rfl⟩ := H
   go_wp2
   go_ret3
   exact ⟨eW, bel HB⟩
  replace H := bC H; obtain ⟨t216, A15, H⟩ := H
  replace H := bC H; obtain ⟨t217, A16, H⟩ := H
  replace H := bC H; obtain ⟨t218, A17, H⟩ := H
  replace H := bC H; obtain ⟨t219, A18, H⟩ := H
  replace H := bC H; obtain ⟨t220, A19, H⟩ := H
  replace H := bC H; obtain ⟨t221, A20, H⟩ := H
  refine iI H ?_ ?_ <;> clear H <;> intro c21 H
  ·have c21b0 := qT c21
   have c21b1 := nF c21
   clear c21
   replace H := bC H; obtain ⟨⟨t222, t223⟩, A22, H⟩ := H; try dsimp only at H
   simp only [Option.some.injEq, Prod.mk.injEq] at H
   obtain ⟨rfl, rfl, rfl⟩ := H
   go_wp2_with (first | ((with_reducible refine gG 75 (some 32) rfl rfl ?_); refine gL Tryd.func75 #[.string a0] ?_; (with_reducible refine (impl_number.calls kj3 a0 t216 _ A15.out).mono ?_); rintro e w' ⟨rfl, ⟨nd, rfl⟩⟩; refine ⟨_, rfl, ?_⟩) | ((with_reducible refine gG 75 (some 34) rfl rfl ?_); refine gL Tryd.func75 #[.string a1] ?_; (with_reducible refine (impl_number.calls kj3 a1 t217 _ A16.out).mono ?_); rintro e w' ⟨rfl, ⟨nd, rfl⟩⟩; refine ⟨_, rfl, ?_⟩) | ((with_reducible refine gG 75 (some 36) rfl rfl ?_); refine gL Tryd.func75 #[.string a2] ?_; (with_reducible refine (impl_number.calls kj3 a2 t218 _ A17.out).mono ?_); rintro e w' ⟨rfl, ⟨nd, rfl⟩⟩; refine ⟨_, rfl, ?_⟩) | ((with_reducible refine gG 93 (some 39) rfl rfl ?_); refine gC Tryd.func93 (impl_apart.calls t217 t218 t219 _ A18.out) ?_; rintro w23 hb; replace HB := hS HB hb; clear hb) | ((with_reducible refine gG 93 (some 42) rfl rfl ?_); refine gC Tryd.func93 (impl_apart.calls t216 t218 t220 _ A19.out) ?_; rintro w24 hb; replace HB := hS HB hb; clear hb) | ((with_reducible refine gG 93 (some 46) rfl rfl ?_); refine gC Tryd.func93 (impl_apart.calls t216 t217 t221 _ A20.out) ?_; rintro w25 hb; replace HB := hS HB hb; clear hb) | ((with_reducible refine gG 80 (some 54) rfl rfl ?_); refine gL Tryd.func80 #[.int .i64 t220, .int .i64 t219] ?_; (with_reducible refine (impl_lowest.calls kj3 t220 t219 t222 t223 _ A22.out).mono ?_); rintro e w' ⟨rfl, ⟨nd, rfl⟩⟩; refine ⟨_, rfl, ?_⟩))
   go_ret3
   exact ⟨eW, bel HB⟩
  have c21b0 := qF c21
  have c21b1 := nT c21
  replace H := bC H; obtain ⟨t224, A26, H⟩ := H
  refine iI H ?_ ?_ <;> clear H <;> intro c27 H
  ·have c27b0 := dT c27
   clear c27
   simp only [Option.some.injEq, Prod.mk.injEq] at H
   obtain ⟨rfl, rfl, rfl⟩ := H
   go_wp2_with (first | ((with_reducible refine gG 75 (some 32) rfl rfl ?_); refine gL Tryd.func75 #[.string a0] ?_; (with_reducible refine (impl_number.calls kj3 a0 t216 _ A15.out).mono ?_); rintro e w' ⟨rfl, ⟨nd, rfl⟩⟩; refine ⟨_, rfl, ?_⟩) | ((with_reducible refine gG 75 (some 34) rfl rfl ?_); refine gL Tryd.func75 #[.string a1] ?_; (with_reducible refine (impl_number.calls kj3 a1 t217 _ A16.out).mono ?_); rintro e w' ⟨rfl, ⟨nd, rfl⟩⟩; refine ⟨_, rfl, ?_⟩) | ((with_reducible refine gG 75 (some 36) rfl rfl ?_); refine gL Tryd.func75 #[.string a2] ?_; (with_reducible refine (impl_number.calls kj3 a2 t218 _ A17.out).mono ?_); rintro e w' ⟨rfl, ⟨nd, rfl⟩⟩; refine ⟨_, rfl, ?_⟩) | ((with_reducible refine gG 93 (some 39) rfl rfl ?_); refine gC Tryd.func93 (impl_apart.calls t217 t218 t219 _ A18.out) ?_; rintro w28 hb; replace HB := hS HB hb; clear hb) | ((with_reducible refine gG 93 (some 42) rfl rfl ?_); refine gC Tryd.func93 (impl_apart.calls t216 t218 t220 _ A19.out) ?_; rintro w29 hb; replace HB := hS HB hb; clear hb) | ((with_reducible refine gG 93 (some 46) rfl rfl ?_); refine gC Tryd.func93 (impl_apart.calls t216 t217 t221 _ A20.out) ?_; rintro w30 hb; replace HB := hS HB hb; clear hb) | ((with_reducible refine gG 93 (some 62) rfl rfl ?_); refine gC Tryd.func93 (impl_apart.calls t216 t217 t224 _ A26.out) ?_; rintro w31 hb; replace HB := hS HB hb; clear hb))
   go_ret3
   exact ⟨eW, bel HB⟩
  have c27b0 := dF c27
  clear c27
  simp only [Option.some.injEq, Prod.mk.injEq] at H
  obtain ⟨rfl, rfl, rfl⟩ := H
  go_wp2_with (first | ((with_reducible refine gG 75 (some 32) rfl rfl ?_); refine gL Tryd.func75 #[.string a0] ?_; (with_reducible refine (impl_number.calls kj3 a0 t216 _ A15.out).mono ?_); rintro e w' ⟨rfl, ⟨nd, rfl⟩⟩; refine ⟨_, rfl, ?_⟩) | ((with_reducible refine gG 75 (some 34) rfl rfl ?_); refine gL Tryd.func75 #[.string a1] ?_; (with_reducible refine (impl_number.calls kj3 a1 t217 _ A16.out).mono ?_); rintro e w' ⟨rfl, ⟨nd, rfl⟩⟩; refine ⟨_, rfl, ?_⟩) | ((with_reducible refine gG 75 (some 36) rfl rfl ?_); refine gL Tryd.func75 #[.string a2] ?_; (with_reducible refine (impl_number.calls kj3 a2 t218 _ A17.out).mono ?_); rintro e w' ⟨rfl, ⟨nd, rfl⟩⟩; refine ⟨_, rfl, ?_⟩) | ((with_reducible refine gG 93 (some 39) rfl rfl ?_); refine gC Tryd.func93 (impl_apart.calls t217 t218 t219 _ A18.out) ?_; rintro w32 hb; replace HB := hS HB hb; clear hb) | ((with_reducible refine gG 93 (some 42) rfl rfl ?_); refine gC Tryd.func93 (impl_apart.calls t216 t218 t220 _ A19.out) ?_; rintro w33 hb; replace HB := hS HB hb; clear hb) | ((with_reducible refine gG 93 (some 46) rfl rfl ?_); refine gC Tryd.func93 (impl_apart.calls t216 t217 t221 _ A20.out) ?_; rintro w34 hb; replace HB := hS HB hb; clear hb) | ((with_reducible refine gG 93 (some 62) rfl rfl ?_); refine gC Tryd.func93 (impl_apart.calls t216 t217 t224 _ A26.out) ?_; rintro w35 hb; replace HB := hS HB hb; clear hb))
  go_ret3
  exact ⟨eW, bel HB⟩

/-! ### spec_waLow: function 82 -/
def spec_waLow.l0 : Nat → Int → Int → Int → Int → Option (Int × Int)
 | 0, _, _, _, _ => none
 | k + 1, x0, x1, x6, x7 => if x7 > 0 then (if x7 = 0 then (none) else (spec_waLow.l0 k x0 x1 x7 (Int.tmod x6 x7))) else (if x6 = 0 then (none) else (some (wrap64 (Int.tdiv x0 x6), wrap64 (Int.tdiv x1 x6))))
def spec_waLow.f (k : Nat) (a0 : Int) (a1 : Int) : Option (Int × Int) := spec_waLow.l0 k a0 a1 a0 a1
theorem spec_waLow.mono_l : ∀ k, Mo (spec_waLow.l0 k) (spec_waLow.l0 (k + 1))
 | 0 => m0
 | k + 1 => by
  have ih0 := spec_waLow.mono_l k
  (repeat refine mE fun _ => ?_) <;> first | (unfold spec_waLow.l0; exact mG)
instance spec_waLow.mI (k : Nat) : Mo (spec_waLow.f k) (spec_waLow.f (k + 1)) := by
 have ih0 := spec_waLow.mono_l k
 (repeat refine mE fun _ => ?_); unfold spec_waLow.f; exact mG
theorem spec_waLow.mono : ∀ a0 a1 k, LeO (spec_waLow.f k a0 a1) (spec_waLow.f (k + 1) a0 a1) := fun a0 a1 k => (spec_waLow.mI k).out a0 a1
set_option maxHeartbeats 8000000 in
set_option maxRecDepth 100000 in
theorem spec_waLow.calls (k : Nat) (a0 : Int) (a1 : Int) (r1 : Int) (r2 : Int) (w : World) (h : spec_waLow.f k a0 a1 = some (r1, r2)) :
  Calls Tryd.prog 82 #[.int .i64 a0, .int .i64 a1] w fun e w' => e = .returned (.tuple #[.int .i64 r1, .int .i64 r2]) ∧ Drawn0 w w' := by
 have H := h
 clear h; unfold spec_waLow.f at H
 have H' := aM H
 clear H
 go_enter Tryd.func82, Tryd.ntmps82
 go_wp2
 repeat (go_quiet (fail); try go_wp2)
 go_loopg [6, 7] k (fun kq v6 v7 w' => ∃ (x6_1 : Int) (x7_1 : Int), v6 = .int .i64 x6_1 ∧ v7 = .int .i64 x7_1 ∧ Aside0 (spec_waLow.l0 kq a0 a1 x6_1 x7_1 = some (r1, r2)) ∧ Aside0 (kq ≤ k) ∧ Drawn0 w w')
 case atStart => exact ⟨(a0), (a1), rF, rF, H', kR, d0⟩
 case round =>
  clear H'
  obtain ⟨x6_1, x7_1, rfl, rfl, HA, HK1, ⟨m1, rfl⟩⟩ := hrel
  obtain rfl | ⟨k1, rfl⟩ := fz gk
  ·exact zA HA
  have H := HA.out
  clear HA
  simp only [spec_waLow.l0] at H
  refine iI H ?_ ?_ <;> clear H <;> intro c3 H
  ·have c3b0 := gT c3
   clear c3
   refine iN H ?_; clear H; intro c4 H
   have c4b0 := qF c4
   have c4b1 := nT c4
   have H' := aM H
   clear H
   go_wp2
   repeat (go_quiet (fail); try go_wp2)
   go_roundg k1
   case measure => have := HK1.out; omega
   case rel => exact ⟨(x7_1), (Int.tmod x6_1 x7_1), rF, rF, H', ⟨by have := HK1.out; omega⟩, d0⟩
  have c3b0 := gF c3
  clear c3
  refine iN H ?_; clear H; intro c5 H
  have c5b0 := qF c5
  have c5b1 := nT c5
  simp only [Option.some.injEq, Prod.mk.injEq] at H
  obtain ⟨rfl, rfl⟩ := H
  go_wp2
  repeat (go_quiet (fail); try go_wp2)
  go_ret2
  exact ⟨rF, d0⟩

/-! ### spec_l1Most: function 90 -/
def spec_l1Most.f (a0 : Int) (a1 : Int) : Option (Int) := if a0 > a1 then (some a0) else (some a1)
set_option maxHeartbeats 8000000 in
set_option maxRecDepth 100000 in
theorem spec_l1Most.calls (a0 : Int) (a1 : Int) (r : Int) (w : World) (h : spec_l1Most.f a0 a1 = some r) :
  Calls Tryd.prog 90 #[.int .i64 a0, .int .i64 a1] w fun e w' => e = .returned (.int .i64 r) ∧ Drawn0 w w' := by
 have H := h
 clear h; unfold spec_l1Most.f at H
 refine iI H ?_ ?_ <;> clear H <;> intro c3 H
 ·have c3b0 := gT c3
  clear c3
  obtain rfl := Option.some.inj H
  go_enter Tryd.func90, Tryd.ntmps90
  go_wp2
  go_ret
  exact ⟨rF, d0⟩
 have c3b0 := gF c3
 clear c3
 obtain rfl := Option.some.inj H
 go_enter Tryd.func90, Tryd.ntmps90
 go_wp2
 go_ret
 exact ⟨rF, d0⟩

/-! ### spec_l1Abs: function 92 -/
def spec_l1Abs.f (a0 : Int) : Option (Int) := (spec_l1Most.f a0 (wrap64 (-a0))).bind fun t225 => (some t225)
set_option maxHeartbeats 8000000 in
set_option maxRecDepth 100000 in
theorem spec_l1Abs.calls (a0 : Int) (r : Int) (w : World) (h : spec_l1Abs.f a0 = some r) :
  Calls Tryd.prog 92 #[.int .i64 a0] w fun e w' => e = .returned (.int .i64 r) ∧ Drawn0 w w' := by
 have H := h
 clear h; unfold spec_l1Abs.f at H
 replace H := bC H; obtain ⟨t225, A2, H⟩ := H
 obtain rfl := Option.some.inj H
 go_enter Tryd.func92, Tryd.ntmps92
 go_wp2_with (first | ((with_reducible refine gG 90 (some 6) rfl rfl ?_); refine gL Tryd.func90 #[.int .i64 a0, .int .i64 (wrap64 (-a0))] ?_; (with_reducible refine (spec_l1Most.calls a0 (wrap64 (-a0)) t225 _ A2.out).mono ?_); rintro e w' ⟨rfl, ⟨nd, rfl⟩⟩; refine ⟨_, rfl, ?_⟩))
 go_ret
 exact ⟨rF, d0⟩

/-! ### spec_ChanceBefore: function 40 -/
mutual
def spec_ChanceBefore.j0 : Nat → ByteArray → ByteArray → ByteArray → Bool → Option (Int × Int × Bool)
 | 0, _, _, _, _ => none
 | k + 1, x0, x1, x2, x28 => if x28 = true then (some (0, 0, false)) else ((spec_riNumber.f k x0).bind fun t228 => ((spec_riNumber.f k x1).bind fun t229 => ((spec_riNumber.f k x2).bind fun t230 => (if t228 ≤ t229 then (if t229 < t230 then (spec_ChanceBefore.j1 k t228 t229 t230 true) else (if t228 ≥ t229 then (spec_ChanceBefore.j1 k t228 t229 t230 (decide (t229 > t230))) else (spec_ChanceBefore.j1 k t228 t229 t230 false))) else (if t228 ≥ t229 then (spec_ChanceBefore.j1 k t228 t229 t230 (decide (t229 > t230))) else (spec_ChanceBefore.j1 k t228 t229 t230 false))))))
def spec_ChanceBefore.j1 : Nat → Int → Int → Int → Bool → Option (Int × Int × Bool)
 | 0, _, _, _, _ => none
 | k + 1, x9, x10, x11, x35 => if x35 = true then (some (1, 1, true)) else (if x9 ≤ x11 then (if x11 < x10 then (spec_ChanceBefore.j2 k x9 x10 x11 true) else (if x9 ≥ x11 then (spec_ChanceBefore.j2 k x9 x10 x11 (decide (x11 > x10))) else (spec_ChanceBefore.j2 k x9 x10 x11 false))) else (if x9 ≥ x11 then (spec_ChanceBefore.j2 k x9 x10 x11 (decide (x11 > x10))) else (spec_ChanceBefore.j2 k x9 x10 x11 false)))
def spec_ChanceBefore.j2 : Nat → Int → Int → Int → Bool → Option (Int × Int × Bool)
 | 0, _, _, _, _ => none
 | k + 1, x9, x10, x11, x54 => if x54 = true then (some (0, 1, true)) else ((spec_l1Abs.f (wrap64 (x11 - x9))).bind fun t231 => ((spec_l1Abs.f (wrap64 (x11 - x10))).bind fun t232 => ((spec_waLow.f k t231 t232).bind fun bt233 => (some (bt233.1, bt233.2, true)))))
end
def spec_ChanceBefore.f (k : Nat) (a0 : ByteArray) (a1 : ByteArray) (a2 : ByteArray) : Option (Int × Int × Bool) := (spec_riTwo.f k a0 a1).bind fun t226 => (if t226 = true then ((spec_riTwo.f k a0 a2).bind fun t227 => (if t227 = true then (spec_ChanceBefore.j0 k a0 a1 a2 (a1.toList == a2.toList)) else (spec_ChanceBefore.j0 k a0 a1 a2 true))) else (spec_ChanceBefore.j0 k a0 a1 a2 true))
theorem spec_ChanceBefore.mono_l : ∀ k, Mo (spec_ChanceBefore.j0 k) (spec_ChanceBefore.j0 (k + 1)) ∧ Mo (spec_ChanceBefore.j1 k) (spec_ChanceBefore.j1 (k + 1)) ∧ Mo (spec_ChanceBefore.j2 k) (spec_ChanceBefore.j2 (k + 1))
 | 0 => m0
 | k + 1 => by
  have ⟨ih0, ih1, ih2⟩ := spec_ChanceBefore.mono_l k
  refine ⟨?_, ?_, ?_⟩ <;> (repeat refine mE fun _ => ?_) <;> first | (unfold spec_ChanceBefore.j0; exact mG) | (unfold spec_ChanceBefore.j1; exact mG) | (unfold spec_ChanceBefore.j2; exact mG)
instance spec_ChanceBefore.mI (k : Nat) : Mo (spec_ChanceBefore.f k) (spec_ChanceBefore.f (k + 1)) := by
 have ⟨ih0, ih1, ih2⟩ := spec_ChanceBefore.mono_l k
 (repeat refine mE fun _ => ?_); unfold spec_ChanceBefore.f; exact mG
theorem spec_ChanceBefore.mono : ∀ a0 a1 a2 k, LeO (spec_ChanceBefore.f k a0 a1 a2) (spec_ChanceBefore.f (k + 1) a0 a1 a2) := fun a0 a1 a2 k => (spec_ChanceBefore.mI k).out a0 a1 a2
set_option maxHeartbeats 8000000 in
set_option maxRecDepth 100000 in
theorem spec_ChanceBefore.calls (k : Nat) (a0 : ByteArray) (a1 : ByteArray) (a2 : ByteArray) (r1 : Int) (r2 : Int) (r3 : Bool) (w : World) (h : spec_ChanceBefore.f k a0 a1 a2 = some (r1, r2, r3)) :
  Calls Tryd.prog 40 #[.string a0, .string a1, .string a2] w fun e w' => e = .returned (.tuple #[.int .i64 r1, .int .i64 r2, .bool r3]) ∧ Drawn0 w w' := by
 have H := h
 clear h; unfold spec_ChanceBefore.f at H
 have HC4 := aM H
 clear H
 go_enter Tryd.func40, Tryd.ntmps40
 go_upto_region 1 with (fail)
 go_cut [28] (fun v28 wc => ∃ (kq : Nat) (x28_3 : Bool), v28 = .bool x28_3 ∧ Aside0 (spec_ChanceBefore.j0 kq a0 a1 a2 x28_3 = some (r1, r2, r3)) ∧ Aside0 (kq ≤ k) ∧ Drawn0 w wc)
 case first =>
  have H := HC4.out
  clear HC4
  replace H := bC H; obtain ⟨t226, A5, H⟩ := H
  refine iB H ?_ ?_ <;> clear H <;> rintro rfl H
  ·replace H := bC H; obtain ⟨t227, A7, H⟩ := H
   refine iB H ?_ ?_ <;> clear H <;> rintro rfl H
   ·have H' := aM H
    clear H
    go_wp2_with (first | ((with_reducible refine gG 87 (some 16) rfl rfl ?_); refine gL Tryd.func87 #[.string a0, .string a1] ?_; (with_reducible refine (spec_riTwo.calls k a0 a1 true _ A5.out).mono ?_); rintro e w' ⟨rfl, ⟨nd, rfl⟩⟩; refine ⟨_, rfl, ?_⟩) | (go_at_call 87; (with_reducible refine (spec_riTwo.calls k a0 a2 true _ A7.out).mono ?_); rintro e w' ⟨rfl, ⟨nd, rfl⟩⟩))
    go_meet
    case rel => exact ⟨_, ((a1.toList == a2.toList)), rF, H', kL, d0⟩
   have H' := aM H
   clear H
   go_wp2_with (first | ((with_reducible refine gG 87 (some 16) rfl rfl ?_); refine gL Tryd.func87 #[.string a0, .string a1] ?_; (with_reducible refine (spec_riTwo.calls k a0 a1 true _ A5.out).mono ?_); rintro e w' ⟨rfl, ⟨nd, rfl⟩⟩; refine ⟨_, rfl, ?_⟩) | (go_at_call 87; (with_reducible refine (spec_riTwo.calls k a0 a2 false _ A7.out).mono ?_); rintro e w' ⟨rfl, ⟨nd, rfl⟩⟩))
   go_meet
   case rel => exact ⟨_, (true), rF, H', kL, d0⟩
  have H' := aM H
  clear H
  go_wp2_with (first | ((with_reducible refine gG 87 (some 16) rfl rfl ?_); refine gL Tryd.func87 #[.string a0, .string a1] ?_; (with_reducible refine (spec_riTwo.calls k a0 a1 false _ A5.out).mono ?_); rintro e w' ⟨rfl, ⟨nd, rfl⟩⟩; refine ⟨_, rfl, ?_⟩))
  go_meet
  case rel => exact ⟨_, (true), rF, H', kL, d0⟩
 case rest =>
  clear HC4
  obtain ⟨kq, x28_3, rfl, HA, HJ3, ⟨mc3, rfl⟩⟩ := hcut
  obtain rfl | ⟨kj3, rfl⟩ := fz kq
  ·exact zA HA
  have H := HA.out
  clear HA
  simp only [spec_ChanceBefore.j0] at H
  refine iB H ?_ ?_ <;> clear H <;> rintro rfl H
  ·simp only [Option.some.injEq, Prod.mk.injEq] at H
   obtain ⟨rfl, rfl, rfl⟩ := H
   go_wp2
   go_ret3
   exact ⟨rF, d0⟩
  replace H := bC H; obtain ⟨t228, A10, H⟩ := H
  replace H := bC H; obtain ⟨t229, A11, H⟩ := H
  replace H := bC H; obtain ⟨t230, A12, H⟩ := H
  have HC13 := aM H
  clear H
  go_upto_region 4 with (first | ((with_reducible refine gG 98 (some 30) rfl rfl ?_); refine gL Tryd.func98 #[.string a0] ?_; (with_reducible refine (spec_riNumber.calls kj3 a0 t228 _ A10.out).mono ?_); rintro e w' ⟨rfl, ⟨nd, rfl⟩⟩; refine ⟨_, rfl, ?_⟩) | ((with_reducible refine gG 98 (some 32) rfl rfl ?_); refine gL Tryd.func98 #[.string a1] ?_; (with_reducible refine (spec_riNumber.calls kj3 a1 t229 _ A11.out).mono ?_); rintro e w' ⟨rfl, ⟨nd, rfl⟩⟩; refine ⟨_, rfl, ?_⟩) | ((with_reducible refine gG 98 (some 34) rfl rfl ?_); refine gL Tryd.func98 #[.string a2] ?_; (with_reducible refine (spec_riNumber.calls kj3 a2 t230 _ A12.out).mono ?_); rintro e w' ⟨rfl, ⟨nd, rfl⟩⟩; refine ⟨_, rfl, ?_⟩))
  (try simp only [Act.put, List.setIfInBounds_toArray, List.set_cons_zero, List.set_cons_succ])
  go_cut [35] (fun v35 wc => ∃ (kq : Nat) (x35_12 : Bool), v35 = .bool x35_12 ∧ Aside0 (spec_ChanceBefore.j1 kq t228 t229 t230 x35_12 = some (r1, r2, r3)) ∧ Aside0 (kq ≤ kj3) ∧ Drawn0 w wc)
  case first =>
   have H := HC13.out
   clear HC13
   refine iI H ?_ ?_ <;> clear H <;> intro c14 H
   ·have c14b0 := dT c14
    clear c14
    (first | rw [c14b0] | (simp only [i64_w, i32_w]; rw [c14b0]) | skip)
    refine iI H ?_ ?_ <;> clear H <;> intro c15 H
    ·have c15b0 := dT c15
     clear c15
     have H' := aM H
     clear H
     go_wp2
     go_meet
     case rel => exact ⟨_, (true), rF, H', ⟨by have := HJ3.out; first | omega | exact Nat.le_refl _⟩, d0⟩
    have c15b0 := dF c15
    clear c15
    refine iI H ?_ ?_ <;> clear H <;> intro c16 H
    ·have c16b0 := hT c16
     clear c16
     have H' := aM H
     clear H
     go_wp2
     go_meet
     case rel => exact ⟨_, (decide (t229 > t230)), rF, H', ⟨by have := HJ3.out; first | omega | exact Nat.le_refl _⟩, d0⟩
    have c16b0 := hF c16
    clear c16
    have H' := aM H
    clear H
    go_wp2
    go_meet
    case rel => exact ⟨_, (false), rF, H', ⟨by have := HJ3.out; first | omega | exact Nat.le_refl _⟩, d0⟩
   have c14b0 := dF c14
   clear c14
   (first | rw [c14b0] | (simp only [i64_w, i32_w]; rw [c14b0]) | skip)
   refine iI H ?_ ?_ <;> clear H <;> intro c17 H
   ·have c17b0 := hT c17
    clear c17
    have H' := aM H
    clear H
    go_wp2
    go_meet
    case rel => exact ⟨_, (decide (t229 > t230)), rF, H', ⟨by have := HJ3.out; first | omega | exact Nat.le_refl _⟩, d0⟩
   have c17b0 := hF c17
   clear c17
   have H' := aM H
   clear H
   go_wp2
   go_meet
   case rel => exact ⟨_, (false), rF, H', ⟨by have := HJ3.out; first | omega | exact Nat.le_refl _⟩, d0⟩
  case rest =>
   clear HC13
   obtain ⟨kq, x35_12, rfl, HA, HJ12, ⟨mc12, rfl⟩⟩ := hcut
   obtain rfl | ⟨kj12, rfl⟩ := fz kq
   ·exact zA HA
   have H := HA.out
   clear HA
   simp only [spec_ChanceBefore.j1] at H
   refine iB H ?_ ?_ <;> clear H <;> rintro rfl H
   ·simp only [Option.some.injEq, Prod.mk.injEq] at H
    obtain ⟨rfl, rfl, rfl⟩ := H
    go_wp2
    go_ret3
    exact ⟨rF, d0⟩
   have HC19 := aM H
   clear H
   go_upto_region 6 with (fail)
   go_cut [54] (fun v54 wc => ∃ (kq : Nat) (x54_18 : Bool), v54 = .bool x54_18 ∧ Aside0 (spec_ChanceBefore.j2 kq t228 t229 t230 x54_18 = some (r1, r2, r3)) ∧ Aside0 (kq ≤ kj12) ∧ Drawn0 w wc)
   case first =>
    have H := HC19.out
    clear HC19
    refine iI H ?_ ?_ <;> clear H <;> intro c20 H
    ·have c20b0 := dT c20
     clear c20
     (first | rw [c20b0] | (simp only [i64_w, i32_w]; rw [c20b0]) | skip)
     refine iI H ?_ ?_ <;> clear H <;> intro c21 H
     ·have c21b0 := dT c21
      clear c21
      have H' := aM H
      clear H
      go_wp2
      go_meet
      case rel => exact ⟨_, (true), rF, H', ⟨by have := HJ3.out; have := HJ12.out; first | omega | exact Nat.le_refl _⟩, d0⟩
     have c21b0 := dF c21
     clear c21
     refine iI H ?_ ?_ <;> clear H <;> intro c22 H
     ·have c22b0 := hT c22
      clear c22
      have H' := aM H
      clear H
      go_wp2
      go_meet
      case rel => exact ⟨_, (decide (t230 > t229)), rF, H', ⟨by have := HJ3.out; have := HJ12.out; first | omega | exact Nat.le_refl _⟩, d0⟩
     have c22b0 := hF c22
     clear c22
     have H' := aM H
     clear H
     go_wp2
     go_meet
     case rel => exact ⟨_, (false), rF, H', ⟨by have := HJ3.out; have := HJ12.out; first | omega | exact Nat.le_refl _⟩, d0⟩
    have c20b0 := dF c20
    clear c20
    (first | rw [c20b0] | (simp only [i64_w, i32_w]; rw [c20b0]) | skip)
    refine iI H ?_ ?_ <;> clear H <;> intro c23 H
    ·have c23b0 := hT c23
     clear c23
     have H' := aM H
     clear H
     go_wp2
     go_meet
     case rel => exact ⟨_, (decide (t230 > t229)), rF, H', ⟨by have := HJ3.out; have := HJ12.out; first | omega | exact Nat.le_refl _⟩, d0⟩
    have c23b0 := hF c23
    clear c23
    have H' := aM H
    clear H
    go_wp2
    go_meet
    case rel => exact ⟨_, (false), rF, H', ⟨by have := HJ3.out; have := HJ12.out; first | omega | exact Nat.le_refl _⟩, d0⟩
   case rest =>
    clear HC19
    obtain ⟨kq, x54_18, rfl, HA, HJ18, ⟨mc18, rfl⟩⟩ := hcut
    obtain rfl | ⟨kj18, rfl⟩ := fz kq
    ·exact zA HA
    have H := HA.out
    clear HA
    simp only [spec_ChanceBefore.j2] at H
    refine iB H ?_ ?_ <;> clear H <;> rintro rfl H
    ·simp only [Option.some.injEq, Prod.mk.injEq] at H
     obtain ⟨rfl, rfl, rfl⟩ := H
     go_wp2
     go_ret3
     exact ⟨rF, d0⟩
    replace H := bC H; obtain ⟨t231, A25, H⟩ := H
    replace H := bC H; obtain ⟨t232, A26, H⟩ := H
    replace H := bC H; obtain ⟨⟨t233, t234⟩, A27, H⟩ := H; try dsimp only at H
    simp only [Option.some.injEq, Prod.mk.injEq] at H
    obtain ⟨rfl, rfl, rfl⟩ := H
    go_wp2_with (first | ((with_reducible refine gG 92 (some 77) rfl rfl ?_); refine gL Tryd.func92 #[.int .i64 (wrap64 (t230 - t228))] ?_; (with_reducible refine (spec_l1Abs.calls (wrap64 (t230 - t228)) t231 _ A25.out).mono ?_); rintro e w' ⟨rfl, ⟨nd, rfl⟩⟩; refine ⟨_, rfl, ?_⟩) | ((with_reducible refine gG 92 (some 81) rfl rfl ?_); refine gL Tryd.func92 #[.int .i64 (wrap64 (t230 - t229))] ?_; (with_reducible refine (spec_l1Abs.calls (wrap64 (t230 - t229)) t232 _ A26.out).mono ?_); rintro e w' ⟨rfl, ⟨nd, rfl⟩⟩; refine ⟨_, rfl, ?_⟩) | ((with_reducible refine gG 82 (some 82) rfl rfl ?_); refine gL Tryd.func82 #[.int .i64 t231, .int .i64 t232] ?_; (with_reducible refine (spec_waLow.calls kj18 t231 t232 t233 t234 _ A27.out).mono ?_); rintro e w' ⟨rfl, ⟨nd, rfl⟩⟩; refine ⟨_, rfl, ?_⟩))
    go_ret3
    exact ⟨rF, d0⟩

end Go.Proofs.YtcogjabdddikjaaDoor.PWMn
