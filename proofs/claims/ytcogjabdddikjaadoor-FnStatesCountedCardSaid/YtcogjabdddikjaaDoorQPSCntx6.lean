-- squeezed (sq3.py); PRINTED by drive.py (a program of this session's, over the kit's print.py; wip/tools/drive.py). Lean checks it.
import Derived.Test.YtcogjabdddikjaaDoorQPSCntx0
import Derived.Test.YtcogjabdddikjaaDoorQPSCntx1
import Derived.Test.YtcogjabdddikjaaDoorQPSCntx2
import Derived.Test.YtcogjabdddikjaaDoorQPSCntx3
import Derived.Test.YtcogjabdddikjaaDoorQPSCntx4
import Derived.Test.YtcogjabdddikjaaDoorQPSCntx5
import Derived.Test.YtcogjabdddikjaaDoorQSq
namespace Go.Proofs.YtcogjabdddikjaaDoor.PSCnt
open Go.RowKit Go.Proofs.YtcogjabdddikjaaDoorW.PrintWords Go.Proofs.YtcogjabdddikjaaDoorW.PrintLast Go.Proofs.YtcogjabdddikjaaDoorW.PrintMore
attribute [local go_sem] max2_int min2_int max_two min_two max_three min_three max_four min_four   -- for this text's walks alone
set_option linter.unusedVariables false
set_option linter.unusedSimpArgs false

/-! ### spec_riNumber: function 98 -/
def spec_riNumber.l0 : Nat → ByteArray → Int → Int → Int → Option (Int)
 | 0, _, _, _, _ => none
 | k + 1, x0, x3, x4, x5 => if x5 ≥ 0 then (if 0 ≤ x5 then (if x5 < (x0.size : Int) then (if (bt x0 x5) = 49 then (spec_riNumber.l0 k x0 (wrap64 ((wrap64 (2 * x3)) + (wrap64 (1 - x4)))) (wrap64 (1 - x4)) (wrap64 (x5 - 1))) else (spec_riNumber.l0 k x0 (wrap64 ((wrap64 (2 * x3)) + x4)) x4 (wrap64 (x5 - 1)))) else (none)) else (none)) else (some x3)
def spec_riNumber.f (k : Nat) (a0 : ByteArray) : Option (Int) := spec_riNumber.l0 k a0 0 0 (wrap64 ((a0.size : Int) - 1))
theorem spec_riNumber.mono_l : ∀ k, Mo (spec_riNumber.l0 k) (spec_riNumber.l0 (k + 1))
 | 0 => m0
 | k + 1 => by
  have ih0 := spec_riNumber.mono_l k
  (repeat refine mE fun _ => ?_) <;> first | (unfold spec_riNumber.l0; exact mG)
instance spec_riNumber.mI (k : Nat) : Mo (spec_riNumber.f k) (spec_riNumber.f (k + 1)) := by
 have ih0 := spec_riNumber.mono_l k
 (repeat refine mE fun _ => ?_); unfold spec_riNumber.f; exact mG
theorem spec_riNumber.mono : ∀ a0 k, LeO (spec_riNumber.f k a0) (spec_riNumber.f (k + 1) a0) := fun a0 k => (spec_riNumber.mI k).out a0
set_option maxHeartbeats 8000000 in
set_option maxRecDepth 100000 in
theorem spec_riNumber.calls (k : Nat) (a0 : ByteArray) (r : Int) (w : World) (h : spec_riNumber.f k a0 = some r) :
  Calls Tryd.prog 98 #[.string a0] w fun e w' => e = .returned (.int .i64 r) ∧ Drawn0 w w' := by
 have H := h
 clear h; unfold spec_riNumber.f at H
 have H' := aM H
 clear H
 go_enter Tryd.func98, Tryd.ntmps98
 go_wp2
 go_loopg [3, 4, 5] k (fun kq v3 v4 v5 w' => ∃ (x3_1 : Int) (x4_1 : Int) (x5_1 : Int), v3 = .int .i64 x3_1 ∧ v4 = .int .i64 x4_1 ∧ v5 = .int .i64 x5_1 ∧ Aside0 (spec_riNumber.l0 kq a0 x3_1 x4_1 x5_1 = some r) ∧ Aside0 (kq ≤ k) ∧ Drawn0 w w')
 case atStart => exact ⟨(0), (0), (wrap64 ((a0.size : Int) - 1)), rF, rF, rF, H', kR, d0⟩
 case round =>
  clear H'
  obtain ⟨x3_1, x4_1, x5_1, rfl, rfl, rfl, HA, HK1, ⟨m1, rfl⟩⟩ := hrel
  obtain rfl | ⟨k1, rfl⟩ := fz gk
  ·exact zA HA
  have H := HA.out
  clear HA
  simp only [spec_riNumber.l0] at H
  refine iI H ?_ ?_ <;> clear H <;> intro c2 H
  ·have c2b0 := hT c2
   clear c2
   refine iY H ?_; clear H; intro c3 H
   have c3b0 := dT c3
   clear c3
   refine iY H ?_; clear H; intro c4 H
   have c4b0 := dT c4
   clear c4
   refine iI H ?_ ?_ <;> clear H <;> intro c6 H
   ·have c6b0 := qT c6
    have c6b1 := nF c6
    clear c6
    have H' := aM H
    clear H
    have p5 : 0 ≤ (x5_1 : Int) := oD
    have q5 : x5_1 < (a0.size : Int) := oD
    have hx5 := bt_at a0 x5_1
    replace p5 := eq_true p5
    replace q5 := eq_true q5
    go_wp2
    go_roundg k1
    case measure => have := HK1.out; omega
    case rel => exact ⟨(wrap64 ((wrap64 (2 * x3_1)) + (wrap64 (1 - x4_1)))), (wrap64 (1 - x4_1)), (wrap64 (x5_1 - 1)), rF, rF, rF, H', ⟨by have := HK1.out; omega⟩, d0⟩
   have c6b0 := qF c6
   have c6b1 := nT c6
   have H' := aM H
   clear H
   have p5 : 0 ≤ (x5_1 : Int) := oD
   have q5 : x5_1 < (a0.size : Int) := oD
   have hx5 := bt_at a0 x5_1
   replace p5 := eq_true p5
   replace q5 := eq_true q5
   go_wp2
   go_roundg k1
   case measure => have := HK1.out; omega
   case rel => exact ⟨(wrap64 ((wrap64 (2 * x3_1)) + x4_1)), (x4_1), (wrap64 (x5_1 - 1)), rF, rF, rF, H', ⟨by have := HK1.out; omega⟩, d0⟩
  have c2b0 := hF c2
  clear c2
  obtain rfl := Option.some.inj H
  go_wp2
  go_ret
  exact ⟨rF, d0⟩

/-! ### spec_waNumbers: function 88 -/
def spec_waNumbers.f (k : Nat) (a0 : ByteArray) (a1 : ByteArray) : Option (Int × Int × Int) := (spec_riNumber.f k a0).bind fun t290 => ((spec_riNumber.f k a1).bind fun t291 => (some (t290, t291, wrap64 ((shl .i64 1 (a0.size : Int)) - 1))))
instance spec_waNumbers.mI (k : Nat) : Mo (spec_waNumbers.f k) (spec_waNumbers.f (k + 1)) := by
 (repeat refine mE fun _ => ?_); unfold spec_waNumbers.f; exact mG
theorem spec_waNumbers.mono : ∀ a0 a1 k, LeO (spec_waNumbers.f k a0 a1) (spec_waNumbers.f (k + 1) a0 a1) := fun a0 a1 k => (spec_waNumbers.mI k).out a0 a1
set_option maxHeartbeats 8000000 in
set_option maxRecDepth 100000 in
theorem spec_waNumbers.calls (k : Nat) (a0 : ByteArray) (a1 : ByteArray) (r1 : Int) (r2 : Int) (r3 : Int) (w : World) (h : spec_waNumbers.f k a0 a1 = some (r1, r2, r3)) :
  Calls Tryd.prog 88 #[.string a0, .string a1] w fun e w' => e = .returned (.tuple #[.int .i64 r1, .int .i64 r2, .int .i64 r3]) ∧ Drawn0 w w' := by
 have H := h
 clear h; unfold spec_waNumbers.f at H
 replace H := bC H; obtain ⟨t290, A3, H⟩ := H
 replace H := bC H; obtain ⟨t291, A4, H⟩ := H
 obtain ⟨ji5, hji5⟩ := jN (shl .i64 1 (a0.size : Int))
 first | rw [hji5] at H | simp only [hji5] at H
 (try rw [hji5] at A3)
 (try rw [hji5] at A4)
 have hji5_ : (IntKind.i64.wrap (1 * 2 ^ min (a0.size : Int).toNat 64)) = ji5 := hji5
 have hji5z : (a0.size : Int) ≤ 64 → (IntKind.i64.wrap (1 * 2 ^ (a0.size : Int).toNat)) = ji5 := shl_small hji5
 have hji5u : (IntKind.i64.wrap (2 ^ min (a0.size : Int).toNat 64)) = ji5 := by have h_ := hji5_; rw [Int.one_mul] at h_; exact h_
 have hji5v : (a0.size : Int) ≤ 64 → (IntKind.i64.wrap (2 ^ (a0.size : Int).toNat)) = ji5 := fun hle_ => by have h_ := hji5z hle_; rw [Int.one_mul] at h_; exact h_
 have hji5y : (wrap64 (1 * 2 ^ min (a0.size : Int).toNat 64)) = ji5 := (i64_w _).symm.trans hji5_
 have hji5q : wrap64 (2 ^ min a0.size 64) = ji5 := by have h_ := hji5y; rw [Int.one_mul, Int.toNat_natCast] at h_; exact h_
 have hji5p : IntKind.i64.wrap (2 ^ min a0.size 64) = ji5 := by have h_ := hji5u; rw [Int.toNat_natCast] at h_; exact h_
 have hji5x : (a0.size : Int) ≤ 64 → (wrap64 (1 * 2 ^ (a0.size : Int).toNat)) = ji5 := fun h_ => (i64_w _).symm.trans (hji5z h_)
 simp only [Option.some.injEq, Prod.mk.injEq] at H
 obtain ⟨rfl, rfl, rfl⟩ := H
 go_enter Tryd.func88, Tryd.ntmps88
 go_wp2_with (first | (go_at_call 98; (with_reducible refine (spec_riNumber.calls k a0 t290 _ A3.out).mono ?_); rintro e w' ⟨rfl, ⟨nd, rfl⟩⟩; (try exact nd2)) | (go_at_call 98; (with_reducible refine (spec_riNumber.calls k a1 t291 _ A4.out).mono ?_); rintro e w' ⟨rfl, ⟨nd, rfl⟩⟩; (try exact nd2)))
 repeat (go_quiet (first | (go_at_call 98; (with_reducible refine (spec_riNumber.calls k a0 t290 _ A3.out).mono ?_); rintro e w' ⟨rfl, ⟨nd, rfl⟩⟩; (try exact nd2)) | (go_at_call 98; (with_reducible refine (spec_riNumber.calls k a1 t291 _ A4.out).mono ?_); rintro e w' ⟨rfl, ⟨nd, rfl⟩⟩; (try exact nd2))); try go_wp2_with (first | (go_at_call 98; (with_reducible refine (spec_riNumber.calls k a0 t290 _ A3.out).mono ?_); rintro e w' ⟨rfl, ⟨nd, rfl⟩⟩; (try exact nd2)) | (go_at_call 98; (with_reducible refine (spec_riNumber.calls k a1 t291 _ A4.out).mono ?_); rintro e w' ⟨rfl, ⟨nd, rfl⟩⟩; (try exact nd2))))
 go_ret3
 exact ⟨by first | rfl | (simp; done) | (simp only [← hji5] <;> (first | rfl | simp)) | (simp [*]; done), d0⟩

/-! ### spec_l1Least: function 89 -/
def spec_l1Least.f (a0 : Int) (a1 : Int) : Option (Int) := if a0 < a1 then (some a0) else (some a1)
set_option maxHeartbeats 8000000 in
set_option maxRecDepth 100000 in
theorem spec_l1Least.calls (a0 : Int) (a1 : Int) (r : Int) (w : World) (h : spec_l1Least.f a0 a1 = some r) :
  Calls Tryd.prog 89 #[.int .i64 a0, .int .i64 a1] w fun e w' => e = .returned (.int .i64 r) ∧ Drawn0 w w' := by
 have H := h
 clear h; unfold spec_l1Least.f at H
 refine iI H ?_ ?_ <;> clear H <;> intro c3 H
 ·have c3b0 := dT c3
  clear c3
  obtain rfl := Option.some.inj H
  go_enter Tryd.func89, Tryd.ntmps89
  go_wp2
  go_ret
  exact ⟨rF, d0⟩
 have c3b0 := dF c3
 clear c3
 obtain rfl := Option.some.inj H
 go_enter Tryd.func89, Tryd.ntmps89
 go_wp2
 go_ret
 exact ⟨rF, d0⟩

/-! ### spec_l1Most: function 90 -/
def spec_l1Most.f (a0 : Int) (a1 : Int) : Option (Int) := if a0 > a1 then (some a0) else (some a1)
set_option maxHeartbeats 8000000 in
set_option maxRecDepth 100000 in
theorem spec_l1Most.calls (a0 : Int) (a1 : Int) (r : Int) (w : World) (h : spec_l1Most.f a0 a1 = some r) :
  Calls Tryd.prog 90 #[.int .i64 a0, .int .i64 a1] w fun e w' => e = .returned (.int .i64 r) ∧ Drawn0 w w' := by
 have H := h
 clear h; unfold spec_l1Most.f at H
 refine iI H ?_ ?_ <;> clear H <;> intro c3 H
 ·have c3b0 := gT c3
  clear c3
  obtain rfl := Option.some.inj H
  go_enter Tryd.func90, Tryd.ntmps90
  go_wp2
  go_ret
  exact ⟨rF, d0⟩
 have c3b0 := gF c3
 clear c3
 obtain rfl := Option.some.inj H
 go_enter Tryd.func90, Tryd.ntmps90
 go_wp2
 go_ret
 exact ⟨rF, d0⟩

/-! ### spec_l1Abs: function 92 -/
def spec_l1Abs.f (a0 : Int) : Option (Int) := (spec_l1Most.f a0 (wrap64 (-a0))).bind fun t292 => (some t292)
set_option maxHeartbeats 8000000 in
set_option maxRecDepth 100000 in
theorem spec_l1Abs.calls (a0 : Int) (r : Int) (w : World) (h : spec_l1Abs.f a0 = some r) :
  Calls Tryd.prog 92 #[.int .i64 a0] w fun e w' => e = .returned (.int .i64 r) ∧ Drawn0 w w' := by
 have H := h
 clear h; unfold spec_l1Abs.f at H
 replace H := bC H; obtain ⟨t292, A2, H⟩ := H
 obtain rfl := Option.some.inj H
 go_enter Tryd.func92, Tryd.ntmps92
 go_wp2_with (first | ((with_reducible refine gG 90 (some 6) rfl rfl ?_); refine gL Tryd.func90 #[.int .i64 a0, .int .i64 (wrap64 (-a0))] ?_; (with_reducible refine (spec_l1Most.calls a0 (wrap64 (-a0)) t292 _ A2.out).mono ?_); rintro e w' ⟨rfl, ⟨nd, rfl⟩⟩; refine ⟨_, rfl, ?_⟩))
 go_ret
 exact ⟨rF, d0⟩

/-! ### spec_MeanOnAlong: function 28 -/
mutual
def spec_MeanOnAlong.j0 : Nat → ByteArray → ByteArray → Bool → Option (Int × Int × Bool)
 | 0, _, _, _ => none
 | k + 1, x0, x1, x22 => if x22 = true then (some (0, 0, false)) else ((spec_waNumbers.f k x0 x1).bind fun bt294 => ((spec_l1Least.f bt294.1 bt294.2.1).bind fun t297 => (spec_MeanOnAlong.l0 k x0 bt294.1 bt294.2.1 0 t297)))
def spec_MeanOnAlong.l0 : Nat → ByteArray → Int → Int → Int → Int → Option (Int × Int × Bool)
 | 0, _, _, _, _, _ => none
 | k + 1, x0, x7, x8, x10, x11 => (spec_l1Most.f x7 x8).bind fun t298 => (if x11 ≤ t298 then ((spec_riState.f k (x0.size : Int) x11).bind fun t299 => ((spec_riOn.f k t299).bind fun t300 => (spec_MeanOnAlong.l0 k x0 x7 x8 (wrap64 (x10 + t300)) (wrap64 (x11 + 1))))) else ((spec_l1Abs.f (wrap64 (x7 - x8))).bind fun t301 => ((spec_waLow.f k x10 (wrap64 (t301 + 1))).bind fun bt302 => (some (bt302.1, bt302.2, true)))))
end
def spec_MeanOnAlong.f (k : Nat) (a0 : ByteArray) (a1 : ByteArray) : Option (Int × Int × Bool) := (spec_riTwo.f k a0 a1).bind fun t293 => (if t293 = true then (spec_MeanOnAlong.j0 k a0 a1 (decide ((a0.size : Int) > 12))) else (spec_MeanOnAlong.j0 k a0 a1 true))
theorem spec_MeanOnAlong.mono_l : ∀ k, Mo (spec_MeanOnAlong.j0 k) (spec_MeanOnAlong.j0 (k + 1)) ∧ Mo (spec_MeanOnAlong.l0 k) (spec_MeanOnAlong.l0 (k + 1))
 | 0 => m0
 | k + 1 => by
  have ⟨ih0, ih1⟩ := spec_MeanOnAlong.mono_l k
  refine ⟨?_, ?_⟩ <;> (repeat refine mE fun _ => ?_) <;> first | (unfold spec_MeanOnAlong.j0; exact mG) | (unfold spec_MeanOnAlong.l0; exact mG)
instance spec_MeanOnAlong.mI (k : Nat) : Mo (spec_MeanOnAlong.f k) (spec_MeanOnAlong.f (k + 1)) := by
 have ⟨ih0, ih1⟩ := spec_MeanOnAlong.mono_l k
 (repeat refine mE fun _ => ?_); unfold spec_MeanOnAlong.f; exact mG
theorem spec_MeanOnAlong.mono : ∀ a0 a1 k, LeO (spec_MeanOnAlong.f k a0 a1) (spec_MeanOnAlong.f (k + 1) a0 a1) := fun a0 a1 k => (spec_MeanOnAlong.mI k).out a0 a1
set_option maxHeartbeats 8000000 in
set_option maxRecDepth 100000 in
theorem spec_MeanOnAlong.calls (k : Nat) (a0 : ByteArray) (a1 : ByteArray) (r1 : Int) (r2 : Int) (r3 : Bool) (w : World) (h : spec_MeanOnAlong.f k a0 a1 = some (r1, r2, r3)) :
  Calls Tryd.prog 28 #[.string a0, .string a1] w fun e w' => e = .returned (.tuple #[.int .i64 r1, .int .i64 r2, .bool r3]) ∧ Drawn0 w w' := by
 have H := h
 clear h; unfold spec_MeanOnAlong.f at H
 have HC3 := aM H
 clear H
 go_enter Tryd.func28, Tryd.ntmps28
 go_upto_region 1 with (fail)
 go_cut [22] (fun v22 wc => ∃ (kq : Nat) (x22_2 : Bool), v22 = .bool x22_2 ∧ Aside0 (spec_MeanOnAlong.j0 kq a0 a1 x22_2 = some (r1, r2, r3)) ∧ Aside0 (kq ≤ k) ∧ Drawn0 w wc)
 case first =>
  have H := HC3.out
  clear HC3
  replace H := bC H; obtain ⟨t293, A4, H⟩ := H
  refine iB H ?_ ?_ <;> clear H <;> rintro rfl H
  ·have H' := aM H
   clear H
   go_wp2_with (first | ((with_reducible refine gG 87 (some 16) rfl rfl ?_); refine gL Tryd.func87 #[.string a0, .string a1] ?_; (with_reducible refine (spec_riTwo.calls k a0 a1 true _ A4.out).mono ?_); rintro e w' ⟨rfl, ⟨nd, rfl⟩⟩; refine ⟨_, rfl, ?_⟩))
   go_meet
   case rel => exact ⟨_, (decide ((a0.size : Int) > 12)), rF, H', kL, d0⟩
  have H' := aM H
  clear H
  go_wp2_with (first | ((with_reducible refine gG 87 (some 16) rfl rfl ?_); refine gL Tryd.func87 #[.string a0, .string a1] ?_; (with_reducible refine (spec_riTwo.calls k a0 a1 false _ A4.out).mono ?_); rintro e w' ⟨rfl, ⟨nd, rfl⟩⟩; refine ⟨_, rfl, ?_⟩))
  go_meet
  case rel => exact ⟨_, (true), rF, H', kL, d0⟩
 case rest =>
  clear HC3
  obtain ⟨kq, x22_2, rfl, HA, HJ2, ⟨mc2, rfl⟩⟩ := hcut
  obtain rfl | ⟨kj2, rfl⟩ := fz kq
  ·exact zA HA
  have H := HA.out
  clear HA
  simp only [spec_MeanOnAlong.j0] at H
  refine iB H ?_ ?_ <;> clear H <;> rintro rfl H
  ·simp only [Option.some.injEq, Prod.mk.injEq] at H
   obtain ⟨rfl, rfl, rfl⟩ := H
   go_wp2
   go_ret3
   exact ⟨rF, d0⟩
  replace H := bC H; obtain ⟨⟨t294, t295, t296⟩, A7, H⟩ := H; try dsimp only at H
  replace H := bC H; obtain ⟨t297, A8, H⟩ := H
  have H' := aM H
  clear H
  go_wp2_with (first | ((with_reducible refine gG 88 (some 26) rfl rfl ?_); refine gL Tryd.func88 #[.string a0, .string a1] ?_; (with_reducible refine (spec_waNumbers.calls kj2 a0 a1 t294 t295 t296 _ A7.out).mono ?_); rintro e w' ⟨rfl, ⟨nd, rfl⟩⟩; refine ⟨_, rfl, ?_⟩) | ((with_reducible refine gG 89 (some 32) rfl rfl ?_); refine gL Tryd.func89 #[.int .i64 t294, .int .i64 t295] ?_; (with_reducible refine (spec_l1Least.calls t294 t295 t297 _ A8.out).mono ?_); rintro e w' ⟨rfl, ⟨nd, rfl⟩⟩; refine ⟨_, rfl, ?_⟩))
  go_loopg [10, 11] kj2 (fun kq v10 v11 w' => ∃ (x10_2 : Int) (x11_2 : Int), v10 = .int .i64 x10_2 ∧ v11 = .int .i64 x11_2 ∧ Aside0 (spec_MeanOnAlong.l0 kq a0 t294 t295 x10_2 x11_2 = some (r1, r2, r3)) ∧ Aside0 (kq ≤ kj2) ∧ Drawn0 w w')
  case atStart => exact ⟨(0), (t297), rF, rF, H', kR, d0⟩
  case round =>
   clear H'
   obtain ⟨x10_2, x11_2, rfl, rfl, HA, HK2, ⟨m2, rfl⟩⟩ := hrel
   obtain rfl | ⟨k2, rfl⟩ := fz gk
   ·exact zA HA
   have H := HA.out
   clear HA
   simp only [spec_MeanOnAlong.l0] at H
   replace H := bC H; obtain ⟨t298, A9, H⟩ := H
   refine iI H ?_ ?_ <;> clear H <;> intro c10 H
   ·have c10b0 := dT c10
    clear c10
    replace H := bC H; obtain ⟨t299, A11, H⟩ := H
    replace H := bC H; obtain ⟨t300, A12, H⟩ := H
    have H' := aM H
    clear H
    go_wp2_with (first | ((with_reducible refine gG 90 (some 36) rfl rfl ?_); refine gL Tryd.func90 #[.int .i64 t294, .int .i64 t295] ?_; (with_reducible refine (spec_l1Most.calls t294 t295 t298 _ A9.out).mono ?_); rintro e w' ⟨rfl, ⟨nd, rfl⟩⟩; refine ⟨_, rfl, ?_⟩) | ((with_reducible refine gG 74 (some 44) rfl rfl ?_); refine gL Tryd.func74 #[.int .i64 (a0.size : Int), .int .i64 x11_2] ?_; (with_reducible refine (spec_riState.calls k2 (a0.size : Int) x11_2 t299 _ A11.out).mono ?_); rintro e w' ⟨rfl, ⟨nd, rfl⟩⟩; refine ⟨_, rfl, ?_⟩) | ((with_reducible refine gG 91 (some 45) rfl rfl ?_); refine gL Tryd.func91 #[.string t299] ?_; (with_reducible refine (spec_riOn.calls k2 t299 t300 _ A12.out).mono ?_); rintro e w' ⟨rfl, ⟨nd, rfl⟩⟩; refine ⟨_, rfl, ?_⟩))
    go_roundg k2
    case measure => have := HJ2.out; have := HK2.out; omega
    case rel => exact ⟨(wrap64 (x10_2 + t300)), (wrap64 (x11_2 + 1)), rF, rF, H', ⟨by have := HJ2.out; have := HK2.out; omega⟩, d0⟩
   have c10b0 := dF c10
   clear c10
   replace H := bC H; obtain ⟨t301, A13, H⟩ := H
   replace H := bC H; obtain ⟨⟨t302, t303⟩, A14, H⟩ := H; try dsimp only at H
   simp only [Option.some.injEq, Prod.mk.injEq] at H
   obtain ⟨rfl, rfl, rfl⟩ := H
   go_wp2_with (first | ((with_reducible refine gG 90 (some 36) rfl rfl ?_); refine gL Tryd.func90 #[.int .i64 t294, .int .i64 t295] ?_; (with_reducible refine (spec_l1Most.calls t294 t295 t298 _ A9.out).mono ?_); rintro e w' ⟨rfl, ⟨nd, rfl⟩⟩; refine ⟨_, rfl, ?_⟩) | ((with_reducible refine gG 92 (some 52) rfl rfl ?_); refine gL Tryd.func92 #[.int .i64 (wrap64 (t294 - t295))] ?_; (with_reducible refine (spec_l1Abs.calls (wrap64 (t294 - t295)) t301 _ A13.out).mono ?_); rintro e w' ⟨rfl, ⟨nd, rfl⟩⟩; refine ⟨_, rfl, ?_⟩) | ((with_reducible refine gG 82 (some 54) rfl rfl ?_); refine gL Tryd.func82 #[.int .i64 x10_2, .int .i64 (wrap64 (t301 + 1))] ?_; (with_reducible refine (spec_waLow.calls k2 x10_2 (wrap64 (t301 + 1)) t302 t303 _ A14.out).mono ?_); rintro e w' ⟨rfl, ⟨nd, rfl⟩⟩; refine ⟨_, rfl, ?_⟩))
   go_ret3
   exact ⟨rF, d0⟩

/-! ### impl_apart: function 93 -/
def impl_apart.f (a0 : Int) (a1 : Int) : Option (Int) := some (mx (wrap64 (a0 - a1)) (wrap64 (a1 - a0)))
set_option maxHeartbeats 8000000 in
set_option maxRecDepth 100000 in
theorem impl_apart.calls (a0 : Int) (a1 : Int) (r : Int) (w : World) (h : impl_apart.f a0 a1 = some r) :
  Calls Tryd.prog 93 #[.int .i64 a0, .int .i64 a1] w fun e w' => e = .returned (.int .i64 r) ∧ Below w.heap.size w w' := by
 have HB := aM (Below.refl w.heap.size w)
 have H := h
 clear h; unfold impl_apart.f at H
 obtain ⟨ji3, hji3⟩ := jN (mx (wrap64 (a0 - a1)) (wrap64 (a1 - a0)))
 first | rw [hji3] at H | simp only [hji3] at H
 have hji3_ : (if (wrap64 (a0 - a1)) < (wrap64 (a1 - a0)) then (wrap64 (a1 - a0)) else (wrap64 (a0 - a1))) = ji3 := hji3
 obtain rfl := Option.some.inj H
 go_enter Tryd.func93, Tryd.ntmps93
 go_wp2
 go_ret
 exact ⟨by first | rfl | (simp [errW_none, errW_some] <;> rfl) | (simp only [← hji3]; first | rfl | (simp [errW_none, errW_some] <;> rfl)) | (simp [*, errW_none, errW_some] <;> rfl), bel HB⟩

/-! ### impl_zeros: function 138 -/
def impl_zeros.l0 : Nat → Int → Int → Option (Int)
 | 0, _, _ => none
 | k + 1, x0, x3 => if (Int.tmod x0 2) = 0 then (impl_zeros.l0 k (wrap64 (Int.tdiv x0 2)) (wrap64 (x3 + 1))) else (some x3)
def impl_zeros.f (k : Nat) (a0 : Int) : Option (Int) := impl_zeros.l0 k a0 0
theorem impl_zeros.mono_l : ∀ k, Mo (impl_zeros.l0 k) (impl_zeros.l0 (k + 1))
 | 0 => m0
 | k + 1 => by
  have ih0 := impl_zeros.mono_l k
  (repeat refine mE fun _ => ?_) <;> first | (unfold impl_zeros.l0; exact mG)
instance impl_zeros.mI (k : Nat) : Mo (impl_zeros.f k) (impl_zeros.f (k + 1)) := by
 have ih0 := impl_zeros.mono_l k
 (repeat refine mE fun _ => ?_); unfold impl_zeros.f; exact mG
theorem impl_zeros.mono : ∀ a0 k, LeO (impl_zeros.f k a0) (impl_zeros.f (k + 1) a0) := fun a0 k => (impl_zeros.mI k).out a0
set_option maxHeartbeats 8000000 in
set_option maxRecDepth 100000 in
theorem impl_zeros.calls (k : Nat) (a0 : Int) (r : Int) (w : World) (h : impl_zeros.f k a0 = some r) :
  Calls Tryd.prog 138 #[.int .i64 a0] w fun e w' => e = .returned (.int .i64 r) ∧ Drawn0 w w' := by
 have H := h
 clear h; unfold impl_zeros.f at H
 have H' := aM H
 clear H
 go_enter Tryd.func138, Tryd.ntmps138
 go_wp2
 go_loopg [0, 3] k (fun kq v0 v3 w' => ∃ (x0_1 : Int) (x3_1 : Int), v0 = .int .i64 x0_1 ∧ v3 = .int .i64 x3_1 ∧ Aside0 (impl_zeros.l0 kq x0_1 x3_1 = some r) ∧ Aside0 (kq ≤ k) ∧ Drawn0 w w')
 case atStart => exact ⟨(a0), (0), rF, rF, H', kR, d0⟩
 case round =>
  clear H'
  obtain ⟨x0_1, x3_1, rfl, rfl, HA, HK1, ⟨m1, rfl⟩⟩ := hrel
  obtain rfl | ⟨k1, rfl⟩ := fz gk
  ·exact zA HA
  have H := HA.out
  clear HA
  simp only [impl_zeros.l0] at H
  refine iI H ?_ ?_ <;> clear H <;> intro c2 H
  ·have c2b0 := qT c2
   have c2b1 := nF c2
   clear c2
   have H' := aM H
   clear H
   go_wp2
   go_roundg k1
   case measure => have := HK1.out; omega
   case rel => exact ⟨(wrap64 (Int.tdiv x0_1 2)), (wrap64 (x3_1 + 1)), rF, rF, H', ⟨by have := HK1.out; omega⟩, d0⟩
  have c2b0 := qF c2
  have c2b1 := nT c2
  obtain rfl := Option.some.inj H
  go_wp2
  go_ret
  exact ⟨rF, d0⟩

/-! ### impl_next: function 94 -/
def impl_next.f (k : Nat) (a0 : Int) (a1 : Int) : Option (Int × Int) := if a0 < a1 then ((impl_zeros.f k (wrap64 (a0 + 1))).bind fun t304 => (some (wrap64 (a0 + 1), t304))) else ((impl_zeros.f k a0).bind fun t305 => (some (wrap64 (a0 - 1), t305)))
instance impl_next.mI (k : Nat) : Mo (impl_next.f k) (impl_next.f (k + 1)) := by
 (repeat refine mE fun _ => ?_); unfold impl_next.f; exact mG
theorem impl_next.mono : ∀ a0 a1 k, LeO (impl_next.f k a0 a1) (impl_next.f (k + 1) a0 a1) := fun a0 a1 k => (impl_next.mI k).out a0 a1
set_option maxHeartbeats 8000000 in
set_option maxRecDepth 100000 in
theorem impl_next.calls (k : Nat) (a0 : Int) (a1 : Int) (r1 : Int) (r2 : Int) (w : World) (h : impl_next.f k a0 a1 = some (r1, r2)) :
  Calls Tryd.prog 94 #[.int .i64 a0, .int .i64 a1] w fun e w' => e = .returned (.tuple #[.int .i64 r1, .int .i64 r2]) ∧ Drawn0 w w' := by
 have H := h
 clear h; unfold impl_next.f at H
 refine iI H ?_ ?_ <;> clear H <;> intro c3 H
 ·have c3b0 := dT c3
  clear c3
  replace H := bC H; obtain ⟨t304, A4, H⟩ := H
  simp only [Option.some.injEq, Prod.mk.injEq] at H
  obtain ⟨rfl, rfl⟩ := H
  go_enter Tryd.func94, Tryd.ntmps94
  go_wp2_with (first | ((with_reducible refine gG 138 (some 13) rfl rfl ?_); refine gL Tryd.func138 #[.int .i64 (wrap64 (a0 + 1))] ?_; (with_reducible refine (impl_zeros.calls k (wrap64 (a0 + 1)) t304 _ A4.out).mono ?_); rintro e w' ⟨rfl, ⟨nd, rfl⟩⟩; refine ⟨_, rfl, ?_⟩))
  go_ret2
  exact ⟨rF, d0⟩
 have c3b0 := dF c3
 clear c3
 replace H := bC H; obtain ⟨t305, A5, H⟩ := H
 simp only [Option.some.injEq, Prod.mk.injEq] at H
 obtain ⟨rfl, rfl⟩ := H
 go_enter Tryd.func94, Tryd.ntmps94
 go_wp2_with (first | ((with_reducible refine gG 138 (some 17) rfl rfl ?_); refine gL Tryd.func138 #[.int .i64 a0] ?_; (with_reducible refine (impl_zeros.calls k a0 t305 _ A5.out).mono ?_); rintro e w' ⟨rfl, ⟨nd, rfl⟩⟩; refine ⟨_, rfl, ?_⟩))
 go_ret2
 exact ⟨rF, d0⟩

/-! ### impl_StatesBetween: function 29 -/
mutual
def impl_StatesBetween.j0 : Nat → ByteArray → ByteArray → Bool → Option (List ByteArray × Bool)
 | 0, _, _, _ => none
 | k + 1, x0, x1, x21 => if x21 = true then (some (([] : List ByteArray), false)) else ((impl_number.f k x0).bind fun t313 => ((impl_number.f k x1).bind fun t314 => (impl_StatesBetween.l0 k x0 (([x0] : List ByteArray)) t313 t314)))
def impl_StatesBetween.l0 : Nat → ByteArray → List ByteArray → Int → Int → Option (List ByteArray × Bool)
 | 0, _, _, _, _ => none
 | k + 1, x0, x6, x7, x8 => if x7 = x8 then (some (x6, true)) else ((impl_next.f k x7 x8).bind fun bt315 => ((impl_state.f k (x0.size : Int) bt315.1).bind fun t317 => (if x6.length < 8796093022208 then (impl_StatesBetween.l0 k x0 (x6 ++ [t317]) bt315.1 x8) else (none))))
end
def impl_StatesBetween.f (k : Nat) (a0 : ByteArray) (a1 : ByteArray) : Option (List ByteArray × Bool) := (impl_alike.f a0 a1).bind fun t306 => (if t306 = true then ((impl_number.f k a0).bind fun t307 => ((impl_number.f k a1).bind fun t308 => ((impl_apart.f t307 t308).bind fun t309 => (impl_StatesBetween.j0 k a0 a1 (decide ((wrap64 (t309 + 1)) > 2000)))))) else (impl_StatesBetween.j0 k a0 a1 true))
theorem impl_StatesBetween.mono_l : ∀ k, Mo (impl_StatesBetween.j0 k) (impl_StatesBetween.j0 (k + 1)) ∧ Mo (impl_StatesBetween.l0 k) (impl_StatesBetween.l0 (k + 1))
 | 0 => m0
 | k + 1 => by
  have ⟨ih0, ih1⟩ := impl_StatesBetween.mono_l k
  refine ⟨?_, ?_⟩ <;> (repeat refine mE fun _ => ?_) <;> first | (unfold impl_StatesBetween.j0; exact mG) | (unfold impl_StatesBetween.l0; exact mG)
instance impl_StatesBetween.mI (k : Nat) : Mo (impl_StatesBetween.f k) (impl_StatesBetween.f (k + 1)) := by
 have ⟨ih0, ih1⟩ := impl_StatesBetween.mono_l k
 (repeat refine mE fun _ => ?_); unfold impl_StatesBetween.f; exact mG
theorem impl_StatesBetween.mono : ∀ a0 a1 k, LeO (impl_StatesBetween.f k a0 a1) (impl_StatesBetween.f (k + 1) a0 a1) := fun a0 a1 k => (impl_StatesBetween.mI k).out a0 a1
set_option maxHeartbeats 8000000 in
set_option maxRecDepth 100000 in
theorem impl_StatesBetween.calls (k : Nat) (a0 : ByteArray) (a1 : ByteArray) (r1 : List ByteArray) (r2 : Bool) (w : World) (h : impl_StatesBetween.f k a0 a1 = some (r1, r2)) :
  Calls Tryd.prog 29 #[.string a0, .string a1] w fun e w' => ∃ v0_ : Value, e = .returned (.tuple #[v0_, .bool r2]) ∧ Kd.R Kd.string 9 w' w.heap.size (fun _ => True) v0_ r1 ∧ Below w.heap.size w w' := by
 have HB := aM (Below.refl w.heap.size w)
 have H := h
 clear h; unfold impl_StatesBetween.f at H
 have HC3 := aM H
 clear H
 go_enter Tryd.func29, Tryd.ntmps29
 go_upto_region 1 with (fail)
 go_cut [21] (fun v21 wc => ∃ (kq : Nat) (x21_2 : Bool), v21 = .bool x21_2 ∧ Aside0 (impl_StatesBetween.j0 kq a0 a1 x21_2 = some (r1, r2)) ∧ Aside0 (kq ≤ k) ∧ Aside0 (Below w.heap.size w wc))
 case first =>
  have H := HC3.out
  clear HC3
  replace H := bC H; obtain ⟨t306, A4, H⟩ := H
  refine iB H ?_ ?_ <;> clear H <;> rintro rfl H
  ·replace H := bC H; obtain ⟨t307, A6, H⟩ := H
   replace H := bC H; obtain ⟨t308, A7, H⟩ := H
   replace H := bC H; obtain ⟨t309, A8, H⟩ := H
   have H' := aM H
   clear H
   go_wp2_with (first | ((with_reducible refine gG 84 (some 11) rfl rfl ?_); refine gC Tryd.func84 (impl_alike.calls a0 a1 true _ A4.out) ?_; rintro w9 hb; replace HB := hS HB hb; clear hb) | (go_at_call 75; (with_reducible refine (impl_number.calls k a0 t307 _ A6.out).mono ?_); rintro e w' ⟨rfl, ⟨nd, rfl⟩⟩) | (go_at_call 75; (with_reducible refine (impl_number.calls k a1 t308 _ A7.out).mono ?_); rintro e w' ⟨rfl, ⟨nd, rfl⟩⟩) | (go_at_call 93; (with_reducible refine (impl_apart.calls t307 t308 t309 _ A8.out).mono ?_); rintro e w10 ⟨rfl, hb⟩; replace HB := hS HB hb; clear hb))
   go_meet
   case rel => exact ⟨_, (decide ((wrap64 (t309 + 1)) > 2000)), rF, H', kL, hV HB⟩
  have H' := aM H
  clear H
  go_wp2_with (first | ((with_reducible refine gG 84 (some 11) rfl rfl ?_); refine gC Tryd.func84 (impl_alike.calls a0 a1 false _ A4.out) ?_; rintro w11 hb; replace HB := hS HB hb; clear hb))
  go_meet
  case rel => exact ⟨_, (true), rF, H', kL, hV HB⟩
 case rest =>
  clear HC3
  obtain ⟨kq, x21_2, rfl, HA, HJ2, HB⟩ := hcut
  obtain rfl | ⟨kj2, rfl⟩ := fz kq
  ·exact zA HA
  have H := HA.out
  clear HA
  simp only [impl_StatesBetween.j0] at H
  refine iB H ?_ ?_ <;> clear H <;> rintro rfl H
  ·simp only [Option.some.injEq, Prod.mk.injEq] at H
   obtain ⟨rfl, rfl⟩ := H
   go_wp2
   go_ret2
   exact ⟨_, eW, by first | exact Kd.R_nil _ _ _ _ _ | exact Kd.N_nil _ _ _ _ _ | exact Kd.V_nil _ _ _ _ _ | exact Kd.Q_nil _ _ _ _ _ | exact Kd.S_nil _ _ _ _ _, bel HB⟩
  obtain ⟨y310, Ny310⟩ := yN (([a0] : List ByteArray) : List ByteArray); rw [← Ny310.out] at H
  replace H := bC H; obtain ⟨t313, A13, H⟩ := H
  replace H := bC H; obtain ⟨t314, A14, H⟩ := H
  have H' := aM H
  clear H
  go_wp2_with (first | ((with_reducible refine gate_dst (N := 23) rfl ?_); refine Kd.R_lit Kd.string _ 9 ?hg (N := 23) ?hd (xs := ([a0] : List ByteArray)) (inner := [.string a0]) (ok := fun _ => True) (okp := fun _ => True) ?hr ?hp (fun _ hk => hk) trivial (Below.refl _ _) (Nat.le_refl _) (by simp) ?_; (case hd => rfl); (case hg => rfl); (case hr => first | (go_simp; done) | (go_simp; rfl)); (case hp => exact (Reps.one (show Kd.M Kd.string _ _ _ a0 [.string a0] from rfl) (Reps.none _ _))); intro v311 w15 ho16 hb hg_ hnew_; clear hg_ hnew_; (first | rw [← Ny310.out] at ho16 | (simp only [Int.reduceToNat] at ho16; rw [← Ny310.out] at ho16)); have HO312 := rL ho16 HB; replace HB := hS HB hb; clear hb ho16) | ((with_reducible refine gG 75 (some 25) rfl rfl ?_); refine gL Tryd.func75 #[.string a0] ?_; (with_reducible refine (impl_number.calls kj2 a0 t313 _ A13.out).mono ?_); rintro e w' ⟨rfl, ⟨nd, rfl⟩⟩; refine ⟨_, rfl, ?_⟩) | ((with_reducible refine gG 75 (some 27) rfl rfl ?_); refine gL Tryd.func75 #[.string a1] ?_; (with_reducible refine (impl_number.calls kj2 a1 t314 _ A14.out).mono ?_); rintro e w' ⟨rfl, ⟨nd, rfl⟩⟩; refine ⟨_, rfl, ?_⟩))
  go_loopg [6, 7] kj2 (fun kq v6 v7 w' => ∃ (x6_2 : List ByteArray) (x7_2 : Int), v7 = .int .i64 x7_2 ∧ Aside0 (impl_StatesBetween.l0 kq a0 x6_2 x7_2 t314 = some (r1, r2)) ∧ Aside0 (kq ≤ kj2) ∧ Aside0 (Kd.R Kd.string 9 w' w.heap.size (fun _ => True) v6 x6_2) ∧ Aside0 (Below w.heap.size w w'))
  case atStart => exact ⟨(y310), (t313), rF, H', kR, ⟨rU HO312.out⟩, hV HB⟩
  case round =>
   clear H'
   obtain ⟨x6_2, x7_2, rfl, HA, HK2, HO_6, HB⟩ := hrel
   obtain rfl | ⟨k2, rfl⟩ := fz gk
   ·exact zA HA
   have H := HA.out
   clear HA
   simp only [impl_StatesBetween.l0] at H
   refine iI H ?_ ?_ <;> clear H <;> intro c17 H
   ·have c17b0 := qT c17
    have c17b1 := nF c17
    clear c17
    simp only [Option.some.injEq, Prod.mk.injEq] at H
    obtain ⟨rfl, rfl⟩ := H
    go_wp2
    go_ret2
    exact ⟨_, eW, rU HO_6.out, bel HB⟩
   have c17b0 := qF c17
   have c17b1 := nT c17
   replace H := bC H; obtain ⟨⟨t315, t316⟩, A18, H⟩ := H; try dsimp only at H
   replace H := bC H; obtain ⟨t317, A19, H⟩ := H
   refine iY H ?_; clear H; intro c20 H
   have LMc20 := aM c20
   clear c20
   obtain ⟨y318, Ny318⟩ := yN (x6_2 ++ [t317] : List ByteArray); rw [← Ny318.out] at H
   have H' := aM H
   clear H
   go_wp2_with (first | ((with_reducible refine gG 94 (some 34) rfl rfl ?_); refine gL Tryd.func94 #[.int .i64 x7_2, .int .i64 t314] ?_; (with_reducible refine (impl_next.calls k2 x7_2 t314 t315 t316 _ A18.out).mono ?_); rintro e w' ⟨rfl, ⟨nd, rfl⟩⟩; refine ⟨_, rfl, ?_⟩) | ((with_reducible refine gG 86 (some 41) rfl rfl ?_); refine gC Tryd.func86 (impl_state.calls k2 (a0.size : Int) t315 t317 _ A19.out) ?_; rintro w21 hb; replace HO_6 := rB HO_6 hb; replace HB := hS HB hb; clear hb) | ((with_reducible refine gate_builtin (b := .append) (xs := #[.tmp 37, .tmp 42]) rfl ?_); at_builtin; refine Kd.R_append Kd.string (w0 := w) w.heap.size rfl (.tmp 37) (.tmp 42) 26 9 (.string ⟨#[]⟩) 16 rfl Tryd.underlying26 info9 rfl (by decide) (by omega) u6 x6_2 t317 [.string t317] (fun _ => True) (fun _ => False) rfl rfl ?aP (fun _ hk => hk.elim) ?aF ?aO ?aB ?aS ?aL ?_; (case aP => exact rfl); (case aB => exact (bel HB)); (case aF => exact (fun _ _ => trivial)); (case aO => exact (rU HO_6.out)); (case aS => exact (below_size (bel HB))); (case aL => have := LMc20.out; omega); intro v319 w22 ho hb hg hat; rw [← Ny318.out] at ho; have HO320 := aM (ho); replace HB := aM (hb); clear HO_6; clear ho hb hg hat))
   go_roundg k2
   case measure => have := HJ2.out; have := HK2.out; omega
   case rel => exact ⟨(y318), (t315), rF, H', ⟨by have := HJ2.out; have := HK2.out; omega⟩, ⟨rU HO320.out⟩, hV HB⟩

end Go.Proofs.YtcogjabdddikjaaDoor.PSCnt
