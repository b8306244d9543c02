-- squeezed (sq3.py); PRINTED by drive.py (a program of this session's, over the kit's print.py; wip/tools/drive.py). Lean checks it.
import Derived.Test.YtcogjabdddikjaaDoorQPWMnx0
import Derived.Test.YtcogjabdddikjaaDoorQPWMnx1
import Derived.Test.YtcogjabdddikjaaDoorQPWMnx2
import Derived.Test.YtcogjabdddikjaaDoorQRange
import Derived.Test.YtcogjabdddikjaaDoorQSq
namespace Go.Proofs.YtcogjabdddikjaaDoor.PWMn
open Go.RowKit Go.Proofs.YtcogjabdddikjaaDoorW.PrintWords Go.Proofs.YtcogjabdddikjaaDoorW.PrintLast Go.Proofs.YtcogjabdddikjaaDoorW.PrintMore
attribute [local go_sem] max2_int min2_int max_two min_two max_three min_three max_four min_four   -- for this text's walks alone
set_option linter.unusedVariables false
set_option linter.unusedSimpArgs false

/-! ### spec_waMean: function 96 -/
def spec_waMean.f (a0 : Int) (a1 : Int) (a2 : Int) : Option (Int) := if a0 ≤ a1 then (some (wrap64 ((wrap64 (a1 * a1)) - (wrap64 (a0 * a0))))) else (some (wrap64 ((wrap64 ((wrap64 (a2 - a1)) * (wrap64 (a2 - a1)))) - (wrap64 ((wrap64 (a2 - a0)) * (wrap64 (a2 - a0)))))))
set_option maxHeartbeats 8000000 in
set_option maxRecDepth 100000 in
theorem spec_waMean.calls (a0 : Int) (a1 : Int) (a2 : Int) (r : Int) (w : World) (h : spec_waMean.f a0 a1 a2 = some r) :
  Calls Tryd.prog 96 #[.int .i64 a0, .int .i64 a1, .int .i64 a2] w fun e w' => e = .returned (.int .i64 r) ∧ Drawn0 w w' := by
 have H := h
 clear h; unfold spec_waMean.f at H
 refine iI H ?_ ?_ <;> clear H <;> intro c4 H
 ·have c4b0 := dT c4
  clear c4
  obtain rfl := Option.some.inj H
  go_enter Tryd.func96, Tryd.ntmps96
  go_wp2
  go_ret
  exact ⟨rF, d0⟩
 have c4b0 := dF c4
 clear c4
 obtain rfl := Option.some.inj H
 go_enter Tryd.func96, Tryd.ntmps96
 go_wp2
 go_ret
 exact ⟨rF, d0⟩

/-! ### spec_MeanFrom: function 32 -/
def spec_MeanFrom.f (k : Nat) (a0 : ByteArray) (a1 : ByteArray) : Option (Int × Bool) := (spec_riTwo.f k a0 a1).bind fun t175 => (if t175 = true then ((spec_waNumbers.f k a0 a1).bind fun bt176 => ((spec_waMean.f bt176.1 bt176.2.1 bt176.2.2).bind fun t179 => (some (t179, true)))) else (some (0, false)))
instance spec_MeanFrom.mI (k : Nat) : Mo (spec_MeanFrom.f k) (spec_MeanFrom.f (k + 1)) := by
 (repeat refine mE fun _ => ?_); unfold spec_MeanFrom.f; exact mG
theorem spec_MeanFrom.mono : ∀ a0 a1 k, LeO (spec_MeanFrom.f k a0 a1) (spec_MeanFrom.f (k + 1) a0 a1) := fun a0 a1 k => (spec_MeanFrom.mI k).out a0 a1
set_option maxHeartbeats 8000000 in
set_option maxRecDepth 100000 in
theorem spec_MeanFrom.calls (k : Nat) (a0 : ByteArray) (a1 : ByteArray) (r1 : Int) (r2 : Bool) (w : World) (h : spec_MeanFrom.f k a0 a1 = some (r1, r2)) :
  Calls Tryd.prog 32 #[.string a0, .string a1] w fun e w' => e = .returned (.tuple #[.int .i64 r1, .bool r2]) ∧ Drawn0 w w' := by
 have H := h
 clear h; unfold spec_MeanFrom.f at H
 replace H := bC H; obtain ⟨t175, A3, H⟩ := H
 refine iB H ?_ ?_ <;> clear H <;> rintro rfl H
 ·replace H := bC H; obtain ⟨⟨t176, t177, t178⟩, A5, H⟩ := H; try dsimp only at H
  replace H := bC H; obtain ⟨t179, A6, H⟩ := H
  simp only [Option.some.injEq, Prod.mk.injEq] at H
  obtain ⟨rfl, rfl⟩ := H
  go_enter Tryd.func32, Tryd.ntmps32
  go_wp2_with (first | ((with_reducible refine gG 87 (some 11) rfl rfl ?_); refine gL Tryd.func87 #[.string a0, .string a1] ?_; (with_reducible refine (spec_riTwo.calls k a0 a1 true _ A3.out).mono ?_); rintro e w' ⟨rfl, ⟨nd, rfl⟩⟩; refine ⟨_, rfl, ?_⟩) | ((with_reducible refine gG 88 (some 16) rfl rfl ?_); refine gL Tryd.func88 #[.string a0, .string a1] ?_; (with_reducible refine (spec_waNumbers.calls k a0 a1 t176 t177 t178 _ A5.out).mono ?_); rintro e w' ⟨rfl, ⟨nd, rfl⟩⟩; refine ⟨_, rfl, ?_⟩) | ((with_reducible refine gG 96 (some 23) rfl rfl ?_); refine gL Tryd.func96 #[.int .i64 t176, .int .i64 t177, .int .i64 t178] ?_; (with_reducible refine (spec_waMean.calls t176 t177 t178 t179 _ A6.out).mono ?_); rintro e w' ⟨rfl, ⟨nd, rfl⟩⟩; refine ⟨_, rfl, ?_⟩))
  go_ret2
  exact ⟨rF, d0⟩
 simp only [Option.some.injEq, Prod.mk.injEq] at H
 obtain ⟨rfl, rfl⟩ := H
 go_enter Tryd.func32, Tryd.ntmps32
 go_wp2_with (first | ((with_reducible refine gG 87 (some 11) rfl rfl ?_); refine gL Tryd.func87 #[.string a0, .string a1] ?_; (with_reducible refine (spec_riTwo.calls k a0 a1 false _ A3.out).mono ?_); rintro e w' ⟨rfl, ⟨nd, rfl⟩⟩; refine ⟨_, rfl, ?_⟩))
 go_ret2
 exact ⟨rF, d0⟩

/-! ### impl_MeanToClear: function 33 -/
def impl_MeanToClear.f (k : Nat) (a0 : ByteArray) : Option (Int × Bool) := (impl_IsState.f a0).bind fun t180 => (if t180 = true then ((impl_number.f k a0).bind fun t181 => ((impl_mean.f t181 0 (wrap64 ((shl .i64 1 (a0.size : Int)) - 1))).bind fun t182 => (some (t182, true)))) else (some (0, false)))
instance impl_MeanToClear.mI (k : Nat) : Mo (impl_MeanToClear.f k) (impl_MeanToClear.f (k + 1)) := by
 (repeat refine mE fun _ => ?_); unfold impl_MeanToClear.f; exact mG
theorem impl_MeanToClear.mono : ∀ a0 k, LeO (impl_MeanToClear.f k a0) (impl_MeanToClear.f (k + 1) a0) := fun a0 k => (impl_MeanToClear.mI k).out a0
set_option maxHeartbeats 8000000 in
set_option maxRecDepth 100000 in
theorem impl_MeanToClear.calls (k : Nat) (a0 : ByteArray) (r1 : Int) (r2 : Bool) (w : World) (h : impl_MeanToClear.f k a0 = some (r1, r2)) :
  Calls Tryd.prog 33 #[.string a0] w fun e w' => e = .returned (.tuple #[.int .i64 r1, .bool r2]) ∧ Below w.heap.size w w' := by
 have HB := aM (Below.refl w.heap.size w)
 have H := h
 clear h; unfold impl_MeanToClear.f at H
 replace H := bC H; obtain ⟨t180, A2, H⟩ := H
 refine iB H ?_ ?_ <;> clear H <;> rintro rfl H
 ·replace H := bC H; obtain ⟨t181, A4, H⟩ := H
  obtain ⟨ji5, hji5⟩ := jN (shl .i64 1 (a0.size : Int))
  first | rw [hji5] at H | simp only [hji5] at H
  (try rw [hji5] at A2)
  (try rw [hji5] at A4)
  have hji5_ : (IntKind.i64.wrap (1 * 2 ^ min (a0.size : Int).toNat 64)) = ji5 := hji5
  have hji5z : (a0.size : Int) ≤ 64 → (IntKind.i64.wrap (1 * 2 ^ (a0.size : Int).toNat)) = ji5 := shl_small hji5
  have hji5u : (IntKind.i64.wrap (2 ^ min (a0.size : Int).toNat 64)) = ji5 := by have h_ := hji5_; rw [Int.one_mul] at h_; exact h_
  have hji5v : (a0.size : Int) ≤ 64 → (IntKind.i64.wrap (2 ^ (a0.size : Int).toNat)) = ji5 := fun hle_ => by have h_ := hji5z hle_; rw [Int.one_mul] at h_; exact h_
  have hji5y : (wrap64 (1 * 2 ^ min (a0.size : Int).toNat 64)) = ji5 := (i64_w _).symm.trans hji5_
  have hji5q : wrap64 (2 ^ min a0.size 64) = ji5 := by have h_ := hji5y; rw [Int.one_mul, Int.toNat_natCast] at h_; exact h_
  have hji5p : IntKind.i64.wrap (2 ^ min a0.size 64) = ji5 := by have h_ := hji5u; rw [Int.toNat_natCast] at h_; exact h_
  have hji5x : (a0.size : Int) ≤ 64 → (wrap64 (1 * 2 ^ (a0.size : Int).toNat)) = ji5 := fun h_ => (i64_w _).symm.trans (hji5z h_)
  replace H := bC H; obtain ⟨t182, A6, H⟩ := H
  simp only [Option.some.injEq, Prod.mk.injEq] at H
  obtain ⟨rfl, rfl⟩ := H
  go_enter Tryd.func33, Tryd.ntmps33
  go_wp2_with (first | (go_at_call 76; (with_reducible refine (impl_IsState.calls a0 true _ A2.out).mono ?_); rintro e w7 ⟨rfl, hb⟩; replace HB := hS HB hb; clear hb) | (go_at_call 75; (with_reducible refine (impl_number.calls k a0 t181 _ A4.out).mono ?_); rintro e w' ⟨rfl, ⟨nd, rfl⟩⟩; (try exact nd2)) | (go_at_call 95; (with_reducible refine (impl_mean.calls t181 0 (wrap64 ((ji5) - 1)) t182 _ A6.out).mono ?_); rintro e w' ⟨rfl, ⟨nd, rfl⟩⟩; (try exact nd2)))
  repeat (go_quiet (first | (go_at_call 76; (with_reducible refine (impl_IsState.calls a0 true _ A2.out).mono ?_); rintro e w7 ⟨rfl, hb⟩; replace HB := hS HB hb; clear hb) | (go_at_call 75; (with_reducible refine (impl_number.calls k a0 t181 _ A4.out).mono ?_); rintro e w' ⟨rfl, ⟨nd, rfl⟩⟩; (try exact nd2)) | (go_at_call 95; (with_reducible refine (impl_mean.calls t181 0 (wrap64 ((ji5) - 1)) t182 _ A6.out).mono ?_); rintro e w' ⟨rfl, ⟨nd, rfl⟩⟩; (try exact nd2))); try go_wp2_with (first | (go_at_call 76; (with_reducible refine (impl_IsState.calls a0 true _ A2.out).mono ?_); rintro e w7 ⟨rfl, hb⟩; replace HB := hS HB hb; clear hb) | (go_at_call 75; (with_reducible refine (impl_number.calls k a0 t181 _ A4.out).mono ?_); rintro e w' ⟨rfl, ⟨nd, rfl⟩⟩; (try exact nd2)) | (go_at_call 95; (with_reducible refine (impl_mean.calls t181 0 (wrap64 ((ji5) - 1)) t182 _ A6.out).mono ?_); rintro e w' ⟨rfl, ⟨nd, rfl⟩⟩; (try exact nd2))))
  go_ret2
  exact ⟨by first | rfl | (simp [errW_none, errW_some] <;> rfl) | (simp only [← hji5]; first | rfl | (simp [errW_none, errW_some] <;> rfl)) | (simp [*, errW_none, errW_some] <;> rfl), bel HB⟩
 simp only [Option.some.injEq, Prod.mk.injEq] at H
 obtain ⟨rfl, rfl⟩ := H
 go_enter Tryd.func33, Tryd.ntmps33
 go_wp2_with (first | (go_at_call 76; (with_reducible refine (impl_IsState.calls a0 false _ A2.out).mono ?_); rintro e w8 ⟨rfl, hb⟩; replace HB := hS HB hb; clear hb))
 repeat (go_quiet (first | (go_at_call 76; (with_reducible refine (impl_IsState.calls a0 false _ A2.out).mono ?_); rintro e w8 ⟨rfl, hb⟩; replace HB := hS HB hb; clear hb)); try go_wp2_with (first | (go_at_call 76; (with_reducible refine (impl_IsState.calls a0 false _ A2.out).mono ?_); rintro e w8 ⟨rfl, hb⟩; replace HB := hS HB hb; clear hb)))
 go_ret2
 exact ⟨eW, bel HB⟩

/-! ### spec_MeanToClear: function 34 -/
def spec_MeanToClear.f (k : Nat) (a0 : ByteArray) : Option (Int × Bool) := (spec_riGood.f k a0).bind fun t183 => (if t183 = true then ((spec_riNumber.f k a0).bind fun t184 => ((spec_waMean.f t184 0 (wrap64 ((shl .i64 1 (a0.size : Int)) - 1))).bind fun t185 => (some (t185, true)))) else (some (0, false)))
instance spec_MeanToClear.mI (k : Nat) : Mo (spec_MeanToClear.f k) (spec_MeanToClear.f (k + 1)) := by
 (repeat refine mE fun _ => ?_); unfold spec_MeanToClear.f; exact mG
theorem spec_MeanToClear.mono : ∀ a0 k, LeO (spec_MeanToClear.f k a0) (spec_MeanToClear.f (k + 1) a0) := fun a0 k => (spec_MeanToClear.mI k).out a0
set_option maxHeartbeats 8000000 in
set_option maxRecDepth 100000 in
theorem spec_MeanToClear.calls (k : Nat) (a0 : ByteArray) (r1 : Int) (r2 : Bool) (w : World) (h : spec_MeanToClear.f k a0 = some (r1, r2)) :
  Calls Tryd.prog 34 #[.string a0] w fun e w' => e = .returned (.tuple #[.int .i64 r1, .bool r2]) ∧ Drawn0 w w' := by
 have H := h
 clear h; unfold spec_MeanToClear.f at H
 replace H := bC H; obtain ⟨t183, A2, H⟩ := H
 refine iB H ?_ ?_ <;> clear H <;> rintro rfl H
 ·replace H := bC H; obtain ⟨t184, A4, H⟩ := H
  obtain ⟨ji5, hji5⟩ := jN (shl .i64 1 (a0.size : Int))
  first | rw [hji5] at H | simp only [hji5] at H
  (try rw [hji5] at A2)
  (try rw [hji5] at A4)
  have hji5_ : (IntKind.i64.wrap (1 * 2 ^ min (a0.size : Int).toNat 64)) = ji5 := hji5
  have hji5z : (a0.size : Int) ≤ 64 → (IntKind.i64.wrap (1 * 2 ^ (a0.size : Int).toNat)) = ji5 := shl_small hji5
  have hji5u : (IntKind.i64.wrap (2 ^ min (a0.size : Int).toNat 64)) = ji5 := by have h_ := hji5_; rw [Int.one_mul] at h_; exact h_
  have hji5v : (a0.size : Int) ≤ 64 → (IntKind.i64.wrap (2 ^ (a0.size : Int).toNat)) = ji5 := fun hle_ => by have h_ := hji5z hle_; rw [Int.one_mul] at h_; exact h_
  have hji5y : (wrap64 (1 * 2 ^ min (a0.size : Int).toNat 64)) = ji5 := (i64_w _).symm.trans hji5_
  have hji5q : wrap64 (2 ^ min a0.size 64) = ji5 := by have h_ := hji5y; rw [Int.one_mul, Int.toNat_natCast] at h_; exact h_
  have hji5p : IntKind.i64.wrap (2 ^ min a0.size 64) = ji5 := by have h_ := hji5u; rw [Int.toNat_natCast] at h_; exact h_
  have hji5x : (a0.size : Int) ≤ 64 → (wrap64 (1 * 2 ^ (a0.size : Int).toNat)) = ji5 := fun h_ => (i64_w _).symm.trans (hji5z h_)
  replace H := bC H; obtain ⟨t185, A6, H⟩ := H
  simp only [Option.some.injEq, Prod.mk.injEq] at H
  obtain ⟨rfl, rfl⟩ := H
  go_enter Tryd.func34, Tryd.ntmps34
  go_wp2_with (first | (go_at_call 97; (with_reducible refine (spec_riGood.calls k a0 true _ A2.out).mono ?_); rintro e w' ⟨rfl, ⟨nd, rfl⟩⟩; (try exact nd2)) | (go_at_call 98; (with_reducible refine (spec_riNumber.calls k a0 t184 _ A4.out).mono ?_); rintro e w' ⟨rfl, ⟨nd, rfl⟩⟩; (try exact nd2)) | (go_at_call 96; (with_reducible refine (spec_waMean.calls t184 0 (wrap64 ((ji5) - 1)) t185 _ A6.out).mono ?_); rintro e w' ⟨rfl, ⟨nd, rfl⟩⟩; (try exact nd2)))
  repeat (go_quiet (first | (go_at_call 97; (with_reducible refine (spec_riGood.calls k a0 true _ A2.out).mono ?_); rintro e w' ⟨rfl, ⟨nd, rfl⟩⟩; (try exact nd2)) | (go_at_call 98; (with_reducible refine (spec_riNumber.calls k a0 t184 _ A4.out).mono ?_); rintro e w' ⟨rfl, ⟨nd, rfl⟩⟩; (try exact nd2)) | (go_at_call 96; (with_reducible refine (spec_waMean.calls t184 0 (wrap64 ((ji5) - 1)) t185 _ A6.out).mono ?_); rintro e w' ⟨rfl, ⟨nd, rfl⟩⟩; (try exact nd2))); try go_wp2_with (first | (go_at_call 97; (with_reducible refine (spec_riGood.calls k a0 true _ A2.out).mono ?_); rintro e w' ⟨rfl, ⟨nd, rfl⟩⟩; (try exact nd2)) | (go_at_call 98; (with_reducible refine (spec_riNumber.calls k a0 t184 _ A4.out).mono ?_); rintro e w' ⟨rfl, ⟨nd, rfl⟩⟩; (try exact nd2)) | (go_at_call 96; (with_reducible refine (spec_waMean.calls t184 0 (wrap64 ((ji5) - 1)) t185 _ A6.out).mono ?_); rintro e w' ⟨rfl, ⟨nd, rfl⟩⟩; (try exact nd2))))
  go_ret2
  exact ⟨by first | rfl | (simp; done) | (simp only [← hji5] <;> (first | rfl | simp)) | (simp [*]; done), d0⟩
 simp only [Option.some.injEq, Prod.mk.injEq] at H
 obtain ⟨rfl, rfl⟩ := H
 go_enter Tryd.func34, Tryd.ntmps34
 go_wp2_with (first | (go_at_call 97; (with_reducible refine (spec_riGood.calls k a0 false _ A2.out).mono ?_); rintro e w' ⟨rfl, ⟨nd, rfl⟩⟩; (try exact nd2)))
 repeat (go_quiet (first | (go_at_call 97; (with_reducible refine (spec_riGood.calls k a0 false _ A2.out).mono ?_); rintro e w' ⟨rfl, ⟨nd, rfl⟩⟩; (try exact nd2))); try go_wp2_with (first | (go_at_call 97; (with_reducible refine (spec_riGood.calls k a0 false _ A2.out).mono ?_); rintro e w' ⟨rfl, ⟨nd, rfl⟩⟩; (try exact nd2))))
 go_ret2
 exact ⟨rF, d0⟩

/-! ### impl_apart: function 93 -/
def impl_apart.f (a0 : Int) (a1 : Int) : Option (Int) := some (mx (wrap64 (a0 - a1)) (wrap64 (a1 - a0)))
set_option maxHeartbeats 8000000 in
set_option maxRecDepth 100000 in
theorem impl_apart.calls (a0 : Int) (a1 : Int) (r : Int) (w : World) (h : impl_apart.f a0 a1 = some r) :
  Calls Tryd.prog 93 #[.int .i64 a0, .int .i64 a1] w fun e w' => e = .returned (.int .i64 r) ∧ Below w.heap.size w w' := by
 have HB := aM (Below.refl w.heap.size w)
 have H := h
 clear h; unfold impl_apart.f at H
 obtain ⟨ji3, hji3⟩ := jN (mx (wrap64 (a0 - a1)) (wrap64 (a1 - a0)))
 first | rw [hji3] at H | simp only [hji3] at H
 have hji3_ : (if (wrap64 (a0 - a1)) < (wrap64 (a1 - a0)) then (wrap64 (a1 - a0)) else (wrap64 (a0 - a1))) = ji3 := hji3
 obtain rfl := Option.some.inj H
 go_enter Tryd.func93, Tryd.ntmps93
 go_wp2
 go_ret
 exact ⟨by first | rfl | (simp [errW_none, errW_some] <;> rfl) | (simp only [← hji3]; first | rfl | (simp [errW_none, errW_some] <;> rfl)) | (simp [*, errW_none, errW_some] <;> rfl), bel HB⟩

/-! ### impl_FewestMoves: function 35 -/
def impl_FewestMoves.f (k : Nat) (a0 : ByteArray) (a1 : ByteArray) : Option (Int × Bool) := (impl_alike.f a0 a1).bind fun t186 => (if t186 = true then ((impl_number.f k a0).bind fun t187 => ((impl_number.f k a1).bind fun t188 => ((impl_apart.f t187 t188).bind fun t189 => (some (t189, true))))) else (some (0, false)))
instance impl_FewestMoves.mI (k : Nat) : Mo (impl_FewestMoves.f k) (impl_FewestMoves.f (k + 1)) := by
 (repeat refine mE fun _ => ?_); unfold impl_FewestMoves.f; exact mG
theorem impl_FewestMoves.mono : ∀ a0 a1 k, LeO (impl_FewestMoves.f k a0 a1) (impl_FewestMoves.f (k + 1) a0 a1) := fun a0 a1 k => (impl_FewestMoves.mI k).out a0 a1
set_option maxHeartbeats 8000000 in
set_option maxRecDepth 100000 in
theorem impl_FewestMoves.calls (k : Nat) (a0 : ByteArray) (a1 : ByteArray) (r1 : Int) (r2 : Bool) (w : World) (h : impl_FewestMoves.f k a0 a1 = some (r1, r2)) :
  Calls Tryd.prog 35 #[.string a0, .string a1] w fun e w' => e = .returned (.tuple #[.int .i64 r1, .bool r2]) ∧ Below w.heap.size w w' := by
 have HB := aM (Below.refl w.heap.size w)
 have H := h
 clear h; unfold impl_FewestMoves.f at H
 replace H := bC H; obtain ⟨t186, A3, H⟩ := H
 refine iB H ?_ ?_ <;> clear H <;> rintro rfl H
 ·replace H := bC H; obtain ⟨t187, A5, H⟩ := H
  replace H := bC H; obtain ⟨t188, A6, H⟩ := H
  replace H := bC H; obtain ⟨t189, A7, H⟩ := H
  simp only [Option.some.injEq, Prod.mk.injEq] at H
  obtain ⟨rfl, rfl⟩ := H
  go_enter Tryd.func35, Tryd.ntmps35
  go_wp2_with (first | ((with_reducible refine gG 84 (some 8) rfl rfl ?_); refine gC Tryd.func84 (impl_alike.calls a0 a1 true _ A3.out) ?_; rintro w8 hb; replace HB := hS HB hb; clear hb) | ((with_reducible refine gG 75 (some 11) rfl rfl ?_); refine gL Tryd.func75 #[.string a0] ?_; (with_reducible refine (impl_number.calls k a0 t187 _ A5.out).mono ?_); rintro e w' ⟨rfl, ⟨nd, rfl⟩⟩; refine ⟨_, rfl, ?_⟩) | ((with_reducible refine gG 75 (some 13) rfl rfl ?_); refine gL Tryd.func75 #[.string a1] ?_; (with_reducible refine (impl_number.calls k a1 t188 _ A6.out).mono ?_); rintro e w' ⟨rfl, ⟨nd, rfl⟩⟩; refine ⟨_, rfl, ?_⟩) | ((with_reducible refine gG 93 (some 14) rfl rfl ?_); refine gC Tryd.func93 (impl_apart.calls t187 t188 t189 _ A7.out) ?_; rintro w9 hb; replace HB := hS HB hb; clear hb))
  go_ret2
  exact ⟨eW, bel HB⟩
 simp only [Option.some.injEq, Prod.mk.injEq] at H
 obtain ⟨rfl, rfl⟩ := H
 go_enter Tryd.func35, Tryd.ntmps35
 go_wp2_with (first | ((with_reducible refine gG 84 (some 8) rfl rfl ?_); refine gC Tryd.func84 (impl_alike.calls a0 a1 false _ A3.out) ?_; rintro w10 hb; replace HB := hS HB hb; clear hb))
 go_ret2
 exact ⟨eW, bel HB⟩

/-! ### impl_canMove: function 100 -/
def impl_canMove.f (a0 : ByteArray) (a1 : Int) : Option (Bool) := if a1 = 0 then (some true) else ((impl_in.f a1 1 (wrap64 ((a0.size : Int) - 1))).bind fun t190 => (if t190 = true then (if 0 ≤ (wrap64 (a1 - 1)) then (if (wrap64 (a1 - 1)) < (a0.size : Int) then (if (bt a0 (wrap64 (a1 - 1))) = 49 then (if (wrap64 (a1 - 1)) ≤ (a0.size : Int) then ((strings_Trim.f (a0.extract 0 ((wrap64 (a1 - 1)) : Int).toNat) (⟨#[48]⟩ : ByteArray)).bind fun t191 => (some (t191.toList == ([] : List UInt8)))) else (none)) else (some false)) else (none)) else (none)) else (some false)))
set_option maxHeartbeats 8000000 in
set_option maxRecDepth 100000 in
theorem impl_canMove.calls (a0 : ByteArray) (a1 : Int) (r : Bool) (w : World) (h : impl_canMove.f a0 a1 = some r) :
  Calls Tryd.prog 100 #[.string a0, .int .i64 a1] w fun e w' => e = .returned (.bool r) ∧ Below w.heap.size w w' := by
 have HB := aM (Below.refl w.heap.size w)
 have H := h
 clear h; unfold impl_canMove.f at H
 refine iI H ?_ ?_ <;> clear H <;> intro c3 H
 ·have c3b0 := qT c3
  have c3b1 := nF c3
  clear c3
  obtain rfl := Option.some.inj H
  go_enter Tryd.func100, Tryd.ntmps100
  go_wp2
  go_ret
  exact ⟨eW, bel HB⟩
 have c3b0 := qF c3
 have c3b1 := nT c3
 replace H := bC H; obtain ⟨t190, A4, H⟩ := H
 refine iB H ?_ ?_ <;> clear H <;> rintro rfl H
 ·obtain ⟨ji6, hji6⟩ := jN (wrap64 (a1 - 1))
  first | rw [hji6] at H | simp only [hji6] at H
  (try rw [hji6] at A4)
  have hji6w : (IntKind.i64.wrap (a1 - 1)) = ji6 := (i64_w _).trans hji6
  refine iY H ?_; clear H; intro c7 H
  have c7b0 := dT c7
  clear c7
  refine iY H ?_; clear H; intro c8 H
  have c8b0 := dT c8
  clear c8
  refine iI H ?_ ?_ <;> clear H <;> intro c10 H
  ·have c10b0 := qT c10
   have c10b1 := nF c10
   clear c10
   have c11b0 := eq_true (oD : 0 ≤ (ji6))
   refine iY H ?_; clear H; intro c12 H
   have c12b0 := eq_true c12
   have c12b1 := dT c12
   clear c12
   replace H := bC H; obtain ⟨t191, A13, H⟩ := H
   obtain rfl := Option.some.inj H
   go_enter Tryd.func100, Tryd.ntmps100
   go_wp2_with (first | (go_at_call 104; (with_reducible refine (impl_in.calls a1 1 (wrap64 ((a0.size : Int) - 1)) true _ A4.out).mono ?_); rintro e w' ⟨rfl, ⟨nd, rfl⟩⟩; have p9 : 0 ≤ ((ji6) : Int) := oD; have q9 : (ji6) < (a0.size : Int) := oD; have hx9 := bt_at a0 (ji6); replace p9 := eq_true p9; replace q9 := eq_true q9) | (go_at_call 133; (with_reducible refine (strings_Trim.calls (a0.extract 0 ((ji6) : Int).toNat) (⟨#[48]⟩ : ByteArray) t191 _ A13.out).mono ?_); rintro e w14 ⟨rfl, hb⟩; replace HB := hS HB hb; clear hb))
   go_ret
   exact ⟨by first | rfl | (simp [errW_none, errW_some] <;> rfl) | (simp only [← hji6]; first | rfl | (simp [errW_none, errW_some] <;> rfl)) | (simp [*, errW_none, errW_some] <;> rfl), bel HB⟩
  have c10b0 := qF c10
  have c10b1 := nT c10
  obtain rfl := Option.some.inj H
  go_enter Tryd.func100, Tryd.ntmps100
  go_wp2_with (first | (go_at_call 104; (with_reducible refine (impl_in.calls a1 1 (wrap64 ((a0.size : Int) - 1)) true _ A4.out).mono ?_); rintro e w' ⟨rfl, ⟨nd, rfl⟩⟩; have p9 : 0 ≤ ((ji6) : Int) := oD; have q9 : (ji6) < (a0.size : Int) := oD; have hx9 := bt_at a0 (ji6); replace p9 := eq_true p9; replace q9 := eq_true q9))
  go_ret
  exact ⟨by first | rfl | (simp [errW_none, errW_some] <;> rfl) | (simp only [← hji6]; first | rfl | (simp [errW_none, errW_some] <;> rfl)) | (simp [*, errW_none, errW_some] <;> rfl), bel HB⟩
 obtain rfl := Option.some.inj H
 go_enter Tryd.func100, Tryd.ntmps100
 go_wp2_with (first | (go_at_call 104; (with_reducible refine (impl_in.calls a1 1 (wrap64 ((a0.size : Int) - 1)) false _ A4.out).mono ?_); rintro e w' ⟨rfl, ⟨nd, rfl⟩⟩))
 go_ret
 exact ⟨eW, bel HB⟩

/-! ### impl_movesOf: function 99 -/
def impl_movesOf.l0 : Nat → ByteArray → List Int → Int → Int → Option (List Int)
 | 0, _, _, _, _ => none
 | k + 1, x0, x3, x6, x7 => if x7 < x6 then ((impl_canMove.f x0 x7).bind fun t192 => (if t192 = true then (if x3.length < 17592186044416 then (impl_movesOf.l0 k x0 (x3 ++ [x7]) x6 (wrap64 (x7 + 1))) else (none)) else (impl_movesOf.l0 k x0 x3 x6 (wrap64 (x7 + 1))))) else (some x3)
def impl_movesOf.f (k : Nat) (a0 : ByteArray) : Option (List Int) := impl_movesOf.l0 k a0 ([] : List Int) (a0.size : Int) 0
theorem impl_movesOf.mono_l : ∀ k, Mo (impl_movesOf.l0 k) (impl_movesOf.l0 (k + 1))
 | 0 => m0
 | k + 1 => by
  have ih0 := impl_movesOf.mono_l k
  (repeat refine mE fun _ => ?_) <;> first | (unfold impl_movesOf.l0; exact mG)
instance impl_movesOf.mI (k : Nat) : Mo (impl_movesOf.f k) (impl_movesOf.f (k + 1)) := by
 have ih0 := impl_movesOf.mono_l k
 (repeat refine mE fun _ => ?_); unfold impl_movesOf.f; exact mG
theorem impl_movesOf.mono : ∀ a0 k, LeO (impl_movesOf.f k a0) (impl_movesOf.f (k + 1) a0) := fun a0 k => (impl_movesOf.mI k).out a0
set_option maxHeartbeats 8000000 in
set_option maxRecDepth 100000 in
theorem impl_movesOf.calls (k : Nat) (a0 : ByteArray) (r : List Int) (w : World) (h : impl_movesOf.f k a0 = some r) :
  Calls Tryd.prog 99 #[.string a0] w fun e w' => ∃ v0_ : Value, e = .returned (v0_) ∧ Kd.R (Kd.int .i64) 3 w' w.heap.size (fun _ => True) v0_ r ∧ Below w.heap.size w w' := by
 have HB := aM (Below.refl w.heap.size w)
 have H := h
 clear h; unfold impl_movesOf.f at H
 have H' := aM H
 clear H
 go_enter Tryd.func99, Tryd.ntmps99
 go_wp2
 go_loopg [3, 7] k (fun kq v3 v7 w' => ∃ (x3_1 : List Int) (x7_1 : Int), v7 = .int .i64 x7_1 ∧ Aside0 (impl_movesOf.l0 kq a0 x3_1 (a0.size : Int) x7_1 = some r) ∧ Aside0 (kq ≤ k) ∧ Aside0 (Kd.R (Kd.int .i64) 3 w' w.heap.size (fun _ => True) v3 x3_1) ∧ Aside0 (Below w.heap.size w w'))
 case atStart => exact ⟨(([] : List Int)), (0), rF, H', kR, ⟨by first | exact Kd.R_nil _ _ _ _ _ | exact Kd.N_nil _ _ _ _ _ | exact Kd.V_nil _ _ _ _ _ | exact Kd.Q_nil _ _ _ _ _ | exact Kd.S_nil _ _ _ _ _⟩, hV HB⟩
 case round =>
  clear H'
  obtain ⟨x3_1, x7_1, rfl, HA, HK1, HO_3, HB⟩ := hrel
  obtain rfl | ⟨k1, rfl⟩ := fz gk
  ·exact zA HA
  have H := HA.out
  clear HA
  simp only [impl_movesOf.l0] at H
  refine iI H ?_ ?_ <;> clear H <;> intro c2 H
  ·have c2b0 := dT c2
   clear c2
   replace H := bC H; obtain ⟨t192, A3, H⟩ := H
   refine iB H ?_ ?_ <;> clear H <;> rintro rfl H
   ·refine iY H ?_; clear H; intro c5 H
    have LMc5 := aM c5
    clear c5
    obtain ⟨y193, Ny193⟩ := yN (x3_1 ++ [x7_1] : List Int); rw [← Ny193.out] at H
    have H' := aM H
    clear H
    go_wp2_with (first | ((with_reducible refine gG 100 (some 12) rfl rfl ?_); refine gC Tryd.func100 (impl_canMove.calls a0 x7_1 true _ A3.out) ?_; rintro w6 hb; replace HO_3 := rB HO_3 hb; replace HB := hS HB hb; clear hb) | ((with_reducible refine gate_builtin (b := .append) (xs := #[.tmp 13, .tmp 15]) rfl ?_); at_builtin; refine Kd.R_append (Kd.int .i64) (w0 := w) w.heap.size rfl (.tmp 13) (.tmp 15) 43 3 (.int .i64 0) 8 rfl Tryd.underlying43 info3 rfl (by decide) (by omega) u3 x3_1 x7_1 [.int .i64 x7_1] (fun _ => True) (fun _ => False) rfl rfl ?aP (fun _ hk => hk.elim) ?aF ?aO ?aB ?aS ?aL ?_; (case aP => exact rfl); (case aB => exact (bel HB)); (case aF => exact (fun _ _ => trivial)); (case aO => exact (rU HO_3.out)); (case aS => exact (below_size (bel HB))); (case aL => have := LMc5.out; omega); intro v194 w7 ho hb hg hat; rw [← Ny193.out] at ho; have HO195 := aM (ho); replace HB := aM (hb); clear HO_3; clear ho hb hg hat))
    go_roundg k1
    case measure => have := HK1.out; omega
    case rel => exact ⟨(y193), (wrap64 (x7_1 + 1)), rF, H', ⟨by have := HK1.out; omega⟩, ⟨rU HO195.out⟩, hV HB⟩
   have H' := aM H
   clear H
   go_wp2_with (first | ((with_reducible refine gG 100 (some 12) rfl rfl ?_); refine gC Tryd.func100 (impl_canMove.calls a0 x7_1 false _ A3.out) ?_; rintro w8 hb; replace HO_3 := rB HO_3 hb; replace HB := hS HB hb; clear hb))
   go_roundg k1
   case measure => have := HK1.out; omega
   case rel => exact ⟨(x3_1), (wrap64 (x7_1 + 1)), rF, H', ⟨by have := HK1.out; omega⟩, ⟨rU HO_3.out⟩, hV HB⟩
  have c2b0 := dF c2
  clear c2
  obtain rfl := Option.some.inj H
  go_wp2
  go_ret
  exact ⟨_, eW, rU HO_3.out, bel HB⟩

/-! ### impl_MovesOf: function 36 -/
def impl_MovesOf.f (k : Nat) (a0 : ByteArray) : Option (List Int × Bool) := (impl_IsState.f a0).bind fun t196 => (if t196 = true then ((impl_movesOf.f k a0).bind fun t197 => (some (t197, true))) else (some (([] : List Int), false)))
instance impl_MovesOf.mI (k : Nat) : Mo (impl_MovesOf.f k) (impl_MovesOf.f (k + 1)) := by
 (repeat refine mE fun _ => ?_); unfold impl_MovesOf.f; exact mG
theorem impl_MovesOf.mono : ∀ a0 k, LeO (impl_MovesOf.f k a0) (impl_MovesOf.f (k + 1) a0) := fun a0 k => (impl_MovesOf.mI k).out a0
set_option maxHeartbeats 8000000 in
set_option maxRecDepth 100000 in
theorem impl_MovesOf.calls (k : Nat) (a0 : ByteArray) (r1 : List Int) (r2 : Bool) (w : World) (h : impl_MovesOf.f k a0 = some (r1, r2)) :
  Calls Tryd.prog 36 #[.string a0] w fun e w' => ∃ v0_ : Value, e = .returned (.tuple #[v0_, .bool r2]) ∧ Kd.R (Kd.int .i64) 3 w' w.heap.size (fun _ => True) v0_ r1 ∧ Below w.heap.size w w' := by
 have HB := aM (Below.refl w.heap.size w)
 have H := h
 clear h; unfold impl_MovesOf.f at H
 replace H := bC H; obtain ⟨t196, A2, H⟩ := H
 refine iB H ?_ ?_ <;> clear H <;> rintro rfl H
 ·replace H := bC H; obtain ⟨t197, A4, H⟩ := H
  simp only [Option.some.injEq, Prod.mk.injEq] at H
  obtain ⟨rfl, rfl⟩ := H
  go_enter Tryd.func36, Tryd.ntmps36
  go_wp2_with (first | ((with_reducible refine gG 76 (some 5) rfl rfl ?_); refine gC Tryd.func76 (impl_IsState.calls a0 true _ A2.out) ?_; rintro w5 hb; replace HB := hS HB hb; clear hb) | ((with_reducible refine gG 99 (some 8) rfl rfl ?_); refine gD Tryd.func99 (impl_movesOf.calls k a0 t197 _ A4.out) ?_; rintro w6 v198 ⟨ho0, hb⟩; have HO199 := rL ho0 HB; replace HB := hS HB hb; clear hb ho0))
  go_ret2
  exact ⟨_, eW, rU HO199.out, bel HB⟩
 simp only [Option.some.injEq, Prod.mk.injEq] at H
 obtain ⟨rfl, rfl⟩ := H
 go_enter Tryd.func36, Tryd.ntmps36
 go_wp2_with (first | ((with_reducible refine gG 76 (some 5) rfl rfl ?_); refine gC Tryd.func76 (impl_IsState.calls a0 false _ A2.out) ?_; rintro w7 hb; replace HB := hS HB hb; clear hb))
 go_ret2
 exact ⟨_, eW, by first | exact Kd.R_nil _ _ _ _ _ | exact Kd.N_nil _ _ _ _ _ | exact Kd.V_nil _ _ _ _ _ | exact Kd.Q_nil _ _ _ _ _ | exact Kd.S_nil _ _ _ _ _, bel HB⟩

/-! ### impl_turned: function 101 -/
-- by hand (wip/ext/turned.tpl)
/-- A state with a ring moved. -/
def impl_turned.f (a0 : ByteArray) (a1 : Int) : Option ByteArray := if 0 ≤ a1 ∧ a1 < (a0.size : Int) ∧ a0.size ≤ 1000 then some ⟨(a0.data.toList.set a1.toNat (97 - a0.data.toList.getD a1.toNat 0)).toArray⟩ else none
set_option maxHeartbeats 1000000 in
set_option maxRecDepth 100000 in
theorem impl_turned.calls (a0 : ByteArray) (a1 : Int) (r : ByteArray) (w : World) (h : impl_turned.f a0 a1 = some r) :
    Calls Tryd.prog 101 #[.string a0, .int .i64 a1] w fun e w' => e = .returned (.string r) ∧ Below w.heap.size w w' := by
 unfold impl_turned.f at h
 split at h
 case isFalse => cases h
 case isTrue hc =>
 obtain ⟨h0, h1, hmx⟩ := hc
 obtain ⟨k, rfl⟩ : ∃ k : Nat, a1 = k := ⟨a1.toNat, by omega⟩
 rw [Int.toNat_natCast] at h
 have hR := Option.some.inj h
 clear h
 have hus := Tryd.underlying9
 have hzs : a0.size = a0.data.toList.length := Lib.size_eq a0
 have hkl : k < a0.data.toList.length := by omega
 have hk : k < a0.size := by omega
 have HR := aM hR
 have HB := aM (below_setCell (below_bytes (Below.refl w.heap.size w) (Nat.le_refl _) 5 a0) w.heap.size k (.int .u8 (((97 : Int) - (a0.data.toList[k].toNat : Int)) % 256)) (Nat.le_refl _))
 have hcv : ∀ (wx : World) (s : ByteArray), (convert 9 22 (.string s)).run Tryd.prog wx = .ok (.slice (some ⟨wx.heap.size, 0, none⟩) s.size (grownCap wx s.size 0 5)) (Lib.bytesWorld wx 5 s) := fun wx s => Lib.run_convert_string_bytes wx 9 22 5 s Tryd.underlying9 Tryd.underlying22 Tryd.underlying5
 have hby := bytesAt_made w 5 a0
 have hce := bytesAt_cell hby k hk
 have hfz := bytesAt_frozen hby k hk
 have eg : a0.data.toList.getD k 0 = a0.data.toList[k] := by simp [List.getD, List.getElem?_eq_getElem hkl]
 have hsub : ((97 : Int) - (a0.data.toList[k].toNat : Int)) % 256 = ((97 - a0.data.toList[k] : UInt8).toNat : Int) := by
  rw [UInt8.toNat_sub]
  have := a0.data.toList[k].toNat_lt
  have e97 : (97 : UInt8).toNat = 97 := rfl
  rw [e97]
  omega
 have hcs := bytesAt_string (P := Tryd.prog) (src := 22) (dst := 9) (bytesAt_set hby k (97 - a0.data.toList[k])) Tryd.underlying22 Tryd.underlying5 Tryd.underlying9 (grownCap w a0.size 0 5) (a0.data.toList.set k (97 - a0.data.toList[k])) (by rw [List.length_set]; exact hzs.symm) (fun j hj => by
  rw [List.getElem_set]
  by_cases c : k = j
  ·rw [if_pos c.symm, if_pos c]
  rw [if_neg (fun e => c e.symm), if_neg c]
  rw [List.length_set] at hj
  simp [List.getD, List.getElem?_eq_getElem hj])
 rw [← hsub] at hcs
 rw [eg] at hce HR
 have HZ := aM hzs
 have p6 : (0 ≤ (k : Int)) = True := eq_true (by omega)
 have q6 : ((k : Int) < (a0.size : Int)) = True := eq_true (by omega)
 clear hby hR eg hsub hzs h0 h1 hmx
 generalize a0.data.toList[k] = b at hce hcs HR HB
 clear hkl
 go_enter Tryd.func101, Tryd.ntmps101
 go_wp2
 go_ret
 exact ⟨ret_str HR.out, HB.out⟩

/-! ### impl_MoveRing: function 37 -/
def impl_MoveRing.f (a0 : ByteArray) (a1 : Int) : Option (ByteArray × Bool) := (impl_IsState.f a0).bind fun t200 => (if t200 = true then ((impl_canMove.f a0 a1).bind fun t201 => (if t201 = true then ((impl_turned.f a0 a1).bind fun t202 => (some (t202, true))) else (some ((⟨#[]⟩ : ByteArray), false)))) else (some ((⟨#[]⟩ : ByteArray), false)))
set_option maxHeartbeats 8000000 in
set_option maxRecDepth 100000 in
theorem impl_MoveRing.calls (a0 : ByteArray) (a1 : Int) (r1 : ByteArray) (r2 : Bool) (w : World) (h : impl_MoveRing.f a0 a1 = some (r1, r2)) :
  Calls Tryd.prog 37 #[.string a0, .int .i64 a1] w fun e w' => e = .returned (.tuple #[.string r1, .bool r2]) ∧ Below w.heap.size w w' := by
 have HB := aM (Below.refl w.heap.size w)
 have H := h
 clear h; unfold impl_MoveRing.f at H
 replace H := bC H; obtain ⟨t200, A3, H⟩ := H
 refine iB H ?_ ?_ <;> clear H <;> rintro rfl H
 ·replace H := bC H; obtain ⟨t201, A5, H⟩ := H
  refine iB H ?_ ?_ <;> clear H <;> rintro rfl H
  ·replace H := bC H; obtain ⟨t202, A7, H⟩ := H
   simp only [Option.some.injEq, Prod.mk.injEq] at H
   obtain ⟨rfl, rfl⟩ := H
   go_enter Tryd.func37, Tryd.ntmps37
   go_wp2_with (first | ((with_reducible refine gG 76 (some 7) rfl rfl ?_); refine gC Tryd.func76 (impl_IsState.calls a0 true _ A3.out) ?_; rintro w8 hb; replace HB := hS HB hb; clear hb) | (go_at_call 100; (with_reducible refine (impl_canMove.calls a0 a1 true _ A5.out).mono ?_); rintro e w9 ⟨rfl, hb⟩; replace HB := hS HB hb; clear hb) | ((with_reducible refine gG 101 (some 17) rfl rfl ?_); refine gC Tryd.func101 (impl_turned.calls a0 a1 t202 _ A7.out) ?_; rintro w10 hb; replace HB := hS HB hb; clear hb))
   go_ret2
   exact ⟨eW, bel HB⟩
  simp only [Option.some.injEq, Prod.mk.injEq] at H
  obtain ⟨rfl, rfl⟩ := H
  go_enter Tryd.func37, Tryd.ntmps37
  go_wp2_with (first | ((with_reducible refine gG 76 (some 7) rfl rfl ?_); refine gC Tryd.func76 (impl_IsState.calls a0 true _ A3.out) ?_; rintro w11 hb; replace HB := hS HB hb; clear hb) | (go_at_call 100; (with_reducible refine (impl_canMove.calls a0 a1 false _ A5.out).mono ?_); rintro e w12 ⟨rfl, hb⟩; replace HB := hS HB hb; clear hb))
  go_ret2
  exact ⟨eW, bel HB⟩
 simp only [Option.some.injEq, Prod.mk.injEq] at H
 obtain ⟨rfl, rfl⟩ := H
 go_enter Tryd.func37, Tryd.ntmps37
 go_wp2_with (first | ((with_reducible refine gG 76 (some 7) rfl rfl ?_); refine gC Tryd.func76 (impl_IsState.calls a0 false _ A3.out) ?_; rintro w13 hb; replace HB := hS HB hb; clear hb))
 go_ret2
 exact ⟨eW, bel HB⟩

/-! ### spec_DrawChanceBefore: function 38 -/
def spec_DrawChanceBefore.l0 : Nat → ByteArray → ByteArray → ByteArray → ByteArray → Int → List Int → Int → Int → Option (ByteArray × ByteArray × ByteArray)
 | 0, _, _, _, _, _, _, _, _ => none
 | k + 1, x6, x7, x8, x17, x18, x204000, x204001, x204002 => if x18 < (x17.size : Int) then (if 0 ≤ x18 then (if (bt x17 x18) < 128 then (if x18 < 1000000000 then ((spec_l1Cur_of.f x204000 x204001 x204002 (([(⟨#[48]⟩ : ByteArray), (⟨#[49]⟩ : ByteArray)] : List ByteArray))).bind fun bt211 => (if x8.size + bt211.1.size ≤ 9223372036854775807 then (spec_DrawChanceBefore.l0 k x6 x7 (x8 ++ bt211.1) x17 (wrap64 (x18 + 1)) x204000 bt211.2.1 bt211.2.2) else (none))) else (none)) else (none)) else (none)) else (some (x8, x6, x7))
def spec_DrawChanceBefore.f (k : Nat) (l0 : List Int) : Option (ByteArray × ByteArray × ByteArray) := (spec_l1Cur_states.f k l0 0 0).bind fun bt204 => (spec_DrawChanceBefore.l0 k bt204.1 bt204.2.1 (⟨#[]⟩ : ByteArray) bt204.1 0 l0 bt204.2.2.1 bt204.2.2.2)
theorem spec_DrawChanceBefore.mono_l : ∀ k, Mo (spec_DrawChanceBefore.l0 k) (spec_DrawChanceBefore.l0 (k + 1))
 | 0 => m0
 | k + 1 => by
  have ih0 := spec_DrawChanceBefore.mono_l k
  (repeat refine mE fun _ => ?_) <;> first | (unfold spec_DrawChanceBefore.l0; exact mG)
instance spec_DrawChanceBefore.mI (k : Nat) : Mo (spec_DrawChanceBefore.f k) (spec_DrawChanceBefore.f (k + 1)) := by
 have ih0 := spec_DrawChanceBefore.mono_l k
 (repeat refine mE fun _ => ?_); unfold spec_DrawChanceBefore.f; exact mG
theorem spec_DrawChanceBefore.mono : ∀ a0 k, LeO (spec_DrawChanceBefore.f k a0) (spec_DrawChanceBefore.f (k + 1) a0) := fun a0 k => (spec_DrawChanceBefore.mI k).out a0
set_option maxHeartbeats 8000000 in
set_option maxRecDepth 100000 in
theorem spec_DrawChanceBefore.calls (k : Nat) (A0 : Option Addr) (c0 : Nat) (l0 : List Int) (r1 : ByteArray) (r2 : ByteArray) (r3 : ByteArray) (w : World) (hr0 : Kd.C (Kd.int .u8) w A0 l0.length l0) (hc0 : l0.length ≤ c0) (h : spec_DrawChanceBefore.f k l0 = some (r1, r2, r3)) :
  Calls Tryd.prog 38 #[.slice A0 l0.length c0] w fun e w' => e = .returned (.tuple #[.string r1, .string r2, .string r3]) ∧ Below w.heap.size w w' := by
 have hu87 := Tryd.underlying87
 have HR0 := aM hr0
 have HC0 := aM hc0
 clear hr0 hc0
 have HB := aM (Below.refl w.heap.size w)
 have H := h
 clear h; unfold spec_DrawChanceBefore.f at H
 replace H := bC H; obtain ⟨⟨t204, t205, t206, t207⟩, A2, H⟩ := H; try dsimp only at H
 have H' := aM H
 clear H
 go_enter Tryd.func38, Tryd.ntmps38
 go_wp2_with (first | ((with_reducible refine gate_dst (N := 11) rfl ?_); refine box_event ?hg (N := 11) ?hd (cs := #[.slice A0 l0.length c0, .int .i64 0, .int .u64 0]) (t := 87) ?hr ?_; (case hd => rfl); (case hg => rfl); (case hr => first | (go_simp; done) | (go_simp; rfl)); intro gb203 hg w3 hbox hb; have HI203 := sS87 ((show IsS87 w w3 gb203 l0 0 0 from ⟨_, _, hbox, (by rw [hg]; exact (below_size (bel HB)) : w.heap.size ≤ gb203), HR0.out⟩)); have GI_HI203 := IsS87.geI HI203; replace HB := hS HB hb; clear hb hbox hg) | ((with_reducible refine gG 102 (some 14) rfl rfl ?_); refine gC Tryd.func102 (spec_l1Cur_states.calls k gb203 l0 0 0 t204 t205 t206 t207 w _ tS87 (bel HB) A2.out) ?_; rintro w4 ⟨hi, hb, hk⟩; replace HB := aM (hb); replace HI203 := sS87 (hi); clear hb hk hi))
 obtain ⟨KI18, hKq_, hKb_, hIq_, hBq_⟩ := rng_start HB.out t204
 have hKB18 := aM hKb_
 have hKN18 := aM (rng_ne_ hKq_ (IsS87.lt HI203.out))
 have hIq_ := aM hIq_
 have n91_ := sS87 (IsS87.iter HI203.out t204)
 clear HI203 HB
 have HI203 := n91_
 have HB := aM hBq_
 clear n91_ 
 rw [← hKq_]
 clear hKq_ hKb_ hBq_
 go_loopg [8] k (fun kq v8 w' => ∃ (x8_1 : ByteArray) (x18_1 : Int) (x204001_1 : Int) (x204002_1 : Int), v8 = .string x8_1 ∧ Aside0 (0 ≤ x18_1) ∧ Aside0 (w'.heap[KI18]? = some (.stringIter t204 x18_1.toNat)) ∧ Aside0 (spec_DrawChanceBefore.l0 kq t204 t205 x8_1 t204 x18_1 l0 x204001_1 x204002_1 = some (r1, r2, r3)) ∧ Aside0 (kq ≤ k) ∧ IsC87 w w' gb203 l0 x204001_1 x204002_1 ∧ Aside0 (Below w.heap.size w w'))
 case atStart => exact ⟨((⟨#[]⟩ : ByteArray)), (0), (t206), (t207), rF, ⟨Int.le_refl 0⟩, ⟨hIq_.out⟩, H', kR, ⟨tS87⟩, hV HB⟩
 case round =>
  clear H'
  obtain ⟨x8_1, x18_1, x204001_1, x204002_1, rfl, h0I18, HR18_, HA, HK1, HI203, HB⟩ := hrel
  obtain rfl | ⟨k1, rfl⟩ := fz gk
  ·exact zA HA
  have H := HA.out
  clear HA
  simp only [spec_DrawChanceBefore.l0] at H
  refine iI H ?_ ?_ <;> clear H <;> intro c5 H
  ·have c5b0 := dT c5
   clear c5
   refine iY H ?_; clear H; intro c6 H
   have c6b0 := dT c6
   clear c6
   refine iY H ?_; clear H; intro c8 H
   have c8b0 := dT c8
   clear c8
   refine iY H ?_; clear H; intro c9 H
   have c9b0 := dT c9
   clear c9
   obtain ⟨y208, Ny208⟩ := yN (([(⟨#[48]⟩ : ByteArray), (⟨#[49]⟩ : ByteArray)] : List ByteArray) : List ByteArray); rw [← Ny208.out] at H
   replace H := bC H; obtain ⟨⟨t211, t212, t213⟩, A10, H⟩ := H; try dsimp only at H
   refine iY H ?_; clear H; intro c11 H
   have c11b0 := eq_true c11
   have c11b1 := dT c11
   try have c11b2 : (9223372036854775807 < x8_1.size + t211.size) = False := eq_false (Nat.not_lt.2 c11)
   have H' := aM H
   clear H
   have p7 : 0 ≤ (x18_1 : Int) := oD
   have q7 : x18_1 < (t204.size : Int) := oD
   have hx7 := bt_at t204 x18_1
   replace p7 := eq_true p7
   replace q7 := eq_true q7
   have hltI_ : x18_1 < (t204.size : Int) := of_decide_eq_true (by assumption)
   have hbtI_ : bt t204 x18_1 < 128 := of_decide_eq_true (by assumption)
   have hwI18 := aM (show wrap64 (x18_1 + 1) = x18_1 + 1 from by have h9_ : x18_1 < 1000000000 := of_decide_eq_true (by assumption); have h8_ := h0I18.out; unfold wrap64; omega)
   obtain ⟨rn_, hnext⟩ := rng_next (P := Tryd.prog) HR18_.out h0I18.out hltI_ hbtI_
   clear hltI_ hbtI_
   have nI_ := aM (rng_at (p' := (x18_1 + 1).toNat) HR18_.out)
   have n91_ := sS87 (IsS87.iterAt HI203.out hKN18.out t204 (x18_1 + 1).toNat)
   have nB_ := aM (rng_below (s := t204) (p := (x18_1 + 1).toNat) HB.out hKB18.out)
   clear HR18_ HI203 HB
   have HR18_ := nI_
   have HI203 := n91_
   have HB := nB_
   clear nI_ n91_ nB_ 
   generalize wr.iterAt KI18 t204 (x18_1 + 1).toNat = wr at hnext HR18_ HI203 HB
   go_wp2_with (first | ((with_reducible refine gate_dst (N := 23) rfl ?_); refine Kd.R_lit Kd.string _ 9 ?hg (N := 23) ?hd (xs := ([(⟨#[48]⟩ : ByteArray), (⟨#[49]⟩ : ByteArray)] : List ByteArray)) (inner := [.string (⟨#[48]⟩ : ByteArray), .string (⟨#[49]⟩ : ByteArray)]) (ok := fun _ => True) (okp := fun _ => True) ?hr ?hp (fun _ hk => hk) trivial (Below.refl _ _) (Nat.le_refl _) (by simp) ?_; (case hd => rfl); (case hg => rfl); (case hr => first | (go_simp; done) | (go_simp; rfl)); (case hp => exact (Reps.one (show Kd.M Kd.string _ _ _ (⟨#[48]⟩ : ByteArray) [.string (⟨#[48]⟩ : ByteArray)] from rfl) (Reps.one (show Kd.M Kd.string _ _ _ (⟨#[49]⟩ : ByteArray) [.string (⟨#[49]⟩ : ByteArray)] from rfl) (Reps.none _ _)))); intro v209 w12 ho13 hb hg_ hnew_; clear hg_ hnew_; have nR_ := aM (blk_below (bU HR18_.out) hb); clear HR18_; have HR18_ := nR_; clear nR_; (first | rw [← Ny208.out] at ho13 | (simp only [Int.reduceToNat] at ho13; rw [← Ny208.out] at ho13)); have HO210 := rL ho13 HB; replace HI203 := bS87 gb203 hb; replace HB := hS HB hb; clear hb ho13; obtain ⟨Ao14, co14, eo14⟩ := Kd.R_slice HO210.out; subst eo14) | ((with_reducible refine gG 103 (some 24) rfl rfl ?_); refine gC Tryd.func103 (spec_l1Cur_of.calls gb203 l0 x204001_1 x204002_1 _ _ y208 t211 t212 t213 w _ tS87 (bel HB) (cU ((Kd.R_reads' HO210.out).2.2)) ((Kd.R_reads' HO210.out).2.1) (far_slice (IsS87.own_ne HI203.out HO210.out (by decide))) A10.out) ?_; rintro w15 ⟨hi, hb, hk⟩; have nR_ := aM (rng_kept (bU HR18_.out) hk hKN18.out); clear HR18_; have HR18_ := nR_; clear nR_; replace HO210 := aM (Kd.R_mono (Kd.R_keep (IsS87.apart (show IsS87 w _ gb203 l0 x204001_1 x204002_1 from tS87) (rU HO210.out) (by decide)) hk (fun _ h => h.2)) (fun _ h => h.1)); replace HB := aM (hb); replace HI203 := sS87 (hi); clear hb hk hi))
   try clear hnext
   go_roundg k1
   case measure => have := HK1.out; omega
   case rel => exact ⟨(x8_1 ++ t211), (wrap64 (x18_1 + 1)), (t212), (t213), rF, ⟨by rw [hwI18.out]; have h8_ := h0I18.out; omega⟩, ⟨by rw [hwI18.out]; (with_reducible repeat (first | refine blk_drewN ?_ _ | refine blk_drew ?_ | refine blk_alloc ?_ _)); exact HR18_.out⟩, H', ⟨by have := HK1.out; omega⟩, ⟨tS87⟩, hV HB⟩
  have c5b0 := dF c5
  clear c5
  simp only [Option.some.injEq, Prod.mk.injEq] at H
  obtain ⟨rfl, rfl, rfl⟩ := H
  have hnext := rng_end (P := Tryd.prog) HR18_.out h0I18.out (of_decide_eq_false (by assumption) : ¬ x18_1 < (t204.size : Int))
  go_wp2
  try clear hnext
  go_ret3
  exact ⟨eW, bel HB⟩

end Go.Proofs.YtcogjabdddikjaaDoor.PWMn
