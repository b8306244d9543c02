-- squeezed (sq3.py); PRINTED by drive.py (a program of this session's, over the kit's print.py; wip/tools/drive.py). Lean checks it.
import Derived.Test.YtcogjabdddikjaaDoorQPSCntx0
import Derived.Test.YtcogjabdddikjaaDoorQPSCntx1
import Derived.Test.YtcogjabdddikjaaDoorQPSCntx2
import Derived.Test.YtcogjabdddikjaaDoorQSq
namespace Go.Proofs.YtcogjabdddikjaaDoor.PSCnt
open Go.RowKit Go.Proofs.YtcogjabdddikjaaDoorW.PrintWords Go.Proofs.YtcogjabdddikjaaDoorW.PrintLast Go.Proofs.YtcogjabdddikjaaDoorW.PrintMore
attribute [local go_sem] max2_int min2_int max_two min_two max_three min_three max_four min_four   -- for this text's walks alone
set_option linter.unusedVariables false
set_option linter.unusedSimpArgs false

/-! ### impl_CountWithOn: function 10 -/
def impl_CountWithOn.f (k : Nat) (a0 : Int) (a1 : Int) : Option (Int × Bool) := (impl_isOn.f a0 a1).bind fun t161 => (if t161 = true then ((impl_chosen.f k a0 a1).bind fun t162 => (some (t162, true))) else (some (0, false)))
instance impl_CountWithOn.mI (k : Nat) : Mo (impl_CountWithOn.f k) (impl_CountWithOn.f (k + 1)) := by
 (repeat refine mE fun _ => ?_); unfold impl_CountWithOn.f; exact mG
theorem impl_CountWithOn.mono : ∀ a0 a1 k, LeO (impl_CountWithOn.f k a0 a1) (impl_CountWithOn.f (k + 1) a0 a1) := fun a0 a1 k => (impl_CountWithOn.mI k).out a0 a1
set_option maxHeartbeats 8000000 in
set_option maxRecDepth 100000 in
theorem impl_CountWithOn.calls (k : Nat) (a0 : Int) (a1 : Int) (r1 : Int) (r2 : Bool) (w : World) (h : impl_CountWithOn.f k a0 a1 = some (r1, r2)) :
  Calls Tryd.prog 10 #[.int .i64 a0, .int .i64 a1] w fun e w' => e = .returned (.tuple #[.int .i64 r1, .bool r2]) ∧ Drawn0 w w' := by
 have H := h
 clear h; unfold impl_CountWithOn.f at H
 replace H := bC H; obtain ⟨t161, A3, H⟩ := H
 refine iB H ?_ ?_ <;> clear H <;> rintro rfl H
 ·replace H := bC H; obtain ⟨t162, A5, H⟩ := H
  simp only [Option.some.injEq, Prod.mk.injEq] at H
  obtain ⟨rfl, rfl⟩ := H
  go_enter Tryd.func10, Tryd.ntmps10
  go_wp2_with (first | ((with_reducible refine gG 69 (some 8) rfl rfl ?_); refine gL Tryd.func69 #[.int .i64 a0, .int .i64 a1] ?_; (with_reducible refine (impl_isOn.calls a0 a1 true _ A3.out).mono ?_); rintro e w' ⟨rfl, ⟨nd, rfl⟩⟩; refine ⟨_, rfl, ?_⟩) | ((with_reducible refine gG 70 (some 12) rfl rfl ?_); refine gL Tryd.func70 #[.int .i64 a0, .int .i64 a1] ?_; (with_reducible refine (impl_chosen.calls k a0 a1 t162 _ A5.out).mono ?_); rintro e w' ⟨rfl, ⟨nd, rfl⟩⟩; refine ⟨_, rfl, ?_⟩))
  go_ret2
  exact ⟨rF, d0⟩
 simp only [Option.some.injEq, Prod.mk.injEq] at H
 obtain ⟨rfl, rfl⟩ := H
 go_enter Tryd.func10, Tryd.ntmps10
 go_wp2_with (first | ((with_reducible refine gG 69 (some 8) rfl rfl ?_); refine gL Tryd.func69 #[.int .i64 a0, .int .i64 a1] ?_; (with_reducible refine (impl_isOn.calls a0 a1 false _ A3.out).mono ?_); rintro e w' ⟨rfl, ⟨nd, rfl⟩⟩; refine ⟨_, rfl, ?_⟩))
 go_ret2
 exact ⟨rF, d0⟩

/-! ### spec_CountWithOn: function 11 -/
def spec_CountWithOn.f (k : Nat) (a0 : Int) (a1 : Int) : Option (Int × Bool) := (spec_waOn.f a0 a1).bind fun t163 => (if t163 = true then ((spec_waWith.f k a0 a1).bind fun t164 => (some ((t164.length : Int), true))) else (some (0, false)))
instance spec_CountWithOn.mI (k : Nat) : Mo (spec_CountWithOn.f k) (spec_CountWithOn.f (k + 1)) := by
 (repeat refine mE fun _ => ?_); unfold spec_CountWithOn.f; exact mG
theorem spec_CountWithOn.mono : ∀ a0 a1 k, LeO (spec_CountWithOn.f k a0 a1) (spec_CountWithOn.f (k + 1) a0 a1) := fun a0 a1 k => (spec_CountWithOn.mI k).out a0 a1
set_option maxHeartbeats 8000000 in
set_option maxRecDepth 100000 in
theorem spec_CountWithOn.calls (k : Nat) (a0 : Int) (a1 : Int) (r1 : Int) (r2 : Bool) (w : World) (h : spec_CountWithOn.f k a0 a1 = some (r1, r2)) :
  Calls Tryd.prog 11 #[.int .i64 a0, .int .i64 a1] w fun e w' => e = .returned (.tuple #[.int .i64 r1, .bool r2]) ∧ Below w.heap.size w w' := by
 have HB := aM (Below.refl w.heap.size w)
 have H := h
 clear h; unfold spec_CountWithOn.f at H
 replace H := bC H; obtain ⟨t163, A3, H⟩ := H
 refine iB H ?_ ?_ <;> clear H <;> rintro rfl H
 ·replace H := bC H; obtain ⟨t164, A5, H⟩ := H
  simp only [Option.some.injEq, Prod.mk.injEq] at H
  obtain ⟨rfl, rfl⟩ := H
  go_enter Tryd.func11, Tryd.ntmps11
  go_wp2_with (first | ((with_reducible refine gG 72 (some 8) rfl rfl ?_); refine gL Tryd.func72 #[.int .i64 a0, .int .i64 a1] ?_; (with_reducible refine (spec_waOn.calls a0 a1 true _ A3.out).mono ?_); rintro e w' ⟨rfl, ⟨nd, rfl⟩⟩; refine ⟨_, rfl, ?_⟩) | ((with_reducible refine gG 73 (some 12) rfl rfl ?_); refine gD Tryd.func73 (spec_waWith.calls k a0 a1 t164 _ A5.out) ?_; rintro w6 v165 ⟨ho0, hb⟩; have HO166 := rL ho0 HB; replace HB := hS HB hb; clear hb ho0; obtain ⟨Ao7, co7, eo7⟩ := Kd.R_slice HO166.out; subst eo7))
  go_ret2
  exact ⟨eW, bel HB⟩
 simp only [Option.some.injEq, Prod.mk.injEq] at H
 obtain ⟨rfl, rfl⟩ := H
 go_enter Tryd.func11, Tryd.ntmps11
 go_wp2_with (first | ((with_reducible refine gG 72 (some 8) rfl rfl ?_); refine gL Tryd.func72 #[.int .i64 a0, .int .i64 a1] ?_; (with_reducible refine (spec_waOn.calls a0 a1 false _ A3.out).mono ?_); rintro e w' ⟨rfl, ⟨nd, rfl⟩⟩; refine ⟨_, rfl, ?_⟩))
 go_ret2
 exact ⟨eW, bel HB⟩

/-! ### impl_LeastWithOn: function 12 -/
def impl_LeastWithOn.f (k : Nat) (a0 : Int) (a1 : Int) : Option (ByteArray × Bool) := (impl_isOn.f a0 a1).bind fun t167 => (if t167 = true then ((impl_withOn.f k a0 a1).bind fun t168 => (if 0 < (t168.length : Int) then (some (rdOf ByteArray.empty t168 0, true)) else (none))) else (some ((⟨#[]⟩ : ByteArray), false)))
instance impl_LeastWithOn.mI (k : Nat) : Mo (impl_LeastWithOn.f k) (impl_LeastWithOn.f (k + 1)) := by
 (repeat refine mE fun _ => ?_); unfold impl_LeastWithOn.f; exact mG
theorem impl_LeastWithOn.mono : ∀ a0 a1 k, LeO (impl_LeastWithOn.f k a0 a1) (impl_LeastWithOn.f (k + 1) a0 a1) := fun a0 a1 k => (impl_LeastWithOn.mI k).out a0 a1
set_option maxHeartbeats 8000000 in
set_option maxRecDepth 100000 in
theorem impl_LeastWithOn.calls (k : Nat) (a0 : Int) (a1 : Int) (r1 : ByteArray) (r2 : Bool) (w : World) (h : impl_LeastWithOn.f k a0 a1 = some (r1, r2)) :
  Calls Tryd.prog 12 #[.int .i64 a0, .int .i64 a1] w fun e w' => e = .returned (.tuple #[.string r1, .bool r2]) ∧ Below w.heap.size w w' := by
 have HB := aM (Below.refl w.heap.size w)
 have H := h
 clear h; unfold impl_LeastWithOn.f at H
 replace H := bC H; obtain ⟨t167, A3, H⟩ := H
 refine iB H ?_ ?_ <;> clear H <;> rintro rfl H
 ·replace H := bC H; obtain ⟨t168, A5, H⟩ := H
  refine iY H ?_; clear H; intro c6 H
  have c6b0 := dT c6
  have c6b1 : decide (0 < t168.length) = true := decide_eq_true (by omega)
  clear c6
  simp only [Option.some.injEq, Prod.mk.injEq] at H
  obtain ⟨rfl, rfl⟩ := H
  go_enter Tryd.func12, Tryd.ntmps12
  go_wp2_with (first | ((with_reducible refine gG 69 (some 8) rfl rfl ?_); refine gL Tryd.func69 #[.int .i64 a0, .int .i64 a1] ?_; (with_reducible refine (impl_isOn.calls a0 a1 true _ A3.out).mono ?_); rintro e w' ⟨rfl, ⟨nd, rfl⟩⟩; refine ⟨_, rfl, ?_⟩) | ((with_reducible refine gG 71 (some 12) rfl rfl ?_); refine gD Tryd.func71 (impl_withOn.calls k a0 a1 t168 _ A5.out) ?_; rintro w7 v169 ⟨ho0, hb⟩; have HO170 := rL ho0 HB; replace HB := hS HB hb; clear hb ho0; obtain ⟨Ao8, co8, eo8⟩ := Kd.R_slice HO170.out; subst eo8; have p171 : 0 ≤ (0 : Int) := (by omega); have q171 : 0 < (t168.length : Int) := oD; obtain ⟨ad171, e171, hx171_0⟩ := Kd.at_string (Kd.R_reads' HO170.out).2.2 0 p171 q171; cases e171; have qi171 : (0 < t168.length) = True := eq_true (by omega); (try rw [show ((0 : Int)).toNat = 0 from rfl] at hx171_0); (try rw [Addr.add_zero'] at hx171_0); replace p171 := eq_true p171; replace q171 := eq_true q171))
  go_ret2
  exact ⟨eW, bel HB⟩
 simp only [Option.some.injEq, Prod.mk.injEq] at H
 obtain ⟨rfl, rfl⟩ := H
 go_enter Tryd.func12, Tryd.ntmps12
 go_wp2_with (first | ((with_reducible refine gG 69 (some 8) rfl rfl ?_); refine gL Tryd.func69 #[.int .i64 a0, .int .i64 a1] ?_; (with_reducible refine (impl_isOn.calls a0 a1 false _ A3.out).mono ?_); rintro e w' ⟨rfl, ⟨nd, rfl⟩⟩; refine ⟨_, rfl, ?_⟩))
 go_ret2
 exact ⟨eW, bel HB⟩

/-! ### spec_LeastWithOn: function 13 -/
def spec_LeastWithOn.f (k : Nat) (a0 : Int) (a1 : Int) : Option (ByteArray × Bool) := (spec_waOn.f a0 a1).bind fun t172 => (if t172 = true then ((spec_waWith.f k a0 a1).bind fun t173 => (if 0 < (t173.length : Int) then ((spec_riState.f k a0 (rd t173 0)).bind fun t177 => (some (t177, true))) else (none))) else (some ((⟨#[]⟩ : ByteArray), false)))
instance spec_LeastWithOn.mI (k : Nat) : Mo (spec_LeastWithOn.f k) (spec_LeastWithOn.f (k + 1)) := by
 (repeat refine mE fun _ => ?_); unfold spec_LeastWithOn.f; exact mG
theorem spec_LeastWithOn.mono : ∀ a0 a1 k, LeO (spec_LeastWithOn.f k a0 a1) (spec_LeastWithOn.f (k + 1) a0 a1) := fun a0 a1 k => (spec_LeastWithOn.mI k).out a0 a1
set_option maxHeartbeats 8000000 in
set_option maxRecDepth 100000 in
theorem spec_LeastWithOn.calls (k : Nat) (a0 : Int) (a1 : Int) (r1 : ByteArray) (r2 : Bool) (w : World) (h : spec_LeastWithOn.f k a0 a1 = some (r1, r2)) :
  Calls Tryd.prog 13 #[.int .i64 a0, .int .i64 a1] w fun e w' => e = .returned (.tuple #[.string r1, .bool r2]) ∧ Below w.heap.size w w' := by
 have HB := aM (Below.refl w.heap.size w)
 have H := h
 clear h; unfold spec_LeastWithOn.f at H
 replace H := bC H; obtain ⟨t172, A3, H⟩ := H
 refine iB H ?_ ?_ <;> clear H <;> rintro rfl H
 ·replace H := bC H; obtain ⟨t173, A5, H⟩ := H
  refine iY H ?_; clear H; intro c6 H
  have c6b0 := dT c6
  have c6b1 : decide (0 < t173.length) = true := decide_eq_true (by omega)
  clear c6
  replace H := bC H; obtain ⟨t177, A7, H⟩ := H
  simp only [Option.some.injEq, Prod.mk.injEq] at H
  obtain ⟨rfl, rfl⟩ := H
  go_enter Tryd.func13, Tryd.ntmps13
  go_wp2_with (first | ((with_reducible refine gG 72 (some 8) rfl rfl ?_); refine gL Tryd.func72 #[.int .i64 a0, .int .i64 a1] ?_; (with_reducible refine (spec_waOn.calls a0 a1 true _ A3.out).mono ?_); rintro e w' ⟨rfl, ⟨nd, rfl⟩⟩; refine ⟨_, rfl, ?_⟩) | ((with_reducible refine gG 73 (some 13) rfl rfl ?_); refine gD Tryd.func73 (spec_waWith.calls k a0 a1 t173 _ A5.out) ?_; rintro w8 v174 ⟨ho0, hb⟩; have HO175 := rL ho0 HB; replace HB := hS HB hb; clear hb ho0; obtain ⟨Ao9, co9, eo9⟩ := Kd.R_slice HO175.out; subst eo9; have p176 : 0 ≤ (0 : Int) := (by omega); have q176 : 0 < (t173.length : Int) := oD; obtain ⟨ad176, e176, hx176_0⟩ := Kd.at_int (Kd.R_reads' HO175.out).2.2 0 p176 q176; cases e176; have qi176 : (0 < t173.length) = True := eq_true (by omega); (try rw [show ((0 : Int)).toNat = 0 from rfl] at hx176_0); (try rw [Addr.add_zero'] at hx176_0); replace p176 := eq_true p176; replace q176 := eq_true q176) | ((with_reducible refine gG 74 (some 16) rfl rfl ?_); refine gL Tryd.func74 #[.int .i64 a0, .int .i64 (rd t173 0)] ?_; (with_reducible refine (spec_riState.calls k a0 (rd t173 0) t177 _ A7.out).mono ?_); rintro e w' ⟨rfl, ⟨nd, rfl⟩⟩; refine ⟨_, rfl, ?_⟩))
  go_ret2
  exact ⟨eW, bel HB⟩
 simp only [Option.some.injEq, Prod.mk.injEq] at H
 obtain ⟨rfl, rfl⟩ := H
 go_enter Tryd.func13, Tryd.ntmps13
 go_wp2_with (first | ((with_reducible refine gG 72 (some 8) rfl rfl ?_); refine gL Tryd.func72 #[.int .i64 a0, .int .i64 a1] ?_; (with_reducible refine (spec_waOn.calls a0 a1 false _ A3.out).mono ?_); rintro e w' ⟨rfl, ⟨nd, rfl⟩⟩; refine ⟨_, rfl, ?_⟩))
 go_ret2
 exact ⟨eW, bel HB⟩

/-! ### impl_GreatestWithOn: function 14 -/
def impl_GreatestWithOn.f (k : Nat) (a0 : Int) (a1 : Int) : Option (ByteArray × Bool) := (impl_isOn.f a0 a1).bind fun t178 => (if t178 = true then ((impl_withOn.f k a0 a1).bind fun t179 => (if 0 ≤ (wrap64 ((t179.length : Int) - 1)) then (if (wrap64 ((t179.length : Int) - 1)) < (t179.length : Int) then (some (rdOf ByteArray.empty t179 (wrap64 ((t179.length : Int) - 1)), true)) else (none)) else (none))) else (some ((⟨#[]⟩ : ByteArray), false)))
instance impl_GreatestWithOn.mI (k : Nat) : Mo (impl_GreatestWithOn.f k) (impl_GreatestWithOn.f (k + 1)) := by
 (repeat refine mE fun _ => ?_); unfold impl_GreatestWithOn.f; exact mG
theorem impl_GreatestWithOn.mono : ∀ a0 a1 k, LeO (impl_GreatestWithOn.f k a0 a1) (impl_GreatestWithOn.f (k + 1) a0 a1) := fun a0 a1 k => (impl_GreatestWithOn.mI k).out a0 a1
set_option maxHeartbeats 8000000 in
set_option maxRecDepth 100000 in
theorem impl_GreatestWithOn.calls (k : Nat) (a0 : Int) (a1 : Int) (r1 : ByteArray) (r2 : Bool) (w : World) (h : impl_GreatestWithOn.f k a0 a1 = some (r1, r2)) :
  Calls Tryd.prog 14 #[.int .i64 a0, .int .i64 a1] w fun e w' => e = .returned (.tuple #[.string r1, .bool r2]) ∧ Below w.heap.size w w' := by
 have HB := aM (Below.refl w.heap.size w)
 have H := h
 clear h; unfold impl_GreatestWithOn.f at H
 replace H := bC H; obtain ⟨t178, A3, H⟩ := H
 refine iB H ?_ ?_ <;> clear H <;> rintro rfl H
 ·replace H := bC H; obtain ⟨t179, A5, H⟩ := H
  obtain ⟨ji6, hji6⟩ := jN (wrap64 ((t179.length : Int) - 1))
  first | rw [hji6] at H | simp only [hji6] at H
  (try rw [hji6] at A3)
  (try rw [hji6] at A5)
  have hji6w : (IntKind.i64.wrap ((t179.length : Int) - 1)) = ji6 := (i64_w _).trans hji6
  refine iY H ?_; clear H; intro c7 H
  have c7b0 := dT c7
  clear c7
  refine iY H ?_; clear H; intro c8 H
  have c8b0 := dT c8
  clear c8
  simp only [Option.some.injEq, Prod.mk.injEq] at H
  obtain ⟨rfl, rfl⟩ := H
  go_enter Tryd.func14, Tryd.ntmps14
  go_wp2_with (first | ((with_reducible refine gG 69 (some 9) rfl rfl ?_); refine gL Tryd.func69 #[.int .i64 a0, .int .i64 a1] ?_; (with_reducible refine (impl_isOn.calls a0 a1 true _ A3.out).mono ?_); rintro e w' ⟨rfl, ⟨nd, rfl⟩⟩; refine ⟨_, rfl, ?_⟩) | ((with_reducible refine gG 71 (some 13) rfl rfl ?_); refine gD Tryd.func71 (impl_withOn.calls k a0 a1 t179 _ A5.out) ?_; rintro w9 v180 ⟨ho0, hb⟩; have HO181 := rL ho0 HB; replace HB := hS HB hb; clear hb ho0; obtain ⟨Ao10, co10, eo10⟩ := Kd.R_slice HO181.out; subst eo10; have p182 : 0 ≤ ((ji6) : Int) := oD; have q182 : (ji6) < (t179.length : Int) := oD; obtain ⟨ad182, e182, hx182_0⟩ := Kd.at_string (Kd.R_reads' HO181.out).2.2 (ji6) p182 q182; cases e182; replace p182 := eq_true p182; replace q182 := eq_true q182))
  go_ret2
  exact ⟨by first | rfl | (simp [errW_none, errW_some] <;> rfl) | (simp only [← hji6]; first | rfl | (simp [errW_none, errW_some] <;> rfl)) | (simp [*, errW_none, errW_some] <;> rfl), bel HB⟩
 simp only [Option.some.injEq, Prod.mk.injEq] at H
 obtain ⟨rfl, rfl⟩ := H
 go_enter Tryd.func14, Tryd.ntmps14
 go_wp2_with (first | ((with_reducible refine gG 69 (some 9) rfl rfl ?_); refine gL Tryd.func69 #[.int .i64 a0, .int .i64 a1] ?_; (with_reducible refine (impl_isOn.calls a0 a1 false _ A3.out).mono ?_); rintro e w' ⟨rfl, ⟨nd, rfl⟩⟩; refine ⟨_, rfl, ?_⟩))
 go_ret2
 exact ⟨eW, bel HB⟩

/-! ### spec_GreatestWithOn: function 15 -/
def spec_GreatestWithOn.f (k : Nat) (a0 : Int) (a1 : Int) : Option (ByteArray × Bool) := (spec_waOn.f a0 a1).bind fun t183 => (if t183 = true then ((spec_waWith.f k a0 a1).bind fun t184 => (if 0 ≤ (wrap64 ((t184.length : Int) - 1)) then (if (wrap64 ((t184.length : Int) - 1)) < (t184.length : Int) then ((spec_riState.f k a0 (rd t184 (wrap64 ((t184.length : Int) - 1)))).bind fun t188 => (some (t188, true))) else (none)) else (none))) else (some ((⟨#[]⟩ : ByteArray), false)))
instance spec_GreatestWithOn.mI (k : Nat) : Mo (spec_GreatestWithOn.f k) (spec_GreatestWithOn.f (k + 1)) := by
 (repeat refine mE fun _ => ?_); unfold spec_GreatestWithOn.f; exact mG
theorem spec_GreatestWithOn.mono : ∀ a0 a1 k, LeO (spec_GreatestWithOn.f k a0 a1) (spec_GreatestWithOn.f (k + 1) a0 a1) := fun a0 a1 k => (spec_GreatestWithOn.mI k).out a0 a1
set_option maxHeartbeats 8000000 in
set_option maxRecDepth 100000 in
theorem spec_GreatestWithOn.calls (k : Nat) (a0 : Int) (a1 : Int) (r1 : ByteArray) (r2 : Bool) (w : World) (h : spec_GreatestWithOn.f k a0 a1 = some (r1, r2)) :
  Calls Tryd.prog 15 #[.int .i64 a0, .int .i64 a1] w fun e w' => e = .returned (.tuple #[.string r1, .bool r2]) ∧ Below w.heap.size w w' := by
 have HB := aM (Below.refl w.heap.size w)
 have H := h
 clear h; unfold spec_GreatestWithOn.f at H
 replace H := bC H; obtain ⟨t183, A3, H⟩ := H
 refine iB H ?_ ?_ <;> clear H <;> rintro rfl H
 ·replace H := bC H; obtain ⟨t184, A5, H⟩ := H
  obtain ⟨ji6, hji6⟩ := jN (wrap64 ((t184.length : Int) - 1))
  first | rw [hji6] at H | simp only [hji6] at H
  (try rw [hji6] at A3)
  (try rw [hji6] at A5)
  have hji6w : (IntKind.i64.wrap ((t184.length : Int) - 1)) = ji6 := (i64_w _).trans hji6
  refine iY H ?_; clear H; intro c7 H
  have c7b0 := dT c7
  clear c7
  refine iY H ?_; clear H; intro c8 H
  have c8b0 := dT c8
  clear c8
  replace H := bC H; obtain ⟨t188, A9, H⟩ := H
  simp only [Option.some.injEq, Prod.mk.injEq] at H
  obtain ⟨rfl, rfl⟩ := H
  go_enter Tryd.func15, Tryd.ntmps15
  go_wp2_with (first | ((with_reducible refine gG 72 (some 9) rfl rfl ?_); refine gL Tryd.func72 #[.int .i64 a0, .int .i64 a1] ?_; (with_reducible refine (spec_waOn.calls a0 a1 true _ A3.out).mono ?_); rintro e w' ⟨rfl, ⟨nd, rfl⟩⟩; refine ⟨_, rfl, ?_⟩) | ((with_reducible refine gG 73 (some 13) rfl rfl ?_); refine gD Tryd.func73 (spec_waWith.calls k a0 a1 t184 _ A5.out) ?_; rintro w10 v185 ⟨ho0, hb⟩; have HO186 := rL ho0 HB; replace HB := hS HB hb; clear hb ho0; obtain ⟨Ao11, co11, eo11⟩ := Kd.R_slice HO186.out; subst eo11; have p187 : 0 ≤ ((ji6) : Int) := oD; have q187 : (ji6) < (t184.length : Int) := oD; obtain ⟨ad187, e187, hx187_0⟩ := Kd.at_int (Kd.R_reads' HO186.out).2.2 (ji6) p187 q187; cases e187; replace p187 := eq_true p187; replace q187 := eq_true q187) | ((with_reducible refine gG 74 (some 21) rfl rfl ?_); refine gL Tryd.func74 #[.int .i64 a0, .int .i64 (rd t184 (ji6))] ?_ (hargs := by (try simp only [List.map_toArray, List.map_cons, List.map_nil]); first | done | (simp only [hji6]; rfl) | rfl | (simp only [List.length_drop, List.length_take]; rfl)); (with_reducible refine (spec_riState.calls k a0 (rd t184 (ji6)) t188 _ A9.out).mono ?_); rintro e w' ⟨rfl, ⟨nd, rfl⟩⟩; refine ⟨_, rfl, ?_⟩))
  go_ret2
  exact ⟨by first | rfl | (simp [errW_none, errW_some] <;> rfl) | (simp only [← hji6]; first | rfl | (simp [errW_none, errW_some] <;> rfl)) | (simp [*, errW_none, errW_some] <;> rfl), bel HB⟩
 simp only [Option.some.injEq, Prod.mk.injEq] at H
 obtain ⟨rfl, rfl⟩ := H
 go_enter Tryd.func15, Tryd.ntmps15
 go_wp2_with (first | ((with_reducible refine gG 72 (some 9) rfl rfl ?_); refine gL Tryd.func72 #[.int .i64 a0, .int .i64 a1] ?_; (with_reducible refine (spec_waOn.calls a0 a1 false _ A3.out).mono ?_); rintro e w' ⟨rfl, ⟨nd, rfl⟩⟩; refine ⟨_, rfl, ?_⟩))
 go_ret2
 exact ⟨eW, bel HB⟩

/-! ### impl_unreflected: function 131 -/
def impl_unreflected.l0 : Nat → Int → Int → Option (Int)
 | 0, _, _ => none
 | k + 1, x0, x3 => if x0 > 0 then (impl_unreflected.l0 k (wrap64 (Int.tdiv x0 2)) (Go.bits .xor .i64 x3 x0)) else (some x3)
def impl_unreflected.f (k : Nat) (a0 : Int) : Option (Int) := impl_unreflected.l0 k a0 0
theorem impl_unreflected.mono_l : ∀ k, Mo (impl_unreflected.l0 k) (impl_unreflected.l0 (k + 1))
 | 0 => m0
 | k + 1 => by
  have ih0 := impl_unreflected.mono_l k
  (repeat refine mE fun _ => ?_) <;> first | (unfold impl_unreflected.l0; exact mG)
instance impl_unreflected.mI (k : Nat) : Mo (impl_unreflected.f k) (impl_unreflected.f (k + 1)) := by
 have ih0 := impl_unreflected.mono_l k
 (repeat refine mE fun _ => ?_); unfold impl_unreflected.f; exact mG
theorem impl_unreflected.mono : ∀ a0 k, LeO (impl_unreflected.f k a0) (impl_unreflected.f (k + 1) a0) := fun a0 k => (impl_unreflected.mI k).out a0
set_option maxHeartbeats 8000000 in
set_option maxRecDepth 100000 in
theorem impl_unreflected.calls (k : Nat) (a0 : Int) (r : Int) (w : World) (h : impl_unreflected.f k a0 = some r) :
  Calls Tryd.prog 131 #[.int .i64 a0] w fun e w' => e = .returned (.int .i64 r) ∧ Drawn0 w w' := by
 have H := h
 clear h; unfold impl_unreflected.f at H
 have H' := aM H
 clear H
 go_enter Tryd.func131, Tryd.ntmps131
 go_wp2
 go_loopg [0, 3] k (fun kq v0 v3 w' => ∃ (x0_1 : Int) (x3_1 : Int), v0 = .int .i64 x0_1 ∧ v3 = .int .i64 x3_1 ∧ Aside0 (impl_unreflected.l0 kq x0_1 x3_1 = some r) ∧ Aside0 (kq ≤ k) ∧ Drawn0 w w')
 case atStart => exact ⟨(a0), (0), rF, rF, H', kR, d0⟩
 case round =>
  clear H'
  obtain ⟨x0_1, x3_1, rfl, rfl, HA, HK1, ⟨m1, rfl⟩⟩ := hrel
  obtain rfl | ⟨k1, rfl⟩ := fz gk
  ·exact zA HA
  have H := HA.out
  clear HA
  simp only [impl_unreflected.l0] at H
  refine iI H ?_ ?_ <;> clear H <;> intro c2 H
  ·have c2b0 := gT c2
   clear c2
   have H' := aM H
   clear H
   go_wp2
   go_roundg k1
   case measure => have := HK1.out; omega
   case rel => exact ⟨(wrap64 (Int.tdiv x0_1 2)), (Go.bits .xor .i64 x3_1 x0_1), rF, rF, H', ⟨by have := HK1.out; omega⟩, d0⟩
  have c2b0 := gF c2
  clear c2
  obtain rfl := Option.some.inj H
  go_wp2
  go_ret
  exact ⟨rF, d0⟩

/-! ### impl_bits: function 132 -/
def impl_bits.l0 : Nat → ByteArray → Int → Int → Option (Int)
 | 0, _, _, _ => none
 | k + 1, x0, x3, x4 => if x4 ≥ 0 then (if 0 ≤ x4 then (if x4 < (x0.size : Int) then (impl_bits.l0 k x0 (wrap64 ((wrap64 (2 * x3)) + (((bt x0 x4) - 48) % 256))) (wrap64 (x4 - 1))) else (none)) else (none)) else (some x3)
def impl_bits.f (k : Nat) (a0 : ByteArray) : Option (Int) := impl_bits.l0 k a0 0 (wrap64 ((a0.size : Int) - 1))
theorem impl_bits.mono_l : ∀ k, Mo (impl_bits.l0 k) (impl_bits.l0 (k + 1))
 | 0 => m0
 | k + 1 => by
  have ih0 := impl_bits.mono_l k
  (repeat refine mE fun _ => ?_) <;> first | (unfold impl_bits.l0; exact mG)
instance impl_bits.mI (k : Nat) : Mo (impl_bits.f k) (impl_bits.f (k + 1)) := by
 have ih0 := impl_bits.mono_l k
 (repeat refine mE fun _ => ?_); unfold impl_bits.f; exact mG
theorem impl_bits.mono : ∀ a0 k, LeO (impl_bits.f k a0) (impl_bits.f (k + 1) a0) := fun a0 k => (impl_bits.mI k).out a0
set_option maxHeartbeats 8000000 in
set_option maxRecDepth 100000 in
theorem impl_bits.calls (k : Nat) (a0 : ByteArray) (r : Int) (w : World) (h : impl_bits.f k a0 = some r) :
  Calls Tryd.prog 132 #[.string a0] w fun e w' => e = .returned (.int .i64 r) ∧ Drawn0 w w' := by
 have H := h
 clear h; unfold impl_bits.f at H
 have H' := aM H
 clear H
 go_enter Tryd.func132, Tryd.ntmps132
 go_wp2
 go_loopg [3, 4] k (fun kq v3 v4 w' => ∃ (x3_1 : Int) (x4_1 : Int), v3 = .int .i64 x3_1 ∧ v4 = .int .i64 x4_1 ∧ Aside0 (impl_bits.l0 kq a0 x3_1 x4_1 = some r) ∧ Aside0 (kq ≤ k) ∧ Drawn0 w w')
 case atStart => exact ⟨(0), (wrap64 ((a0.size : Int) - 1)), rF, rF, H', kR, d0⟩
 case round =>
  clear H'
  obtain ⟨x3_1, x4_1, rfl, rfl, HA, HK1, ⟨m1, rfl⟩⟩ := hrel
  obtain rfl | ⟨k1, rfl⟩ := fz gk
  ·exact zA HA
  have H := HA.out
  clear HA
  simp only [impl_bits.l0] at H
  refine iI H ?_ ?_ <;> clear H <;> intro c2 H
  ·have c2b0 := hT c2
   clear c2
   refine iY H ?_; clear H; intro c3 H
   have c3b0 := dT c3
   clear c3
   refine iY H ?_; clear H; intro c4 H
   have c4b0 := dT c4
   clear c4
   have H' := aM H
   clear H
   have p5 : 0 ≤ (x4_1 : Int) := oD
   have q5 : x4_1 < (a0.size : Int) := oD
   have hx5 := bt_at a0 x4_1
   replace p5 := eq_true p5
   replace q5 := eq_true q5
   go_wp2
   go_roundg k1
   case measure => have := HK1.out; omega
   case rel => exact ⟨(wrap64 ((wrap64 (2 * x3_1)) + (((bt a0 x4_1) - 48) % 256))), (wrap64 (x4_1 - 1)), rF, rF, H', ⟨by have := HK1.out; omega⟩, d0⟩
  have c2b0 := hF c2
  clear c2
  obtain rfl := Option.some.inj H
  go_wp2
  go_ret
  exact ⟨rF, d0⟩

/-! ### impl_number: function 75 -/
def impl_number.f (k : Nat) (a0 : ByteArray) : Option (Int) := (impl_bits.f k a0).bind fun t189 => ((impl_unreflected.f k t189).bind fun t190 => (some t190))
instance impl_number.mI (k : Nat) : Mo (impl_number.f k) (impl_number.f (k + 1)) := by
 (repeat refine mE fun _ => ?_); unfold impl_number.f; exact mG
theorem impl_number.mono : ∀ a0 k, LeO (impl_number.f k a0) (impl_number.f (k + 1) a0) := fun a0 k => (impl_number.mI k).out a0
set_option maxHeartbeats 8000000 in
set_option maxRecDepth 100000 in
theorem impl_number.calls (k : Nat) (a0 : ByteArray) (r : Int) (w : World) (h : impl_number.f k a0 = some r) :
  Calls Tryd.prog 75 #[.string a0] w fun e w' => e = .returned (.int .i64 r) ∧ Drawn0 w w' := by
 have H := h
 clear h; unfold impl_number.f at H
 replace H := bC H; obtain ⟨t189, A2, H⟩ := H
 replace H := bC H; obtain ⟨t190, A3, H⟩ := H
 obtain rfl := Option.some.inj H
 go_enter Tryd.func75, Tryd.ntmps75
 go_wp2_with (first | ((with_reducible refine gG 132 (some 4) rfl rfl ?_); refine gL Tryd.func132 #[.string a0] ?_; (with_reducible refine (impl_bits.calls k a0 t189 _ A2.out).mono ?_); rintro e w' ⟨rfl, ⟨nd, rfl⟩⟩; refine ⟨_, rfl, ?_⟩) | ((with_reducible refine gG 131 (some 5) rfl rfl ?_); refine gL Tryd.func131 #[.int .i64 t189] ?_; (with_reducible refine (impl_unreflected.calls k t189 t190 _ A3.out).mono ?_); rintro e w' ⟨rfl, ⟨nd, rfl⟩⟩; refine ⟨_, rfl, ?_⟩))
 go_ret
 exact ⟨rF, d0⟩

/-! ### impl_SumWithOn: function 16 -/
def impl_SumWithOn.l0 : Nat → Int → List ByteArray → Int → Int → Option (Int × Bool)
 | 0, _, _, _, _ => none
 | k + 1, x6, x15, x16, x17 => if x17 < x16 then (if 0 ≤ x17 then (if x17 < (x15.length : Int) then ((impl_number.f k (rdOf ByteArray.empty x15 x17)).bind fun t196 => (impl_SumWithOn.l0 k (wrap64 (x6 + t196)) x15 x16 (wrap64 (x17 + 1)))) else (none)) else (none)) else (some (x6, true))
def impl_SumWithOn.f (k : Nat) (a0 : Int) (a1 : Int) : Option (Int × Bool) := (impl_isOn.f a0 a1).bind fun t191 => (if t191 = true then ((impl_withOn.f k a0 a1).bind fun t192 => (impl_SumWithOn.l0 k 0 t192 (t192.length : Int) 0)) else (some (0, false)))
theorem impl_SumWithOn.mono_l : ∀ k, Mo (impl_SumWithOn.l0 k) (impl_SumWithOn.l0 (k + 1))
 | 0 => m0
 | k + 1 => by
  have ih0 := impl_SumWithOn.mono_l k
  (repeat refine mE fun _ => ?_) <;> first | (unfold impl_SumWithOn.l0; exact mG)
instance impl_SumWithOn.mI (k : Nat) : Mo (impl_SumWithOn.f k) (impl_SumWithOn.f (k + 1)) := by
 have ih0 := impl_SumWithOn.mono_l k
 (repeat refine mE fun _ => ?_); unfold impl_SumWithOn.f; exact mG
theorem impl_SumWithOn.mono : ∀ a0 a1 k, LeO (impl_SumWithOn.f k a0 a1) (impl_SumWithOn.f (k + 1) a0 a1) := fun a0 a1 k => (impl_SumWithOn.mI k).out a0 a1
set_option maxHeartbeats 8000000 in
set_option maxRecDepth 100000 in
theorem impl_SumWithOn.calls (k : Nat) (a0 : Int) (a1 : Int) (r1 : Int) (r2 : Bool) (w : World) (h : impl_SumWithOn.f k a0 a1 = some (r1, r2)) :
  Calls Tryd.prog 16 #[.int .i64 a0, .int .i64 a1] w fun e w' => e = .returned (.tuple #[.int .i64 r1, .bool r2]) ∧ Below w.heap.size w w' := by
 have HB := aM (Below.refl w.heap.size w)
 have H := h
 clear h; unfold impl_SumWithOn.f at H
 replace H := bC H; obtain ⟨t191, A3, H⟩ := H
 refine iB H ?_ ?_ <;> clear H <;> rintro rfl H
 ·replace H := bC H; obtain ⟨t192, A5, H⟩ := H
  have H' := aM H
  clear H
  go_enter Tryd.func16, Tryd.ntmps16
  go_wp2_with (first | ((with_reducible refine gG 69 (some 11) rfl rfl ?_); refine gL Tryd.func69 #[.int .i64 a0, .int .i64 a1] ?_; (with_reducible refine (impl_isOn.calls a0 a1 true _ A3.out).mono ?_); rintro e w' ⟨rfl, ⟨nd, rfl⟩⟩; refine ⟨_, rfl, ?_⟩) | ((with_reducible refine gG 71 (some 15) rfl rfl ?_); refine gD Tryd.func71 (impl_withOn.calls k a0 a1 t192 _ A5.out) ?_; rintro w6 v193 ⟨ho0, hb⟩; have HO194 := rL ho0 HB; replace HB := hS HB hb; clear hb ho0; obtain ⟨Ao7, co7, eo7⟩ := Kd.R_slice HO194.out; subst eo7))
  go_loopg [6, 17] k (fun kq v6 v17 w' => ∃ (x6_1 : Int) (x17_1 : Int), v6 = .int .i64 x6_1 ∧ v17 = .int .i64 x17_1 ∧ Aside0 (impl_SumWithOn.l0 kq x6_1 t192 (t192.length : Int) x17_1 = some (r1, r2)) ∧ Aside0 (kq ≤ k) ∧ Aside0 (Kd.R Kd.string 9 w' w.heap.size (fun _ => True) (.slice Ao7 t192.length co7) t192) ∧ Aside0 (Below w.heap.size w w'))
  case atStart => exact ⟨(0), (0), rF, rF, H', kR, ⟨rU HO194.out⟩, hV HB⟩
  case round =>
   clear H'
   obtain ⟨x6_1, x17_1, rfl, rfl, HA, HK1, HO_15, HB⟩ := hrel
   obtain rfl | ⟨k1, rfl⟩ := fz gk
   ·exact zA HA
   have H := HA.out
   clear HA
   simp only [impl_SumWithOn.l0] at H
   refine iI H ?_ ?_ <;> clear H <;> intro c8 H
   ·have c8b0 := dT c8
    clear c8
    refine iY H ?_; clear H; intro c9 H
    have c9b0 := dT c9
    clear c9
    refine iY H ?_; clear H; intro c10 H
    have c10b0 := dT c10
    clear c10
    replace H := bC H; obtain ⟨t196, A11, H⟩ := H
    have H' := aM H
    clear H
    have p195 : 0 ≤ (x17_1 : Int) := oD
    have q195 : x17_1 < (t192.length : Int) := oD
    obtain ⟨ad195, e195, hx195_0⟩ := Kd.at_string (Kd.R_reads' HO_15.out).2.2 x17_1 p195 q195
    cases e195
    replace p195 := eq_true p195
    replace q195 := eq_true q195
    go_wp2_with (first | ((with_reducible refine gG 75 (some 23) rfl rfl ?_); refine gL Tryd.func75 #[.string (rdOf ByteArray.empty t192 x17_1)] ?_; (with_reducible refine (impl_number.calls k1 (rdOf ByteArray.empty t192 x17_1) t196 _ A11.out).mono ?_); rintro e w' ⟨rfl, ⟨nd, rfl⟩⟩; refine ⟨_, rfl, ?_⟩))
    go_roundg k1
    case measure => have := HK1.out; omega
    case rel => exact ⟨(wrap64 (x6_1 + t196)), (wrap64 (x17_1 + 1)), rF, rF, H', ⟨by have := HK1.out; omega⟩, ⟨rU HO_15.out⟩, hV HB⟩
   have c8b0 := dF c8
   clear c8
   simp only [Option.some.injEq, Prod.mk.injEq] at H
   obtain ⟨rfl, rfl⟩ := H
   go_wp2
   go_ret2
   exact ⟨eW, bel HB⟩
 simp only [Option.some.injEq, Prod.mk.injEq] at H
 obtain ⟨rfl, rfl⟩ := H
 go_enter Tryd.func16, Tryd.ntmps16
 go_wp2_with (first | ((with_reducible refine gG 69 (some 11) rfl rfl ?_); refine gL Tryd.func69 #[.int .i64 a0, .int .i64 a1] ?_; (with_reducible refine (impl_isOn.calls a0 a1 false _ A3.out).mono ?_); rintro e w' ⟨rfl, ⟨nd, rfl⟩⟩; refine ⟨_, rfl, ?_⟩))
 go_ret2
 exact ⟨eW, bel HB⟩

/-! ### spec_SumWithOn: function 17 -/
def spec_SumWithOn.l0 : Nat → Int → List Int → Int → Int → Option (Int × Bool)
 | 0, _, _, _, _ => none
 | k + 1, x6, x15, x16, x17 => if x17 < x16 then (if 0 ≤ x17 then (if x17 < (x15.length : Int) then (spec_SumWithOn.l0 k (wrap64 (x6 + (rd x15 x17))) x15 x16 (wrap64 (x17 + 1))) else (none)) else (none)) else (some (x6, true))
def spec_SumWithOn.f (k : Nat) (a0 : Int) (a1 : Int) : Option (Int × Bool) := (spec_waOn.f a0 a1).bind fun t197 => (if t197 = true then ((spec_waWith.f k a0 a1).bind fun t198 => (spec_SumWithOn.l0 k 0 t198 (t198.length : Int) 0)) else (some (0, false)))
theorem spec_SumWithOn.mono_l : ∀ k, Mo (spec_SumWithOn.l0 k) (spec_SumWithOn.l0 (k + 1))
 | 0 => m0
 | k + 1 => by
  have ih0 := spec_SumWithOn.mono_l k
  (repeat refine mE fun _ => ?_) <;> first | (unfold spec_SumWithOn.l0; exact mG)
instance spec_SumWithOn.mI (k : Nat) : Mo (spec_SumWithOn.f k) (spec_SumWithOn.f (k + 1)) := by
 have ih0 := spec_SumWithOn.mono_l k
 (repeat refine mE fun _ => ?_); unfold spec_SumWithOn.f; exact mG
theorem spec_SumWithOn.mono : ∀ a0 a1 k, LeO (spec_SumWithOn.f k a0 a1) (spec_SumWithOn.f (k + 1) a0 a1) := fun a0 a1 k => (spec_SumWithOn.mI k).out a0 a1
set_option maxHeartbeats 8000000 in
set_option maxRecDepth 100000 in
theorem spec_SumWithOn.calls (k : Nat) (a0 : Int) (a1 : Int) (r1 : Int) (r2 : Bool) (w : World) (h : spec_SumWithOn.f k a0 a1 = some (r1, r2)) :
  Calls Tryd.prog 17 #[.int .i64 a0, .int .i64 a1] w fun e w' => e = .returned (.tuple #[.int .i64 r1, .bool r2]) ∧ Below w.heap.size w w' := by
 have HB := aM (Below.refl w.heap.size w)
 have H := h
 clear h; unfold spec_SumWithOn.f at H
 replace H := bC H; obtain ⟨t197, A3, H⟩ := H
 refine iB H ?_ ?_ <;> clear H <;> rintro rfl H
 ·replace H := bC H; obtain ⟨t198, A5, H⟩ := H
  have H' := aM H
  clear H
  go_enter Tryd.func17, Tryd.ntmps17
  go_wp2_with (first | ((with_reducible refine gG 72 (some 11) rfl rfl ?_); refine gL Tryd.func72 #[.int .i64 a0, .int .i64 a1] ?_; (with_reducible refine (spec_waOn.calls a0 a1 true _ A3.out).mono ?_); rintro e w' ⟨rfl, ⟨nd, rfl⟩⟩; refine ⟨_, rfl, ?_⟩) | ((with_reducible refine gG 73 (some 15) rfl rfl ?_); refine gD Tryd.func73 (spec_waWith.calls k a0 a1 t198 _ A5.out) ?_; rintro w6 v199 ⟨ho0, hb⟩; have HO200 := rL ho0 HB; replace HB := hS HB hb; clear hb ho0; obtain ⟨Ao7, co7, eo7⟩ := Kd.R_slice HO200.out; subst eo7))
  go_loopg [6, 17] k (fun kq v6 v17 w' => ∃ (x6_1 : Int) (x17_1 : Int), v6 = .int .i64 x6_1 ∧ v17 = .int .i64 x17_1 ∧ Aside0 (spec_SumWithOn.l0 kq x6_1 t198 (t198.length : Int) x17_1 = some (r1, r2)) ∧ Aside0 (kq ≤ k) ∧ Aside0 (Kd.R (Kd.int .i64) 3 w' w.heap.size (fun _ => True) (.slice Ao7 t198.length co7) t198) ∧ Aside0 (Below w.heap.size w w'))
  case atStart => exact ⟨(0), (0), rF, rF, H', kR, ⟨rU HO200.out⟩, hV HB⟩
  case round =>
   clear H'
   obtain ⟨x6_1, x17_1, rfl, rfl, HA, HK1, HO_15, HB⟩ := hrel
   obtain rfl | ⟨k1, rfl⟩ := fz gk
   ·exact zA HA
   have H := HA.out
   clear HA
   simp only [spec_SumWithOn.l0] at H
   refine iI H ?_ ?_ <;> clear H <;> intro c8 H
   ·have c8b0 := dT c8
    clear c8
    refine iY H ?_; clear H; intro c9 H
    have c9b0 := dT c9
    clear c9
    refine iY H ?_; clear H; intro c10 H
    have c10b0 := dT c10
    clear c10
    have H' := aM H
    clear H
    have p201 : 0 ≤ (x17_1 : Int) := oD
    have q201 : x17_1 < (t198.length : Int) := oD
    obtain ⟨ad201, e201, hx201_0⟩ := Kd.at_int (Kd.R_reads' HO_15.out).2.2 x17_1 p201 q201
    cases e201
    replace p201 := eq_true p201
    replace q201 := eq_true q201
    go_wp2
    go_roundg k1
    case measure => have := HK1.out; omega
    case rel => exact ⟨(wrap64 (x6_1 + (rd t198 x17_1))), (wrap64 (x17_1 + 1)), rF, rF, H', ⟨by have := HK1.out; omega⟩, ⟨rU HO_15.out⟩, hV HB⟩
   have c8b0 := dF c8
   clear c8
   simp only [Option.some.injEq, Prod.mk.injEq] at H
   obtain ⟨rfl, rfl⟩ := H
   go_wp2
   go_ret2
   exact ⟨eW, bel HB⟩
 simp only [Option.some.injEq, Prod.mk.injEq] at H
 obtain ⟨rfl, rfl⟩ := H
 go_enter Tryd.func17, Tryd.ntmps17
 go_wp2_with (first | ((with_reducible refine gG 72 (some 11) rfl rfl ?_); refine gL Tryd.func72 #[.int .i64 a0, .int .i64 a1] ?_; (with_reducible refine (spec_waOn.calls a0 a1 false _ A3.out).mono ?_); rintro e w' ⟨rfl, ⟨nd, rfl⟩⟩; refine ⟨_, rfl, ?_⟩))
 go_ret2
 exact ⟨eW, bel HB⟩

end Go.Proofs.YtcogjabdddikjaaDoor.PSCnt
