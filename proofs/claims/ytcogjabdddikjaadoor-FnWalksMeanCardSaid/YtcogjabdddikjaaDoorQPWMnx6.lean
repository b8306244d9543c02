-- squeezed (sq3.py); PRINTED by drive.py (a program of this session's, over the kit's print.py; wip/tools/drive.py). Lean checks it.
import Derived.Test.YtcogjabdddikjaaDoorQPWMnx0
import Derived.Test.YtcogjabdddikjaaDoorQPWMnx2
import Derived.Test.YtcogjabdddikjaaDoorQPWMnx5
import Derived.Test.YtcogjabdddikjaaDoorQSq
namespace Go.Proofs.YtcogjabdddikjaaDoor.PWMn
open Go.RowKit Go.Proofs.YtcogjabdddikjaaDoorW.PrintWords Go.Proofs.YtcogjabdddikjaaDoorW.PrintLast Go.Proofs.YtcogjabdddikjaaDoorW.PrintMore
attribute [local go_sem] max2_int min2_int max_two min_two max_three min_three max_four min_four   -- for this text's walks alone
set_option linter.unusedVariables false
set_option linter.unusedSimpArgs false

/-! ### impl_WalksTo: function 42 -/
def impl_WalksTo.j0 : Nat → ByteArray → ByteArray → Int → Bool → Option (Int × Bool)
 | 0, _, _, _, _ => none
 | k + 1, x0, x1, x2, x21 => if x21 = true then (some (0, false)) else ((impl_spread.f k x0 x2 1).bind fun t269 => ((impl_number.f k x1).bind fun t272 => (if 0 ≤ t272 then (if t272 < (t269.length : Int) then (some (rd t269 t272, true)) else (none)) else (none))))
def impl_WalksTo.f (k : Nat) (a0 : ByteArray) (a1 : ByteArray) (a2 : Int) : Option (Int × Bool) := (impl_alike.f a0 a1).bind fun t266 => (if t266 = true then ((impl_isWalk.f a0).bind fun t267 => (if t267 = true then ((impl_in.f a2 0 40).bind fun t268 => (impl_WalksTo.j0 k a0 a1 a2 (!t268))) else (impl_WalksTo.j0 k a0 a1 a2 true))) else (impl_WalksTo.j0 k a0 a1 a2 true))
theorem impl_WalksTo.mono_l : ∀ k, Mo (impl_WalksTo.j0 k) (impl_WalksTo.j0 (k + 1))
 | 0 => m0
 | k + 1 => by
  have ih0 := impl_WalksTo.mono_l k
  (repeat refine mE fun _ => ?_) <;> first | (unfold impl_WalksTo.j0; exact mG)
instance impl_WalksTo.mI (k : Nat) : Mo (impl_WalksTo.f k) (impl_WalksTo.f (k + 1)) := by
 have ih0 := impl_WalksTo.mono_l k
 (repeat refine mE fun _ => ?_); unfold impl_WalksTo.f; exact mG
theorem impl_WalksTo.mono : ∀ a0 a1 a2 k, LeO (impl_WalksTo.f k a0 a1 a2) (impl_WalksTo.f (k + 1) a0 a1 a2) := fun a0 a1 a2 k => (impl_WalksTo.mI k).out a0 a1 a2
set_option maxHeartbeats 8000000 in
set_option maxRecDepth 100000 in
theorem impl_WalksTo.calls (k : Nat) (a0 : ByteArray) (a1 : ByteArray) (a2 : Int) (r1 : Int) (r2 : Bool) (w : World) (h : impl_WalksTo.f k a0 a1 a2 = some (r1, r2)) :
  Calls Tryd.prog 42 #[.string a0, .string a1, .int .i64 a2] w fun e w' => e = .returned (.tuple #[.int .i64 r1, .bool r2]) ∧ Below w.heap.size w w' := by
 have HB := aM (Below.refl w.heap.size w)
 have H := h
 clear h; unfold impl_WalksTo.f at H
 have HC4 := aM H
 clear H
 go_enter Tryd.func42, Tryd.ntmps42
 go_upto_region 1 with (fail)
 go_cut [21] (fun v21 wc => ∃ (kq : Nat) (x21_3 : Bool), v21 = .bool x21_3 ∧ Aside0 (impl_WalksTo.j0 kq a0 a1 a2 x21_3 = some (r1, r2)) ∧ Aside0 (kq ≤ k) ∧ Aside0 (Below w.heap.size w wc))
 case first =>
  have H := HC4.out
  clear HC4
  replace H := bC H; obtain ⟨t266, A5, H⟩ := H
  refine iB H ?_ ?_ <;> clear H <;> rintro rfl H
  ·replace H := bC H; obtain ⟨t267, A7, H⟩ := H
   refine iB H ?_ ?_ <;> clear H <;> rintro rfl H
   ·replace H := bC H; obtain ⟨t268, A9, H⟩ := H
    have H' := aM H
    clear H
    go_wp2_with (first | ((with_reducible refine gG 84 (some 10) rfl rfl ?_); refine gC Tryd.func84 (impl_alike.calls a0 a1 true _ A5.out) ?_; rintro w10 hb; replace HB := hS HB hb; clear hb) | (go_at_call 85; (with_reducible refine (impl_isWalk.calls a0 true _ A7.out).mono ?_); rintro e w11 ⟨rfl, hb⟩; replace HB := hS HB hb; clear hb) | (go_at_call 104; (with_reducible refine (impl_in.calls a2 0 40 t268 _ A9.out).mono ?_); rintro e w' ⟨rfl, ⟨nd, rfl⟩⟩))
    go_meet
    case rel => exact ⟨_, (!t268), rF, H', kL, hV HB⟩
   have H' := aM H
   clear H
   go_wp2_with (first | ((with_reducible refine gG 84 (some 10) rfl rfl ?_); refine gC Tryd.func84 (impl_alike.calls a0 a1 true _ A5.out) ?_; rintro w12 hb; replace HB := hS HB hb; clear hb) | (go_at_call 85; (with_reducible refine (impl_isWalk.calls a0 false _ A7.out).mono ?_); rintro e w13 ⟨rfl, hb⟩; replace HB := hS HB hb; clear hb))
   go_meet
   case rel => exact ⟨_, (true), rF, H', kL, hV HB⟩
  have H' := aM H
  clear H
  go_wp2_with (first | ((with_reducible refine gG 84 (some 10) rfl rfl ?_); refine gC Tryd.func84 (impl_alike.calls a0 a1 false _ A5.out) ?_; rintro w14 hb; replace HB := hS HB hb; clear hb))
  go_meet
  case rel => exact ⟨_, (true), rF, H', kL, hV HB⟩
 case rest =>
  clear HC4
  obtain ⟨kq, x21_3, rfl, HA, HJ3, HB⟩ := hcut
  obtain rfl | ⟨kj3, rfl⟩ := fz kq
  ·exact zA HA
  have H := HA.out
  clear HA
  simp only [impl_WalksTo.j0] at H
  refine iB H ?_ ?_ <;> clear H <;> rintro rfl H
  ·simp only [Option.some.injEq, Prod.mk.injEq] at H
   obtain ⟨rfl, rfl⟩ := H
   go_wp2
   go_ret2
   exact ⟨eW, bel HB⟩
  replace H := bC H; obtain ⟨t269, A16, H⟩ := H
  replace H := bC H; obtain ⟨t272, A17, H⟩ := H
  refine iY H ?_; clear H; intro c18 H
  have c18b0 := dT c18
  clear c18
  refine iY H ?_; clear H; intro c19 H
  have c19b0 := dT c19
  clear c19
  simp only [Option.some.injEq, Prod.mk.injEq] at H
  obtain ⟨rfl, rfl⟩ := H
  go_wp2_with (first | ((with_reducible refine gG 105 (some 24) rfl rfl ?_); refine gD Tryd.func105 (impl_spread.calls kj3 a0 a2 1 t269 _ A16.out) ?_; rintro w20 v270 ⟨ho0, hb⟩; have HO271 := rL ho0 HB; replace HB := hS HB hb; clear hb ho0) | ((with_reducible refine gG 75 (some 26) rfl rfl ?_); refine gL Tryd.func75 #[.string a1] ?_; (with_reducible refine (impl_number.calls kj3 a1 t272 _ A17.out).mono ?_); rintro e w' ⟨rfl, ⟨nd, rfl⟩⟩; refine ⟨_, rfl, ?_⟩; obtain ⟨Ao21, co21, eo21⟩ := Kd.R_slice HO271.out; subst eo21; have p273 : 0 ≤ (t272 : Int) := oD; have q273 : t272 < (t269.length : Int) := oD; obtain ⟨ad273, e273, hx273_0⟩ := Kd.at_int (Kd.R_reads' HO271.out).2.2 t272 p273 q273; cases e273; replace p273 := eq_true p273; replace q273 := eq_true q273))
  go_ret2
  exact ⟨eW, bel HB⟩

/-! ### spec_waSmall: function 106 -/
def spec_waSmall.f (k : Nat) (a0 : ByteArray) (a1 : ByteArray) (a2 : Int) : Option (Bool) := (spec_riTwo.f k a0 a1).bind fun t274 => (if t274 = true then (if (a0.size : Int) ≤ 12 then ((spec_l1In.f a2 0 40).bind fun t275 => (some t275)) else (some false)) else (some false))
instance spec_waSmall.mI (k : Nat) : Mo (spec_waSmall.f k) (spec_waSmall.f (k + 1)) := by
 (repeat refine mE fun _ => ?_); unfold spec_waSmall.f; exact mG
theorem spec_waSmall.mono : ∀ a0 a1 a2 k, LeO (spec_waSmall.f k a0 a1 a2) (spec_waSmall.f (k + 1) a0 a1 a2) := fun a0 a1 a2 k => (spec_waSmall.mI k).out a0 a1 a2
set_option maxHeartbeats 8000000 in
set_option maxRecDepth 100000 in
theorem spec_waSmall.calls (k : Nat) (a0 : ByteArray) (a1 : ByteArray) (a2 : Int) (r : Bool) (w : World) (h : spec_waSmall.f k a0 a1 a2 = some r) :
  Calls Tryd.prog 106 #[.string a0, .string a1, .int .i64 a2] w fun e w' => e = .returned (.bool r) ∧ Drawn0 w w' := by
 have H := h
 clear h; unfold spec_waSmall.f at H
 replace H := bC H; obtain ⟨t274, A4, H⟩ := H
 refine iB H ?_ ?_ <;> clear H <;> rintro rfl H
 ·refine iI H ?_ ?_ <;> clear H <;> intro c6 H
  ·have c6b0 := dT c6
   have c6b1 : decide (a0.size ≤ 12) = true := decide_eq_true (by omega)
   clear c6
   replace H := bC H; obtain ⟨t275, A7, H⟩ := H
   obtain rfl := Option.some.inj H
   go_enter Tryd.func106, Tryd.ntmps106
   go_wp2_with (first | ((with_reducible refine gG 87 (some 9) rfl rfl ?_); refine gL Tryd.func87 #[.string a0, .string a1] ?_; (with_reducible refine (spec_riTwo.calls k a0 a1 true _ A4.out).mono ?_); rintro e w' ⟨rfl, ⟨nd, rfl⟩⟩; refine ⟨_, rfl, ?_⟩) | (go_at_call 115; (with_reducible refine (spec_l1In.calls a2 0 40 t275 _ A7.out).mono ?_); rintro e w' ⟨rfl, ⟨nd, rfl⟩⟩))
   go_ret
   exact ⟨rF, d0⟩
  have c6b0 := dF c6
  have c6b1 : decide (a0.size ≤ 12) = false := decide_eq_false (by omega)
  clear c6
  obtain rfl := Option.some.inj H
  go_enter Tryd.func106, Tryd.ntmps106
  go_wp2_with (first | ((with_reducible refine gG 87 (some 9) rfl rfl ?_); refine gL Tryd.func87 #[.string a0, .string a1] ?_; (with_reducible refine (spec_riTwo.calls k a0 a1 true _ A4.out).mono ?_); rintro e w' ⟨rfl, ⟨nd, rfl⟩⟩; refine ⟨_, rfl, ?_⟩))
  go_ret
  exact ⟨rF, d0⟩
 obtain rfl := Option.some.inj H
 go_enter Tryd.func106, Tryd.ntmps106
 go_wp2_with (first | ((with_reducible refine gG 87 (some 9) rfl rfl ?_); refine gL Tryd.func87 #[.string a0, .string a1] ?_; (with_reducible refine (spec_riTwo.calls k a0 a1 false _ A4.out).mono ?_); rintro e w' ⟨rfl, ⟨nd, rfl⟩⟩; refine ⟨_, rfl, ?_⟩))
 go_ret
 exact ⟨rF, d0⟩

/-! ### spec_waWalks: function 107 -/
mutual
def spec_waWalks.l0 : Nat → Int → Int → List Int → Option (List Int)
 | 0, _, _, _ => none
 | k + 1, x1, x2, x7 => if x2 > 0 then (if 0 ≤ (wrap64 (x1 + 1)) then (if (wrap64 (x1 + 1) : Int).toNat ≤ 35184372088832 then (spec_waWalks.l1 k x1 x2 (List.replicate (wrap64 (x1 + 1) : Int).toNat 0) x7 (x7.length : Int) 0) else (none)) else (none)) else (some x7)
def spec_waWalks.l1 : Nat → Int → Int → List Int → List Int → Int → Int → Option (List Int)
 | 0, _, _, _, _, _, _ => none
 | k + 1, x1, x2, x8, x24, x25, x26 => if x26 < x25 then (if 0 ≤ x26 then (if x26 < (x24.length : Int) then (if x26 > 0 then (if 0 ≤ (wrap64 (x26 - 1)) then (if (wrap64 (x26 - 1)) < (x8.length : Int) then ((some (x8.set ((wrap64 (x26 - 1)) : Int).toNat (wrap64 ((rd x8 (wrap64 (x26 - 1))) + (rd x24 x26))) : List Int)).bind fun y285 => (if x26 < x1 then (if 0 ≤ (wrap64 (x26 + 1)) then (if (wrap64 (x26 + 1)) < (x8.length : Int) then (spec_waWalks.l1 k x1 x2 (y285.set ((wrap64 (x26 + 1)) : Int).toNat (wrap64 ((rd y285 (wrap64 (x26 + 1))) + (rd x24 x26)))) x24 x25 (wrap64 (x26 + 1))) else (none)) else (none)) else (spec_waWalks.l1 k x1 x2 y285 x24 x25 (wrap64 (x26 + 1))))) else (none)) else (none)) else (if x26 < x1 then (if 0 ≤ (wrap64 (x26 + 1)) then (if (wrap64 (x26 + 1)) < (x8.length : Int) then (spec_waWalks.l1 k x1 x2 (x8.set ((wrap64 (x26 + 1)) : Int).toNat (wrap64 ((rd x8 (wrap64 (x26 + 1))) + (rd x24 x26)))) x24 x25 (wrap64 (x26 + 1))) else (none)) else (none)) else (spec_waWalks.l1 k x1 x2 x8 x24 x25 (wrap64 (x26 + 1))))) else (none)) else (none)) else (spec_waWalks.l0 k x1 (wrap64 (x2 - 1)) x8)
end
def spec_waWalks.f (k : Nat) (a0 : Int) (a1 : Int) (a2 : Int) : Option (List Int) := if 0 ≤ (wrap64 (a1 + 1)) then (if (wrap64 (a1 + 1) : Int).toNat ≤ 35184372088832 then ((some (List.replicate (wrap64 (a1 + 1) : Int).toNat 0 : List Int)).bind fun y276 => (if 0 ≤ a0 then (if a0 < (y276.length : Int) then (spec_waWalks.l0 k a1 a2 (y276.set (a0 : Int).toNat 1)) else (none)) else (none))) else (none)) else (none)
theorem spec_waWalks.mono_l : ∀ k, Mo (spec_waWalks.l0 k) (spec_waWalks.l0 (k + 1)) ∧ Mo (spec_waWalks.l1 k) (spec_waWalks.l1 (k + 1))
 | 0 => m0
 | k + 1 => by
  have ⟨ih0, ih1⟩ := spec_waWalks.mono_l k
  refine ⟨?_, ?_⟩ <;> (repeat refine mE fun _ => ?_) <;> first | (unfold spec_waWalks.l0; exact mG) | (unfold spec_waWalks.l1; exact mG)
instance spec_waWalks.mI (k : Nat) : Mo (spec_waWalks.f k) (spec_waWalks.f (k + 1)) := by
 have ⟨ih0, ih1⟩ := spec_waWalks.mono_l k
 (repeat refine mE fun _ => ?_); unfold spec_waWalks.f; exact mG
theorem spec_waWalks.mono : ∀ a0 a1 a2 k, LeO (spec_waWalks.f k a0 a1 a2) (spec_waWalks.f (k + 1) a0 a1 a2) := fun a0 a1 a2 k => (spec_waWalks.mI k).out a0 a1 a2
set_option maxHeartbeats 8000000 in
set_option maxRecDepth 100000 in
theorem spec_waWalks.calls (k : Nat) (a0 : Int) (a1 : Int) (a2 : Int) (r : List Int) (w : World) (h : spec_waWalks.f k a0 a1 a2 = some r) :
  Calls Tryd.prog 107 #[.int .i64 a0, .int .i64 a1, .int .i64 a2] w fun e w' => ∃ v0_ : Value, e = .returned (v0_) ∧ Kd.R (Kd.int .i64) 3 w' w.heap.size (fun _ => True) v0_ r ∧ Below w.heap.size w w' := by
 have HB := aM (Below.refl w.heap.size w)
 have H := h
 clear h; unfold spec_waWalks.f at H
 obtain ⟨ji4, hji4⟩ := jN (wrap64 (a1 + 1))
 first | rw [hji4] at H | simp only [hji4] at H
 have hji4w : (IntKind.i64.wrap (a1 + 1)) = ji4 := (i64_w _).trans hji4
 refine iY H ?_; clear H; intro c5 H
 have c5b0 := eq_true c5
 have c5b1 := dT c5
 clear c5
 refine iY H ?_; clear H; intro c6 H
 have c6b0 := eq_true c6
 have c6b1 := dT c6
 clear c6
 replace H := yB H; obtain ⟨y276, Ny276, H⟩ := H
 refine iY H ?_; clear H; intro c7 H
 have c7b0 := dT c7
 clear c7
 refine iY H ?_; clear H; intro c8 H
 have c8b0 := dT c8
 clear c8
 obtain ⟨y279, Ny279⟩ := yN (y276.set (a0 : Int).toNat 1 : List Int); rw [← Ny279.out] at H
 have H' := aM H
 clear H
 go_enter Tryd.func107, Tryd.ntmps107
 go_wp2_with (first | ((with_reducible refine gate_dst (N := 13) rfl ?_); refine Kd.R_make (Kd.int .i64) _ 3 rfl (N := 13) rfl 43 _ _ rfl ji4 rfl rfl Tryd.underlying43 (.int .i64 0) 8 info3 rfl (by decide) (by omega) 0 (ok := fun _ => True) (okp := fun _ => True) rfl (fun _ hk => hk) trivial oD (Nat.le_trans (Nat.mul_le_mul_right _ (oD : ji4.toNat ≤ 35184372088832)) (by omega)) (Below.refl _ _) (Nat.le_refl _) ?_; intro v277 w10 ho11 hb hg_ hnew_; clear hg_ hnew_; (first | rw [← Ny276.out] at ho11 | (simp only [Int.reduceToNat] at ho11; rw [← Ny276.out] at ho11)); have HO278 := rL ho11 HB; replace HB := hS HB hb; clear hb ho11; have p9 : 0 ≤ (a0 : Int) := oD; have q9 : (a0 : Int) < ((y276.length : Int) : Int) := oD; obtain ⟨go9, co9, eo9, gb9, gl9, cl9, HG9⟩ := Kd.R_form HO278.out (by omega); (first | cases eo9 | (injection eo9 with ea_ en_ ec_; (first | subst ea_ | (injection ea_ with ea_; subst ea_)); subst ec_; clear en_)); have GB9 := aM gb9; have GG9 := aM HG9; clear gb9 gl9 HG9; obtain ⟨hx9_0, hf9_0⟩ := Kd.R_celln 0 HO278.out (a0 : Int) p9 q9; replace p9 := eq_true p9; replace q9 := eq_true q9; obtain ⟨hy12_, hz12_⟩ := Kd.R_celln 0 HO278.out (a0 : Int) oD oD; have HP12 := Kd.R_putg HO278.out (a0 : Int) 1) | ((with_reducible refine gate_store (t := 3) (p := 16) rfl ?_); refine store_event (t := 3) (p := 16) (v := ?vo_w13) (w1 := (w10.setCell ⟨go9, (a0 : Int).toNat, none⟩ (.int .i64 1))) ?hg ?ho ?hn ?hr ?_; (case ho => rfl); (case hg => rfl); (case hn => rfl); (case hr => first | (go_simp; done) | (go_simp; rfl)); intro w13 hw; have hg : w10.grownBy w13 (some go9) := (by rw [hw]; exact HP12.2); have hp_ : Kd.R (Kd.int .i64) 3 w13 w.heap.size (fun _ => True) (.slice (some ⟨go9, 0, none⟩) y276.length co9) y279 := (by rw [hw, Ny279.out]; exact HP12.1); clear HP12; replace HO278 := aM (hp_); replace HB := aM ((by rw [hw]; exact below_set (HB.out) GB9.out : Below w.heap.size w w13)); clear hg hw hp_))
 go_loopg [2, 7] k (fun kq v2 v7 w' => ∃ (x2_1 : Int) (x7_1 : List Int), v2 = .int .i64 x2_1 ∧ Aside0 (spec_waWalks.l0 kq a1 x2_1 x7_1 = some r) ∧ Aside0 (kq ≤ k) ∧ Aside0 (Kd.R (Kd.int .i64) 3 w' w.heap.size (fun _ => True) v7 x7_1) ∧ Aside0 (Below w.heap.size w w'))
 case atStart => exact ⟨(a2), (y279), rF, H', kR, ⟨rU HO278.out⟩, hV HB⟩
 case round =>
  clear H'
  try clear c5b0;try clear c5b1;try clear c6b0;try clear c6b1;try clear c7b0;try clear c8b0;try clear p9;try clear q9;try clear hx9_0
  obtain ⟨x2_1, x7_1, rfl, HA, HK1, HO_7, HB⟩ := hrel
  obtain rfl | ⟨k1, rfl⟩ := fz gk
  ·exact zA HA
  have H := HA.out
  clear HA
  simp only [spec_waWalks.l0] at H
  refine iI H ?_ ?_ <;> clear H <;> intro c14 H
  ·have c14b0 := gT c14
   clear c14
   obtain ⟨ji15, hji15⟩ := jN (wrap64 (a1 + 1))
   first | rw [hji15] at H | simp only [hji15] at H
   have hji15w : (IntKind.i64.wrap (a1 + 1)) = ji15 := (i64_w _).trans hji15
   try clear hji4w;try clear hji4
   refine iY H ?_; clear H; intro c16 H
   have c16b0 := eq_true c16
   have c16b1 := dT c16
   clear c16
   refine iY H ?_; clear H; intro c17 H
   have c17b0 := eq_true c17
   have c17b1 := dT c17
   clear c17
   obtain ⟨y280, Ny280⟩ := yN (List.replicate (ji15 : Int).toNat 0 : List Int); rw [← Ny280.out] at H
   have H' := aM H
   clear H
   go_wp2_with (first | ((with_reducible refine gate_dst (N := 23) rfl ?_); refine Kd.R_make (Kd.int .i64) _ 3 rfl (N := 23) rfl 43 _ _ rfl ji15 rfl rfl Tryd.underlying43 (.int .i64 0) 8 info3 rfl (by decide) (by omega) 0 (ok := fun _ => True) (okp := fun _ => True) rfl (fun _ hk => hk) trivial oD (Nat.le_trans (Nat.mul_le_mul_right _ (oD : ji15.toNat ≤ 35184372088832)) (by omega)) (Below.refl _ _) (Nat.le_refl _) ?_; intro v281 w18 ho19 hb hg_ hnew_; clear hg_ hnew_; (first | rw [← Ny280.out] at ho19 | (simp only [Int.reduceToNat] at ho19; rw [← Ny280.out] at ho19)); have HO282 := aM (Kd.R_lower (Kd.R_new' ho19 (Kd.R_lt (rU HO_7.out))) (below_size (bel HB))); replace HO_7 := aM (Kd.R_elder' (rU HO_7.out) (Kd.R_base ho19) hb); replace HB := hS HB hb; clear hb ho19; obtain ⟨Ao20, co20, eo20⟩ := Kd.R_slice HO_7.out; subst eo20))
   go_loopg [26] k1 (fun kq v26 w' => ∃ (x8_2 : List Int) (x26_2 : Int), v26 = .int .i64 x26_2 ∧ Aside0 (spec_waWalks.l1 kq a1 x2_1 x8_2 x7_1 (x7_1.length : Int) x26_2 = some r) ∧ Aside0 (kq ≤ k1) ∧ Aside0 (Kd.R (Kd.int .i64) 3 w' w.heap.size (fun k_ => some k_ ≠ ((.slice Ao20 x7_1.length co20) : Value).ownBlock) v281 x8_2) ∧ Aside0 (Kd.R (Kd.int .i64) 3 w' w.heap.size (fun k_ => some k_ ≠ (v281 : Value).ownBlock) (.slice Ao20 x7_1.length co20) x7_1) ∧ Aside0 (Below w.heap.size w w'))
   case atStart => exact ⟨(y280), (0), rF, H', kR, ⟨rU (Kd.R_mono HO282.out (fun _ hk => hk.2))⟩, ⟨rU (Kd.R_mono HO_7.out (fun _ hk => hk.2))⟩, hV HB⟩
   case round =>
    clear H'
    try clear c14b0;try clear c16b0;try clear c16b1;try clear c17b0;try clear c17b1
    obtain ⟨x8_2, x26_2, rfl, HA, HK2, HO_8, HO_24, HB⟩ := hrel
    obtain rfl | ⟨k2, rfl⟩ := fz gk
    ·exact zA HA
    have H := HA.out
    clear HA
    simp only [spec_waWalks.l1] at H
    refine iI H ?_ ?_ <;> clear H <;> intro c21 H
    ·have c21b0 := dT c21
     clear c21
     refine iY H ?_; clear H; intro c22 H
     have c22b0 := dT c22
     clear c22
     refine iY H ?_; clear H; intro c23 H
     have c23b0 := dT c23
     clear c23
     refine iI H ?_ ?_ <;> clear H <;> intro c24 H
     ·have c24b0 := gT c24
      clear c24
      obtain ⟨ji25, hji25⟩ := jN (wrap64 (x26_2 - 1))
      first | rw [hji25] at H | simp only [hji25] at H
      have hji25w : (IntKind.i64.wrap (x26_2 - 1)) = ji25 := (i64_w _).trans hji25
      refine iY H ?_; clear H; intro c26 H
      have c26b0 := dT c26
      clear c26
      refine iY H ?_; clear H; intro c27 H
      have c27b0 := dT c27
      clear c27
      replace H := yB H; obtain ⟨y285, Ny285, H⟩ := H
      refine iI H ?_ ?_ <;> clear H <;> intro c29 H
      ·have c29b0 := dT c29
       clear c29
       obtain ⟨ji30, hji30⟩ := jN (wrap64 (x26_2 + 1))
       first | rw [hji30] at H | simp only [hji30] at H
       have hji30w : (IntKind.i64.wrap (x26_2 + 1)) = ji30 := (i64_w _).trans hji30
       refine iY H ?_; clear H; intro c31 H
       have c31b0 := dT c31
       clear c31
       refine iY H ?_; clear H; intro c32 H
       have c32b0 := dT c32
       clear c32
       obtain ⟨y287, Ny287⟩ := yN (y285.set ((ji30) : Int).toNat (wrap64 ((rd y285 (ji30)) + (rd x7_1 x26_2))) : List Int); rw [← Ny287.out] at H
       have H' := aM H
       clear H
       have p283 : 0 ≤ (x26_2 : Int) := oD
       have q283 : x26_2 < (x7_1.length : Int) := oD
       obtain ⟨ad283, e283, hx283_0⟩ := Kd.at_int (Kd.R_reads' HO_24.out).2.2 x26_2 p283 q283
       cases e283
       replace p283 := eq_true p283
       replace q283 := eq_true q283
       obtain ⟨Ao34, co34, eo34⟩ := Kd.R_slice HO_8.out
       subst eo34
       have p284 : 0 ≤ ((ji25) : Int) := oD
       have q284 : (ji25) < (x8_2.length : Int) := oD
       obtain ⟨ad284, e284, hx284_0⟩ := Kd.at_int (Kd.R_reads' HO_8.out).2.2 (ji25) p284 q284
       cases e284
       replace p284 := eq_true p284
       replace q284 := eq_true q284
       have p28 : 0 ≤ ((ji25) : Int) := oD
       have q28 : ((ji25) : Int) < ((x8_2.length : Int) : Int) := oD
       obtain ⟨go28, co28, eo28, gb28, gl28, cl28, HG28⟩ := Kd.R_form HO_8.out (by omega)
       (first | cases eo28 | (injection eo28 with ea_ en_ ec_; (first | subst ea_ | (injection ea_ with ea_; subst ea_)); subst ec_; clear en_))
       have GB28 := aM gb28
       have GG28 := aM HG28
       clear gb28 gl28 HG28
       (first | simp only [add_plain] at hx284_0 | skip)
       obtain ⟨hx28_0, hf28_0⟩ := Kd.R_celln 0 HO_8.out ((ji25) : Int) p28 q28
       replace p28 := eq_true p28
       replace q28 := eq_true q28
       have HP35 := Kd.R_putg HO_8.out ((ji25) : Int) (wrap64 ((rd x8_2 (ji25)) + (rd x7_1 x26_2)))
       go_wp2_with (first | ((with_reducible refine gate_store (t := 3) (p := 40) rfl ?_); refine store_event (t := 3) (p := 40) (v := ?vo_w36) (w1 := (wr.setCell ⟨go28, ((ji25) : Int).toNat, none⟩ (.int .i64 (wrap64 ((rd x8_2 (ji25)) + (rd x7_1 x26_2)))))) ?hg ?ho ?hn ?hr ?_; (case ho => rfl); (case hg => rfl); (case hn => rfl); (case hr => first | (go_simp; done) | (go_simp; rfl)); intro w36 hw; have hg : wr.grownBy w36 (some go28) := (by rw [hw]; exact HP35.2); have hp_ : Kd.R (Kd.int .i64) 3 w36 w.heap.size (fun k_ => some k_ ≠ (.slice (some ad283) x7_1.length co20 : Value).ownBlock) (.slice (some ⟨go28, 0, none⟩) x8_2.length co34) y285 := (by rw [hw, Ny285.out]; exact HP35.1); clear HP35; replace HO_8 := aM (hp_); replace HO_24 := aM (Kd.R_after (v := (.slice (some ⟨go28, 0, none⟩) x8_2.length co34)) (v1 := (.slice (some ⟨go28, 0, none⟩) x8_2.length co34)) (ok := (fun _ => True)) (rU (Kd.R_mono HO_24.out (fun _ hk => ⟨trivial, hk⟩))) hg (.inl rfl)); replace HB := aM ((by rw [hw]; exact below_set (HB.out) GB28.out : Below w.heap.size w w36)); clear hg hw hp_; have p286 : 0 ≤ ((ji30) : Int) := oD; have q286 : (ji30) < (y285.length : Int) := (by have h_ : ((ji30) : Int) < ((x8_2.length : Int) : Int) := oD; first | (have e_ := (Kd.R_reads' HO_8.out).1; omega) | simpa only [Ny285.out, List.length_set] using h_); have ql286 : (((ji30) : Int) < ((x8_2.length : Int) : Int)) = True := eq_true oD; obtain ⟨ad286, e286, hx286_0⟩ := Kd.at_int (Kd.R_reads' HO_8.out).2.2 (ji30) p286 q286; obtain rfl : (⟨go28, 0, none⟩ : Addr) = ad286 := (by injection e286); (first | simp only [add_plain] at hx286_0 | simp only [add_at] at hx286_0 | simp only [Addr.add, Nat.zero_add] at hx286_0 | skip); replace p286 := eq_true p286; replace q286 := eq_true q286; have p33 : 0 ≤ ((ji30) : Int) := oD; have q33 : ((ji30) : Int) < ((x8_2.length : Int) : Int) := oD; obtain ⟨hx33_0, hf33_0⟩ := Kd.R_celln 0 HO_8.out ((ji30) : Int) p33 q33; replace p33 := eq_true p33; replace q33 := eq_true q33; obtain ⟨hy37_, hz37_⟩ := Kd.R_celln 0 HO_8.out ((ji30) : Int) oD oD; have HP37 := Kd.R_putg HO_8.out ((ji30) : Int) (wrap64 ((rd y285 (ji30)) + (rd x7_1 x26_2)))) | ((with_reducible refine gate_store (t := 3) (p := 51) rfl ?_); refine store_event (t := 3) (p := 51) (v := ?vo_w38) (w1 := (w36.setCell ⟨go28, ((ji30) : Int).toNat, none⟩ (.int .i64 (wrap64 ((rd y285 (ji30)) + (rd x7_1 x26_2)))))) ?hg ?ho ?hn ?hr ?_; (case ho => rfl); (case hg => rfl); (case hn => rfl); (case hr => first | (go_simp; done) | (go_simp; rfl)); intro w38 hw; have hg : w36.grownBy w38 (some go28) := (by rw [hw]; exact HP37.2); have hp_ : Kd.R (Kd.int .i64) 3 w38 w.heap.size (fun k_ => some k_ ≠ (.slice (some ad283) x7_1.length co20 : Value).ownBlock) (.slice (some ⟨go28, 0, none⟩) x8_2.length co34) y287 := (by rw [hw, Ny287.out]; exact HP37.1); clear HP37; replace HO_8 := aM (hp_); replace HO_24 := aM (Kd.R_after (v := (.slice (some ⟨go28, 0, none⟩) x8_2.length co34)) (v1 := (.slice (some ⟨go28, 0, none⟩) x8_2.length co34)) (ok := (fun _ => True)) (rU HO_24.out) hg (.inl rfl)); replace HB := aM ((by rw [hw]; exact below_set (HB.out) GB28.out : Below w.heap.size w w38)); clear hg hw hp_))
       go_roundg k2
       case measure => have := HK1.out; have := HK2.out; omega
       case rel => exact ⟨(y287), (ji30), (by first | rfl | (simp; done) | (simp only [← hji30] <;> (first | rfl | simp)) | (simp [*]; done)), H', ⟨by have := HK1.out; have := HK2.out; omega⟩, ⟨rU HO_8.out⟩, ⟨rU (Kd.R_mono HO_24.out (fun _ hk => hk.2))⟩, hV HB⟩
      have c29b0 := dF c29
      clear c29
      have H' := aM H
      clear H
      have p283 : 0 ≤ (x26_2 : Int) := oD
      have q283 : x26_2 < (x7_1.length : Int) := oD
      obtain ⟨ad283, e283, hx283_0⟩ := Kd.at_int (Kd.R_reads' HO_24.out).2.2 x26_2 p283 q283
      cases e283
      replace p283 := eq_true p283
      replace q283 := eq_true q283
      obtain ⟨Ao39, co39, eo39⟩ := Kd.R_slice HO_8.out
      subst eo39
      have p284 : 0 ≤ ((ji25) : Int) := oD
      have q284 : (ji25) < (x8_2.length : Int) := oD
      obtain ⟨ad284, e284, hx284_0⟩ := Kd.at_int (Kd.R_reads' HO_8.out).2.2 (ji25) p284 q284
      cases e284
      replace p284 := eq_true p284
      replace q284 := eq_true q284
      have p28 : 0 ≤ ((ji25) : Int) := oD
      have q28 : ((ji25) : Int) < ((x8_2.length : Int) : Int) := oD
      obtain ⟨go28, co28, eo28, gb28, gl28, cl28, HG28⟩ := Kd.R_form HO_8.out (by omega)
      (first | cases eo28 | (injection eo28 with ea_ en_ ec_; (first | subst ea_ | (injection ea_ with ea_; subst ea_)); subst ec_; clear en_))
      have GB28 := aM gb28
      have GG28 := aM HG28
      clear gb28 gl28 HG28
      (first | simp only [add_plain] at hx284_0 | skip)
      obtain ⟨hx28_0, hf28_0⟩ := Kd.R_celln 0 HO_8.out ((ji25) : Int) p28 q28
      replace p28 := eq_true p28
      replace q28 := eq_true q28
      have HP40 := Kd.R_putg HO_8.out ((ji25) : Int) (wrap64 ((rd x8_2 (ji25)) + (rd x7_1 x26_2)))
      go_wp2_with (first | ((with_reducible refine gate_store (t := 3) (p := 40) rfl ?_); refine store_event (t := 3) (p := 40) (v := ?vo_w41) (w1 := (wr.setCell ⟨go28, ((ji25) : Int).toNat, none⟩ (.int .i64 (wrap64 ((rd x8_2 (ji25)) + (rd x7_1 x26_2)))))) ?hg ?ho ?hn ?hr ?_; (case ho => rfl); (case hg => rfl); (case hn => rfl); (case hr => first | (go_simp; done) | (go_simp; rfl)); intro w41 hw; have hg : wr.grownBy w41 (some go28) := (by rw [hw]; exact HP40.2); have hp_ : Kd.R (Kd.int .i64) 3 w41 w.heap.size (fun k_ => some k_ ≠ (.slice (some ad283) x7_1.length co20 : Value).ownBlock) (.slice (some ⟨go28, 0, none⟩) x8_2.length co39) y285 := (by rw [hw, Ny285.out]; exact HP40.1); clear HP40; replace HO_8 := aM (hp_); replace HO_24 := aM (Kd.R_after (v := (.slice (some ⟨go28, 0, none⟩) x8_2.length co39)) (v1 := (.slice (some ⟨go28, 0, none⟩) x8_2.length co39)) (ok := (fun _ => True)) (rU (Kd.R_mono HO_24.out (fun _ hk => ⟨trivial, hk⟩))) hg (.inl rfl)); replace HB := aM ((by rw [hw]; exact below_set (HB.out) GB28.out : Below w.heap.size w w41)); clear hg hw hp_))
      go_roundg k2
      case measure => have := HK1.out; have := HK2.out; omega
      case rel => exact ⟨(y285), (wrap64 (x26_2 + 1)), rF, H', ⟨by have := HK1.out; have := HK2.out; omega⟩, ⟨rU HO_8.out⟩, ⟨rU (Kd.R_mono HO_24.out (fun _ hk => hk.2))⟩, hV HB⟩
     have c24b0 := gF c24
     clear c24
     refine iI H ?_ ?_ <;> clear H <;> intro c42 H
     ·have c42b0 := dT c42
      clear c42
      obtain ⟨ji43, hji43⟩ := jN (wrap64 (x26_2 + 1))
      first | rw [hji43] at H | simp only [hji43] at H
      have hji43w : (IntKind.i64.wrap (x26_2 + 1)) = ji43 := (i64_w _).trans hji43
      refine iY H ?_; clear H; intro c44 H
      have c44b0 := dT c44
      clear c44
      refine iY H ?_; clear H; intro c45 H
      have c45b0 := dT c45
      clear c45
      obtain ⟨y289, Ny289⟩ := yN (x8_2.set ((ji43) : Int).toNat (wrap64 ((rd x8_2 (ji43)) + (rd x7_1 x26_2))) : List Int); rw [← Ny289.out] at H
      have H' := aM H
      clear H
      have p283 : 0 ≤ (x26_2 : Int) := oD
      have q283 : x26_2 < (x7_1.length : Int) := oD
      obtain ⟨ad283, e283, hx283_0⟩ := Kd.at_int (Kd.R_reads' HO_24.out).2.2 x26_2 p283 q283
      cases e283
      replace p283 := eq_true p283
      replace q283 := eq_true q283
      obtain ⟨Ao47, co47, eo47⟩ := Kd.R_slice HO_8.out
      subst eo47
      have p288 : 0 ≤ ((ji43) : Int) := oD
      have q288 : (ji43) < (x8_2.length : Int) := oD
      obtain ⟨ad288, e288, hx288_0⟩ := Kd.at_int (Kd.R_reads' HO_8.out).2.2 (ji43) p288 q288
      cases e288
      replace p288 := eq_true p288
      replace q288 := eq_true q288
      have p46 : 0 ≤ ((ji43) : Int) := oD
      have q46 : ((ji43) : Int) < ((x8_2.length : Int) : Int) := oD
      obtain ⟨go46, co46, eo46, gb46, gl46, cl46, HG46⟩ := Kd.R_form HO_8.out (by omega)
      (first | cases eo46 | (injection eo46 with ea_ en_ ec_; (first | subst ea_ | (injection ea_ with ea_; subst ea_)); subst ec_; clear en_))
      have GB46 := aM gb46
      have GG46 := aM HG46
      clear gb46 gl46 HG46
      (first | simp only [add_plain] at hx288_0 | skip)
      obtain ⟨hx46_0, hf46_0⟩ := Kd.R_celln 0 HO_8.out ((ji43) : Int) p46 q46
      replace p46 := eq_true p46
      replace q46 := eq_true q46
      have HP48 := Kd.R_putg HO_8.out ((ji43) : Int) (wrap64 ((rd x8_2 (ji43)) + (rd x7_1 x26_2)))
      go_wp2_with (first | ((with_reducible refine gate_store (t := 3) (p := 51) rfl ?_); refine store_event (t := 3) (p := 51) (v := ?vo_w49) (w1 := (wr.setCell ⟨go46, ((ji43) : Int).toNat, none⟩ (.int .i64 (wrap64 ((rd x8_2 (ji43)) + (rd x7_1 x26_2)))))) ?hg ?ho ?hn ?hr ?_; (case ho => rfl); (case hg => rfl); (case hn => rfl); (case hr => first | (go_simp; done) | (go_simp; rfl)); intro w49 hw; have hg : wr.grownBy w49 (some go46) := (by rw [hw]; exact HP48.2); have hp_ : Kd.R (Kd.int .i64) 3 w49 w.heap.size (fun k_ => some k_ ≠ (.slice (some ad283) x7_1.length co20 : Value).ownBlock) (.slice (some ⟨go46, 0, none⟩) x8_2.length co47) y289 := (by rw [hw, Ny289.out]; exact HP48.1); clear HP48; replace HO_8 := aM (hp_); replace HO_24 := aM (Kd.R_after (v := (.slice (some ⟨go46, 0, none⟩) x8_2.length co47)) (v1 := (.slice (some ⟨go46, 0, none⟩) x8_2.length co47)) (ok := (fun _ => True)) (rU (Kd.R_mono HO_24.out (fun _ hk => ⟨trivial, hk⟩))) hg (.inl rfl)); replace HB := aM ((by rw [hw]; exact below_set (HB.out) GB46.out : Below w.heap.size w w49)); clear hg hw hp_))
      go_roundg k2
      case measure => have := HK1.out; have := HK2.out; omega
      case rel => exact ⟨(y289), (ji43), (by first | rfl | (simp; done) | (simp only [← hji43] <;> (first | rfl | simp)) | (simp [*]; done)), H', ⟨by have := HK1.out; have := HK2.out; omega⟩, ⟨rU HO_8.out⟩, ⟨rU (Kd.R_mono HO_24.out (fun _ hk => hk.2))⟩, hV HB⟩
     have c42b0 := dF c42
     clear c42
     have H' := aM H
     clear H
     have p283 : 0 ≤ (x26_2 : Int) := oD
     have q283 : x26_2 < (x7_1.length : Int) := oD
     obtain ⟨ad283, e283, hx283_0⟩ := Kd.at_int (Kd.R_reads' HO_24.out).2.2 x26_2 p283 q283
     cases e283
     replace p283 := eq_true p283
     replace q283 := eq_true q283
     go_wp2
     go_roundg k2
     case measure => have := HK1.out; have := HK2.out; omega
     case rel => exact ⟨(x8_2), (wrap64 (x26_2 + 1)), rF, H', ⟨by have := HK1.out; have := HK2.out; omega⟩, ⟨rU HO_8.out⟩, ⟨rU HO_24.out⟩, hV HB⟩
    have c21b0 := dF c21
    clear c21
    have H' := aM H
    clear H
    go_wp2
    go_roundg k2
    case measure => have := HK1.out; have := HK2.out; omega
    case rel => exact ⟨(wrap64 (x2_1 - 1)), (x8_2), rF, H', ⟨by have := HK1.out; have := HK2.out; omega⟩, ⟨rU (Kd.R_mono HO_8.out (fun _ hk => trivial))⟩, hV HB⟩
  have c14b0 := gF c14
  clear c14
  obtain rfl := Option.some.inj H
  go_wp2
  go_ret
  exact ⟨_, by first | rfl | (simp [errW_none, errW_some] <;> rfl) | (simp only [← hji4]; first | rfl | (simp [errW_none, errW_some] <;> rfl)) | (simp [*, errW_none, errW_some] <;> rfl), rU HO_7.out, bel HB⟩

/-! ### spec_WalksTo: function 43 -/
def spec_WalksTo.f (k : Nat) (a0 : ByteArray) (a1 : ByteArray) (a2 : Int) : Option (Int × Bool) := (spec_waSmall.f k a0 a1 a2).bind fun t290 => (if t290 = true then ((spec_waNumbers.f k a0 a1).bind fun bt291 => ((spec_waWalks.f k bt291.1 bt291.2.2 a2).bind fun t294 => (if 0 ≤ bt291.2.1 then (if bt291.2.1 < (t294.length : Int) then (some (rd t294 bt291.2.1, true)) else (none)) else (none)))) else (some (0, false)))
instance spec_WalksTo.mI (k : Nat) : Mo (spec_WalksTo.f k) (spec_WalksTo.f (k + 1)) := by
 (repeat refine mE fun _ => ?_); unfold spec_WalksTo.f; exact mG
theorem spec_WalksTo.mono : ∀ a0 a1 a2 k, LeO (spec_WalksTo.f k a0 a1 a2) (spec_WalksTo.f (k + 1) a0 a1 a2) := fun a0 a1 a2 k => (spec_WalksTo.mI k).out a0 a1 a2
set_option maxHeartbeats 8000000 in
set_option maxRecDepth 100000 in
theorem spec_WalksTo.calls (k : Nat) (a0 : ByteArray) (a1 : ByteArray) (a2 : Int) (r1 : Int) (r2 : Bool) (w : World) (h : spec_WalksTo.f k a0 a1 a2 = some (r1, r2)) :
  Calls Tryd.prog 43 #[.string a0, .string a1, .int .i64 a2] w fun e w' => e = .returned (.tuple #[.int .i64 r1, .bool r2]) ∧ Below w.heap.size w w' := by
 have HB := aM (Below.refl w.heap.size w)
 have H := h
 clear h; unfold spec_WalksTo.f at H
 replace H := bC H; obtain ⟨t290, A4, H⟩ := H
 refine iB H ?_ ?_ <;> clear H <;> rintro rfl H
 ·replace H := bC H; obtain ⟨⟨t291, t292, t293⟩, A6, H⟩ := H; try dsimp only at H
  replace H := bC H; obtain ⟨t294, A7, H⟩ := H
  refine iY H ?_; clear H; intro c8 H
  have c8b0 := dT c8
  clear c8
  refine iY H ?_; clear H; intro c9 H
  have c9b0 := dT c9
  clear c9
  simp only [Option.some.injEq, Prod.mk.injEq] at H
  obtain ⟨rfl, rfl⟩ := H
  go_enter Tryd.func43, Tryd.ntmps43
  go_wp2_with (first | ((with_reducible refine gG 106 (some 14) rfl rfl ?_); refine gL Tryd.func106 #[.string a0, .string a1, .int .i64 a2] ?_; (with_reducible refine (spec_waSmall.calls k a0 a1 a2 true _ A4.out).mono ?_); rintro e w' ⟨rfl, ⟨nd, rfl⟩⟩; refine ⟨_, rfl, ?_⟩) | ((with_reducible refine gG 88 (some 19) rfl rfl ?_); refine gL Tryd.func88 #[.string a0, .string a1] ?_; (with_reducible refine (spec_waNumbers.calls k a0 a1 t291 t292 t293 _ A6.out).mono ?_); rintro e w' ⟨rfl, ⟨nd, rfl⟩⟩; refine ⟨_, rfl, ?_⟩) | ((with_reducible refine gG 107 (some 26) rfl rfl ?_); refine gD Tryd.func107 (spec_waWalks.calls k t291 t293 a2 t294 _ A7.out) ?_; rintro w10 v295 ⟨ho0, hb⟩; have HO296 := rL ho0 HB; replace HB := hS HB hb; clear hb ho0; obtain ⟨Ao11, co11, eo11⟩ := Kd.R_slice HO296.out; subst eo11; have p297 : 0 ≤ (t292 : Int) := oD; have q297 : t292 < (t294.length : Int) := oD; obtain ⟨ad297, e297, hx297_0⟩ := Kd.at_int (Kd.R_reads' HO296.out).2.2 t292 p297 q297; cases e297; replace p297 := eq_true p297; replace q297 := eq_true q297))
  go_ret2
  exact ⟨eW, bel HB⟩
 simp only [Option.some.injEq, Prod.mk.injEq] at H
 obtain ⟨rfl, rfl⟩ := H
 go_enter Tryd.func43, Tryd.ntmps43
 go_wp2_with (first | ((with_reducible refine gG 106 (some 14) rfl rfl ?_); refine gL Tryd.func106 #[.string a0, .string a1, .int .i64 a2] ?_; (with_reducible refine (spec_waSmall.calls k a0 a1 a2 false _ A4.out).mono ?_); rintro e w' ⟨rfl, ⟨nd, rfl⟩⟩; refine ⟨_, rfl, ?_⟩))
 go_ret2
 exact ⟨eW, bel HB⟩

end Go.Proofs.YtcogjabdddikjaaDoor.PWMn
