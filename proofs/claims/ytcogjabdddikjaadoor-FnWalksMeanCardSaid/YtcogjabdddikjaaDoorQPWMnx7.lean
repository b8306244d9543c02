-- squeezed (sq3.py); PRINTED by drive.py (a program of this session's, over the kit's print.py; wip/tools/drive.py). Lean checks it.
import Derived.Test.YtcogjabdddikjaaDoorQPWMnx0
import Derived.Test.YtcogjabdddikjaaDoorQPWMnx2
import Derived.Test.YtcogjabdddikjaaDoorQPWMnx4
import Derived.Test.YtcogjabdddikjaaDoorQPWMnx5
import Derived.Test.YtcogjabdddikjaaDoorQSq
namespace Go.Proofs.YtcogjabdddikjaaDoor.PWMn
open Go.RowKit Go.Proofs.YtcogjabdddikjaaDoorW.PrintWords Go.Proofs.YtcogjabdddikjaaDoorW.PrintLast Go.Proofs.YtcogjabdddikjaaDoorW.PrintMore
attribute [local go_sem] max2_int min2_int max_two min_two max_three min_three max_four min_four   -- for this text's walks alone
set_option linter.unusedVariables false
set_option linter.unusedSimpArgs false

/-! ### impl_ChanceAfter: function 44 -/
def impl_ChanceAfter.j0 : Nat → ByteArray → ByteArray → Int → Bool → Option (Int × Int × Bool)
 | 0, _, _, _, _ => none
 | k + 1, x0, x1, x2, x24 => if x24 = true then (some (0, 0, false)) else ((impl_spread.f k x0 x2 2).bind fun t301 => ((impl_number.f k x1).bind fun t304 => (if 0 ≤ t304 then (if t304 < (t301.length : Int) then (if 0 ≤ x2 then ((impl_lowest.f k (rd t301 t304) (shl .i64 1 x2)).bind fun bt306 => (some (bt306.1, bt306.2, true))) else (none)) else (none)) else (none))))
def impl_ChanceAfter.f (k : Nat) (a0 : ByteArray) (a1 : ByteArray) (a2 : Int) : Option (Int × Int × Bool) := (impl_alike.f a0 a1).bind fun t298 => (if t298 = true then ((impl_isWalk.f a0).bind fun t299 => (if t299 = true then ((impl_in.f a2 0 40).bind fun t300 => (impl_ChanceAfter.j0 k a0 a1 a2 (!t300))) else (impl_ChanceAfter.j0 k a0 a1 a2 true))) else (impl_ChanceAfter.j0 k a0 a1 a2 true))
theorem impl_ChanceAfter.mono_l : ∀ k, Mo (impl_ChanceAfter.j0 k) (impl_ChanceAfter.j0 (k + 1))
 | 0 => m0
 | k + 1 => by
  have ih0 := impl_ChanceAfter.mono_l k
  (repeat refine mE fun _ => ?_) <;> first | (unfold impl_ChanceAfter.j0; exact mG)
instance impl_ChanceAfter.mI (k : Nat) : Mo (impl_ChanceAfter.f k) (impl_ChanceAfter.f (k + 1)) := by
 have ih0 := impl_ChanceAfter.mono_l k
 (repeat refine mE fun _ => ?_); unfold impl_ChanceAfter.f; exact mG
theorem impl_ChanceAfter.mono : ∀ a0 a1 a2 k, LeO (impl_ChanceAfter.f k a0 a1 a2) (impl_ChanceAfter.f (k + 1) a0 a1 a2) := fun a0 a1 a2 k => (impl_ChanceAfter.mI k).out a0 a1 a2
def impl_ChanceAfter.T3 : Bool × List (List Nat × List Nat) := (true, [([], []), ([], []), ([0, 1], [0, 1]), ([], []), ([3, 2], [3]), ([2, 4], [2, 4]), ([5], [5]), ([], []), ([7], [7]), ([6, 8, 4], [6, 8]), ([9], [9]), ([10], [10]), ([10], [10]), ([11, 9, 0, 1, 2, 3, 4, 5, 6, 7, 8, 9, 10, 11], [11]), ([12, 13, 0, 1, 2, 3, 4, 5, 6, 7, 8, 9, 10, 11, 12, 13], [12])])
def impl_ChanceAfter.B3 : List Nat := [0, 0, 3, 0, 15, 31, 63, 0, 128, 511, 1023, 2047, 2047, 4095, 16383]
theorem impl_ChanceAfter.tab3 : rtab .any (opsOf Tryd.f44 3) = impl_ChanceAfter.T3 := by kernel_rfl
theorem impl_ChanceAfter.bits3 : waitsOk impl_ChanceAfter.T3.2 impl_ChanceAfter.B3 = true := by kernel_rfl
set_option maxHeartbeats 8000000 in
set_option maxRecDepth 100000 in
theorem impl_ChanceAfter.calls (k : Nat) (a0 : ByteArray) (a1 : ByteArray) (a2 : Int) (r1 : Int) (r2 : Int) (r3 : Bool) (w : World) (h : impl_ChanceAfter.f k a0 a1 a2 = some (r1, r2, r3)) :
  Calls Tryd.prog 44 #[.string a0, .string a1, .int .i64 a2] w fun e w' => e = .returned (.tuple #[.int .i64 r1, .int .i64 r2, .bool r3]) ∧ Below w.heap.size w w' := by
 have HB := aM (Below.refl w.heap.size w)
 have H := h
 clear h; unfold impl_ChanceAfter.f at H
 have HC4 := aM H
 clear H
 go_enter Tryd.func44, Tryd.ntmps44
 go_upto_region 1 with (fail)
 go_cut [24] (fun v24 wc => ∃ (kq : Nat) (x24_3 : Bool), v24 = .bool x24_3 ∧ Aside0 (impl_ChanceAfter.j0 kq a0 a1 a2 x24_3 = some (r1, r2, r3)) ∧ Aside0 (kq ≤ k) ∧ Aside0 (Below w.heap.size w wc))
 case first =>
  have H := HC4.out
  clear HC4
  replace H := bC H; obtain ⟨t298, A5, H⟩ := H
  refine iB H ?_ ?_ <;> clear H <;> rintro rfl H
  ·replace H := bC H; obtain ⟨t299, A7, H⟩ := H
   refine iB H ?_ ?_ <;> clear H <;> rintro rfl H
   ·replace H := bC H; obtain ⟨t300, A9, H⟩ := H
    have H' := aM H
    clear H
    go_wp2_with (first | ((with_reducible refine gG 84 (some 13) rfl rfl ?_); refine gC Tryd.func84 (impl_alike.calls a0 a1 true _ A5.out) ?_; rintro w10 hb; replace HB := hS HB hb; clear hb) | (go_at_call 85; (with_reducible refine (impl_isWalk.calls a0 true _ A7.out).mono ?_); rintro e w11 ⟨rfl, hb⟩; replace HB := hS HB hb; clear hb) | (go_at_call 104; (with_reducible refine (impl_in.calls a2 0 40 t300 _ A9.out).mono ?_); rintro e w' ⟨rfl, ⟨nd, rfl⟩⟩))
    go_meet
    case rel => exact ⟨_, (!t300), rF, H', kL, hV HB⟩
   have H' := aM H
   clear H
   go_wp2_with (first | ((with_reducible refine gG 84 (some 13) rfl rfl ?_); refine gC Tryd.func84 (impl_alike.calls a0 a1 true _ A5.out) ?_; rintro w12 hb; replace HB := hS HB hb; clear hb) | (go_at_call 85; (with_reducible refine (impl_isWalk.calls a0 false _ A7.out).mono ?_); rintro e w13 ⟨rfl, hb⟩; replace HB := hS HB hb; clear hb))
   go_meet
   case rel => exact ⟨_, (true), rF, H', kL, hV HB⟩
  have H' := aM H
  clear H
  go_wp2_with (first | ((with_reducible refine gG 84 (some 13) rfl rfl ?_); refine gC Tryd.func84 (impl_alike.calls a0 a1 false _ A5.out) ?_; rintro w14 hb; replace HB := hS HB hb; clear hb))
  go_meet
  case rel => exact ⟨_, (true), rF, H', kL, hV HB⟩
 case rest =>
  clear HC4
  obtain ⟨kq, x24_3, rfl, HA, HJ3, HB⟩ := hcut
  obtain rfl | ⟨kj3, rfl⟩ := fz kq
  ·exact zA HA
  have H := HA.out
  clear HA
  simp only [impl_ChanceAfter.j0] at H
  refine iB H ?_ ?_ <;> clear H <;> rintro rfl H
  ·simp only [Option.some.injEq, Prod.mk.injEq] at H
   obtain ⟨rfl, rfl, rfl⟩ := H
   go_wp2
   go_ret3
   exact ⟨eW, bel HB⟩
  replace H := bC H; obtain ⟨t301, A16, H⟩ := H
  replace H := bC H; obtain ⟨t304, A17, H⟩ := H
  refine iY H ?_; clear H; intro c18 H
  have c18b0 := dT c18
  clear c18
  refine iY H ?_; clear H; intro c19 H
  have c19b0 := dT c19
  clear c19
  refine iY H ?_; clear H; intro c20 H
  have c20b0 := eq_true c20
  have c20b1 := dT c20
  clear c20
  obtain ⟨ji21, hji21⟩ := jN (shl .i64 1 a2)
  first | rw [hji21] at H | simp only [hji21] at H
  (try rw [hji21] at A16)
  (try rw [hji21] at A17)
  have hji21_ : (IntKind.i64.wrap (1 * 2 ^ min a2.toNat 64)) = ji21 := hji21
  have hji21z : a2 ≤ 64 → (IntKind.i64.wrap (1 * 2 ^ a2.toNat)) = ji21 := shl_small hji21
  have hji21u : (IntKind.i64.wrap (2 ^ min a2.toNat 64)) = ji21 := by have h_ := hji21_; rw [Int.one_mul] at h_; exact h_
  have hji21v : a2 ≤ 64 → (IntKind.i64.wrap (2 ^ a2.toNat)) = ji21 := fun hle_ => by have h_ := hji21z hle_; rw [Int.one_mul] at h_; exact h_
  have hji21y : (wrap64 (1 * 2 ^ min a2.toNat 64)) = ji21 := (i64_w _).symm.trans hji21_
  have hji21x : a2 ≤ 64 → (wrap64 (1 * 2 ^ a2.toNat)) = ji21 := fun h_ => (i64_w _).symm.trans (hji21z h_)
  replace H := bC H; obtain ⟨⟨t306, t307⟩, A22, H⟩ := H; try dsimp only at H
  simp only [Option.some.injEq, Prod.mk.injEq] at H
  obtain ⟨rfl, rfl, rfl⟩ := H
  try go_wp2
  have pp305 : 0 ≤ (t304 : Int) := oD
  have qq305 : t304 < (t301.length : Int) := oD
  replace pp305 := eq_true pp305
  replace qq305 := eq_true qq305
  go_region_with (first | (go_at_call 105; refine (impl_spread.calls kj3 a0 a2 2 t301 _ A16.out).mono ?_; rintro e w1_ ⟨v0_, rfl, hR_, hb_⟩; obtain ⟨Ao_, co_, eo_⟩ := Kd.R_slice hR_; subst eo_; obtain ⟨ad305, e305, hx305_0⟩ := Kd.at_int (Kd.R_reads' hR_).2.2 t304 (of_decide_eq_true (by assumption)) (of_decide_eq_true (by assumption)); cases e305; have HB1_ := aM (below_step (bel HB) hb_); clear HB; have HB := HB1_; clear HB1_; clear hR_ hb_) | (go_at_call 75; refine (impl_number.calls kj3 a1 t304 _ A17.out).mono ?_; rintro e w' ⟨rfl, ⟨nd, rfl⟩⟩) | (go_at_call 80; refine (impl_lowest.calls kj3 (rd t301 t304) ji21 t306 t307 _ A22.out).mono ?_; rintro e w' ⟨rfl, ⟨nd, rfl⟩⟩))
  try go_wp2
  go_ret3
  exact ⟨by first | rfl | (simp [errW_none, errW_some] <;> rfl) | (simp only [← hji21]; first | rfl | (simp [errW_none, errW_some] <;> rfl)) | (simp [*, errW_none, errW_some] <;> rfl), bel HB⟩

/-! ### spec_waChances: function 108 -/
mutual
def spec_waChances.l0 : Nat → Int → Int → List Int → Option (List Int)
 | 0, _, _, _ => none
 | k + 1, x1, x2, x7 => if x2 > 0 then (if 0 ≤ (wrap64 (x1 + 1)) then (if (wrap64 (x1 + 1) : Int).toNat ≤ 35184372088832 then (spec_waChances.l1 k x1 x2 (List.replicate (wrap64 (x1 + 1) : Int).toNat 0) x7 (x7.length : Int) 0) else (none)) else (none)) else (some x7)
def spec_waChances.l1 : Nat → Int → Int → List Int → List Int → Int → Int → Option (List Int)
 | 0, _, _, _, _, _, _ => none
 | k + 1, x1, x2, x8, x24, x25, x26 => if x26 < x25 then (if 0 ≤ x26 then (if x26 < (x24.length : Int) then (if x26 = 0 then (if 1 < (x8.length : Int) then (spec_waChances.l1 k x1 x2 (x8.set (1 : Int).toNat (wrap64 ((rd x8 1) + (wrap64 (2 * (rd x24 x26)))))) x24 x25 (wrap64 (x26 + 1))) else (none)) else (if x26 = x1 then (if 0 ≤ (wrap64 (x26 - 1)) then (if (wrap64 (x26 - 1)) < (x8.length : Int) then (spec_waChances.l1 k x1 x2 (x8.set ((wrap64 (x26 - 1)) : Int).toNat (wrap64 ((rd x8 (wrap64 (x26 - 1))) + (wrap64 (2 * (rd x24 x26)))))) x24 x25 (wrap64 (x26 + 1))) else (none)) else (none)) else (if 0 ≤ (wrap64 (x26 - 1)) then (if (wrap64 (x26 - 1)) < (x8.length : Int) then ((some (x8.set ((wrap64 (x26 - 1)) : Int).toNat (wrap64 ((rd x8 (wrap64 (x26 - 1))) + (rd x24 x26))) : List Int)).bind fun y321 => (if 0 ≤ (wrap64 (x26 + 1)) then (if (wrap64 (x26 + 1)) < (x8.length : Int) then (spec_waChances.l1 k x1 x2 (y321.set ((wrap64 (x26 + 1)) : Int).toNat (wrap64 ((rd y321 (wrap64 (x26 + 1))) + (rd x24 x26)))) x24 x25 (wrap64 (x26 + 1))) else (none)) else (none))) else (none)) else (none)))) else (none)) else (none)) else (spec_waChances.l0 k x1 (wrap64 (x2 - 1)) x8)
end
def spec_waChances.f (k : Nat) (a0 : Int) (a1 : Int) (a2 : Int) : Option (List Int) := if 0 ≤ (wrap64 (a1 + 1)) then (if (wrap64 (a1 + 1) : Int).toNat ≤ 35184372088832 then ((some (List.replicate (wrap64 (a1 + 1) : Int).toNat 0 : List Int)).bind fun y308 => (if 0 ≤ a0 then (if a0 < (y308.length : Int) then (spec_waChances.l0 k a1 a2 (y308.set (a0 : Int).toNat 1)) else (none)) else (none))) else (none)) else (none)
theorem spec_waChances.mono_l : ∀ k, Mo (spec_waChances.l0 k) (spec_waChances.l0 (k + 1)) ∧ Mo (spec_waChances.l1 k) (spec_waChances.l1 (k + 1))
 | 0 => m0
 | k + 1 => by
  have ⟨ih0, ih1⟩ := spec_waChances.mono_l k
  refine ⟨?_, ?_⟩ <;> (repeat refine mE fun _ => ?_) <;> first | (unfold spec_waChances.l0; exact mG) | (unfold spec_waChances.l1; exact mG)
instance spec_waChances.mI (k : Nat) : Mo (spec_waChances.f k) (spec_waChances.f (k + 1)) := by
 have ⟨ih0, ih1⟩ := spec_waChances.mono_l k
 (repeat refine mE fun _ => ?_); unfold spec_waChances.f; exact mG
theorem spec_waChances.mono : ∀ a0 a1 a2 k, LeO (spec_waChances.f k a0 a1 a2) (spec_waChances.f (k + 1) a0 a1 a2) := fun a0 a1 a2 k => (spec_waChances.mI k).out a0 a1 a2
set_option maxHeartbeats 8000000 in
set_option maxRecDepth 100000 in
theorem spec_waChances.calls (k : Nat) (a0 : Int) (a1 : Int) (a2 : Int) (r : List Int) (w : World) (h : spec_waChances.f k a0 a1 a2 = some r) :
  Calls Tryd.prog 108 #[.int .i64 a0, .int .i64 a1, .int .i64 a2] w fun e w' => ∃ v0_ : Value, e = .returned (v0_) ∧ Kd.R (Kd.int .i64) 3 w' w.heap.size (fun _ => True) v0_ r ∧ Below w.heap.size w w' := by
 have HB := aM (Below.refl w.heap.size w)
 have H := h
 clear h; unfold spec_waChances.f at H
 obtain ⟨ji4, hji4⟩ := jN (wrap64 (a1 + 1))
 first | rw [hji4] at H | simp only [hji4] at H
 have hji4w : (IntKind.i64.wrap (a1 + 1)) = ji4 := (i64_w _).trans hji4
 refine iY H ?_; clear H; intro c5 H
 have c5b0 := eq_true c5
 have c5b1 := dT c5
 clear c5
 refine iY H ?_; clear H; intro c6 H
 have c6b0 := eq_true c6
 have c6b1 := dT c6
 clear c6
 replace H := yB H; obtain ⟨y308, Ny308, H⟩ := H
 refine iY H ?_; clear H; intro c7 H
 have c7b0 := dT c7
 clear c7
 refine iY H ?_; clear H; intro c8 H
 have c8b0 := dT c8
 clear c8
 obtain ⟨y311, Ny311⟩ := yN (y308.set (a0 : Int).toNat 1 : List Int); rw [← Ny311.out] at H
 have H' := aM H
 clear H
 go_enter Tryd.func108, Tryd.ntmps108
 go_wp2_with (first | ((with_reducible refine gate_dst (N := 13) rfl ?_); refine Kd.R_make (Kd.int .i64) _ 3 rfl (N := 13) rfl 43 _ _ rfl ji4 rfl rfl Tryd.underlying43 (.int .i64 0) 8 info3 rfl (by decide) (by omega) 0 (ok := fun _ => True) (okp := fun _ => True) rfl (fun _ hk => hk) trivial oD (Nat.le_trans (Nat.mul_le_mul_right _ (oD : ji4.toNat ≤ 35184372088832)) (by omega)) (Below.refl _ _) (Nat.le_refl _) ?_; intro v309 w10 ho11 hb hg_ hnew_; clear hg_ hnew_; (first | rw [← Ny308.out] at ho11 | (simp only [Int.reduceToNat] at ho11; rw [← Ny308.out] at ho11)); have HO310 := rL ho11 HB; replace HB := hS HB hb; clear hb ho11; have p9 : 0 ≤ (a0 : Int) := oD; have q9 : (a0 : Int) < ((y308.length : Int) : Int) := oD; obtain ⟨go9, co9, eo9, gb9, gl9, cl9, HG9⟩ := Kd.R_form HO310.out (by omega); (first | cases eo9 | (injection eo9 with ea_ en_ ec_; (first | subst ea_ | (injection ea_ with ea_; subst ea_)); subst ec_; clear en_)); have GB9 := aM gb9; have GG9 := aM HG9; clear gb9 gl9 HG9; obtain ⟨hx9_0, hf9_0⟩ := Kd.R_celln 0 HO310.out (a0 : Int) p9 q9; replace p9 := eq_true p9; replace q9 := eq_true q9; obtain ⟨hy12_, hz12_⟩ := Kd.R_celln 0 HO310.out (a0 : Int) oD oD; have HP12 := Kd.R_putg HO310.out (a0 : Int) 1) | ((with_reducible refine gate_store (t := 3) (p := 16) rfl ?_); refine store_event (t := 3) (p := 16) (v := ?vo_w13) (w1 := (w10.setCell ⟨go9, (a0 : Int).toNat, none⟩ (.int .i64 1))) ?hg ?ho ?hn ?hr ?_; (case ho => rfl); (case hg => rfl); (case hn => rfl); (case hr => first | (go_simp; done) | (go_simp; rfl)); intro w13 hw; have hg : w10.grownBy w13 (some go9) := (by rw [hw]; exact HP12.2); have hp_ : Kd.R (Kd.int .i64) 3 w13 w.heap.size (fun _ => True) (.slice (some ⟨go9, 0, none⟩) y308.length co9) y311 := (by rw [hw, Ny311.out]; exact HP12.1); clear HP12; replace HO310 := aM (hp_); replace HB := aM ((by rw [hw]; exact below_set (HB.out) GB9.out : Below w.heap.size w w13)); clear hg hw hp_))
 go_loopg [2, 7] k (fun kq v2 v7 w' => ∃ (x2_1 : Int) (x7_1 : List Int), v2 = .int .i64 x2_1 ∧ Aside0 (spec_waChances.l0 kq a1 x2_1 x7_1 = some r) ∧ Aside0 (kq ≤ k) ∧ Aside0 (Kd.R (Kd.int .i64) 3 w' w.heap.size (fun _ => True) v7 x7_1) ∧ Aside0 (Below w.heap.size w w'))
 case atStart => exact ⟨(a2), (y311), rF, H', kR, ⟨rU HO310.out⟩, hV HB⟩
 case round =>
  clear H'
  try clear c5b0;try clear c5b1;try clear c6b0;try clear c6b1;try clear c7b0;try clear c8b0;try clear p9;try clear q9;try clear hx9_0
  obtain ⟨x2_1, x7_1, rfl, HA, HK1, HO_7, HB⟩ := hrel
  obtain rfl | ⟨k1, rfl⟩ := fz gk
  ·exact zA HA
  have H := HA.out
  clear HA
  simp only [spec_waChances.l0] at H
  refine iI H ?_ ?_ <;> clear H <;> intro c14 H
  ·have c14b0 := gT c14
   clear c14
   obtain ⟨ji15, hji15⟩ := jN (wrap64 (a1 + 1))
   first | rw [hji15] at H | simp only [hji15] at H
   have hji15w : (IntKind.i64.wrap (a1 + 1)) = ji15 := (i64_w _).trans hji15
   try clear hji4w;try clear hji4
   refine iY H ?_; clear H; intro c16 H
   have c16b0 := eq_true c16
   have c16b1 := dT c16
   clear c16
   refine iY H ?_; clear H; intro c17 H
   have c17b0 := eq_true c17
   have c17b1 := dT c17
   clear c17
   obtain ⟨y312, Ny312⟩ := yN (List.replicate (ji15 : Int).toNat 0 : List Int); rw [← Ny312.out] at H
   have H' := aM H
   clear H
   go_wp2_with (first | ((with_reducible refine gate_dst (N := 23) rfl ?_); refine Kd.R_make (Kd.int .i64) _ 3 rfl (N := 23) rfl 43 _ _ rfl ji15 rfl rfl Tryd.underlying43 (.int .i64 0) 8 info3 rfl (by decide) (by omega) 0 (ok := fun _ => True) (okp := fun _ => True) rfl (fun _ hk => hk) trivial oD (Nat.le_trans (Nat.mul_le_mul_right _ (oD : ji15.toNat ≤ 35184372088832)) (by omega)) (Below.refl _ _) (Nat.le_refl _) ?_; intro v313 w18 ho19 hb hg_ hnew_; clear hg_ hnew_; (first | rw [← Ny312.out] at ho19 | (simp only [Int.reduceToNat] at ho19; rw [← Ny312.out] at ho19)); have HO314 := aM (Kd.R_lower (Kd.R_new' ho19 (Kd.R_lt (rU HO_7.out))) (below_size (bel HB))); replace HO_7 := aM (Kd.R_elder' (rU HO_7.out) (Kd.R_base ho19) hb); replace HB := hS HB hb; clear hb ho19; obtain ⟨Ao20, co20, eo20⟩ := Kd.R_slice HO_7.out; subst eo20))
   go_loopg [26] k1 (fun kq v26 w' => ∃ (x8_2 : List Int) (x26_2 : Int), v26 = .int .i64 x26_2 ∧ Aside0 (spec_waChances.l1 kq a1 x2_1 x8_2 x7_1 (x7_1.length : Int) x26_2 = some r) ∧ Aside0 (kq ≤ k1) ∧ Aside0 (Kd.R (Kd.int .i64) 3 w' w.heap.size (fun k_ => some k_ ≠ ((.slice Ao20 x7_1.length co20) : Value).ownBlock) v313 x8_2) ∧ Aside0 (Kd.R (Kd.int .i64) 3 w' w.heap.size (fun k_ => some k_ ≠ (v313 : Value).ownBlock) (.slice Ao20 x7_1.length co20) x7_1) ∧ Aside0 (Below w.heap.size w w'))
   case atStart => exact ⟨(y312), (0), rF, H', kR, ⟨rU (Kd.R_mono HO314.out (fun _ hk => hk.2))⟩, ⟨rU (Kd.R_mono HO_7.out (fun _ hk => hk.2))⟩, hV HB⟩
   case round =>
    clear H'
    try clear c14b0;try clear c16b0;try clear c16b1;try clear c17b0;try clear c17b1
    obtain ⟨x8_2, x26_2, rfl, HA, HK2, HO_8, HO_24, HB⟩ := hrel
    obtain rfl | ⟨k2, rfl⟩ := fz gk
    ·exact zA HA
    have H := HA.out
    clear HA
    simp only [spec_waChances.l1] at H
    refine iI H ?_ ?_ <;> clear H <;> intro c21 H
    ·have c21b0 := dT c21
     clear c21
     refine iY H ?_; clear H; intro c22 H
     have c22b0 := dT c22
     clear c22
     refine iY H ?_; clear H; intro c23 H
     have c23b0 := dT c23
     clear c23
     refine iI H ?_ ?_ <;> clear H <;> intro c24 H
     ·have c24b0 := qT c24
      have c24b1 := nF c24
      clear c24
      refine iY H ?_; clear H; intro c25 H
      have c25b0 := dT c25
      have c25b1 : decide (1 < x8_2.length) = true := decide_eq_true (by omega)
      clear c25
      obtain ⟨y317, Ny317⟩ := yN (x8_2.set (1 : Int).toNat (wrap64 ((rd x8_2 1) + (wrap64 (2 * (rd x7_1 x26_2))))) : List Int); rw [← Ny317.out] at H
      have H' := aM H
      clear H
      have p315 : 0 ≤ (x26_2 : Int) := oD
      have q315 : x26_2 < (x7_1.length : Int) := oD
      obtain ⟨ad315, e315, hx315_0⟩ := Kd.at_int (Kd.R_reads' HO_24.out).2.2 x26_2 p315 q315
      cases e315
      replace p315 := eq_true p315
      replace q315 := eq_true q315
      obtain ⟨Ao27, co27, eo27⟩ := Kd.R_slice HO_8.out
      subst eo27
      have p316 : 0 ≤ (1 : Int) := (by omega)
      have q316 : 1 < (x8_2.length : Int) := oD
      obtain ⟨ad316, e316, hx316_0⟩ := Kd.at_int (Kd.R_reads' HO_8.out).2.2 1 p316 q316
      cases e316
      (try simp only [show (1 : Int).toNat = 1 from rfl, Nat.reduceMul, Nat.reduceEqDiff, Go.Addr.add, ↓reduceIte] at hx316_0)
      have qi316 : (1 < x8_2.length) = True := eq_true (by omega)
      (try rw [show ((1 : Int)).toNat = 1 from rfl] at hx316_0)
      replace p316 := eq_true p316
      replace q316 := eq_true q316
      have p26 : 0 ≤ (1 : Int) := (by omega)
      have q26 : (1 : Int) < ((x8_2.length : Int) : Int) := oD
      have qi26 : (1 < x8_2.length) = True := eq_true (by omega)
      obtain ⟨go26, co26, eo26, gb26, gl26, cl26, HG26⟩ := Kd.R_form HO_8.out (by omega)
      (first | cases eo26 | (injection eo26 with ea_ en_ ec_; (first | subst ea_ | (injection ea_ with ea_; subst ea_)); subst ec_; clear en_))
      have GB26 := aM gb26
      have GG26 := aM HG26
      clear gb26 gl26 HG26
      (first | simp only [add_plain] at hx316_0 | skip)
      obtain ⟨hx26_0, hf26_0⟩ := Kd.R_celln 0 HO_8.out (1 : Int) p26 q26
      (try rw [show ((1 : Int)).toNat = 1 from rfl] at hx26_0)
      (try simp only [Nat.reduceMul, Nat.zero_mul, Nat.zero_add, Nat.reduceAdd] at hx26_0)
      (try rw [show ((1 : Int)).toNat = 1 from rfl] at hf26_0)
      (try simp only [Nat.reduceMul, Nat.zero_mul, Nat.zero_add, Nat.reduceAdd] at hf26_0)
      replace p26 := eq_true p26
      replace q26 := eq_true q26
      have HP28 := Kd.R_putg HO_8.out (1 : Int) (wrap64 ((rd x8_2 1) + (wrap64 (2 * (rd x7_1 x26_2)))))
      go_wp2_with (first | ((with_reducible refine gate_store (t := 3) (p := 56) rfl ?_); refine store_event (t := 3) (p := 56) (v := ?vo_w29) (w1 := (wr.setCell ⟨go26, (1 : Int).toNat, none⟩ (.int .i64 (wrap64 ((rd x8_2 1) + (wrap64 (2 * (rd x7_1 x26_2)))))))) ?hg ?ho ?hn ?hr ?_; (case ho => rfl); (case hg => rfl); (case hn => rfl); (case hr => first | (go_simp; done) | (go_simp; rfl)); intro w29 hw; have hg : wr.grownBy w29 (some go26) := (by rw [hw]; exact HP28.2); have hp_ : Kd.R (Kd.int .i64) 3 w29 w.heap.size (fun k_ => some k_ ≠ (.slice (some ad315) x7_1.length co20 : Value).ownBlock) (.slice (some ⟨go26, 0, none⟩) x8_2.length co27) y317 := (by rw [hw, Ny317.out]; exact HP28.1); clear HP28; replace HO_8 := aM (hp_); replace HO_24 := aM (Kd.R_after (v := (.slice (some ⟨go26, 0, none⟩) x8_2.length co27)) (v1 := (.slice (some ⟨go26, 0, none⟩) x8_2.length co27)) (ok := (fun _ => True)) (rU (Kd.R_mono HO_24.out (fun _ hk => ⟨trivial, hk⟩))) hg (.inl rfl)); replace HB := aM ((by rw [hw]; exact below_set (HB.out) GB26.out : Below w.heap.size w w29)); clear hg hw hp_))
      go_roundg k2
      case measure => have := HK1.out; have := HK2.out; omega
      case rel => exact ⟨(y317), (wrap64 (x26_2 + 1)), rF, H', ⟨by have := HK1.out; have := HK2.out; omega⟩, ⟨rU HO_8.out⟩, ⟨rU (Kd.R_mono HO_24.out (fun _ hk => hk.2))⟩, hV HB⟩
     have c24b0 := qF c24
     have c24b1 := nT c24
     refine iI H ?_ ?_ <;> clear H <;> intro c30 H
     ·have c30b0 := qT c30
      have c30b1 := nF c30
      clear c30
      obtain ⟨ji31, hji31⟩ := jN (wrap64 (x26_2 - 1))
      first | rw [hji31] at H | simp only [hji31] at H
      have hji31w : (IntKind.i64.wrap (x26_2 - 1)) = ji31 := (i64_w _).trans hji31
      refine iY H ?_; clear H; intro c32 H
      have c32b0 := dT c32
      clear c32
      refine iY H ?_; clear H; intro c33 H
      have c33b0 := dT c33
      clear c33
      obtain ⟨y319, Ny319⟩ := yN (x8_2.set ((ji31) : Int).toNat (wrap64 ((rd x8_2 (ji31)) + (wrap64 (2 * (rd x7_1 x26_2))))) : List Int); rw [← Ny319.out] at H
      have H' := aM H
      clear H
      have p315 : 0 ≤ (x26_2 : Int) := oD
      have q315 : x26_2 < (x7_1.length : Int) := oD
      obtain ⟨ad315, e315, hx315_0⟩ := Kd.at_int (Kd.R_reads' HO_24.out).2.2 x26_2 p315 q315
      cases e315
      replace p315 := eq_true p315
      replace q315 := eq_true q315
      obtain ⟨Ao35, co35, eo35⟩ := Kd.R_slice HO_8.out
      subst eo35
      have p318 : 0 ≤ ((ji31) : Int) := oD
      have q318 : (ji31) < (x8_2.length : Int) := oD
      obtain ⟨ad318, e318, hx318_0⟩ := Kd.at_int (Kd.R_reads' HO_8.out).2.2 (ji31) p318 q318
      cases e318
      replace p318 := eq_true p318
      replace q318 := eq_true q318
      have p34 : 0 ≤ ((ji31) : Int) := oD
      have q34 : ((ji31) : Int) < ((x8_2.length : Int) : Int) := oD
      obtain ⟨go34, co34, eo34, gb34, gl34, cl34, HG34⟩ := Kd.R_form HO_8.out (by omega)
      (first | cases eo34 | (injection eo34 with ea_ en_ ec_; (first | subst ea_ | (injection ea_ with ea_; subst ea_)); subst ec_; clear en_))
      have GB34 := aM gb34
      have GG34 := aM HG34
      clear gb34 gl34 HG34
      (first | simp only [add_plain] at hx318_0 | skip)
      obtain ⟨hx34_0, hf34_0⟩ := Kd.R_celln 0 HO_8.out ((ji31) : Int) p34 q34
      replace p34 := eq_true p34
      replace q34 := eq_true q34
      have HP36 := Kd.R_putg HO_8.out ((ji31) : Int) (wrap64 ((rd x8_2 (ji31)) + (wrap64 (2 * (rd x7_1 x26_2)))))
      go_wp2_with (first | ((with_reducible refine gate_store (t := 3) (p := 69) rfl ?_); refine store_event (t := 3) (p := 69) (v := ?vo_w37) (w1 := (wr.setCell ⟨go34, ((ji31) : Int).toNat, none⟩ (.int .i64 (wrap64 ((rd x8_2 (ji31)) + (wrap64 (2 * (rd x7_1 x26_2)))))))) ?hg ?ho ?hn ?hr ?_; (case ho => rfl); (case hg => rfl); (case hn => rfl); (case hr => first | (go_simp; done) | (go_simp; rfl)); intro w37 hw; have hg : wr.grownBy w37 (some go34) := (by rw [hw]; exact HP36.2); have hp_ : Kd.R (Kd.int .i64) 3 w37 w.heap.size (fun k_ => some k_ ≠ (.slice (some ad315) x7_1.length co20 : Value).ownBlock) (.slice (some ⟨go34, 0, none⟩) x8_2.length co35) y319 := (by rw [hw, Ny319.out]; exact HP36.1); clear HP36; replace HO_8 := aM (hp_); replace HO_24 := aM (Kd.R_after (v := (.slice (some ⟨go34, 0, none⟩) x8_2.length co35)) (v1 := (.slice (some ⟨go34, 0, none⟩) x8_2.length co35)) (ok := (fun _ => True)) (rU (Kd.R_mono HO_24.out (fun _ hk => ⟨trivial, hk⟩))) hg (.inl rfl)); replace HB := aM ((by rw [hw]; exact below_set (HB.out) GB34.out : Below w.heap.size w w37)); clear hg hw hp_))
      go_roundg k2
      case measure => have := HK1.out; have := HK2.out; omega
      case rel => exact ⟨(y319), (wrap64 (x26_2 + 1)), rF, H', ⟨by have := HK1.out; have := HK2.out; omega⟩, ⟨rU HO_8.out⟩, ⟨rU (Kd.R_mono HO_24.out (fun _ hk => hk.2))⟩, hV HB⟩
     have c30b0 := qF c30
     have c30b1 := nT c30
     obtain ⟨ji38, hji38⟩ := jN (wrap64 (x26_2 - 1))
     first | rw [hji38] at H | simp only [hji38] at H
     have hji38w : (IntKind.i64.wrap (x26_2 - 1)) = ji38 := (i64_w _).trans hji38
     refine iY H ?_; clear H; intro c39 H
     have c39b0 := dT c39
     clear c39
     refine iY H ?_; clear H; intro c40 H
     have c40b0 := dT c40
     clear c40
     replace H := yB H; obtain ⟨y321, Ny321, H⟩ := H
     obtain ⟨ji42, hji42⟩ := jN (wrap64 (x26_2 + 1))
     first | rw [hji42] at H | simp only [hji42] at H
     have hji42w : (IntKind.i64.wrap (x26_2 + 1)) = ji42 := (i64_w _).trans hji42
     refine iY H ?_; clear H; intro c43 H
     have c43b0 := dT c43
     clear c43
     refine iY H ?_; clear H; intro c44 H
     have c44b0 := dT c44
     clear c44
     obtain ⟨y323, Ny323⟩ := yN (y321.set ((ji42) : Int).toNat (wrap64 ((rd y321 (ji42)) + (rd x7_1 x26_2))) : List Int); rw [← Ny323.out] at H
     have H' := aM H
     clear H
     have p315 : 0 ≤ (x26_2 : Int) := oD
     have q315 : x26_2 < (x7_1.length : Int) := oD
     obtain ⟨ad315, e315, hx315_0⟩ := Kd.at_int (Kd.R_reads' HO_24.out).2.2 x26_2 p315 q315
     cases e315
     replace p315 := eq_true p315
     replace q315 := eq_true q315
     obtain ⟨Ao46, co46, eo46⟩ := Kd.R_slice HO_8.out
     subst eo46
     have p320 : 0 ≤ ((ji38) : Int) := oD
     have q320 : (ji38) < (x8_2.length : Int) := oD
     obtain ⟨ad320, e320, hx320_0⟩ := Kd.at_int (Kd.R_reads' HO_8.out).2.2 (ji38) p320 q320
     cases e320
     replace p320 := eq_true p320
     replace q320 := eq_true q320
     have p41 : 0 ≤ ((ji38) : Int) := oD
     have q41 : ((ji38) : Int) < ((x8_2.length : Int) : Int) := oD
     obtain ⟨go41, co41, eo41, gb41, gl41, cl41, HG41⟩ := Kd.R_form HO_8.out (by omega)
     (first | cases eo41 | (injection eo41 with ea_ en_ ec_; (first | subst ea_ | (injection ea_ with ea_; subst ea_)); subst ec_; clear en_))
     have GB41 := aM gb41
     have GG41 := aM HG41
     clear gb41 gl41 HG41
     (first | simp only [add_plain] at hx320_0 | skip)
     obtain ⟨hx41_0, hf41_0⟩ := Kd.R_celln 0 HO_8.out ((ji38) : Int) p41 q41
     replace p41 := eq_true p41
     replace q41 := eq_true q41
     have HP47 := Kd.R_putg HO_8.out ((ji38) : Int) (wrap64 ((rd x8_2 (ji38)) + (rd x7_1 x26_2)))
     go_wp2_with (first | ((with_reducible refine gate_store (t := 3) (p := 38) rfl ?_); refine store_event (t := 3) (p := 38) (v := ?vo_w48) (w1 := (wr.setCell ⟨go41, ((ji38) : Int).toNat, none⟩ (.int .i64 (wrap64 ((rd x8_2 (ji38)) + (rd x7_1 x26_2)))))) ?hg ?ho ?hn ?hr ?_; (case ho => rfl); (case hg => rfl); (case hn => rfl); (case hr => first | (go_simp; done) | (go_simp; rfl)); intro w48 hw; have hg : wr.grownBy w48 (some go41) := (by rw [hw]; exact HP47.2); have hp_ : Kd.R (Kd.int .i64) 3 w48 w.heap.size (fun k_ => some k_ ≠ (.slice (some ad315) x7_1.length co20 : Value).ownBlock) (.slice (some ⟨go41, 0, none⟩) x8_2.length co46) y321 := (by rw [hw, Ny321.out]; exact HP47.1); clear HP47; replace HO_8 := aM (hp_); replace HO_24 := aM (Kd.R_after (v := (.slice (some ⟨go41, 0, none⟩) x8_2.length co46)) (v1 := (.slice (some ⟨go41, 0, none⟩) x8_2.length co46)) (ok := (fun _ => True)) (rU (Kd.R_mono HO_24.out (fun _ hk => ⟨trivial, hk⟩))) hg (.inl rfl)); replace HB := aM ((by rw [hw]; exact below_set (HB.out) GB41.out : Below w.heap.size w w48)); clear hg hw hp_; have p322 : 0 ≤ ((ji42) : Int) := oD; have q322 : (ji42) < (y321.length : Int) := (by have h_ : ((ji42) : Int) < ((x8_2.length : Int) : Int) := oD; first | (have e_ := (Kd.R_reads' HO_8.out).1; omega) | simpa only [Ny321.out, List.length_set] using h_); have ql322 : (((ji42) : Int) < ((x8_2.length : Int) : Int)) = True := eq_true oD; obtain ⟨ad322, e322, hx322_0⟩ := Kd.at_int (Kd.R_reads' HO_8.out).2.2 (ji42) p322 q322; obtain rfl : (⟨go41, 0, none⟩ : Addr) = ad322 := (by injection e322); (first | simp only [add_plain] at hx322_0 | simp only [add_at] at hx322_0 | simp only [Addr.add, Nat.zero_add] at hx322_0 | skip); replace p322 := eq_true p322; replace q322 := eq_true q322; have p45 : 0 ≤ ((ji42) : Int) := oD; have q45 : ((ji42) : Int) < ((x8_2.length : Int) : Int) := oD; obtain ⟨hx45_0, hf45_0⟩ := Kd.R_celln 0 HO_8.out ((ji42) : Int) p45 q45; replace p45 := eq_true p45; replace q45 := eq_true q45; obtain ⟨hy49_, hz49_⟩ := Kd.R_celln 0 HO_8.out ((ji42) : Int) oD oD; have HP49 := Kd.R_putg HO_8.out ((ji42) : Int) (wrap64 ((rd y321 (ji42)) + (rd x7_1 x26_2)))) | ((with_reducible refine gate_store (t := 3) (p := 46) rfl ?_); refine store_event (t := 3) (p := 46) (v := ?vo_w50) (w1 := (w48.setCell ⟨go41, ((ji42) : Int).toNat, none⟩ (.int .i64 (wrap64 ((rd y321 (ji42)) + (rd x7_1 x26_2)))))) ?hg ?ho ?hn ?hr ?_; (case ho => rfl); (case hg => rfl); (case hn => rfl); (case hr => first | (go_simp; done) | (go_simp; rfl)); intro w50 hw; have hg : w48.grownBy w50 (some go41) := (by rw [hw]; exact HP49.2); have hp_ : Kd.R (Kd.int .i64) 3 w50 w.heap.size (fun k_ => some k_ ≠ (.slice (some ad315) x7_1.length co20 : Value).ownBlock) (.slice (some ⟨go41, 0, none⟩) x8_2.length co46) y323 := (by rw [hw, Ny323.out]; exact HP49.1); clear HP49; replace HO_8 := aM (hp_); replace HO_24 := aM (Kd.R_after (v := (.slice (some ⟨go41, 0, none⟩) x8_2.length co46)) (v1 := (.slice (some ⟨go41, 0, none⟩) x8_2.length co46)) (ok := (fun _ => True)) (rU HO_24.out) hg (.inl rfl)); replace HB := aM ((by rw [hw]; exact below_set (HB.out) GB41.out : Below w.heap.size w w50)); clear hg hw hp_))
     go_roundg k2
     case measure => have := HK1.out; have := HK2.out; omega
     case rel => exact ⟨(y323), (ji42), (by first | rfl | (simp; done) | (simp only [← hji42] <;> (first | rfl | simp)) | (simp [*]; done)), H', ⟨by have := HK1.out; have := HK2.out; omega⟩, ⟨rU HO_8.out⟩, ⟨rU (Kd.R_mono HO_24.out (fun _ hk => hk.2))⟩, hV HB⟩
    have c21b0 := dF c21
    clear c21
    have H' := aM H
    clear H
    go_wp2
    go_roundg k2
    case measure => have := HK1.out; have := HK2.out; omega
    case rel => exact ⟨(wrap64 (x2_1 - 1)), (x8_2), rF, H', ⟨by have := HK1.out; have := HK2.out; omega⟩, ⟨rU (Kd.R_mono HO_8.out (fun _ hk => trivial))⟩, hV HB⟩
  have c14b0 := gF c14
  clear c14
  obtain rfl := Option.some.inj H
  go_wp2
  go_ret
  exact ⟨_, by first | rfl | (simp [errW_none, errW_some] <;> rfl) | (simp only [← hji4]; first | rfl | (simp [errW_none, errW_some] <;> rfl)) | (simp [*, errW_none, errW_some] <;> rfl), rU HO_7.out, bel HB⟩

end Go.Proofs.YtcogjabdddikjaaDoor.PWMn
