-- squeezed (sq3.py); PRINTED by drive.py (a program of this session's, over the kit's print.py; wip/tools/drive.py). Lean checks it.
import Derived.Test.YtcogjabdddikjaaDoorQPWMnx0
import Derived.Test.YtcogjabdddikjaaDoorQPWMnx1
import Derived.Test.YtcogjabdddikjaaDoorQPWMnx2
import Derived.Test.YtcogjabdddikjaaDoorQSq
namespace Go.Proofs.YtcogjabdddikjaaDoor.PWMn
open Go.RowKit Go.Proofs.YtcogjabdddikjaaDoorW.PrintWords Go.Proofs.YtcogjabdddikjaaDoorW.PrintLast Go.Proofs.YtcogjabdddikjaaDoorW.PrintMore
attribute [local go_sem] max2_int min2_int max_two min_two max_three min_three max_four min_four   -- for this text's walks alone
set_option linter.unusedVariables false
set_option linter.unusedSimpArgs false

/-! ### spec_l1Cur_among: function 78 -/
def spec_l1Cur_among.f (s0_0 : List Int) (s0_1 : Int) (s0_2 : Int) (l1 : List Int) : Option (Int × Int × Int) := (spec_l1Cur_pick.f s0_0 s0_1 s0_2 (l1.length : Int)).bind fun bt235 => (if 0 ≤ bt235.1 then (if bt235.1 < (l1.length : Int) then (some (rd l1 bt235.1, bt235.2.1, bt235.2.2)) else (none)) else (none))
set_option maxHeartbeats 8000000 in
set_option maxRecDepth 100000 in
theorem spec_l1Cur_among.calls (g : Nat) (s0_0 : List Int) (s0_1 : Int) (s0_2 : Int) (A1 : Option Addr) (c1 : Nat) (l1 : List Int) (r1 : Int) (r2 : Int) (r3 : Int) (w0 w : World) (hI : IsS87 w0 w g s0_0 s0_1 s0_2) (hB : Below w0.heap.size w0 w) (hr1 : Kd.C (Kd.int .i64) w A1 l1.length l1) (hc1 : l1.length ≤ c1) (hf1 : ∀ ad, A1 = some ad → 0 < l1.length → ad.block ≠ g) (h : spec_l1Cur_among.f s0_0 s0_1 s0_2 l1 = some (r1, r2, r3)) :
  Calls Tryd.prog 78 #[.pointer (some ⟨g, 0, none⟩), .slice A1 l1.length c1] w fun e w' => e = .returned (.int .i64 r1) ∧ IsS87 w0 w' g s0_0 r2 r3 ∧ Below w0.heap.size w0 w' ∧ KeepBut w w' g none := by
 have HR1 := aM hr1
 have HC1 := aM hc1
 clear hr1 hc1
 have HI0 := sS87 hI
 have GI_HI0 := IsS87.geI HI0
 have HK := aM (KeepBut.refl w g none)
 have HL := aM hB.size
 clear hI
 have HW0 := aM hB.size
 have HB := aM hB
 clear hB
 have H := h
 clear h; unfold spec_l1Cur_among.f at H
 replace H := bC H; obtain ⟨⟨t235, t236, t237⟩, A3, H⟩ := H; try dsimp only at H
 refine iY H ?_; clear H; intro c4 H
 have c4b0 := dT c4
 clear c4
 refine iY H ?_; clear H; intro c5 H
 have c5b0 := dT c5
 clear c5
 simp only [Option.some.injEq, Prod.mk.injEq] at H
 obtain ⟨rfl, rfl, rfl⟩ := H
 go_enter Tryd.func78, Tryd.ntmps78
 go_wp2_with (first | ((with_reducible refine gG 137 (some 9) rfl rfl ?_); refine gC Tryd.func137 (spec_l1Cur_pick.calls g s0_0 s0_1 s0_2 (l1.length : Int) t235 t236 t237 w0 _ tS87 (bel HB) A3.out) ?_; rintro w6 ⟨hi, hb, hk⟩; replace HK := kT HK hk; replace HB := aM (hb); replace HI0 := sS87 (hi); clear hb hk hi; have p238 : 0 ≤ (t235 : Int) := oD; have q238 : t235 < (l1.length : Int) := oD; obtain ⟨ad238, e238, hx238_0⟩ := Kd.at_int HR1.out t235 p238 q238; cases e238; replace hx238_0 := keep_cell HK.out hx238_0 (by first | (rw [add_block]; exact hf1 _ rfl (by omega)) | exact hf1 _ rfl (by omega) | exact hf1 ad238 rfl (by omega)); replace p238 := eq_true p238; replace q238 := eq_true q238))
 go_ret
 exact ⟨eW, tS87, bel HB, kp HK⟩

/-! ### spec_DrawWalksTo: function 41 -/
def spec_DrawWalksTo.f (k : Nat) (l0 : List Int) : Option (ByteArray × ByteArray × Int) := (spec_l1Cur_states.f k l0 0 0).bind fun bt240 => ((spec_l1Cur_among.f l0 bt240.2.2.1 bt240.2.2.2 (([0, 1, 2, 3, 5, 8, 40, 41, (-1)] : List Int))).bind fun bt247 => (some (bt240.1, bt240.2.1, bt247.1)))
instance spec_DrawWalksTo.mI (k : Nat) : Mo (spec_DrawWalksTo.f k) (spec_DrawWalksTo.f (k + 1)) := by
 (repeat refine mE fun _ => ?_); unfold spec_DrawWalksTo.f; exact mG
theorem spec_DrawWalksTo.mono : ∀ a0 k, LeO (spec_DrawWalksTo.f k a0) (spec_DrawWalksTo.f (k + 1) a0) := fun a0 k => (spec_DrawWalksTo.mI k).out a0
set_option maxHeartbeats 8000000 in
set_option maxRecDepth 100000 in
theorem spec_DrawWalksTo.calls (k : Nat) (A0 : Option Addr) (c0 : Nat) (l0 : List Int) (r1 : ByteArray) (r2 : ByteArray) (r3 : Int) (w : World) (hr0 : Kd.C (Kd.int .u8) w A0 l0.length l0) (hc0 : l0.length ≤ c0) (h : spec_DrawWalksTo.f k l0 = some (r1, r2, r3)) :
  Calls Tryd.prog 41 #[.slice A0 l0.length c0] w fun e w' => e = .returned (.tuple #[.string r1, .string r2, .int .i64 r3]) ∧ Below w.heap.size w w' := by
 have hu87 := Tryd.underlying87
 have HR0 := aM hr0
 have HC0 := aM hc0
 clear hr0 hc0
 have HB := aM (Below.refl w.heap.size w)
 have H := h
 clear h; unfold spec_DrawWalksTo.f at H
 replace H := bC H; obtain ⟨⟨t240, t241, t242, t243⟩, A2, H⟩ := H; try dsimp only at H
 obtain ⟨y244, Ny244⟩ := yN (([0, 1, 2, 3, 5, 8, 40, 41, (-1)] : List Int) : List Int); rw [← Ny244.out] at H
 replace H := bC H; obtain ⟨⟨t247, t248, t249⟩, A3, H⟩ := H; try dsimp only at H
 simp only [Option.some.injEq, Prod.mk.injEq] at H
 obtain ⟨rfl, rfl, rfl⟩ := H
 go_enter Tryd.func41, Tryd.ntmps41
 go_wp2_with (first | ((with_reducible refine gate_dst (N := 10) rfl ?_); refine box_event ?hg (N := 10) ?hd (cs := #[.slice A0 l0.length c0, .int .i64 0, .int .u64 0]) (t := 87) ?hr ?_; (case hd => rfl); (case hg => rfl); (case hr => first | (go_simp; done) | (go_simp; rfl)); intro gb239 hg w4 hbox hb; have HI239 := sS87 ((show IsS87 w w4 gb239 l0 0 0 from ⟨_, _, hbox, (by rw [hg]; exact (below_size (bel HB)) : w.heap.size ≤ gb239), HR0.out⟩)); have GI_HI239 := IsS87.geI HI239; replace HB := hS HB hb; clear hb hbox hg) | ((with_reducible refine gG 102 (some 13) rfl rfl ?_); refine gC Tryd.func102 (spec_l1Cur_states.calls k gb239 l0 0 0 t240 t241 t242 t243 w _ tS87 (bel HB) A2.out) ?_; rintro w5 ⟨hi, hb, hk⟩; replace HB := aM (hb); replace HI239 := sS87 (hi); clear hb hk hi) | ((with_reducible refine gate_dst (N := 19) rfl ?_); refine Kd.R_lit (Kd.int .i64) _ 3 ?hg (N := 19) ?hd (xs := ([0, 1, 2, 3, 5, 8, 40, 41, (-1)] : List Int)) (inner := [.int .i64 0, .int .i64 1, .int .i64 2, .int .i64 3, .int .i64 5, .int .i64 8, .int .i64 40, .int .i64 41, .int .i64 (-1)]) (ok := fun _ => True) (okp := fun _ => True) ?hr ?hp (fun _ hk => hk) trivial (Below.refl _ _) (Nat.le_refl _) (by simp) ?_; (case hd => rfl); (case hg => rfl); (case hr => first | (go_simp; done) | (go_simp; rfl)); (case hp => exact (Reps.one (show Kd.M (Kd.int .i64) _ _ _ 0 [.int .i64 0] from rfl) (Reps.one (show Kd.M (Kd.int .i64) _ _ _ 1 [.int .i64 1] from rfl) (Reps.one (show Kd.M (Kd.int .i64) _ _ _ 2 [.int .i64 2] from rfl) (Reps.one (show Kd.M (Kd.int .i64) _ _ _ 3 [.int .i64 3] from rfl) (Reps.one (show Kd.M (Kd.int .i64) _ _ _ 5 [.int .i64 5] from rfl) (Reps.one (show Kd.M (Kd.int .i64) _ _ _ 8 [.int .i64 8] from rfl) (Reps.one (show Kd.M (Kd.int .i64) _ _ _ 40 [.int .i64 40] from rfl) (Reps.one (show Kd.M (Kd.int .i64) _ _ _ 41 [.int .i64 41] from rfl) (Reps.one (show Kd.M (Kd.int .i64) _ _ _ (-1) [.int .i64 (-1)] from rfl) (Reps.none _ _))))))))))); intro v245 w6 ho7 hb hg_ hnew_; clear hg_ hnew_; (first | rw [← Ny244.out] at ho7 | (simp only [Int.reduceToNat] at ho7; rw [← Ny244.out] at ho7)); have HO246 := rL ho7 HB; replace HI239 := bS87 gb239 hb; replace HB := hS HB hb; clear hb ho7; obtain ⟨Ao8, co8, eo8⟩ := Kd.R_slice HO246.out; subst eo8) | ((with_reducible refine gG 78 (some 20) rfl rfl ?_); refine gC Tryd.func78 (spec_l1Cur_among.calls gb239 l0 t242 t243 _ _ y244 t247 t248 t249 w _ tS87 (bel HB) (cU ((Kd.R_reads' HO246.out).2.2)) ((Kd.R_reads' HO246.out).2.1) (far_slice (IsS87.own_ne HI239.out HO246.out (by decide))) A3.out) ?_; rintro w9 ⟨hi, hb, hk⟩; replace HO246 := aM (Kd.R_mono (Kd.R_keep (IsS87.apart (show IsS87 w _ gb239 l0 t242 t243 from tS87) (rU HO246.out) (by decide)) hk (fun _ h => h.2)) (fun _ h => h.1)); replace HB := aM (hb); replace HI239 := sS87 (hi); clear hb hk hi))
 go_ret3
 exact ⟨eW, bel HB⟩

/-! ### impl_isWalk: function 85 -/
def impl_isWalk.f (a0 : ByteArray) : Option (Bool) := (impl_IsState.f a0).bind fun t250 => (if t250 = true then (some (decide ((a0.size : Int) ≤ 12))) else (some false))
set_option maxHeartbeats 8000000 in
set_option maxRecDepth 100000 in
theorem impl_isWalk.calls (a0 : ByteArray) (r : Bool) (w : World) (h : impl_isWalk.f a0 = some r) :
  Calls Tryd.prog 85 #[.string a0] w fun e w' => e = .returned (.bool r) ∧ Below w.heap.size w w' := by
 have HB := aM (Below.refl w.heap.size w)
 have H := h
 clear h; unfold impl_isWalk.f at H
 replace H := bC H; obtain ⟨t250, A2, H⟩ := H
 refine iB H ?_ ?_ <;> clear H <;> rintro rfl H
 ·obtain rfl := Option.some.inj H
  go_enter Tryd.func85, Tryd.ntmps85
  go_wp2_with (first | ((with_reducible refine gG 76 (some 4) rfl rfl ?_); refine gC Tryd.func76 (impl_IsState.calls a0 true _ A2.out) ?_; rintro w4 hb; replace HB := hS HB hb; clear hb))
  go_ret
  exact ⟨eW, bel HB⟩
 obtain rfl := Option.some.inj H
 go_enter Tryd.func85, Tryd.ntmps85
 go_wp2_with (first | ((with_reducible refine gG 76 (some 4) rfl rfl ?_); refine gC Tryd.func76 (impl_IsState.calls a0 false _ A2.out) ?_; rintro w5 hb; replace HB := hS HB hb; clear hb))
 go_ret
 exact ⟨eW, bel HB⟩

/-! ### impl_spread: function 105 -/
mutual
def impl_spread.l0 : Nat → Int → Int → List Int → Int → Int → Option (List Int)
 | 0, _, _, _, _, _ => none
 | k + 1, x2, x7, x8, x23, x24 => if x24 < x23 then (if 0 ≤ (wrap64 (x7 + 1)) then (if (wrap64 (x7 + 1) : Int).toNat ≤ 35184372088832 then (impl_spread.l1 k x2 x7 (List.replicate (wrap64 (x7 + 1) : Int).toNat 0) x23 x24 x8 (x8.length : Int) 0) else (none)) else (none)) else (some x8)
def impl_spread.l1 : Nat → Int → Int → List Int → Int → Int → List Int → Int → Int → Option (List Int)
 | 0, _, _, _, _, _, _, _, _ => none
 | k + 1, x2, x7, x9, x23, x24, x29, x30, x31 => if x31 < x30 then (if 0 ≤ x31 then (if x31 < (x29.length : Int) then (if x31 = 0 then (impl_spread.j2 k x2 x7 x9 x31 (rd x29 x31) x23 x24 x29 x30 x31 true) else (impl_spread.j2 k x2 x7 x9 x31 (rd x29 x31) x23 x24 x29 x30 x31 (x31 == x7))) else (none)) else (none)) else (impl_spread.l0 k x2 x7 x9 x23 (wrap64 (x24 + 1)))
def impl_spread.j2 : Nat → Int → Int → List Int → Int → Int → Int → Int → List Int → Int → Int → Bool → Option (List Int)
 | 0, _, _, _, _, _, _, _, _, _, _, _ => none
 | k + 1, x2, x7, x9, x10, x11, x23, x24, x29, x30, x31, x42 => if x42 = true then (impl_spread.j3 k x2 x7 x9 x10 (wrap64 (x11 * x2)) x23 x24 x29 x30 x31) else (impl_spread.j3 k x2 x7 x9 x10 x11 x23 x24 x29 x30 x31)
def impl_spread.j3 : Nat → Int → Int → List Int → Int → Int → Int → Int → List Int → Int → Int → Option (List Int)
 | 0, _, _, _, _, _, _, _, _, _, _ => none
 | k + 1, x2, x7, x9, x10, x11, x23, x24, x29, x30, x31 => if x10 > 0 then (if 0 ≤ (wrap64 (x10 - 1)) then (if (wrap64 (x10 - 1)) < (x9.length : Int) then ((some (x9.set ((wrap64 (x10 - 1)) : Int).toNat (wrap64 ((rd x9 (wrap64 (x10 - 1))) + x11)) : List Int)).bind fun y261 => (if x10 < x7 then (if 0 ≤ (wrap64 (x10 + 1)) then (if (wrap64 (x10 + 1)) < (x9.length : Int) then (impl_spread.l1 k x2 x7 (y261.set ((wrap64 (x10 + 1)) : Int).toNat (wrap64 ((rd y261 (wrap64 (x10 + 1))) + x11))) x23 x24 x29 x30 (wrap64 (x31 + 1))) else (none)) else (none)) else (impl_spread.l1 k x2 x7 y261 x23 x24 x29 x30 (wrap64 (x31 + 1))))) else (none)) else (none)) else (if x10 < x7 then (if 0 ≤ (wrap64 (x10 + 1)) then (if (wrap64 (x10 + 1)) < (x9.length : Int) then (impl_spread.l1 k x2 x7 (x9.set ((wrap64 (x10 + 1)) : Int).toNat (wrap64 ((rd x9 (wrap64 (x10 + 1))) + x11))) x23 x24 x29 x30 (wrap64 (x31 + 1))) else (none)) else (none)) else (impl_spread.l1 k x2 x7 x9 x23 x24 x29 x30 (wrap64 (x31 + 1))))
end
def impl_spread.f (k : Nat) (a0 : ByteArray) (a1 : Int) (a2 : Int) : Option (List Int) := if 0 ≤ (wrap64 ((wrap64 ((shl .i64 1 (a0.size : Int)) - 1)) + 1)) then (if (wrap64 ((wrap64 ((shl .i64 1 (a0.size : Int)) - 1)) + 1) : Int).toNat ≤ 35184372088832 then ((some (List.replicate (wrap64 ((wrap64 ((shl .i64 1 (a0.size : Int)) - 1)) + 1) : Int).toNat 0 : List Int)).bind fun y251 => ((impl_number.f k a0).bind fun t254 => (if 0 ≤ t254 then (if t254 < (y251.length : Int) then (impl_spread.l0 k a2 (wrap64 ((shl .i64 1 (a0.size : Int)) - 1)) (y251.set (t254 : Int).toNat 1) a1 0) else (none)) else (none)))) else (none)) else (none)
theorem impl_spread.mono_l : ∀ k, Mo (impl_spread.l0 k) (impl_spread.l0 (k + 1)) ∧ Mo (impl_spread.l1 k) (impl_spread.l1 (k + 1)) ∧ Mo (impl_spread.j2 k) (impl_spread.j2 (k + 1)) ∧ Mo (impl_spread.j3 k) (impl_spread.j3 (k + 1))
 | 0 => m0
 | k + 1 => by
  have ⟨ih0, ih1, ih2, ih3⟩ := impl_spread.mono_l k
  refine ⟨?_, ?_, ?_, ?_⟩ <;> (repeat refine mE fun _ => ?_) <;> first | (unfold impl_spread.l0; exact mG) | (unfold impl_spread.l1; exact mG) | (unfold impl_spread.j2; exact mG) | (unfold impl_spread.j3; exact mG)
instance impl_spread.mI (k : Nat) : Mo (impl_spread.f k) (impl_spread.f (k + 1)) := by
 have ⟨ih0, ih1, ih2, ih3⟩ := impl_spread.mono_l k
 (repeat refine mE fun _ => ?_); unfold impl_spread.f; exact mG
theorem impl_spread.mono : ∀ a0 a1 a2 k, LeO (impl_spread.f k a0 a1 a2) (impl_spread.f (k + 1) a0 a1 a2) := fun a0 a1 a2 k => (impl_spread.mI k).out a0 a1 a2
set_option maxHeartbeats 8000000 in
set_option maxRecDepth 100000 in
theorem impl_spread.calls (k : Nat) (a0 : ByteArray) (a1 : Int) (a2 : Int) (r : List Int) (w : World) (h : impl_spread.f k a0 a1 a2 = some r) :
  Calls Tryd.prog 105 #[.string a0, .int .i64 a1, .int .i64 a2] w fun e w' => ∃ v0_ : Value, e = .returned (v0_) ∧ Kd.R (Kd.int .i64) 3 w' w.heap.size (fun _ => True) v0_ r ∧ Below w.heap.size w w' := by
 have HB := aM (Below.refl w.heap.size w)
 have H := h
 clear h; unfold impl_spread.f at H
 obtain ⟨ji4, hji4⟩ := jN (shl .i64 1 (a0.size : Int))
 first | rw [hji4] at H | simp only [hji4] at H
 have hji4_ : (IntKind.i64.wrap (1 * 2 ^ min (a0.size : Int).toNat 64)) = ji4 := hji4
 have hji4z : (a0.size : Int) ≤ 64 → (IntKind.i64.wrap (1 * 2 ^ (a0.size : Int).toNat)) = ji4 := shl_small hji4
 have hji4u : (IntKind.i64.wrap (2 ^ min (a0.size : Int).toNat 64)) = ji4 := by have h_ := hji4_; rw [Int.one_mul] at h_; exact h_
 have hji4v : (a0.size : Int) ≤ 64 → (IntKind.i64.wrap (2 ^ (a0.size : Int).toNat)) = ji4 := fun hle_ => by have h_ := hji4z hle_; rw [Int.one_mul] at h_; exact h_
 have hji4y : (wrap64 (1 * 2 ^ min (a0.size : Int).toNat 64)) = ji4 := (i64_w _).symm.trans hji4_
 have hji4q : wrap64 (2 ^ min a0.size 64) = ji4 := by have h_ := hji4y; rw [Int.one_mul, Int.toNat_natCast] at h_; exact h_
 have hji4p : IntKind.i64.wrap (2 ^ min a0.size 64) = ji4 := by have h_ := hji4u; rw [Int.toNat_natCast] at h_; exact h_
 have hji4x : (a0.size : Int) ≤ 64 → (wrap64 (1 * 2 ^ (a0.size : Int).toNat)) = ji4 := fun h_ => (i64_w _).symm.trans (hji4z h_)
 obtain ⟨ji5, hji5⟩ := jN (wrap64 ((wrap64 ((ji4) - 1)) + 1))
 first | rw [hji5] at H | simp only [hji5] at H
 have hji5w : (IntKind.i64.wrap ((wrap64 ((ji4) - 1)) + 1)) = ji5 := (i64_w _).trans hji5
 refine iY H ?_; clear H; intro c6 H
 have c6b0 := eq_true c6
 have c6b1 := dT c6
 clear c6
 refine iY H ?_; clear H; intro c7 H
 have c7b0 := eq_true c7
 have c7b1 := dT c7
 clear c7
 replace H := yB H; obtain ⟨y251, Ny251, H⟩ := H
 replace H := bC H; obtain ⟨t254, A8, H⟩ := H
 refine iY H ?_; clear H; intro c9 H
 have c9b0 := dT c9
 clear c9
 refine iY H ?_; clear H; intro c10 H
 have c10b0 := dT c10
 clear c10
 obtain ⟨y255, Ny255⟩ := yN (y251.set (t254 : Int).toNat 1 : List Int); rw [← Ny255.out] at H
 have H' := aM H
 clear H
 go_enter Tryd.func105, Tryd.ntmps105
 go_wp2_with (first | ((with_reducible refine gate_dst (N := 18) rfl ?_); refine Kd.R_make (Kd.int .i64) _ 3 rfl (N := 18) rfl 43 _ _ rfl ji5 rfl rfl Tryd.underlying43 (.int .i64 0) 8 info3 rfl (by decide) (by omega) 0 (ok := fun _ => True) (okp := fun _ => True) rfl (fun _ hk => hk) trivial oD (Nat.le_trans (Nat.mul_le_mul_right _ (oD : ji5.toNat ≤ 35184372088832)) (by omega)) (Below.refl _ _) (Nat.le_refl _) ?_; intro v252 w12 ho13 hb hg_ hnew_; clear hg_ hnew_; (first | rw [← Ny251.out] at ho13 | (simp only [Int.reduceToNat] at ho13; rw [← Ny251.out] at ho13)); have HO253 := rL ho13 HB; replace HB := hS HB hb; clear hb ho13) | ((with_reducible refine gG 75 (some 21) rfl rfl ?_); refine gL Tryd.func75 #[.string a0] ?_; (with_reducible refine (impl_number.calls k a0 t254 _ A8.out).mono ?_); rintro e w' ⟨rfl, ⟨nd, rfl⟩⟩; refine ⟨_, rfl, ?_⟩; (try (rw [drewN_self w12]; generalize hq_ : World.drewN w12 _ = w12; have n0_ : Aside0 (Kd.R (Kd.int .i64) 3 w12 w.heap.size (fun _ => True) v252 y251) := ⟨by rw [← hq_]; exact (rU HO253.out)⟩; have n1_ : Aside0 (Below w.heap.size w w12) := ⟨by rw [← hq_]; exact (bel HB)⟩; clear HO253 HB hq_; have HO253 := n0_; have HB := n1_; clear n0_ n1_)); have p11 : 0 ≤ (t254 : Int) := oD; have q11 : (t254 : Int) < ((y251.length : Int) : Int) := oD; obtain ⟨go11, co11, eo11, gb11, gl11, cl11, HG11⟩ := Kd.R_form HO253.out (by omega); (first | cases eo11 | (injection eo11 with ea_ en_ ec_; (first | subst ea_ | (injection ea_ with ea_; subst ea_)); subst ec_; clear en_)); have GB11 := aM gb11; have GG11 := aM HG11; clear gb11 gl11 HG11; obtain ⟨hx11_0, hf11_0⟩ := Kd.R_celln 0 HO253.out (t254 : Int) p11 q11; replace p11 := eq_true p11; replace q11 := eq_true q11; obtain ⟨hy14_, hz14_⟩ := Kd.R_celln 0 HO253.out (t254 : Int) oD oD; have HP14 := Kd.R_putg HO253.out (t254 : Int) 1) | ((with_reducible refine gate_store (t := 3) (p := 22) rfl ?_); refine store_event (t := 3) (p := 22) (v := ?vo_w15) (w1 := (w12.setCell ⟨go11, (t254 : Int).toNat, none⟩ (.int .i64 1))) ?hg ?ho ?hn ?hr ?_; (case ho => rfl); (case hg => rfl); (case hn => rfl); (case hr => first | (go_simp; done) | (go_simp; rfl)); intro w15 hw; have hg : w12.grownBy w15 (some go11) := (by rw [hw]; exact HP14.2); have hp_ : Kd.R (Kd.int .i64) 3 w15 w.heap.size (fun _ => True) (.slice (some ⟨go11, 0, none⟩) y251.length co11) y255 := (by rw [hw, Ny255.out]; exact HP14.1); clear HP14; replace HO253 := aM (hp_); replace HB := aM ((by rw [hw]; exact below_set (HB.out) GB11.out : Below w.heap.size w w15)); clear hg hw hp_))
 go_loopg [8, 24] k (fun kq v8 v24 w' => ∃ (x8_1 : List Int) (x24_1 : Int), v24 = .int .i64 x24_1 ∧ Aside0 (impl_spread.l0 kq a2 (wrap64 ((ji4) - 1)) x8_1 a1 x24_1 = some r) ∧ Aside0 (kq ≤ k) ∧ Aside0 (Kd.R (Kd.int .i64) 3 w' w.heap.size (fun _ => True) v8 x8_1) ∧ Aside0 (Below w.heap.size w w'))
 case atStart => exact ⟨(y255), (0), rF, H', kR, ⟨rU HO253.out⟩, hV HB⟩
 case round =>
  clear H'
  try clear c6b0;try clear c6b1;try clear c7b0;try clear c7b1;try clear c9b0;try clear c10b0;try clear p11;try clear q11;try clear hx11_0
  obtain ⟨x8_1, x24_1, rfl, HA, HK1, HO_8, HB⟩ := hrel
  obtain rfl | ⟨k1, rfl⟩ := fz gk
  ·exact zA HA
  have H := HA.out
  clear HA
  simp only [impl_spread.l0] at H
  refine iI H ?_ ?_ <;> clear H <;> intro c16 H
  ·have c16b0 := dT c16
   clear c16
   obtain ⟨ji17, hji17⟩ := jN (wrap64 ((wrap64 ((ji4) - 1)) + 1))
   first | rw [hji17] at H | simp only [hji17] at H
   have hji17w : (IntKind.i64.wrap ((wrap64 ((ji4) - 1)) + 1)) = ji17 := (i64_w _).trans hji17
   try clear hji5w;try clear hji5
   refine iY H ?_; clear H; intro c18 H
   have c18b0 := eq_true c18
   have c18b1 := dT c18
   clear c18
   refine iY H ?_; clear H; intro c19 H
   have c19b0 := eq_true c19
   have c19b1 := dT c19
   clear c19
   obtain ⟨y256, Ny256⟩ := yN (List.replicate (ji17 : Int).toNat 0 : List Int); rw [← Ny256.out] at H
   have H' := aM H
   clear H
   go_wp2_with (first | ((with_reducible refine gate_dst (N := 28) rfl ?_); refine Kd.R_make (Kd.int .i64) _ 3 rfl (N := 28) rfl 43 _ _ rfl ji17 rfl rfl Tryd.underlying43 (.int .i64 0) 8 info3 rfl (by decide) (by omega) 0 (ok := fun _ => True) (okp := fun _ => True) rfl (fun _ hk => hk) trivial oD (Nat.le_trans (Nat.mul_le_mul_right _ (oD : ji17.toNat ≤ 35184372088832)) (by omega)) (Below.refl _ _) (Nat.le_refl _) ?_; intro v257 w20 ho21 hb hg_ hnew_; clear hg_ hnew_; (first | rw [← Ny256.out] at ho21 | (simp only [Int.reduceToNat] at ho21; rw [← Ny256.out] at ho21)); have HO258 := aM (Kd.R_lower (Kd.R_new' ho21 (Kd.R_lt (rU HO_8.out))) (below_size (bel HB))); replace HO_8 := aM (Kd.R_elder' (rU HO_8.out) (Kd.R_base ho21) hb); replace HB := hS HB hb; clear hb ho21; obtain ⟨Ao22, co22, eo22⟩ := Kd.R_slice HO_8.out; subst eo22))
   go_loopg [31] k1 (fun kq v31 w' => ∃ (x9_2 : List Int) (x31_2 : Int), v31 = .int .i64 x31_2 ∧ Aside0 (impl_spread.l1 kq a2 (wrap64 ((ji4) - 1)) x9_2 a1 x24_1 x8_1 (x8_1.length : Int) x31_2 = some r) ∧ Aside0 (kq ≤ k1) ∧ Aside0 (Kd.R (Kd.int .i64) 3 w' w.heap.size (fun k_ => some k_ ≠ ((.slice Ao22 x8_1.length co22) : Value).ownBlock) v257 x9_2) ∧ Aside0 (Kd.R (Kd.int .i64) 3 w' w.heap.size (fun k_ => some k_ ≠ (v257 : Value).ownBlock) (.slice Ao22 x8_1.length co22) x8_1) ∧ Aside0 (Below w.heap.size w w'))
   case atStart => exact ⟨(y256), (0), rF, H', kR, ⟨rU (Kd.R_mono HO258.out (fun _ hk => hk.2))⟩, ⟨rU (Kd.R_mono HO_8.out (fun _ hk => hk.2))⟩, hV HB⟩
   case round =>
    clear H'
    try clear c16b0;try clear c18b0;try clear c18b1;try clear c19b0;try clear c19b1
    obtain ⟨x9_2, x31_2, rfl, HA, HK2, HO_9, HO_29, HB⟩ := hrel
    obtain rfl | ⟨k2, rfl⟩ := fz gk
    ·exact zA HA
    have H := HA.out
    clear HA
    simp only [impl_spread.l1] at H
    refine iI H ?_ ?_ <;> clear H <;> intro c23 H
    ·have c23b0 := dT c23
     clear c23
     refine iY H ?_; clear H; intro c24 H
     have c24b0 := dT c24
     clear c24
     refine iY H ?_; clear H; intro c25 H
     have c25b0 := dT c25
     clear c25
     have HC26 := aM H
     clear H
     have p259 : 0 ≤ (x31_2 : Int) := oD
     have q259 : x31_2 < (x8_1.length : Int) := oD
     obtain ⟨ad259, e259, hx259_0⟩ := Kd.at_int (Kd.R_reads' HO_29.out).2.2 x31_2 p259 q259
     cases e259
     replace p259 := eq_true p259
     replace q259 := eq_true q259
     go_upto_region 10 with (fail)
     go_cut [42] (fun v42 wc => ∃ (kq : Nat) (x42_25 : Bool), v42 = .bool x42_25 ∧ Aside0 (impl_spread.j2 kq a2 (wrap64 ((ji4) - 1)) x9_2 x31_2 (rd x8_1 x31_2) a1 x24_1 x8_1 (x8_1.length : Int) x31_2 x42_25 = some r) ∧ Aside0 (kq ≤ k2) ∧ Aside0 (Kd.R (Kd.int .i64) 3 wc w.heap.size (fun k_ => some k_ ≠ ((.slice (some ad259) x8_1.length co22) : Value).ownBlock) v257 x9_2) ∧ Aside0 (Kd.R (Kd.int .i64) 3 wc w.heap.size (fun k_ => some k_ ≠ (v257 : Value).ownBlock) (.slice (some ad259) x8_1.length co22) x8_1) ∧ Aside0 (Below w.heap.size w wc))
     case first =>
      have H := HC26.out
      clear HC26
      refine iI H ?_ ?_ <;> clear H <;> intro c27 H
      ·have c27b0 := qT c27
       have c27b1 := nF c27
       clear c27
       (first | rw [c27b0] | (simp only [i64_w, i32_w]; rw [c27b0]) | skip)
       have H' := aM H
       clear H
       go_wp2
       go_meet
       case rel => exact ⟨_, (true), rF, H', ⟨by have := HK1.out; have := HK2.out; first | omega | exact Nat.le_refl _⟩, ⟨rU HO_9.out⟩, ⟨rU HO_29.out⟩, hV HB⟩
      have c27b0 := qF c27
      have c27b1 := nT c27
      (first | rw [c27b0] | (simp only [i64_w, i32_w]; rw [c27b0]) | skip)
      have H' := aM H
      clear H
      go_wp2
      go_meet
      case rel => exact ⟨_, ((x31_2 == (wrap64 ((ji4) - 1)))), (by first | rfl | (simp; done) | (simp only [← hji4] <;> (first | rfl | simp)) | (simp [*]; done)), H', ⟨by have := HK1.out; have := HK2.out; first | omega | exact Nat.le_refl _⟩, ⟨rU HO_9.out⟩, ⟨rU HO_29.out⟩, hV HB⟩
     case rest =>
      clear HC26
      try clear c23b0;try clear c24b0;try clear c25b0;try clear hx259_0;try clear p259;try clear q259
      obtain ⟨kq, x42_25, rfl, HA, HJ25, HO_9, HO_29, HB⟩ := hcut
      obtain rfl | ⟨kj25, rfl⟩ := fz kq
      ·exact zA HA
      have H := HA.out
      clear HA
      simp only [impl_spread.j2] at H
      have HC28 := aM H
      clear H
      go_upto_if 42 with (fail)
      go_cut [11] (fun v11 wc => ∃ (kq : Nat) (x11_27 : Int), v11 = .int .i64 x11_27 ∧ Aside0 (impl_spread.j3 kq a2 (wrap64 ((ji4) - 1)) x9_2 x31_2 x11_27 a1 x24_1 x8_1 (x8_1.length : Int) x31_2 = some r) ∧ Aside0 (kq ≤ kj25) ∧ Aside0 (Kd.R (Kd.int .i64) 3 wc w.heap.size (fun k_ => some k_ ≠ ((.slice (some ad259) x8_1.length co22) : Value).ownBlock) v257 x9_2) ∧ Aside0 (Kd.R (Kd.int .i64) 3 wc w.heap.size (fun k_ => some k_ ≠ (v257 : Value).ownBlock) (.slice (some ad259) x8_1.length co22) x8_1) ∧ Aside0 (Below w.heap.size w wc))
      case first =>
       have H := HC28.out
       clear HC28
       refine iB H ?_ ?_ <;> clear H <;> rintro rfl H
       ·have H' := aM H
        clear H
        go_wp2
        go_meet
        case rel => exact ⟨_, (wrap64 ((rd x8_1 x31_2) * a2)), rF, H', ⟨by have := HK1.out; have := HK2.out; have := HJ25.out; first | omega | exact Nat.le_refl _⟩, ⟨rU HO_9.out⟩, ⟨rU HO_29.out⟩, hV HB⟩
       have H' := aM H
       clear H
       go_wp2
       go_meet
       case rel => exact ⟨_, ((rd x8_1 x31_2)), rF, H', ⟨by have := HK1.out; have := HK2.out; have := HJ25.out; first | omega | exact Nat.le_refl _⟩, ⟨rU HO_9.out⟩, ⟨rU HO_29.out⟩, hV HB⟩
      case rest =>
       clear HC28
       obtain ⟨kq, x11_27, rfl, HA, HJ27, HO_9, HO_29, HB⟩ := hcut
       obtain rfl | ⟨kj27, rfl⟩ := fz kq
       ·exact zA HA
       have H := HA.out
       clear HA
       simp only [impl_spread.j3] at H
       refine iI H ?_ ?_ <;> clear H <;> intro c30 H
       ·have c30b0 := gT c30
        clear c30
        obtain ⟨ji31, hji31⟩ := jN (wrap64 (x31_2 - 1))
        first | rw [hji31] at H | simp only [hji31] at H
        have hji31w : (IntKind.i64.wrap (x31_2 - 1)) = ji31 := (i64_w _).trans hji31
        refine iY H ?_; clear H; intro c32 H
        have c32b0 := dT c32
        clear c32
        refine iY H ?_; clear H; intro c33 H
        have c33b0 := dT c33
        clear c33
        replace H := yB H; obtain ⟨y261, Ny261, H⟩ := H
        refine iI H ?_ ?_ <;> clear H <;> intro c35 H
        ·have c35b0 := dT c35
         clear c35
         obtain ⟨ji36, hji36⟩ := jN (wrap64 (x31_2 + 1))
         first | rw [hji36] at H | simp only [hji36] at H
         have hji36w : (IntKind.i64.wrap (x31_2 + 1)) = ji36 := (i64_w _).trans hji36
         refine iY H ?_; clear H; intro c37 H
         have c37b0 := dT c37
         clear c37
         refine iY H ?_; clear H; intro c38 H
         have c38b0 := dT c38
         clear c38
         obtain ⟨y263, Ny263⟩ := yN (y261.set ((ji36) : Int).toNat (wrap64 ((rd y261 (ji36)) + x11_27)) : List Int); rw [← Ny263.out] at H
         have H' := aM H
         clear H
         obtain ⟨Ao40, co40, eo40⟩ := Kd.R_slice HO_9.out
         subst eo40
         have p260 : 0 ≤ ((ji31) : Int) := oD
         have q260 : (ji31) < (x9_2.length : Int) := oD
         obtain ⟨ad260, e260, hx260_0⟩ := Kd.at_int (Kd.R_reads' HO_9.out).2.2 (ji31) p260 q260
         cases e260
         replace p260 := eq_true p260
         replace q260 := eq_true q260
         have p34 : 0 ≤ ((ji31) : Int) := oD
         have q34 : ((ji31) : Int) < ((x9_2.length : Int) : Int) := oD
         obtain ⟨go34, co34, eo34, gb34, gl34, cl34, HG34⟩ := Kd.R_form HO_9.out (by omega)
         (first | cases eo34 | (injection eo34 with ea_ en_ ec_; (first | subst ea_ | (injection ea_ with ea_; subst ea_)); subst ec_; clear en_))
         have GB34 := aM gb34
         have GG34 := aM HG34
         clear gb34 gl34 HG34
         (first | simp only [add_plain] at hx260_0 | skip)
         obtain ⟨hx34_0, hf34_0⟩ := Kd.R_celln 0 HO_9.out ((ji31) : Int) p34 q34
         replace p34 := eq_true p34
         replace q34 := eq_true q34
         have HP41 := Kd.R_putg HO_9.out ((ji31) : Int) (wrap64 ((rd x9_2 (ji31)) + x11_27))
         go_wp2_with (first | ((with_reducible refine gate_store (t := 3) (p := 55) rfl ?_); refine store_event (t := 3) (p := 55) (v := ?vo_w42) (w1 := (wc.setCell ⟨go34, ((ji31) : Int).toNat, none⟩ (.int .i64 (wrap64 ((rd x9_2 (ji31)) + x11_27))))) ?hg ?ho ?hn ?hr ?_; (case ho => rfl); (case hg => rfl); (case hn => rfl); (case hr => first | (go_simp; done) | (go_simp; rfl)); intro w42 hw; have hg : wc.grownBy w42 (some go34) := (by rw [hw]; exact HP41.2); have hp_ : Kd.R (Kd.int .i64) 3 w42 w.heap.size (fun k_ => some k_ ≠ (.slice (some ad259) x8_1.length co22 : Value).ownBlock) (.slice (some ⟨go34, 0, none⟩) x9_2.length co40) y261 := (by rw [hw, Ny261.out]; exact HP41.1); clear HP41; replace HO_9 := aM (hp_); replace HO_29 := aM (Kd.R_after (v := (.slice (some ⟨go34, 0, none⟩) x9_2.length co40)) (v1 := (.slice (some ⟨go34, 0, none⟩) x9_2.length co40)) (ok := (fun _ => True)) (rU (Kd.R_mono HO_29.out (fun _ hk => ⟨trivial, hk⟩))) hg (.inl rfl)); replace HB := aM ((by rw [hw]; exact below_set (HB.out) GB34.out : Below w.heap.size w w42)); clear hg hw hp_; have p262 : 0 ≤ ((ji36) : Int) := oD; have q262 : (ji36) < (y261.length : Int) := (by have h_ : ((ji36) : Int) < ((x9_2.length : Int) : Int) := oD; first | (have e_ := (Kd.R_reads' HO_9.out).1; omega) | simpa only [Ny261.out, List.length_set] using h_); have ql262 : (((ji36) : Int) < ((x9_2.length : Int) : Int)) = True := eq_true oD; obtain ⟨ad262, e262, hx262_0⟩ := Kd.at_int (Kd.R_reads' HO_9.out).2.2 (ji36) p262 q262; obtain rfl : (⟨go34, 0, none⟩ : Addr) = ad262 := (by injection e262); (first | simp only [add_plain] at hx262_0 | simp only [add_at] at hx262_0 | simp only [Addr.add, Nat.zero_add] at hx262_0 | skip); replace p262 := eq_true p262; replace q262 := eq_true q262; have p39 : 0 ≤ ((ji36) : Int) := oD; have q39 : ((ji36) : Int) < ((x9_2.length : Int) : Int) := oD; obtain ⟨hx39_0, hf39_0⟩ := Kd.R_celln 0 HO_9.out ((ji36) : Int) p39 q39; replace p39 := eq_true p39; replace q39 := eq_true q39; obtain ⟨hy43_, hz43_⟩ := Kd.R_celln 0 HO_9.out ((ji36) : Int) oD oD; have HP43 := Kd.R_putg HO_9.out ((ji36) : Int) (wrap64 ((rd y261 (ji36)) + x11_27))) | ((with_reducible refine gate_store (t := 3) (p := 66) rfl ?_); refine store_event (t := 3) (p := 66) (v := ?vo_w44) (w1 := (w42.setCell ⟨go34, ((ji36) : Int).toNat, none⟩ (.int .i64 (wrap64 ((rd y261 (ji36)) + x11_27))))) ?hg ?ho ?hn ?hr ?_; (case ho => rfl); (case hg => rfl); (case hn => rfl); (case hr => first | (go_simp; done) | (go_simp; rfl)); intro w44 hw; have hg : w42.grownBy w44 (some go34) := (by rw [hw]; exact HP43.2); have hp_ : Kd.R (Kd.int .i64) 3 w44 w.heap.size (fun k_ => some k_ ≠ (.slice (some ad259) x8_1.length co22 : Value).ownBlock) (.slice (some ⟨go34, 0, none⟩) x9_2.length co40) y263 := (by rw [hw, Ny263.out]; exact HP43.1); clear HP43; replace HO_9 := aM (hp_); replace HO_29 := aM (Kd.R_after (v := (.slice (some ⟨go34, 0, none⟩) x9_2.length co40)) (v1 := (.slice (some ⟨go34, 0, none⟩) x9_2.length co40)) (ok := (fun _ => True)) (rU HO_29.out) hg (.inl rfl)); replace HB := aM ((by rw [hw]; exact below_set (HB.out) GB34.out : Below w.heap.size w w44)); clear hg hw hp_))
         go_roundg kj27
         case measure => have := HK1.out; have := HK2.out; have := HJ25.out; have := HJ27.out; omega
         case rel => exact ⟨(y263), (ji36), (by first | rfl | (simp; done) | (simp only [← hji36] <;> (first | rfl | simp)) | (simp [*]; done)), H', ⟨by have := HK1.out; have := HK2.out; have := HJ25.out; have := HJ27.out; omega⟩, ⟨rU HO_9.out⟩, ⟨rU (Kd.R_mono HO_29.out (fun _ hk => hk.2))⟩, hV HB⟩
        have c35b0 := dF c35
        clear c35
        have H' := aM H
        clear H
        obtain ⟨Ao45, co45, eo45⟩ := Kd.R_slice HO_9.out
        subst eo45
        have p260 : 0 ≤ ((ji31) : Int) := oD
        have q260 : (ji31) < (x9_2.length : Int) := oD
        obtain ⟨ad260, e260, hx260_0⟩ := Kd.at_int (Kd.R_reads' HO_9.out).2.2 (ji31) p260 q260
        cases e260
        replace p260 := eq_true p260
        replace q260 := eq_true q260
        have p34 : 0 ≤ ((ji31) : Int) := oD
        have q34 : ((ji31) : Int) < ((x9_2.length : Int) : Int) := oD
        obtain ⟨go34, co34, eo34, gb34, gl34, cl34, HG34⟩ := Kd.R_form HO_9.out (by omega)
        (first | cases eo34 | (injection eo34 with ea_ en_ ec_; (first | subst ea_ | (injection ea_ with ea_; subst ea_)); subst ec_; clear en_))
        have GB34 := aM gb34
        have GG34 := aM HG34
        clear gb34 gl34 HG34
        (first | simp only [add_plain] at hx260_0 | skip)
        obtain ⟨hx34_0, hf34_0⟩ := Kd.R_celln 0 HO_9.out ((ji31) : Int) p34 q34
        replace p34 := eq_true p34
        replace q34 := eq_true q34
        have HP46 := Kd.R_putg HO_9.out ((ji31) : Int) (wrap64 ((rd x9_2 (ji31)) + x11_27))
        go_wp2_with (first | ((with_reducible refine gate_store (t := 3) (p := 55) rfl ?_); refine store_event (t := 3) (p := 55) (v := ?vo_w47) (w1 := (wc.setCell ⟨go34, ((ji31) : Int).toNat, none⟩ (.int .i64 (wrap64 ((rd x9_2 (ji31)) + x11_27))))) ?hg ?ho ?hn ?hr ?_; (case ho => rfl); (case hg => rfl); (case hn => rfl); (case hr => first | (go_simp; done) | (go_simp; rfl)); intro w47 hw; have hg : wc.grownBy w47 (some go34) := (by rw [hw]; exact HP46.2); have hp_ : Kd.R (Kd.int .i64) 3 w47 w.heap.size (fun k_ => some k_ ≠ (.slice (some ad259) x8_1.length co22 : Value).ownBlock) (.slice (some ⟨go34, 0, none⟩) x9_2.length co45) y261 := (by rw [hw, Ny261.out]; exact HP46.1); clear HP46; replace HO_9 := aM (hp_); replace HO_29 := aM (Kd.R_after (v := (.slice (some ⟨go34, 0, none⟩) x9_2.length co45)) (v1 := (.slice (some ⟨go34, 0, none⟩) x9_2.length co45)) (ok := (fun _ => True)) (rU (Kd.R_mono HO_29.out (fun _ hk => ⟨trivial, hk⟩))) hg (.inl rfl)); replace HB := aM ((by rw [hw]; exact below_set (HB.out) GB34.out : Below w.heap.size w w47)); clear hg hw hp_))
        go_roundg kj27
        case measure => have := HK1.out; have := HK2.out; have := HJ25.out; have := HJ27.out; omega
        case rel => exact ⟨(y261), (wrap64 (x31_2 + 1)), rF, H', ⟨by have := HK1.out; have := HK2.out; have := HJ25.out; have := HJ27.out; omega⟩, ⟨rU HO_9.out⟩, ⟨rU (Kd.R_mono HO_29.out (fun _ hk => hk.2))⟩, hV HB⟩
       have c30b0 := gF c30
       clear c30
       refine iI H ?_ ?_ <;> clear H <;> intro c48 H
       ·have c48b0 := dT c48
        clear c48
        obtain ⟨ji49, hji49⟩ := jN (wrap64 (x31_2 + 1))
        first | rw [hji49] at H | simp only [hji49] at H
        have hji49w : (IntKind.i64.wrap (x31_2 + 1)) = ji49 := (i64_w _).trans hji49
        refine iY H ?_; clear H; intro c50 H
        have c50b0 := dT c50
        clear c50
        refine iY H ?_; clear H; intro c51 H
        have c51b0 := dT c51
        clear c51
        obtain ⟨y265, Ny265⟩ := yN (x9_2.set ((ji49) : Int).toNat (wrap64 ((rd x9_2 (ji49)) + x11_27)) : List Int); rw [← Ny265.out] at H
        have H' := aM H
        clear H
        obtain ⟨Ao53, co53, eo53⟩ := Kd.R_slice HO_9.out
        subst eo53
        have p264 : 0 ≤ ((ji49) : Int) := oD
        have q264 : (ji49) < (x9_2.length : Int) := oD
        obtain ⟨ad264, e264, hx264_0⟩ := Kd.at_int (Kd.R_reads' HO_9.out).2.2 (ji49) p264 q264
        cases e264
        replace p264 := eq_true p264
        replace q264 := eq_true q264
        have p52 : 0 ≤ ((ji49) : Int) := oD
        have q52 : ((ji49) : Int) < ((x9_2.length : Int) : Int) := oD
        obtain ⟨go52, co52, eo52, gb52, gl52, cl52, HG52⟩ := Kd.R_form HO_9.out (by omega)
        (first | cases eo52 | (injection eo52 with ea_ en_ ec_; (first | subst ea_ | (injection ea_ with ea_; subst ea_)); subst ec_; clear en_))
        have GB52 := aM gb52
        have GG52 := aM HG52
        clear gb52 gl52 HG52
        (first | simp only [add_plain] at hx264_0 | skip)
        obtain ⟨hx52_0, hf52_0⟩ := Kd.R_celln 0 HO_9.out ((ji49) : Int) p52 q52
        replace p52 := eq_true p52
        replace q52 := eq_true q52
        have HP54 := Kd.R_putg HO_9.out ((ji49) : Int) (wrap64 ((rd x9_2 (ji49)) + x11_27))
        go_wp2_with (first | ((with_reducible refine gate_store (t := 3) (p := 66) rfl ?_); refine store_event (t := 3) (p := 66) (v := ?vo_w55) (w1 := (wc.setCell ⟨go52, ((ji49) : Int).toNat, none⟩ (.int .i64 (wrap64 ((rd x9_2 (ji49)) + x11_27))))) ?hg ?ho ?hn ?hr ?_; (case ho => rfl); (case hg => rfl); (case hn => rfl); (case hr => first | (go_simp; done) | (go_simp; rfl)); intro w55 hw; have hg : wc.grownBy w55 (some go52) := (by rw [hw]; exact HP54.2); have hp_ : Kd.R (Kd.int .i64) 3 w55 w.heap.size (fun k_ => some k_ ≠ (.slice (some ad259) x8_1.length co22 : Value).ownBlock) (.slice (some ⟨go52, 0, none⟩) x9_2.length co53) y265 := (by rw [hw, Ny265.out]; exact HP54.1); clear HP54; replace HO_9 := aM (hp_); replace HO_29 := aM (Kd.R_after (v := (.slice (some ⟨go52, 0, none⟩) x9_2.length co53)) (v1 := (.slice (some ⟨go52, 0, none⟩) x9_2.length co53)) (ok := (fun _ => True)) (rU (Kd.R_mono HO_29.out (fun _ hk => ⟨trivial, hk⟩))) hg (.inl rfl)); replace HB := aM ((by rw [hw]; exact below_set (HB.out) GB52.out : Below w.heap.size w w55)); clear hg hw hp_))
        go_roundg kj27
        case measure => have := HK1.out; have := HK2.out; have := HJ25.out; have := HJ27.out; omega
        case rel => exact ⟨(y265), (ji49), (by first | rfl | (simp; done) | (simp only [← hji49] <;> (first | rfl | simp)) | (simp [*]; done)), H', ⟨by have := HK1.out; have := HK2.out; have := HJ25.out; have := HJ27.out; omega⟩, ⟨rU HO_9.out⟩, ⟨rU (Kd.R_mono HO_29.out (fun _ hk => hk.2))⟩, hV HB⟩
       have c48b0 := dF c48
       clear c48
       have H' := aM H
       clear H
       go_wp2
       go_roundg kj27
       case measure => have := HK1.out; have := HK2.out; have := HJ25.out; have := HJ27.out; omega
       case rel => exact ⟨(x9_2), (wrap64 (x31_2 + 1)), rF, H', ⟨by have := HK1.out; have := HK2.out; have := HJ25.out; have := HJ27.out; omega⟩, ⟨rU HO_9.out⟩, ⟨rU HO_29.out⟩, hV HB⟩
    have c23b0 := dF c23
    clear c23
    have H' := aM H
    clear H
    go_wp2
    go_roundg k2
    case measure => have := HK1.out; have := HK2.out; omega
    case rel => exact ⟨(x9_2), (wrap64 (x24_1 + 1)), rF, H', ⟨by have := HK1.out; have := HK2.out; omega⟩, ⟨rU (Kd.R_mono HO_9.out (fun _ hk => trivial))⟩, hV HB⟩
  have c16b0 := dF c16
  clear c16
  obtain rfl := Option.some.inj H
  go_wp2
  go_ret
  exact ⟨_, by first | rfl | (simp [errW_none, errW_some] <;> rfl) | (simp only [← hji4, ← hji5]; first | rfl | (simp [errW_none, errW_some] <;> rfl)) | (simp [*, errW_none, errW_some] <;> rfl), rU HO_8.out, bel HB⟩

end Go.Proofs.YtcogjabdddikjaaDoor.PWMn
