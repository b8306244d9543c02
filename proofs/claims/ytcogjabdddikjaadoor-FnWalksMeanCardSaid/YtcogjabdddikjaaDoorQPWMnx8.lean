-- squeezed (sq3.py); PRINTED by drive.py (a program of this session's, over the kit's print.py; wip/tools/drive.py). Lean checks it.
import Derived.Test.YtcogjabdddikjaaDoorQPWMnx0
import Derived.Test.YtcogjabdddikjaaDoorQPWMnx2
import Derived.Test.YtcogjabdddikjaaDoorQPWMnx4
import Derived.Test.YtcogjabdddikjaaDoorQPWMnx5
import Derived.Test.YtcogjabdddikjaaDoorQPWMnx6
import Derived.Test.YtcogjabdddikjaaDoorQPWMnx7
import Derived.Test.YtcogjabdddikjaaDoorQSq
namespace Go.Proofs.YtcogjabdddikjaaDoor.PWMn
open Go.RowKit Go.Proofs.YtcogjabdddikjaaDoorW.PrintWords Go.Proofs.YtcogjabdddikjaaDoorW.PrintLast Go.Proofs.YtcogjabdddikjaaDoorW.PrintMore
attribute [local go_sem] max2_int min2_int max_two min_two max_three min_three max_four min_four   -- for this text's walks alone
set_option linter.unusedVariables false
set_option linter.unusedSimpArgs false

/-! ### spec_ChanceAfter: function 45 -/
def spec_ChanceAfter.f (k : Nat) (a0 : ByteArray) (a1 : ByteArray) (a2 : Int) : Option (Int × Int × Bool) := (spec_waSmall.f k a0 a1 a2).bind fun t324 => (if t324 = true then ((spec_waNumbers.f k a0 a1).bind fun bt325 => ((spec_waChances.f k bt325.1 bt325.2.2 a2).bind fun t328 => (if 0 ≤ bt325.2.1 then (if bt325.2.1 < (t328.length : Int) then (if 0 ≤ a2 then ((spec_waLow.f k (rd t328 bt325.2.1) (shl .i64 1 a2)).bind fun bt332 => (some (bt332.1, bt332.2, true))) else (none)) else (none)) else (none)))) else (some (0, 0, false)))
instance spec_ChanceAfter.mI (k : Nat) : Mo (spec_ChanceAfter.f k) (spec_ChanceAfter.f (k + 1)) := by
 (repeat refine mE fun _ => ?_); unfold spec_ChanceAfter.f; exact mG
theorem spec_ChanceAfter.mono : ∀ a0 a1 a2 k, LeO (spec_ChanceAfter.f k a0 a1 a2) (spec_ChanceAfter.f (k + 1) a0 a1 a2) := fun a0 a1 a2 k => (spec_ChanceAfter.mI k).out a0 a1 a2
set_option maxHeartbeats 8000000 in
set_option maxRecDepth 100000 in
theorem spec_ChanceAfter.calls (k : Nat) (a0 : ByteArray) (a1 : ByteArray) (a2 : Int) (r1 : Int) (r2 : Int) (r3 : Bool) (w : World) (h : spec_ChanceAfter.f k a0 a1 a2 = some (r1, r2, r3)) :
  Calls Tryd.prog 45 #[.string a0, .string a1, .int .i64 a2] w fun e w' => e = .returned (.tuple #[.int .i64 r1, .int .i64 r2, .bool r3]) ∧ Below w.heap.size w w' := by
 have HB := aM (Below.refl w.heap.size w)
 have H := h
 clear h; unfold spec_ChanceAfter.f at H
 replace H := bC H; obtain ⟨t324, A4, H⟩ := H
 refine iB H ?_ ?_ <;> clear H <;> rintro rfl H
 ·replace H := bC H; obtain ⟨⟨t325, t326, t327⟩, A6, H⟩ := H; try dsimp only at H
  replace H := bC H; obtain ⟨t328, A7, H⟩ := H
  refine iY H ?_; clear H; intro c8 H
  have c8b0 := dT c8
  clear c8
  refine iY H ?_; clear H; intro c9 H
  have c9b0 := dT c9
  clear c9
  refine iY H ?_; clear H; intro c10 H
  have c10b0 := eq_true c10
  have c10b1 := dT c10
  clear c10
  obtain ⟨ji11, hji11⟩ := jN (shl .i64 1 a2)
  first | rw [hji11] at H | simp only [hji11] at H
  (try rw [hji11] at A4)
  (try rw [hji11] at A6)
  (try rw [hji11] at A7)
  have hji11_ : (IntKind.i64.wrap (1 * 2 ^ min a2.toNat 64)) = ji11 := hji11
  have hji11z : a2 ≤ 64 → (IntKind.i64.wrap (1 * 2 ^ a2.toNat)) = ji11 := shl_small hji11
  have hji11u : (IntKind.i64.wrap (2 ^ min a2.toNat 64)) = ji11 := by have h_ := hji11_; rw [Int.one_mul] at h_; exact h_
  have hji11v : a2 ≤ 64 → (IntKind.i64.wrap (2 ^ a2.toNat)) = ji11 := fun hle_ => by have h_ := hji11z hle_; rw [Int.one_mul] at h_; exact h_
  have hji11y : (wrap64 (1 * 2 ^ min a2.toNat 64)) = ji11 := (i64_w _).symm.trans hji11_
  have hji11x : a2 ≤ 64 → (wrap64 (1 * 2 ^ a2.toNat)) = ji11 := fun h_ => (i64_w _).symm.trans (hji11z h_)
  replace H := bC H; obtain ⟨⟨t332, t333⟩, A12, H⟩ := H; try dsimp only at H
  simp only [Option.some.injEq, Prod.mk.injEq] at H
  obtain ⟨rfl, rfl, rfl⟩ := H
  go_enter Tryd.func45, Tryd.ntmps45
  try go_wp2_with (first | ((with_reducible refine gG 106 (some 17) rfl rfl ?_); refine gL Tryd.func106 #[.string a0, .string a1, .int .i64 a2] ?_; (with_reducible refine (spec_waSmall.calls k a0 a1 a2 true _ A4.out).mono ?_); rintro e w' ⟨rfl, ⟨nd, rfl⟩⟩; refine ⟨_, rfl, ?_⟩) | ((with_reducible refine gG 88 (some 22) rfl rfl ?_); refine gL Tryd.func88 #[.string a0, .string a1] ?_; (with_reducible refine (spec_waNumbers.calls k a0 a1 t325 t326 t327 _ A6.out).mono ?_); rintro e w' ⟨rfl, ⟨nd, rfl⟩⟩; refine ⟨_, rfl, ?_⟩))
  have pp331 : 0 ≤ (t326 : Int) := oD
  have qq331 : t326 < (t328.length : Int) := oD
  replace pp331 := eq_true pp331
  replace qq331 := eq_true qq331
  go_region_with (first | (go_at_call 108; refine (spec_waChances.calls k t325 t327 a2 t328 _ A7.out).mono ?_; rintro e w1_ ⟨v0_, rfl, hR_, hb_⟩; obtain ⟨Ao_, co_, eo_⟩ := Kd.R_slice hR_; subst eo_; obtain ⟨ad331, e331, hx331_0⟩ := Kd.at_int (Kd.R_reads' hR_).2.2 t326 (of_decide_eq_true (by assumption)) (of_decide_eq_true (by assumption)); cases e331; have HB1_ := aM (below_step (bel HB) hb_); clear HB; have HB := HB1_; clear HB1_; clear hR_ hb_) | (go_at_call 82; refine (spec_waLow.calls k (rd t328 t326) ji11 t332 t333 _ A12.out).mono ?_; rintro e w' ⟨rfl, ⟨nd, rfl⟩⟩))
  try go_wp2
  go_ret3
  exact ⟨by first | rfl | (simp [errW_none, errW_some] <;> rfl) | (simp only [← hji11]; first | rfl | (simp [errW_none, errW_some] <;> rfl)) | (simp [*, errW_none, errW_some] <;> rfl), bel HB⟩
 simp only [Option.some.injEq, Prod.mk.injEq] at H
 obtain ⟨rfl, rfl, rfl⟩ := H
 go_enter Tryd.func45, Tryd.ntmps45
 go_wp2_with (first | ((with_reducible refine gG 106 (some 17) rfl rfl ?_); refine gL Tryd.func106 #[.string a0, .string a1, .int .i64 a2] ?_; (with_reducible refine (spec_waSmall.calls k a0 a1 a2 false _ A4.out).mono ?_); rintro e w' ⟨rfl, ⟨nd, rfl⟩⟩; refine ⟨_, rfl, ?_⟩))
 go_ret3
 exact ⟨eW, bel HB⟩

/-! ### impl_state: function 86 -/
def impl_state.l0 : Nat → Int → List Int → Int → Int → Option (ByteArray)
 | 0, _, _, _, _ => none
 | k + 1, x5, x6, x15, x16 => if x16 < x15 then (if 0 ≤ x16 then (if x16 < (x6.length : Int) then (impl_state.l0 k x5 (x6.set (x16 : Int).toNat ((48 + ((Go.bits .and .i64 (shr .i64 x5 x16) 1) % 256)) % 256)) x15 (wrap64 (x16 + 1))) else (none)) else (none)) else (some (strOfNums x6))
def impl_state.f (k : Nat) (a0 : Int) (a1 : Int) : Option (ByteArray) := if 0 ≤ a0 then (if (a0 : Int).toNat ≤ 281474976710656 then ((some (List.replicate (a0 : Int).toNat 0 : List Int)).bind fun y334 => (impl_state.l0 k (Go.bits .xor .i64 a1 (wrap64 (Int.tdiv a1 2))) y334 (y334.length : Int) 0)) else (none)) else (none)
theorem impl_state.mono_l : ∀ k, Mo (impl_state.l0 k) (impl_state.l0 (k + 1))
 | 0 => m0
 | k + 1 => by
  have ih0 := impl_state.mono_l k
  (repeat refine mE fun _ => ?_) <;> first | (unfold impl_state.l0; exact mG)
instance impl_state.mI (k : Nat) : Mo (impl_state.f k) (impl_state.f (k + 1)) := by
 have ih0 := impl_state.mono_l k
 (repeat refine mE fun _ => ?_); unfold impl_state.f; exact mG
theorem impl_state.mono : ∀ a0 a1 k, LeO (impl_state.f k a0 a1) (impl_state.f (k + 1) a0 a1) := fun a0 a1 k => (impl_state.mI k).out a0 a1
set_option maxHeartbeats 8000000 in
set_option maxRecDepth 100000 in
theorem impl_state.calls (k : Nat) (a0 : Int) (a1 : Int) (r : ByteArray) (w : World) (h : impl_state.f k a0 a1 = some r) :
  Calls Tryd.prog 86 #[.int .i64 a0, .int .i64 a1] w fun e w' => e = .returned (.string r) ∧ Below w.heap.size w w' := by
 have HB := aM (Below.refl w.heap.size w)
 have H := h
 clear h; unfold impl_state.f at H
 refine iY H ?_; clear H; intro c3 H
 have c3b0 := eq_true c3
 have c3b1 := dT c3
 clear c3
 refine iY H ?_; clear H; intro c4 H
 have c4b0 := eq_true c4
 have c4b1 := dT c4
 clear c4
 replace H := yB H; obtain ⟨y334, Ny334, H⟩ := H
 have H' := aM H
 clear H
 go_enter Tryd.func86, Tryd.ntmps86
 go_wp2_with (first | ((with_reducible refine gate_dst (N := 13) rfl ?_); refine Kd.R_make (Kd.int .u8) _ 5 rfl (N := 13) rfl 22 _ _ rfl a0 rfl rfl Tryd.underlying22 (.int .u8 0) 1 info5 rfl (by decide) (by omega) 0 (ok := fun _ => True) (okp := fun _ => True) rfl (fun _ hk => hk) trivial oD (Nat.le_trans (Nat.mul_le_mul_right _ (oD : a0.toNat ≤ 281474976710656)) (by omega)) (Below.refl _ _) (Nat.le_refl _) ?_; intro v335 w5 ho6 hb hg_ hnew_; clear hg_ hnew_; (first | rw [← Ny334.out] at ho6 | (simp only [Int.reduceToNat] at ho6; rw [← Ny334.out] at ho6)); have HO336 := rL ho6 HB; replace HB := hS HB hb; clear hb ho6; obtain ⟨Ao7, co7, eo7⟩ := Kd.R_slice HO336.out; subst eo7))
 go_loopg [16] k (fun kq v16 w' => ∃ (x6_1 : List Int) (x16_1 : Int), v16 = .int .i64 x16_1 ∧ Aside0 (impl_state.l0 kq (Go.bits .xor .i64 a1 (wrap64 (Int.tdiv a1 2))) x6_1 (y334.length : Int) x16_1 = some r) ∧ Aside0 (kq ≤ k) ∧ Aside0 (Kd.R (Kd.int .u8) 5 w' w.heap.size (fun _ => True) (.slice Ao7 y334.length co7) x6_1) ∧ Aside0 (Below w.heap.size w w'))
 case atStart => exact ⟨(y334), (0), rF, H', kR, ⟨rU HO336.out⟩, hV HB⟩
 case round =>
  clear H'
  try clear c3b0;try clear c3b1;try clear c4b0;try clear c4b1
  obtain ⟨x6_1, x16_1, rfl, HA, HK1, HO_6, HB⟩ := hrel
  have hl6_1 := (Kd.R_reads' HO_6.out).1
  rw [hl6_1] at HO_6
  (try simp only [hl6_1])
  obtain rfl | ⟨k1, rfl⟩ := fz gk
  ·exact zA HA
  have H := HA.out
  clear HA
  simp only [impl_state.l0] at H
  refine iI H ?_ ?_ <;> clear H <;> intro c8 H
  ·have c8b0 := dT c8
   try (have c8l := c8b0; simp only [hl6_1] at c8l)
   clear c8
   refine iY H ?_; clear H; intro c9 H
   have c9b0 := eq_true c9
   have c9b1 := dT c9
   clear c9
   obtain ⟨ji10, hji10⟩ := jN (shr .i64 (Go.bits .xor .i64 a1 (wrap64 (Int.tdiv a1 2))) x16_1)
   first | rw [hji10] at H | simp only [hji10] at H
   have hji10_ : ((Go.bits .xor .i64 a1 (wrap64 (Int.tdiv a1 2))) / 2 ^ min x16_1.toNat 64) = ji10 := hji10
   have hji10z : x16_1 ≤ 64 → ((Go.bits .xor .i64 a1 (wrap64 (Int.tdiv a1 2))) / 2 ^ x16_1.toNat) = ji10 := shr_small hji10
   refine iY H ?_; clear H; intro c11 H
   have c11b0 := dT c11
   try (have c11l := c11b0; simp only [hl6_1] at c11l)
   clear c11
   obtain ⟨y337, Ny337⟩ := yN (x6_1.set (x16_1 : Int).toNat ((48 + ((Go.bits .and .i64 (ji10) 1) % 256)) % 256) : List Int); rw [← Ny337.out] at H
   have H' := aM H
   clear H
   have p12 : 0 ≤ (x16_1 : Int) := oD
   have q12 : (x16_1 : Int) < ((x6_1.length : Int) : Int) := oD
   obtain ⟨go12, co12, eo12, gb12, gl12, cl12, HG12⟩ := Kd.R_form HO_6.out (by omega)
   (first | cases eo12 | (injection eo12 with ea_ en_ ec_; (first | subst ea_ | (injection ea_ with ea_; subst ea_)); subst ec_; clear en_))
   have GB12 := aM gb12
   have GG12 := aM HG12
   clear gb12 gl12 HG12
   obtain ⟨hx12_0, hf12_0⟩ := Kd.R_celln 0 HO_6.out (x16_1 : Int) p12 q12
   replace p12 := eq_true p12
   replace q12 := eq_true q12
   have HP13 := Kd.R_putg HO_6.out (x16_1 : Int) ((48 + ((Go.bits .and .i64 (ji10) 1) % 256)) % 256)
   go_wp2_with (first | ((with_reducible refine gate_store (t := 5) (p := 27) rfl ?_); refine store_event (t := 5) (p := 27) (v := ?vo_w14) (w1 := (wr.setCell ⟨go12, (x16_1 : Int).toNat, none⟩ (.int .u8 ((48 + ((Go.bits .and .i64 (ji10) 1) % 256)) % 256)))) ?hg ?ho ?hn ?hr ?_; (case ho => rfl); (case hg => rfl); (case hn => rfl); (case hr => first | (go_simp; done) | (go_simp; rfl)); intro w14 hw; have hg : wr.grownBy w14 (some go12) := (by rw [hw]; exact HP13.2); have hp_ : Kd.R (Kd.int .u8) 5 w14 w.heap.size (fun _ => True) (.slice (some ⟨go12, 0, none⟩) x6_1.length co7) y337 := (by rw [hw, Ny337.out]; exact HP13.1); clear HP13; replace HO_6 := aM (hp_); replace HB := aM ((by rw [hw]; exact below_set (HB.out) GB12.out : Below w.heap.size w w14)); clear hg hw hp_))
   (try simp only [← hl6_1])
   go_roundg k1
   case measure => have := HK1.out; omega
   case rel => exact ⟨(y337), (wrap64 (x16_1 + 1)), rF, H', ⟨by have := HK1.out; omega⟩, ⟨by (try simp only [hl6_1]); (with_reducible repeat (first | apply Kd.R_alloc | apply Kd.R_drewN | apply Kd.R_drew)); exact HO_6.out⟩, hV HB⟩
  have c8b0 := dF c8
  try (have c8l := c8b0; simp only [hl6_1] at c8l)
  clear c8
  obtain rfl := Option.some.inj H
  try rw [hl6_1] at c8b0
  have hcv15 := own_string (P := Tryd.prog) Tryd.underlying22 Tryd.underlying5 Tryd.underlying9 (Kd.own_of_R HO_6.out)
  go_wp2
  go_ret
  exact ⟨eW, bel HB⟩

/-! ### impl_LikeliestAfter: function 46 -/
-- by hand (wip/ext/likeliest.tpl)
def impl_withNumbers.l0 (T : Int → Option Bool) : Nat → Int → List ByteArray → Int → Int → Option (List ByteArray)
 | 0, _, _, _, _ => none
 | k + 1, x0, x5, x8, x9 => if x9 < x8 then ((T x9).bind fun t178 => (if t178 = true then ((impl_state.f k x0 x9).bind fun t179 => (if x5.length < 8796093022208 then (impl_withNumbers.l0 T k x0 (x5 ++ [t179]) x8 (wrap64 (x9 + 1))) else (none))) else (impl_withNumbers.l0 T k x0 x5 x8 (wrap64 (x9 + 1))))) else (some x5)
def impl_withNumbers.f (T : Int → Option Bool) (k : Nat) (a0 : Int) : Option (List ByteArray) := if 0 ≤ a0 then (impl_withNumbers.l0 T k a0 ([] : List ByteArray) (shl .i64 1 a0) 0) else (none)
set_option maxHeartbeats 8000000 in
set_option maxRecDepth 100000 in
theorem impl_withNumbers.calls (T : Int → Option Bool) (F : FuncId) (fn : Func) (caps : Array Value) (k : Nat) (a0 : Int) (r : List ByteArray) (w : World) (HF : Aside0 (Tryd.prog.funcs[F]? = some fn ∧ (fn.name == "runtime.NumGoroutine") = false ∧ fn.body.isSome = true))
  (HT : Aside0 (∀ (n : Int) (t : Bool) (w1 : World), Below w.heap.size w w1 → T n = some t → Calls Tryd.prog F (#[.int .i64 n] ++ caps) w1 fun e w' => e = .returned (.bool t) ∧ Below w1.heap.size w1 w')) (h : impl_withNumbers.f T k a0 = some r) :
  Calls Tryd.prog 109 #[.int .i64 a0, .func (.func F) #[] caps] w fun e w' => ∃ v0_ : Value, e = .returned (v0_) ∧ Kd.R Kd.string 9 w' w.heap.size (fun _ => True) v0_ r ∧ Below w.heap.size w w' := by
 have HB := aM (Below.refl w.heap.size w)
 have H := h
 clear h; unfold impl_withNumbers.f at H
 refine iY H ?_; clear H; intro c3 H
 have c3b0 := eq_true c3
 have c3b1 := dT c3
 clear c3
 obtain ⟨ji4, hji4⟩ := jN (shl .i64 1 a0)
 first | rw [hji4] at H | simp only [hji4] at H
 have hji4_ : (IntKind.i64.wrap (1 * 2 ^ min a0.toNat 64)) = ji4 := hji4
 have hji4z : a0 ≤ 64 → (IntKind.i64.wrap (1 * 2 ^ a0.toNat)) = ji4 := shl_small hji4
 have hji4u : (IntKind.i64.wrap (2 ^ min a0.toNat 64)) = ji4 := by have h_ := hji4_; rw [Int.one_mul] at h_; exact h_
 have hji4v : a0 ≤ 64 → (IntKind.i64.wrap (2 ^ a0.toNat)) = ji4 := fun hle_ => by have h_ := hji4z hle_; rw [Int.one_mul] at h_; exact h_
 have hji4y : (wrap64 (1 * 2 ^ min a0.toNat 64)) = ji4 := (i64_w _).symm.trans hji4_
 have hji4x : a0 ≤ 64 → (wrap64 (1 * 2 ^ a0.toNat)) = ji4 := fun h_ => (i64_w _).symm.trans (hji4z h_)
 have H' := aM H
 clear H
 go_enter Tryd.func109, Tryd.ntmps109
 go_wp2
 go_loopg [5, 9] k (fun kq v5 v9 w' => ∃ (x5_1 : List ByteArray) (x9_1 : Int), v9 = .int .i64 x9_1 ∧ Aside0 (impl_withNumbers.l0 T kq a0 x5_1 ji4 x9_1 = some r) ∧ Aside0 (kq ≤ k) ∧ Aside0 (Kd.R Kd.string 9 w' w.heap.size (fun _ => True) v5 x5_1) ∧ Aside0 (Below w.heap.size w w'))
 case atStart => exact ⟨(([] : List ByteArray)), (0), rF, H', kR, ⟨by first | exact Kd.R_nil _ _ _ _ _ | exact Kd.N_nil _ _ _ _ _ | exact Kd.V_nil _ _ _ _ _ | exact Kd.Q_nil _ _ _ _ _ | exact Kd.S_nil _ _ _ _ _⟩, hV HB⟩
 case round =>
  clear H'
  try clear c3b0;try clear c3b1
  obtain ⟨x5_1, x9_1, rfl, HA, HK1, HO_5, HB⟩ := hrel
  obtain rfl | ⟨k1, rfl⟩ := fz gk
  ·exact zA HA
  have H := HA.out
  clear HA
  simp only [impl_withNumbers.l0] at H
  refine iI H ?_ ?_ <;> clear H <;> intro c5 H
  ·have c5b0 := dT c5
   clear c5
   replace H := bC H; obtain ⟨t178, A6, H⟩ := H
   refine iB H ?_ ?_ <;> clear H <;> rintro rfl H
   ·replace H := bC H; obtain ⟨t179, A8, H⟩ := H
    refine iY H ?_; clear H; intro c9 H
    have LMc9 := aM c9
    clear c9
    obtain ⟨y180, Ny180⟩ := yN (x5_1 ++ [t179] : List ByteArray); rw [← Ny180.out] at H
    have H' := aM H
    clear H
    go_wp2_with (first | ((with_reducible refine gate_dst (N := 14) rfl ?_); refine goesC_ (some 14) rfl rfl caps HF.out #[.int .i64 x9_1] rfl (by first | rfl | (go_simp; done)) (by (try simp only [List.map_toArray, List.map_cons, List.map_nil]); first | done | rfl | (simp only [List.length_drop, List.length_take]; rfl)) ?_; (with_reducible refine (HT.out x9_1 true _ (bel HB) A6.out).mono ?_); rintro e w10 ⟨rfl, hb⟩; refine ⟨_, rfl, ?_⟩; replace HO_5 := rB HO_5 hb; replace HB := hS HB hb; clear hb) | ((with_reducible refine gG 86 (some 18) rfl rfl ?_); refine gC Tryd.func86 (impl_state.calls k1 a0 x9_1 t179 _ A8.out) ?_; rintro w11 hb; replace HO_5 := rB HO_5 hb; replace HB := hS HB hb; clear hb) | ((with_reducible refine gate_builtin (b := .append) (xs := #[.tmp 15, .tmp 19]) rfl ?_); at_builtin; refine Kd.R_append Kd.string (w0 := w) w.heap.size rfl (.tmp 15) (.tmp 19) 26 9 (.string ⟨#[]⟩) 16 rfl Tryd.underlying26 info9 rfl (by decide) (by omega) u5 x5_1 t179 [.string t179] (fun _ => True) (fun _ => False) rfl rfl ?aP (fun _ hk => hk.elim) ?aF ?aO ?aB ?aS ?aL ?_; (case aP => exact rfl); (case aB => exact (bel HB)); (case aF => exact (fun _ _ => trivial)); (case aO => exact (rU HO_5.out)); (case aS => exact (below_size (bel HB))); (case aL => have := LMc9.out; omega); intro v181 w12 ho hb hg hat; rw [← Ny180.out] at ho; have HO182 := aM (ho); replace HB := aM (hb); clear HO_5; clear ho hb hg hat))
    go_roundg k1
    case measure => have := HK1.out; omega
    case rel => exact ⟨(y180), (wrap64 (x9_1 + 1)), rF, H', ⟨by have := HK1.out; omega⟩, ⟨rU HO182.out⟩, hV HB⟩
   have H' := aM H
   clear H
   go_wp2_with (first | ((with_reducible refine gate_dst (N := 14) rfl ?_); refine goesC_ (some 14) rfl rfl caps HF.out #[.int .i64 x9_1] rfl (by first | rfl | (go_simp; done)) (by (try simp only [List.map_toArray, List.map_cons, List.map_nil]); first | done | rfl | (simp only [List.length_drop, List.length_take]; rfl)) ?_; (with_reducible refine (HT.out x9_1 false _ (bel HB) A6.out).mono ?_); rintro e w13 ⟨rfl, hb⟩; refine ⟨_, rfl, ?_⟩; replace HO_5 := rB HO_5 hb; replace HB := hS HB hb; clear hb))
   go_roundg k1
   case measure => have := HK1.out; omega
   case rel => exact ⟨(x5_1), (wrap64 (x9_1 + 1)), rF, H', ⟨by have := HK1.out; omega⟩, ⟨rU HO_5.out⟩, hV HB⟩
  have c5b0 := dF c5
  clear c5
  obtain rfl := Option.some.inj H
  go_wp2
  go_ret
  exact ⟨_, by first | rfl | (simp [errW_none, errW_some] <;> rfl) | (simp only [← hji4]; first | rfl | (simp [errW_none, errW_some] <;> rfl)) | (simp [*, errW_none, errW_some] <;> rfl), rU HO_5.out, bel HB⟩

theorem impl_withNumbers.mono_l (T : Int → Option Bool) : ∀ k, (∀ y0 y1 y2 y3, LeO (impl_withNumbers.l0 T k y0 y1 y2 y3) (impl_withNumbers.l0 T (k + 1) y0 y1 y2 y3))
 | 0 => fun _ _ _ _ r h => by simp [impl_withNumbers.l0] at h
 | k + 1 => by
  have ih0 := impl_withNumbers.mono_l T k
  intro y0 y1 y2 y3
  unfold impl_withNumbers.l0
  repeat' first
   | (with_reducible exact ih0 _ _ _ _)
   | (with_reducible exact impl_state.mono _ _ _)
   | (with_reducible exact LeO.refl _)
   | (with_reducible exact LeO.none _)
   | (with_reducible refine LeO.ite ?_ ?_)
   | (with_reducible refine LeO.bind ?_ (fun _ => ?_))
   | exact ih0 _ _ _ _
   | exact LeO.none _
   | refine LeO.ite ?_ ?_
   | refine LeO.bind ?_ (fun _ => ?_)
theorem impl_withNumbers.mono (T : Int → Option Bool) : ∀ a0 k, LeO (impl_withNumbers.f T k a0) (impl_withNumbers.f T (k + 1) a0) := by
  intro a0 k
  unfold impl_withNumbers.f
  refine LeO.ite ?_ (LeO.none _)
  exact impl_withNumbers.mono_l T k _ _ _ _
instance impl_withNumbers.mI (T : Int → Option Bool) (k : Nat) : Mo (impl_withNumbers.f T k) (impl_withNumbers.f T (k + 1)) := ⟨fun a0 => impl_withNumbers.mono T a0 k⟩
/-- The greatest of some numbers, and 0. -/
def maxL (l : List Int) : Int := l.foldl (fun m x => if m < x then x else m) 0
theorem maxL_snoc (l : List Int) (x : Int) : maxL (l ++ [x]) = if maxL l < x then x else maxL l := by unfold maxL; rw [List.foldl_append]; rfl
/-- Is the number at a place just this one? -/
def takeAt (l : List Int) (m n : Int) : Option Bool := if 0 ≤ n ∧ n < (l.length : Int) then some (rd l n == m) else none
theorem impl_LikeliestAfter.f1 : Tryd.prog.funcs[110]? = some Tryd.f110 ∧ (Tryd.f110.name == "runtime.NumGoroutine") = false ∧ Tryd.f110.body.isSome = true := ⟨Tryd.func110, by kernel_rfl, rfl⟩
set_option maxHeartbeats 800000 in
theorem impl_LikeliestAfter.c1 (g1 g2 : Nat) (m n : Int) (A : Option Addr) (c : Nat) (l : List Int) (t : Bool) (w : World) (hg1 : w.cell? ⟨g1, 0, none⟩ = some (.slice A l.length c)) (hg2 : w.cell? ⟨g2, 0, none⟩ = some (.int .i64 m)) (hr : Kd.C (Kd.int .i64) w A l.length l) (ht : takeAt l m n = some t) :
    Calls Tryd.prog 110 #[.int .i64 n, .pointer (some ⟨g1, 0, none⟩), .pointer (some ⟨g2, 0, none⟩)] w fun e w' => e = .returned (.bool t) ∧ Below w.heap.size w w' := by
  unfold takeAt at ht
  split at ht
  case isFalse => cases ht
  case isTrue hc =>
  have hR := Option.some.inj ht
  clear ht
  obtain ⟨h0, h1⟩ := hc
  obtain ⟨ad, rfl, hx⟩ := Kd.at_int hr n h0 h1
  have p6 : (0 ≤ n) = True := eq_true h0
  have q6 : (n < (l.length : Int)) = True := eq_true h1
  have HR := aM hR
  clear hR h0 h1 hr
  go_enter Tryd.func110, Tryd.ntmps110
  go_wp2
  repeat (go_quiet (fail); try go_wp2)
  go_ret
  exact ⟨ret_bool HR.out, by repeat (first | exact Below.refl _ _ | apply pw_below_drewN | apply below_drew1)⟩
def impl_LikeliestAfter.f (k : Nat) (a0 : ByteArray) (a1 : Int) : Option (List ByteArray × Bool) := (impl_isWalk.f a0).bind fun b => (if b = true then (if inB a1 0 40 = true then ((impl_spread.f k a0 a1 2).bind fun l => ((impl_withNumbers.f (takeAt l (maxL l)) k (a0.size : Int)).bind fun r => (some (r, true)))) else (some ([], false))) else (some ([], false)))
instance impl_LikeliestAfter.mI (k : Nat) : Mo (impl_LikeliestAfter.f k) (impl_LikeliestAfter.f (k + 1)) := by
 (repeat refine mE fun _ => ?_); unfold impl_LikeliestAfter.f; exact mG
theorem impl_LikeliestAfter.mono : ∀ a0 a1 k, LeO (impl_LikeliestAfter.f k a0 a1) (impl_LikeliestAfter.f (k + 1) a0 a1) := fun a0 a1 k => (impl_LikeliestAfter.mI k).out a0 a1
set_option maxHeartbeats 1000000 in
set_option maxRecDepth 100000 in
theorem impl_LikeliestAfter.calls (k : Nat) (a0 : ByteArray) (a1 : Int) (r1 : List ByteArray) (r2 : Bool) (w : World) (h : impl_LikeliestAfter.f k a0 a1 = some (r1, r2)) :
    Calls Tryd.prog 46 #[.string a0, .int .i64 a1] w fun e w' => ∃ v0_ : Value, e = .returned (.tuple #[v0_, .bool r2]) ∧ Kd.R Kd.string 9 w' w.heap.size (fun _ => True) v0_ r1 ∧ Below w.heap.size w w' := by
 unfold impl_LikeliestAfter.f at h
 obtain ⟨b, hb, h⟩ := Option.bind_eq_some_iff.mp h
 have HI := aM (impl_in.calls a1 0 40 (inB a1 0 40) w (inB_ite a1 0 40))
 have HI' := aM (fun W => impl_in.calls a1 0 40 (inB a1 0 40) W (inB_ite a1 0 40))
 have HW := aM (fun W => impl_isWalk.calls a0 b W hb)
 clear hb HI
 have hmf : ∀ (fn : Fn) (first cap : Array Value) (w : World), (Instr.makeFunc fn first cap).run Tryd.prog w = .ok (.func fn first cap) w := fun _ _ _ _ => rfl
 cases b with
 | false =>
  simp only [Bool.false_eq_true, if_false, Option.some.injEq, Prod.mk.injEq] at h
  obtain ⟨rfl, rfl⟩ := h
  go_enter Tryd.func46, Tryd.ntmps46
  go_wp2_with (go_at_call 85; refine (HW.out _).mono ?_; rintro e w1 ⟨rfl, hq⟩; have HB := aM hq; clear hq)
  go_ret2
  exact ⟨_, rfl, Kd.R_nil _ _ _ _ _, HB.out⟩
 | true =>
  obtain ⟨c, hc⟩ : ∃ c, c = inB a1 0 40 := ⟨_, rfl⟩
  rw [← hc] at h HI'
  clear hc
  cases c with
  | false =>
   simp only [Bool.false_eq_true, if_false, if_true, Option.some.injEq, Prod.mk.injEq] at h
   obtain ⟨rfl, rfl⟩ := h
   go_enter Tryd.func46, Tryd.ntmps46
   go_wp2_with (first | (go_at_call 85; refine (HW.out _).mono ?_; rintro e w1 ⟨rfl, hq⟩; have HB := aM hq; clear hq) | (go_at_call 104; refine (HI'.out _).mono ?_; rintro e w2 ⟨rfl, hq⟩; have HB2 := aM (below_step HB.out (Drawn0.below hq)); clear hq))
   go_ret2
   exact ⟨_, rfl, Kd.R_nil _ _ _ _ _, HB2.out⟩
  | true =>
   simp only [if_true] at h
   obtain ⟨l, hl, h⟩ := Option.bind_eq_some_iff.mp h
   obtain ⟨r, hr, h⟩ := Option.bind_eq_some_iff.mp h
   simp only [Option.some.injEq, Prod.mk.injEq] at h
   obtain ⟨rfl, rfl⟩ := h
   have HS := aM (fun W => impl_spread.calls k a0 a1 2 l W hl)
   have HR := aM hr
   clear hl hr
   go_enter Tryd.func46, Tryd.ntmps46
   go_wp2_with (first | (go_at_call 85; refine (HW.out _).mono ?_; rintro e w1 ⟨rfl, hq⟩; have HB := aM hq; clear hq) | (go_at_call 104; refine (HI'.out _).mono ?_; rintro e w2 ⟨rfl, hq⟩; have HB2 := aM (below_step HB.out (Drawn0.below hq)); clear hq) | (go_at_call 105; refine (HS.out _).mono ?_; rintro e w3 ⟨v3, rfl, ho, hq⟩; have HB3 := aM (below_step HB2.out hq); obtain ⟨A3, c3, eo⟩ := Kd.R_slice ho; subst eo; have HC := aM (Kd.R_reads' ho).2.2; clear ho hq))
   have BK6 := aM (show ((w3.alloc (.cells #[.slice A3 l.length c3] 43)).alloc (.cells #[.int .i64 0] 3)).heap[w3.heap.size]? = some (.cells #[.slice A3 l.length c3] 43 (0, 0)) from blk_alloc (blk_new _ _) _)
   have BK7 := aM (show ((w3.alloc (.cells #[.slice A3 l.length c3] 43)).alloc (.cells #[.int .i64 0] 3)).heap[w3.heap.size + 1]? = some (.cells #[.int .i64 (maxL (l.take 0))] 3 (0, 0)) from by
    have h5 := blk_new (w3.alloc (.cells #[.slice A3 l.length c3] 43)) (.cells #[.int .i64 0] 3)
    have h6 : (w3.alloc (.cells #[.slice A3 l.length c3] 43)).heap.size = w3.heap.size + 1 := by simp
    rw [h6] at h5
    exact h5)
   have HBB := aM (show Below w3.heap.size w3 ((w3.alloc (.cells #[.slice A3 l.length c3] 43)).alloc (.cells #[.int .i64 0] 3)) from below_alloc (below_alloc (Below.refl _ _) _) _)
   obtain ⟨B, hB⟩ : ∃ B, B = w3.heap.size := ⟨_, rfl⟩
   rw [← hB] at BK6 BK7 ⊢
   have HBW := aM (show w3.heap.size ≤ B from by omega)
   clear hB
   generalize (w3.alloc (.cells #[.slice A3 l.length c3] 43)).alloc (.cells #[.int .i64 0] 3) = W0 at BK6 BK7 HBB ⊢
   go_loopg [23] l.length (fun gg v23 w' => ∃ q : Nat, q + gg = l.length ∧ v23 = .int .i64 q ∧ Aside0 (w'.heap[B + 1]? = some (.cells #[.int .i64 (maxL (l.take q))] 3 (0, 0))) ∧ Aside0 (w'.heap[B]? = some (.cells #[.slice A3 l.length c3] 43 (0, 0))) ∧ Aside0 (Below w3.heap.size w3 w'))
   case atStart => exact ⟨0, by omega, rfl, BK7, BK6, HBB⟩
   case round =>
    clear BK6 BK7 HBB
    obtain ⟨q, hqs, rfl, BK7, BK6, HBB⟩ := hrel
    by_cases hlt : q < l.length
    ·obtain ⟨ad, e3, hx0⟩ := Kd.at_int HC.out (q : Int) (by omega) (by omega)
     subst e3
     have hll := HC.out.2.1
     simp only [Int.toNat_natCast] at hx0
     replace hx0 := (HBB.out.cell (World.block_lt_of_cell? w3 _ hx0)).trans hx0
     have ex : rd l (q : Int) = l[q] := by simp [rd, hlt]
     rw [ex] at hx0
     clear ex
     have hc7 := (blk_cell BK7.out 0).trans rfl
     have hf7 := blk_frozen BK7.out 0
     have HTK := aM (show maxL (l.take (q + 1)) = if maxL (l.take q) < l[q] then l[q] else maxL (l.take q) by rw [List.take_succ_eq_append_getElem hlt, maxL_snoc])
     obtain ⟨x, hx⟩ : ∃ x, x = l[q] := ⟨_, rfl⟩
     rw [← hx] at hx0 HTK
     obtain ⟨m, hm⟩ : ∃ m, m = maxL (l.take q) := ⟨_, rfl⟩
     rw [← hm] at hc7 HTK BK7
     clear hx hm
     go_wp2
     ·have hmx : m < x := by assumption
      go_roundg (l.length - (q + 1))
      case measure => omega
      case rel => exact ⟨q + 1, by omega, by go_num, ⟨by rw [HTK.out, if_pos hmx]; exact blk_put BK7.out 0 _ rfl⟩, ⟨blk_far BK6.out (by simp) _⟩, ⟨below_setCell HBB.out (B + 1) 0 _ (by have := HBW.out; omega)⟩⟩
     have hmx : x ≤ m := by assumption
     go_roundg (l.length - (q + 1))
     case measure => omega
     case rel => exact ⟨q + 1, by omega, by go_num, ⟨by rw [HTK.out, if_neg (by omega)]; exact blk_put BK7.out 0 _ rfl⟩, ⟨blk_far BK6.out (by simp) _⟩, ⟨below_setCell HBB.out (B + 1) 0 _ (by have := HBW.out; omega)⟩⟩
    have hqn : q = l.length := by omega
    rw [List.take_of_length_le (by omega)] at BK7
    have hc7 := (blk_cell BK7.out 0).trans rfl
    have hc6 := (blk_cell BK6.out 0).trans rfl
    have HC6 := aM hc6
    have HC7 := aM hc7
    clear hc6 hc7
    go_wp2_with (go_at_call 109; refine (impl_withNumbers.calls (takeAt l (maxL l)) 110 Tryd.f110 #[.pointer (some ⟨B, 0, none⟩), .pointer (some ⟨B + 1, 0, none⟩)] k (a0.size : Int) r _ ⟨impl_LikeliestAfter.f1⟩ ⟨fun n t w1 hb1 ht => impl_LikeliestAfter.c1 B (B + 1) (maxL l) n A3 c3 l t w1 ((hb1.cell (World.block_lt_of_cell? _ _ HC6.out)).trans HC6.out) ((hb1.cell (World.block_lt_of_cell? _ _ HC7.out)).trans HC7.out) (Kd.C_below HC.out (below_step HBB.out hb1)) ht⟩ HR.out).mono ?_; rintro e w5 ⟨v, rfl, hR, hq⟩; have HRR := aM (Kd.R_lower hR (below_size (below_step HB3.out HBB.out))); have HB9 := aM (below_step (below_step HB3.out HBB.out) hq); clear hR hq)
    go_ret2
    exact ⟨_, rfl, HRR.out, HB9.out⟩

/-! ### spec_riState: function 74 -/
def spec_riState.l0 : Nat → Int → Int → ByteArray → Int → Option (ByteArray)
 | 0, _, _, _, _ => none
 | k + 1, x0, x1, x5, x6 => if x6 < x0 then (if 0 ≤ x6 then (if 0 ≤ (wrap64 (x6 + 1)) then (if (Go.bits .and .i64 (shr .i64 x1 x6) 1) = (Go.bits .and .i64 (shr .i64 x1 (wrap64 (x6 + 1))) 1) then (if x5.size + 1 ≤ 9223372036854775807 then (spec_riState.l0 k x0 x1 (x5 ++ (⟨#[48]⟩ : ByteArray)) (wrap64 (x6 + 1))) else (none)) else (if x5.size + 1 ≤ 9223372036854775807 then (spec_riState.l0 k x0 x1 (x5 ++ (⟨#[49]⟩ : ByteArray)) (wrap64 (x6 + 1))) else (none))) else (none)) else (none)) else (some x5)
def spec_riState.f (k : Nat) (a0 : Int) (a1 : Int) : Option (ByteArray) := spec_riState.l0 k a0 a1 (⟨#[]⟩ : ByteArray) 0
theorem spec_riState.mono_l : ∀ k, Mo (spec_riState.l0 k) (spec_riState.l0 (k + 1))
 | 0 => m0
 | k + 1 => by
  have ih0 := spec_riState.mono_l k
  (repeat refine mE fun _ => ?_) <;> first | (unfold spec_riState.l0; exact mG)
instance spec_riState.mI (k : Nat) : Mo (spec_riState.f k) (spec_riState.f (k + 1)) := by
 have ih0 := spec_riState.mono_l k
 (repeat refine mE fun _ => ?_); unfold spec_riState.f; exact mG
theorem spec_riState.mono : ∀ a0 a1 k, LeO (spec_riState.f k a0 a1) (spec_riState.f (k + 1) a0 a1) := fun a0 a1 k => (spec_riState.mI k).out a0 a1
set_option maxHeartbeats 8000000 in
set_option maxRecDepth 100000 in
theorem spec_riState.calls (k : Nat) (a0 : Int) (a1 : Int) (r : ByteArray) (w : World) (h : spec_riState.f k a0 a1 = some r) :
  Calls Tryd.prog 74 #[.int .i64 a0, .int .i64 a1] w fun e w' => e = .returned (.string r) ∧ Drawn0 w w' := by
 have H := h
 clear h; unfold spec_riState.f at H
 have H' := aM H
 clear H
 go_enter Tryd.func74, Tryd.ntmps74
 go_wp2
 repeat (go_quiet (fail); try go_wp2)
 go_loopg [5, 6] k (fun kq v5 v6 w' => ∃ (x5_1 : ByteArray) (x6_1 : Int), v5 = .string x5_1 ∧ v6 = .int .i64 x6_1 ∧ Aside0 (spec_riState.l0 kq a0 a1 x5_1 x6_1 = some r) ∧ Aside0 (kq ≤ k) ∧ Drawn0 w w')
 case atStart => exact ⟨((⟨#[]⟩ : ByteArray)), (0), rF, rF, H', kR, d0⟩
 case round =>
  clear H'
  obtain ⟨x5_1, x6_1, rfl, rfl, HA, HK1, ⟨m1, rfl⟩⟩ := hrel
  obtain rfl | ⟨k1, rfl⟩ := fz gk
  ·exact zA HA
  have H := HA.out
  clear HA
  simp only [spec_riState.l0] at H
  refine iI H ?_ ?_ <;> clear H <;> intro c3 H
  ·have c3b0 := dT c3
   clear c3
   refine iY H ?_; clear H; intro c4 H
   have c4b0 := eq_true c4
   have c4b1 := dT c4
   clear c4
   obtain ⟨ji5, hji5⟩ := jN (shr .i64 a1 x6_1)
   first | rw [hji5] at H | simp only [hji5] at H
   have hji5_ : (a1 / 2 ^ min x6_1.toNat 64) = ji5 := hji5
   have hji5z : x6_1 ≤ 64 → (a1 / 2 ^ x6_1.toNat) = ji5 := shr_small hji5
   obtain ⟨ji6, hji6⟩ := jN (wrap64 (x6_1 + 1))
   first | rw [hji6] at H | simp only [hji6] at H
   have hji6w : (IntKind.i64.wrap (x6_1 + 1)) = ji6 := (i64_w _).trans hji6
   refine iY H ?_; clear H; intro c7 H
   have c7b0 := eq_true c7
   have c7b1 := dT c7
   clear c7
   obtain ⟨ji8, hji8⟩ := jN (shr .i64 a1 (ji6))
   first | rw [hji8] at H | simp only [hji8] at H
   have hji8_ : (a1 / 2 ^ min (ji6).toNat 64) = ji8 := hji8
   have hji8z : (ji6) ≤ 64 → (a1 / 2 ^ (ji6).toNat) = ji8 := shr_small hji8
   refine iI H ?_ ?_ <;> clear H <;> intro c9 H
   ·have c9b0 := qT c9
    have c9b1 := nF c9
    clear c9
    refine iY H ?_; clear H; intro c10 H
    have c10b0 := eq_true c10
    have c10b1 := dT c10
    try have c10b2 : (9223372036854775807 < x5_1.size + 1) = False := eq_false (Nat.not_lt.2 c10)
    have H' := aM H
    clear H
    go_wp2
    repeat (go_quiet (fail); try go_wp2)
    go_roundg k1
    case measure => have := HK1.out; omega
    case rel => exact ⟨(x5_1 ++ (⟨#[48]⟩ : ByteArray)), (ji6), rF, (by first | rfl | (simp; done) | (simp only [← hji6] <;> (first | rfl | simp)) | (simp [*]; done)), H', ⟨by have := HK1.out; omega⟩, d0⟩
   have c9b0 := qF c9
   have c9b1 := nT c9
   refine iY H ?_; clear H; intro c11 H
   have c11b0 := eq_true c11
   have c11b1 := dT c11
   try have c11b2 : (9223372036854775807 < x5_1.size + 1) = False := eq_false (Nat.not_lt.2 c11)
   have H' := aM H
   clear H
   go_wp2
   repeat (go_quiet (fail); try go_wp2)
   go_roundg k1
   case measure => have := HK1.out; omega
   case rel => exact ⟨(x5_1 ++ (⟨#[49]⟩ : ByteArray)), (ji6), rF, (by first | rfl | (simp; done) | (simp only [← hji6] <;> (first | rfl | simp)) | (simp [*]; done)), H', ⟨by have := HK1.out; omega⟩, d0⟩
  have c3b0 := dF c3
  clear c3
  obtain rfl := Option.some.inj H
  go_wp2
  repeat (go_quiet (fail); try go_wp2)
  go_ret
  exact ⟨rF, d0⟩

end Go.Proofs.YtcogjabdddikjaaDoor.PWMn
