-- squeezed; PRINTED by drive.py (a program of this session's, over the kit's print.py; wip/tools/drive.py). Lean checks it.
import Derived.Test.YtcogjabdddikjaaDoorQPSCntx0
import Derived.Test.YtcogjabdddikjaaDoorQPSCntx1
import Derived.Test.YtcogjabdddikjaaDoorQPSCntx2
import Derived.Test.YtcogjabdddikjaaDoorQPSCntx3
import Derived.Test.YtcogjabdddikjaaDoorQPSCntx4
import Derived.Test.YtcogjabdddikjaaDoorQPSCntx5
import Derived.Test.YtcogjabdddikjaaDoorQPSCntx6
import Derived.Test.YtcogjabdddikjaaDoorQPSCntx7
import Derived.Test.YtcogjabdddikjaaDoorQUp
import Derived.Test.YtcogjabdddikjaaDoorQSq
namespace Go.Proofs.YtcogjabdddikjaaDoor.PSCnt
open Go.RowKit Go.Proofs.YtcogjabdddikjaaDoorW.PrintWords Go.Proofs.YtcogjabdddikjaaDoorW.PrintLast Go.Proofs.YtcogjabdddikjaaDoorW.PrintMore
attribute [local go_sem] max2_int min2_int max_two min_two max_three min_three max_four min_four   -- for this text's walks alone
set_option linter.unusedVariables false
set_option linter.unusedSimpArgs false

set_option maxHeartbeats 8000000 in
set_option maxRecDepth 100000 in
theorem laws_FnStatesCounted.calls (k : Nat) (A0 : Option Addr) (c0 : Nat) (l0 : List Int) (A1 : Option Addr) (c1 : Nat) (l1 : List Int) (r : Bool) (w : World) (hr0 : Kd.C (Kd.int .u8) w A0 l0.length l0) (hc0 : l0.length ≤ c0) (hr1 : Kd.C (Kd.int .u8) w A1 l1.length l1) (hc1 : l1.length ≤ c1) (h : laws_FnStatesCounted.f k l0 l1 = some r) :
  Calls Tryd.prog 3 #[.slice A0 l0.length c0, .slice A1 l1.length c1] w fun e w' => e = .returned (.bool r) ∧ Below w.heap.size w w' := by
 have HR0 := aM hr0
 have HC0 := aM hc0
 clear hr0 hc0
 have HR1 := aM hr1
 have HC1 := aM hc1
 clear hr1 hc1
 have HB := aM (Below.refl w.heap.size w)
 have H := h
 clear h; unfold laws_FnStatesCounted.f at H
 replace H := bC H; obtain ⟨t321, A3, H⟩ := H
 refine iB H ?_ ?_ <;> clear H <;> rintro rfl H
 ·obtain rfl := Option.some.inj H
  go_enter Tryd.func3, Tryd.ntmps3
  go_wp2_with (first | ((with_reducible refine gG 6 (some 78) rfl rfl ?_); refine gL Tryd.func6 #[.slice A0 l0.length c0, .slice A1 l1.length c1] ?_; (with_reducible refine (laws_big.calls _ _ l0 _ _ l1 true _ (cU HR0.out) HC0.out (cU HR1.out) HC1.out A3.out).mono ?_); rintro e w' ⟨rfl, ⟨nd, rfl⟩⟩; refine ⟨_, rfl, ?_⟩))
  go_ret
  exact ⟨eW, bel HB⟩
 replace H := bC H; obtain ⟨⟨t322, t323⟩, A5, H⟩ := H; try dsimp only at H
 replace H := bC H; obtain ⟨⟨t324, t325⟩, A6, H⟩ := H; try dsimp only at H
 replace H := bC H; obtain ⟨⟨t328, t329⟩, A7, H⟩ := H; try dsimp only at H
 replace H := bC H; obtain ⟨⟨t332, t333⟩, A8, H⟩ := H; try dsimp only at H
 replace H := bC H; obtain ⟨⟨t334, t335⟩, A9, H⟩ := H; try dsimp only at H
 replace H := bC H; obtain ⟨⟨t336, t337⟩, A10, H⟩ := H; try dsimp only at H
 replace H := bC H; obtain ⟨⟨t338, t339⟩, A11, H⟩ := H; try dsimp only at H
 replace H := bC H; obtain ⟨⟨t340, t341⟩, A12, H⟩ := H; try dsimp only at H
 replace H := bC H; obtain ⟨⟨t342, t343⟩, A13, H⟩ := H; try dsimp only at H
 replace H := bC H; obtain ⟨⟨t344, t345⟩, A14, H⟩ := H; try dsimp only at H
 replace H := bC H; obtain ⟨⟨t346, t347⟩, A15, H⟩ := H; try dsimp only at H
 have HC16 := aM H
 clear H
 go_enter Tryd.func3, Tryd.ntmps3
 go_upto_region 14 with (first | ((with_reducible refine gG 6 (some 78) rfl rfl ?_); refine gL Tryd.func6 #[.slice A0 l0.length c0, .slice A1 l1.length c1] ?_; (with_reducible refine (laws_big.calls _ _ l0 _ _ l1 false _ (cU HR0.out) HC0.out (cU HR1.out) HC1.out A3.out).mono ?_); rintro e w' ⟨rfl, ⟨nd, rfl⟩⟩; refine ⟨_, rfl, ?_⟩) | ((with_reducible refine gG 7 (some 81) rfl rfl ?_); refine gC Tryd.func7 (spec_DrawStatesWithOn.calls _ _ l0 t322 t323 _ (cU HR0.out) HC0.out A5.out) ?_; rintro w17 hb; replace HB := hS HB hb; clear hb) | ((with_reducible refine gG 8 (some 87) rfl rfl ?_); refine gD Tryd.func8 (impl_StatesWithOn.calls k t322 t323 t324 t325 _ A6.out) ?_; rintro w18 v326 ⟨ho0, hb⟩; have HO327 := rL ho0 HB; replace HB := hS HB hb; clear hb ho0) | ((with_reducible refine gG 9 (some 93) rfl rfl ?_); refine gD Tryd.func9 (spec_StatesWithOn.calls k t322 t323 t328 t329 _ A7.out) ?_; rintro w19 v330 ⟨ho0, hb⟩; have HO331 := aM (Kd.R_lower (Kd.R_new' ho0 (Kd.R_lt (rU HO327.out))) (below_size (bel HB))); replace HO327 := aM (Kd.R_elder' (rU HO327.out) (Kd.R_base ho0) hb); replace HB := hS HB hb; clear hb ho0) | ((with_reducible refine gG 10 (some 99) rfl rfl ?_); refine gL Tryd.func10 #[.int .i64 t322, .int .i64 t323] ?_; (with_reducible refine (impl_CountWithOn.calls k t322 t323 t332 t333 _ A8.out).mono ?_); rintro e w' ⟨rfl, ⟨nd, rfl⟩⟩; refine ⟨_, rfl, ?_⟩) | ((with_reducible refine gG 11 (some 105) rfl rfl ?_); refine gC Tryd.func11 (spec_CountWithOn.calls k t322 t323 t334 t335 _ A9.out) ?_; rintro w20 hb; replace HO327 := rB HO327 hb; replace HO331 := rB HO331 hb; replace HB := hS HB hb; clear hb) | ((with_reducible refine gG 12 (some 111) rfl rfl ?_); refine gC Tryd.func12 (impl_LeastWithOn.calls k t322 t323 t336 t337 _ A10.out) ?_; rintro w21 hb; replace HO327 := rB HO327 hb; replace HO331 := rB HO331 hb; replace HB := hS HB hb; clear hb) | ((with_reducible refine gG 13 (some 117) rfl rfl ?_); refine gC Tryd.func13 (spec_LeastWithOn.calls k t322 t323 t338 t339 _ A11.out) ?_; rintro w22 hb; replace HO327 := rB HO327 hb; replace HO331 := rB HO331 hb; replace HB := hS HB hb; clear hb) | ((with_reducible refine gG 14 (some 123) rfl rfl ?_); refine gC Tryd.func14 (impl_GreatestWithOn.calls k t322 t323 t340 t341 _ A12.out) ?_; rintro w23 hb; replace HO327 := rB HO327 hb; replace HO331 := rB HO331 hb; replace HB := hS HB hb; clear hb) | ((with_reducible refine gG 15 (some 129) rfl rfl ?_); refine gC Tryd.func15 (spec_GreatestWithOn.calls k t322 t323 t342 t343 _ A13.out) ?_; rintro w24 hb; replace HO327 := rB HO327 hb; replace HO331 := rB HO331 hb; replace HB := hS HB hb; clear hb) | ((with_reducible refine gG 16 (some 135) rfl rfl ?_); refine gC Tryd.func16 (impl_SumWithOn.calls k t322 t323 t344 t345 _ A14.out) ?_; rintro w25 hb; replace HO327 := rB HO327 hb; replace HO331 := rB HO331 hb; replace HB := hS HB hb; clear hb) | ((with_reducible refine gG 17 (some 141) rfl rfl ?_); refine gC Tryd.func17 (spec_SumWithOn.calls k t322 t323 t346 t347 _ A15.out) ?_; rintro w26 hb; replace HO327 := rB HO327 hb; replace HO331 := rB HO331 hb; replace HB := hS HB hb; clear hb))
 (try simp only [Act.put, List.setIfInBounds_toArray, List.set_cons_zero, List.set_cons_succ])
 go_cut [216] from 76 to 216 (fun v216 wc => ∃ (kq : Nat) (x216_15 : Bool), v216 = .bool x216_15 ∧ Aside0 (laws_FnStatesCounted.j0 kq l1 t322 t323 t324 t325 t332 t333 t336 t340 t344 x216_15 = some r) ∧ Aside0 (kq ≤ k) ∧ Aside0 (Kd.R Kd.string 9 wc w.heap.size (fun _ => True) v326 t324) ∧ Aside0 (Below w.heap.size w wc))
 case first => as_aux_lemma =>
  have H := HC16.out
  clear HC16
  refine iN H ?_; clear H; intro c27 H
  have c27b0 := bF c27
  (try have c27b1 := nD c27)
  (try have c27b2 := nQ c27)
  clear c27
  (first | rw [c27b0] | (simp only [i64_w, i32_w]; rw [c27b0]) | skip)
  replace H := bC H; obtain ⟨t348, A28, H⟩ := H
  refine iBy H ?_; clear H; rintro rfl H
  refine iN H ?_; clear H; intro c30 H
  have c30b0 := bF c30
  (try have c30b1 := nD c30)
  (try have c30b2 := nQ c30)
  clear c30
  refine iY H ?_; clear H; intro c31 H
  have c31b0 := qT c31
  have c31b1 := nF c31
  clear c31
  refine iN H ?_; clear H; intro c32 H
  have c32b0 := bF c32
  (try have c32b1 := nD c32)
  (try have c32b2 := nQ c32)
  clear c32
  refine iY H ?_; clear H; intro c33 H
  have c33b0 := qT c33
  have c33b1 := nF c33
  clear c33
  refine iN H ?_; clear H; intro c34 H
  have c34b0 := bF c34
  (try have c34b1 := nD c34)
  (try have c34b2 := nQ c34)
  clear c34
  refine iY H ?_; clear H; intro c35 H
  have c35b0 := qT c35
  have c35b1 := nF c35
  clear c35
  refine iN H ?_; clear H; intro c36 H
  have c36b0 := bF c36
  (try have c36b1 := nD c36)
  (try have c36b2 := nQ c36)
  clear c36
  refine iY H ?_; clear H; intro c37 H
  have c37b0 := qT c37
  have c37b1 := nF c37
  clear c37
  refine iN H ?_; clear H; intro c38 H
  have c38b0 := bF c38
  (try have c38b1 := nD c38)
  (try have c38b2 := nQ c38)
  clear c38
  refine iN H ?_; clear H; intro c39 H
  have c39b0 := bF c39
  (try have c39b1 := nD c39)
  (try have c39b2 := nQ c39)
  clear c39
  refine iN H ?_; clear H; intro c40 H
  have c40b0 := bF c40
  (try have c40b1 := nD c40)
  (try have c40b2 := nQ c40)
  clear c40
  refine iB H ?_ ?_ <;> clear H <;> rintro rfl H
  ·have H' := aM H
   clear H
   obtain ⟨Ao42, co42, eo42⟩ := Kd.R_slice HO327.out
   subst eo42
   obtain ⟨Ao43, co43, eo43⟩ := Kd.R_slice HO331.out
   subst eo43
   go_wp2_with (first | (go_at_call 18; (with_reducible refine (laws_yTexts.calls k _ _ t324 _ _ t328 true _ (cU (Kd.R_reads' HO327.out).2.2) ((Kd.R_reads' HO327.out).2.1) (cU (Kd.R_reads' HO331.out).2.2) ((Kd.R_reads' HO331.out).2.1) A28.out).mono ?_); rintro e w' ⟨rfl, ⟨nd, rfl⟩⟩))
   go_meet
   case rel => exact ⟨_, ((t325 != (decide (t332 ≤ 100)))), rF, H', kL, ⟨rU (Kd.R_mono HO327.out (fun _ hk => trivial))⟩, hV HB⟩
  have H' := aM H
  clear H
  obtain ⟨Ao44, co44, eo44⟩ := Kd.R_slice HO327.out
  subst eo44
  obtain ⟨Ao45, co45, eo45⟩ := Kd.R_slice HO331.out
  subst eo45
  go_wp2_with (first | (go_at_call 18; (with_reducible refine (laws_yTexts.calls k _ _ t324 _ _ t328 true _ (cU (Kd.R_reads' HO327.out).2.2) ((Kd.R_reads' HO327.out).2.1) (cU (Kd.R_reads' HO331.out).2.2) ((Kd.R_reads' HO331.out).2.1) A28.out).mono ?_); rintro e w' ⟨rfl, ⟨nd, rfl⟩⟩))
  go_meet
  case rel => exact ⟨_, ((t325 != false)), rF, H', kL, ⟨rU (Kd.R_mono HO327.out (fun _ hk => trivial))⟩, hV HB⟩
 case rest => as_aux_lemma =>
  clear HC16
  try clear c1
  obtain ⟨kq, x216_15, rfl, HA, HJ15, HO_7, HB⟩ := hcut
  obtain rfl | ⟨kj15, rfl⟩ := fz kq
  ·exact zA HA
  have H := HA.out
  clear HA
  simp only [laws_FnStatesCounted.j0] at H
  refine iBn H ?_; clear H; rintro rfl H
  have HC47 := aM H
  clear H
  go_upto_if 217 with (fail)
  go_cut [] from 217 to 217 (fun wc => ∃ (kq : Nat), Aside0 (laws_FnStatesCounted.j3 kq l1 t322 t323 t324 t325 t332 t336 t340 t344 = some r) ∧ Aside0 (kq ≤ kj15) ∧ Aside0 (Kd.R Kd.string 9 wc w.heap.size (fun _ => True) v326 t324) ∧ Aside0 (Below w.heap.size w wc))
  case first => as_aux_lemma =>
   have H := HC47.out
   clear HC47
   refine iB H ?_ ?_ <;> clear H <;> rintro rfl H
   ·replace H := bC H; obtain ⟨⟨t349, t350⟩, A49, H⟩ := H; try dsimp only at H
    replace H := bC H; obtain ⟨⟨t351, t352⟩, A50, H⟩ := H; try dsimp only at H
    replace H := bC H; obtain ⟨⟨t353, t354⟩, A51, H⟩ := H; try dsimp only at H
    replace H := bC H; obtain ⟨⟨t355, t356⟩, A52, H⟩ := H; try dsimp only at H
    have HC53 := aM H
    clear H
    go_upto_region 21 with (first | ((with_reducible refine gG 19 (some 220) rfl rfl ?_); refine gC Tryd.func19 (impl_NumberOfState.calls kj15 t336 t349 t350 _ A49.out) ?_; rintro w54 hb; replace HO_7 := rB HO_7 hb; replace HB := hS HB hb; clear hb) | ((with_reducible refine gG 19 (some 225) rfl rfl ?_); refine gC Tryd.func19 (impl_NumberOfState.calls kj15 t340 t351 t352 _ A50.out) ?_; rintro w55 hb; replace HO_7 := rB HO_7 hb; replace HB := hS HB hb; clear hb) | ((with_reducible refine gG 20 (some 230) rfl rfl ?_); refine gC Tryd.func20 (impl_CountOn.calls t336 t353 t354 _ A51.out) ?_; rintro w56 hb; replace HO_7 := rB HO_7 hb; replace HB := hS HB hb; clear hb) | ((with_reducible refine gG 20 (some 235) rfl rfl ?_); refine gC Tryd.func20 (impl_CountOn.calls t340 t355 t356 _ A52.out) ?_; rintro w57 hb; replace HO_7 := rB HO_7 hb; replace HB := hS HB hb; clear hb))
    (try simp only [Act.put, List.setIfInBounds_toArray, List.set_cons_zero, List.set_cons_succ])
    go_cut [278] from 218 to 278 (fun v278 wc => ∃ (kq : Nat) (x278_52 : Bool), v278 = .bool x278_52 ∧ Aside0 (laws_FnStatesCounted.j1 kq l1 t322 t323 t324 t325 t332 t336 t340 t344 x278_52 = some r) ∧ Aside0 (kq ≤ kj15) ∧ Aside0 (Kd.R Kd.string 9 wc w.heap.size (fun _ => True) v326 t324) ∧ Aside0 (Below w.heap.size w wc))
    case first => as_aux_lemma =>
     have H := HC53.out
     clear HC53
     refine iBy H ?_; clear H; rintro rfl H
     refine iBy H ?_; clear H; rintro rfl H
     refine iN H ?_; clear H; intro c60 H
     have c60b0 := gF c60
     clear c60
     (first | rw [c60b0] | (simp only [i64_w, i32_w]; rw [c60b0]) | skip)
     refine iBy H ?_; clear H; rintro rfl H
     refine iY H ?_; clear H; intro c62 H
     have c62b0 := qT c62
     have c62b1 := nF c62
     clear c62
     refine iBy H ?_; clear H; rintro rfl H
     refine iY H ?_; clear H; intro c64 H
     have c64b0 := qT c64
     have c64b1 := nF c64
     clear c64
     refine iN H ?_; clear H; intro c65 H
     have c65b0 := dF c65
     clear c65
     have H' := aM H
     clear H
     go_wp2
     go_meet
     case rel => exact ⟨_, (((t349 == t351) != (t332 == 1))), rF, H', ⟨by have := HJ15.out; first | omega | exact Nat.le_refl _⟩, ⟨rU HO_7.out⟩, hV HB⟩
    case rest => as_aux_lemma =>
     clear HC53
     obtain ⟨kq, x278_52, rfl, HA, HJ52, HO_7, HB⟩ := hcut
     obtain rfl | ⟨kj52, rfl⟩ := fz kq
     ·exact zA HA
     have H := HA.out
     clear HA
     simp only [laws_FnStatesCounted.j1] at H
     refine iBn H ?_; clear H; rintro rfl H
     have H' := aM H
     clear H
     go_wp2
     go_loopg [35, 36] kj52 (fun kq v35 v36 w' => ∃ (x35_3 : Int) (x36_3 : Int), v35 = .int .i64 x35_3 ∧ v36 = .int .i64 x36_3 ∧ Aside0 (laws_FnStatesCounted.l0 kq l1 t322 t323 t324 t325 t332 t336 t340 t344 x35_3 x36_3 = some r) ∧ Aside0 (kq ≤ kj52) ∧ Aside0 (Kd.R Kd.string 9 w' w.heap.size (fun _ => True) v326 t324) ∧ Aside0 (Below w.heap.size w w'))
     case atStart => exact ⟨(0), (0), rF, rF, H', kR, ⟨rU HO_7.out⟩, hV HB⟩
     case round => as_aux_lemma =>
      clear H'
      obtain ⟨x35_3, x36_3, rfl, rfl, HA, HK3, HO_7, HB⟩ := hrel
      obtain rfl | ⟨k3, rfl⟩ := fz gk
      ·exact zA HA
      have H := HA.out
      clear HA
      simp only [laws_FnStatesCounted.l0] at H
      refine iI H ?_ ?_ <;> clear H <;> intro c67 H
      ·have c67b0 := dT c67
       clear c67
       replace H := bC H; obtain ⟨⟨t357, t358⟩, A68, H⟩ := H; try dsimp only at H
       refine iBy H ?_; clear H; rintro rfl H
       have H' := aM H
       clear H
       go_wp2_with (first | ((with_reducible refine gG 10 (some 287) rfl rfl ?_); refine gL Tryd.func10 #[.int .i64 t322, .int .i64 x36_3] ?_; (with_reducible refine (impl_CountWithOn.calls k3 t322 x36_3 t357 true _ A68.out).mono ?_); rintro e w' ⟨rfl, ⟨nd, rfl⟩⟩; refine ⟨_, rfl, ?_⟩))
       go_roundg k3
       case measure => have := HJ15.out; have := HJ52.out; have := HK3.out; omega
       case rel => exact ⟨(wrap64 (x35_3 + t357)), (wrap64 (x36_3 + 1)), rF, rF, H', ⟨by have := HJ15.out; have := HJ52.out; have := HK3.out; omega⟩, ⟨rU HO_7.out⟩, hV HB⟩
      have c67b0 := dF c67
      clear c67
      refine iY H ?_; clear H; intro c70 H
      have c70b0 := eq_true c70
      have c70b1 := dT c70
      clear c70
      obtain ⟨ji71, hji71⟩ := jN (shl .i64 1 t322)
      first | rw [hji71] at H | simp only [hji71] at H
      have hji71_ : (IntKind.i64.wrap (1 * 2 ^ min t322.toNat 64)) = ji71 := hji71
      have hji71z : t322 ≤ 64 → (IntKind.i64.wrap (1 * 2 ^ t322.toNat)) = ji71 := shl_small hji71
      have hji71u : (IntKind.i64.wrap (2 ^ min t322.toNat 64)) = ji71 := by have h_ := hji71_; rw [Int.one_mul] at h_; exact h_
      have hji71v : t322 ≤ 64 → (IntKind.i64.wrap (2 ^ t322.toNat)) = ji71 := fun hle_ => by have h_ := hji71z hle_; rw [Int.one_mul] at h_; exact h_
      have hji71y : (wrap64 (1 * 2 ^ min t322.toNat 64)) = ji71 := (i64_w _).symm.trans hji71_
      have hji71x : t322 ≤ 64 → (wrap64 (1 * 2 ^ t322.toNat)) = ji71 := fun h_ => (i64_w _).symm.trans (hji71z h_)
      refine iY H ?_; clear H; intro c72 H
      have c72b0 := qT c72
      have c72b1 := nF c72
      clear c72
      have H' := aM H
      clear H
      go_wp2
      go_meet
      case rel => exact ⟨_, H', ⟨by have := HJ15.out; have := HJ52.out; have := HK3.out; first | omega | exact Nat.le_refl _⟩, ⟨rU HO_7.out⟩, hV HB⟩
   have H' := aM H
   clear H
   go_wp2
   go_meet
   case rel => exact ⟨_, H', ⟨by have := HJ15.out; first | omega | exact Nat.le_refl _⟩, ⟨rU HO_7.out⟩, hV HB⟩
  case rest => as_aux_lemma =>
   clear HC47
   obtain ⟨kq, HA, HJ46, HO_7, HB⟩ := hcut
   obtain rfl | ⟨kj46, rfl⟩ := fz kq
   ·exact zA HA
   have H := HA.out
   clear HA
   simp only [laws_FnStatesCounted.j3] at H
   have HC73 := aM H
   clear H
   go_upto_if 299 with (fail)
   go_cut [] from 299 to 299 (fun wc => ∃ (kq : Nat), Aside0 (laws_FnStatesCounted.j5 kq l1 = some r) ∧ Aside0 (kq ≤ kj46) ∧ Aside0 (Below w.heap.size w wc))
   case first => as_aux_lemma =>
    have H := HC73.out
    clear HC73
    refine iB H ?_ ?_ <;> clear H <;> rintro rfl H
    ·have H' := aM H
     clear H
     obtain ⟨Ao75, co75, eo75⟩ := Kd.R_slice HO_7.out
     subst eo75
     go_wp2
     go_loopg [39, 40, 302] kj46 (fun kq v39 v40 v302 w' => ∃ (x39_3 : Int) (x40_3 : Int) (x302_3 : Int), v39 = .int .i64 x39_3 ∧ v40 = .int .i64 x40_3 ∧ v302 = .int .i64 x302_3 ∧ Aside0 (laws_FnStatesCounted.l1 kq l1 t322 t323 t324 t332 t336 t340 t344 x39_3 x40_3 t324 (t324.length : Int) x302_3 = some r) ∧ Aside0 (kq ≤ kj46) ∧ Aside0 (Kd.R Kd.string 9 w' w.heap.size (fun _ => True) (.slice Ao75 t324.length co75) t324) ∧ Aside0 (Kd.R Kd.string 9 w' w.heap.size (fun _ => True) (.slice Ao75 t324.length co75) t324) ∧ Aside0 (Below w.heap.size w w'))
     case atStart => exact ⟨(0), ((-1)), (0), rF, rF, rF, H', kR, ⟨rU HO_7.out⟩, ⟨rU HO_7.out⟩, hV HB⟩
     case round => as_aux_lemma =>
      clear H'
      obtain ⟨x39_3, x40_3, x302_3, rfl, rfl, rfl, HA, HK3, HO_7, HO_300, HB⟩ := hrel
      obtain rfl | ⟨k3, rfl⟩ := fz gk
      ·exact zA HA
      have H := HA.out
      clear HA
      simp only [laws_FnStatesCounted.l1] at H
      refine iI H ?_ ?_ <;> clear H <;> intro c76 H
      ·have c76b0 := dT c76
       clear c76
       (first | rw [c76b0] | (simp only [i64_w, i32_w]; rw [c76b0]) | skip)
       refine iY H ?_; clear H; intro c77 H
       have c77b0 := dT c77
       clear c77
       refine iY H ?_; clear H; intro c78 H
       have c78b0 := dT c78
       clear c78
       replace H := bC H; obtain ⟨⟨t360, t361⟩, A79, H⟩ := H; try dsimp only at H
       replace H := bC H; obtain ⟨⟨t362, t363⟩, A80, H⟩ := H; try dsimp only at H
       refine iBy H ?_; clear H; rintro rfl H
       refine iN H ?_; clear H; intro c82 H
       have c82b0 := dF c82
       clear c82
       refine iBy H ?_; clear H; rintro rfl H
       refine iY H ?_; clear H; intro c84 H
       have c84b0 := qT c84
       have c84b1 := nF c84
       clear c84
       refine iY H ?_; clear H; intro c85 H
       have c85b0 := qT c85
       have c85b1 := nF c85
       clear c85
       have H' := aM H
       clear H
       have p359 : 0 ≤ (x302_3 : Int) := oD
       have q359 : x302_3 < (t324.length : Int) := oD
       obtain ⟨ad359, e359, hx359_0⟩ := Kd.at_string (Kd.R_reads' HO_300.out).2.2 x302_3 p359 q359
       cases e359
       replace p359 := eq_true p359
       replace q359 := eq_true q359
       go_wp2_with (first | ((with_reducible refine gG 19 (some 308) rfl rfl ?_); refine gC Tryd.func19 (impl_NumberOfState.calls k3 (rdOf ByteArray.empty t324 x302_3) t360 true _ A79.out) ?_; rintro w86 hb; replace HO_7 := rB HO_7 hb; replace HO_300 := rB HO_300 hb; replace HB := hS HB hb; clear hb) | ((with_reducible refine gG 20 (some 313) rfl rfl ?_); refine gC Tryd.func20 (impl_CountOn.calls (rdOf ByteArray.empty t324 x302_3) t362 true _ A80.out) ?_; rintro w87 hb; replace HO_7 := rB HO_7 hb; replace HO_300 := rB HO_300 hb; replace HB := hS HB hb; clear hb))
       go_roundg k3
       case measure => have := HJ15.out; have := HJ46.out; have := HK3.out; omega
       case rel => exact ⟨(wrap64 (x39_3 + t360)), (t360), (wrap64 (x302_3 + 1)), rF, rF, rF, H', ⟨by have := HJ15.out; have := HJ46.out; have := HK3.out; omega⟩, ⟨rU HO_7.out⟩, ⟨rU HO_300.out⟩, hV HB⟩
      have c76b0 := dF c76
      clear c76
      (first | rw [c76b0] | (simp only [i64_w, i32_w]; rw [c76b0]) | skip)
      refine iY H ?_; clear H; intro c88 H
      have c88b0 := qT c88
      have c88b1 := nF c88
      clear c88
      refine iY H ?_; clear H; intro c89 H
      have c89b0 := qT c89
      have c89b1 := nF c89
      clear c89
      refine iY H ?_; clear H; intro c90 H
      have c90b0 := dT c90
      have c90b1 : decide (0 < t324.length) = true := decide_eq_true (by omega)
      clear c90
      refine iY H ?_; clear H; intro c91 H
      have c91b0 := qT c91
      have c91b1 := nF c91
      clear c91
      obtain ⟨ji92, hji92⟩ := jN (wrap64 (t332 - 1))
      first | rw [hji92] at H | simp only [hji92] at H
      have hji92w : (IntKind.i64.wrap (t332 - 1)) = ji92 := (i64_w _).trans hji92
      refine iY H ?_; clear H; intro c93 H
      have c93b0 := dT c93
      clear c93
      refine iY H ?_; clear H; intro c94 H
      have c94b0 := dT c94
      clear c94
      refine iY H ?_; clear H; intro c95 H
      have c95b0 := qT c95
      have c95b1 := nF c95
      clear c95
      have H' := aM H
      clear H
      have p364 : 0 ≤ (0 : Int) := (by omega)
      have q364 : 0 < (t324.length : Int) := oD
      obtain ⟨ad364, e364, hx364_0⟩ := Kd.at_string (Kd.R_reads' HO_7.out).2.2 0 p364 q364
      cases e364
      have qi364 : (0 < t324.length) = True := eq_true (by omega)
      (try rw [show ((0 : Int)).toNat = 0 from rfl] at hx364_0)
      (try rw [Addr.add_zero'] at hx364_0)
      replace p364 := eq_true p364
      replace q364 := eq_true q364
      have p365 : 0 ≤ ((ji92) : Int) := oD
      have q365 : (ji92) < (t324.length : Int) := oD
      obtain ⟨ad365, e365, hx365_0⟩ := Kd.at_string (Kd.R_reads' HO_7.out).2.2 (ji92) p365 q365
      obtain rfl : ad364 = ad365 := (by injection e365)
      replace p365 := eq_true p365
      replace q365 := eq_true q365
      go_wp2
      go_meet
      case rel => exact ⟨_, H', ⟨by have := HJ15.out; have := HJ46.out; have := HK3.out; first | omega | exact Nat.le_refl _⟩, hV HB⟩
    have H' := aM H
    clear H
    go_wp2
    go_meet
    case rel => exact ⟨_, H', ⟨by have := HJ15.out; have := HJ46.out; first | omega | exact Nat.le_refl _⟩, hV HB⟩
   case rest => as_aux_lemma =>
    clear HC73
    obtain ⟨kq, HA, HJ72, HB⟩ := hcut
    obtain rfl | ⟨kj72, rfl⟩ := fz kq
    ·exact zA HA
    have H := HA.out
    clear HA
    simp only [laws_FnStatesCounted.j5] at H
    replace H := bC H; obtain ⟨t366, A96, H⟩ := H
    replace H := bC H; obtain ⟨⟨t367, t368, t369⟩, A97, H⟩ := H; try dsimp only at H
    replace H := bC H; obtain ⟨⟨t370, t371, t372⟩, A98, H⟩ := H; try dsimp only at H
    replace H := bC H; obtain ⟨⟨t373, t374, t375⟩, A99, H⟩ := H; try dsimp only at H
    replace H := bC H; obtain ⟨⟨t376, t377, t378⟩, A100, H⟩ := H; try dsimp only at H
    replace H := bC H; obtain ⟨⟨t379, t380⟩, A101, H⟩ := H; try dsimp only at H
    replace H := bC H; obtain ⟨⟨t381, t382, t383⟩, A102, H⟩ := H; try dsimp only at H
    replace H := bC H; obtain ⟨⟨t384, t385, t386⟩, A103, H⟩ := H; try dsimp only at H
    have HC104 := aM H
    clear H
    go_upto_region 55 with (first | ((with_reducible refine gG 21 (some 369) rfl rfl ?_); refine gC Tryd.func21 (spec_DrawMeanNumber.calls _ _ l1 t366 _ (cU (Kd.C_below HR1.out HB.out)) HC1.out A96.out) ?_; rintro w105 hb; replace HB := hS HB hb; clear hb) | ((with_reducible refine gG 22 (some 372) rfl rfl ?_); refine gL Tryd.func22 #[.int .i64 t366] ?_; (with_reducible refine (impl_MeanNumber.calls kj72 t366 t367 t368 t369 _ A97.out).mono ?_); rintro e w' ⟨rfl, ⟨nd, rfl⟩⟩; refine ⟨_, rfl, ?_⟩) | ((with_reducible refine gG 23 (some 378) rfl rfl ?_); refine gL Tryd.func23 #[.int .i64 t366] ?_; (with_reducible refine (spec_MeanNumber.calls t366 t370 t371 t372 _ A98.out).mono ?_); rintro e w' ⟨rfl, ⟨nd, rfl⟩⟩; refine ⟨_, rfl, ?_⟩) | ((with_reducible refine gG 24 (some 384) rfl rfl ?_); refine gL Tryd.func24 #[.int .i64 t366] ?_; (with_reducible refine (impl_MeanOfPairs.calls kj72 t366 t373 t374 t375 _ A99.out).mono ?_); rintro e w' ⟨rfl, ⟨nd, rfl⟩⟩; refine ⟨_, rfl, ?_⟩) | ((with_reducible refine gG 25 (some 390) rfl rfl ?_); refine gL Tryd.func25 #[.int .i64 t366] ?_; (with_reducible refine (spec_MeanOfPairs.calls kj72 t366 t376 t377 t378 _ A100.out).mono ?_); rintro e w' ⟨rfl, ⟨nd, rfl⟩⟩; refine ⟨_, rfl, ?_⟩) | ((with_reducible refine gG 26 (some 396) rfl rfl ?_); refine gC Tryd.func26 (spec_DrawMeanOnAlong.calls kj72 _ _ l1 t379 t380 _ (Kd.C_below HR1.out (bel HB)) HC1.out A101.out) ?_; rintro w106 hb; replace HB := hS HB hb; clear hb) | ((with_reducible refine gG 27 (some 402) rfl rfl ?_); refine gC Tryd.func27 (impl_MeanOnAlong.calls kj72 t379 t380 t381 t382 t383 _ A102.out) ?_; rintro w107 hb; replace HB := hS HB hb; clear hb) | ((with_reducible refine gG 28 (some 409) rfl rfl ?_); refine gL Tryd.func28 #[.string t379, .string t380] ?_; (with_reducible refine (spec_MeanOnAlong.calls kj72 t379 t380 t384 t385 t386 _ A103.out).mono ?_); rintro e w' ⟨rfl, ⟨nd, rfl⟩⟩; refine ⟨_, rfl, ?_⟩))
    (try simp only [Act.put, List.setIfInBounds_toArray, List.set_cons_zero, List.set_cons_succ])
    go_cut [460] from 368 to 460 (fun v460 wc => ∃ (kq : Nat) (x460_103 : Bool), v460 = .bool x460_103 ∧ Aside0 (laws_FnStatesCounted.j6 kq t366 t367 t368 t369 t373 t374 t379 t380 t381 t382 t383 x460_103 = some r) ∧ Aside0 (kq ≤ kj72) ∧ Aside0 (Below w.heap.size w wc))
    case first => as_aux_lemma =>
     have H := HC104.out
     clear HC104
     refine iN H ?_; clear H; intro c108 H
     have c108b0 := bF c108
     (try have c108b1 := nD c108)
     (try have c108b2 := nQ c108)
     clear c108
     (first | rw [c108b0] | (simp only [i64_w, i32_w]; rw [c108b0]) | skip)
     refine iY H ?_; clear H; intro c109 H
     have c109b0 := qT c109
     have c109b1 := nF c109
     clear c109
     refine iY H ?_; clear H; intro c110 H
     have c110b0 := qT c110
     have c110b1 := nF c110
     clear c110
     refine iN H ?_; clear H; intro c111 H
     have c111b0 := bF c111
     (try have c111b1 := nD c111)
     (try have c111b2 := nQ c111)
     clear c111
     refine iY H ?_; clear H; intro c112 H
     have c112b0 := qT c112
     have c112b1 := nF c112
     clear c112
     refine iY H ?_; clear H; intro c113 H
     have c113b0 := qT c113
     have c113b1 := nF c113
     clear c113
     refine iN H ?_; clear H; intro c114 H
     have c114b0 := bF c114
     (try have c114b1 := nD c114)
     (try have c114b2 := nQ c114)
     clear c114
     refine iN H ?_; clear H; intro c115 H
     have c115b0 := bF c115
     (try have c115b1 := nD c115)
     (try have c115b2 := nQ c115)
     clear c115
     refine iY H ?_; clear H; intro c116 H
     have c116b0 := qT c116
     have c116b1 := nF c116
     clear c116
     have H' := aM H
     clear H
     go_wp2
     go_meet
     case rel => exact ⟨_, ((t382 != t385)), rF, H', ⟨by have := HJ15.out; have := HJ46.out; have := HJ72.out; first | omega | exact Nat.le_refl _⟩, hV HB⟩
    case rest => as_aux_lemma =>
     clear HC104
     obtain ⟨kq, x460_103, rfl, HA, HJ103, HB⟩ := hcut
     obtain rfl | ⟨kj103, rfl⟩ := fz kq
     ·exact zA HA
     have H := HA.out
     clear HA
     simp only [laws_FnStatesCounted.j6] at H
     refine iBn H ?_; clear H; rintro rfl H
     have HC118 := aM H
     clear H
     go_upto_if 461 with (fail)
     go_cut [] from 461 to 461 (fun wc => ∃ (kq : Nat), Aside0 (laws_FnStatesCounted.j7 kq t379 t380 t381 t382 t383 = some r) ∧ Aside0 (kq ≤ kj103) ∧ Aside0 (Below w.heap.size w wc))
     case first => as_aux_lemma =>
      have H := HC118.out
      clear HC118
      refine iB H ?_ ?_ <;> clear H <;> rintro rfl H
      ·refine iY H ?_; clear H; intro c120 H
       have c120b0 := eq_true c120
       have c120b1 := dT c120
       clear c120
       obtain ⟨ji121, hji121⟩ := jN (shl .i64 1 t366)
       first | rw [hji121] at H | simp only [hji121] at H
       have hji121_ : (IntKind.i64.wrap (1 * 2 ^ min t366.toNat 64)) = ji121 := hji121
       have hji121z : t366 ≤ 64 → (IntKind.i64.wrap (1 * 2 ^ t366.toNat)) = ji121 := shl_small hji121
       have hji121u : (IntKind.i64.wrap (2 ^ min t366.toNat 64)) = ji121 := by have h_ := hji121_; rw [Int.one_mul] at h_; exact h_
       have hji121v : t366 ≤ 64 → (IntKind.i64.wrap (2 ^ t366.toNat)) = ji121 := fun hle_ => by have h_ := hji121z hle_; rw [Int.one_mul] at h_; exact h_
       have hji121y : (wrap64 (1 * 2 ^ min t366.toNat 64)) = ji121 := (i64_w _).symm.trans hji121_
       have hji121x : t366 ≤ 64 → (wrap64 (1 * 2 ^ t366.toNat)) = ji121 := fun h_ => (i64_w _).symm.trans (hji121z h_)
       refine iY H ?_; clear H; intro c122 H
       have c122b0 := qT c122
       have c122b1 := nF c122
       clear c122
       (first | rw [c122b0] | (simp only [i64_w, i32_w]; rw [c122b0]) | skip)
       refine iY H ?_; clear H; intro c123 H
       have c123b0 := qT c123
       have c123b1 := nF c123
       clear c123
       have H' := aM H
       clear H
       go_wp2
       go_meet
       case rel => exact ⟨_, H', ⟨by have := HJ15.out; have := HJ46.out; have := HJ72.out; have := HJ103.out; first | omega | exact Nat.le_refl _⟩, hV HB⟩
      have H' := aM H
      clear H
      go_wp2
      go_meet
      case rel => exact ⟨_, H', ⟨by have := HJ15.out; have := HJ46.out; have := HJ72.out; have := HJ103.out; first | omega | exact Nat.le_refl _⟩, hV HB⟩
     case rest => as_aux_lemma =>
      clear HC118
      obtain ⟨kq, HA, HJ117, HB⟩ := hcut
      obtain rfl | ⟨kj117, rfl⟩ := fz kq
      ·exact zA HA
      have H := HA.out
      clear HA
      simp only [laws_FnStatesCounted.j7] at H
      refine iB H ?_ ?_ <;> clear H <;> rintro rfl H
      ·replace H := bC H; obtain ⟨⟨t387, t388⟩, A125, H⟩ := H; try dsimp only at H
       refine iB H ?_ ?_ <;> clear H <;> rintro rfl H
       ·have H' := aM H
        clear H
        go_wp2_with (first | ((with_reducible refine gG 29 (some 488) rfl rfl ?_); refine gD Tryd.func29 (impl_StatesBetween.calls kj117 t379 t380 t387 true _ A125.out) ?_; rintro w127 v389 ⟨ho0, hb⟩; have HO390 := rL ho0 HB; replace HB := hS HB hb; clear hb ho0; obtain ⟨Ao128, co128, eo128⟩ := Kd.R_slice HO390.out; subst eo128))
        go_loopg [71, 494] kj117 (fun kq v71 v494 w' => ∃ (x71_6 : Int) (x494_6 : Int), v71 = .int .i64 x71_6 ∧ v494 = .int .i64 x494_6 ∧ Aside0 (laws_FnStatesCounted.l2 kq t381 t382 t387 x71_6 t387 (t387.length : Int) x494_6 = some r) ∧ Aside0 (kq ≤ kj117) ∧ Aside0 (Kd.R Kd.string 9 w' w.heap.size (fun _ => True) (.slice Ao128 t387.length co128) t387) ∧ Aside0 (Kd.R Kd.string 9 w' w.heap.size (fun _ => True) (.slice Ao128 t387.length co128) t387) ∧ Aside0 (Below w.heap.size w w'))
        case atStart => exact ⟨(0), (0), rF, rF, H', kR, ⟨rU HO390.out⟩, ⟨rU HO390.out⟩, hV HB⟩
        case round => as_aux_lemma =>
         clear H'
         obtain ⟨x71_6, x494_6, rfl, rfl, HA, HK6, HO_69, HO_492, HB⟩ := hrel
         obtain rfl | ⟨k6, rfl⟩ := fz gk
         ·exact zA HA
         have H := HA.out
         clear HA
         simp only [laws_FnStatesCounted.l2] at H
         refine iI H ?_ ?_ <;> clear H <;> intro c129 H
         ·have c129b0 := dT c129
          clear c129
          refine iY H ?_; clear H; intro c130 H
          have c130b0 := dT c130
          clear c130
          refine iY H ?_; clear H; intro c131 H
          have c131b0 := dT c131
          clear c131
          replace H := bC H; obtain ⟨⟨t392, t393⟩, A132, H⟩ := H; try dsimp only at H
          refine iBy H ?_; clear H; rintro rfl H
          have H' := aM H
          clear H
          have p391 : 0 ≤ (x494_6 : Int) := oD
          have q391 : x494_6 < (t387.length : Int) := oD
          obtain ⟨ad391, e391, hx391_0⟩ := Kd.at_string (Kd.R_reads' HO_492.out).2.2 x494_6 p391 q391
          cases e391
          replace p391 := eq_true p391
          replace q391 := eq_true q391
          go_wp2_with (first | ((with_reducible refine gG 20 (some 500) rfl rfl ?_); refine gC Tryd.func20 (impl_CountOn.calls (rdOf ByteArray.empty t387 x494_6) t392 true _ A132.out) ?_; rintro w134 hb; replace HO_69 := rB HO_69 hb; replace HO_492 := rB HO_492 hb; replace HB := hS HB hb; clear hb))
          go_roundg k6
          case measure => have := HJ15.out; have := HJ46.out; have := HJ72.out; have := HJ103.out; have := HJ117.out; have := HK6.out; omega
          case rel => exact ⟨(wrap64 (x71_6 + t392)), (wrap64 (x494_6 + 1)), rF, rF, H', ⟨by have := HJ15.out; have := HJ46.out; have := HJ72.out; have := HJ103.out; have := HJ117.out; have := HK6.out; omega⟩, ⟨rU HO_69.out⟩, ⟨rU HO_492.out⟩, hV HB⟩
         have c129b0 := dF c129
         clear c129
         obtain rfl := Option.some.inj H
         go_wp2
         go_ret
         exact ⟨eW, bel HB⟩
       obtain rfl := Option.some.inj H
       go_wp2_with (first | ((with_reducible refine gG 29 (some 488) rfl rfl ?_); refine gD Tryd.func29 (impl_StatesBetween.calls kj117 t379 t380 t387 false _ A125.out) ?_; rintro w135 v389 ⟨ho0, hb⟩; have HO390 := rL ho0 HB; replace HB := hS HB hb; clear hb ho0))
       go_ret
       exact ⟨eW, bel HB⟩
      obtain rfl := Option.some.inj H
      go_wp2
      go_ret
      exact ⟨eW, bel HB⟩

/-- THE ONE PURE STATEMENT of laws_FnStatesCounted: yours. -/
def laws_FnStatesCounted.Pure : Prop := ∀ (l0 : List Int) (l1 : List Int), l0.length ≤ maxLen → l0.length * 1 ≤ 140737488351232 → (∀ x ∈ l0, (Lit.int .u8 x).wf = true) → l1.length ≤ maxLen → l1.length * 1 ≤ 140737488351232 → (∀ x ∈ l1, (Lit.int .u8 x).wf = true) → ∃ k, laws_FnStatesCounted.f k l0 l1 = some true
end Go.Proofs.YtcogjabdddikjaaDoor.PSCnt
