-- squeezed; PRINTED by drive.py (a program of this session's, over the kit's print.py; wip/tools/drive.py). Lean checks it.
import Derived.Test.YtcogjabdddikjaaDoorQPWMnx0
import Derived.Test.YtcogjabdddikjaaDoorQPWMnx1
import Derived.Test.YtcogjabdddikjaaDoorQPWMnx2
import Derived.Test.YtcogjabdddikjaaDoorQPWMnx3
import Derived.Test.YtcogjabdddikjaaDoorQPWMnx4
import Derived.Test.YtcogjabdddikjaaDoorQPWMnx5
import Derived.Test.YtcogjabdddikjaaDoorQPWMnx6
import Derived.Test.YtcogjabdddikjaaDoorQPWMnx7
import Derived.Test.YtcogjabdddikjaaDoorQPWMnx8
import Derived.Test.YtcogjabdddikjaaDoorQPWMnx9
import Derived.Test.YtcogjabdddikjaaDoorQPWMnx10
import Derived.Test.YtcogjabdddikjaaDoorQUp
import Derived.Test.YtcogjabdddikjaaDoorQSq
namespace Go.Proofs.YtcogjabdddikjaaDoor.PWMn
open Go.RowKit Go.Proofs.YtcogjabdddikjaaDoorW.PrintWords Go.Proofs.YtcogjabdddikjaaDoorW.PrintLast Go.Proofs.YtcogjabdddikjaaDoorW.PrintMore
attribute [local go_sem] max2_int min2_int max_two min_two max_three min_three max_four min_four   -- for this text's walks alone
set_option linter.unusedVariables false
set_option linter.unusedSimpArgs false

set_option maxHeartbeats 8000000 in
set_option maxRecDepth 100000 in
theorem laws_FnWalksMean.calls (k : Nat) (A0 : Option Addr) (c0 : Nat) (l0 : List Int) (A1 : Option Addr) (c1 : Nat) (l1 : List Int) (r : Bool) (w : World) (hr0 : Kd.C (Kd.int .u8) w A0 l0.length l0) (hc0 : l0.length ≤ c0) (hr1 : Kd.C (Kd.int .u8) w A1 l1.length l1) (hc1 : l1.length ≤ c1) (h : laws_FnWalksMean.f k l0 l1 = some r) :
  Calls Tryd.prog 4 #[.slice A0 l0.length c0, .slice A1 l1.length c1] w fun e w' => e = .returned (.bool r) ∧ Below w.heap.size w w' := by
 have HR0 := aM hr0
 have HC0 := aM hc0
 clear hr0 hc0
 have HR1 := aM hr1
 have HC1 := aM hc1
 clear hr1 hc1
 have HB := aM (Below.refl w.heap.size w)
 have H := h
 clear h; unfold laws_FnWalksMean.f at H
 replace H := bC H; obtain ⟨t350, A3, H⟩ := H
 refine iB H ?_ ?_ <;> clear H <;> rintro rfl H
 ·obtain rfl := Option.some.inj H
  go_enter Tryd.func4, Tryd.ntmps4
  go_wp2_with (first | ((with_reducible refine gG 6 (some 71) rfl rfl ?_); refine gL Tryd.func6 #[.slice A0 l0.length c0, .slice A1 l1.length c1] ?_; (with_reducible refine (laws_big.calls _ _ l0 _ _ l1 true _ (cU HR0.out) HC0.out (cU HR1.out) HC1.out A3.out).mono ?_); rintro e w' ⟨rfl, ⟨nd, rfl⟩⟩; refine ⟨_, rfl, ?_⟩))
  go_ret
  exact ⟨eW, bel HB⟩
 replace H := bC H; obtain ⟨⟨t351, t352⟩, A5, H⟩ := H; try dsimp only at H
 replace H := bC H; obtain ⟨⟨t353, t354⟩, A6, H⟩ := H; try dsimp only at H
 replace H := bC H; obtain ⟨⟨t355, t356⟩, A7, H⟩ := H; try dsimp only at H
 replace H := bC H; obtain ⟨⟨t357, t358⟩, A8, H⟩ := H; try dsimp only at H
 replace H := bC H; obtain ⟨⟨t359, t360⟩, A9, H⟩ := H; try dsimp only at H
 have HC10 := aM H
 clear H
 go_enter Tryd.func4, Tryd.ntmps4
 go_upto_region 8 with (first | ((with_reducible refine gG 6 (some 71) rfl rfl ?_); refine gL Tryd.func6 #[.slice A0 l0.length c0, .slice A1 l1.length c1] ?_; (with_reducible refine (laws_big.calls _ _ l0 _ _ l1 false _ (cU HR0.out) HC0.out (cU HR1.out) HC1.out A3.out).mono ?_); rintro e w' ⟨rfl, ⟨nd, rfl⟩⟩; refine ⟨_, rfl, ?_⟩) | ((with_reducible refine gG 30 (some 74) rfl rfl ?_); refine gC Tryd.func30 (spec_DrawMeanFrom.calls k _ _ l0 t351 t352 _ (cU HR0.out) HC0.out A5.out) ?_; rintro w11 hb; replace HB := hS HB hb; clear hb) | ((with_reducible refine gG 31 (some 80) rfl rfl ?_); refine gC Tryd.func31 (impl_MeanFrom.calls k t351 t352 t353 t354 _ A6.out) ?_; rintro w12 hb; replace HB := hS HB hb; clear hb) | ((with_reducible refine gG 32 (some 86) rfl rfl ?_); refine gL Tryd.func32 #[.string t351, .string t352] ?_; (with_reducible refine (spec_MeanFrom.calls k t351 t352 t355 t356 _ A7.out).mono ?_); rintro e w' ⟨rfl, ⟨nd, rfl⟩⟩; refine ⟨_, rfl, ?_⟩) | ((with_reducible refine gG 33 (some 91) rfl rfl ?_); refine gC Tryd.func33 (impl_MeanToClear.calls k t351 t357 t358 _ A8.out) ?_; rintro w13 hb; replace HB := hS HB hb; clear hb) | ((with_reducible refine gG 34 (some 96) rfl rfl ?_); refine gL Tryd.func34 #[.string t351] ?_; (with_reducible refine (spec_MeanToClear.calls k t351 t359 t360 _ A9.out).mono ?_); rintro e w' ⟨rfl, ⟨nd, rfl⟩⟩; refine ⟨_, rfl, ?_⟩))
 (try simp only [Act.put, List.setIfInBounds_toArray, List.set_cons_zero, List.set_cons_succ])
 go_cut [123] from 69 to 123 (fun v123 wc => ∃ (kq : Nat) (x123_9 : Bool), v123 = .bool x123_9 ∧ Aside0 (laws_FnWalksMean.j0 kq l1 t351 t352 t353 t354 x123_9 = some r) ∧ Aside0 (kq ≤ k) ∧ Aside0 (Below w.heap.size w wc))
 case first => as_aux_lemma =>
  have H := HC10.out
  clear HC10
  refine iN H ?_; clear H; intro c14 H
  have c14b0 := bF c14
  (try have c14b1 := nD c14)
  (try have c14b2 := nQ c14)
  clear c14
  (first | rw [c14b0] | (simp only [i64_w, i32_w]; rw [c14b0]) | skip)
  refine iY H ?_; clear H; intro c15 H
  have c15b0 := qT c15
  have c15b1 := nF c15
  clear c15
  refine iN H ?_; clear H; intro c16 H
  have c16b0 := bF c16
  (try have c16b1 := nD c16)
  (try have c16b2 := nQ c16)
  clear c16
  refine iY H ?_; clear H; intro c17 H
  have c17b0 := qT c17
  have c17b1 := nF c17
  clear c17
  refine iB H ?_ ?_ <;> clear H <;> rintro rfl H
  ·have H' := aM H
   clear H
   go_wp2
   go_meet
   case rel => exact ⟨_, (!t358), rF, H', kL, hV HB⟩
  have H' := aM H
  clear H
  go_wp2
  go_meet
  case rel => exact ⟨_, (false), rF, H', kL, hV HB⟩
 case rest => as_aux_lemma =>
  clear HC10
  try clear c1
  obtain ⟨kq, x123_9, rfl, HA, HJ9, HB⟩ := hcut
  obtain rfl | ⟨kj9, rfl⟩ := fz kq
  ·exact zA HA
  have H := HA.out
  clear HA
  simp only [laws_FnWalksMean.j0] at H
  refine iBn H ?_; clear H; rintro rfl H
  have HC20 := aM H
  clear H
  go_upto_if 124 with (fail)
  go_cut [] from 124 to 124 (fun wc => ∃ (kq : Nat), Aside0 (laws_FnWalksMean.j3 kq l1 = some r) ∧ Aside0 (kq ≤ kj9) ∧ Aside0 (Below w.heap.size w wc))
  case first => as_aux_lemma =>
   have H := HC20.out
   clear HC20
   refine iB H ?_ ?_ <;> clear H <;> rintro rfl H
   ·replace H := bC H; obtain ⟨⟨t361, t362⟩, A22, H⟩ := H; try dsimp only at H
    have HC23 := aM H
    clear H
    go_upto_region 12 with (first | ((with_reducible refine gG 35 (some 128) rfl rfl ?_); refine gC Tryd.func35 (impl_FewestMoves.calls kj9 t351 t352 t361 t362 _ A22.out) ?_; rintro w24 hb; replace HB := hS HB hb; clear hb))
    (try simp only [Act.put, List.setIfInBounds_toArray, List.set_cons_zero, List.set_cons_succ])
    go_cut [145] from 125 to 145 (fun v145 wc => ∃ (kq : Nat) (x145_22 : Bool), v145 = .bool x145_22 ∧ Aside0 (laws_FnWalksMean.j1 kq l1 t351 t352 t353 x145_22 = some r) ∧ Aside0 (kq ≤ kj9) ∧ Aside0 (Below w.heap.size w wc))
    case first => as_aux_lemma =>
     have H := HC23.out
     clear HC23
     refine iBy H ?_; clear H; rintro rfl H
     refine iN H ?_; clear H; intro c26 H
     have c26b0 := dF c26
     clear c26
     (first | rw [c26b0] | (simp only [i64_w, i32_w]; rw [c26b0]) | skip)
     have H' := aM H
     clear H
     go_wp2
     go_meet
     case rel => exact ⟨_, (((t353 == 0) != (t351.toList == t352.toList))), rF, H', ⟨by have := HJ9.out; first | omega | exact Nat.le_refl _⟩, hV HB⟩
    case rest => as_aux_lemma =>
     clear HC23
     obtain ⟨kq, x145_22, rfl, HA, HJ22, HB⟩ := hcut
     obtain rfl | ⟨kj22, rfl⟩ := fz kq
     ·exact zA HA
     have H := HA.out
     clear HA
     simp only [laws_FnWalksMean.j1] at H
     refine iBn H ?_; clear H; rintro rfl H
     refine iI H ?_ ?_ <;> clear H <;> intro c28 H
     ·have c28b0 := qT c28
      have c28b1 := nF c28
      clear c28
      have H' := aM H
      clear H
      go_wp2
      go_meet
      case rel => exact ⟨_, H', ⟨by have := HJ9.out; have := HJ22.out; first | omega | exact Nat.le_refl _⟩, hV HB⟩
     have c28b0 := qF c28
     have c28b1 := nT c28
     replace H := bC H; obtain ⟨⟨t363, t364⟩, A29, H⟩ := H; try dsimp only at H
     have H' := aM H
     clear H
     go_wp2_with (first | ((with_reducible refine gG 36 (some 151) rfl rfl ?_); refine gD Tryd.func36 (impl_MovesOf.calls kj22 t351 t363 t364 _ A29.out) ?_; rintro w30 v365 ⟨ho0, hb⟩; have HO366 := rL ho0 HB; replace HB := hS HB hb; clear hb ho0; obtain ⟨Ao31, co31, eo31⟩ := Kd.R_slice HO366.out; subst eo31))
     go_loopg [19, 156] kj22 (fun kq v19 v156 w' => ∃ (x19_3 : Int) (x156_3 : Int), v19 = .int .i64 x19_3 ∧ v156 = .int .i64 x156_3 ∧ Aside0 (laws_FnWalksMean.l0 kq l1 t351 t352 t353 t363 t364 x19_3 t363 (t363.length : Int) x156_3 = some r) ∧ Aside0 (kq ≤ kj22) ∧ Aside0 (Kd.R (Kd.int .i64) 3 w' w.heap.size (fun _ => True) (.slice Ao31 t363.length co31) t363) ∧ Aside0 (Kd.R (Kd.int .i64) 3 w' w.heap.size (fun _ => True) (.slice Ao31 t363.length co31) t363) ∧ Aside0 (Below w.heap.size w w'))
     case atStart => exact ⟨(0), (0), rF, rF, H', kR, ⟨rU HO366.out⟩, ⟨rU HO366.out⟩, hV HB⟩
     case round => as_aux_lemma =>
      clear H'
      try clear c28;try clear c28b0;try clear c28b1
      obtain ⟨x19_3, x156_3, rfl, rfl, HA, HK3, HO_17, HO_154, HB⟩ := hrel
      obtain rfl | ⟨k3, rfl⟩ := fz gk
      ·exact zA HA
      have H := HA.out
      clear HA
      simp only [laws_FnWalksMean.l0] at H
      refine iI H ?_ ?_ <;> clear H <;> intro c32 H
      ·have c32b0 := dT c32
       clear c32
       refine iY H ?_; clear H; intro c33 H
       have c33b0 := dT c33
       clear c33
       refine iY H ?_; clear H; intro c34 H
       have c34b0 := dT c34
       clear c34
       replace H := bC H; obtain ⟨⟨t368, t369⟩, A35, H⟩ := H; try dsimp only at H
       replace H := bC H; obtain ⟨⟨t370, t371⟩, A36, H⟩ := H; try dsimp only at H
       refine iBy H ?_; clear H; rintro rfl H
       refine iBy H ?_; clear H; rintro rfl H
       have H' := aM H
       clear H
       have p367 : 0 ≤ (x156_3 : Int) := oD
       have q367 : x156_3 < (t363.length : Int) := oD
       obtain ⟨ad367, e367, hx367_0⟩ := Kd.at_int (Kd.R_reads' HO_154.out).2.2 x156_3 p367 q367
       cases e367
       replace p367 := eq_true p367
       replace q367 := eq_true q367
       go_wp2_with (first | ((with_reducible refine gG 37 (some 163) rfl rfl ?_); refine gC Tryd.func37 (impl_MoveRing.calls t351 (rd t363 x156_3) t368 true _ A35.out) ?_; rintro w39 hb; replace HO_17 := rB HO_17 hb; replace HO_154 := rB HO_154 hb; replace HB := hS HB hb; clear hb) | ((with_reducible refine gG 31 (some 169) rfl rfl ?_); refine gC Tryd.func31 (impl_MeanFrom.calls k3 t368 t352 t370 true _ A36.out) ?_; rintro w40 hb; replace HO_17 := rB HO_17 hb; replace HO_154 := rB HO_154 hb; replace HB := hS HB hb; clear hb))
       go_roundg k3
       case measure => have := HJ9.out; have := HJ22.out; have := HK3.out; omega
       case rel => exact ⟨(wrap64 (x19_3 + t370)), (wrap64 (x156_3 + 1)), rF, rF, H', ⟨by have := HJ9.out; have := HJ22.out; have := HK3.out; omega⟩, ⟨rU HO_17.out⟩, ⟨rU HO_154.out⟩, hV HB⟩
      have c32b0 := dF c32
      clear c32
      refine iBy H ?_; clear H; rintro rfl H
      refine iY H ?_; clear H; intro c42 H
      have c42b0 := qT c42
      have c42b1 := nF c42
      clear c42
      have H' := aM H
      clear H
      go_wp2
      go_meet
      case rel => exact ⟨_, H', ⟨by have := HJ9.out; have := HJ22.out; have := HK3.out; first | omega | exact Nat.le_refl _⟩, hV HB⟩
   have H' := aM H
   clear H
   go_wp2
   go_meet
   case rel => exact ⟨_, H', ⟨by have := HJ9.out; first | omega | exact Nat.le_refl _⟩, hV HB⟩
  case rest => as_aux_lemma =>
   clear HC20
   obtain ⟨kq, HA, HJ19, HB⟩ := hcut
   obtain rfl | ⟨kj19, rfl⟩ := fz kq
   ·exact zA HA
   have H := HA.out
   clear HA
   simp only [laws_FnWalksMean.j3] at H
   replace H := bC H; obtain ⟨⟨t372, t373, t374⟩, A43, H⟩ := H; try dsimp only at H
   replace H := bC H; obtain ⟨⟨t375, t376, t377⟩, A44, H⟩ := H; try dsimp only at H
   replace H := bC H; obtain ⟨⟨t378, t379, t380⟩, A45, H⟩ := H; try dsimp only at H
   replace H := bC H; obtain ⟨⟨t381, t382, t383⟩, A46, H⟩ := H; try dsimp only at H
   replace H := bC H; obtain ⟨⟨t384, t385⟩, A47, H⟩ := H; try dsimp only at H
   replace H := bC H; obtain ⟨⟨t386, t387⟩, A48, H⟩ := H; try dsimp only at H
   replace H := bC H; obtain ⟨⟨t388, t389, t390⟩, A49, H⟩ := H; try dsimp only at H
   replace H := bC H; obtain ⟨⟨t391, t392, t393⟩, A50, H⟩ := H; try dsimp only at H
   replace H := bC H; obtain ⟨⟨t394, t395⟩, A51, H⟩ := H; try dsimp only at H
   replace H := bC H; obtain ⟨⟨t398, t399⟩, A52, H⟩ := H; try dsimp only at H
   have HC53 := aM H
   clear H
   go_upto_region 38 with (first | ((with_reducible refine gG 38 (some 195) rfl rfl ?_); refine gC Tryd.func38 (spec_DrawChanceBefore.calls kj19 _ _ l1 t372 t373 t374 _ (cU (Kd.C_below HR1.out HB.out)) HC1.out A43.out) ?_; rintro w54 hb; replace HB := hS HB hb; clear hb) | ((with_reducible refine gG 39 (some 203) rfl rfl ?_); refine gC Tryd.func39 (impl_ChanceBefore.calls kj19 t372 t373 t374 t375 t376 t377 _ A44.out) ?_; rintro w55 hb; replace HB := hS HB hb; clear hb) | ((with_reducible refine gG 40 (some 211) rfl rfl ?_); refine gL Tryd.func40 #[.string t372, .string t373, .string t374] ?_; (with_reducible refine (spec_ChanceBefore.calls kj19 t372 t373 t374 t378 t379 t380 _ A45.out).mono ?_); rintro e w' ⟨rfl, ⟨nd, rfl⟩⟩; refine ⟨_, rfl, ?_⟩) | ((with_reducible refine gG 41 (some 217) rfl rfl ?_); refine gC Tryd.func41 (spec_DrawWalksTo.calls kj19 _ _ l1 t381 t382 t383 _ (Kd.C_below HR1.out (bel HB)) HC1.out A46.out) ?_; rintro w56 hb; replace HB := hS HB hb; clear hb) | ((with_reducible refine gG 42 (some 225) rfl rfl ?_); refine gC Tryd.func42 (impl_WalksTo.calls kj19 t381 t382 t383 t384 t385 _ A47.out) ?_; rintro w57 hb; replace HB := hS HB hb; clear hb) | ((with_reducible refine gG 43 (some 232) rfl rfl ?_); refine gC Tryd.func43 (spec_WalksTo.calls kj19 t381 t382 t383 t386 t387 _ A48.out) ?_; rintro w58 hb; replace HB := hS HB hb; clear hb) | ((with_reducible refine gG 44 (some 239) rfl rfl ?_); refine gC Tryd.func44 (impl_ChanceAfter.calls kj19 t381 t382 t383 t388 t389 t390 _ A49.out) ?_; rintro w59 hb; replace HB := hS HB hb; clear hb) | ((with_reducible refine gG 45 (some 247) rfl rfl ?_); refine gC Tryd.func45 (spec_ChanceAfter.calls kj19 t381 t382 t383 t391 t392 t393 _ A50.out) ?_; rintro w60 hb; replace HB := hS HB hb; clear hb) | ((with_reducible refine gG 46 (some 254) rfl rfl ?_); refine gD Tryd.func46 (impl_LikeliestAfter.calls kj19 t381 t383 t394 t395 _ A51.out) ?_; rintro w61 v396 ⟨ho0, hb⟩; have HO397 := rL ho0 HB; replace HB := hS HB hb; clear hb ho0) | ((with_reducible refine gG 47 (some 260) rfl rfl ?_); refine gD Tryd.func47 (spec_LikeliestAfter.calls kj19 t381 t383 t398 t399 _ A52.out) ?_; rintro w62 v400 ⟨ho0, hb⟩; have HO401 := aM (Kd.R_lower (Kd.R_new' ho0 (Kd.R_lt (rU HO397.out))) (below_size (bel HB))); replace HO397 := aM (Kd.R_elder' (rU HO397.out) (Kd.R_base ho0) hb); replace HB := hS HB hb; clear hb ho0))
   (try simp only [Act.put, List.setIfInBounds_toArray, List.set_cons_zero, List.set_cons_succ])
   go_cut [323] from 193 to 323 (fun v323 wc => ∃ (kq : Nat) (x323_52 : Bool), v323 = .bool x323_52 ∧ Aside0 (laws_FnWalksMean.j4 kq t372 t373 t374 t375 t376 t377 t381 t382 t383 t384 t388 t389 t390 t394 x323_52 = some r) ∧ Aside0 (kq ≤ kj19) ∧ Aside0 (Kd.R Kd.string 9 wc w.heap.size (fun _ => True) v396 t394) ∧ Aside0 (Below w.heap.size w wc))
   case first => as_aux_lemma =>
    have H := HC53.out
    clear HC53
    refine iN H ?_; clear H; intro c63 H
    have c63b0 := bF c63
    (try have c63b1 := nD c63)
    (try have c63b2 := nQ c63)
    clear c63
    (first | rw [c63b0] | (simp only [i64_w, i32_w]; rw [c63b0]) | skip)
    refine iY H ?_; clear H; intro c64 H
    have c64b0 := qT c64
    have c64b1 := nF c64
    clear c64
    refine iY H ?_; clear H; intro c65 H
    have c65b0 := qT c65
    have c65b1 := nF c65
    clear c65
    refine iN H ?_; clear H; intro c66 H
    have c66b0 := bF c66
    (try have c66b1 := nD c66)
    (try have c66b2 := nQ c66)
    clear c66
    refine iY H ?_; clear H; intro c67 H
    have c67b0 := qT c67
    have c67b1 := nF c67
    clear c67
    refine iN H ?_; clear H; intro c68 H
    have c68b0 := bF c68
    (try have c68b1 := nD c68)
    (try have c68b2 := nQ c68)
    clear c68
    refine iY H ?_; clear H; intro c69 H
    have c69b0 := qT c69
    have c69b1 := nF c69
    clear c69
    refine iY H ?_; clear H; intro c70 H
    have c70b0 := qT c70
    have c70b1 := nF c70
    clear c70
    refine iN H ?_; clear H; intro c71 H
    have c71b0 := bF c71
    (try have c71b1 := nD c71)
    (try have c71b2 := nQ c71)
    clear c71
    refine iN H ?_; clear H; intro c72 H
    have c72b0 := bF c72
    (try have c72b1 := nD c72)
    (try have c72b2 := nQ c72)
    clear c72
    replace H := bC H; obtain ⟨t402, A73, H⟩ := H
    refine iBy H ?_; clear H; rintro rfl H
    refine iB H ?_ ?_ <;> clear H <;> rintro rfl H
    ·have H' := aM H
     clear H
     obtain ⟨Ao76, co76, eo76⟩ := Kd.R_slice HO397.out
     subst eo76
     obtain ⟨Ao77, co77, eo77⟩ := Kd.R_slice HO401.out
     subst eo77
     go_wp2_with (first | (go_at_call 18; (with_reducible refine (laws_yTexts.calls kj19 _ _ t394 _ _ t398 true _ (cU (Kd.R_reads' HO397.out).2.2) ((Kd.R_reads' HO397.out).2.1) (cU (Kd.R_reads' HO401.out).2.2) ((Kd.R_reads' HO401.out).2.1) A73.out).mono ?_); rintro e w' ⟨rfl, ⟨nd, rfl⟩⟩))
     go_meet
     case rel => exact ⟨_, (!t395), rF, H', ⟨by have := HJ9.out; have := HJ19.out; first | omega | exact Nat.le_refl _⟩, ⟨rU (Kd.R_mono HO397.out (fun _ hk => trivial))⟩, hV HB⟩
    have H' := aM H
    clear H
    obtain ⟨Ao78, co78, eo78⟩ := Kd.R_slice HO397.out
    subst eo78
    obtain ⟨Ao79, co79, eo79⟩ := Kd.R_slice HO401.out
    subst eo79
    go_wp2_with (first | (go_at_call 18; (with_reducible refine (laws_yTexts.calls kj19 _ _ t394 _ _ t398 true _ (cU (Kd.R_reads' HO397.out).2.2) ((Kd.R_reads' HO397.out).2.1) (cU (Kd.R_reads' HO401.out).2.2) ((Kd.R_reads' HO401.out).2.1) A73.out).mono ?_); rintro e w' ⟨rfl, ⟨nd, rfl⟩⟩))
    go_meet
    case rel => exact ⟨_, (false), rF, H', ⟨by have := HJ9.out; have := HJ19.out; first | omega | exact Nat.le_refl _⟩, ⟨rU (Kd.R_mono HO397.out (fun _ hk => trivial))⟩, hV HB⟩
   case rest => as_aux_lemma =>
    clear HC53
    obtain ⟨kq, x323_52, rfl, HA, HJ52, HO_48, HB⟩ := hcut
    obtain rfl | ⟨kj52, rfl⟩ := fz kq
    ·exact zA HA
    have H := HA.out
    clear HA
    simp only [laws_FnWalksMean.j4] at H
    refine iBn H ?_; clear H; rintro rfl H
    have HC81 := aM H
    clear H
    go_upto_if 324 with (fail)
    go_cut [] from 324 to 324 (fun wc => ∃ (kq : Nat), Aside0 (laws_FnWalksMean.j5 kq t381 t382 t383 t384 t388 t389 t390 t394 = some r) ∧ Aside0 (kq ≤ kj52) ∧ Aside0 (Kd.R Kd.string 9 wc w.heap.size (fun _ => True) v396 t394) ∧ Aside0 (Below w.heap.size w wc))
    case first => as_aux_lemma =>
     have H := HC81.out
     clear HC81
     refine iB H ?_ ?_ <;> clear H <;> rintro rfl H
     ·replace H := bC H; obtain ⟨⟨t403, t404, t405⟩, A83, H⟩ := H; try dsimp only at H
      refine iBy H ?_; clear H; rintro rfl H
      refine iY H ?_; clear H; intro c85 H
      have c85b0 := qT c85
      have c85b1 := nF c85
      clear c85
      (first | rw [c85b0] | (simp only [i64_w, i32_w]; rw [c85b0]) | skip)
      refine iI H ?_ ?_ <;> clear H <;> intro c86 H
      ·have c86b0 := qT c86
       have c86b1 := nF c86
       clear c86
       refine iY H ?_; clear H; intro c87 H
       have c87b0 := qT c87
       have c87b1 := nF c87
       clear c87
       refine iI H ?_ ?_ <;> clear H <;> intro c88 H
       ·have c88b0 := qT c88
        have c88b1 := nF c88
        clear c88
        refine iY H ?_; clear H; intro c89 H
        have c89b0 := qT c89
        have c89b1 := nF c89
        clear c89
        have H' := aM H
        clear H
        go_wp2_with (first | ((with_reducible refine gG 39 (some 329) rfl rfl ?_); refine gC Tryd.func39 (impl_ChanceBefore.calls kj52 t372 t374 t373 t403 t404 true _ A83.out) ?_; rintro w90 hb; replace HO_48 := rB HO_48 hb; replace HB := hS HB hb; clear hb))
        go_meet
        case rel => exact ⟨_, H', ⟨by have := HJ9.out; have := HJ19.out; have := HJ52.out; first | omega | exact Nat.le_refl _⟩, ⟨rU HO_48.out⟩, hV HB⟩
       have c88b0 := qF c88
       have c88b1 := nT c88
       have H' := aM H
       clear H
       go_wp2_with (first | ((with_reducible refine gG 39 (some 329) rfl rfl ?_); refine gC Tryd.func39 (impl_ChanceBefore.calls kj52 t372 t374 t373 t403 t404 true _ A83.out) ?_; rintro w91 hb; replace HO_48 := rB HO_48 hb; replace HB := hS HB hb; clear hb))
       go_meet
       case rel => exact ⟨_, H', ⟨by have := HJ9.out; have := HJ19.out; have := HJ52.out; first | omega | exact Nat.le_refl _⟩, ⟨rU HO_48.out⟩, hV HB⟩
      have c86b0 := qF c86
      have c86b1 := nT c86
      refine iI H ?_ ?_ <;> clear H <;> intro c92 H
      ·have c92b0 := qT c92
       have c92b1 := nF c92
       clear c92
       refine iY H ?_; clear H; intro c93 H
       have c93b0 := qT c93
       have c93b1 := nF c93
       clear c93
       have H' := aM H
       clear H
       go_wp2_with (first | ((with_reducible refine gG 39 (some 329) rfl rfl ?_); refine gC Tryd.func39 (impl_ChanceBefore.calls kj52 t372 t374 t373 t403 t404 true _ A83.out) ?_; rintro w94 hb; replace HO_48 := rB HO_48 hb; replace HB := hS HB hb; clear hb))
       go_meet
       case rel => exact ⟨_, H', ⟨by have := HJ9.out; have := HJ19.out; have := HJ52.out; first | omega | exact Nat.le_refl _⟩, ⟨rU HO_48.out⟩, hV HB⟩
      have c92b0 := qF c92
      have c92b1 := nT c92
      have H' := aM H
      clear H
      go_wp2_with (first | ((with_reducible refine gG 39 (some 329) rfl rfl ?_); refine gC Tryd.func39 (impl_ChanceBefore.calls kj52 t372 t374 t373 t403 t404 true _ A83.out) ?_; rintro w95 hb; replace HO_48 := rB HO_48 hb; replace HB := hS HB hb; clear hb))
      go_meet
      case rel => exact ⟨_, H', ⟨by have := HJ9.out; have := HJ19.out; have := HJ52.out; first | omega | exact Nat.le_refl _⟩, ⟨rU HO_48.out⟩, hV HB⟩
     have H' := aM H
     clear H
     go_wp2
     go_meet
     case rel => exact ⟨_, H', ⟨by have := HJ9.out; have := HJ19.out; have := HJ52.out; first | omega | exact Nat.le_refl _⟩, ⟨rU HO_48.out⟩, hV HB⟩
    case rest => as_aux_lemma =>
     clear HC81
     obtain ⟨kq, HA, HJ80, HO_48, HB⟩ := hcut
     obtain rfl | ⟨kj80, rfl⟩ := fz kq
     ·exact zA HA
     have H := HA.out
     clear HA
     simp only [laws_FnWalksMean.j5] at H
     refine iB H ?_ ?_ <;> clear H <;> rintro rfl H
     ·have HC97 := aM H
      clear H
      go_upto_region 45 with (fail)
      go_cut [393] from 367 to 393 (fun v393 wc => ∃ (kq : Nat) (x393_96 : Bool), v393 = .bool x393_96 ∧ Aside0 (laws_FnWalksMean.j6 kq t381 t382 t383 t384 t388 t389 t394 x393_96 = some r) ∧ Aside0 (kq ≤ kj80) ∧ Aside0 (Kd.R Kd.string 9 wc w.heap.size (fun _ => True) v396 t394) ∧ Aside0 (Below w.heap.size w wc))
      case first => as_aux_lemma =>
       have H := HC97.out
       clear HC97
       refine iN H ?_; clear H; intro c98 H
       have c98b0 := bF c98
       (try have c98b1 := nD c98)
       (try have c98b2 := nQ c98)
       clear c98
       (first | rw [c98b0] | (simp only [i64_w, i32_w]; rw [c98b0]) | skip)
       refine iN H ?_; clear H; intro c99 H
       have c99b0 := dF c99
       clear c99
       refine iN H ?_; clear H; intro c100 H
       have c100b0 := gF c100
       clear c100
       refine iI H ?_ ?_ <;> clear H <;> intro c101 H
       ·have c101b0 := qT c101
        have c101b1 := nF c101
        clear c101
        have H' := aM H
        clear H
        go_wp2
        go_meet
        case rel => exact ⟨_, (((t388 == 1) != (t381.toList == t382.toList))), rF, H', ⟨by have := HJ9.out; have := HJ19.out; have := HJ52.out; have := HJ80.out; first | omega | exact Nat.le_refl _⟩, ⟨rU HO_48.out⟩, hV HB⟩
       have c101b0 := qF c101
       have c101b1 := nT c101
       have H' := aM H
       clear H
       go_wp2
       go_meet
       case rel => exact ⟨_, (false), rF, H', ⟨by have := HJ9.out; have := HJ19.out; have := HJ52.out; have := HJ80.out; first | omega | exact Nat.le_refl _⟩, ⟨rU HO_48.out⟩, hV HB⟩
      case rest => as_aux_lemma =>
       clear HC97
       obtain ⟨kq, x393_96, rfl, HA, HJ96, HO_48, HB⟩ := hcut
       obtain rfl | ⟨kj96, rfl⟩ := fz kq
       ·exact zA HA
       have H := HA.out
       clear HA
       simp only [laws_FnWalksMean.j6] at H
       refine iBn H ?_; clear H; rintro rfl H
       replace H := bC H; obtain ⟨⟨t406, t407⟩, A103, H⟩ := H; try dsimp only at H
       have HC104 := aM H
       clear H
       go_upto_region 48 with (first | ((with_reducible refine gG 42 (some 398) rfl rfl ?_); refine gC Tryd.func42 (impl_WalksTo.calls kj96 t382 t381 t383 t406 t407 _ A103.out) ?_; rintro w105 hb; replace HO_48 := rB HO_48 hb; replace HB := hS HB hb; clear hb))
       (try simp only [Act.put, List.setIfInBounds_toArray, List.set_cons_zero, List.set_cons_succ])
       go_cut [407] from 394 to 407 (fun v407 wc => ∃ (kq : Nat) (x407_103 : Bool), v407 = .bool x407_103 ∧ Aside0 (laws_FnWalksMean.j7 kq t381 t382 t383 t384 t388 t389 t394 x407_103 = some r) ∧ Aside0 (kq ≤ kj96) ∧ Aside0 (Kd.R Kd.string 9 wc w.heap.size (fun _ => True) v396 t394) ∧ Aside0 (Below w.heap.size w wc))
       case first => as_aux_lemma =>
        have H := HC104.out
        clear HC104
        refine iBy H ?_; clear H; rintro rfl H
        have H' := aM H
        clear H
        go_wp2
        go_meet
        case rel => exact ⟨_, ((t406 != t384)), rF, H', ⟨by have := HJ9.out; have := HJ19.out; have := HJ52.out; have := HJ80.out; have := HJ96.out; first | omega | exact Nat.le_refl _⟩, ⟨rU HO_48.out⟩, hV HB⟩
       case rest => as_aux_lemma =>
        clear HC104
        obtain ⟨kq, x407_103, rfl, HA, HJ103, HO_48, HB⟩ := hcut
        obtain rfl | ⟨kj103, rfl⟩ := fz kq
        ·exact zA HA
        have H := HA.out
        clear HA
        simp only [laws_FnWalksMean.j7] at H
        refine iBn H ?_; clear H; rintro rfl H
        refine iN H ?_; clear H; intro c108 H
        have c108b0 := dF c108
        have c108b1 : decide (t394.length < 1) = false := decide_eq_false (by omega)
        clear c108
        refine iY H ?_; clear H; intro c109 H
        have c109b0 := dT c109
        have c109b1 : decide (0 < t394.length) = true := decide_eq_true (by omega)
        clear c109
        replace H := bC H; obtain ⟨⟨t409, t410, t411⟩, A110, H⟩ := H; try dsimp only at H
        have HC111 := aM H
        clear H
        obtain ⟨Ao112, co112, eo112⟩ := Kd.R_slice HO_48.out
        subst eo112
        have p408 : 0 ≤ (0 : Int) := (by omega)
        have q408 : 0 < (t394.length : Int) := oD
        obtain ⟨ad408, e408, hx408_0⟩ := Kd.at_string (Kd.R_reads' HO_48.out).2.2 0 p408 q408
        cases e408
        have qi408 : (0 < t394.length) = True := eq_true (by omega)
        (try rw [show ((0 : Int)).toNat = 0 from rfl] at hx408_0)
        (try rw [Addr.add_zero'] at hx408_0)
        replace p408 := eq_true p408
        replace q408 := eq_true q408
        go_upto_region 53 with (first | ((with_reducible refine gG 44 (some 417) rfl rfl ?_); refine gC Tryd.func44 (impl_ChanceAfter.calls kj103 t381 (rdOf ByteArray.empty t394 0) t383 t409 t410 t411 _ A110.out) ?_; rintro w113 hb; replace HO_48 := rB HO_48 hb; replace HB := hS HB hb; clear hb))
        (try simp only [Act.put, List.setIfInBounds_toArray, List.set_cons_zero, List.set_cons_succ])
        go_cut [435] from 408 to 435 (fun v435 wc => ∃ (kq : Nat) (x435_110 : Bool), v435 = .bool x435_110 ∧ Aside0 (laws_FnWalksMean.j8 kq t381 t382 t383 t384 x435_110 = some r) ∧ Aside0 (kq ≤ kj103) ∧ Aside0 (Below w.heap.size w wc))
        case first => as_aux_lemma =>
         have H := HC111.out
         clear HC111
         refine iBy H ?_; clear H; rintro rfl H
         refine iI H ?_ ?_ <;> clear H <;> intro c115 H
         ·have c115b0 := dT c115
          clear c115
          (first | rw [c115b0] | (simp only [i64_w, i32_w]; rw [c115b0]) | skip)
          have H' := aM H
          clear H
          go_wp2
          go_meet
          case rel => exact ⟨_, (decide ((wrap64 (t409 * t389)) < (wrap64 (t388 * t410)))), rF, H', ⟨by have := HJ9.out; have := HJ19.out; have := HJ52.out; have := HJ80.out; have := HJ96.out; have := HJ103.out; first | omega | exact Nat.le_refl _⟩, hV HB⟩
         have c115b0 := dF c115
         clear c115
         (first | rw [c115b0] | (simp only [i64_w, i32_w]; rw [c115b0]) | skip)
         have H' := aM H
         clear H
         go_wp2
         go_meet
         case rel => exact ⟨_, (false), rF, H', ⟨by have := HJ9.out; have := HJ19.out; have := HJ52.out; have := HJ80.out; have := HJ96.out; have := HJ103.out; first | omega | exact Nat.le_refl _⟩, hV HB⟩
        case rest => as_aux_lemma =>
         clear HC111
         try clear c108b0;try clear c108b1;try clear c109b0;try clear c109b1;try clear hx408_0;try clear p408;try clear q408
         obtain ⟨kq, x435_110, rfl, HA, HJ110, HB⟩ := hcut
         obtain rfl | ⟨kj110, rfl⟩ := fz kq
         ·exact zA HA
         have H := HA.out
         clear HA
         simp only [laws_FnWalksMean.j8] at H
         refine iBn H ?_; clear H; rintro rfl H
         refine iI H ?_ ?_ <;> clear H <;> intro c117 H
         ·have c117b0 := gT c117
          clear c117
          replace H := bC H; obtain ⟨⟨t412, t413⟩, A118, H⟩ := H; try dsimp only at H
          have H' := aM H
          clear H
          go_wp2_with (first | ((with_reducible refine gG 36 (some 440) rfl rfl ?_); refine gD Tryd.func36 (impl_MovesOf.calls kj110 t381 t412 t413 _ A118.out) ?_; rintro w119 v414 ⟨ho0, hb⟩; have HO415 := rL ho0 HB; replace HB := hS HB hb; clear hb ho0; obtain ⟨Ao120, co120, eo120⟩ := Kd.R_slice HO415.out; subst eo120))
          go_loopg [62, 445] kj110 (fun kq v62 v445 w' => ∃ (x62_8 : Int) (x445_8 : Int), v62 = .int .i64 x62_8 ∧ v445 = .int .i64 x445_8 ∧ Aside0 (laws_FnWalksMean.l1 kq t381 t382 t383 t384 t413 x62_8 t412 (t412.length : Int) x445_8 = some r) ∧ Aside0 (kq ≤ kj110) ∧ Aside0 (Kd.R (Kd.int .i64) 3 w' w.heap.size (fun _ => True) (.slice Ao120 t412.length co120) t412) ∧ Aside0 (Below w.heap.size w w'))
          case atStart => exact ⟨(0), (0), rF, rF, H', kR, ⟨rU HO415.out⟩, hV HB⟩
          case round => as_aux_lemma =>
           clear H'
           try clear c117b0
           obtain ⟨x62_8, x445_8, rfl, rfl, HA, HK8, HO_443, HB⟩ := hrel
           obtain rfl | ⟨k8, rfl⟩ := fz gk
           ·exact zA HA
           have H := HA.out
           clear HA
           simp only [laws_FnWalksMean.l1] at H
           refine iI H ?_ ?_ <;> clear H <;> intro c121 H
           ·have c121b0 := dT c121
            clear c121
            refine iY H ?_; clear H; intro c122 H
            have c122b0 := dT c122
            clear c122
            refine iY H ?_; clear H; intro c123 H
            have c123b0 := dT c123
            clear c123
            replace H := bC H; obtain ⟨⟨t417, t418⟩, A124, H⟩ := H; try dsimp only at H
            replace H := bC H; obtain ⟨⟨t419, t420⟩, A125, H⟩ := H; try dsimp only at H
            refine iBy H ?_; clear H; rintro rfl H
            refine iBy H ?_; clear H; rintro rfl H
            have H' := aM H
            clear H
            have p416 : 0 ≤ (x445_8 : Int) := oD
            have q416 : x445_8 < (t412.length : Int) := oD
            obtain ⟨ad416, e416, hx416_0⟩ := Kd.at_int (Kd.R_reads' HO_443.out).2.2 x445_8 p416 q416
            cases e416
            replace p416 := eq_true p416
            replace q416 := eq_true q416
            go_wp2_with (first | ((with_reducible refine gG 37 (some 452) rfl rfl ?_); refine gC Tryd.func37 (impl_MoveRing.calls t381 (rd t412 x445_8) t417 true _ A124.out) ?_; rintro w128 hb; replace HO_443 := rB HO_443 hb; replace HB := hS HB hb; clear hb) | ((with_reducible refine gG 42 (some 460) rfl rfl ?_); refine gC Tryd.func42 (impl_WalksTo.calls k8 t417 t382 (wrap64 (t383 - 1)) t419 true _ A125.out) ?_; rintro w129 hb; replace HO_443 := rB HO_443 hb; replace HB := hS HB hb; clear hb))
            go_roundg k8
            case measure => have := HJ9.out; have := HJ19.out; have := HJ52.out; have := HJ80.out; have := HJ96.out; have := HJ103.out; have := HJ110.out; have := HK8.out; omega
            case rel => exact ⟨(wrap64 (x62_8 + t419)), (wrap64 (x445_8 + 1)), rF, rF, H', ⟨by have := HJ9.out; have := HJ19.out; have := HJ52.out; have := HJ80.out; have := HJ96.out; have := HJ103.out; have := HJ110.out; have := HK8.out; omega⟩, ⟨rU HO_443.out⟩, hV HB⟩
           have c121b0 := dF c121
           clear c121
           refine iBy H ?_; clear H; rintro rfl H
           refine iY H ?_; clear H; intro c131 H
           have c131b0 := qT c131
           have c131b1 := nF c131
           clear c131
           obtain rfl := Option.some.inj H
           go_wp2
           go_ret
           exact ⟨eW, bel HB⟩
         have c117b0 := gF c117
         clear c117
         obtain rfl := Option.some.inj H
         go_wp2
         go_ret
         exact ⟨eW, bel HB⟩
     obtain rfl := Option.some.inj H
     go_wp2
     go_ret
     exact ⟨eW, bel HB⟩

/-- THE ONE PURE STATEMENT of laws_FnWalksMean: yours. -/
def laws_FnWalksMean.Pure : Prop := ∀ (l0 : List Int) (l1 : List Int), l0.length ≤ maxLen → l0.length * 1 ≤ 140737488351232 → (∀ x ∈ l0, (Lit.int .u8 x).wf = true) → l1.length ≤ maxLen → l1.length * 1 ≤ 140737488351232 → (∀ x ∈ l1, (Lit.int .u8 x).wf = true) → ∃ k, laws_FnWalksMean.f k l0 l1 = some true
end Go.Proofs.YtcogjabdddikjaaDoor.PWMn
