-- squeezed; PRINTED by drive.py (a program of this session's, over the kit's print.py; wip/tools/drive.py). Lean checks it.
import Derived.Test.YtiiahdjjngdgoaaDoorQPLTickx0
import Derived.Test.YtiiahdjjngdgoaaDoorQPLTickx1
import Derived.Test.YtiiahdjjngdgoaaDoorQPLTickx4
import Derived.Test.YtiiahdjjngdgoaaDoorQPLTickx5
import Derived.Test.YtiiahdjjngdgoaaDoorQPLTickx6
import Derived.Test.YtiiahdjjngdgoaaDoorQPLTickx7
import Derived.Test.YtiiahdjjngdgoaaDoorQPLTickx8
import Derived.Test.YtiiahdjjngdgoaaDoorQPLTickx9
import Derived.Test.YtiiahdjjngdgoaaDoorQPLTickx10
import Derived.Test.YtiiahdjjngdgoaaDoorQPLTickx11
import Derived.Test.YtiiahdjjngdgoaaDoorQPLTickx12
import Derived.Test.YtiiahdjjngdgoaaDoorQRange
import Derived.Test.YtiiahdjjngdgoaaDoorQPLTickx13
import Derived.Test.YtiiahdjjngdgoaaDoorQUp
import Derived.Test.YtiiahdjjngdgoaaDoorQSq
namespace Go.Proofs.YtiiahdjjngdgoaaDoor.PLTick
open Go.RowKit Go.Proofs.YtiiahdjjngdgoaaDoorW.PrintWords Go.Proofs.YtiiahdjjngdgoaaDoorW.PrintLast Go.Proofs.YtiiahdjjngdgoaaDoorW.PrintMore
attribute [local go_sem] max2_int min2_int max_two min_two max_three min_three max_four min_four   -- for this text's walks alone
set_option linter.unusedVariables false
set_option linter.unusedSimpArgs false

set_option maxHeartbeats 8000000 in
set_option maxRecDepth 100000 in
theorem laws_FnLampsTick.calls (k : Nat) (A0 : Option Addr) (c0 : Nat) (l0 : List Int) (A1 : Option Addr) (c1 : Nat) (l1 : List Int) (r : Bool) (w : World) (hr0 : Kd.C (Kd.int .u8) w A0 l0.length l0) (hc0 : l0.length ≤ c0) (hr1 : Kd.C (Kd.int .u8) w A1 l1.length l1) (hc1 : l1.length ≤ c1) (h : laws_FnLampsTick.f k l0 l1 = some r) :
  Calls Tryd.prog 3 #[.slice A0 l0.length c0, .slice A1 l1.length c1] w fun e w' => e = .returned (.bool r) ∧ Below w.heap.size w w' := by
 have hu26 := Tryd.underlying26
 have HR0 := aM hr0
 have HC0 := aM hc0
 clear hr0 hc0
 have HR1 := aM hr1
 have HC1 := aM hc1
 clear hr1 hc1
 have HB := aM (Below.refl w.heap.size w)
 have H := h
 clear h; unfold laws_FnLampsTick.f at H
 replace H := bC H; obtain ⟨t402, A3, H⟩ := H
 refine iB H ?_ ?_ <;> clear H <;> rintro rfl H
 ·obtain rfl := Option.some.inj H
  go_enter Tryd.func3, Tryd.ntmps3
  go_wp2_with (first | ((with_reducible refine gG 6 (some 61) rfl rfl ?_); refine gL Tryd.func6 #[.slice A0 l0.length c0, .slice A1 l1.length c1] ?_; (with_reducible refine (laws_big.calls _ _ l0 _ _ l1 true _ (cU HR0.out) HC0.out (cU HR1.out) HC1.out A3.out).mono ?_); rintro e w' ⟨rfl, ⟨nd, rfl⟩⟩; refine ⟨_, rfl, ?_⟩))
  go_ret
  exact ⟨eW, bel HB⟩
 replace H := bC H; obtain ⟨⟨t403, t406, t407⟩, A5, H⟩ := H; try dsimp only at H
 replace H := bC H; obtain ⟨⟨t409, t410⟩, A6, H⟩ := H; try dsimp only at H
 replace H := bC H; obtain ⟨⟨t411, t412⟩, A7, H⟩ := H; try dsimp only at H
 replace H := bC H; obtain ⟨⟨t413, t416⟩, A8, H⟩ := H; try dsimp only at H
 replace H := bC H; obtain ⟨⟨t417, t420⟩, A9, H⟩ := H; try dsimp only at H
 have HC10 := aM H
 clear H
 go_enter Tryd.func3, Tryd.ntmps3
 go_upto_region 8 with (first | ((with_reducible refine gG 6 (some 61) rfl rfl ?_); refine gL Tryd.func6 #[.slice A0 l0.length c0, .slice A1 l1.length c1] ?_; (with_reducible refine (laws_big.calls _ _ l0 _ _ l1 false _ (cU HR0.out) HC0.out (cU HR1.out) HC1.out A3.out).mono ?_); rintro e w' ⟨rfl, ⟨nd, rfl⟩⟩; refine ⟨_, rfl, ?_⟩) | ((with_reducible refine gG 7 (some 64) rfl rfl ?_); refine gD Tryd.func7 (spec_DrawTicksAfter.calls k _ _ l0 t403 t406 t407 _ (cU HR0.out) HC0.out A5.out) ?_; rintro w11 v404 ⟨ho0, hb⟩; have HO405 := rL ho0 HB; replace HB := hS HB hb; clear hb ho0) | ((with_reducible refine gate_dst (N := 5) rfl ?_); (try (refine gate_guard (by rfl) ?_; dsimp only)); refine bX (N := 5) rfl (cs := #[.slice none 0 0]) (t := 26) ?_; intro gb408 hg w12 BK408 hb; have GW408 := gE hg HB; have GE408 := gE hg HB; replace HO405 := rB HO405 hb; replace HB := hS HB hb; clear hb hg; obtain ⟨Ao13, co13, eo13⟩ := Kd.R_slice HO405.out; subst eo13; obtain ⟨hcz14_0, hfz14_0⟩ := hC1 BK408) | ((with_reducible refine gG 8 (some 72) rfl rfl ?_); refine gL Tryd.func8 #[.agg #[.slice Ao13 t403.length co13], .string t406, .int .i64 t407] ?_; (with_reducible refine (impl_TicksAfter.calls k _ _ t403 t406 t407 t409 t410 _ ?side1 ((Kd.R_reads' HO405.out).2.1) A6.out).mono ?_); (case side1 => refine (Kd.R_reads' (e := 9) (base := w.heap.size) (ok := fun k_ => True) (n := t403.length) (c := co13) ?_).2.2; exact (rU (Kd.R_mono (Kd.R_far (p := ⟨gb408, 0, none⟩) (Kd.R_types HO405.out BK408.out (by decide)) (fun _ hk => hk.2) (.slice Ao13 t403.length co13)) (fun _ h_ => h_.1)))); rintro e w15 ⟨rfl, hb⟩; refine ⟨_, rfl, ?_⟩; replace HO405 := aM (Kd.R_below (rU (Kd.R_mono (Kd.R_far (p := ⟨gb408, 0, none⟩) (Kd.R_types HO405.out BK408.out (by decide)) (fun _ hk => hk.2) (.slice Ao13 t403.length co13)) (fun _ h_ => h_.1))) hb); replace BK408 := aM (blk_below (g := gb408) (o := .cells #[.slice Ao13 t403.length co13] 26 (0, 0)) (by (with_reducible repeat (first | refine blk_drewN ?_ _ | refine blk_drew ?_ | refine blk_alloc ?_ _)); refine blk_put (cs := #[.slice none 0 0]) ?_ 0 _ rfl; (with_reducible repeat (first | refine blk_drewN ?_ _ | refine blk_drew ?_ | refine blk_alloc ?_ _)); exact BK408.out) hb); replace HB := hS HB hb; clear hb; obtain ⟨hcz16_0, hfz16_0⟩ := hC1 BK408) | ((with_reducible refine gG 9 (some 79) rfl rfl ?_); refine gC Tryd.func9 (spec_TicksAfter.calls k _ _ t403 t406 t407 t411 t412 _ (cU (Kd.R_reads' HO405.out).2.2) ((Kd.R_reads' HO405.out).2.1) A7.out) ?_; rintro w17 hb; replace HO405 := rB HO405 hb; replace BK408 := bB BK408 hb; replace HB := hS HB hb; clear hb; obtain ⟨hcz18_0, hfz18_0⟩ := hC1 BK408) | ((with_reducible refine gG 10 (some 86) rfl rfl ?_); refine gD Tryd.func10 (impl_TimesChanging.calls k _ _ t403 t406 t407 t413 t416 _ (cU (Kd.R_reads' HO405.out).2.2) ((Kd.R_reads' HO405.out).2.1) A8.out) ?_; rintro w19 v414 ⟨ho0, hb⟩; have HO415 := rL ho0 HB; replace HO405 := rB HO405 hb; replace BK408 := bB BK408 hb; replace HB := hS HB hb; clear hb ho0; obtain ⟨hcz20_0, hfz20_0⟩ := hC1 BK408) | ((with_reducible refine gG 11 (some 93) rfl rfl ?_); refine gD Tryd.func11 (spec_TimesChanging.calls k _ _ t403 t406 t407 t417 t420 _ (cU (Kd.R_reads' HO405.out).2.2) ((Kd.R_reads' HO405.out).2.1) A9.out) ?_; rintro w21 v418 ⟨ho0, hb⟩; have HO419 := aM (Kd.R_lower (Kd.R_new' ho0 (Kd.R_lt (rU HO415.out))) (below_size (bel HB))); replace HO405 := rB HO405 hb; replace HO415 := aM (Kd.R_elder' (rU HO415.out) (Kd.R_base ho0) hb); replace BK408 := bB BK408 hb; replace HB := hS HB hb; clear hb ho0))
 (try simp only [Act.put, List.setIfInBounds_toArray, List.set_cons_zero, List.set_cons_succ])
 go_cut [134] from 59 to 134 (fun v134 wc => ∃ (kq : Nat) (x134_9 : Bool), v134 = .bool x134_9 ∧ Aside0 (laws_FnLampsTick.j0 kq l1 t406 t407 t409 t410 t413 x134_9 t403 = some r) ∧ Aside0 (kq ≤ k) ∧ Aside0 (Kd.R (Kd.int .i64) 3 wc w.heap.size (fun _ => True) v414 t413) ∧ Aside0 (Kd.R Kd.string 9 wc w.heap.size (fun _ => True) (.slice Ao13 t403.length co13) t403) ∧ Aside0 (wc.heap[gb408]? = some (.cells #[(.slice Ao13 t403.length co13)] 26 (0, 0))) ∧ Aside0 (Below w.heap.size w wc))
 case first => as_aux_lemma =>
  have H := HC10.out
  clear HC10
  refine iN H ?_; clear H; intro c22 H
  have c22b0 := bF c22
  (try have c22b1 := nD c22)
  (try have c22b2 := nQ c22)
  clear c22
  (first | rw [c22b0] | (simp only [i64_w, i32_w]; rw [c22b0]) | skip)
  refine iY H ?_; clear H; intro c23 H
  have c23b0 := qT c23
  have c23b1 := nF c23
  clear c23
  refine iN H ?_; clear H; intro c24 H
  have c24b0 := bF c24
  (try have c24b1 := nD c24)
  (try have c24b2 := nQ c24)
  clear c24
  replace H := bC H; obtain ⟨t421, A25, H⟩ := H
  refine iBy H ?_; clear H; rintro rfl H
  refine iN H ?_; clear H; intro c27 H
  have c27b0 := bF c27
  (try have c27b1 := nD c27)
  (try have c27b2 := nQ c27)
  clear c27
  replace H := bC H; obtain ⟨t422, A28, H⟩ := H
  replace H := bC H; obtain ⟨t423, A29, H⟩ := H
  refine iN H ?_; clear H; intro c30 H
  have c30b0 := bF c30
  (try have c30b1 := nD c30)
  (try have c30b2 := nQ c30)
  clear c30
  refine iB H ?_ ?_ <;> clear H <;> rintro rfl H
  ·replace H := bC H; obtain ⟨t424, A32, H⟩ := H
   have H' := aM H
   clear H
   try go_wp2
   have n0_ := aM (Kd.R_drew HO405.out)
   have n1_ := aM (Kd.R_drew HO415.out)
   have n2_ := aM (Kd.R_drew HO419.out)
   have n3_ := aM (blk_drew BK408.out)
   have n4_ := aM (below_drew1 HB.out)
   clear HO405
   clear HO415
   clear HO419
   clear BK408
   clear HB
   have HO405 := n0_
   have HO415 := n1_
   have HO419 := n2_
   have BK408 := n3_
   have HB := n4_
   clear n0_ n1_ n2_ n3_ n4_
   obtain ⟨Ao34, co34, eo34⟩ := Kd.R_slice HO415.out
   (first | subst eo34 | (injection eo34 with f1_ f2_ f3_; have f4_ := f1_.symm; have f5_ := f3_.symm; clear f1_ f2_ f3_; subst f4_; subst f5_))
   obtain ⟨Ao35, co35, eo35⟩ := Kd.R_slice HO419.out
   (first | subst eo35 | (injection eo35 with f1_ f2_ f3_; have f4_ := f1_.symm; have f5_ := f3_.symm; clear f1_ f2_ f3_; subst f4_; subst f5_))
   refine start_ (n := 39) (S := fun w' => w'.cell? ⟨gb408, 0, none⟩ = some (.slice Ao13 t403.length co13)) (ds := []) #[false, false, false, false, false, false, false, false, false, false, false, false, false, false, false, false, false, false, false, false, false, false, false, false, false, false, false, false, false, false, false, false, false, false, false, false, false, false, false] (by kernel_rfl) rfl rfl ((blk_cell BK408.out 0).trans rfl) (fun hHeld => ?_); refine with_tabW laws_FnLampsTick.tab8 laws_FnLampsTick.bits8 (fun HT_ HW_ => ?_)
   generalize w21.drew = w33 at HO405 HO415 HO419 BK408 HB hHeld ⊢
   refine pure_ (i := 0) (N := some 96) (v := ?_) (a' := ?_) #[true, false, false, false, false, false, false, false, false, false, false, false, false, false, false, false, false, false, false, false, false, false, false, false, false, false, false, false, false, false, false, false, false, false, false, false, false, false, false] rfl rfl (any_of HT_.out (by kernel_rfl)) (fun _ _ _ h => h) (Or.inl ⟨by rfl, ?_⟩) ?_ ?_
   rotate_left
   ·intro w'
    go_simp
    with_reducible rfl
   rotate_left
   ·simp only [Act.put, List.setIfInBounds_toArray, List.set_cons_zero, List.set_cons_succ, i64_w, i32_w]
    rfl
   refine pure_ (i := 1) (N := some 97) (v := ?_) (a' := ?_) #[true, true, false, false, false, false, false, false, false, false, false, false, false, false, false, false, false, false, false, false, false, false, false, false, false, false, false, false, false, false, false, false, false, false, false, false, false, false, false] rfl rfl (any_of HT_.out (by kernel_rfl)) (fun _ _ _ h => h) (Or.inl ⟨by rfl, ?_⟩) ?_ ?_
   rotate_left
   ·intro w'
    go_simp
    with_reducible rfl
   rotate_left
   ·simp only [Act.put, List.setIfInBounds_toArray, List.set_cons_zero, List.set_cons_succ, i64_w, i32_w]
    rfl
   refine pure_ (i := 2) (N := some 98) (v := ?_) (a' := ?_) #[true, true, true, false, false, false, false, false, false, false, false, false, false, false, false, false, false, false, false, false, false, false, false, false, false, false, false, false, false, false, false, false, false, false, false, false, false, false, false] rfl rfl (any_of HT_.out (by kernel_rfl)) (fun _ _ _ h => h) (Or.inl ⟨by rfl, ?_⟩) ?_ ?_
   rotate_left
   ·intro w'
    go_simp
    with_reducible rfl
   rotate_left
   ·simp only [Act.put, List.setIfInBounds_toArray, List.set_cons_zero, List.set_cons_succ, i64_w, i32_w]
    rfl
   refine pure_ (i := 3) (N := some 99) (v := ?_) (a' := ?_) #[true, true, true, true, false, false, false, false, false, false, false, false, false, false, false, false, false, false, false, false, false, false, false, false, false, false, false, false, false, false, false, false, false, false, false, false, false, false, false] rfl rfl (any_of HT_.out (by kernel_rfl)) (fun _ _ _ h => h) (Or.inl ⟨by rfl, ?_⟩) ?_ ?_
   rotate_left
   ·intro w'
    go_simp
    with_reducible rfl
   rotate_left
   ·simp only [Act.put, List.setIfInBounds_toArray, List.set_cons_zero, List.set_cons_succ, i64_w, i32_w]
    rfl
   refine pure_ (i := 4) (N := some 100) (v := ?_) (a' := ?_) #[true, true, true, true, true, false, false, false, false, false, false, false, false, false, false, false, false, false, false, false, false, false, false, false, false, false, false, false, false, false, false, false, false, false, false, false, false, false, false] rfl rfl (any_of HT_.out (by kernel_rfl)) (fun _ _ _ h => h) (Or.inl ⟨by rfl, ?_⟩) ?_ ?_
   rotate_left
   ·intro w'
    go_simp
    with_reducible rfl
   rotate_left
   ·simp only [Act.put, List.setIfInBounds_toArray, List.set_cons_zero, List.set_cons_succ, i64_w, i32_w]
    rfl
   refine pure_ (i := 5) (N := some 101) (v := ?_) (a' := ?_) #[true, true, true, true, true, true, false, false, false, false, false, false, false, false, false, false, false, false, false, false, false, false, false, false, false, false, false, false, false, false, false, false, false, false, false, false, false, false, false] rfl rfl (any_of HT_.out (by kernel_rfl)) (fun _ _ _ h => h) (Or.inl ⟨by rfl, ?_⟩) ?_ ?_
   rotate_left
   ·intro w'
    go_simp
    with_reducible rfl
   rotate_left
   ·simp only [Act.put, List.setIfInBounds_toArray, List.set_cons_zero, List.set_cons_succ, i64_w, i32_w]
    rfl
   refine pure_ (i := 6) (N := some 102) (v := ?_) (a' := ?_) #[true, true, true, true, true, true, true, false, false, false, false, false, false, false, false, false, false, false, false, false, false, false, false, false, false, false, false, false, false, false, false, false, false, false, false, false, false, false, false] rfl rfl (any_of HT_.out (by kernel_rfl)) (fun _ _ _ h => h) (Or.inl ⟨by rfl, ?_⟩) ?_ ?_
   rotate_left
   ·intro w'
    go_simp
    with_reducible rfl
   rotate_left
   ·simp only [Act.put, List.setIfInBounds_toArray, List.set_cons_zero, List.set_cons_succ, i64_w, i32_w]
    rfl
   refine pure_ (i := 7) (N := some 103) (v := ?_) (a' := ?_) #[true, true, true, true, true, true, true, true, false, false, false, false, false, false, false, false, false, false, false, false, false, false, false, false, false, false, false, false, false, false, false, false, false, false, false, false, false, false, false] rfl rfl (any_of HT_.out (by kernel_rfl)) (fun _ _ _ h => h) (Or.inl ⟨by rfl, ?_⟩) ?_ ?_
   rotate_left
   ·intro w'
    go_simp
    with_reducible rfl
   rotate_left
   ·simp only [Act.put, List.setIfInBounds_toArray, List.set_cons_zero, List.set_cons_succ, i64_w, i32_w]
    rfl
   refine pure_ (i := 8) (N := some 104) (v := ?_) (a' := ?_) #[true, true, true, true, true, true, true, true, true, false, false, false, false, false, false, false, false, false, false, false, false, false, false, false, false, false, false, false, false, false, false, false, false, false, false, false, false, false, false] rfl rfl (any_of HT_.out (by kernel_rfl)) (fun _ _ _ h => h) (Or.inl ⟨by rfl, ?_⟩) ?_ ?_
   rotate_left
   ·intro w'
    go_simp
    with_reducible rfl
   rotate_left
   ·simp only [Act.put, List.setIfInBounds_toArray, List.set_cons_zero, List.set_cons_succ, i64_w, i32_w]
    rfl
   refine pure_ (i := 9) (N := some 105) (v := ?_) (a' := ?_) #[true, true, true, true, true, true, true, true, true, true, false, false, false, false, false, false, false, false, false, false, false, false, false, false, false, false, false, false, false, false, false, false, false, false, false, false, false, false, false] rfl rfl (any_of HT_.out (by kernel_rfl)) (fun _ _ _ h => h) (Or.inl ⟨by rfl, ?_⟩) ?_ ?_
   rotate_left
   ·intro w'
    go_simp
    with_reducible rfl
   rotate_left
   ·simp only [Act.put, List.setIfInBounds_toArray, List.set_cons_zero, List.set_cons_succ, i64_w, i32_w]
    rfl
   refine pure_ (i := 10) (N := some 106) (v := ?_) (a' := ?_) #[true, true, true, true, true, true, true, true, true, true, true, false, false, false, false, false, false, false, false, false, false, false, false, false, false, false, false, false, false, false, false, false, false, false, false, false, false, false, false] rfl rfl (any_of HT_.out (by kernel_rfl)) (fun _ _ _ h => h) (Or.inl ⟨by rfl, ?_⟩) ?_ ?_
   rotate_left
   ·intro w'
    go_simp
    with_reducible rfl
   rotate_left
   ·simp only [Act.put, List.setIfInBounds_toArray, List.set_cons_zero, List.set_cons_succ, i64_w, i32_w]
    rfl
   refine pure_ (i := 11) (N := some 107) (v := ?_) (a' := ?_) #[true, true, true, true, true, true, true, true, true, true, true, true, false, false, false, false, false, false, false, false, false, false, false, false, false, false, false, false, false, false, false, false, false, false, false, false, false, false, false] rfl rfl (any_of HT_.out (by kernel_rfl)) (fun _ _ _ h => h) (Or.inl ⟨by rfl, ?_⟩) ?_ ?_
   rotate_left
   ·intro w'
    go_simp
    with_reducible rfl
   rotate_left
   ·simp only [Act.put, List.setIfInBounds_toArray, List.set_cons_zero, List.set_cons_succ, i64_w, i32_w]
    rfl
   refine pure_ (i := 12) (N := some 108) (v := ?_) (a' := ?_) #[true, true, true, true, true, true, true, true, true, true, true, true, true, false, false, false, false, false, false, false, false, false, false, false, false, false, false, false, false, false, false, false, false, false, false, false, false, false, false] rfl rfl (any_of HT_.out (by kernel_rfl)) (fun _ _ _ h => h) (Or.inl ⟨by rfl, ?_⟩) ?_ ?_
   rotate_left
   ·intro w'
    go_simp
    with_reducible rfl
   rotate_left
   ·simp only [Act.put, List.setIfInBounds_toArray, List.set_cons_zero, List.set_cons_succ, i64_w, i32_w]
    rfl
   refine pure_ (i := 13) (N := some 109) (v := ?_) (a' := ?_) #[true, true, true, true, true, true, true, true, true, true, true, true, true, true, false, false, false, false, false, false, false, false, false, false, false, false, false, false, false, false, false, false, false, false, false, false, false, false, false] rfl rfl (any_of HT_.out (by kernel_rfl)) (fun _ _ _ h => h) (Or.inl ⟨by rfl, ?_⟩) ?_ ?_
   rotate_left
   ·intro w'
    go_simp
    with_reducible rfl
   rotate_left
   ·simp only [Act.put, List.setIfInBounds_toArray, List.set_cons_zero, List.set_cons_succ, i64_w, i32_w]
    rfl
   refine pure_ (i := 14) (N := some 110) (v := ?_) (a' := ?_) #[true, true, true, true, true, true, true, true, true, true, true, true, true, true, true, false, false, false, false, false, false, false, false, false, false, false, false, false, false, false, false, false, false, false, false, false, false, false, false] rfl rfl (any_of HT_.out (by kernel_rfl)) (fun _ _ _ h => h) (Or.inl ⟨by rfl, ?_⟩) ?_ ?_
   rotate_left
   ·intro w'
    go_simp
    with_reducible rfl
   rotate_left
   ·simp only [Act.put, List.setIfInBounds_toArray, List.set_cons_zero, List.set_cons_succ, i64_w, i32_w]
    rfl
   refine pure_ (i := 15) (N := some 111) (v := ?_) (a' := ?_) #[true, true, true, true, true, true, true, true, true, true, true, true, true, true, true, true, false, false, false, false, false, false, false, false, false, false, false, false, false, false, false, false, false, false, false, false, false, false, false] rfl rfl (any_of HT_.out (by kernel_rfl)) (fun _ _ _ h => h) (Or.inl ⟨by rfl, ?_⟩) ?_ ?_
   rotate_left
   ·intro w'
    go_simp
    with_reducible rfl
   rotate_left
   ·simp only [Act.put, List.setIfInBounds_toArray, List.set_cons_zero, List.set_cons_succ, i64_w, i32_w]
    rfl
   refine one_ (i := 16) (N := some 112) #[true, true, true, true, true, true, true, true, true, true, true, true, true, true, true, true, true, false, false, false, false, false, false, false, false, false, false, false, false, false, false, false, false, false, false, false, false, false, false] rfl rfl (one_of HT_.out (by kernel_rfl)) (by decide) (fun K hK => ?_)
   refine goes_ Tryd.func12 (by kernel_rfl) rfl #[.slice Ao34 t413.length co34, .slice Ao35 t417.length co35] (by rfl) rfl rfl (by (try simp only [List.map_toArray, List.map_cons, List.map_nil]); first | done | rfl | (simp only [List.length_drop, List.length_take]; rfl)) ?_
   with_reducible refine (laws_xSame.calls k _ _ t413 _ _ t417 true _ ?side1 ?side2 ?side3 ?side4 A25.out).mono ?_
   (case side1 => exact cU (Kd.R_reads' HO415.out).2.2)
   (case side2 => exact (Kd.R_reads' HO415.out).2.1)
   (case side3 => exact cU (Kd.R_reads' HO419.out).2.2)
   (case side4 => exact (Kd.R_reads' HO419.out).2.1)
   rintro e w' ⟨rfl, ⟨nd, rfl⟩⟩
   refine ⟨_, rfl, ?_⟩
   refine hK.out _ _ ((blk_cell BK408.out 0).trans rfl) (fun hHeld => ?_)
   clear hK K
   refine norm_ (a' := ?_) ?_ ?_
   rotate_left
   ·show Act.put _ (some 112) _ = _
    simp only [Act.put, List.setIfInBounds_toArray, List.set_cons_zero, List.set_cons_succ, i64_w, i32_w]
    rfl
   refine pure_ (i := 17) (N := some 113) (v := ?_) (a' := ?_) #[true, true, true, true, true, true, true, true, true, true, true, true, true, true, true, true, true, true, false, false, false, false, false, false, false, false, false, false, false, false, false, false, false, false, false, false, false, false, false] rfl rfl (any_of HT_.out (by kernel_rfl)) (fun _ _ _ h => h) (Or.inl ⟨by rfl, ?_⟩) ?_ ?_
   rotate_left
   ·intro w'
    go_simp
    with_reducible rfl
   rotate_left
   ·simp only [Act.put, List.setIfInBounds_toArray, List.set_cons_zero, List.set_cons_succ, i64_w, i32_w]
    rfl
   refine pure_ (i := 18) (N := some 114) (v := ?_) (a' := ?_) #[true, true, true, true, true, true, true, true, true, true, true, true, true, true, true, true, true, true, true, false, false, false, false, false, false, false, false, false, false, false, false, false, false, false, false, false, false, false, false] rfl rfl (any_of HT_.out (by kernel_rfl)) (fun _ _ _ h => h) (Or.inl ⟨by rfl, ?_⟩) ?_ ?_
   rotate_left
   ·intro w'
    go_simp
    with_reducible rfl
   rotate_left
   ·simp only [Act.put, List.setIfInBounds_toArray, List.set_cons_zero, List.set_cons_succ, i64_w, i32_w]
    rfl
   refine pure_ (i := 19) (N := some 115) (v := ?_) (a' := ?_) #[true, true, true, true, true, true, true, true, true, true, true, true, true, true, true, true, true, true, true, true, false, false, false, false, false, false, false, false, false, false, false, false, false, false, false, false, false, false, false] rfl rfl (any_of HT_.out (by kernel_rfl)) (fun _ _ _ h => h) (Or.inl ⟨by rfl, ?_⟩) ?_ ?_
   rotate_left
   ·intro w'
    go_simp
    with_reducible rfl
   rotate_left
   ·simp only [Act.put, List.setIfInBounds_toArray, List.set_cons_zero, List.set_cons_succ, i64_w, i32_w]
    rfl
   refine pure_ (i := 20) (N := some 116) (v := ?_) (a' := ?_) #[true, true, true, true, true, true, true, true, true, true, true, true, true, true, true, true, true, true, true, true, true, false, false, false, false, false, false, false, false, false, false, false, false, false, false, false, false, false, false] rfl rfl (any_of HT_.out (by kernel_rfl)) (fun _ _ _ h => h) (Or.inl ⟨by rfl, ?_⟩) ?_ ?_
   rotate_left
   ·intro w'
    go_simp
    with_reducible rfl
   rotate_left
   ·simp only [Act.put, List.setIfInBounds_toArray, List.set_cons_zero, List.set_cons_succ, i64_w, i32_w]
    rfl
   refine pure_ (i := 21) (N := some 117) (v := ?_) (a' := ?_) #[true, true, true, true, true, true, true, true, true, true, true, true, true, true, true, true, true, true, true, true, true, true, false, false, false, false, false, false, false, false, false, false, false, false, false, false, false, false, false] rfl rfl (any_of HT_.out (by kernel_rfl)) (fun _ _ _ h => h) (Or.inl ⟨by rfl, ?_⟩) ?_ ?_
   rotate_left
   ·intro w'
    go_simp
    with_reducible rfl
   rotate_left
   ·simp only [Act.put, List.setIfInBounds_toArray, List.set_cons_zero, List.set_cons_succ, i64_w, i32_w]
    rfl
   refine pure_ (i := 22) (N := some 118) (v := ?_) (a' := ?_) #[true, true, true, true, true, true, true, true, true, true, true, true, true, true, true, true, true, true, true, true, true, true, true, false, false, false, false, false, false, false, false, false, false, false, false, false, false, false, false] rfl rfl (any_of HT_.out (by kernel_rfl)) (fun _ _ _ h => h) (Or.inl ⟨by rfl, ?_⟩) ?_ ?_
   rotate_left
   ·intro w'
    go_simp
    with_reducible rfl
   rotate_left
   ·simp only [Act.put, List.setIfInBounds_toArray, List.set_cons_zero, List.set_cons_succ, i64_w, i32_w]
    rfl
   refine pure_ (i := 23) (N := some 119) (v := ?_) (a' := ?_) #[true, true, true, true, true, true, true, true, true, true, true, true, true, true, true, true, true, true, true, true, true, true, true, true, false, false, false, false, false, false, false, false, false, false, false, false, false, false, false] rfl rfl (any_of HT_.out (by kernel_rfl)) (fun _ _ _ h => h) (Or.inl ⟨by rfl, ?_⟩) ?_ ?_
   rotate_left
   ·intro w'
    go_simp
    with_reducible rfl
   rotate_left
   ·simp only [Act.put, List.setIfInBounds_toArray, List.set_cons_zero, List.set_cons_succ, i64_w, i32_w]
    rfl
   refine pure_ (i := 24) (N := some 120) (v := ?_) (a' := ?_) #[true, true, true, true, true, true, true, true, true, true, true, true, true, true, true, true, true, true, true, true, true, true, true, true, true, false, false, false, false, false, false, false, false, false, false, false, false, false, false] rfl rfl (any_of HT_.out (by kernel_rfl)) (fun _ _ _ h => h) (Or.inl ⟨by rfl, ?_⟩) ?_ ?_
   rotate_left
   ·intro w'
    go_simp
    with_reducible rfl
   rotate_left
   ·simp only [Act.put, List.setIfInBounds_toArray, List.set_cons_zero, List.set_cons_succ, i64_w, i32_w]
    rfl
   refine take_ (i := 25) (N := some 121) (v := ?_) (a' := ?_) #[true, true, true, true, true, true, true, true, true, true, true, true, true, true, true, true, true, true, true, true, true, true, true, true, true, true, false, false, false, false, false, false, false, false, false, false, false, false, false] rfl rfl (take_ofW HT_.out HW_.out (by kernel_rfl)) (fun _ _ _ h => h) (Or.inl ⟨by rfl, ?_⟩) hHeld ?_ ?_
   rotate_left
   ·intro w' s0
    go_simp
    with_reducible rfl
   rotate_left
   ·simp only [Act.put, List.setIfInBounds_toArray, List.set_cons_zero, List.set_cons_succ, i64_w, i32_w]
    rfl
   refine take_ (i := 27) (N := some 123) (v := ?_) (a' := ?_) #[true, true, true, true, true, true, true, true, true, true, true, true, true, true, true, true, true, true, true, true, true, true, true, true, true, true, false, true, false, false, false, false, false, false, false, false, false, false, false] rfl rfl (take_ofW HT_.out HW_.out (by kernel_rfl)) (fun _ _ _ h => h) (Or.inl ⟨by rfl, ?_⟩) hHeld ?_ ?_
   rotate_left
   ·intro w' s0
    go_simp
    with_reducible rfl
   rotate_left
   ·simp only [Act.put, List.setIfInBounds_toArray, List.set_cons_zero, List.set_cons_succ, i64_w, i32_w]
    rfl
   refine one_ (i := 26) (N := some 122) #[true, true, true, true, true, true, true, true, true, true, true, true, true, true, true, true, true, true, true, true, true, true, true, true, true, true, true, true, false, false, false, false, false, false, false, false, false, false, false] rfl rfl (one_of HT_.out (by kernel_rfl)) (by decide) (fun K hK => ?_)
   refine goes_ Tryd.func13 (by kernel_rfl) rfl #[.agg #[.slice Ao13 t403.length co13]] (by rfl) rfl rfl (by (try simp only [List.map_toArray, List.map_cons, List.map_nil]); first | done | rfl | (simp only [List.length_drop, List.length_take]; rfl)) ?_
   with_reducible refine (impl_AreLamps.calls _ _ t403 t422 _ ?side1 ?side2 A28.out).mono ?_
   (case side1 => exact cU (Kd.R_reads' HO405.out).2.2)
   (case side2 => exact (Kd.R_reads' HO405.out).2.1)
   rintro e w36 ⟨rfl, hb⟩
   refine ⟨_, rfl, ?_⟩
   have n0_ := rB HO405 hb
   have n1_ := rB HO415 hb
   have n2_ := rB HO419 hb
   have n3_ := bB BK408 hb
   have n4_ := hS HB hb
   clear HO405
   clear HO415
   clear HO419
   clear BK408
   clear HB
   have HO405 := n0_
   have HO415 := n1_
   have HO419 := n2_
   have BK408 := n3_
   have HB := n4_
   clear n0_ n1_ n2_ n3_ n4_
   (try clear hb)
   (try clear hb2)
   (try clear hk)
   (try clear hi)
   refine hK.out _ _ ((blk_cell BK408.out 0).trans rfl) (fun hHeld => ?_)
   clear hK K
   refine norm_ (a' := ?_) ?_ ?_
   rotate_left
   ·show Act.put _ (some 122) _ = _
    simp only [Act.put, List.setIfInBounds_toArray, List.set_cons_zero, List.set_cons_succ, i64_w, i32_w]
    rfl
   refine one_ (i := 28) (N := some 124) #[true, true, true, true, true, true, true, true, true, true, true, true, true, true, true, true, true, true, true, true, true, true, true, true, true, true, true, true, true, false, false, false, false, false, false, false, false, false, false] rfl rfl (one_of HT_.out (by kernel_rfl)) (by decide) (fun K hK => ?_)
   refine goes_ Tryd.func14 (by kernel_rfl) rfl #[.agg #[.slice Ao13 t403.length co13]] (by rfl) rfl rfl (by (try simp only [List.map_toArray, List.map_cons, List.map_nil]); first | done | rfl | (simp only [List.length_drop, List.length_take]; rfl)) ?_
   with_reducible refine (spec_AreLamps.calls _ _ t403 t423 _ ?side1 ?side2 A29.out).mono ?_
   (case side1 => exact cU (Kd.R_reads' HO405.out).2.2)
   (case side2 => exact (Kd.R_reads' HO405.out).2.1)
   rintro e w37 ⟨rfl, hb⟩
   refine ⟨_, rfl, ?_⟩
   have n0_ := rB HO405 hb
   have n1_ := rB HO415 hb
   have n2_ := rB HO419 hb
   have n3_ := bB BK408 hb
   have n4_ := hS HB hb
   clear HO405
   clear HO415
   clear HO419
   clear BK408
   clear HB
   have HO405 := n0_
   have HO415 := n1_
   have HO419 := n2_
   have BK408 := n3_
   have HB := n4_
   clear n0_ n1_ n2_ n3_ n4_
   (try clear hb)
   (try clear hb2)
   (try clear hk)
   (try clear hi)
   refine hK.out _ _ ((blk_cell BK408.out 0).trans rfl) (fun hHeld => ?_)
   clear hK K
   refine norm_ (a' := ?_) ?_ ?_
   rotate_left
   ·show Act.put _ (some 124) _ = _
    simp only [Act.put, List.setIfInBounds_toArray, List.set_cons_zero, List.set_cons_succ, i64_w, i32_w]
    rfl
   refine pure_ (i := 29) (N := some 125) (v := ?_) (a' := ?_) #[true, true, true, true, true, true, true, true, true, true, true, true, true, true, true, true, true, true, true, true, true, true, true, true, true, true, true, true, true, true, false, false, false, false, false, false, false, false, false] rfl rfl (any_of HT_.out (by kernel_rfl)) (fun _ _ _ h => h) (Or.inl ⟨by rfl, ?_⟩) ?_ ?_
   rotate_left
   ·intro w'
    go_simp
    with_reducible rfl
   rotate_left
   ·simp only [Act.put, List.setIfInBounds_toArray, List.set_cons_zero, List.set_cons_succ, i64_w, i32_w]
    rfl
   refine pure_ (i := 30) (N := some 126) (v := ?_) (a' := ?_) #[true, true, true, true, true, true, true, true, true, true, true, true, true, true, true, true, true, true, true, true, true, true, true, true, true, true, true, true, true, true, true, false, false, false, false, false, false, false, false] rfl rfl (any_of HT_.out (by kernel_rfl)) (fun _ _ _ h => h) (Or.inl ⟨by rfl, ?_⟩) ?_ ?_
   rotate_left
   ·intro w'
    go_simp
    with_reducible rfl
   rotate_left
   ·simp only [Act.put, List.setIfInBounds_toArray, List.set_cons_zero, List.set_cons_succ, i64_w, i32_w]
    rfl
   refine pure_ (i := 31) (N := some 127) (v := ?_) (a' := ?_) #[true, true, true, true, true, true, true, true, true, true, true, true, true, true, true, true, true, true, true, true, true, true, true, true, true, true, true, true, true, true, true, true, false, false, false, false, false, false, false] rfl rfl (any_of HT_.out (by kernel_rfl)) (fun _ _ _ h => h) (Or.inl ⟨by rfl, ?_⟩) ?_ ?_
   rotate_left
   ·intro w'
    go_simp
    with_reducible rfl
   rotate_left
   ·simp only [Act.put, List.setIfInBounds_toArray, List.set_cons_zero, List.set_cons_succ, i64_w, i32_w]
    rfl
   refine pure_ (i := 32) (N := some 128) (v := ?_) (a' := ?_) #[true, true, true, true, true, true, true, true, true, true, true, true, true, true, true, true, true, true, true, true, true, true, true, true, true, true, true, true, true, true, true, true, true, false, false, false, false, false, false] rfl rfl (any_of HT_.out (by kernel_rfl)) (fun _ _ _ h => h) (Or.inl ⟨by rfl, ?_⟩) ?_ ?_
   rotate_left
   ·intro w'
    go_simp
    with_reducible rfl
   rotate_left
   ·simp only [Act.put, List.setIfInBounds_toArray, List.set_cons_zero, List.set_cons_succ, i64_w, i32_w]
    rfl
   refine pure_ (i := 33) (N := some 129) (v := ?_) (a' := ?_) #[true, true, true, true, true, true, true, true, true, true, true, true, true, true, true, true, true, true, true, true, true, true, true, true, true, true, true, true, true, true, true, true, true, true, false, false, false, false, false] rfl rfl (any_of HT_.out (by kernel_rfl)) (fun _ _ _ h => h) (Or.inl ⟨by rfl, ?_⟩) ?_ ?_
   rotate_left
   ·intro w'
    go_simp
    with_reducible rfl
   rotate_left
   ·simp only [Act.put, List.setIfInBounds_toArray, List.set_cons_zero, List.set_cons_succ, i64_w, i32_w]
    rfl
   refine take_ (i := 34) (N := some 130) (v := ?_) (a' := ?_) #[true, true, true, true, true, true, true, true, true, true, true, true, true, true, true, true, true, true, true, true, true, true, true, true, true, true, true, true, true, true, true, true, true, true, true, false, false, false, false] rfl rfl (take_ofW HT_.out HW_.out (by kernel_rfl)) (fun _ _ _ h => h) (Or.inl ⟨by rfl, ?_⟩) hHeld ?_ ?_
   rotate_left
   ·intro w' s0
    go_simp
    with_reducible rfl
   rotate_left
   ·simp only [Act.put, List.setIfInBounds_toArray, List.set_cons_zero, List.set_cons_succ, i64_w, i32_w]
    rfl
   refine one_ (i := 35) (N := some 131) #[true, true, true, true, true, true, true, true, true, true, true, true, true, true, true, true, true, true, true, true, true, true, true, true, true, true, true, true, true, true, true, true, true, true, true, true, false, false, false] rfl rfl (one_of HT_.out (by kernel_rfl)) (by decide) (fun K hK => ?_)
   refine goes_ Tryd.func13 (by kernel_rfl) rfl #[.agg #[.slice Ao13 t403.length co13]] (by rfl) rfl rfl (by (try simp only [List.map_toArray, List.map_cons, List.map_nil]); first | done | rfl | (simp only [List.length_drop, List.length_take]; rfl)) ?_
   with_reducible refine (impl_AreLamps.calls _ _ t403 t424 _ ?side1 ?side2 A32.out).mono ?_
   (case side1 => exact cU (Kd.R_reads' HO405.out).2.2)
   (case side2 => exact (Kd.R_reads' HO405.out).2.1)
   rintro e w38 ⟨rfl, hb⟩
   refine ⟨_, rfl, ?_⟩
   have n0_ := rB HO405 hb
   have n1_ := rB HO415 hb
   have n2_ := rB HO419 hb
   have n3_ := bB BK408 hb
   have n4_ := hS HB hb
   clear HO405
   clear HO415
   clear HO419
   clear BK408
   clear HB
   have HO405 := n0_
   have HO415 := n1_
   have HO419 := n2_
   have BK408 := n3_
   have HB := n4_
   clear n0_ n1_ n2_ n3_ n4_
   (try clear hb)
   (try clear hb2)
   (try clear hk)
   (try clear hi)
   refine hK.out _ _ ((blk_cell BK408.out 0).trans rfl) (fun hHeld => ?_)
   clear hK K
   refine norm_ (a' := ?_) ?_ ?_
   rotate_left
   ·show Act.put _ (some 131) _ = _
    simp only [Act.put, List.setIfInBounds_toArray, List.set_cons_zero, List.set_cons_succ, i64_w, i32_w]
    rfl
   refine pure_ (i := 36) (N := some 132) (v := ?_) (a' := ?_) #[true, true, true, true, true, true, true, true, true, true, true, true, true, true, true, true, true, true, true, true, true, true, true, true, true, true, true, true, true, true, true, true, true, true, true, true, true, false, false] rfl rfl (any_of HT_.out (by kernel_rfl)) (fun _ _ _ h => h) (Or.inl ⟨by rfl, ?_⟩) ?_ ?_
   rotate_left
   ·intro w'
    go_simp
    with_reducible rfl
   rotate_left
   ·simp only [Act.put, List.setIfInBounds_toArray, List.set_cons_zero, List.set_cons_succ, i64_w, i32_w]
    rfl
   refine pure_ (i := 37) (N := some 133) (v := ?_) (a' := ?_) #[true, true, true, true, true, true, true, true, true, true, true, true, true, true, true, true, true, true, true, true, true, true, true, true, true, true, true, true, true, true, true, true, true, true, true, true, true, true, false] rfl rfl (any_of HT_.out (by kernel_rfl)) (fun _ _ _ h => h) (Or.inl ⟨by rfl, ?_⟩) ?_ ?_
   rotate_left
   ·intro w'
    go_simp
    with_reducible rfl
   rotate_left
   ·simp only [Act.put, List.setIfInBounds_toArray, List.set_cons_zero, List.set_cons_succ, i64_w, i32_w]
    rfl
   refine pure_ (i := 38) (N := some 134) (v := ?_) (a' := ?_) #[true, true, true, true, true, true, true, true, true, true, true, true, true, true, true, true, true, true, true, true, true, true, true, true, true, true, true, true, true, true, true, true, true, true, true, true, true, true, true] rfl rfl (any_of HT_.out (by kernel_rfl)) (fun _ _ _ h => h) (Or.inl ⟨by rfl, ?_⟩) ?_ ?_
   rotate_left
   ·intro w'
    go_simp
    with_reducible rfl
   rotate_left
   ·simp only [Act.put, List.setIfInBounds_toArray, List.set_cons_zero, List.set_cons_succ, i64_w, i32_w]
    rfl
   refine done_ (done_of HT_.out (by kernel_rfl)) ?_
   try go_wp2
   go_meet
   case rel => exact ⟨_, (!t424), rF, H', kL, ⟨rU (Kd.R_mono HO415.out (fun _ hk => trivial))⟩, ⟨rU HO405.out⟩, ⟨bU BK408.out⟩, hV HB⟩
  have H' := aM H
  clear H
  try go_wp2
  have n0_ := aM (Kd.R_drew HO405.out)
  have n1_ := aM (Kd.R_drew HO415.out)
  have n2_ := aM (Kd.R_drew HO419.out)
  have n3_ := aM (blk_drew BK408.out)
  have n4_ := aM (below_drew1 HB.out)
  clear HO405
  clear HO415
  clear HO419
  clear BK408
  clear HB
  have HO405 := n0_
  have HO415 := n1_
  have HO419 := n2_
  have BK408 := n3_
  have HB := n4_
  clear n0_ n1_ n2_ n3_ n4_
  obtain ⟨Ao40, co40, eo40⟩ := Kd.R_slice HO415.out
  (first | subst eo40 | (injection eo40 with f1_ f2_ f3_; have f4_ := f1_.symm; have f5_ := f3_.symm; clear f1_ f2_ f3_; subst f4_; subst f5_))
  obtain ⟨Ao41, co41, eo41⟩ := Kd.R_slice HO419.out
  (first | subst eo41 | (injection eo41 with f1_ f2_ f3_; have f4_ := f1_.symm; have f5_ := f3_.symm; clear f1_ f2_ f3_; subst f4_; subst f5_))
  refine start_ (n := 39) (S := fun w' => w'.cell? ⟨gb408, 0, none⟩ = some (.slice Ao13 t403.length co13)) (ds := []) #[false, false, false, false, false, false, false, false, false, false, false, false, false, false, false, false, false, false, false, false, false, false, false, false, false, false, false, false, false, false, false, false, false, false, false, false, false, false, false] (by kernel_rfl) rfl rfl ((blk_cell BK408.out 0).trans rfl) (fun hHeld => ?_); refine with_tabW laws_FnLampsTick.tab8 laws_FnLampsTick.bits8 (fun HT_ HW_ => ?_)
  generalize w21.drew = w39 at HO405 HO415 HO419 BK408 HB hHeld ⊢
  refine pure_ (i := 0) (N := some 96) (v := ?_) (a' := ?_) #[true, false, false, false, false, false, false, false, false, false, false, false, false, false, false, false, false, false, false, false, false, false, false, false, false, false, false, false, false, false, false, false, false, false, false, false, false, false, false] rfl rfl (any_of HT_.out (by kernel_rfl)) (fun _ _ _ h => h) (Or.inl ⟨by rfl, ?_⟩) ?_ ?_
  rotate_left
  ·intro w'
   go_simp
   with_reducible rfl
  rotate_left
  ·simp only [Act.put, List.setIfInBounds_toArray, List.set_cons_zero, List.set_cons_succ, i64_w, i32_w]
   rfl
  refine pure_ (i := 1) (N := some 97) (v := ?_) (a' := ?_) #[true, true, false, false, false, false, false, false, false, false, false, false, false, false, false, false, false, false, false, false, false, false, false, false, false, false, false, false, false, false, false, false, false, false, false, false, false, false, false] rfl rfl (any_of HT_.out (by kernel_rfl)) (fun _ _ _ h => h) (Or.inl ⟨by rfl, ?_⟩) ?_ ?_
  rotate_left
  ·intro w'
   go_simp
   with_reducible rfl
  rotate_left
  ·simp only [Act.put, List.setIfInBounds_toArray, List.set_cons_zero, List.set_cons_succ, i64_w, i32_w]
   rfl
  refine pure_ (i := 2) (N := some 98) (v := ?_) (a' := ?_) #[true, true, true, false, false, false, false, false, false, false, false, false, false, false, false, false, false, false, false, false, false, false, false, false, false, false, false, false, false, false, false, false, false, false, false, false, false, false, false] rfl rfl (any_of HT_.out (by kernel_rfl)) (fun _ _ _ h => h) (Or.inl ⟨by rfl, ?_⟩) ?_ ?_
  rotate_left
  ·intro w'
   go_simp
   with_reducible rfl
  rotate_left
  ·simp only [Act.put, List.setIfInBounds_toArray, List.set_cons_zero, List.set_cons_succ, i64_w, i32_w]
   rfl
  refine pure_ (i := 3) (N := some 99) (v := ?_) (a' := ?_) #[true, true, true, true, false, false, false, false, false, false, false, false, false, false, false, false, false, false, false, false, false, false, false, false, false, false, false, false, false, false, false, false, false, false, false, false, false, false, false] rfl rfl (any_of HT_.out (by kernel_rfl)) (fun _ _ _ h => h) (Or.inl ⟨by rfl, ?_⟩) ?_ ?_
  rotate_left
  ·intro w'
   go_simp
   with_reducible rfl
  rotate_left
  ·simp only [Act.put, List.setIfInBounds_toArray, List.set_cons_zero, List.set_cons_succ, i64_w, i32_w]
   rfl
  refine pure_ (i := 4) (N := some 100) (v := ?_) (a' := ?_) #[true, true, true, true, true, false, false, false, false, false, false, false, false, false, false, false, false, false, false, false, false, false, false, false, false, false, false, false, false, false, false, false, false, false, false, false, false, false, false] rfl rfl (any_of HT_.out (by kernel_rfl)) (fun _ _ _ h => h) (Or.inl ⟨by rfl, ?_⟩) ?_ ?_
  rotate_left
  ·intro w'
   go_simp
   with_reducible rfl
  rotate_left
  ·simp only [Act.put, List.setIfInBounds_toArray, List.set_cons_zero, List.set_cons_succ, i64_w, i32_w]
   rfl
  refine pure_ (i := 5) (N := some 101) (v := ?_) (a' := ?_) #[true, true, true, true, true, true, false, false, false, false, false, false, false, false, false, false, false, false, false, false, false, false, false, false, false, false, false, false, false, false, false, false, false, false, false, false, false, false, false] rfl rfl (any_of HT_.out (by kernel_rfl)) (fun _ _ _ h => h) (Or.inl ⟨by rfl, ?_⟩) ?_ ?_
  rotate_left
  ·intro w'
   go_simp
   with_reducible rfl
  rotate_left
  ·simp only [Act.put, List.setIfInBounds_toArray, List.set_cons_zero, List.set_cons_succ, i64_w, i32_w]
   rfl
  refine pure_ (i := 6) (N := some 102) (v := ?_) (a' := ?_) #[true, true, true, true, true, true, true, false, false, false, false, false, false, false, false, false, false, false, false, false, false, false, false, false, false, false, false, false, false, false, false, false, false, false, false, false, false, false, false] rfl rfl (any_of HT_.out (by kernel_rfl)) (fun _ _ _ h => h) (Or.inl ⟨by rfl, ?_⟩) ?_ ?_
  rotate_left
  ·intro w'
   go_simp
   with_reducible rfl
  rotate_left
  ·simp only [Act.put, List.setIfInBounds_toArray, List.set_cons_zero, List.set_cons_succ, i64_w, i32_w]
   rfl
  refine pure_ (i := 7) (N := some 103) (v := ?_) (a' := ?_) #[true, true, true, true, true, true, true, true, false, false, false, false, false, false, false, false, false, false, false, false, false, false, false, false, false, false, false, false, false, false, false, false, false, false, false, false, false, false, false] rfl rfl (any_of HT_.out (by kernel_rfl)) (fun _ _ _ h => h) (Or.inl ⟨by rfl, ?_⟩) ?_ ?_
  rotate_left
  ·intro w'
   go_simp
   with_reducible rfl
  rotate_left
  ·simp only [Act.put, List.setIfInBounds_toArray, List.set_cons_zero, List.set_cons_succ, i64_w, i32_w]
   rfl
  refine pure_ (i := 8) (N := some 104) (v := ?_) (a' := ?_) #[true, true, true, true, true, true, true, true, true, false, false, false, false, false, false, false, false, false, false, false, false, false, false, false, false, false, false, false, false, false, false, false, false, false, false, false, false, false, false] rfl rfl (any_of HT_.out (by kernel_rfl)) (fun _ _ _ h => h) (Or.inl ⟨by rfl, ?_⟩) ?_ ?_
  rotate_left
  ·intro w'
   go_simp
   with_reducible rfl
  rotate_left
  ·simp only [Act.put, List.setIfInBounds_toArray, List.set_cons_zero, List.set_cons_succ, i64_w, i32_w]
   rfl
  refine pure_ (i := 9) (N := some 105) (v := ?_) (a' := ?_) #[true, true, true, true, true, true, true, true, true, true, false, false, false, false, false, false, false, false, false, false, false, false, false, false, false, false, false, false, false, false, false, false, false, false, false, false, false, false, false] rfl rfl (any_of HT_.out (by kernel_rfl)) (fun _ _ _ h => h) (Or.inl ⟨by rfl, ?_⟩) ?_ ?_
  rotate_left
  ·intro w'
   go_simp
   with_reducible rfl
  rotate_left
  ·simp only [Act.put, List.setIfInBounds_toArray, List.set_cons_zero, List.set_cons_succ, i64_w, i32_w]
   rfl
  refine pure_ (i := 10) (N := some 106) (v := ?_) (a' := ?_) #[true, true, true, true, true, true, true, true, true, true, true, false, false, false, false, false, false, false, false, false, false, false, false, false, false, false, false, false, false, false, false, false, false, false, false, false, false, false, false] rfl rfl (any_of HT_.out (by kernel_rfl)) (fun _ _ _ h => h) (Or.inl ⟨by rfl, ?_⟩) ?_ ?_
  rotate_left
  ·intro w'
   go_simp
   with_reducible rfl
  rotate_left
  ·simp only [Act.put, List.setIfInBounds_toArray, List.set_cons_zero, List.set_cons_succ, i64_w, i32_w]
   rfl
  refine pure_ (i := 11) (N := some 107) (v := ?_) (a' := ?_) #[true, true, true, true, true, true, true, true, true, true, true, true, false, false, false, false, false, false, false, false, false, false, false, false, false, false, false, false, false, false, false, false, false, false, false, false, false, false, false] rfl rfl (any_of HT_.out (by kernel_rfl)) (fun _ _ _ h => h) (Or.inl ⟨by rfl, ?_⟩) ?_ ?_
  rotate_left
  ·intro w'
   go_simp
   with_reducible rfl
  rotate_left
  ·simp only [Act.put, List.setIfInBounds_toArray, List.set_cons_zero, List.set_cons_succ, i64_w, i32_w]
   rfl
  refine pure_ (i := 12) (N := some 108) (v := ?_) (a' := ?_) #[true, true, true, true, true, true, true, true, true, true, true, true, true, false, false, false, false, false, false, false, false, false, false, false, false, false, false, false, false, false, false, false, false, false, false, false, false, false, false] rfl rfl (any_of HT_.out (by kernel_rfl)) (fun _ _ _ h => h) (Or.inl ⟨by rfl, ?_⟩) ?_ ?_
  rotate_left
  ·intro w'
   go_simp
   with_reducible rfl
  rotate_left
  ·simp only [Act.put, List.setIfInBounds_toArray, List.set_cons_zero, List.set_cons_succ, i64_w, i32_w]
   rfl
  refine pure_ (i := 13) (N := some 109) (v := ?_) (a' := ?_) #[true, true, true, true, true, true, true, true, true, true, true, true, true, true, false, false, false, false, false, false, false, false, false, false, false, false, false, false, false, false, false, false, false, false, false, false, false, false, false] rfl rfl (any_of HT_.out (by kernel_rfl)) (fun _ _ _ h => h) (Or.inl ⟨by rfl, ?_⟩) ?_ ?_
  rotate_left
  ·intro w'
   go_simp
   with_reducible rfl
  rotate_left
  ·simp only [Act.put, List.setIfInBounds_toArray, List.set_cons_zero, List.set_cons_succ, i64_w, i32_w]
   rfl
  refine pure_ (i := 14) (N := some 110) (v := ?_) (a' := ?_) #[true, true, true, true, true, true, true, true, true, true, true, true, true, true, true, false, false, false, false, false, false, false, false, false, false, false, false, false, false, false, false, false, false, false, false, false, false, false, false] rfl rfl (any_of HT_.out (by kernel_rfl)) (fun _ _ _ h => h) (Or.inl ⟨by rfl, ?_⟩) ?_ ?_
  rotate_left
  ·intro w'
   go_simp
   with_reducible rfl
  rotate_left
  ·simp only [Act.put, List.setIfInBounds_toArray, List.set_cons_zero, List.set_cons_succ, i64_w, i32_w]
   rfl
  refine pure_ (i := 15) (N := some 111) (v := ?_) (a' := ?_) #[true, true, true, true, true, true, true, true, true, true, true, true, true, true, true, true, false, false, false, false, false, false, false, false, false, false, false, false, false, false, false, false, false, false, false, false, false, false, false] rfl rfl (any_of HT_.out (by kernel_rfl)) (fun _ _ _ h => h) (Or.inl ⟨by rfl, ?_⟩) ?_ ?_
  rotate_left
  ·intro w'
   go_simp
   with_reducible rfl
  rotate_left
  ·simp only [Act.put, List.setIfInBounds_toArray, List.set_cons_zero, List.set_cons_succ, i64_w, i32_w]
   rfl
  refine one_ (i := 16) (N := some 112) #[true, true, true, true, true, true, true, true, true, true, true, true, true, true, true, true, true, false, false, false, false, false, false, false, false, false, false, false, false, false, false, false, false, false, false, false, false, false, false] rfl rfl (one_of HT_.out (by kernel_rfl)) (by decide) (fun K hK => ?_)
  refine goes_ Tryd.func12 (by kernel_rfl) rfl #[.slice Ao40 t413.length co40, .slice Ao41 t417.length co41] (by rfl) rfl rfl (by (try simp only [List.map_toArray, List.map_cons, List.map_nil]); first | done | rfl | (simp only [List.length_drop, List.length_take]; rfl)) ?_
  with_reducible refine (laws_xSame.calls k _ _ t413 _ _ t417 true _ ?side1 ?side2 ?side3 ?side4 A25.out).mono ?_
  (case side1 => exact cU (Kd.R_reads' HO415.out).2.2)
  (case side2 => exact (Kd.R_reads' HO415.out).2.1)
  (case side3 => exact cU (Kd.R_reads' HO419.out).2.2)
  (case side4 => exact (Kd.R_reads' HO419.out).2.1)
  rintro e w' ⟨rfl, ⟨nd, rfl⟩⟩
  refine ⟨_, rfl, ?_⟩
  refine hK.out _ _ ((blk_cell BK408.out 0).trans rfl) (fun hHeld => ?_)
  clear hK K
  refine norm_ (a' := ?_) ?_ ?_
  rotate_left
  ·show Act.put _ (some 112) _ = _
   simp only [Act.put, List.setIfInBounds_toArray, List.set_cons_zero, List.set_cons_succ, i64_w, i32_w]
   rfl
  refine pure_ (i := 17) (N := some 113) (v := ?_) (a' := ?_) #[true, true, true, true, true, true, true, true, true, true, true, true, true, true, true, true, true, true, false, false, false, false, false, false, false, false, false, false, false, false, false, false, false, false, false, false, false, false, false] rfl rfl (any_of HT_.out (by kernel_rfl)) (fun _ _ _ h => h) (Or.inl ⟨by rfl, ?_⟩) ?_ ?_
  rotate_left
  ·intro w'
   go_simp
   with_reducible rfl
  rotate_left
  ·simp only [Act.put, List.setIfInBounds_toArray, List.set_cons_zero, List.set_cons_succ, i64_w, i32_w]
   rfl
  refine pure_ (i := 18) (N := some 114) (v := ?_) (a' := ?_) #[true, true, true, true, true, true, true, true, true, true, true, true, true, true, true, true, true, true, true, false, false, false, false, false, false, false, false, false, false, false, false, false, false, false, false, false, false, false, false] rfl rfl (any_of HT_.out (by kernel_rfl)) (fun _ _ _ h => h) (Or.inl ⟨by rfl, ?_⟩) ?_ ?_
  rotate_left
  ·intro w'
   go_simp
   with_reducible rfl
  rotate_left
  ·simp only [Act.put, List.setIfInBounds_toArray, List.set_cons_zero, List.set_cons_succ, i64_w, i32_w]
   rfl
  refine pure_ (i := 19) (N := some 115) (v := ?_) (a' := ?_) #[true, true, true, true, true, true, true, true, true, true, true, true, true, true, true, true, true, true, true, true, false, false, false, false, false, false, false, false, false, false, false, false, false, false, false, false, false, false, false] rfl rfl (any_of HT_.out (by kernel_rfl)) (fun _ _ _ h => h) (Or.inl ⟨by rfl, ?_⟩) ?_ ?_
  rotate_left
  ·intro w'
   go_simp
   with_reducible rfl
  rotate_left
  ·simp only [Act.put, List.setIfInBounds_toArray, List.set_cons_zero, List.set_cons_succ, i64_w, i32_w]
   rfl
  refine pure_ (i := 20) (N := some 116) (v := ?_) (a' := ?_) #[true, true, true, true, true, true, true, true, true, true, true, true, true, true, true, true, true, true, true, true, true, false, false, false, false, false, false, false, false, false, false, false, false, false, false, false, false, false, false] rfl rfl (any_of HT_.out (by kernel_rfl)) (fun _ _ _ h => h) (Or.inl ⟨by rfl, ?_⟩) ?_ ?_
  rotate_left
  ·intro w'
   go_simp
   with_reducible rfl
  rotate_left
  ·simp only [Act.put, List.setIfInBounds_toArray, List.set_cons_zero, List.set_cons_succ, i64_w, i32_w]
   rfl
  refine pure_ (i := 21) (N := some 117) (v := ?_) (a' := ?_) #[true, true, true, true, true, true, true, true, true, true, true, true, true, true, true, true, true, true, true, true, true, true, false, false, false, false, false, false, false, false, false, false, false, false, false, false, false, false, false] rfl rfl (any_of HT_.out (by kernel_rfl)) (fun _ _ _ h => h) (Or.inl ⟨by rfl, ?_⟩) ?_ ?_
  rotate_left
  ·intro w'
   go_simp
   with_reducible rfl
  rotate_left
  ·simp only [Act.put, List.setIfInBounds_toArray, List.set_cons_zero, List.set_cons_succ, i64_w, i32_w]
   rfl
  refine pure_ (i := 22) (N := some 118) (v := ?_) (a' := ?_) #[true, true, true, true, true, true, true, true, true, true, true, true, true, true, true, true, true, true, true, true, true, true, true, false, false, false, false, false, false, false, false, false, false, false, false, false, false, false, false] rfl rfl (any_of HT_.out (by kernel_rfl)) (fun _ _ _ h => h) (Or.inl ⟨by rfl, ?_⟩) ?_ ?_
  rotate_left
  ·intro w'
   go_simp
   with_reducible rfl
  rotate_left
  ·simp only [Act.put, List.setIfInBounds_toArray, List.set_cons_zero, List.set_cons_succ, i64_w, i32_w]
   rfl
  refine pure_ (i := 23) (N := some 119) (v := ?_) (a' := ?_) #[true, true, true, true, true, true, true, true, true, true, true, true, true, true, true, true, true, true, true, true, true, true, true, true, false, false, false, false, false, false, false, false, false, false, false, false, false, false, false] rfl rfl (any_of HT_.out (by kernel_rfl)) (fun _ _ _ h => h) (Or.inl ⟨by rfl, ?_⟩) ?_ ?_
  rotate_left
  ·intro w'
   go_simp
   with_reducible rfl
  rotate_left
  ·simp only [Act.put, List.setIfInBounds_toArray, List.set_cons_zero, List.set_cons_succ, i64_w, i32_w]
   rfl
  refine pure_ (i := 24) (N := some 120) (v := ?_) (a' := ?_) #[true, true, true, true, true, true, true, true, true, true, true, true, true, true, true, true, true, true, true, true, true, true, true, true, true, false, false, false, false, false, false, false, false, false, false, false, false, false, false] rfl rfl (any_of HT_.out (by kernel_rfl)) (fun _ _ _ h => h) (Or.inl ⟨by rfl, ?_⟩) ?_ ?_
  rotate_left
  ·intro w'
   go_simp
   with_reducible rfl
  rotate_left
  ·simp only [Act.put, List.setIfInBounds_toArray, List.set_cons_zero, List.set_cons_succ, i64_w, i32_w]
   rfl
  refine take_ (i := 25) (N := some 121) (v := ?_) (a' := ?_) #[true, true, true, true, true, true, true, true, true, true, true, true, true, true, true, true, true, true, true, true, true, true, true, true, true, true, false, false, false, false, false, false, false, false, false, false, false, false, false] rfl rfl (take_ofW HT_.out HW_.out (by kernel_rfl)) (fun _ _ _ h => h) (Or.inl ⟨by rfl, ?_⟩) hHeld ?_ ?_
  rotate_left
  ·intro w' s0
   go_simp
   with_reducible rfl
  rotate_left
  ·simp only [Act.put, List.setIfInBounds_toArray, List.set_cons_zero, List.set_cons_succ, i64_w, i32_w]
   rfl
  refine take_ (i := 27) (N := some 123) (v := ?_) (a' := ?_) #[true, true, true, true, true, true, true, true, true, true, true, true, true, true, true, true, true, true, true, true, true, true, true, true, true, true, false, true, false, false, false, false, false, false, false, false, false, false, false] rfl rfl (take_ofW HT_.out HW_.out (by kernel_rfl)) (fun _ _ _ h => h) (Or.inl ⟨by rfl, ?_⟩) hHeld ?_ ?_
  rotate_left
  ·intro w' s0
   go_simp
   with_reducible rfl
  rotate_left
  ·simp only [Act.put, List.setIfInBounds_toArray, List.set_cons_zero, List.set_cons_succ, i64_w, i32_w]
   rfl
  refine one_ (i := 26) (N := some 122) #[true, true, true, true, true, true, true, true, true, true, true, true, true, true, true, true, true, true, true, true, true, true, true, true, true, true, true, true, false, false, false, false, false, false, false, false, false, false, false] rfl rfl (one_of HT_.out (by kernel_rfl)) (by decide) (fun K hK => ?_)
  refine goes_ Tryd.func13 (by kernel_rfl) rfl #[.agg #[.slice Ao13 t403.length co13]] (by rfl) rfl rfl (by (try simp only [List.map_toArray, List.map_cons, List.map_nil]); first | done | rfl | (simp only [List.length_drop, List.length_take]; rfl)) ?_
  with_reducible refine (impl_AreLamps.calls _ _ t403 t422 _ ?side1 ?side2 A28.out).mono ?_
  (case side1 => exact cU (Kd.R_reads' HO405.out).2.2)
  (case side2 => exact (Kd.R_reads' HO405.out).2.1)
  rintro e w42 ⟨rfl, hb⟩
  refine ⟨_, rfl, ?_⟩
  have n0_ := rB HO405 hb
  have n1_ := rB HO415 hb
  have n2_ := rB HO419 hb
  have n3_ := bB BK408 hb
  have n4_ := hS HB hb
  clear HO405
  clear HO415
  clear HO419
  clear BK408
  clear HB
  have HO405 := n0_
  have HO415 := n1_
  have HO419 := n2_
  have BK408 := n3_
  have HB := n4_
  clear n0_ n1_ n2_ n3_ n4_
  (try clear hb)
  (try clear hb2)
  (try clear hk)
  (try clear hi)
  refine hK.out _ _ ((blk_cell BK408.out 0).trans rfl) (fun hHeld => ?_)
  clear hK K
  refine norm_ (a' := ?_) ?_ ?_
  rotate_left
  ·show Act.put _ (some 122) _ = _
   simp only [Act.put, List.setIfInBounds_toArray, List.set_cons_zero, List.set_cons_succ, i64_w, i32_w]
   rfl
  refine one_ (i := 28) (N := some 124) #[true, true, true, true, true, true, true, true, true, true, true, true, true, true, true, true, true, true, true, true, true, true, true, true, true, true, true, true, true, false, false, false, false, false, false, false, false, false, false] rfl rfl (one_of HT_.out (by kernel_rfl)) (by decide) (fun K hK => ?_)
  refine goes_ Tryd.func14 (by kernel_rfl) rfl #[.agg #[.slice Ao13 t403.length co13]] (by rfl) rfl rfl (by (try simp only [List.map_toArray, List.map_cons, List.map_nil]); first | done | rfl | (simp only [List.length_drop, List.length_take]; rfl)) ?_
  with_reducible refine (spec_AreLamps.calls _ _ t403 t423 _ ?side1 ?side2 A29.out).mono ?_
  (case side1 => exact cU (Kd.R_reads' HO405.out).2.2)
  (case side2 => exact (Kd.R_reads' HO405.out).2.1)
  rintro e w43 ⟨rfl, hb⟩
  refine ⟨_, rfl, ?_⟩
  have n0_ := rB HO405 hb
  have n1_ := rB HO415 hb
  have n2_ := rB HO419 hb
  have n3_ := bB BK408 hb
  have n4_ := hS HB hb
  clear HO405
  clear HO415
  clear HO419
  clear BK408
  clear HB
  have HO405 := n0_
  have HO415 := n1_
  have HO419 := n2_
  have BK408 := n3_
  have HB := n4_
  clear n0_ n1_ n2_ n3_ n4_
  (try clear hb)
  (try clear hb2)
  (try clear hk)
  (try clear hi)
  refine hK.out _ _ ((blk_cell BK408.out 0).trans rfl) (fun hHeld => ?_)
  clear hK K
  refine norm_ (a' := ?_) ?_ ?_
  rotate_left
  ·show Act.put _ (some 124) _ = _
   simp only [Act.put, List.setIfInBounds_toArray, List.set_cons_zero, List.set_cons_succ, i64_w, i32_w]
   rfl
  refine pure_ (i := 29) (N := some 125) (v := ?_) (a' := ?_) #[true, true, true, true, true, true, true, true, true, true, true, true, true, true, true, true, true, true, true, true, true, true, true, true, true, true, true, true, true, true, false, false, false, false, false, false, false, false, false] rfl rfl (any_of HT_.out (by kernel_rfl)) (fun _ _ _ h => h) (Or.inl ⟨by rfl, ?_⟩) ?_ ?_
  rotate_left
  ·intro w'
   go_simp
   with_reducible rfl
  rotate_left
  ·simp only [Act.put, List.setIfInBounds_toArray, List.set_cons_zero, List.set_cons_succ, i64_w, i32_w]
   rfl
  refine pure_ (i := 30) (N := some 126) (v := ?_) (a' := ?_) #[true, true, true, true, true, true, true, true, true, true, true, true, true, true, true, true, true, true, true, true, true, true, true, true, true, true, true, true, true, true, true, false, false, false, false, false, false, false, false] rfl rfl (any_of HT_.out (by kernel_rfl)) (fun _ _ _ h => h) (Or.inl ⟨by rfl, ?_⟩) ?_ ?_
  rotate_left
  ·intro w'
   go_simp
   with_reducible rfl
  rotate_left
  ·simp only [Act.put, List.setIfInBounds_toArray, List.set_cons_zero, List.set_cons_succ, i64_w, i32_w]
   rfl
  refine pure_ (i := 31) (N := some 127) (v := ?_) (a' := ?_) #[true, true, true, true, true, true, true, true, true, true, true, true, true, true, true, true, true, true, true, true, true, true, true, true, true, true, true, true, true, true, true, true, false, false, false, false, false, false, false] rfl rfl (any_of HT_.out (by kernel_rfl)) (fun _ _ _ h => h) (Or.inl ⟨by rfl, ?_⟩) ?_ ?_
  rotate_left
  ·intro w'
   go_simp
   with_reducible rfl
  rotate_left
  ·simp only [Act.put, List.setIfInBounds_toArray, List.set_cons_zero, List.set_cons_succ, i64_w, i32_w]
   rfl
  refine pure_ (i := 32) (N := some 128) (v := ?_) (a' := ?_) #[true, true, true, true, true, true, true, true, true, true, true, true, true, true, true, true, true, true, true, true, true, true, true, true, true, true, true, true, true, true, true, true, true, false, false, false, false, false, false] rfl rfl (any_of HT_.out (by kernel_rfl)) (fun _ _ _ h => h) (Or.inl ⟨by rfl, ?_⟩) ?_ ?_
  rotate_left
  ·intro w'
   go_simp
   with_reducible rfl
  rotate_left
  ·simp only [Act.put, List.setIfInBounds_toArray, List.set_cons_zero, List.set_cons_succ, i64_w, i32_w]
   rfl
  refine pure_ (i := 33) (N := some 129) (v := ?_) (a' := ?_) #[true, true, true, true, true, true, true, true, true, true, true, true, true, true, true, true, true, true, true, true, true, true, true, true, true, true, true, true, true, true, true, true, true, true, false, false, false, false, false] rfl rfl (any_of HT_.out (by kernel_rfl)) (fun _ _ _ h => h) (Or.inl ⟨by rfl, ?_⟩) ?_ ?_
  rotate_left
  ·intro w'
   go_simp
   with_reducible rfl
  rotate_left
  ·simp only [Act.put, List.setIfInBounds_toArray, List.set_cons_zero, List.set_cons_succ, i64_w, i32_w]
   rfl
  refine pure_ (i := 34) (N := some 130) (v := undef) (a' := ?_) #[true, true, true, true, true, true, true, true, true, true, true, true, true, true, true, true, true, true, true, true, true, true, true, true, true, true, true, true, true, true, true, true, true, true, true, false, false, false, false] rfl rfl (any_of HT_.out (by kernel_rfl)) (fun _ _ _ h => h) (Or.inr ⟨by rfl, rfl⟩) ?_ ?_
  rotate_left
  ·simp only [Act.put, List.setIfInBounds_toArray, List.set_cons_zero, List.set_cons_succ, i64_w, i32_w]
   rfl
  refine pure_ (i := 35) (N := some 131) (v := undef) (a' := ?_) #[true, true, true, true, true, true, true, true, true, true, true, true, true, true, true, true, true, true, true, true, true, true, true, true, true, true, true, true, true, true, true, true, true, true, true, true, false, false, false] rfl rfl (any_of HT_.out (by kernel_rfl)) (fun _ _ _ h => h) (Or.inr ⟨by rfl, rfl⟩) ?_ ?_
  rotate_left
  ·simp only [Act.put, List.setIfInBounds_toArray, List.set_cons_zero, List.set_cons_succ, i64_w, i32_w]
   rfl
  refine pure_ (i := 36) (N := some 132) (v := undef) (a' := ?_) #[true, true, true, true, true, true, true, true, true, true, true, true, true, true, true, true, true, true, true, true, true, true, true, true, true, true, true, true, true, true, true, true, true, true, true, true, true, false, false] rfl rfl (any_of HT_.out (by kernel_rfl)) (fun _ _ _ h => h) (Or.inr ⟨by rfl, rfl⟩) ?_ ?_
  rotate_left
  ·simp only [Act.put, List.setIfInBounds_toArray, List.set_cons_zero, List.set_cons_succ, i64_w, i32_w]
   rfl
  refine pure_ (i := 37) (N := some 133) (v := ?_) (a' := ?_) #[true, true, true, true, true, true, true, true, true, true, true, true, true, true, true, true, true, true, true, true, true, true, true, true, true, true, true, true, true, true, true, true, true, true, true, true, true, true, false] rfl rfl (any_of HT_.out (by kernel_rfl)) (fun _ _ _ h => h) (Or.inl ⟨by rfl, ?_⟩) ?_ ?_
  rotate_left
  ·intro w'
   go_simp
   with_reducible rfl
  rotate_left
  ·simp only [Act.put, List.setIfInBounds_toArray, List.set_cons_zero, List.set_cons_succ, i64_w, i32_w]
   rfl
  refine pure_ (i := 38) (N := some 134) (v := ?_) (a' := ?_) #[true, true, true, true, true, true, true, true, true, true, true, true, true, true, true, true, true, true, true, true, true, true, true, true, true, true, true, true, true, true, true, true, true, true, true, true, true, true, true] rfl rfl (any_of HT_.out (by kernel_rfl)) (fun _ _ _ h => h) (Or.inl ⟨by rfl, ?_⟩) ?_ ?_
  rotate_left
  ·intro w'
   go_simp
   with_reducible rfl
  rotate_left
  ·simp only [Act.put, List.setIfInBounds_toArray, List.set_cons_zero, List.set_cons_succ, i64_w, i32_w]
   rfl
  refine done_ (done_of HT_.out (by kernel_rfl)) ?_
  try go_wp2
  go_meet
  case rel => exact ⟨_, (false), rF, H', kL, ⟨rU (Kd.R_mono HO415.out (fun _ hk => trivial))⟩, ⟨rU HO405.out⟩, ⟨bU BK408.out⟩, hV HB⟩
 case rest => as_aux_lemma =>
  clear HC10
  try clear c1
  obtain ⟨kq, x134_9, rfl, HA, HJ9, HO_12, HO_409000, BK408, HB⟩ := hcut
  obtain rfl | ⟨kj9, rfl⟩ := fz kq
  ·exact zA HA
  have H := HA.out
  clear HA
  simp only [laws_FnLampsTick.j0] at H
  refine iBn H ?_; clear H; rintro rfl H
  have HC45 := aM H
  clear H
  go_upto_if 135 with (fail)
  go_cut [] from 135 to 135 (fun wc => ∃ (kq : Nat), Aside0 (laws_FnLampsTick.j6 kq l1 = some r) ∧ Aside0 (kq ≤ kj9) ∧ Aside0 (Kd.R Kd.string 9 wc w.heap.size (fun _ => True) (.slice Ao13 t403.length co13) t403) ∧ Aside0 (wc.heap[gb408]? = some (.cells #[(.slice Ao13 t403.length co13)] 26 (0, 0))) ∧ Aside0 (Below w.heap.size w wc))
  case first => as_aux_lemma =>
   have H := HC45.out
   clear HC45
   refine iB H ?_ ?_ <;> clear H <;> rintro rfl H
   ·refine iY H ?_; clear H; intro c47 H
    have c47b0 := qT c47
    have c47b1 := nF c47
    have c47b2 : (t413.length == t406.size) = true := by first | simpa using c47 | (simp at c47 ⊢; omega)
    clear c47
    (first | rw [c47b0] | (simp only [i64_w, i32_w]; rw [c47b0]) | skip)
    have HC48 := aM H
    clear H
    obtain ⟨Ao49, co49, eo49⟩ := Kd.R_slice HO_12.out
    subst eo49
    go_upto_if 142 with (fail)
    go_cut [] from 136 to 142 (fun wc => ∃ (kq : Nat) (x12_47 : List Int), Aside0 (laws_FnLampsTick.j4 kq l1 t406 t407 t409 x12_47 = some r) ∧ Aside0 (kq ≤ kj9) ∧ Aside0 (Kd.R (Kd.int .i64) 3 wc w.heap.size (fun _ => True) (.slice Ao49 t413.length co49) x12_47) ∧ Aside0 (Kd.R Kd.string 9 wc w.heap.size (fun _ => True) (.slice Ao13 t403.length co13) t403) ∧ Aside0 (wc.heap[gb408]? = some (.cells #[(.slice Ao13 t403.length co13)] 26 (0, 0))) ∧ Aside0 (Below w.heap.size w wc))
    case first => as_aux_lemma =>
     have H := HC48.out
     clear HC48
     refine iI H ?_ ?_ <;> clear H <;> intro c50 H
     ·have c50b0 := dT c50
      clear c50
      (first | rw [c50b0] | (simp only [i64_w, i32_w]; rw [c50b0]) | skip)
      refine iY H ?_; clear H; intro c51 H
      have c51b0 := eq_true c51
      have c51b1 := dT c51
      clear c51
      refine iY H ?_; clear H; intro c52 H
      have c52b0 := eq_true c52
      have c52b1 := dT c52
      clear c52
      obtain ⟨y425, Ny425⟩ := yN (List.replicate ((t406.size : Int) : Int).toNat 0 : List Int); rw [← Ny425.out] at H
      have H' := aM H
      clear H
      go_wp2_with (first | ((with_reducible refine gate_dst (N := 146) rfl ?_); (try (refine gate_guard (by rfl) ?_; dsimp only)); refine Kd.R_make (Kd.int .i64) _ 3 rfl (N := 146) rfl 31 _ _ rfl (t406.size : Int) rfl rfl Tryd.underlying31 (.int .i64 0) 8 info3 rfl (by decide) (by omega) 0 (ok := fun _ => True) (okp := fun _ => True) rfl (fun _ hk => hk) trivial oD (Nat.le_trans (Nat.mul_le_mul_right _ (oD : (t406.size : Int).toNat ≤ 35184372088832)) (by omega)) (Below.refl _ _) (Nat.le_refl _) ?_; intro v426 w53 ho54 hb hg_ hnew_; clear hg_ hnew_; (first | rw [← Ny425.out] at ho54 | (simp only [Int.reduceToNat] at ho54; rw [← Ny425.out] at ho54)); have HO427 := aM (Kd.R_lower (Kd.R_new' ho54 (Kd.R_lt (rU HO_12.out))) (below_size (bel HB))); replace HO_12 := aM (Kd.R_elder' (rU HO_12.out) (Kd.R_base ho54) hb); replace HO_409000 := rB HO_409000 hb; replace BK408 := bB BK408 hb; replace HB := hS HB hb; clear hb ho54))
      go_loopg [16, 18] kj9 (fun kq v16 v18 w' => ∃ (x16_2 : ByteArray) (x17_2 : List Int) (x18_2 : Int), v16 = .string x16_2 ∧ v18 = .int .i64 x18_2 ∧ Aside0 (laws_FnLampsTick.l0 kq l1 t406 t407 t409 t413 x16_2 x17_2 x18_2 t403 = some r) ∧ Aside0 (kq ≤ kj9) ∧ Aside0 (Kd.R (Kd.int .i64) 3 w' w.heap.size (fun k_ => some k_ ≠ (v426 : Value).ownBlock) (.slice Ao49 t413.length co49) t413) ∧ Aside0 (Kd.R (Kd.int .i64) 3 w' w.heap.size (fun k_ => some k_ ≠ ((.slice Ao49 t413.length co49) : Value).ownBlock) v426 x17_2) ∧ Aside0 (Kd.R Kd.string 9 w' w.heap.size (fun _ => True) (.slice Ao13 t403.length co13) t403) ∧ Aside0 (w'.heap[gb408]? = some (.cells #[(.slice Ao13 t403.length co13)] 26 (0, 0))) ∧ Aside0 (Below w.heap.size w w'))
      case atStart => exact ⟨(t406), (y425), (0), rF, rF, H', kR, ⟨rU (Kd.R_mono HO_12.out (fun _ hk => hk.2))⟩, ⟨rU (Kd.R_mono HO427.out (fun _ hk => hk.2))⟩, ⟨rU HO_409000.out⟩, ⟨bU BK408.out⟩, hV HB⟩
      case round => as_aux_lemma =>
       clear H'
       try clear c47b0;try clear c47b1;try clear c47b2;try clear c50b0;try clear c51b0;try clear c51b1;try clear c52b0;try clear c52b1
       obtain ⟨x16_2, x17_2, x18_2, rfl, rfl, HA, HK2, HO_12, HO_17, HO_409000, BK408, HB⟩ := hrel
       obtain rfl | ⟨k2, rfl⟩ := fz gk
       ·exact zA HA
       have H := HA.out
       clear HA
       simp only [laws_FnLampsTick.l0] at H
       refine iI H ?_ ?_ <;> clear H <;> intro c55 H
       ·have c55b0 := dT c55
        clear c55
        replace H := bC H; obtain ⟨⟨t429, t430⟩, A56, H⟩ := H; try dsimp only at H
        have HC57 := aM H
        clear H
        obtain ⟨hcz58_0, hfz58_0⟩ := hC1 BK408
        go_upto_region 20 with (first | ((with_reducible refine gG 15 (some 155) rfl rfl ?_); refine gC Tryd.func15 (impl_TickOnce.calls _ _ t403 x16_2 t429 t430 _ (cU (Kd.R_reads' HO_409000.out).2.2) ((Kd.R_reads' HO_409000.out).2.1) A56.out) ?_; rintro w59 hb; replace HO_12 := rB HO_12 hb; replace HO_17 := rB HO_17 hb; replace HO_409000 := rB HO_409000 hb; replace BK408 := bB BK408 hb; replace HB := hS HB hb; clear hb))
        (try simp only [Act.put, List.setIfInBounds_toArray, List.set_cons_zero, List.set_cons_succ])
        go_cut [166] from 147 to 166 (fun v166 wc => ∃ (kq : Nat) (x166_56 : Bool), v166 = .bool x166_56 ∧ Aside0 (laws_FnLampsTick.j2 kq l1 t406 t407 t409 t413 x16_2 x17_2 x18_2 t429 x166_56 t403 = some r) ∧ Aside0 (kq ≤ k2) ∧ Aside0 (Kd.R (Kd.int .i64) 3 wc w.heap.size (fun k_ => some k_ ≠ (v426 : Value).ownBlock) (.slice Ao49 t413.length co49) t413) ∧ Aside0 (Kd.R (Kd.int .i64) 3 wc w.heap.size (fun k_ => some k_ ≠ ((.slice Ao49 t413.length co49) : Value).ownBlock) v426 x17_2) ∧ Aside0 (Kd.R Kd.string 9 wc w.heap.size (fun _ => True) (.slice Ao13 t403.length co13) t403) ∧ Aside0 (wc.heap[gb408]? = some (.cells #[(.slice Ao13 t403.length co13)] 26 (0, 0))) ∧ Aside0 (Below w.heap.size w wc))
        case first => as_aux_lemma =>
         have H := HC57.out
         clear HC57
         refine iBy H ?_; clear H; rintro rfl H
         have H' := aM H
         clear H
         go_wp2
         go_meet
         case rel => exact ⟨_, (((t429.size : Int) != (x16_2.size : Int))), rF, H', ⟨by have := HJ9.out; have := HK2.out; first | omega | exact Nat.le_refl _⟩, ⟨rU HO_12.out⟩, ⟨rU HO_17.out⟩, ⟨rU HO_409000.out⟩, ⟨bU BK408.out⟩, hV HB⟩
        case rest => as_aux_lemma =>
         clear HC57
         try clear c55b0;try clear hcz58_0;try clear hfz58_0
         obtain ⟨kq, x166_56, rfl, HA, HJ56, HO_12, HO_17, HO_409000, BK408, HB⟩ := hcut
         obtain rfl | ⟨kj56, rfl⟩ := fz kq
         ·exact zA HA
         have H := HA.out
         clear HA
         simp only [laws_FnLampsTick.j2] at H
         refine iBn H ?_; clear H; rintro rfl H
         have H' := aM H
         clear H
         go_wp2
         obtain ⟨KI168, hKq_, hKb_, hIq_, hBq_⟩ := rng_start HB.out t429
         have hKB168 := aM hKb_
         have hIq_ := aM hIq_
         have HO_12 := aM (rng_R HO_12.out t429)
         have HO_17 := aM (rng_R HO_17.out t429)
         have HO_409000 := aM (rng_R HO_409000.out t429)
         have hne168_BK408 := aM (rng_lt BK408.out hKq_)
         have BK408 := aM (rng_B BK408.out t429)
         have HB := aM hBq_
         rw [← hKq_]
         clear hKq_ hKb_ hBq_
         go_loopg [] kj56 (fun kq w' => ∃ (x17_4 : List Int) (x168_4 : Int), Aside0 (0 ≤ x168_4) ∧ Aside0 (w'.heap[KI168]? = some (.stringIter t429 x168_4.toNat)) ∧ Aside0 (laws_FnLampsTick.l1 kq l1 t406 t407 t409 t413 x16_2 x17_4 x18_2 t429 t429 x168_4 t403 = some r) ∧ Aside0 (kq ≤ kj56) ∧ Aside0 (Kd.R (Kd.int .i64) 3 w' w.heap.size (fun k_ => some k_ ≠ (v426 : Value).ownBlock) (.slice Ao49 t413.length co49) t413) ∧ Aside0 (Kd.R (Kd.int .i64) 3 w' w.heap.size (fun k_ => some k_ ≠ ((.slice Ao49 t413.length co49) : Value).ownBlock) v426 x17_4) ∧ Aside0 (Kd.R Kd.string 9 w' w.heap.size (fun _ => True) (.slice Ao13 t403.length co13) t403) ∧ Aside0 (w'.heap[gb408]? = some (.cells #[(.slice Ao13 t403.length co13)] 26 (0, 0))) ∧ Aside0 (Below w.heap.size w w'))
         case atStart => exact ⟨(x17_2), (0), ⟨Int.le_refl 0⟩, ⟨hIq_.out⟩, H', kR, ⟨rU HO_12.out⟩, ⟨rU HO_17.out⟩, ⟨rU HO_409000.out⟩, ⟨bU BK408.out⟩, hV HB⟩
         case round => as_aux_lemma =>
          clear H'
          obtain ⟨x17_4, x168_4, h0I168, HI168, HA, HK4, HO_12, HO_17, HO_409000, BK408, HB⟩ := hrel
          obtain rfl | ⟨k4, rfl⟩ := fz gk
          ·exact zA HA
          have H := HA.out
          clear HA
          simp only [laws_FnLampsTick.l1] at H
          refine iI H ?_ ?_ <;> clear H <;> intro c62 H
          ·have c62b0 := dT c62
           clear c62
           refine iY H ?_; clear H; intro c63 H
           have c63b0 := dT c63
           clear c63
           refine iY H ?_; clear H; intro c65 H
           have c65b0 := dT c65
           clear c65
           refine iY H ?_; clear H; intro c66 H
           have c66b0 := dT c66
           clear c66
           refine iY H ?_; clear H; intro c67 H
           have c67b0 := dT c67
           clear c67
           refine iY H ?_; clear H; intro c69 H
           have c69b0 := dT c69
           clear c69
           refine iI H ?_ ?_ <;> clear H <;> intro c71 H
           ·have c71b0 := qT c71
            have c71b1 := nF c71
            clear c71
            have H' := aM H
            clear H
            have p64 : 0 ≤ (x168_4 : Int) := oD
            have q64 : x168_4 < (t429.size : Int) := oD
            have hx64 := bt_at t429 x168_4
            replace p64 := eq_true p64
            replace q64 := eq_true q64
            have hltI_ : x168_4 < (t429.size : Int) := of_decide_eq_true (by assumption)
            have hbtI_ : bt t429 x168_4 < 128 := of_decide_eq_true (by assumption)
            have hwI168 := aM (show wrap64 (x168_4 + 1) = x168_4 + 1 from by have h9_ : x168_4 < 1000000000 := of_decide_eq_true (by assumption); have h8_ := h0I168.out; unfold wrap64; omega)
            obtain ⟨rn_, hnext⟩ := rng_next (P := Tryd.prog) HI168.out h0I168.out hltI_ hbtI_
            clear hltI_ hbtI_
            have nI_ := aM (rng_at (p' := (x168_4 + 1).toNat) HI168.out)
            have nHO_12_ := aM (R_iter (p' := (x168_4 + 1).toNat) HO_12.out HI168.out)
            have nHO_17_ := aM (R_iter (p' := (x168_4 + 1).toNat) HO_17.out HI168.out)
            have nHO_409000_ := aM (R_iter (p' := (x168_4 + 1).toNat) HO_409000.out HI168.out)
            have nBK408_ := aM (rng_other (s := t429) (p := (x168_4 + 1).toNat) BK408.out hne168_BK408.out)
            have nHB_ := aM (rng_below (s := t429) (p := (x168_4 + 1).toNat) HB.out hKB168.out)
            clear HI168 HO_12 HO_17 HO_409000 BK408 HB
            have HI168 := nI_
            have HO_12 := nHO_12_
            have HO_17 := nHO_17_
            have HO_409000 := nHO_409000_
            have BK408 := nBK408_
            have HB := nHB_
            clear nI_ nHO_12_ nHO_17_ nHO_409000_ nBK408_ nHB_
            generalize wr.iterAt KI168 t429 (x168_4 + 1).toNat = wr at hnext HI168 HO_12 HO_17 HO_409000 BK408 HB
            try go_wp2
            try clear hnext
            have n0_ := aM (Kd.R_drew HO_12.out)
            have n1_ := aM (Kd.R_drew HO_17.out)
            have n2_ := aM (Kd.R_drew HO_409000.out)
            have n3_ := aM (blk_drew BK408.out)
            have n168i_ := aM (blk_drew HI168.out)
            have n4_ := aM (below_drew1 HB.out)
            clear HO_12
            clear HO_17
            clear HO_409000
            clear BK408
            clear HI168
            clear HB
            have HO_12 := n0_
            have HO_17 := n1_
            have HO_409000 := n2_
            have BK408 := n3_
            have HI168 := n168i_
            have HB := n4_
            clear n0_ n1_ n2_ n3_ n4_ n168i_
            have p68 : 0 ≤ (x168_4 : Int) := oD
            have q68 : x168_4 < (t429.size : Int) := oD
            have hx68 := bt_at t429 x168_4
            replace p68 := eq_true p68
            replace q68 := eq_true q68
            have p70 : 0 ≤ (x168_4 : Int) := oD
            have q70 : x168_4 < (x16_2.size : Int) := oD
            have hx70 := bt_at x16_2 x168_4
            replace p70 := eq_true p70
            replace q70 := eq_true q70
            refine start_ (n := 7) (S := fun w' => True) (ds := []) #[false, false, false, false, false, false, false] (by kernel_rfl) rfl rfl trivial (fun hHeld => ?_)
            generalize wr.drew = w72 at HO_12 HO_17 HO_409000 BK408 HI168 HB hHeld ⊢
            refine pure_ (i := 0) (N := some 172) (v := ?_) (a' := ?_) #[true, false, false, false, false, false, false] rfl rfl (by kernel_rfl) (fun _ _ _ h => h) (Or.inl ⟨by rfl, ?_⟩) ?_ ?_
            rotate_left
            ·intro w'
             go_simp
             with_reducible rfl
            rotate_left
            ·simp only [Act.put, List.setIfInBounds_toArray, List.set_cons_zero, List.set_cons_succ, i64_w, i32_w]
             rfl
            refine pure_ (i := 1) (N := some 173) (v := ?_) (a' := ?_) #[true, true, false, false, false, false, false] rfl rfl (by kernel_rfl) (fun _ _ _ h => h) (Or.inl ⟨by rfl, ?_⟩) ?_ ?_
            rotate_left
            ·intro w'
             go_simp
             with_reducible rfl
            rotate_left
            ·simp only [Act.put, List.setIfInBounds_toArray, List.set_cons_zero, List.set_cons_succ, i64_w, i32_w]
             rfl
            refine pure_ (i := 3) (N := some 175) (v := ?_) (a' := ?_) #[true, true, false, true, false, false, false] rfl rfl (by kernel_rfl) (fun _ _ _ h => h) (Or.inl ⟨by rfl, ?_⟩) ?_ ?_
            rotate_left
            ·intro w'
             go_simp
             with_reducible rfl
            rotate_left
            ·simp only [Act.put, List.setIfInBounds_toArray, List.set_cons_zero, List.set_cons_succ, i64_w, i32_w]
             rfl
            refine pure_ (i := 4) (N := some 176) (v := ?_) (a' := ?_) #[true, true, false, true, true, false, false] rfl rfl (by kernel_rfl) (fun _ _ _ h => h) (Or.inl ⟨by rfl, ?_⟩) ?_ ?_
            rotate_left
            ·intro w'
             go_simp
             with_reducible rfl
            rotate_left
            ·simp only [Act.put, List.setIfInBounds_toArray, List.set_cons_zero, List.set_cons_succ, i64_w, i32_w]
             rfl
            refine take_ (i := 2) (N := some 174) (v := ?_) (a' := ?_) #[true, true, true, true, true, false, false] rfl rfl (by kernel_rfl) (fun _ _ _ h => h) (Or.inl ⟨by rfl, ?_⟩) hHeld ?_ ?_
            rotate_left
            ·intro w' _
             go_simp
             with_reducible rfl
            rotate_left
            ·simp only [Act.put, List.setIfInBounds_toArray, List.set_cons_zero, List.set_cons_succ, i64_w, i32_w]
             rfl
            refine take_ (i := 5) (N := some 177) (v := ?_) (a' := ?_) #[true, true, true, true, true, true, false] rfl rfl (by kernel_rfl) (fun _ _ _ h => h) (Or.inl ⟨by rfl, ?_⟩) hHeld ?_ ?_
            rotate_left
            ·intro w' _
             go_simp
             with_reducible rfl
            rotate_left
            ·simp only [Act.put, List.setIfInBounds_toArray, List.set_cons_zero, List.set_cons_succ, i64_w, i32_w]
             rfl
            refine pure_ (i := 6) (N := some 178) (v := ?_) (a' := ?_) #[true, true, true, true, true, true, true] rfl rfl (by kernel_rfl) (fun _ _ _ h => h) (Or.inl ⟨by rfl, ?_⟩) ?_ ?_
            rotate_left
            ·intro w'
             go_simp
             with_reducible rfl
            rotate_left
            ·simp only [Act.put, List.setIfInBounds_toArray, List.set_cons_zero, List.set_cons_succ, i64_w, i32_w]
             rfl
            refine done_ (by kernel_rfl) ?_
            try go_wp2
            go_roundg k4
            case measure => have := HJ9.out; have := HK2.out; have := HJ56.out; have := HK4.out; omega
            case rel => exact ⟨(x17_4), (wrap64 (x168_4 + 1)), ⟨by rw [hwI168.out]; have h8_ := h0I168.out; omega⟩, ⟨by rw [hwI168.out]; (with_reducible repeat (first | refine blk_drewN ?_ _ | refine blk_drew ?_ | refine blk_alloc ?_ _)); exact HI168.out⟩, H', ⟨by have := HJ9.out; have := HK2.out; have := HJ56.out; have := HK4.out; omega⟩, ⟨rU HO_12.out⟩, ⟨rU HO_17.out⟩, ⟨rU HO_409000.out⟩, ⟨bU BK408.out⟩, hV HB⟩
           have c71b0 := qF c71
           have c71b1 := nT c71
           refine iY H ?_; clear H; intro c73 H
           have c73b0 := dT c73
           clear c73
           obtain ⟨y432, Ny432⟩ := yN (x17_4.set (x168_4 : Int).toNat (wrap64 ((rd x17_4 x168_4) + 1)) : List Int); rw [← Ny432.out] at H
           have H' := aM H
           clear H
           have p64 : 0 ≤ (x168_4 : Int) := oD
           have q64 : x168_4 < (t429.size : Int) := oD
           have hx64 := bt_at t429 x168_4
           replace p64 := eq_true p64
           replace q64 := eq_true q64
           have hltI_ : x168_4 < (t429.size : Int) := of_decide_eq_true (by assumption)
           have hbtI_ : bt t429 x168_4 < 128 := of_decide_eq_true (by assumption)
           have hwI168 := aM (show wrap64 (x168_4 + 1) = x168_4 + 1 from by have h9_ : x168_4 < 1000000000 := of_decide_eq_true (by assumption); have h8_ := h0I168.out; unfold wrap64; omega)
           obtain ⟨rn_, hnext⟩ := rng_next (P := Tryd.prog) HI168.out h0I168.out hltI_ hbtI_
           clear hltI_ hbtI_
           have nI_ := aM (rng_at (p' := (x168_4 + 1).toNat) HI168.out)
           have nHO_12_ := aM (R_iter (p' := (x168_4 + 1).toNat) HO_12.out HI168.out)
           have nHO_17_ := aM (R_iter (p' := (x168_4 + 1).toNat) HO_17.out HI168.out)
           have nHO_409000_ := aM (R_iter (p' := (x168_4 + 1).toNat) HO_409000.out HI168.out)
           have nBK408_ := aM (rng_other (s := t429) (p := (x168_4 + 1).toNat) BK408.out hne168_BK408.out)
           have nHB_ := aM (rng_below (s := t429) (p := (x168_4 + 1).toNat) HB.out hKB168.out)
           clear HI168 HO_12 HO_17 HO_409000 BK408 HB
           have HI168 := nI_
           have HO_12 := nHO_12_
           have HO_17 := nHO_17_
           have HO_409000 := nHO_409000_
           have BK408 := nBK408_
           have HB := nHB_
           clear nI_ nHO_12_ nHO_17_ nHO_409000_ nBK408_ nHB_
           generalize wr.iterAt KI168 t429 (x168_4 + 1).toNat = wr at hnext HI168 HO_12 HO_17 HO_409000 BK408 HB
           try go_wp2
           try clear hnext
           have n0_ := aM (Kd.R_drew HO_12.out)
           have n1_ := aM (Kd.R_drew HO_17.out)
           have n2_ := aM (Kd.R_drew HO_409000.out)
           have n3_ := aM (blk_drew BK408.out)
           have n168i_ := aM (blk_drew HI168.out)
           have n4_ := aM (below_drew1 HB.out)
           clear HO_12
           clear HO_17
           clear HO_409000
           clear BK408
           clear HI168
           clear HB
           have HO_12 := n0_
           have HO_17 := n1_
           have HO_409000 := n2_
           have BK408 := n3_
           have HI168 := n168i_
           have HB := n4_
           clear n0_ n1_ n2_ n3_ n4_ n168i_
           have p68 : 0 ≤ (x168_4 : Int) := oD
           have q68 : x168_4 < (t429.size : Int) := oD
           have hx68 := bt_at t429 x168_4
           replace p68 := eq_true p68
           replace q68 := eq_true q68
           have p70 : 0 ≤ (x168_4 : Int) := oD
           have q70 : x168_4 < (x16_2.size : Int) := oD
           have hx70 := bt_at x16_2 x168_4
           replace p70 := eq_true p70
           replace q70 := eq_true q70
           refine start_ (n := 7) (S := fun w' => True) (ds := []) #[false, false, false, false, false, false, false] (by kernel_rfl) rfl rfl trivial (fun hHeld => ?_)
           generalize wr.drew = w75 at HO_12 HO_17 HO_409000 BK408 HI168 HB hHeld ⊢
           refine pure_ (i := 0) (N := some 172) (v := ?_) (a' := ?_) #[true, false, false, false, false, false, false] rfl rfl (by kernel_rfl) (fun _ _ _ h => h) (Or.inl ⟨by rfl, ?_⟩) ?_ ?_
           rotate_left
           ·intro w'
            go_simp
            with_reducible rfl
           rotate_left
           ·simp only [Act.put, List.setIfInBounds_toArray, List.set_cons_zero, List.set_cons_succ, i64_w, i32_w]
            rfl
           refine pure_ (i := 1) (N := some 173) (v := ?_) (a' := ?_) #[true, true, false, false, false, false, false] rfl rfl (by kernel_rfl) (fun _ _ _ h => h) (Or.inl ⟨by rfl, ?_⟩) ?_ ?_
           rotate_left
           ·intro w'
            go_simp
            with_reducible rfl
           rotate_left
           ·simp only [Act.put, List.setIfInBounds_toArray, List.set_cons_zero, List.set_cons_succ, i64_w, i32_w]
            rfl
           refine pure_ (i := 3) (N := some 175) (v := ?_) (a' := ?_) #[true, true, false, true, false, false, false] rfl rfl (by kernel_rfl) (fun _ _ _ h => h) (Or.inl ⟨by rfl, ?_⟩) ?_ ?_
           rotate_left
           ·intro w'
            go_simp
            with_reducible rfl
           rotate_left
           ·simp only [Act.put, List.setIfInBounds_toArray, List.set_cons_zero, List.set_cons_succ, i64_w, i32_w]
            rfl
           refine pure_ (i := 4) (N := some 176) (v := ?_) (a' := ?_) #[true, true, false, true, true, false, false] rfl rfl (by kernel_rfl) (fun _ _ _ h => h) (Or.inl ⟨by rfl, ?_⟩) ?_ ?_
           rotate_left
           ·intro w'
            go_simp
            with_reducible rfl
           rotate_left
           ·simp only [Act.put, List.setIfInBounds_toArray, List.set_cons_zero, List.set_cons_succ, i64_w, i32_w]
            rfl
           refine take_ (i := 2) (N := some 174) (v := ?_) (a' := ?_) #[true, true, true, true, true, false, false] rfl rfl (by kernel_rfl) (fun _ _ _ h => h) (Or.inl ⟨by rfl, ?_⟩) hHeld ?_ ?_
           rotate_left
           ·intro w' _
            go_simp
            with_reducible rfl
           rotate_left
           ·simp only [Act.put, List.setIfInBounds_toArray, List.set_cons_zero, List.set_cons_succ, i64_w, i32_w]
            rfl
           refine take_ (i := 5) (N := some 177) (v := ?_) (a' := ?_) #[true, true, true, true, true, true, false] rfl rfl (by kernel_rfl) (fun _ _ _ h => h) (Or.inl ⟨by rfl, ?_⟩) hHeld ?_ ?_
           rotate_left
           ·intro w' _
            go_simp
            with_reducible rfl
           rotate_left
           ·simp only [Act.put, List.setIfInBounds_toArray, List.set_cons_zero, List.set_cons_succ, i64_w, i32_w]
            rfl
           refine pure_ (i := 6) (N := some 178) (v := ?_) (a' := ?_) #[true, true, true, true, true, true, true] rfl rfl (by kernel_rfl) (fun _ _ _ h => h) (Or.inl ⟨by rfl, ?_⟩) ?_ ?_
           rotate_left
           ·intro w'
            go_simp
            with_reducible rfl
           rotate_left
           ·simp only [Act.put, List.setIfInBounds_toArray, List.set_cons_zero, List.set_cons_succ, i64_w, i32_w]
            rfl
           refine done_ (by kernel_rfl) ?_
           obtain ⟨Ao76, co76, eo76⟩ := Kd.R_slice HO_17.out
           subst eo76
           have p431 : 0 ≤ (x168_4 : Int) := oD
           have q431 : x168_4 < (x17_4.length : Int) := oD
           obtain ⟨ad431, e431, hx431_0⟩ := Kd.at_int (Kd.R_reads' HO_17.out).2.2 x168_4 p431 q431
           cases e431
           replace p431 := eq_true p431
           replace q431 := eq_true q431
           have p74 : 0 ≤ (x168_4 : Int) := oD
           have q74 : (x168_4 : Int) < ((x17_4.length : Int) : Int) := oD
           obtain ⟨go74, co74, eo74, gb74, gl74, cl74, HG74⟩ := Kd.R_form HO_17.out (by omega)
           (first | cases eo74 | (injection eo74 with ea_ en_ ec_; (first | subst ea_ | (injection ea_ with ea_; subst ea_)); subst ec_; clear en_))
           have GB74 := aM gb74
           have GG74 := aM HG74
           clear gb74 gl74 HG74
           (first | simp only [add_plain] at hx431_0 | skip)
           obtain ⟨hx74_0, hf74_0⟩ := Kd.R_celln 0 HO_17.out (x168_4 : Int) p74 q74
           replace p74 := eq_true p74
           replace q74 := eq_true q74
           obtain ⟨hy77_, hz77_⟩ := Kd.R_celln 0 HO_17.out (x168_4 : Int) oD oD
           have HP77 := Kd.R_putg HO_17.out (x168_4 : Int) (wrap64 ((rd x17_4 x168_4) + 1))
           try go_wp2_with (first | ((with_reducible refine gate_store (t := 3) (p := 184) rfl ?_); refine store_event (t := 3) (p := 184) (v := ?vo_w78) (w1 := (w75.setCell ⟨go74, (x168_4 : Int).toNat, none⟩ (.int .i64 (wrap64 ((rd x17_4 x168_4) + 1))))) ?hg ?ho ?hn ?hr ?_; (case ho => rfl); (case hg => rfl); (case hn => rfl); (case hr => first | (go_simp; done) | (go_simp; rfl)); intro w78 hw; have hg : w75.grownBy w78 (some go74) := (by rw [hw]; exact HP77.2); have hp_ : Kd.R (Kd.int .i64) 3 w78 w.heap.size (fun k_ => some k_ ≠ (.slice Ao49 t413.length co49 : Value).ownBlock) (.slice (some ⟨go74, 0, none⟩) x17_4.length co76) y432 := (by rw [hw, Ny432.out]; exact HP77.1); clear HP77; have n0_ := aM (Kd.R_after (v := (.slice (some ⟨go74, 0, none⟩) x17_4.length co76)) (v1 := (.slice (some ⟨go74, 0, none⟩) x17_4.length co76)) (ok := (fun _ => True)) (rU (Kd.R_mono HO_12.out (fun _ hk => ⟨trivial, hk⟩))) hg (.inl rfl)); have n1_ := aM (hp_); have n2_ := aM (Kd.R_over' (v := (.slice (some ⟨go74, 0, none⟩) x17_4.length co76)) (rU HO_409000.out) (Kd.R_typed HO_17.out) (by decide) hg); have n3_ := aM (blk_grown (g := gb408) (o := .cells #[.slice Ao13 t403.length co13] 26 (0, 0)) (bU BK408.out) hg (Kd.R_ne HO_17.out BK408.out (by decide))); have n168i_ := aM (blk_grown (bU HI168.out) hg (rng_ne HO_17.out HI168.out)); have n4_ := aM ((by rw [hw]; exact below_set (HB.out) GB74.out : Below w.heap.size w w78)); clear HO_12; clear HO_17; clear HO_409000; clear BK408; clear HI168; clear HB; have HO_12 := n0_; have HO_17 := n1_; have HO_409000 := n2_; have BK408 := n3_; have HI168 := n168i_; have HB := n4_; clear n0_ n1_ n2_ n3_ n4_ n168i_; clear hg hw hp_))
           go_roundg k4
           case measure => have := HJ9.out; have := HK2.out; have := HJ56.out; have := HK4.out; omega
           case rel => exact ⟨(y432), (wrap64 (x168_4 + 1)), ⟨by rw [hwI168.out]; have h8_ := h0I168.out; omega⟩, ⟨by rw [hwI168.out]; (with_reducible repeat (first | refine blk_drewN ?_ _ | refine blk_drew ?_ | refine blk_alloc ?_ _)); exact HI168.out⟩, H', ⟨by have := HJ9.out; have := HK2.out; have := HJ56.out; have := HK4.out; omega⟩, ⟨rU (Kd.R_mono HO_12.out (fun _ hk => hk.2))⟩, ⟨rU HO_17.out⟩, ⟨rU HO_409000.out⟩, ⟨bU BK408.out⟩, hV HB⟩
          have c62b0 := dF c62
          clear c62
          have H' := aM H
          clear H
          have hnext := rng_end (P := Tryd.prog) HI168.out h0I168.out (of_decide_eq_false (by assumption) : ¬ x168_4 < (t429.size : Int))
          go_wp2
          try clear hnext
          go_roundg k4
          case measure => have := HJ9.out; have := HK2.out; have := HJ56.out; have := HK4.out; omega
          case rel => exact ⟨(t429), (x17_4), (wrap64 (x18_2 + 1)), rF, rF, H', ⟨by have := HJ9.out; have := HK2.out; have := HJ56.out; have := HK4.out; omega⟩, ⟨rU HO_12.out⟩, ⟨rU HO_17.out⟩, ⟨rU HO_409000.out⟩, ⟨bU BK408.out⟩, hV HB⟩
       have c55b0 := dF c55
       clear c55
       refine iY H ?_; clear H; intro c79 H
       have c79b0 := qT c79
       have c79b1 := nF c79
       clear c79
       replace H := bC H; obtain ⟨t428, A80, H⟩ := H
       refine iBy H ?_; clear H; rintro rfl H
       have H' := aM H
       clear H
       obtain ⟨Ao82, co82, eo82⟩ := Kd.R_slice HO_17.out
       subst eo82
       go_wp2_with (first | (go_at_call 12; (with_reducible refine (laws_xSame.calls k2 _ _ x17_2 _ _ t413 true _ (cU (Kd.R_reads' HO_17.out).2.2) ((Kd.R_reads' HO_17.out).2.1) (cU (Kd.R_reads' HO_12.out).2.2) ((Kd.R_reads' HO_12.out).2.1) A80.out).mono ?_); rintro e w' ⟨rfl, ⟨nd, rfl⟩⟩))
       go_meet
       case rel => exact ⟨_, (t413), H', ⟨by have := HJ9.out; have := HK2.out; first | omega | exact Nat.le_refl _⟩, ⟨rU (Kd.R_mono HO_12.out (fun _ hk => trivial))⟩, ⟨rU HO_409000.out⟩, ⟨bU BK408.out⟩, hV HB⟩
     have c50b0 := dF c50
     clear c50
     (first | rw [c50b0] | (simp only [i64_w, i32_w]; rw [c50b0]) | skip)
     have H' := aM H
     clear H
     go_wp2
     go_meet
     case rel => exact ⟨_, (t413), H', ⟨by have := HJ9.out; first | omega | exact Nat.le_refl _⟩, ⟨rU HO_12.out⟩, ⟨rU HO_409000.out⟩, ⟨bU BK408.out⟩, hV HB⟩
    case rest => as_aux_lemma =>
     clear HC48
     try clear c47b0;try clear c47b1;try clear c47b2
     obtain ⟨kq, x12_47, HA, HJ47, HO_12, HO_409000, BK408, HB⟩ := hcut
     have hl12_47 := (Kd.R_reads' HO_12.out).1
     rw [hl12_47] at HO_12
     (try simp only [hl12_47])
     (try simp only [hl12_47] at BK408)
     (try simp only [hl12_47] at HO_409000)
     obtain rfl | ⟨kj47, rfl⟩ := fz kq
     ·exact zA HA
     have H := HA.out
     clear HA
     simp only [laws_FnLampsTick.j4] at H
     have H' := aM H
     clear H
     go_wp2
     go_loopg [197] kj47 (fun kq v197 w' => ∃ (x197_3 : Int), v197 = .int .i64 x197_3 ∧ Aside0 (laws_FnLampsTick.l2 kq l1 t406 t407 t409 x12_47 (x12_47.length : Int) x197_3 = some r) ∧ Aside0 (kq ≤ kj47) ∧ Aside0 (Kd.R (Kd.int .i64) 3 w' w.heap.size (fun _ => True) (.slice Ao49 x12_47.length co49) x12_47) ∧ Aside0 (Kd.R Kd.string 9 w' w.heap.size (fun _ => True) (.slice Ao13 t403.length co13) t403) ∧ Aside0 (w'.heap[gb408]? = some (.cells #[(.slice Ao13 t403.length co13)] 26 (0, 0))) ∧ Aside0 (Below w.heap.size w w'))
     case atStart => exact ⟨(0), rF, H', kR, ⟨by (try simp only [hl12_47]); (with_reducible repeat (first | apply Kd.R_alloc | apply Kd.R_drewN | apply Kd.R_drew)); exact HO_12.out⟩, ⟨by (try simp only [hl12_47]); (with_reducible repeat (first | apply Kd.R_alloc | apply Kd.R_drewN | apply Kd.R_drew)); exact HO_409000.out⟩, ⟨by (try simp only [hl12_47]); (with_reducible repeat (first | refine blk_drewN ?_ _ | refine blk_drew ?_ | refine blk_alloc ?_ _)); exact BK408.out⟩, hV HB⟩
     case round => as_aux_lemma =>
      clear H'
      obtain ⟨x197_3, rfl, HA, HK3, HO_195, HO_409000, BK408, HB⟩ := hrel
      obtain rfl | ⟨k3, rfl⟩ := fz gk
      ·exact zA HA
      have H := HA.out
      clear HA
      simp only [laws_FnLampsTick.l2] at H
      refine iI H ?_ ?_ <;> clear H <;> intro c83 H
      ·have c83b0 := dT c83
       try (have c83l := c83b0; simp only [hl12_47] at c83l)
       clear c83
       refine iY H ?_; clear H; intro c84 H
       have c84b0 := dT c84
       clear c84
       refine iY H ?_; clear H; intro c85 H
       have c85b0 := dT c85
       try (have c85l := c85b0; simp only [hl12_47] at c85l)
       clear c85
       refine iN H ?_; clear H; intro c86 H
       have c86b0 := dF c86
       clear c86
       refine iN H ?_; clear H; intro c87 H
       have c87b0 := gF c87
       clear c87
       refine iY H ?_; clear H; intro c88 H
       have c88b0 := dT c88
       clear c88
       refine iY H ?_; clear H; intro c90 H
       have c90b0 := dT c90
       clear c90
       refine iN H ?_; clear H; intro c92 H
       have c92b0 := bF c92
       (try (have c92b1 : decide (((Int.tmod (rd x12_47 x197_3) 2) == 1) = ((bt t406 x197_3) != (bt t409 x197_3))) = true := by simpa using c92))
       (try (have c92b2 : (((Int.tmod (rd x12_47 x197_3) 2) == 1) == ((bt t406 x197_3) != (bt t409 x197_3))) = true := by simpa using c92))
       clear c92
       have H' := aM H
       clear H
       have p433 : 0 ≤ (x197_3 : Int) := oD
       have q433 : x197_3 < (x12_47.length : Int) := oD
       obtain ⟨ad433, e433, hx433_0⟩ := Kd.at_int (Kd.R_reads' HO_195.out).2.2 x197_3 p433 q433
       cases e433
       replace p433 := eq_true p433
       replace q433 := eq_true q433
       try go_wp2
       have n0_ := aM (Kd.R_drew HO_195.out)
       have n1_ := aM (Kd.R_drew HO_409000.out)
       have n2_ := aM (blk_drew BK408.out)
       have n3_ := aM (below_drew1 HB.out)
       clear HO_195
       clear HO_409000
       clear BK408
       clear HB
       have HO_195 := n0_
       have HO_409000 := n1_
       have BK408 := n2_
       have HB := n3_
       clear n0_ n1_ n2_ n3_
       have p89 : 0 ≤ (x197_3 : Int) := oD
       have q89 : x197_3 < (t406.size : Int) := oD
       have hx89 := bt_at t406 x197_3
       replace p89 := eq_true p89
       replace q89 := eq_true q89
       have p91 : 0 ≤ (x197_3 : Int) := oD
       have q91 : x197_3 < (t409.size : Int) := oD
       have hx91 := bt_at t409 x197_3
       replace p91 := eq_true p91
       replace q91 := eq_true q91
       refine start_ (n := 20) (S := fun w' => True) (ds := []) #[false, false, false, false, false, false, false, false, false, false, false, false, false, false, false, false, false, false, false, false] (by kernel_rfl) rfl rfl trivial (fun hHeld => ?_); refine with_tabW laws_FnLampsTick.tab33 laws_FnLampsTick.bits33 (fun HT_ HW_ => ?_)
       generalize wr.drew = w93 at HO_195 HO_409000 BK408 HB hHeld ⊢
       refine pure_ (i := 0) (N := some 202) (v := ?_) (a' := ?_) #[true, false, false, false, false, false, false, false, false, false, false, false, false, false, false, false, false, false, false, false] rfl rfl (any_of HT_.out (by kernel_rfl)) (fun _ _ _ h => h) (Or.inl ⟨by rfl, ?_⟩) ?_ ?_
       rotate_left
       ·intro w'
        go_simp
        with_reducible rfl
       rotate_left
       ·simp only [Act.put, List.setIfInBounds_toArray, List.set_cons_zero, List.set_cons_succ, i64_w, i32_w]
        rfl
       refine pure_ (i := 1) (N := some 203) (v := ?_) (a' := ?_) #[true, true, false, false, false, false, false, false, false, false, false, false, false, false, false, false, false, false, false, false] rfl rfl (any_of HT_.out (by kernel_rfl)) (fun _ _ _ h => h) (Or.inl ⟨by rfl, ?_⟩) ?_ ?_
       rotate_left
       ·intro w'
        go_simp
        with_reducible rfl
       rotate_left
       ·simp only [Act.put, List.setIfInBounds_toArray, List.set_cons_zero, List.set_cons_succ, i64_w, i32_w]
        rfl
       refine pure_ (i := 2) (N := some 204) (v := ?_) (a' := ?_) #[true, true, true, false, false, false, false, false, false, false, false, false, false, false, false, false, false, false, false, false] rfl rfl (any_of HT_.out (by kernel_rfl)) (fun _ _ _ h => h) (Or.inl ⟨by rfl, ?_⟩) ?_ ?_
       rotate_left
       ·intro w'
        go_simp
        with_reducible rfl
       rotate_left
       ·simp only [Act.put, List.setIfInBounds_toArray, List.set_cons_zero, List.set_cons_succ, i64_w, i32_w]
        rfl
       refine pure_ (i := 3) (N := some 205) (v := ?_) (a' := ?_) #[true, true, true, true, false, false, false, false, false, false, false, false, false, false, false, false, false, false, false, false] rfl rfl (any_of HT_.out (by kernel_rfl)) (fun _ _ _ h => h) (Or.inl ⟨by rfl, ?_⟩) ?_ ?_
       rotate_left
       ·intro w'
        go_simp
        with_reducible rfl
       rotate_left
       ·simp only [Act.put, List.setIfInBounds_toArray, List.set_cons_zero, List.set_cons_succ, i64_w, i32_w]
        rfl
       refine pure_ (i := 4) (N := some 206) (v := ?_) (a' := ?_) #[true, true, true, true, true, false, false, false, false, false, false, false, false, false, false, false, false, false, false, false] rfl rfl (any_of HT_.out (by kernel_rfl)) (fun _ _ _ h => h) (Or.inl ⟨by rfl, ?_⟩) ?_ ?_
       rotate_left
       ·intro w'
        go_simp
        with_reducible rfl
       rotate_left
       ·simp only [Act.put, List.setIfInBounds_toArray, List.set_cons_zero, List.set_cons_succ, i64_w, i32_w]
        rfl
       refine pure_ (i := 5) (N := some 207) (v := ?_) (a' := ?_) #[true, true, true, true, true, true, false, false, false, false, false, false, false, false, false, false, false, false, false, false] rfl rfl (any_of HT_.out (by kernel_rfl)) (fun _ _ _ h => h) (Or.inl ⟨by rfl, ?_⟩) ?_ ?_
       rotate_left
       ·intro w'
        go_simp
        with_reducible rfl
       rotate_left
       ·simp only [Act.put, List.setIfInBounds_toArray, List.set_cons_zero, List.set_cons_succ, i64_w, i32_w]
        rfl
       refine pure_ (i := 6) (N := some 208) (v := ?_) (a' := ?_) #[true, true, true, true, true, true, true, false, false, false, false, false, false, false, false, false, false, false, false, false] rfl rfl (any_of HT_.out (by kernel_rfl)) (fun _ _ _ h => h) (Or.inl ⟨by rfl, ?_⟩) ?_ ?_
       rotate_left
       ·intro w'
        go_simp
        with_reducible rfl
       rotate_left
       ·simp only [Act.put, List.setIfInBounds_toArray, List.set_cons_zero, List.set_cons_succ, i64_w, i32_w]
        rfl
       refine pure_ (i := 7) (N := some 209) (v := ?_) (a' := ?_) #[true, true, true, true, true, true, true, true, false, false, false, false, false, false, false, false, false, false, false, false] rfl rfl (any_of HT_.out (by kernel_rfl)) (fun _ _ _ h => h) (Or.inl ⟨by rfl, ?_⟩) ?_ ?_
       rotate_left
       ·intro w'
        go_simp
        with_reducible rfl
       rotate_left
       ·simp only [Act.put, List.setIfInBounds_toArray, List.set_cons_zero, List.set_cons_succ, i64_w, i32_w]
        rfl
       refine pure_ (i := 8) (N := some 210) (v := ?_) (a' := ?_) #[true, true, true, true, true, true, true, true, true, false, false, false, false, false, false, false, false, false, false, false] rfl rfl (any_of HT_.out (by kernel_rfl)) (fun _ _ _ h => h) (Or.inl ⟨by rfl, ?_⟩) ?_ ?_
       rotate_left
       ·intro w'
        go_simp
        with_reducible rfl
       rotate_left
       ·simp only [Act.put, List.setIfInBounds_toArray, List.set_cons_zero, List.set_cons_succ, i64_w, i32_w]
        rfl
       refine pure_ (i := 9) (N := some 211) (v := ?_) (a' := ?_) #[true, true, true, true, true, true, true, true, true, true, false, false, false, false, false, false, false, false, false, false] rfl rfl (any_of HT_.out (by kernel_rfl)) (fun _ _ _ h => h) (Or.inl ⟨by rfl, ?_⟩) ?_ ?_
       rotate_left
       ·intro w'
        go_simp
        with_reducible rfl
       rotate_left
       ·simp only [Act.put, List.setIfInBounds_toArray, List.set_cons_zero, List.set_cons_succ, i64_w, i32_w]
        rfl
       refine pure_ (i := 10) (N := some 212) (v := ?_) (a' := ?_) #[true, true, true, true, true, true, true, true, true, true, true, false, false, false, false, false, false, false, false, false] rfl rfl (any_of HT_.out (by kernel_rfl)) (fun _ _ _ h => h) (Or.inl ⟨by rfl, ?_⟩) ?_ ?_
       rotate_left
       ·intro w'
        go_simp
        with_reducible rfl
       rotate_left
       ·simp only [Act.put, List.setIfInBounds_toArray, List.set_cons_zero, List.set_cons_succ, i64_w, i32_w]
        rfl
       refine pure_ (i := 11) (N := some 213) (v := ?_) (a' := ?_) #[true, true, true, true, true, true, true, true, true, true, true, true, false, false, false, false, false, false, false, false] rfl rfl (any_of HT_.out (by kernel_rfl)) (fun _ _ _ h => h) (Or.inl ⟨by rfl, ?_⟩) ?_ ?_
       rotate_left
       ·intro w'
        go_simp
        with_reducible rfl
       rotate_left
       ·simp only [Act.put, List.setIfInBounds_toArray, List.set_cons_zero, List.set_cons_succ, i64_w, i32_w]
        rfl
       refine pure_ (i := 12) (N := some 214) (v := ?_) (a' := ?_) #[true, true, true, true, true, true, true, true, true, true, true, true, true, false, false, false, false, false, false, false] rfl rfl (any_of HT_.out (by kernel_rfl)) (fun _ _ _ h => h) (Or.inl ⟨by rfl, ?_⟩) ?_ ?_
       rotate_left
       ·intro w'
        go_simp
        with_reducible rfl
       rotate_left
       ·simp only [Act.put, List.setIfInBounds_toArray, List.set_cons_zero, List.set_cons_succ, i64_w, i32_w]
        rfl
       refine pure_ (i := 14) (N := some 216) (v := ?_) (a' := ?_) #[true, true, true, true, true, true, true, true, true, true, true, true, true, false, true, false, false, false, false, false] rfl rfl (any_of HT_.out (by kernel_rfl)) (fun _ _ _ h => h) (Or.inl ⟨by rfl, ?_⟩) ?_ ?_
       rotate_left
       ·intro w'
        go_simp
        with_reducible rfl
       rotate_left
       ·simp only [Act.put, List.setIfInBounds_toArray, List.set_cons_zero, List.set_cons_succ, i64_w, i32_w]
        rfl
       refine pure_ (i := 15) (N := some 217) (v := ?_) (a' := ?_) #[true, true, true, true, true, true, true, true, true, true, true, true, true, false, true, true, false, false, false, false] rfl rfl (any_of HT_.out (by kernel_rfl)) (fun _ _ _ h => h) (Or.inl ⟨by rfl, ?_⟩) ?_ ?_
       rotate_left
       ·intro w'
        go_simp
        with_reducible rfl
       rotate_left
       ·simp only [Act.put, List.setIfInBounds_toArray, List.set_cons_zero, List.set_cons_succ, i64_w, i32_w]
        rfl
       refine take_ (i := 13) (N := some 215) (v := ?_) (a' := ?_) #[true, true, true, true, true, true, true, true, true, true, true, true, true, true, true, true, false, false, false, false] rfl rfl (take_ofW HT_.out HW_.out (by kernel_rfl)) (fun _ _ _ h => h) (Or.inl ⟨by rfl, ?_⟩) hHeld ?_ ?_
       rotate_left
       ·intro w' _
        go_simp
        with_reducible rfl
       rotate_left
       ·simp only [Act.put, List.setIfInBounds_toArray, List.set_cons_zero, List.set_cons_succ, i64_w, i32_w]
        rfl
       refine take_ (i := 16) (N := some 218) (v := ?_) (a' := ?_) #[true, true, true, true, true, true, true, true, true, true, true, true, true, true, true, true, true, false, false, false] rfl rfl (take_ofW HT_.out HW_.out (by kernel_rfl)) (fun _ _ _ h => h) (Or.inl ⟨by rfl, ?_⟩) hHeld ?_ ?_
       rotate_left
       ·intro w' _
        go_simp
        with_reducible rfl
       rotate_left
       ·simp only [Act.put, List.setIfInBounds_toArray, List.set_cons_zero, List.set_cons_succ, i64_w, i32_w]
        rfl
       refine pure_ (i := 17) (N := some 219) (v := ?_) (a' := ?_) #[true, true, true, true, true, true, true, true, true, true, true, true, true, true, true, true, true, true, false, false] rfl rfl (any_of HT_.out (by kernel_rfl)) (fun _ _ _ h => h) (Or.inl ⟨by rfl, ?_⟩) ?_ ?_
       rotate_left
       ·intro w'
        go_simp
        with_reducible rfl
       rotate_left
       ·simp only [Act.put, List.setIfInBounds_toArray, List.set_cons_zero, List.set_cons_succ, i64_w, i32_w]
        rfl
       refine pure_ (i := 18) (N := some 220) (v := ?_) (a' := ?_) #[true, true, true, true, true, true, true, true, true, true, true, true, true, true, true, true, true, true, true, false] rfl rfl (any_of HT_.out (by kernel_rfl)) (fun _ _ _ h => h) (Or.inl ⟨by rfl, ?_⟩) ?_ ?_
       rotate_left
       ·intro w'
        go_simp
        with_reducible rfl
       rotate_left
       ·simp only [Act.put, List.setIfInBounds_toArray, List.set_cons_zero, List.set_cons_succ, i64_w, i32_w]
        rfl
       refine pure_ (i := 19) (N := some 221) (v := ?_) (a' := ?_) #[true, true, true, true, true, true, true, true, true, true, true, true, true, true, true, true, true, true, true, true] rfl rfl (any_of HT_.out (by kernel_rfl)) (fun _ _ _ h => h) (Or.inl ⟨by rfl, ?_⟩) ?_ ?_
       rotate_left
       ·intro w'
        go_simp
        with_reducible rfl
       rotate_left
       ·simp only [Act.put, List.setIfInBounds_toArray, List.set_cons_zero, List.set_cons_succ, i64_w, i32_w]
        rfl
       refine done_ (done_of HT_.out (by kernel_rfl)) ?_
       try go_wp2
       go_roundg k3
       case measure => have := HJ9.out; have := HJ47.out; have := HK3.out; omega
       case rel => exact ⟨(wrap64 (x197_3 + 1)), rF, H', ⟨by have := HJ9.out; have := HJ47.out; have := HK3.out; omega⟩, ⟨by (try simp only [hl12_47]); (with_reducible repeat (first | apply Kd.R_alloc | apply Kd.R_drewN | apply Kd.R_drew)); exact HO_195.out⟩, ⟨by (try simp only [hl12_47]); (with_reducible repeat (first | apply Kd.R_alloc | apply Kd.R_drewN | apply Kd.R_drew)); exact HO_409000.out⟩, ⟨by (try simp only [hl12_47]); (with_reducible repeat (first | refine blk_drewN ?_ _ | refine blk_drew ?_ | refine blk_alloc ?_ _)); exact BK408.out⟩, hV HB⟩
      have c83b0 := dF c83
      try (have c83l := c83b0; simp only [hl12_47] at c83l)
      clear c83
      have H' := aM H
      clear H
      go_wp2
      (try simp only [← hl12_47])
      go_meet
      case rel => exact ⟨_, H', ⟨by have := HJ9.out; have := HJ47.out; have := HK3.out; first | omega | exact Nat.le_refl _⟩, ⟨by (try simp only [hl12_47]); (with_reducible repeat (first | apply Kd.R_alloc | apply Kd.R_drewN | apply Kd.R_drew)); exact HO_409000.out⟩, ⟨by (try simp only [hl12_47]); (with_reducible repeat (first | refine blk_drewN ?_ _ | refine blk_drew ?_ | refine blk_alloc ?_ _)); exact BK408.out⟩, hV HB⟩
   have H' := aM H
   clear H
   go_wp2
   go_meet
   case rel => exact ⟨_, H', ⟨by have := HJ9.out; first | omega | exact Nat.le_refl _⟩, ⟨rU HO_409000.out⟩, ⟨bU BK408.out⟩, hV HB⟩
  case rest => as_aux_lemma =>
   clear HC45
   obtain ⟨kq, HA, HJ44, HO_409000, BK408, HB⟩ := hcut
   obtain rfl | ⟨kj44, rfl⟩ := fz kq
   ·exact zA HA
   have H := HA.out
   clear HA
   simp only [laws_FnLampsTick.j6] at H
   replace H := bC H; obtain ⟨⟨t434, t437⟩, A94, H⟩ := H; try dsimp only at H
   replace H := bC H; obtain ⟨⟨t439, t442⟩, A95, H⟩ := H; try dsimp only at H
   replace H := bC H; obtain ⟨⟨t443, t446⟩, A96, H⟩ := H; try dsimp only at H
   replace H := bC H; obtain ⟨⟨t447, t448, t449⟩, A97, H⟩ := H; try dsimp only at H
   replace H := bC H; obtain ⟨⟨t450, t451, t452⟩, A98, H⟩ := H; try dsimp only at H
   replace H := bC H; obtain ⟨⟨t453, t454⟩, A99, H⟩ := H; try dsimp only at H
   replace H := bC H; obtain ⟨⟨t455, t456⟩, A100, H⟩ := H; try dsimp only at H
   replace H := bC H; obtain ⟨⟨t457, t460, t461⟩, A101, H⟩ := H; try dsimp only at H
   replace H := bC H; obtain ⟨⟨t463, t464⟩, A102, H⟩ := H; try dsimp only at H
   replace H := bC H; obtain ⟨⟨t465, t466⟩, A103, H⟩ := H; try dsimp only at H
   have HC104 := aM H
   clear H
   go_upto_region 46 with (first | ((with_reducible refine gG 16 (some 225) rfl rfl ?_); refine gD Tryd.func16 (spec_DrawCycleOfLamps.calls kj44 _ _ l1 t434 t437 _ (cU (Kd.C_below HR1.out HB.out)) HC1.out A94.out) ?_; rintro w105 v435 ⟨ho0, hb⟩; have HO436 := aM (Kd.R_lower (Kd.R_new' ho0 (Kd.R_lt (rU HO_409000.out))) (below_size (bel HB))); replace HO_409000 := aM (Kd.R_elder' (rU HO_409000.out) (Kd.R_base ho0) hb); replace BK408 := bB BK408 hb; replace HB := hS HB hb; clear hb ho0) | ((with_reducible refine gate_dst (N := 24) rfl ?_); (try (refine gate_guard (by rfl) ?_; dsimp only)); refine bX (N := 24) rfl (cs := #[.slice none 0 0]) (t := 26) ?_; intro gb438 hg w106 BK438 hb; have GW438 := gE hg HB; have GE438 := gE hg HB; have NB408_438 := nbL hg BK408; have NB438_408 := nbR hg BK408; replace HO_409000 := rB HO_409000 hb; replace HO436 := rB HO436 hb; replace BK408 := bB BK408 hb; replace HB := hS HB hb; clear hb hg; obtain ⟨Ao107, co107, eo107⟩ := Kd.R_slice HO436.out; subst eo107; have hnb108 := NB438_408.out; have hnc108 := NB408_438.out; obtain ⟨hcz109_0, hfz109_0⟩ := hC1 BK438) | ((with_reducible refine gG 17 (some 231) rfl rfl ?_); refine gL Tryd.func17 #[.agg #[.slice Ao107 t434.length co107], .string t437] ?_; (with_reducible refine (impl_CycleOfLamps.calls _ _ t434 t437 t439 t442 _ ?side1 ((Kd.R_reads' HO436.out).2.1) A95.out).mono ?_); (case side1 => refine (Kd.R_reads' (e := 9) (base := w.heap.size) (ok := fun k_ => (True ∧ some k_ ≠ (.slice Ao13 t403.length co13 : Value).ownBlock)) (n := t434.length) (c := co107) ?_).2.2; exact (rU (Kd.R_mono (Kd.R_far (p := ⟨gb438, 0, none⟩) (Kd.R_types HO436.out BK438.out (by decide)) (fun _ hk => hk.2) (.slice Ao107 t434.length co107)) (fun _ h_ => h_.1)))); rintro e w110 ⟨v440, rfl, ho0, hb⟩; refine ⟨_, rfl, ?_⟩; have HO441 := aM (Kd.R_lower (Kd.R_new' (Kd.R_new' ho0 (Kd.R_lt (rU (Kd.R_mono (Kd.R_far (p := ⟨gb438, 0, none⟩) (Kd.R_types HO_409000.out BK438.out (by decide)) (fun _ hk => hk.2) (.slice Ao107 t434.length co107)) (fun _ h_ => h_.1))))) (Kd.R_lt (rU (Kd.R_mono (Kd.R_far (p := ⟨gb438, 0, none⟩) (Kd.R_types HO436.out BK438.out (by decide)) (fun _ hk => hk.2) (.slice Ao107 t434.length co107)) (fun _ h_ => h_.1))))) (below_size (bel HB))); replace HO_409000 := aM (Kd.R_elder' (rU (Kd.R_mono (Kd.R_far (p := ⟨gb438, 0, none⟩) (Kd.R_types HO_409000.out BK438.out (by decide)) (fun _ hk => hk.2) (.slice Ao107 t434.length co107)) (fun _ h_ => h_.1))) (Kd.R_base ho0) hb); replace HO436 := aM (Kd.R_elder' (rU (Kd.R_mono (Kd.R_far (p := ⟨gb438, 0, none⟩) (Kd.R_types HO436.out BK438.out (by decide)) (fun _ hk => hk.2) (.slice Ao107 t434.length co107)) (fun _ h_ => h_.1))) (Kd.R_base ho0) hb); replace BK408 := aM (blk_below (g := gb408) (o := .cells #[.slice Ao13 t403.length co13] 26 (0, 0)) (by (with_reducible repeat (first | refine blk_drewN ?_ _ | refine blk_drew ?_ | refine blk_alloc ?_ _)); refine blk_far ?_ NB408_438.out _; (with_reducible repeat (first | refine blk_drewN ?_ _ | refine blk_drew ?_ | refine blk_alloc ?_ _)); exact BK408.out) hb); replace BK438 := aM (blk_below (g := gb438) (o := .cells #[.slice Ao107 t434.length co107] 26 (0, 0)) (by (with_reducible repeat (first | refine blk_drewN ?_ _ | refine blk_drew ?_ | refine blk_alloc ?_ _)); refine blk_put (cs := #[.slice none 0 0]) ?_ 0 _ rfl; (with_reducible repeat (first | refine blk_drewN ?_ _ | refine blk_drew ?_ | refine blk_alloc ?_ _)); exact BK438.out) hb); replace HB := hS HB hb; clear hb ho0; obtain ⟨hcz111_0, hfz111_0⟩ := hC1 BK438) | ((with_reducible refine gG 18 (some 237) rfl rfl ?_); refine gD Tryd.func18 (spec_CycleOfLamps.calls kj44 _ _ t434 t437 t443 t446 _ (cU (Kd.R_reads' HO436.out).2.2) ((Kd.R_reads' HO436.out).2.1) A96.out) ?_; rintro w112 v444 ⟨ho0, hb⟩; have HO445 := aM (Kd.R_lower (Kd.R_new' (Kd.R_new' (Kd.R_new' ho0 (Kd.R_lt (rU HO_409000.out))) (Kd.R_lt (rU HO436.out))) (Kd.R_lt (rU HO441.out))) (below_size (bel HB))); replace HO_409000 := aM (Kd.R_elder' (rU HO_409000.out) (Kd.R_base ho0) hb); replace HO436 := aM (Kd.R_elder' (rU HO436.out) (Kd.R_base ho0) hb); replace HO441 := aM (Kd.R_elder' (rU HO441.out) (Kd.R_base ho0) hb); replace BK408 := bB BK408 hb; replace BK438 := bB BK438 hb; replace HB := hS HB hb; clear hb ho0; obtain ⟨hcz113_0, hfz113_0⟩ := hC1 BK438) | ((with_reducible refine gG 19 (some 243) rfl rfl ?_); refine gC Tryd.func19 (impl_LeadOfLamps.calls _ _ t434 t437 t447 t448 t449 _ (cU (Kd.R_reads' HO436.out).2.2) ((Kd.R_reads' HO436.out).2.1) A97.out) ?_; rintro w114 hb; replace HO_409000 := rB HO_409000 hb; replace HO436 := rB HO436 hb; replace HO441 := rB HO441 hb; replace HO445 := rB HO445 hb; replace BK408 := bB BK408 hb; replace BK438 := bB BK438 hb; replace HB := hS HB hb; clear hb; obtain ⟨hcz115_0, hfz115_0⟩ := hC1 BK438) | ((with_reducible refine gG 20 (some 250) rfl rfl ?_); refine gC Tryd.func20 (spec_LeadOfLamps.calls kj44 _ _ t434 t437 t450 t451 t452 _ (cU (Kd.R_reads' HO436.out).2.2) ((Kd.R_reads' HO436.out).2.1) A98.out) ?_; rintro w116 hb; replace HO_409000 := rB HO_409000 hb; replace HO436 := rB HO436 hb; replace HO441 := rB HO441 hb; replace HO445 := rB HO445 hb; replace BK408 := bB BK408 hb; replace BK438 := bB BK438 hb; replace HB := hS HB hb; clear hb; obtain ⟨hcz117_0, hfz117_0⟩ := hC1 BK438) | ((with_reducible refine gG 15 (some 257) rfl rfl ?_); refine gC Tryd.func15 (impl_TickOnce.calls _ _ t434 t437 t453 t454 _ (cU (Kd.R_reads' HO436.out).2.2) ((Kd.R_reads' HO436.out).2.1) A99.out) ?_; rintro w118 hb; replace HO_409000 := rB HO_409000 hb; replace HO436 := rB HO436 hb; replace HO441 := rB HO441 hb; replace HO445 := rB HO445 hb; replace BK408 := bB BK408 hb; replace BK438 := bB BK438 hb; replace HB := hS HB hb; clear hb; obtain ⟨hcz119_0, hfz119_0⟩ := hC1 BK438) | ((with_reducible refine gG 21 (some 263) rfl rfl ?_); refine gC Tryd.func21 (spec_TickOnce.calls _ _ t434 t437 t455 t456 _ (cU (Kd.R_reads' HO436.out).2.2) ((Kd.R_reads' HO436.out).2.1) A100.out) ?_; rintro w120 hb; replace HO_409000 := rB HO_409000 hb; replace HO436 := rB HO436 hb; replace HO441 := rB HO441 hb; replace HO445 := rB HO445 hb; replace BK408 := bB BK408 hb; replace BK438 := bB BK438 hb; replace HB := hS HB hb; clear hb) | ((with_reducible refine gG 22 (some 268) rfl rfl ?_); refine gD Tryd.func22 (spec_DrawFirstTick.calls kj44 _ _ l1 t457 t460 t461 _ (cU (Kd.C_below HR1.out HB.out)) HC1.out A101.out) ?_; rintro w121 v458 ⟨ho0, hb⟩; have HO459 := aM (Kd.R_lower (Kd.R_new' (Kd.R_new' (Kd.R_new' (Kd.R_new' ho0 (Kd.R_lt (rU HO_409000.out))) (Kd.R_lt (rU HO436.out))) (Kd.R_lt (rU HO441.out))) (Kd.R_lt (rU HO445.out))) (below_size (bel HB))); replace HO_409000 := aM (Kd.R_elder' (rU HO_409000.out) (Kd.R_base ho0) hb); replace HO436 := aM (Kd.R_elder' (rU HO436.out) (Kd.R_base ho0) hb); replace HO441 := aM (Kd.R_elder' (rU HO441.out) (Kd.R_base ho0) hb); replace HO445 := aM (Kd.R_elder' (rU HO445.out) (Kd.R_base ho0) hb); replace BK408 := bB BK408 hb; replace BK438 := bB BK438 hb; replace HB := hS HB hb; clear hb ho0) | ((with_reducible refine gate_dst (N := 40) rfl ?_); (try (refine gate_guard (by rfl) ?_; dsimp only)); refine bX (N := 40) rfl (cs := #[.slice none 0 0]) (t := 26) ?_; intro gb462 hg w122 BK462 hb; have GW462 := gE hg HB; have GE462 := gE hg HB; have NB408_462 := nbL hg BK408; have NB462_408 := nbR hg BK408; have NB438_462 := nbL hg BK438; have NB462_438 := nbR hg BK438; replace HO_409000 := rB HO_409000 hb; replace HO436 := rB HO436 hb; replace HO441 := rB HO441 hb; replace HO445 := rB HO445 hb; replace HO459 := rB HO459 hb; replace BK408 := bB BK408 hb; replace BK438 := bB BK438 hb; replace HB := hS HB hb; clear hb hg; obtain ⟨Ao123, co123, eo123⟩ := Kd.R_slice HO459.out; subst eo123; have hnb124 := NB462_408.out; have hnc124 := NB408_462.out; have hnb125 := NB462_438.out; have hnc125 := NB438_462.out; obtain ⟨hcz126_0, hfz126_0⟩ := hC1 BK462) | ((with_reducible refine gG 23 (some 276) rfl rfl ?_); refine gL Tryd.func23 #[.agg #[.slice Ao123 t457.length co123], .string t460, .int .i64 t461] ?_; (with_reducible refine (impl_FirstTick.calls _ _ t457 t460 t461 t463 t464 _ ?side1 ((Kd.R_reads' HO459.out).2.1) A102.out).mono ?_); (case side1 => refine (Kd.R_reads' (e := 9) (base := w.heap.size) (ok := fun k_ => ((((True ∧ some k_ ≠ (.slice Ao13 t403.length co13 : Value).ownBlock) ∧ some k_ ≠ (.slice Ao107 t434.length co107 : Value).ownBlock) ∧ some k_ ≠ (v440 : Value).ownBlock) ∧ some k_ ≠ (v444 : Value).ownBlock)) (n := t457.length) (c := co123) ?_).2.2; exact (rU (Kd.R_mono (Kd.R_far (p := ⟨gb462, 0, none⟩) (Kd.R_types HO459.out BK462.out (by decide)) (fun _ hk => hk.2) (.slice Ao123 t457.length co123)) (fun _ h_ => h_.1)))); rintro e w127 ⟨rfl, hb⟩; refine ⟨_, rfl, ?_⟩; replace HO_409000 := aM (Kd.R_below (rU (Kd.R_mono (Kd.R_far (p := ⟨gb462, 0, none⟩) (Kd.R_types HO_409000.out BK462.out (by decide)) (fun _ hk => hk.2) (.slice Ao123 t457.length co123)) (fun _ h_ => h_.1))) hb); replace HO436 := aM (Kd.R_below (rU (Kd.R_mono (Kd.R_far (p := ⟨gb462, 0, none⟩) (Kd.R_types HO436.out BK462.out (by decide)) (fun _ hk => hk.2) (.slice Ao123 t457.length co123)) (fun _ h_ => h_.1))) hb); replace HO441 := aM (Kd.R_below (rU (Kd.R_mono (Kd.R_far (p := ⟨gb462, 0, none⟩) (Kd.R_types HO441.out BK462.out (by decide)) (fun _ hk => hk.2) (.slice Ao123 t457.length co123)) (fun _ h_ => h_.1))) hb); replace HO445 := aM (Kd.R_below (rU (Kd.R_mono (Kd.R_far (p := ⟨gb462, 0, none⟩) (Kd.R_types HO445.out BK462.out (by decide)) (fun _ hk => hk.2) (.slice Ao123 t457.length co123)) (fun _ h_ => h_.1))) hb); replace HO459 := aM (Kd.R_below (rU (Kd.R_mono (Kd.R_far (p := ⟨gb462, 0, none⟩) (Kd.R_types HO459.out BK462.out (by decide)) (fun _ hk => hk.2) (.slice Ao123 t457.length co123)) (fun _ h_ => h_.1))) hb); replace BK408 := aM (blk_below (g := gb408) (o := .cells #[.slice Ao13 t403.length co13] 26 (0, 0)) (by (with_reducible repeat (first | refine blk_drewN ?_ _ | refine blk_drew ?_ | refine blk_alloc ?_ _)); refine blk_far ?_ NB408_462.out _; (with_reducible repeat (first | refine blk_drewN ?_ _ | refine blk_drew ?_ | refine blk_alloc ?_ _)); exact BK408.out) hb); replace BK438 := aM (blk_below (g := gb438) (o := .cells #[.slice Ao107 t434.length co107] 26 (0, 0)) (by (with_reducible repeat (first | refine blk_drewN ?_ _ | refine blk_drew ?_ | refine blk_alloc ?_ _)); refine blk_far ?_ NB438_462.out _; (with_reducible repeat (first | refine blk_drewN ?_ _ | refine blk_drew ?_ | refine blk_alloc ?_ _)); exact BK438.out) hb); replace BK462 := aM (blk_below (g := gb462) (o := .cells #[.slice Ao123 t457.length co123] 26 (0, 0)) (by (with_reducible repeat (first | refine blk_drewN ?_ _ | refine blk_drew ?_ | refine blk_alloc ?_ _)); refine blk_put (cs := #[.slice none 0 0]) ?_ 0 _ rfl; (with_reducible repeat (first | refine blk_drewN ?_ _ | refine blk_drew ?_ | refine blk_alloc ?_ _)); exact BK462.out) hb); replace HB := hS HB hb; clear hb; obtain ⟨hcz128_0, hfz128_0⟩ := hC1 BK462) | ((with_reducible refine gG 24 (some 283) rfl rfl ?_); refine gC Tryd.func24 (spec_FirstTick.calls kj44 _ _ t457 t460 t461 t465 t466 _ (cU (Kd.R_reads' HO459.out).2.2) ((Kd.R_reads' HO459.out).2.1) A103.out) ?_; rintro w129 hb; replace HO_409000 := rB HO_409000 hb; replace HO436 := rB HO436 hb; replace HO441 := rB HO441 hb; replace HO445 := rB HO445 hb; replace HO459 := rB HO459 hb; replace BK408 := bB BK408 hb; replace BK438 := bB BK438 hb; replace BK462 := bB BK462 hb; replace HB := hS HB hb; clear hb))
   (try simp only [Act.put, List.setIfInBounds_toArray, List.set_cons_zero, List.set_cons_succ])
   go_cut [339] from 223 to 339 (fun v339 wc => ∃ (kq : Nat) (x339_103 : Bool), v339 = .bool x339_103 ∧ Aside0 (laws_FnLampsTick.j7 kq t437 t439 t442 t447 t448 t460 t461 t463 t464 x339_103 t434 t457 = some r) ∧ Aside0 (kq ≤ kj44) ∧ Aside0 (Kd.R Kd.string 9 wc w.heap.size (fun k_ => some k_ ≠ ((.slice Ao13 t403.length co13) : Value).ownBlock ∧ some k_ ≠ ((.slice Ao107 t434.length co107) : Value).ownBlock ∧ some k_ ≠ ((.slice Ao123 t457.length co123) : Value).ownBlock) v440 t439) ∧ Aside0 (Kd.R Kd.string 9 wc w.heap.size (fun k_ => some k_ ≠ (v440 : Value).ownBlock ∧ some k_ ≠ ((.slice Ao107 t434.length co107) : Value).ownBlock ∧ some k_ ≠ ((.slice Ao123 t457.length co123) : Value).ownBlock) (.slice Ao13 t403.length co13) t403) ∧ Aside0 (Kd.R Kd.string 9 wc w.heap.size (fun k_ => some k_ ≠ (v440 : Value).ownBlock ∧ some k_ ≠ ((.slice Ao13 t403.length co13) : Value).ownBlock ∧ some k_ ≠ ((.slice Ao123 t457.length co123) : Value).ownBlock) (.slice Ao107 t434.length co107) t434) ∧ Aside0 (Kd.R Kd.string 9 wc w.heap.size (fun k_ => some k_ ≠ (v440 : Value).ownBlock ∧ some k_ ≠ ((.slice Ao13 t403.length co13) : Value).ownBlock ∧ some k_ ≠ ((.slice Ao107 t434.length co107) : Value).ownBlock) (.slice Ao123 t457.length co123) t457) ∧ Aside0 (wc.heap[gb408]? = some (.cells #[(.slice Ao13 t403.length co13)] 26 (0, 0))) ∧ Aside0 (wc.heap[gb438]? = some (.cells #[(.slice Ao107 t434.length co107)] 26 (0, 0))) ∧ Aside0 (wc.heap[gb462]? = some (.cells #[(.slice Ao123 t457.length co123)] 26 (0, 0))) ∧ Aside0 (Below w.heap.size w wc))
   case first => as_aux_lemma =>
    have H := HC104.out
    clear HC104
    refine iN H ?_; clear H; intro c130 H
    have c130b0 := bF c130
    (try have c130b1 := nD c130)
    (try have c130b2 := nQ c130)
    clear c130
    (first | rw [c130b0] | (simp only [i64_w, i32_w]; rw [c130b0]) | skip)
    replace H := bC H; obtain ⟨t467, A131, H⟩ := H
    refine iBy H ?_; clear H; rintro rfl H
    refine iN H ?_; clear H; intro c133 H
    have c133b0 := bF c133
    (try have c133b1 := nD c133)
    (try have c133b2 := nQ c133)
    clear c133
    refine iY H ?_; clear H; intro c134 H
    have c134b0 := qT c134
    have c134b1 := nF c134
    clear c134
    refine iY H ?_; clear H; intro c135 H
    have c135b0 := qT c135
    have c135b1 := nF c135
    clear c135
    refine iN H ?_; clear H; intro c136 H
    have c136b0 := bF c136
    (try have c136b1 := nD c136)
    (try have c136b2 := nQ c136)
    clear c136
    refine iY H ?_; clear H; intro c137 H
    have c137b0 := qT c137
    have c137b1 := nF c137
    clear c137
    refine iN H ?_; clear H; intro c138 H
    have c138b0 := bF c138
    (try have c138b1 := nD c138)
    (try have c138b2 := nQ c138)
    clear c138
    refine iY H ?_; clear H; intro c139 H
    have c139b0 := qT c139
    have c139b1 := nF c139
    clear c139
    refine iN H ?_; clear H; intro c140 H
    have c140b0 := bF c140
    (try have c140b1 := nD c140)
    (try have c140b2 := nQ c140)
    clear c140
    have H' := aM H
    clear H
    obtain ⟨Ao141, co141, eo141⟩ := Kd.R_slice HO441.out
    subst eo141
    obtain ⟨Ao142, co142, eo142⟩ := Kd.R_slice HO445.out
    subst eo142
    go_wp2_with (first | (go_at_call 25; (with_reducible refine (laws_xTexts.calls kj44 _ _ t439 _ _ t443 true _ (cU (Kd.R_reads' HO441.out).2.2) ((Kd.R_reads' HO441.out).2.1) (cU (Kd.R_reads' HO445.out).2.2) ((Kd.R_reads' HO445.out).2.1) A131.out).mono ?_); rintro e w' ⟨rfl, ⟨nd, rfl⟩⟩))
    go_meet
    case rel => exact ⟨_, ((t454 != t442)), rF, H', ⟨by have := HJ9.out; have := HJ44.out; first | omega | exact Nat.le_refl _⟩, ⟨rU (Kd.R_mono HO441.out (fun _ hk => ⟨hk.1.1.1.2, ⟨hk.1.1.2, hk.2⟩⟩))⟩, ⟨rU (Kd.R_mono HO_409000.out (fun _ hk => ⟨hk.1.1.2, ⟨hk.1.1.1.2, hk.2⟩⟩))⟩, ⟨rU (Kd.R_mono HO436.out (fun _ hk => ⟨hk.1.1.2, ⟨hk.1.1.1.2, hk.2⟩⟩))⟩, ⟨rU (Kd.R_mono HO459.out (fun _ hk => ⟨hk.1.2, ⟨hk.1.1.1.2, hk.1.1.2⟩⟩))⟩, ⟨bU BK408.out⟩, ⟨bU BK438.out⟩, ⟨bU BK462.out⟩, hV HB⟩
   case rest => as_aux_lemma =>
    clear HC104
    try clear hcz109_0;try clear hcz111_0;try clear hcz113_0;try clear hcz115_0;try clear hcz117_0;try clear hcz119_0;try clear hcz126_0;try clear hcz128_0;try clear hfz109_0;try clear hfz111_0;try clear hfz113_0;try clear hfz115_0;try clear hfz117_0;try clear hfz119_0;try clear hfz126_0;try clear hfz128_0
    obtain ⟨kq, x339_103, rfl, HA, HJ103, HO_26, HO_409000, HO_439000, HO_463000, BK408, BK438, BK462, HB⟩ := hcut
    obtain rfl | ⟨kj103, rfl⟩ := fz kq
    ·exact zA HA
    have H := HA.out
    clear HA
    simp only [laws_FnLampsTick.j7] at H
    refine iBn H ?_; clear H; rintro rfl H
    have HC144 := aM H
    clear H
    go_upto_if 340 with (fail)
    go_cut [] from 340 to 340 (fun wc => ∃ (kq : Nat), Aside0 (laws_FnLampsTick.j11 kq t460 t461 t463 t464 t457 = some r) ∧ Aside0 (kq ≤ kj103) ∧ Aside0 (Kd.R Kd.string 9 wc w.heap.size (fun k_ => some k_ ≠ ((.slice Ao107 t434.length co107) : Value).ownBlock ∧ some k_ ≠ ((.slice Ao123 t457.length co123) : Value).ownBlock) (.slice Ao13 t403.length co13) t403) ∧ Aside0 (Kd.R Kd.string 9 wc w.heap.size (fun k_ => some k_ ≠ ((.slice Ao13 t403.length co13) : Value).ownBlock ∧ some k_ ≠ ((.slice Ao123 t457.length co123) : Value).ownBlock) (.slice Ao107 t434.length co107) t434) ∧ Aside0 (Kd.R Kd.string 9 wc w.heap.size (fun k_ => some k_ ≠ ((.slice Ao13 t403.length co13) : Value).ownBlock ∧ some k_ ≠ ((.slice Ao107 t434.length co107) : Value).ownBlock) (.slice Ao123 t457.length co123) t457) ∧ Aside0 (wc.heap[gb408]? = some (.cells #[(.slice Ao13 t403.length co13)] 26 (0, 0))) ∧ Aside0 (wc.heap[gb438]? = some (.cells #[(.slice Ao107 t434.length co107)] 26 (0, 0))) ∧ Aside0 (wc.heap[gb462]? = some (.cells #[(.slice Ao123 t457.length co123)] 26 (0, 0))) ∧ Aside0 (Below w.heap.size w wc))
    case first => as_aux_lemma =>
     have H := HC144.out
     clear HC144
     refine iB H ?_ ?_ <;> clear H <;> rintro rfl H
     ·have HC146 := aM H
      clear H
      go_upto_region 49 with (fail)
      go_cut [352] from 341 to 352 (fun v352 wc => ∃ (kq : Nat) (x352_145 : Bool), v352 = .bool x352_145 ∧ Aside0 (laws_FnLampsTick.j8 kq t437 t439 t447 t448 t460 t461 t463 t464 x352_145 t434 t457 = some r) ∧ Aside0 (kq ≤ kj103) ∧ Aside0 (Kd.R Kd.string 9 wc w.heap.size (fun k_ => some k_ ≠ ((.slice Ao13 t403.length co13) : Value).ownBlock ∧ some k_ ≠ ((.slice Ao107 t434.length co107) : Value).ownBlock ∧ some k_ ≠ ((.slice Ao123 t457.length co123) : Value).ownBlock) v440 t439) ∧ Aside0 (Kd.R Kd.string 9 wc w.heap.size (fun k_ => some k_ ≠ (v440 : Value).ownBlock ∧ some k_ ≠ ((.slice Ao107 t434.length co107) : Value).ownBlock ∧ some k_ ≠ ((.slice Ao123 t457.length co123) : Value).ownBlock) (.slice Ao13 t403.length co13) t403) ∧ Aside0 (Kd.R Kd.string 9 wc w.heap.size (fun k_ => some k_ ≠ (v440 : Value).ownBlock ∧ some k_ ≠ ((.slice Ao13 t403.length co13) : Value).ownBlock ∧ some k_ ≠ ((.slice Ao123 t457.length co123) : Value).ownBlock) (.slice Ao107 t434.length co107) t434) ∧ Aside0 (Kd.R Kd.string 9 wc w.heap.size (fun k_ => some k_ ≠ (v440 : Value).ownBlock ∧ some k_ ≠ ((.slice Ao13 t403.length co13) : Value).ownBlock ∧ some k_ ≠ ((.slice Ao107 t434.length co107) : Value).ownBlock) (.slice Ao123 t457.length co123) t457) ∧ Aside0 (wc.heap[gb408]? = some (.cells #[(.slice Ao13 t403.length co13)] 26 (0, 0))) ∧ Aside0 (wc.heap[gb438]? = some (.cells #[(.slice Ao107 t434.length co107)] 26 (0, 0))) ∧ Aside0 (wc.heap[gb462]? = some (.cells #[(.slice Ao123 t457.length co123)] 26 (0, 0))) ∧ Aside0 (Below w.heap.size w wc))
      case first => as_aux_lemma =>
       have H := HC146.out
       clear HC146
       refine iY H ?_; clear H; intro c147 H
       have c147b0 := qT c147
       have c147b1 := nF c147
       clear c147
       (first | rw [c147b0] | (simp only [i64_w, i32_w]; rw [c147b0]) | skip)
       refine iN H ?_; clear H; intro c148 H
       have c148b0 := dF c148
       clear c148
       have H' := aM H
       clear H
       obtain ⟨Ao149, co149, eo149⟩ := Kd.R_slice HO_26.out
       subst eo149
       go_wp2
       go_meet
       case rel => exact ⟨_, (decide (t447 < 0)), rF, H', ⟨by have := HJ9.out; have := HJ44.out; have := HJ103.out; first | omega | exact Nat.le_refl _⟩, ⟨rU HO_26.out⟩, ⟨rU HO_409000.out⟩, ⟨rU HO_439000.out⟩, ⟨rU HO_463000.out⟩, ⟨bU BK408.out⟩, ⟨bU BK438.out⟩, ⟨bU BK462.out⟩, hV HB⟩
      case rest => as_aux_lemma =>
       clear HC146
       obtain ⟨kq, x352_145, rfl, HA, HJ145, HO_26, HO_409000, HO_439000, HO_463000, BK408, BK438, BK462, HB⟩ := hcut
       obtain rfl | ⟨kj145, rfl⟩ := fz kq
       ·exact zA HA
       have H := HA.out
       clear HA
       simp only [laws_FnLampsTick.j8] at H
       refine iBn H ?_; clear H; rintro rfl H
       have H' := aM H
       clear H
       obtain ⟨Ao151, co151, eo151⟩ := Kd.R_slice HO_26.out
       subst eo151
       go_wp2
       go_loopg [355] kj145 (fun kq v355 w' => ∃ (x355_5 : Int), v355 = .int .i64 x355_5 ∧ Aside0 (laws_FnLampsTick.l3 kq t437 t439 t447 t448 t460 t461 t463 t464 t439 (t439.length : Int) x355_5 t434 t457 = some r) ∧ Aside0 (kq ≤ kj145) ∧ Aside0 (Kd.R Kd.string 9 w' w.heap.size (fun k_ => some k_ ≠ ((.slice Ao13 t403.length co13) : Value).ownBlock ∧ some k_ ≠ ((.slice Ao107 t434.length co107) : Value).ownBlock ∧ some k_ ≠ ((.slice Ao123 t457.length co123) : Value).ownBlock) (.slice Ao151 t439.length co151) t439) ∧ Aside0 (Kd.R Kd.string 9 w' w.heap.size (fun k_ => some k_ ≠ ((.slice Ao13 t403.length co13) : Value).ownBlock ∧ some k_ ≠ ((.slice Ao107 t434.length co107) : Value).ownBlock ∧ some k_ ≠ ((.slice Ao123 t457.length co123) : Value).ownBlock) (.slice Ao151 t439.length co151) t439) ∧ Aside0 (Kd.R Kd.string 9 w' w.heap.size (fun k_ => some k_ ≠ ((.slice Ao151 t439.length co151) : Value).ownBlock ∧ some k_ ≠ ((.slice Ao151 t439.length co151) : Value).ownBlock ∧ some k_ ≠ ((.slice Ao107 t434.length co107) : Value).ownBlock ∧ some k_ ≠ ((.slice Ao123 t457.length co123) : Value).ownBlock) (.slice Ao13 t403.length co13) t403) ∧ Aside0 (Kd.R Kd.string 9 w' w.heap.size (fun k_ => some k_ ≠ ((.slice Ao151 t439.length co151) : Value).ownBlock ∧ some k_ ≠ ((.slice Ao151 t439.length co151) : Value).ownBlock ∧ some k_ ≠ ((.slice Ao13 t403.length co13) : Value).ownBlock ∧ some k_ ≠ ((.slice Ao123 t457.length co123) : Value).ownBlock) (.slice Ao107 t434.length co107) t434) ∧ Aside0 (Kd.R Kd.string 9 w' w.heap.size (fun k_ => some k_ ≠ ((.slice Ao151 t439.length co151) : Value).ownBlock ∧ some k_ ≠ ((.slice Ao151 t439.length co151) : Value).ownBlock ∧ some k_ ≠ ((.slice Ao13 t403.length co13) : Value).ownBlock ∧ some k_ ≠ ((.slice Ao107 t434.length co107) : Value).ownBlock) (.slice Ao123 t457.length co123) t457) ∧ Aside0 (w'.heap[gb408]? = some (.cells #[(.slice Ao13 t403.length co13)] 26 (0, 0))) ∧ Aside0 (w'.heap[gb438]? = some (.cells #[(.slice Ao107 t434.length co107)] 26 (0, 0))) ∧ Aside0 (w'.heap[gb462]? = some (.cells #[(.slice Ao123 t457.length co123)] 26 (0, 0))) ∧ Aside0 (Below w.heap.size w w'))
       case atStart => exact ⟨(0), rF, H', kR, ⟨rU HO_26.out⟩, ⟨rU HO_26.out⟩, ⟨rU (Kd.R_mono HO_409000.out (fun _ hk => ⟨hk.1, ⟨hk.1, ⟨hk.2.1, hk.2.2⟩⟩⟩))⟩, ⟨rU (Kd.R_mono HO_439000.out (fun _ hk => ⟨hk.1, ⟨hk.1, ⟨hk.2.1, hk.2.2⟩⟩⟩))⟩, ⟨rU (Kd.R_mono HO_463000.out (fun _ hk => ⟨hk.1, ⟨hk.1, ⟨hk.2.1, hk.2.2⟩⟩⟩))⟩, ⟨bU BK408.out⟩, ⟨bU BK438.out⟩, ⟨bU BK462.out⟩, hV HB⟩
       case round => as_aux_lemma =>
        clear H'
        obtain ⟨x355_5, rfl, HA, HK5, HO_26, HO_353, HO_409000, HO_439000, HO_463000, BK408, BK438, BK462, HB⟩ := hrel
        obtain rfl | ⟨k5, rfl⟩ := fz gk
        ·exact zA HA
        have H := HA.out
        clear HA
        simp only [laws_FnLampsTick.l3] at H
        refine iI H ?_ ?_ <;> clear H <;> intro c152 H
        ·have c152b0 := dT c152
         try (have c152l := c152b0; simp only [hl12_47] at c152l)
         clear c152
         refine iY H ?_; clear H; intro c153 H
         have c153b0 := dT c153
         clear c153
         refine iY H ?_; clear H; intro c154 H
         have c154b0 := dT c154
         try (have c154l := c154b0; simp only [hl12_47] at c154l)
         clear c154
         replace H := bC H; obtain ⟨⟨t469, t470⟩, A155, H⟩ := H; try dsimp only at H
         refine iBy H ?_; clear H; rintro rfl H
         refine iN H ?_; clear H; intro c157 H
         have c157b0 := qF c157
         have c157b1 := nT c157
         obtain ⟨ji158, hji158⟩ := jN (Int.tmod (wrap64 (x355_5 + 1)) t448)
         first | rw [hji158] at H | simp only [hji158] at H
         (try rw [hji158] at A155)
         refine iY H ?_; clear H; intro c159 H
         have c159b0 := dT c159
         clear c159
         refine iY H ?_; clear H; intro c160 H
         have c160b0 := dT c160
         try (have c160l := c160b0; simp only [hl12_47] at c160l)
         clear c160
         refine iY H ?_; clear H; intro c161 H
         have c161b0 := qT c161
         have c161b1 := nF c161
         clear c161
         refine iY H ?_; clear H; intro c162 H
         have c162b0 := dT c162
         try (have c162l := c162b0; simp only [hl12_47] at c162l)
         have c162b1 : decide (0 < t439.length) = true := decide_eq_true (by omega)
         clear c162
         refine iN H ?_; clear H; intro c163 H
         have c163b0 := bF c163
         clear c163
         have H' := aM H
         clear H
         have p468 : 0 ≤ (x355_5 : Int) := oD
         have q468 : x355_5 < (t439.length : Int) := oD
         obtain ⟨ad468, e468, hx468_0⟩ := Kd.at_string (Kd.R_reads' HO_353.out).2.2 x355_5 p468 q468
         cases e468
         replace p468 := eq_true p468
         replace q468 := eq_true q468
         have hnb164 := NB438_408.out
         have hnc164 := NB408_438.out
         have hnb165 := NB438_462.out
         have hnc165 := NB462_438.out
         obtain ⟨hcz166_0, hfz166_0⟩ := hC1 BK438
         go_wp2_with (first | ((with_reducible refine gG 15 (some 363) rfl rfl ?_); refine gC Tryd.func15 (impl_TickOnce.calls _ _ t434 (rdOf ByteArray.empty t439 x355_5) t469 true _ (cU (Kd.R_reads' HO_439000.out).2.2) ((Kd.R_reads' HO_439000.out).2.1) A155.out) ?_; rintro w167 hb; replace HO_26 := rB HO_26 hb; replace HO_353 := rB HO_353 hb; replace HO_409000 := rB HO_409000 hb; replace HO_439000 := rB HO_439000 hb; replace HO_463000 := rB HO_463000 hb; replace BK408 := bB BK408 hb; replace BK438 := bB BK438 hb; replace BK462 := bB BK462 hb; replace HB := hS HB hb; clear hb; have p471 : 0 ≤ ((ji158) : Int) := oD; have q471 : (ji158) < (t439.length : Int) := oD; obtain ⟨ad471, e471, hx471_0⟩ := Kd.at_string (Kd.R_reads' HO_26.out).2.2 (ji158) p471 q471; obtain rfl : ad468 = ad471 := (by injection e471); replace p471 := eq_true p471; replace q471 := eq_true q471; have p472 : 0 ≤ (0 : Int) := (by omega); have q472 : 0 < (t439.length : Int) := oD; obtain ⟨ad472, e472, hx472_0⟩ := Kd.at_string (Kd.R_reads' HO_26.out).2.2 0 p472 q472; obtain rfl : ad468 = ad472 := (by injection e472); have qi472 : (0 < t439.length) = True := eq_true (by omega); (try rw [show ((0 : Int)).toNat = 0 from rfl] at hx472_0); (try rw [Addr.add_zero'] at hx472_0); replace p472 := eq_true p472; replace q472 := eq_true q472))
         go_roundg k5
         case measure => have := HJ9.out; have := HJ44.out; have := HJ103.out; have := HJ145.out; have := HK5.out; omega
         case rel => exact ⟨(wrap64 (x355_5 + 1)), rF, H', ⟨by have := HJ9.out; have := HJ44.out; have := HJ103.out; have := HJ145.out; have := HK5.out; omega⟩, ⟨rU HO_26.out⟩, ⟨rU HO_353.out⟩, ⟨rU HO_409000.out⟩, ⟨rU HO_439000.out⟩, ⟨rU HO_463000.out⟩, ⟨bU BK408.out⟩, ⟨bU BK438.out⟩, ⟨bU BK462.out⟩, hV HB⟩
        have c152b0 := dF c152
        try (have c152l := c152b0; simp only [hl12_47] at c152l)
        clear c152
        replace H := bC H; obtain ⟨⟨t473, t474⟩, A168, H⟩ := H; try dsimp only at H
        have HC169 := aM H
        clear H
        have hnb170 := NB438_408.out
        have hnc170 := NB408_438.out
        have hnb171 := NB438_462.out
        have hnc171 := NB462_438.out
        obtain ⟨hcz172_0, hfz172_0⟩ := hC1 BK438
        go_upto_region 59 with (first | ((with_reducible refine gG 8 (some 391) rfl rfl ?_); refine gC Tryd.func8 (impl_TicksAfter.calls k5 _ _ t434 t437 t447 t473 t474 _ (cU (Kd.R_reads' HO_439000.out).2.2) ((Kd.R_reads' HO_439000.out).2.1) A168.out) ?_; rintro w173 hb; replace HO_26 := rB HO_26 hb; replace HO_353 := rB HO_353 hb; replace HO_409000 := rB HO_409000 hb; replace HO_439000 := rB HO_439000 hb; replace HO_463000 := rB HO_463000 hb; replace BK408 := bB BK408 hb; replace BK438 := bB BK438 hb; replace BK462 := bB BK462 hb; replace HB := hS HB hb; clear hb))
        (try simp only [Act.put, List.setIfInBounds_toArray, List.set_cons_zero, List.set_cons_succ])
        go_cut [401] from 353 to 401 (fun v401 wc => ∃ (kq : Nat) (x401_168 : Bool), v401 = .bool x401_168 ∧ Aside0 (laws_FnLampsTick.j10 kq t437 t439 t447 t460 t461 t463 t464 x401_168 t434 t457 = some r) ∧ Aside0 (kq ≤ k5) ∧ Aside0 (Kd.R Kd.string 9 wc w.heap.size (fun k_ => some k_ ≠ ((.slice Ao13 t403.length co13) : Value).ownBlock ∧ some k_ ≠ ((.slice Ao107 t434.length co107) : Value).ownBlock ∧ some k_ ≠ ((.slice Ao123 t457.length co123) : Value).ownBlock) (.slice Ao151 t439.length co151) t439) ∧ Aside0 (Kd.R Kd.string 9 wc w.heap.size (fun k_ => some k_ ≠ ((.slice Ao151 t439.length co151) : Value).ownBlock ∧ some k_ ≠ ((.slice Ao107 t434.length co107) : Value).ownBlock ∧ some k_ ≠ ((.slice Ao123 t457.length co123) : Value).ownBlock) (.slice Ao13 t403.length co13) t403) ∧ Aside0 (Kd.R Kd.string 9 wc w.heap.size (fun k_ => some k_ ≠ ((.slice Ao151 t439.length co151) : Value).ownBlock ∧ some k_ ≠ ((.slice Ao13 t403.length co13) : Value).ownBlock ∧ some k_ ≠ ((.slice Ao123 t457.length co123) : Value).ownBlock) (.slice Ao107 t434.length co107) t434) ∧ Aside0 (Kd.R Kd.string 9 wc w.heap.size (fun k_ => some k_ ≠ ((.slice Ao151 t439.length co151) : Value).ownBlock ∧ some k_ ≠ ((.slice Ao13 t403.length co13) : Value).ownBlock ∧ some k_ ≠ ((.slice Ao107 t434.length co107) : Value).ownBlock) (.slice Ao123 t457.length co123) t457) ∧ Aside0 (wc.heap[gb408]? = some (.cells #[(.slice Ao13 t403.length co13)] 26 (0, 0))) ∧ Aside0 (wc.heap[gb438]? = some (.cells #[(.slice Ao107 t434.length co107)] 26 (0, 0))) ∧ Aside0 (wc.heap[gb462]? = some (.cells #[(.slice Ao123 t457.length co123)] 26 (0, 0))) ∧ Aside0 (Below w.heap.size w wc))
        case first => as_aux_lemma =>
         have H := HC169.out
         clear HC169
         refine iBy H ?_; clear H; rintro rfl H
         replace H := bC H; obtain ⟨t475, A175, H⟩ := H
         have H' := aM H
         clear H
         go_wp2_with (first | (go_at_call 26; (with_reducible refine (laws_xText.calls k5 _ _ t439 t473 t475 _ (cU (Kd.R_reads' HO_26.out).2.2) ((Kd.R_reads' HO_26.out).2.1) A175.out).mono ?_); rintro e w' ⟨rfl, ⟨nd, rfl⟩⟩))
         go_meet
         case rel => exact ⟨_, (!t475), rF, H', ⟨by have := HJ9.out; have := HJ44.out; have := HJ103.out; have := HJ145.out; have := HK5.out; first | omega | exact Nat.le_refl _⟩, ⟨rU HO_26.out⟩, ⟨rU (Kd.R_mono HO_409000.out (fun _ hk => ⟨hk.1, ⟨hk.2.2.1, hk.2.2.2⟩⟩))⟩, ⟨rU (Kd.R_mono HO_439000.out (fun _ hk => ⟨hk.1, ⟨hk.2.2.1, hk.2.2.2⟩⟩))⟩, ⟨rU (Kd.R_mono HO_463000.out (fun _ hk => ⟨hk.1, ⟨hk.2.2.1, hk.2.2.2⟩⟩))⟩, ⟨bU BK408.out⟩, ⟨bU BK438.out⟩, ⟨bU BK462.out⟩, hV HB⟩
        case rest => as_aux_lemma =>
         clear HC169
         try clear c152b0;try clear hcz172_0;try clear hfz172_0
         obtain ⟨kq, x401_168, rfl, HA, HJ168, HO_26, HO_409000, HO_439000, HO_463000, BK408, BK438, BK462, HB⟩ := hcut
         obtain rfl | ⟨kj168, rfl⟩ := fz kq
         ·exact zA HA
         have H := HA.out
         clear HA
         simp only [laws_FnLampsTick.j10] at H
         refine iBn H ?_; clear H; rintro rfl H
         refine iI H ?_ ?_ <;> clear H <;> intro c177 H
         ·have c177b0 := gT c177
          clear c177
          replace H := bC H; obtain ⟨⟨t476, t477⟩, A178, H⟩ := H; try dsimp only at H
          refine iBy H ?_; clear H; rintro rfl H
          replace H := bC H; obtain ⟨t478, A180, H⟩ := H
          refine iBn H ?_; clear H; rintro rfl H
          have H' := aM H
          clear H
          have hnb182 := NB438_408.out
          have hnc182 := NB408_438.out
          have hnb183 := NB438_462.out
          have hnc183 := NB462_438.out
          obtain ⟨hcz184_0, hfz184_0⟩ := hC1 BK438
          go_wp2_with (first | ((with_reducible refine gG 8 (some 409) rfl rfl ?_); refine gC Tryd.func8 (impl_TicksAfter.calls kj168 _ _ t434 t437 (wrap64 (t447 - 1)) t476 true _ (cU (Kd.R_reads' HO_439000.out).2.2) ((Kd.R_reads' HO_439000.out).2.1) A178.out) ?_; rintro w185 hb; replace HO_26 := rB HO_26 hb; replace HO_409000 := rB HO_409000 hb; replace HO_439000 := rB HO_439000 hb; replace HO_463000 := rB HO_463000 hb; replace BK408 := bB BK408 hb; replace BK438 := bB BK438 hb; replace BK462 := bB BK462 hb; replace HB := hS HB hb; clear hb) | (go_at_call 26; (with_reducible refine (laws_xText.calls kj168 _ _ t439 t476 false _ (cU (Kd.R_reads' HO_26.out).2.2) ((Kd.R_reads' HO_26.out).2.1) A180.out).mono ?_); rintro e w' ⟨rfl, ⟨nd, rfl⟩⟩))
          go_meet
          case rel => exact ⟨_, H', ⟨by have := HJ9.out; have := HJ44.out; have := HJ103.out; have := HJ145.out; have := HK5.out; have := HJ168.out; first | omega | exact Nat.le_refl _⟩, ⟨rU (Kd.R_mono HO_409000.out (fun _ hk => ⟨hk.2.1, hk.2.2⟩))⟩, ⟨rU (Kd.R_mono HO_439000.out (fun _ hk => ⟨hk.2.1, hk.2.2⟩))⟩, ⟨rU (Kd.R_mono HO_463000.out (fun _ hk => ⟨hk.2.1, hk.2.2⟩))⟩, ⟨bU BK408.out⟩, ⟨bU BK438.out⟩, ⟨bU BK462.out⟩, hV HB⟩
         have c177b0 := gF c177
         clear c177
         have H' := aM H
         clear H
         go_wp2
         go_meet
         case rel => exact ⟨_, H', ⟨by have := HJ9.out; have := HJ44.out; have := HJ103.out; have := HJ145.out; have := HK5.out; have := HJ168.out; first | omega | exact Nat.le_refl _⟩, ⟨rU (Kd.R_mono HO_409000.out (fun _ hk => ⟨hk.2.1, hk.2.2⟩))⟩, ⟨rU (Kd.R_mono HO_439000.out (fun _ hk => ⟨hk.2.1, hk.2.2⟩))⟩, ⟨rU (Kd.R_mono HO_463000.out (fun _ hk => ⟨hk.2.1, hk.2.2⟩))⟩, ⟨bU BK408.out⟩, ⟨bU BK438.out⟩, ⟨bU BK462.out⟩, hV HB⟩
     have H' := aM H
     clear H
     go_wp2
     go_meet
     case rel => exact ⟨_, H', ⟨by have := HJ9.out; have := HJ44.out; have := HJ103.out; first | omega | exact Nat.le_refl _⟩, ⟨rU (Kd.R_mono HO_409000.out (fun _ hk => ⟨hk.2.1, hk.2.2⟩))⟩, ⟨rU (Kd.R_mono HO_439000.out (fun _ hk => ⟨hk.2.1, hk.2.2⟩))⟩, ⟨rU (Kd.R_mono HO_463000.out (fun _ hk => ⟨hk.2.1, hk.2.2⟩))⟩, ⟨bU BK408.out⟩, ⟨bU BK438.out⟩, ⟨bU BK462.out⟩, hV HB⟩
    case rest => as_aux_lemma =>
     clear HC144
     obtain ⟨kq, HA, HJ143, HO_409000, HO_439000, HO_463000, BK408, BK438, BK462, HB⟩ := hcut
     obtain rfl | ⟨kj143, rfl⟩ := fz kq
     ·exact zA HA
     have H := HA.out
     clear HA
     simp only [laws_FnLampsTick.j11] at H
     refine iB H ?_ ?_ <;> clear H <;> rintro rfl H
     ·replace H := bC H; obtain ⟨⟨t479, t480⟩, A187, H⟩ := H; try dsimp only at H
      refine iBy H ?_; clear H; rintro rfl H
      refine iY H ?_; clear H; intro c189 H
      have c189b0 := dT c189
      clear c189
      refine iY H ?_; clear H; intro c190 H
      have c190b0 := dT c190
      clear c190
      refine iY H ?_; clear H; intro c192 H
      have c192b0 := qT c192
      have c192b1 := nF c192
      clear c192
      refine iI H ?_ ?_ <;> clear H <;> intro c193 H
      ·have c193b0 := gT c193
       clear c193
       replace H := bC H; obtain ⟨⟨t481, t482⟩, A194, H⟩ := H; try dsimp only at H
       refine iBy H ?_; clear H; rintro rfl H
       refine iY H ?_; clear H; intro c196 H
       have c196b0 := dT c196
       clear c196
       refine iY H ?_; clear H; intro c198 H
       have c198b0 := qT c198
       have c198b1 := nF c198
       clear c198
       obtain rfl := Option.some.inj H
       have hnb199 := NB462_408.out
       have hnc199 := NB408_462.out
       have hnb200 := NB462_438.out
       have hnc200 := NB438_462.out
       obtain ⟨hcz201_0, hfz201_0⟩ := hC1 BK462
       go_wp2_with (first | ((with_reducible refine gG 8 (some 424) rfl rfl ?_); refine gC Tryd.func8 (impl_TicksAfter.calls kj143 _ _ t457 t460 t463 t479 true _ (cU (Kd.R_reads' HO_463000.out).2.2) ((Kd.R_reads' HO_463000.out).2.1) A187.out) ?_; rintro w202 hb; replace HO_409000 := rB HO_409000 hb; replace HO_439000 := rB HO_439000 hb; replace HO_463000 := rB HO_463000 hb; replace BK408 := bB BK408 hb; replace BK438 := bB BK438 hb; replace BK462 := bB BK462 hb; replace HB := hS HB hb; clear hb; have p191 : 0 ≤ (t461 : Int) := oD; have q191 : t461 < (t479.size : Int) := oD; have hx191 := bt_at t479 t461; replace p191 := eq_true p191; replace q191 := eq_true q191; obtain ⟨hcz203_0, hfz203_0⟩ := hC1 BK462) | ((with_reducible refine gG 8 (some 442) rfl rfl ?_); refine gC Tryd.func8 (impl_TicksAfter.calls kj143 _ _ t457 t460 (wrap64 (t463 - 1)) t481 true _ (cU (Kd.R_reads' HO_463000.out).2.2) ((Kd.R_reads' HO_463000.out).2.1) A194.out) ?_; rintro w204 hb; replace HO_409000 := rB HO_409000 hb; replace HO_439000 := rB HO_439000 hb; replace HO_463000 := rB HO_463000 hb; replace BK408 := bB BK408 hb; replace BK438 := bB BK438 hb; replace BK462 := bB BK462 hb; replace HB := hS HB hb; clear hb; have p197 : 0 ≤ (t461 : Int) := oD; have q197 : t461 < (t481.size : Int) := oD; have hx197 := bt_at t481 t461; replace p197 := eq_true p197; replace q197 := eq_true q197))
       go_ret
       exact ⟨eW, bel HB⟩
      have c193b0 := gF c193
      clear c193
      obtain rfl := Option.some.inj H
      have hnb205 := NB462_408.out
      have hnc205 := NB408_462.out
      have hnb206 := NB462_438.out
      have hnc206 := NB438_462.out
      obtain ⟨hcz207_0, hfz207_0⟩ := hC1 BK462
      go_wp2_with (first | ((with_reducible refine gG 8 (some 424) rfl rfl ?_); refine gC Tryd.func8 (impl_TicksAfter.calls kj143 _ _ t457 t460 t463 t479 true _ (cU (Kd.R_reads' HO_463000.out).2.2) ((Kd.R_reads' HO_463000.out).2.1) A187.out) ?_; rintro w208 hb; replace HO_409000 := rB HO_409000 hb; replace HO_439000 := rB HO_439000 hb; replace HO_463000 := rB HO_463000 hb; replace BK408 := bB BK408 hb; replace BK438 := bB BK438 hb; replace BK462 := bB BK462 hb; replace HB := hS HB hb; clear hb; have p191 : 0 ≤ (t461 : Int) := oD; have q191 : t461 < (t479.size : Int) := oD; have hx191 := bt_at t479 t461; replace p191 := eq_true p191; replace q191 := eq_true q191))
      go_ret
      exact ⟨eW, bel HB⟩
     obtain rfl := Option.some.inj H
     go_wp2
     go_ret
     exact ⟨eW, bel HB⟩

/-- THE ONE PURE STATEMENT of laws_FnLampsTick: yours. -/
def laws_FnLampsTick.Pure : Prop := ∀ (l0 : List Int) (l1 : List Int), l0.length ≤ maxLen → l0.length * 1 ≤ 140737488351232 → (∀ x ∈ l0, (Lit.int .u8 x).wf = true) → l1.length ≤ maxLen → l1.length * 1 ≤ 140737488351232 → (∀ x ∈ l1, (Lit.int .u8 x).wf = true) → ∃ k, laws_FnLampsTick.f k l0 l1 = some true
end Go.Proofs.YtiiahdjjngdgoaaDoor.PLTick
