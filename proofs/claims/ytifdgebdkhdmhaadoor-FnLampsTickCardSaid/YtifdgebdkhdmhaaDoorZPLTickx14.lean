-- squeezed; PRINTED by drive.py (a program of this session's, over the kit's print.py; wip/tools/drive.py). Lean checks it.
import Derived.Test.YtifdgebdkhdmhaaDoorZSq
import Derived.Test.YtifdgebdkhdmhaaDoorZPLTickx0
import Derived.Test.YtifdgebdkhdmhaaDoorZPLTickx1
import Derived.Test.YtifdgebdkhdmhaaDoorZPLTickx2
import Derived.Test.YtifdgebdkhdmhaaDoorZPLTickx3
import Derived.Test.YtifdgebdkhdmhaaDoorZPLTickx4
import Derived.Test.YtifdgebdkhdmhaaDoorZPLTickx5
import Derived.Test.YtifdgebdkhdmhaaDoorZPLTickx6
import Derived.Test.YtifdgebdkhdmhaaDoorZPLTickx7
import Derived.Test.YtifdgebdkhdmhaaDoorZPLTickx11
import Derived.Test.YtifdgebdkhdmhaaDoorZPLTickx12
import Derived.Test.YtifdgebdkhdmhaaDoorZRange
import Derived.Test.YtifdgebdkhdmhaaDoorZPLTickx13
import Derived.Test.YtifdgebdkhdmhaaDoorZUp
namespace Go.Proofs.YtifdgebdkhdmhaaDoor.PLTick
open Go.RowKit Go.Proofs.YtifdgebdkhdmhaaDoorW.PrintWords Go.Proofs.YtifdgebdkhdmhaaDoorW.PrintLast Go.Proofs.YtifdgebdkhdmhaaDoorW.PrintMore
attribute [local go_sem] max2_int min2_int max_two min_two max_three min_three max_four min_four   -- for this text's walks alone
set_option linter.unusedVariables false
set_option linter.unusedSimpArgs false

set_option maxHeartbeats 8000000 in
set_option maxRecDepth 100000 in
theorem laws_FnLampsTick.calls (k : Nat) (A0 : Option Addr) (c0 : Nat) (l0 : List Int) (A1 : Option Addr) (c1 : Nat) (l1 : List Int) (r : Bool) (w : World) (hr0 : Kd.C (Kd.int .u8) w A0 l0.length l0) (hc0 : l0.length ≤ c0) (hr1 : Kd.C (Kd.int .u8) w A1 l1.length l1) (hc1 : l1.length ≤ c1) (h : laws_FnLampsTick.f k l0 l1 = some r) :
  Calls Tryd.prog 8 #[.slice A0 l0.length c0, .slice A1 l1.length c1] w fun e w' => e = .returned (.bool r) ∧ Below w.heap.size w w' := by
 have hu29 := Tryd.underlying29
 have HR0 := aM hr0
 have HC0 := aM hc0
 clear hr0 hc0
 have HR1 := aM hr1
 have HC1 := aM hc1
 clear hr1 hc1
 have HB := aM (Below.refl w.heap.size w)
 have H : ((laws_big.f l0 l1).bind fun t407 => (if t407 = true then (some true) else ((spec_DrawTicksAfter.f k l0).bind fun bt408 => ((impl_TicksAfter.f k bt408.1 bt408.2.1 bt408.2.2).bind fun bt414 => ((spec_TicksAfter.f k bt408.1 bt408.2.1 bt408.2.2).bind fun bt416 => ((impl_TimesChanging.f k bt408.1 bt408.2.1 bt408.2.2).bind fun bt418 => ((spec_TimesChanging.f k bt408.1 bt408.2.1 bt408.2.2).bind fun bt422 => (if (bt414.2 != bt416.2) = true then (none) else (if bt414.1.toList = bt416.1.toList then (if (bt418.2 != bt422.2) = true then (none) else ((laws_xSame.f k bt418.1 bt422.1).bind fun t426 => (if t426 = true then (if (bt418.2 != bt414.2) = true then (none) else ((impl_AreLamps.f bt408.1).bind fun t427 => ((spec_AreLamps.f bt408.1).bind fun t428 => (if (t427 != t428) = true then (none) else (if bt414.2 = true then ((impl_AreLamps.f bt408.1).bind fun t429 => (laws_FnLampsTick.j0 k l1 bt408.2.1 bt408.2.2 bt414.1 bt414.2 bt418.1 (!t429) bt408.1)) else (laws_FnLampsTick.j0 k l1 bt408.2.1 bt408.2.2 bt414.1 bt414.2 bt418.1 false bt408.1)))))) else (none)))) else (none)))))))))) = some r := h
 clear h
 replace H := Option.bind_eq_some_iff.mp H
 obtain ⟨t407, A30, H⟩ := H
 replace H : (if t407 = true then (some true) else ((spec_DrawTicksAfter.f k l0).bind fun bt408 => ((impl_TicksAfter.f k bt408.1 bt408.2.1 bt408.2.2).bind fun bt414 => ((spec_TicksAfter.f k bt408.1 bt408.2.1 bt408.2.2).bind fun bt416 => ((impl_TimesChanging.f k bt408.1 bt408.2.1 bt408.2.2).bind fun bt418 => ((spec_TimesChanging.f k bt408.1 bt408.2.1 bt408.2.2).bind fun bt422 => (if (bt414.2 != bt416.2) = true then (none) else (if bt414.1.toList = bt416.1.toList then (if (bt418.2 != bt422.2) = true then (none) else ((laws_xSame.f k bt418.1 bt422.1).bind fun t426 => (if t426 = true then (if (bt418.2 != bt414.2) = true then (none) else ((impl_AreLamps.f bt408.1).bind fun t427 => ((spec_AreLamps.f bt408.1).bind fun t428 => (if (t427 != t428) = true then (none) else (if bt414.2 = true then ((impl_AreLamps.f bt408.1).bind fun t429 => (laws_FnLampsTick.j0 k l1 bt408.2.1 bt408.2.2 bt414.1 bt414.2 bt418.1 (!t429) bt408.1)) else (laws_FnLampsTick.j0 k l1 bt408.2.1 bt408.2.2 bt414.1 bt414.2 bt418.1 false bt408.1)))))) else (none)))) else (none))))))))) = some r := H
 have A3 := aM A30
 clear A30
 by_cases c4 : t407 = true
 ·subst c4
  rw [if_pos rfl] at H
  obtain rfl := Option.some.inj H
  go_enter Tryd.func8, Tryd.ntmps8
  go_wp2_with (first | ((with_reducible refine gate_callee (f := 77) rfl ?_); refine goesL_ (some 61) rfl rfl Tryd.func77 (by kernel_rfl) rfl #[.slice A0 l0.length c0, .slice A1 l1.length c1] rfl (by mA) ?_; (with_reducible refine (laws_big.calls _ _ l0 _ _ l1 true _ ?side1 ?side2 ?side3 ?side4 A3.out).mono ?_); (case side1 => exact cU HR0.out); (case side2 => exact HC0.out); (case side3 => exact cU HR1.out); (case side4 => exact HC1.out); rintro e w' ⟨rfl, ⟨nd, rfl⟩⟩; refine ⟨_, rfl, ?_⟩))
  go_ret
  exact ⟨by eW, by bC⟩
 ·replace c4 := Bool.eq_false_iff.mpr c4
  subst c4
  rw [if_neg (show ¬ (false = true) by decide)] at H
  replace H := Option.bind_eq_some_iff.mp H
  obtain ⟨⟨t408, t411, t412⟩, A50, H⟩ := H
  dsimp only at H
  have A5 := aM A50
  clear A50
  replace H := Option.bind_eq_some_iff.mp H
  obtain ⟨⟨t414, t415⟩, A60, H⟩ := H
  dsimp only at H
  have A6 := aM A60
  clear A60
  replace H := Option.bind_eq_some_iff.mp H
  obtain ⟨⟨t416, t417⟩, A70, H⟩ := H
  dsimp only at H
  have A7 := aM A70
  clear A70
  replace H := Option.bind_eq_some_iff.mp H
  obtain ⟨⟨t418, t421⟩, A80, H⟩ := H
  dsimp only at H
  have A8 := aM A80
  clear A80
  replace H := Option.bind_eq_some_iff.mp H
  obtain ⟨⟨t422, t425⟩, A90, H⟩ := H
  dsimp only at H
  have A9 := aM A90
  clear A90
  have HC10 := aM H
  clear H
  go_enter Tryd.func8, Tryd.ntmps8
  go_upto_region 8 with (first | ((with_reducible refine gate_callee (f := 77) rfl ?_); refine goesL_ (some 61) rfl rfl Tryd.func77 (by kernel_rfl) rfl #[.slice A0 l0.length c0, .slice A1 l1.length c1] rfl (by mA) ?_; (with_reducible refine (laws_big.calls _ _ l0 _ _ l1 false _ ?side1 ?side2 ?side3 ?side4 A3.out).mono ?_); (case side1 => exact cU HR0.out); (case side2 => exact HC0.out); (case side3 => exact cU HR1.out); (case side4 => exact HC1.out); rintro e w' ⟨rfl, ⟨nd, rfl⟩⟩; refine ⟨_, rfl, ?_⟩) | ((with_reducible refine gate_callee (f := 78) rfl ?_); refine goesL_ (some 64) rfl rfl Tryd.func78 (by kernel_rfl) rfl #[.slice A0 l0.length c0] rfl (by mA) ?_; (with_reducible refine (spec_DrawTicksAfter.calls k _ _ l0 t408 t411 t412 _ ?side1 ?side2 A5.out).mono ?_); (case side1 => exact cU HR0.out); (case side2 => exact HC0.out); rintro e w11 ⟨v409, rfl, ho0, hb⟩; refine ⟨_, rfl, ?_⟩; have n0_ := aM (Kd.R_lower ho0 (below_size (by bC))); have n1_ := aM (below_step (by bC) hb); clear HB; have HO410 := n0_; have HB := n1_; clear n0_ n1_; cX; (try clear ho0)) | ((with_reducible refine gate_dst (N := 5) rfl ?_); (try (refine gate_guard (by rfl) ?_; dsimp only)); refine box_event ?hg (N := 5) ?hd (cs := #[.slice none 0 0]) (t := 29) ?hr ?_; (case hd => rfl); (case hg => rfl); (case hr => first | (go_simp; done) | (go_simp; rfl)); intro gb413 hg w12 hbox hb; have n0_ := aM (Kd.R_below (rU HO410.out) hb); have n1_ := aM (below_step (by bC) hb); have n2_ := aM (hbox); have n3_ := aM ((by rw [hg]; exact (below_size (by bC)) : w.heap.size ≤ gb413)); have n4_ := aM ((by rw [hg]; exact (below_size (by bC)) : w.heap.size ≤ gb413)); clear HO410; clear HB; have HO410 := n0_; have HB := n1_; have BK413 := n2_; have GW413 := n3_; have GE413 := n4_; clear n0_ n1_ n2_ n3_ n4_; clear hb hbox hg; obtain ⟨Ao13, co13, eo13⟩ := Kd.R_slice HO410.out; subst eo13; have hcz14_0 : w12.cell? ⟨gb413, 0, none⟩ = some (.slice none 0 0) := (blk_cell BK413.out 0).trans rfl; have hfz14_0 := blk_frozen BK413.out 0) | ((with_reducible refine gate_callee (f := 25) rfl ?_); refine goesL_ (some 72) rfl rfl Tryd.func25 (by kernel_rfl) rfl #[.agg #[.slice Ao13 t408.length co13], .string t411, .int .i64 t412] rfl (by mA) ?_; (with_reducible refine (impl_TicksAfter.calls k _ _ t408 t411 t412 t414 t415 _ ?side1 ?side2 A6.out).mono ?_); (case side1 => refine (Kd.R_reads' (e := 9) (base := w.heap.size) (ok := fun k_ => True) (n := t408.length) (c := co13) ?_).2.2; exact (rU (Kd.R_mono (Kd.R_far (p := ⟨gb413, 0, none⟩) (Kd.R_types HO410.out BK413.out (by decide)) (fun _ hk => hk.2) (.slice Ao13 t408.length co13)) (fun _ h_ => h_.1)))); (case side2 => exact (Kd.R_reads' HO410.out).2.1); rintro e w15 ⟨rfl, hb⟩; refine ⟨_, rfl, ?_⟩; have n0_ := aM (Kd.R_below (rU (Kd.R_mono (Kd.R_far (p := ⟨gb413, 0, none⟩) (Kd.R_types HO410.out BK413.out (by decide)) (fun _ hk => hk.2) (.slice Ao13 t408.length co13)) (fun _ h_ => h_.1))) hb); have n1_ := aM (blk_below (g := gb413) (o := .cells #[.slice Ao13 t408.length co13] 29 (0, 0)) (by (with_reducible repeat (first | refine blk_drewN ?_ _ | refine blk_drew ?_ | refine blk_alloc ?_ _)); refine blk_put (cs := #[.slice none 0 0]) ?_ 0 _ rfl; (with_reducible repeat (first | refine blk_drewN ?_ _ | refine blk_drew ?_ | refine blk_alloc ?_ _)); exact BK413.out) hb); have n2_ := aM (below_step (by repeat (first | (with_reducible first | exact HB.out | apply aL | apply dN | apply dR | refine sT ?_ GE413.out) | exact HB.out)) hb); clear HO410; clear BK413; clear HB; have HO410 := n0_; have BK413 := n1_; have HB := n2_; clear n0_ n1_ n2_; cX; have hcz16_0 : w15.cell? ⟨gb413, 0, none⟩ = some (.slice Ao13 t408.length co13) := (blk_cell BK413.out 0).trans rfl; have hfz16_0 := blk_frozen BK413.out 0) | ((with_reducible refine gate_callee (f := 26) rfl ?_); refine goesL_ (some 79) rfl rfl Tryd.func26 (by kernel_rfl) rfl #[.agg #[.slice Ao13 t408.length co13], .string t411, .int .i64 t412] rfl (by mA) ?_; (with_reducible refine (spec_TicksAfter.calls k _ _ t408 t411 t412 t416 t417 _ ?side1 ?side2 A7.out).mono ?_); (case side1 => exact cU (Kd.R_reads' HO410.out).2.2); (case side2 => exact (Kd.R_reads' HO410.out).2.1); rintro e w17 ⟨rfl, hb⟩; refine ⟨_, rfl, ?_⟩; have n0_ := aM (Kd.R_below (rU HO410.out) hb); have n1_ := aM (blk_below (g := gb413) (o := .cells #[.slice Ao13 t408.length co13] 29 (0, 0)) (bU BK413.out) hb); have n2_ := aM (below_step (by repeat (first | (with_reducible first | exact HB.out | apply aL | apply dN | apply dR | refine sT ?_ GE413.out) | exact HB.out)) hb); clear HO410; clear BK413; clear HB; have HO410 := n0_; have BK413 := n1_; have HB := n2_; clear n0_ n1_ n2_; cX; have hcz18_0 : w17.cell? ⟨gb413, 0, none⟩ = some (.slice Ao13 t408.length co13) := (blk_cell BK413.out 0).trans rfl; have hfz18_0 := blk_frozen BK413.out 0) | ((with_reducible refine gate_callee (f := 27) rfl ?_); refine goesL_ (some 86) rfl rfl Tryd.func27 (by kernel_rfl) rfl #[.agg #[.slice Ao13 t408.length co13], .string t411, .int .i64 t412] rfl (by mA) ?_; (with_reducible refine (impl_TimesChanging.calls k _ _ t408 t411 t412 t418 t421 _ ?side1 ?side2 A8.out).mono ?_); (case side1 => exact cU (Kd.R_reads' HO410.out).2.2); (case side2 => exact (Kd.R_reads' HO410.out).2.1); rintro e w19 ⟨v419, rfl, ho0, hb⟩; refine ⟨_, rfl, ?_⟩; have n0_ := aM (Kd.R_below (rU HO410.out) hb); have n1_ := aM (Kd.R_lower ho0 (below_size (by repeat (first | (with_reducible first | exact HB.out | apply aL | apply dN | apply dR | refine sT ?_ GE413.out) | exact HB.out)))); have n2_ := aM (blk_below (g := gb413) (o := .cells #[.slice Ao13 t408.length co13] 29 (0, 0)) (bU BK413.out) hb); have n3_ := aM (below_step (by repeat (first | (with_reducible first | exact HB.out | apply aL | apply dN | apply dR | refine sT ?_ GE413.out) | exact HB.out)) hb); clear HO410; clear BK413; clear HB; have HO410 := n0_; have HO420 := n1_; have BK413 := n2_; have HB := n3_; clear n0_ n1_ n2_ n3_; cX; (try clear ho0); have hcz20_0 : w19.cell? ⟨gb413, 0, none⟩ = some (.slice Ao13 t408.length co13) := (blk_cell BK413.out 0).trans rfl; have hfz20_0 := blk_frozen BK413.out 0) | ((with_reducible refine gate_callee (f := 28) rfl ?_); refine goesL_ (some 93) rfl rfl Tryd.func28 (by kernel_rfl) rfl #[.agg #[.slice Ao13 t408.length co13], .string t411, .int .i64 t412] rfl (by mA) ?_; (with_reducible refine (spec_TimesChanging.calls k _ _ t408 t411 t412 t422 t425 _ ?side1 ?side2 A9.out).mono ?_); (case side1 => exact cU (Kd.R_reads' HO410.out).2.2); (case side2 => exact (Kd.R_reads' HO410.out).2.1); rintro e w21 ⟨v423, rfl, ho0, hb⟩; refine ⟨_, rfl, ?_⟩; have n0_ := aM (Kd.R_below (rU HO410.out) hb); have n1_ := aM (Kd.R_elder' (rU HO420.out) (Kd.R_base ho0) hb); have n2_ := aM (Kd.R_lower (Kd.R_new' ho0 (Kd.R_lt (rU HO420.out))) (below_size (by repeat (first | (with_reducible first | exact HB.out | apply aL | apply dN | apply dR | refine sT ?_ GE413.out) | exact HB.out)))); have n3_ := aM (blk_below (g := gb413) (o := .cells #[.slice Ao13 t408.length co13] 29 (0, 0)) (bU BK413.out) hb); have n4_ := aM (below_step (by repeat (first | (with_reducible first | exact HB.out | apply aL | apply dN | apply dR | refine sT ?_ GE413.out) | exact HB.out)) hb); clear HO410; clear HO420; clear BK413; clear HB; have HO410 := n0_; have HO420 := n1_; have HO424 := n2_; have BK413 := n3_; have HB := n4_; clear n0_ n1_ n2_ n3_ n4_; cX; (try clear ho0)))
  (try simp only [Act.put, List.setIfInBounds_toArray, List.set_cons_zero, List.set_cons_succ])
  go_cut [134] from 59 to 134 (fun v134 wc => ∃ (kq : Nat) (x134_9 : Bool), v134 = .bool x134_9 ∧ Aside0 (laws_FnLampsTick.j0 kq l1 t411 t412 t414 t415 t418 x134_9 t408 = some r) ∧ Aside0 (kq ≤ k) ∧ Aside0 (Kd.R (Kd.int .i64) 3 wc w.heap.size (fun _ => True) v419 t418) ∧ Aside0 (Kd.R Kd.string 9 wc w.heap.size (fun _ => True) (.slice Ao13 t408.length co13) t408) ∧ Aside0 (wc.heap[gb413]? = some (.cells #[(.slice Ao13 t408.length co13)] 29 (0, 0))) ∧ Aside0 (Below w.heap.size w wc))
  case first => as_aux_lemma =>
   have H := HC10.out
   clear HC10
   by_cases c22 : (t415 != t417) = true
   ·rw [if_pos c22] at H
    exact absurd H (by simp)
   ·rw [if_neg c22] at H
    have c22b0 : (t415 != t417) = false := by simpa using c22
    (try (have c22b1 : decide (t415 = t417) = true := by simpa using c22))
    (try (have c22b2 : (t415 == t417) = true := by simpa using c22))
    clear c22
    (first | rw [c22b0] | (simp only [i64_w, i32_w]; rw [c22b0]) | skip)
    by_cases c23 : t414.toList = t416.toList
    ·rw [if_pos c23] at H
     have c23b0 : (t414.toList == t416.toList) = true := beq_iff_eq.mpr c23
     have c23b1 : (t414.toList != t416.toList) = false := bne_eq_false_iff_eq.mpr c23
     clear c23
     by_cases c24 : (t421 != t425) = true
     ·rw [if_pos c24] at H
      exact absurd H (by simp)
     ·rw [if_neg c24] at H
      have c24b0 : (t421 != t425) = false := by simpa using c24
      (try (have c24b1 : decide (t421 = t425) = true := by simpa using c24))
      (try (have c24b2 : (t421 == t425) = true := by simpa using c24))
      clear c24
      replace H := Option.bind_eq_some_iff.mp H
      obtain ⟨t426, A250, H⟩ := H
      replace H : (if t426 = true then (if (t421 != t415) = true then (none) else ((impl_AreLamps.f t408).bind fun t427 => ((spec_AreLamps.f t408).bind fun t428 => (if (t427 != t428) = true then (none) else (if t415 = true then ((impl_AreLamps.f t408).bind fun t429 => (laws_FnLampsTick.j0 k l1 t411 t412 t414 t415 t418 (!t429) t408)) else (laws_FnLampsTick.j0 k l1 t411 t412 t414 t415 t418 false t408)))))) else (none)) = some r := H
      have A25 := aM A250
      clear A250
      by_cases c26 : t426 = true
      ·subst c26
       rw [if_pos rfl] at H
       by_cases c27 : (t421 != t415) = true
       ·rw [if_pos c27] at H
        exact absurd H (by simp)
       ·rw [if_neg c27] at H
        have c27b0 : (t421 != t415) = false := by simpa using c27
        (try (have c27b1 : decide (t421 = t415) = true := by simpa using c27))
        (try (have c27b2 : (t421 == t415) = true := by simpa using c27))
        clear c27
        replace H := Option.bind_eq_some_iff.mp H
        obtain ⟨t427, A280, H⟩ := H
        replace H : ((spec_AreLamps.f t408).bind fun t428 => (if (t427 != t428) = true then (none) else (if t415 = true then ((impl_AreLamps.f t408).bind fun t429 => (laws_FnLampsTick.j0 k l1 t411 t412 t414 t415 t418 (!t429) t408)) else (laws_FnLampsTick.j0 k l1 t411 t412 t414 t415 t418 false t408)))) = some r := H
        have A28 := aM A280
        clear A280
        replace H := Option.bind_eq_some_iff.mp H
        obtain ⟨t428, A290, H⟩ := H
        replace H : (if (t427 != t428) = true then (none) else (if t415 = true then ((impl_AreLamps.f t408).bind fun t429 => (laws_FnLampsTick.j0 k l1 t411 t412 t414 t415 t418 (!t429) t408)) else (laws_FnLampsTick.j0 k l1 t411 t412 t414 t415 t418 false t408))) = some r := H
        have A29 := aM A290
        clear A290
        by_cases c30 : (t427 != t428) = true
        ·rw [if_pos c30] at H
         exact absurd H (by simp)
        ·rw [if_neg c30] at H
         have c30b0 : (t427 != t428) = false := by simpa using c30
         (try (have c30b1 : decide (t427 = t428) = true := by simpa using c30))
         (try (have c30b2 : (t427 == t428) = true := by simpa using c30))
         clear c30
         by_cases c31 : t415 = true
         ·subst c31
          rw [if_pos rfl] at H
          replace H := Option.bind_eq_some_iff.mp H
          obtain ⟨t429, A320, H⟩ := H
          replace H : (laws_FnLampsTick.j0 k l1 t411 t412 t414 true t418 (!t429) t408) = some r := H
          have A32 := aM A320
          clear A320
          have H' := aM H
          clear H
          try go_wp2
          have n0_ := aM (Kd.R_drew HO410.out)
          have n1_ := aM (Kd.R_drew HO420.out)
          have n2_ := aM (Kd.R_drew HO424.out)
          have n3_ := aM (blk_drew BK413.out)
          have n4_ := aM (below_drew1 HB.out)
          clear HO410
          clear HO420
          clear HO424
          clear BK413
          clear HB
          have HO410 := n0_
          have HO420 := n1_
          have HO424 := n2_
          have BK413 := n3_
          have HB := n4_
          clear n0_ n1_ n2_ n3_ n4_
          obtain ⟨Ao34, co34, eo34⟩ := Kd.R_slice HO420.out
          (first | subst eo34 | (injection eo34 with f1_ f2_ f3_; have f4_ := f1_.symm; have f5_ := f3_.symm; clear f1_ f2_ f3_; subst f4_; subst f5_))
          obtain ⟨Ao35, co35, eo35⟩ := Kd.R_slice HO424.out
          (first | subst eo35 | (injection eo35 with f1_ f2_ f3_; have f4_ := f1_.symm; have f5_ := f3_.symm; clear f1_ f2_ f3_; subst f4_; subst f5_))
          refine start_ (n := 39) (S := fun w' => w'.cell? ⟨gb413, 0, none⟩ = some (.slice Ao13 t408.length co13)) (ds := []) #[false, false, false, false, false, false, false, false, false, false, false, false, false, false, false, false, false, false, false, false, false, false, false, false, false, false, false, false, false, false, false, false, false, false, false, false, false, false, false] (by kernel_rfl) rfl rfl ((blk_cell BK413.out 0).trans rfl) (fun hHeld => ?_); refine with_tabW laws_FnLampsTick.tab8 laws_FnLampsTick.bits8 (fun HT_ HW_ => ?_)
          generalize w21.drew = w33 at HO410 HO420 HO424 BK413 HB hHeld ⊢
          pU 0 (some 96) #[true, false, false, false, false, false, false, false, false, false, false, false, false, false, false, false, false, false, false, false, false, false, false, false, false, false, false, false, false, false, false, false, false, false, false, false, false, false, false]
          rotate_left
          ·intro w'
           go_simp
           with_reducible rfl
          rotate_left
          ·simp only [Act.put, List.setIfInBounds_toArray, List.set_cons_zero, List.set_cons_succ, i64_w, i32_w]
           rfl
          pU 1 (some 97) #[true, true, false, false, false, false, false, false, false, false, false, false, false, false, false, false, false, false, false, false, false, false, false, false, false, false, false, false, false, false, false, false, false, false, false, false, false, false, false]
          rotate_left
          ·intro w'
           go_simp
           with_reducible rfl
          rotate_left
          ·simp only [Act.put, List.setIfInBounds_toArray, List.set_cons_zero, List.set_cons_succ, i64_w, i32_w]
           rfl
          pU 2 (some 98) #[true, true, true, false, false, false, false, false, false, false, false, false, false, false, false, false, false, false, false, false, false, false, false, false, false, false, false, false, false, false, false, false, false, false, false, false, false, false, false]
          rotate_left
          ·intro w'
           go_simp
           with_reducible rfl
          rotate_left
          ·simp only [Act.put, List.setIfInBounds_toArray, List.set_cons_zero, List.set_cons_succ, i64_w, i32_w]
           rfl
          pU 3 (some 99) #[true, true, true, true, false, false, false, false, false, false, false, false, false, false, false, false, false, false, false, false, false, false, false, false, false, false, false, false, false, false, false, false, false, false, false, false, false, false, false]
          rotate_left
          ·intro w'
           go_simp
           with_reducible rfl
          rotate_left
          ·simp only [Act.put, List.setIfInBounds_toArray, List.set_cons_zero, List.set_cons_succ, i64_w, i32_w]
           rfl
          pU 4 (some 100) #[true, true, true, true, true, false, false, false, false, false, false, false, false, false, false, false, false, false, false, false, false, false, false, false, false, false, false, false, false, false, false, false, false, false, false, false, false, false, false]
          rotate_left
          ·intro w'
           go_simp
           with_reducible rfl
          rotate_left
          ·simp only [Act.put, List.setIfInBounds_toArray, List.set_cons_zero, List.set_cons_succ, i64_w, i32_w]
           rfl
          pU 5 (some 101) #[true, true, true, true, true, true, false, false, false, false, false, false, false, false, false, false, false, false, false, false, false, false, false, false, false, false, false, false, false, false, false, false, false, false, false, false, false, false, false]
          rotate_left
          ·intro w'
           go_simp
           with_reducible rfl
          rotate_left
          ·simp only [Act.put, List.setIfInBounds_toArray, List.set_cons_zero, List.set_cons_succ, i64_w, i32_w]
           rfl
          pU 6 (some 102) #[true, true, true, true, true, true, true, false, false, false, false, false, false, false, false, false, false, false, false, false, false, false, false, false, false, false, false, false, false, false, false, false, false, false, false, false, false, false, false]
          rotate_left
          ·intro w'
           go_simp
           with_reducible rfl
          rotate_left
          ·simp only [Act.put, List.setIfInBounds_toArray, List.set_cons_zero, List.set_cons_succ, i64_w, i32_w]
           rfl
          pU 7 (some 103) #[true, true, true, true, true, true, true, true, false, false, false, false, false, false, false, false, false, false, false, false, false, false, false, false, false, false, false, false, false, false, false, false, false, false, false, false, false, false, false]
          rotate_left
          ·intro w'
           go_simp
           with_reducible rfl
          rotate_left
          ·simp only [Act.put, List.setIfInBounds_toArray, List.set_cons_zero, List.set_cons_succ, i64_w, i32_w]
           rfl
          pU 8 (some 104) #[true, true, true, true, true, true, true, true, true, false, false, false, false, false, false, false, false, false, false, false, false, false, false, false, false, false, false, false, false, false, false, false, false, false, false, false, false, false, false]
          rotate_left
          ·intro w'
           go_simp
           with_reducible rfl
          rotate_left
          ·simp only [Act.put, List.setIfInBounds_toArray, List.set_cons_zero, List.set_cons_succ, i64_w, i32_w]
           rfl
          pU 9 (some 105) #[true, true, true, true, true, true, true, true, true, true, false, false, false, false, false, false, false, false, false, false, false, false, false, false, false, false, false, false, false, false, false, false, false, false, false, false, false, false, false]
          rotate_left
          ·intro w'
           go_simp
           with_reducible rfl
          rotate_left
          ·simp only [Act.put, List.setIfInBounds_toArray, List.set_cons_zero, List.set_cons_succ, i64_w, i32_w]
           rfl
          pU 10 (some 106) #[true, true, true, true, true, true, true, true, true, true, true, false, false, false, false, false, false, false, false, false, false, false, false, false, false, false, false, false, false, false, false, false, false, false, false, false, false, false, false]
          rotate_left
          ·intro w'
           go_simp
           with_reducible rfl
          rotate_left
          ·simp only [Act.put, List.setIfInBounds_toArray, List.set_cons_zero, List.set_cons_succ, i64_w, i32_w]
           rfl
          pU 11 (some 107) #[true, true, true, true, true, true, true, true, true, true, true, true, false, false, false, false, false, false, false, false, false, false, false, false, false, false, false, false, false, false, false, false, false, false, false, false, false, false, false]
          rotate_left
          ·intro w'
           go_simp
           with_reducible rfl
          rotate_left
          ·simp only [Act.put, List.setIfInBounds_toArray, List.set_cons_zero, List.set_cons_succ, i64_w, i32_w]
           rfl
          pU 12 (some 108) #[true, true, true, true, true, true, true, true, true, true, true, true, true, false, false, false, false, false, false, false, false, false, false, false, false, false, false, false, false, false, false, false, false, false, false, false, false, false, false]
          rotate_left
          ·intro w'
           go_simp
           with_reducible rfl
          rotate_left
          ·simp only [Act.put, List.setIfInBounds_toArray, List.set_cons_zero, List.set_cons_succ, i64_w, i32_w]
           rfl
          pU 13 (some 109) #[true, true, true, true, true, true, true, true, true, true, true, true, true, true, false, false, false, false, false, false, false, false, false, false, false, false, false, false, false, false, false, false, false, false, false, false, false, false, false]
          rotate_left
          ·intro w'
           go_simp
           with_reducible rfl
          rotate_left
          ·simp only [Act.put, List.setIfInBounds_toArray, List.set_cons_zero, List.set_cons_succ, i64_w, i32_w]
           rfl
          pU 14 (some 110) #[true, true, true, true, true, true, true, true, true, true, true, true, true, true, true, false, false, false, false, false, false, false, false, false, false, false, false, false, false, false, false, false, false, false, false, false, false, false, false]
          rotate_left
          ·intro w'
           go_simp
           with_reducible rfl
          rotate_left
          ·simp only [Act.put, List.setIfInBounds_toArray, List.set_cons_zero, List.set_cons_succ, i64_w, i32_w]
           rfl
          pU 15 (some 111) #[true, true, true, true, true, true, true, true, true, true, true, true, true, true, true, true, false, false, false, false, false, false, false, false, false, false, false, false, false, false, false, false, false, false, false, false, false, false, false]
          rotate_left
          ·intro w'
           go_simp
           with_reducible rfl
          rotate_left
          ·simp only [Act.put, List.setIfInBounds_toArray, List.set_cons_zero, List.set_cons_succ, i64_w, i32_w]
           rfl
          refine one_ (i := 16) (N := some 112) #[true, true, true, true, true, true, true, true, true, true, true, true, true, true, true, true, true, false, false, false, false, false, false, false, false, false, false, false, false, false, false, false, false, false, false, false, false, false, false] rfl rfl (one_of HT_.out (by kernel_rfl)) (by decide) (fun K hK => ?_)
          refine goes_ Tryd.func29 (by kernel_rfl) rfl #[.slice Ao34 t418.length co34, .slice Ao35 t422.length co35] (by rfl) rfl rfl (by mA) ?_
          with_reducible refine (laws_xSame.calls k _ _ t418 _ _ t422 true _ ?side1 ?side2 ?side3 ?side4 A25.out).mono ?_
          (case side1 => exact cU (Kd.R_reads' HO420.out).2.2)
          (case side2 => exact (Kd.R_reads' HO420.out).2.1)
          (case side3 => exact cU (Kd.R_reads' HO424.out).2.2)
          (case side4 => exact (Kd.R_reads' HO424.out).2.1)
          rintro e w' ⟨rfl, ⟨nd, rfl⟩⟩
          refine ⟨_, rfl, ?_⟩
          refine hK.out _ _ ((blk_cell BK413.out 0).trans rfl) (fun hHeld => ?_)
          clear hK K
          refine norm_ (a' := ?_) ?_ ?_
          rotate_left
          ·show Act.put _ (some 112) _ = _
           simp only [Act.put, List.setIfInBounds_toArray, List.set_cons_zero, List.set_cons_succ, i64_w, i32_w]
           rfl
          pU 17 (some 113) #[true, true, true, true, true, true, true, true, true, true, true, true, true, true, true, true, true, true, false, false, false, false, false, false, false, false, false, false, false, false, false, false, false, false, false, false, false, false, false]
          rotate_left
          ·intro w'
           go_simp
           with_reducible rfl
          rotate_left
          ·simp only [Act.put, List.setIfInBounds_toArray, List.set_cons_zero, List.set_cons_succ, i64_w, i32_w]
           rfl
          pU 18 (some 114) #[true, true, true, true, true, true, true, true, true, true, true, true, true, true, true, true, true, true, true, false, false, false, false, false, false, false, false, false, false, false, false, false, false, false, false, false, false, false, false]
          rotate_left
          ·intro w'
           go_simp
           with_reducible rfl
          rotate_left
          ·simp only [Act.put, List.setIfInBounds_toArray, List.set_cons_zero, List.set_cons_succ, i64_w, i32_w]
           rfl
          pU 19 (some 115) #[true, true, true, true, true, true, true, true, true, true, true, true, true, true, true, true, true, true, true, true, false, false, false, false, false, false, false, false, false, false, false, false, false, false, false, false, false, false, false]
          rotate_left
          ·intro w'
           go_simp
           with_reducible rfl
          rotate_left
          ·simp only [Act.put, List.setIfInBounds_toArray, List.set_cons_zero, List.set_cons_succ, i64_w, i32_w]
           rfl
          pU 20 (some 116) #[true, true, true, true, true, true, true, true, true, true, true, true, true, true, true, true, true, true, true, true, true, false, false, false, false, false, false, false, false, false, false, false, false, false, false, false, false, false, false]
          rotate_left
          ·intro w'
           go_simp
           with_reducible rfl
          rotate_left
          ·simp only [Act.put, List.setIfInBounds_toArray, List.set_cons_zero, List.set_cons_succ, i64_w, i32_w]
           rfl
          pU 21 (some 117) #[true, true, true, true, true, true, true, true, true, true, true, true, true, true, true, true, true, true, true, true, true, true, false, false, false, false, false, false, false, false, false, false, false, false, false, false, false, false, false]
          rotate_left
          ·intro w'
           go_simp
           with_reducible rfl
          rotate_left
          ·simp only [Act.put, List.setIfInBounds_toArray, List.set_cons_zero, List.set_cons_succ, i64_w, i32_w]
           rfl
          pU 22 (some 118) #[true, true, true, true, true, true, true, true, true, true, true, true, true, true, true, true, true, true, true, true, true, true, true, false, false, false, false, false, false, false, false, false, false, false, false, false, false, false, false]
          rotate_left
          ·intro w'
           go_simp
           with_reducible rfl
          rotate_left
          ·simp only [Act.put, List.setIfInBounds_toArray, List.set_cons_zero, List.set_cons_succ, i64_w, i32_w]
           rfl
          pU 23 (some 119) #[true, true, true, true, true, true, true, true, true, true, true, true, true, true, true, true, true, true, true, true, true, true, true, true, false, false, false, false, false, false, false, false, false, false, false, false, false, false, false]
          rotate_left
          ·intro w'
           go_simp
           with_reducible rfl
          rotate_left
          ·simp only [Act.put, List.setIfInBounds_toArray, List.set_cons_zero, List.set_cons_succ, i64_w, i32_w]
           rfl
          pU 24 (some 120) #[true, true, true, true, true, true, true, true, true, true, true, true, true, true, true, true, true, true, true, true, true, true, true, true, true, false, false, false, false, false, false, false, false, false, false, false, false, false, false]
          rotate_left
          ·intro w'
           go_simp
           with_reducible rfl
          rotate_left
          ·simp only [Act.put, List.setIfInBounds_toArray, List.set_cons_zero, List.set_cons_succ, i64_w, i32_w]
           rfl
          refine take_ (i := 25) (N := some 121) (v := ?_) (a' := ?_) #[true, true, true, true, true, true, true, true, true, true, true, true, true, true, true, true, true, true, true, true, true, true, true, true, true, true, false, false, false, false, false, false, false, false, false, false, false, false, false] rfl rfl (take_ofW HT_.out HW_.out (by kernel_rfl)) (fun _ _ _ h => h) (Or.inl ⟨by rfl, ?_⟩) hHeld ?_ ?_
          rotate_left
          ·intro w' s0
           go_simp
           with_reducible rfl
          rotate_left
          ·simp only [Act.put, List.setIfInBounds_toArray, List.set_cons_zero, List.set_cons_succ, i64_w, i32_w]
           rfl
          refine take_ (i := 27) (N := some 123) (v := ?_) (a' := ?_) #[true, true, true, true, true, true, true, true, true, true, true, true, true, true, true, true, true, true, true, true, true, true, true, true, true, true, false, true, false, false, false, false, false, false, false, false, false, false, false] rfl rfl (take_ofW HT_.out HW_.out (by kernel_rfl)) (fun _ _ _ h => h) (Or.inl ⟨by rfl, ?_⟩) hHeld ?_ ?_
          rotate_left
          ·intro w' s0
           go_simp
           with_reducible rfl
          rotate_left
          ·simp only [Act.put, List.setIfInBounds_toArray, List.set_cons_zero, List.set_cons_succ, i64_w, i32_w]
           rfl
          refine one_ (i := 26) (N := some 122) #[true, true, true, true, true, true, true, true, true, true, true, true, true, true, true, true, true, true, true, true, true, true, true, true, true, true, true, true, false, false, false, false, false, false, false, false, false, false, false] rfl rfl (one_of HT_.out (by kernel_rfl)) (by decide) (fun K hK => ?_)
          refine goes_ Tryd.func30 (by kernel_rfl) rfl #[.agg #[.slice Ao13 t408.length co13]] (by rfl) rfl rfl (by mA) ?_
          with_reducible refine (impl_AreLamps.calls _ _ t408 t427 _ ?side1 ?side2 A28.out).mono ?_
          (case side1 => exact cU (Kd.R_reads' HO410.out).2.2)
          (case side2 => exact (Kd.R_reads' HO410.out).2.1)
          rintro e w36 ⟨rfl, hb⟩
          refine ⟨_, rfl, ?_⟩
          have n0_ := aM (Kd.R_below (rU HO410.out) hb)
          have n1_ := aM (Kd.R_below (rU HO420.out) hb)
          have n2_ := aM (Kd.R_below (rU HO424.out) hb)
          have n3_ := aM (blk_below (g := gb413) (o := .cells #[.slice Ao13 t408.length co13] 29 (0, 0)) (bU BK413.out) hb)
          have n4_ := aM (below_step (by repeat (first | (with_reducible first | exact HB.out | apply aL | apply dN | apply dR | refine sT ?_ GE413.out) | exact HB.out)) hb)
          clear HO410
          clear HO420
          clear HO424
          clear BK413
          clear HB
          have HO410 := n0_
          have HO420 := n1_
          have HO424 := n2_
          have BK413 := n3_
          have HB := n4_
          clear n0_ n1_ n2_ n3_ n4_
          (try clear hb)
          (try clear hb2)
          (try clear hk)
          (try clear hi)
          refine hK.out _ _ ((blk_cell BK413.out 0).trans rfl) (fun hHeld => ?_)
          clear hK K
          refine norm_ (a' := ?_) ?_ ?_
          rotate_left
          ·show Act.put _ (some 122) _ = _
           simp only [Act.put, List.setIfInBounds_toArray, List.set_cons_zero, List.set_cons_succ, i64_w, i32_w]
           rfl
          refine one_ (i := 28) (N := some 124) #[true, true, true, true, true, true, true, true, true, true, true, true, true, true, true, true, true, true, true, true, true, true, true, true, true, true, true, true, true, false, false, false, false, false, false, false, false, false, false] rfl rfl (one_of HT_.out (by kernel_rfl)) (by decide) (fun K hK => ?_)
          refine goes_ Tryd.func31 (by kernel_rfl) rfl #[.agg #[.slice Ao13 t408.length co13]] (by rfl) rfl rfl (by mA) ?_
          with_reducible refine (spec_AreLamps.calls _ _ t408 t428 _ ?side1 ?side2 A29.out).mono ?_
          (case side1 => exact cU (Kd.R_reads' HO410.out).2.2)
          (case side2 => exact (Kd.R_reads' HO410.out).2.1)
          rintro e w37 ⟨rfl, hb⟩
          refine ⟨_, rfl, ?_⟩
          have n0_ := aM (Kd.R_below (rU HO410.out) hb)
          have n1_ := aM (Kd.R_below (rU HO420.out) hb)
          have n2_ := aM (Kd.R_below (rU HO424.out) hb)
          have n3_ := aM (blk_below (g := gb413) (o := .cells #[.slice Ao13 t408.length co13] 29 (0, 0)) (bU BK413.out) hb)
          have n4_ := aM (below_step (by repeat (first | (with_reducible first | exact HB.out | apply aL | apply dN | apply dR | refine sT ?_ GE413.out) | exact HB.out)) hb)
          clear HO410
          clear HO420
          clear HO424
          clear BK413
          clear HB
          have HO410 := n0_
          have HO420 := n1_
          have HO424 := n2_
          have BK413 := n3_
          have HB := n4_
          clear n0_ n1_ n2_ n3_ n4_
          (try clear hb)
          (try clear hb2)
          (try clear hk)
          (try clear hi)
          refine hK.out _ _ ((blk_cell BK413.out 0).trans rfl) (fun hHeld => ?_)
          clear hK K
          refine norm_ (a' := ?_) ?_ ?_
          rotate_left
          ·show Act.put _ (some 124) _ = _
           simp only [Act.put, List.setIfInBounds_toArray, List.set_cons_zero, List.set_cons_succ, i64_w, i32_w]
           rfl
          pU 29 (some 125) #[true, true, true, true, true, true, true, true, true, true, true, true, true, true, true, true, true, true, true, true, true, true, true, true, true, true, true, true, true, true, false, false, false, false, false, false, false, false, false]
          rotate_left
          ·intro w'
           go_simp
           with_reducible rfl
          rotate_left
          ·simp only [Act.put, List.setIfInBounds_toArray, List.set_cons_zero, List.set_cons_succ, i64_w, i32_w]
           rfl
          pU 30 (some 126) #[true, true, true, true, true, true, true, true, true, true, true, true, true, true, true, true, true, true, true, true, true, true, true, true, true, true, true, true, true, true, true, false, false, false, false, false, false, false, false]
          rotate_left
          ·intro w'
           go_simp
           with_reducible rfl
          rotate_left
          ·simp only [Act.put, List.setIfInBounds_toArray, List.set_cons_zero, List.set_cons_succ, i64_w, i32_w]
           rfl
          pU 31 (some 127) #[true, true, true, true, true, true, true, true, true, true, true, true, true, true, true, true, true, true, true, true, true, true, true, true, true, true, true, true, true, true, true, true, false, false, false, false, false, false, false]
          rotate_left
          ·intro w'
           go_simp
           with_reducible rfl
          rotate_left
          ·simp only [Act.put, List.setIfInBounds_toArray, List.set_cons_zero, List.set_cons_succ, i64_w, i32_w]
           rfl
          pU 32 (some 128) #[true, true, true, true, true, true, true, true, true, true, true, true, true, true, true, true, true, true, true, true, true, true, true, true, true, true, true, true, true, true, true, true, true, false, false, false, false, false, false]
          rotate_left
          ·intro w'
           go_simp
           with_reducible rfl
          rotate_left
          ·simp only [Act.put, List.setIfInBounds_toArray, List.set_cons_zero, List.set_cons_succ, i64_w, i32_w]
           rfl
          pU 33 (some 129) #[true, true, true, true, true, true, true, true, true, true, true, true, true, true, true, true, true, true, true, true, true, true, true, true, true, true, true, true, true, true, true, true, true, true, false, false, false, false, false]
          rotate_left
          ·intro w'
           go_simp
           with_reducible rfl
          rotate_left
          ·simp only [Act.put, List.setIfInBounds_toArray, List.set_cons_zero, List.set_cons_succ, i64_w, i32_w]
           rfl
          refine take_ (i := 34) (N := some 130) (v := ?_) (a' := ?_) #[true, true, true, true, true, true, true, true, true, true, true, true, true, true, true, true, true, true, true, true, true, true, true, true, true, true, true, true, true, true, true, true, true, true, true, false, false, false, false] rfl rfl (take_ofW HT_.out HW_.out (by kernel_rfl)) (fun _ _ _ h => h) (Or.inl ⟨by rfl, ?_⟩) hHeld ?_ ?_
          rotate_left
          ·intro w' s0
           go_simp
           with_reducible rfl
          rotate_left
          ·simp only [Act.put, List.setIfInBounds_toArray, List.set_cons_zero, List.set_cons_succ, i64_w, i32_w]
           rfl
          refine one_ (i := 35) (N := some 131) #[true, true, true, true, true, true, true, true, true, true, true, true, true, true, true, true, true, true, true, true, true, true, true, true, true, true, true, true, true, true, true, true, true, true, true, true, false, false, false] rfl rfl (one_of HT_.out (by kernel_rfl)) (by decide) (fun K hK => ?_)
          refine goes_ Tryd.func30 (by kernel_rfl) rfl #[.agg #[.slice Ao13 t408.length co13]] (by rfl) rfl rfl (by mA) ?_
          with_reducible refine (impl_AreLamps.calls _ _ t408 t429 _ ?side1 ?side2 A32.out).mono ?_
          (case side1 => exact cU (Kd.R_reads' HO410.out).2.2)
          (case side2 => exact (Kd.R_reads' HO410.out).2.1)
          rintro e w38 ⟨rfl, hb⟩
          refine ⟨_, rfl, ?_⟩
          have n0_ := aM (Kd.R_below (rU HO410.out) hb)
          have n1_ := aM (Kd.R_below (rU HO420.out) hb)
          have n2_ := aM (Kd.R_below (rU HO424.out) hb)
          have n3_ := aM (blk_below (g := gb413) (o := .cells #[.slice Ao13 t408.length co13] 29 (0, 0)) (bU BK413.out) hb)
          have n4_ := aM (below_step (by repeat (first | (with_reducible first | exact HB.out | apply aL | apply dN | apply dR | refine sT ?_ GE413.out) | exact HB.out)) hb)
          clear HO410
          clear HO420
          clear HO424
          clear BK413
          clear HB
          have HO410 := n0_
          have HO420 := n1_
          have HO424 := n2_
          have BK413 := n3_
          have HB := n4_
          clear n0_ n1_ n2_ n3_ n4_
          (try clear hb)
          (try clear hb2)
          (try clear hk)
          (try clear hi)
          refine hK.out _ _ ((blk_cell BK413.out 0).trans rfl) (fun hHeld => ?_)
          clear hK K
          refine norm_ (a' := ?_) ?_ ?_
          rotate_left
          ·show Act.put _ (some 131) _ = _
           simp only [Act.put, List.setIfInBounds_toArray, List.set_cons_zero, List.set_cons_succ, i64_w, i32_w]
           rfl
          pU 36 (some 132) #[true, true, true, true, true, true, true, true, true, true, true, true, true, true, true, true, true, true, true, true, true, true, true, true, true, true, true, true, true, true, true, true, true, true, true, true, true, false, false]
          rotate_left
          ·intro w'
           go_simp
           with_reducible rfl
          rotate_left
          ·simp only [Act.put, List.setIfInBounds_toArray, List.set_cons_zero, List.set_cons_succ, i64_w, i32_w]
           rfl
          pU 37 (some 133) #[true, true, true, true, true, true, true, true, true, true, true, true, true, true, true, true, true, true, true, true, true, true, true, true, true, true, true, true, true, true, true, true, true, true, true, true, true, true, false]
          rotate_left
          ·intro w'
           go_simp
           with_reducible rfl
          rotate_left
          ·simp only [Act.put, List.setIfInBounds_toArray, List.set_cons_zero, List.set_cons_succ, i64_w, i32_w]
           rfl
          pU 38 (some 134) #[true, true, true, true, true, true, true, true, true, true, true, true, true, true, true, true, true, true, true, true, true, true, true, true, true, true, true, true, true, true, true, true, true, true, true, true, true, true, true]
          rotate_left
          ·intro w'
           go_simp
           with_reducible rfl
          rotate_left
          ·simp only [Act.put, List.setIfInBounds_toArray, List.set_cons_zero, List.set_cons_succ, i64_w, i32_w]
           rfl
          refine done_ (done_of HT_.out (by kernel_rfl)) ?_
          try go_wp2
          go_meet
          case rel => exact ⟨_, (!t429), (by rF), H', ⟨by first | omega | exact Nat.le_refl _⟩, ⟨by (rX); exact Kd.R_mono HO420.out (fun _ hk => trivial)⟩, ⟨by (rX); exact HO410.out⟩, ⟨by (with_reducible repeat (first | refine blk_drewN ?_ _ | refine blk_drew ?_ | refine blk_alloc ?_ _)); exact BK413.out⟩, ⟨by repeat (first | (with_reducible first | exact HB.out | apply aL | apply dN | apply dR | refine sT ?_ GE413.out) | exact HB.out)⟩⟩
         ·replace c31 := Bool.eq_false_iff.mpr c31
          subst c31
          rw [if_neg (show ¬ (false = true) by decide)] at H
          have H' := aM H
          clear H
          try go_wp2
          have n0_ := aM (Kd.R_drew HO410.out)
          have n1_ := aM (Kd.R_drew HO420.out)
          have n2_ := aM (Kd.R_drew HO424.out)
          have n3_ := aM (blk_drew BK413.out)
          have n4_ := aM (below_drew1 HB.out)
          clear HO410
          clear HO420
          clear HO424
          clear BK413
          clear HB
          have HO410 := n0_
          have HO420 := n1_
          have HO424 := n2_
          have BK413 := n3_
          have HB := n4_
          clear n0_ n1_ n2_ n3_ n4_
          obtain ⟨Ao40, co40, eo40⟩ := Kd.R_slice HO420.out
          (first | subst eo40 | (injection eo40 with f1_ f2_ f3_; have f4_ := f1_.symm; have f5_ := f3_.symm; clear f1_ f2_ f3_; subst f4_; subst f5_))
          obtain ⟨Ao41, co41, eo41⟩ := Kd.R_slice HO424.out
          (first | subst eo41 | (injection eo41 with f1_ f2_ f3_; have f4_ := f1_.symm; have f5_ := f3_.symm; clear f1_ f2_ f3_; subst f4_; subst f5_))
          refine start_ (n := 39) (S := fun w' => w'.cell? ⟨gb413, 0, none⟩ = some (.slice Ao13 t408.length co13)) (ds := []) #[false, false, false, false, false, false, false, false, false, false, false, false, false, false, false, false, false, false, false, false, false, false, false, false, false, false, false, false, false, false, false, false, false, false, false, false, false, false, false] (by kernel_rfl) rfl rfl ((blk_cell BK413.out 0).trans rfl) (fun hHeld => ?_); refine with_tabW laws_FnLampsTick.tab8 laws_FnLampsTick.bits8 (fun HT_ HW_ => ?_)
          generalize w21.drew = w39 at HO410 HO420 HO424 BK413 HB hHeld ⊢
          pU 0 (some 96) #[true, false, false, false, false, false, false, false, false, false, false, false, false, false, false, false, false, false, false, false, false, false, false, false, false, false, false, false, false, false, false, false, false, false, false, false, false, false, false]
          rotate_left
          ·intro w'
           go_simp
           with_reducible rfl
          rotate_left
          ·simp only [Act.put, List.setIfInBounds_toArray, List.set_cons_zero, List.set_cons_succ, i64_w, i32_w]
           rfl
          pU 1 (some 97) #[true, true, false, false, false, false, false, false, false, false, false, false, false, false, false, false, false, false, false, false, false, false, false, false, false, false, false, false, false, false, false, false, false, false, false, false, false, false, false]
          rotate_left
          ·intro w'
           go_simp
           with_reducible rfl
          rotate_left
          ·simp only [Act.put, List.setIfInBounds_toArray, List.set_cons_zero, List.set_cons_succ, i64_w, i32_w]
           rfl
          pU 2 (some 98) #[true, true, true, false, false, false, false, false, false, false, false, false, false, false, false, false, false, false, false, false, false, false, false, false, false, false, false, false, false, false, false, false, false, false, false, false, false, false, false]
          rotate_left
          ·intro w'
           go_simp
           with_reducible rfl
          rotate_left
          ·simp only [Act.put, List.setIfInBounds_toArray, List.set_cons_zero, List.set_cons_succ, i64_w, i32_w]
           rfl
          pU 3 (some 99) #[true, true, true, true, false, false, false, false, false, false, false, false, false, false, false, false, false, false, false, false, false, false, false, false, false, false, false, false, false, false, false, false, false, false, false, false, false, false, false]
          rotate_left
          ·intro w'
           go_simp
           with_reducible rfl
          rotate_left
          ·simp only [Act.put, List.setIfInBounds_toArray, List.set_cons_zero, List.set_cons_succ, i64_w, i32_w]
           rfl
          pU 4 (some 100) #[true, true, true, true, true, false, false, false, false, false, false, false, false, false, false, false, false, false, false, false, false, false, false, false, false, false, false, false, false, false, false, false, false, false, false, false, false, false, false]
          rotate_left
          ·intro w'
           go_simp
           with_reducible rfl
          rotate_left
          ·simp only [Act.put, List.setIfInBounds_toArray, List.set_cons_zero, List.set_cons_succ, i64_w, i32_w]
           rfl
          pU 5 (some 101) #[true, true, true, true, true, true, false, false, false, false, false, false, false, false, false, false, false, false, false, false, false, false, false, false, false, false, false, false, false, false, false, false, false, false, false, false, false, false, false]
          rotate_left
          ·intro w'
           go_simp
           with_reducible rfl
          rotate_left
          ·simp only [Act.put, List.setIfInBounds_toArray, List.set_cons_zero, List.set_cons_succ, i64_w, i32_w]
           rfl
          pU 6 (some 102) #[true, true, true, true, true, true, true, false, false, false, false, false, false, false, false, false, false, false, false, false, false, false, false, false, false, false, false, false, false, false, false, false, false, false, false, false, false, false, false]
          rotate_left
          ·intro w'
           go_simp
           with_reducible rfl
          rotate_left
          ·simp only [Act.put, List.setIfInBounds_toArray, List.set_cons_zero, List.set_cons_succ, i64_w, i32_w]
           rfl
          pU 7 (some 103) #[true, true, true, true, true, true, true, true, false, false, false, false, false, false, false, false, false, false, false, false, false, false, false, false, false, false, false, false, false, false, false, false, false, false, false, false, false, false, false]
          rotate_left
          ·intro w'
           go_simp
           with_reducible rfl
          rotate_left
          ·simp only [Act.put, List.setIfInBounds_toArray, List.set_cons_zero, List.set_cons_succ, i64_w, i32_w]
           rfl
          pU 8 (some 104) #[true, true, true, true, true, true, true, true, true, false, false, false, false, false, false, false, false, false, false, false, false, false, false, false, false, false, false, false, false, false, false, false, false, false, false, false, false, false, false]
          rotate_left
          ·intro w'
           go_simp
           with_reducible rfl
          rotate_left
          ·simp only [Act.put, List.setIfInBounds_toArray, List.set_cons_zero, List.set_cons_succ, i64_w, i32_w]
           rfl
          pU 9 (some 105) #[true, true, true, true, true, true, true, true, true, true, false, false, false, false, false, false, false, false, false, false, false, false, false, false, false, false, false, false, false, false, false, false, false, false, false, false, false, false, false]
          rotate_left
          ·intro w'
           go_simp
           with_reducible rfl
          rotate_left
          ·simp only [Act.put, List.setIfInBounds_toArray, List.set_cons_zero, List.set_cons_succ, i64_w, i32_w]
           rfl
          pU 10 (some 106) #[true, true, true, true, true, true, true, true, true, true, true, false, false, false, false, false, false, false, false, false, false, false, false, false, false, false, false, false, false, false, false, false, false, false, false, false, false, false, false]
          rotate_left
          ·intro w'
           go_simp
           with_reducible rfl
          rotate_left
          ·simp only [Act.put, List.setIfInBounds_toArray, List.set_cons_zero, List.set_cons_succ, i64_w, i32_w]
           rfl
          pU 11 (some 107) #[true, true, true, true, true, true, true, true, true, true, true, true, false, false, false, false, false, false, false, false, false, false, false, false, false, false, false, false, false, false, false, false, false, false, false, false, false, false, false]
          rotate_left
          ·intro w'
           go_simp
           with_reducible rfl
          rotate_left
          ·simp only [Act.put, List.setIfInBounds_toArray, List.set_cons_zero, List.set_cons_succ, i64_w, i32_w]
           rfl
          pU 12 (some 108) #[true, true, true, true, true, true, true, true, true, true, true, true, true, false, false, false, false, false, false, false, false, false, false, false, false, false, false, false, false, false, false, false, false, false, false, false, false, false, false]
          rotate_left
          ·intro w'
           go_simp
           with_reducible rfl
          rotate_left
          ·simp only [Act.put, List.setIfInBounds_toArray, List.set_cons_zero, List.set_cons_succ, i64_w, i32_w]
           rfl
          pU 13 (some 109) #[true, true, true, true, true, true, true, true, true, true, true, true, true, true, false, false, false, false, false, false, false, false, false, false, false, false, false, false, false, false, false, false, false, false, false, false, false, false, false]
          rotate_left
          ·intro w'
           go_simp
           with_reducible rfl
          rotate_left
          ·simp only [Act.put, List.setIfInBounds_toArray, List.set_cons_zero, List.set_cons_succ, i64_w, i32_w]
           rfl
          pU 14 (some 110) #[true, true, true, true, true, true, true, true, true, true, true, true, true, true, true, false, false, false, false, false, false, false, false, false, false, false, false, false, false, false, false, false, false, false, false, false, false, false, false]
          rotate_left
          ·intro w'
           go_simp
           with_reducible rfl
          rotate_left
          ·simp only [Act.put, List.setIfInBounds_toArray, List.set_cons_zero, List.set_cons_succ, i64_w, i32_w]
           rfl
          pU 15 (some 111) #[true, true, true, true, true, true, true, true, true, true, true, true, true, true, true, true, false, false, false, false, false, false, false, false, false, false, false, false, false, false, false, false, false, false, false, false, false, false, false]
          rotate_left
          ·intro w'
           go_simp
           with_reducible rfl
          rotate_left
          ·simp only [Act.put, List.setIfInBounds_toArray, List.set_cons_zero, List.set_cons_succ, i64_w, i32_w]
           rfl
          refine one_ (i := 16) (N := some 112) #[true, true, true, true, true, true, true, true, true, true, true, true, true, true, true, true, true, false, false, false, false, false, false, false, false, false, false, false, false, false, false, false, false, false, false, false, false, false, false] rfl rfl (one_of HT_.out (by kernel_rfl)) (by decide) (fun K hK => ?_)
          refine goes_ Tryd.func29 (by kernel_rfl) rfl #[.slice Ao40 t418.length co40, .slice Ao41 t422.length co41] (by rfl) rfl rfl (by mA) ?_
          with_reducible refine (laws_xSame.calls k _ _ t418 _ _ t422 true _ ?side1 ?side2 ?side3 ?side4 A25.out).mono ?_
          (case side1 => exact cU (Kd.R_reads' HO420.out).2.2)
          (case side2 => exact (Kd.R_reads' HO420.out).2.1)
          (case side3 => exact cU (Kd.R_reads' HO424.out).2.2)
          (case side4 => exact (Kd.R_reads' HO424.out).2.1)
          rintro e w' ⟨rfl, ⟨nd, rfl⟩⟩
          refine ⟨_, rfl, ?_⟩
          refine hK.out _ _ ((blk_cell BK413.out 0).trans rfl) (fun hHeld => ?_)
          clear hK K
          refine norm_ (a' := ?_) ?_ ?_
          rotate_left
          ·show Act.put _ (some 112) _ = _
           simp only [Act.put, List.setIfInBounds_toArray, List.set_cons_zero, List.set_cons_succ, i64_w, i32_w]
           rfl
          pU 17 (some 113) #[true, true, true, true, true, true, true, true, true, true, true, true, true, true, true, true, true, true, false, false, false, false, false, false, false, false, false, false, false, false, false, false, false, false, false, false, false, false, false]
          rotate_left
          ·intro w'
           go_simp
           with_reducible rfl
          rotate_left
          ·simp only [Act.put, List.setIfInBounds_toArray, List.set_cons_zero, List.set_cons_succ, i64_w, i32_w]
           rfl
          pU 18 (some 114) #[true, true, true, true, true, true, true, true, true, true, true, true, true, true, true, true, true, true, true, false, false, false, false, false, false, false, false, false, false, false, false, false, false, false, false, false, false, false, false]
          rotate_left
          ·intro w'
           go_simp
           with_reducible rfl
          rotate_left
          ·simp only [Act.put, List.setIfInBounds_toArray, List.set_cons_zero, List.set_cons_succ, i64_w, i32_w]
           rfl
          pU 19 (some 115) #[true, true, true, true, true, true, true, true, true, true, true, true, true, true, true, true, true, true, true, true, false, false, false, false, false, false, false, false, false, false, false, false, false, false, false, false, false, false, false]
          rotate_left
          ·intro w'
           go_simp
           with_reducible rfl
          rotate_left
          ·simp only [Act.put, List.setIfInBounds_toArray, List.set_cons_zero, List.set_cons_succ, i64_w, i32_w]
           rfl
          pU 20 (some 116) #[true, true, true, true, true, true, true, true, true, true, true, true, true, true, true, true, true, true, true, true, true, false, false, false, false, false, false, false, false, false, false, false, false, false, false, false, false, false, false]
          rotate_left
          ·intro w'
           go_simp
           with_reducible rfl
          rotate_left
          ·simp only [Act.put, List.setIfInBounds_toArray, List.set_cons_zero, List.set_cons_succ, i64_w, i32_w]
           rfl
          pU 21 (some 117) #[true, true, true, true, true, true, true, true, true, true, true, true, true, true, true, true, true, true, true, true, true, true, false, false, false, false, false, false, false, false, false, false, false, false, false, false, false, false, false]
          rotate_left
          ·intro w'
           go_simp
           with_reducible rfl
          rotate_left
          ·simp only [Act.put, List.setIfInBounds_toArray, List.set_cons_zero, List.set_cons_succ, i64_w, i32_w]
           rfl
          pU 22 (some 118) #[true, true, true, true, true, true, true, true, true, true, true, true, true, true, true, true, true, true, true, true, true, true, true, false, false, false, false, false, false, false, false, false, false, false, false, false, false, false, false]
          rotate_left
          ·intro w'
           go_simp
           with_reducible rfl
          rotate_left
          ·simp only [Act.put, List.setIfInBounds_toArray, List.set_cons_zero, List.set_cons_succ, i64_w, i32_w]
           rfl
          pU 23 (some 119) #[true, true, true, true, true, true, true, true, true, true, true, true, true, true, true, true, true, true, true, true, true, true, true, true, false, false, false, false, false, false, false, false, false, false, false, false, false, false, false]
          rotate_left
          ·intro w'
           go_simp
           with_reducible rfl
          rotate_left
          ·simp only [Act.put, List.setIfInBounds_toArray, List.set_cons_zero, List.set_cons_succ, i64_w, i32_w]
           rfl
          pU 24 (some 120) #[true, true, true, true, true, true, true, true, true, true, true, true, true, true, true, true, true, true, true, true, true, true, true, true, true, false, false, false, false, false, false, false, false, false, false, false, false, false, false]
          rotate_left
          ·intro w'
           go_simp
           with_reducible rfl
          rotate_left
          ·simp only [Act.put, List.setIfInBounds_toArray, List.set_cons_zero, List.set_cons_succ, i64_w, i32_w]
           rfl
          refine take_ (i := 25) (N := some 121) (v := ?_) (a' := ?_) #[true, true, true, true, true, true, true, true, true, true, true, true, true, true, true, true, true, true, true, true, true, true, true, true, true, true, false, false, false, false, false, false, false, false, false, false, false, false, false] rfl rfl (take_ofW HT_.out HW_.out (by kernel_rfl)) (fun _ _ _ h => h) (Or.inl ⟨by rfl, ?_⟩) hHeld ?_ ?_
          rotate_left
          ·intro w' s0
           go_simp
           with_reducible rfl
          rotate_left
          ·simp only [Act.put, List.setIfInBounds_toArray, List.set_cons_zero, List.set_cons_succ, i64_w, i32_w]
           rfl
          refine take_ (i := 27) (N := some 123) (v := ?_) (a' := ?_) #[true, true, true, true, true, true, true, true, true, true, true, true, true, true, true, true, true, true, true, true, true, true, true, true, true, true, false, true, false, false, false, false, false, false, false, false, false, false, false] rfl rfl (take_ofW HT_.out HW_.out (by kernel_rfl)) (fun _ _ _ h => h) (Or.inl ⟨by rfl, ?_⟩) hHeld ?_ ?_
          rotate_left
          ·intro w' s0
           go_simp
           with_reducible rfl
          rotate_left
          ·simp only [Act.put, List.setIfInBounds_toArray, List.set_cons_zero, List.set_cons_succ, i64_w, i32_w]
           rfl
          refine one_ (i := 26) (N := some 122) #[true, true, true, true, true, true, true, true, true, true, true, true, true, true, true, true, true, true, true, true, true, true, true, true, true, true, true, true, false, false, false, false, false, false, false, false, false, false, false] rfl rfl (one_of HT_.out (by kernel_rfl)) (by decide) (fun K hK => ?_)
          refine goes_ Tryd.func30 (by kernel_rfl) rfl #[.agg #[.slice Ao13 t408.length co13]] (by rfl) rfl rfl (by mA) ?_
          with_reducible refine (impl_AreLamps.calls _ _ t408 t427 _ ?side1 ?side2 A28.out).mono ?_
          (case side1 => exact cU (Kd.R_reads' HO410.out).2.2)
          (case side2 => exact (Kd.R_reads' HO410.out).2.1)
          rintro e w42 ⟨rfl, hb⟩
          refine ⟨_, rfl, ?_⟩
          have n0_ := aM (Kd.R_below (rU HO410.out) hb)
          have n1_ := aM (Kd.R_below (rU HO420.out) hb)
          have n2_ := aM (Kd.R_below (rU HO424.out) hb)
          have n3_ := aM (blk_below (g := gb413) (o := .cells #[.slice Ao13 t408.length co13] 29 (0, 0)) (bU BK413.out) hb)
          have n4_ := aM (below_step (by repeat (first | (with_reducible first | exact HB.out | apply aL | apply dN | apply dR | refine sT ?_ GE413.out) | exact HB.out)) hb)
          clear HO410
          clear HO420
          clear HO424
          clear BK413
          clear HB
          have HO410 := n0_
          have HO420 := n1_
          have HO424 := n2_
          have BK413 := n3_
          have HB := n4_
          clear n0_ n1_ n2_ n3_ n4_
          (try clear hb)
          (try clear hb2)
          (try clear hk)
          (try clear hi)
          refine hK.out _ _ ((blk_cell BK413.out 0).trans rfl) (fun hHeld => ?_)
          clear hK K
          refine norm_ (a' := ?_) ?_ ?_
          rotate_left
          ·show Act.put _ (some 122) _ = _
           simp only [Act.put, List.setIfInBounds_toArray, List.set_cons_zero, List.set_cons_succ, i64_w, i32_w]
           rfl
          refine one_ (i := 28) (N := some 124) #[true, true, true, true, true, true, true, true, true, true, true, true, true, true, true, true, true, true, true, true, true, true, true, true, true, true, true, true, true, false, false, false, false, false, false, false, false, false, false] rfl rfl (one_of HT_.out (by kernel_rfl)) (by decide) (fun K hK => ?_)
          refine goes_ Tryd.func31 (by kernel_rfl) rfl #[.agg #[.slice Ao13 t408.length co13]] (by rfl) rfl rfl (by mA) ?_
          with_reducible refine (spec_AreLamps.calls _ _ t408 t428 _ ?side1 ?side2 A29.out).mono ?_
          (case side1 => exact cU (Kd.R_reads' HO410.out).2.2)
          (case side2 => exact (Kd.R_reads' HO410.out).2.1)
          rintro e w43 ⟨rfl, hb⟩
          refine ⟨_, rfl, ?_⟩
          have n0_ := aM (Kd.R_below (rU HO410.out) hb)
          have n1_ := aM (Kd.R_below (rU HO420.out) hb)
          have n2_ := aM (Kd.R_below (rU HO424.out) hb)
          have n3_ := aM (blk_below (g := gb413) (o := .cells #[.slice Ao13 t408.length co13] 29 (0, 0)) (bU BK413.out) hb)
          have n4_ := aM (below_step (by repeat (first | (with_reducible first | exact HB.out | apply aL | apply dN | apply dR | refine sT ?_ GE413.out) | exact HB.out)) hb)
          clear HO410
          clear HO420
          clear HO424
          clear BK413
          clear HB
          have HO410 := n0_
          have HO420 := n1_
          have HO424 := n2_
          have BK413 := n3_
          have HB := n4_
          clear n0_ n1_ n2_ n3_ n4_
          (try clear hb)
          (try clear hb2)
          (try clear hk)
          (try clear hi)
          refine hK.out _ _ ((blk_cell BK413.out 0).trans rfl) (fun hHeld => ?_)
          clear hK K
          refine norm_ (a' := ?_) ?_ ?_
          rotate_left
          ·show Act.put _ (some 124) _ = _
           simp only [Act.put, List.setIfInBounds_toArray, List.set_cons_zero, List.set_cons_succ, i64_w, i32_w]
           rfl
          pU 29 (some 125) #[true, true, true, true, true, true, true, true, true, true, true, true, true, true, true, true, true, true, true, true, true, true, true, true, true, true, true, true, true, true, false, false, false, false, false, false, false, false, false]
          rotate_left
          ·intro w'
           go_simp
           with_reducible rfl
          rotate_left
          ·simp only [Act.put, List.setIfInBounds_toArray, List.set_cons_zero, List.set_cons_succ, i64_w, i32_w]
           rfl
          pU 30 (some 126) #[true, true, true, true, true, true, true, true, true, true, true, true, true, true, true, true, true, true, true, true, true, true, true, true, true, true, true, true, true, true, true, false, false, false, false, false, false, false, false]
          rotate_left
          ·intro w'
           go_simp
           with_reducible rfl
          rotate_left
          ·simp only [Act.put, List.setIfInBounds_toArray, List.set_cons_zero, List.set_cons_succ, i64_w, i32_w]
           rfl
          pU 31 (some 127) #[true, true, true, true, true, true, true, true, true, true, true, true, true, true, true, true, true, true, true, true, true, true, true, true, true, true, true, true, true, true, true, true, false, false, false, false, false, false, false]
          rotate_left
          ·intro w'
           go_simp
           with_reducible rfl
          rotate_left
          ·simp only [Act.put, List.setIfInBounds_toArray, List.set_cons_zero, List.set_cons_succ, i64_w, i32_w]
           rfl
          pU 32 (some 128) #[true, true, true, true, true, true, true, true, true, true, true, true, true, true, true, true, true, true, true, true, true, true, true, true, true, true, true, true, true, true, true, true, true, false, false, false, false, false, false]
          rotate_left
          ·intro w'
           go_simp
           with_reducible rfl
          rotate_left
          ·simp only [Act.put, List.setIfInBounds_toArray, List.set_cons_zero, List.set_cons_succ, i64_w, i32_w]
           rfl
          pU 33 (some 129) #[true, true, true, true, true, true, true, true, true, true, true, true, true, true, true, true, true, true, true, true, true, true, true, true, true, true, true, true, true, true, true, true, true, true, false, false, false, false, false]
          rotate_left
          ·intro w'
           go_simp
           with_reducible rfl
          rotate_left
          ·simp only [Act.put, List.setIfInBounds_toArray, List.set_cons_zero, List.set_cons_succ, i64_w, i32_w]
           rfl
          refine pure_ (i := 34) (N := some 130) (v := undef) (a' := ?_) #[true, true, true, true, true, true, true, true, true, true, true, true, true, true, true, true, true, true, true, true, true, true, true, true, true, true, true, true, true, true, true, true, true, true, true, false, false, false, false] rfl rfl (any_of HT_.out (by kernel_rfl)) (fun _ _ _ h => h) (Or.inr ⟨by rfl, rfl⟩) ?_ ?_
          rotate_left
          ·simp only [Act.put, List.setIfInBounds_toArray, List.set_cons_zero, List.set_cons_succ, i64_w, i32_w]
           rfl
          refine pure_ (i := 35) (N := some 131) (v := undef) (a' := ?_) #[true, true, true, true, true, true, true, true, true, true, true, true, true, true, true, true, true, true, true, true, true, true, true, true, true, true, true, true, true, true, true, true, true, true, true, true, false, false, false] rfl rfl (any_of HT_.out (by kernel_rfl)) (fun _ _ _ h => h) (Or.inr ⟨by rfl, rfl⟩) ?_ ?_
          rotate_left
          ·simp only [Act.put, List.setIfInBounds_toArray, List.set_cons_zero, List.set_cons_succ, i64_w, i32_w]
           rfl
          refine pure_ (i := 36) (N := some 132) (v := undef) (a' := ?_) #[true, true, true, true, true, true, true, true, true, true, true, true, true, true, true, true, true, true, true, true, true, true, true, true, true, true, true, true, true, true, true, true, true, true, true, true, true, false, false] rfl rfl (any_of HT_.out (by kernel_rfl)) (fun _ _ _ h => h) (Or.inr ⟨by rfl, rfl⟩) ?_ ?_
          rotate_left
          ·simp only [Act.put, List.setIfInBounds_toArray, List.set_cons_zero, List.set_cons_succ, i64_w, i32_w]
           rfl
          pU 37 (some 133) #[true, true, true, true, true, true, true, true, true, true, true, true, true, true, true, true, true, true, true, true, true, true, true, true, true, true, true, true, true, true, true, true, true, true, true, true, true, true, false]
          rotate_left
          ·intro w'
           go_simp
           with_reducible rfl
          rotate_left
          ·simp only [Act.put, List.setIfInBounds_toArray, List.set_cons_zero, List.set_cons_succ, i64_w, i32_w]
           rfl
          pU 38 (some 134) #[true, true, true, true, true, true, true, true, true, true, true, true, true, true, true, true, true, true, true, true, true, true, true, true, true, true, true, true, true, true, true, true, true, true, true, true, true, true, true]
          rotate_left
          ·intro w'
           go_simp
           with_reducible rfl
          rotate_left
          ·simp only [Act.put, List.setIfInBounds_toArray, List.set_cons_zero, List.set_cons_succ, i64_w, i32_w]
           rfl
          refine done_ (done_of HT_.out (by kernel_rfl)) ?_
          try go_wp2
          go_meet
          case rel => exact ⟨_, (false), (by rF), H', ⟨by first | omega | exact Nat.le_refl _⟩, ⟨by (rX); exact Kd.R_mono HO420.out (fun _ hk => trivial)⟩, ⟨by (rX); exact HO410.out⟩, ⟨by (with_reducible repeat (first | refine blk_drewN ?_ _ | refine blk_drew ?_ | refine blk_alloc ?_ _)); exact BK413.out⟩, ⟨by repeat (first | (with_reducible first | exact HB.out | apply aL | apply dN | apply dR | refine sT ?_ GE413.out) | exact HB.out)⟩⟩
      ·replace c26 := Bool.eq_false_iff.mpr c26
       subst c26
       rw [if_neg (show ¬ (false = true) by decide)] at H
       exact absurd H (by simp)
    ·rw [if_neg c23] at H
     exact absurd H (by simp)
  case rest => as_aux_lemma =>
   clear HC10
   tc c2 p2 c3 c23 c26 c29 c30 c31
   obtain ⟨kq, x134_9, rfl, HA, HJ9, HO_12, HO_414000, BK413, HB⟩ := hcut
   cases kq with
   | zero => exact absurd HA.out (by simp [laws_FnLampsTick.j0])
   | succ kj9 =>
    have H := HA.out
    clear HA
    simp only [laws_FnLampsTick.j0] at H
    by_cases c44 : x134_9 = true
    ·subst c44
     rw [if_pos rfl] at H
     exact absurd H (by simp)
    ·replace c44 := Bool.eq_false_iff.mpr c44
     subst c44
     rw [if_neg (show ¬ (false = true) by decide)] at H
     have HC45 := aM H
     clear H
     go_upto_if 135 with (fail)
     go_cut [] from 135 to 135 (fun wc => ∃ (kq : Nat), Aside0 (laws_FnLampsTick.j6 kq l1 = some r) ∧ Aside0 (kq ≤ kj9) ∧ Aside0 (Kd.R Kd.string 9 wc w.heap.size (fun _ => True) (.slice Ao13 t408.length co13) t408) ∧ Aside0 (wc.heap[gb413]? = some (.cells #[(.slice Ao13 t408.length co13)] 29 (0, 0))) ∧ Aside0 (Below w.heap.size w wc))
     case first => as_aux_lemma =>
      have H := HC45.out
      clear HC45
      by_cases c46 : t415 = true
      ·subst c46
       rw [if_pos rfl] at H
       by_cases c47 : (t418.length : Int) = (t411.size : Int)
       ·rw [if_pos c47] at H
        have c47b0 : ((t418.length : Int) == (t411.size : Int)) = true := beq_iff_eq.mpr c47
        have c47b1 : ((t418.length : Int) != (t411.size : Int)) = false := bne_eq_false_iff_eq.mpr c47
        have c47b2 : (t418.length == t411.size) = true := by first | simpa using c47 | (simp at c47 ⊢; omega)
        clear c47
        (first | rw [c47b0] | (simp only [i64_w, i32_w]; rw [c47b0]) | skip)
        have HC48 := aM H
        clear H
        obtain ⟨Ao49, co49, eo49⟩ := Kd.R_slice HO_12.out
        subst eo49
        go_upto_if 142 with (fail)
        go_cut [] from 136 to 142 (fun wc => ∃ (kq : Nat) (x12_47 : List Int), Aside0 (laws_FnLampsTick.j4 kq l1 t411 t412 t414 x12_47 = some r) ∧ Aside0 (kq ≤ kj9) ∧ Aside0 (Kd.R (Kd.int .i64) 3 wc w.heap.size (fun _ => True) (.slice Ao49 t418.length co49) x12_47) ∧ Aside0 (Kd.R Kd.string 9 wc w.heap.size (fun _ => True) (.slice Ao13 t408.length co13) t408) ∧ Aside0 (wc.heap[gb413]? = some (.cells #[(.slice Ao13 t408.length co13)] 29 (0, 0))) ∧ Aside0 (Below w.heap.size w wc))
        case first => as_aux_lemma =>
         have H := HC48.out
         clear HC48
         by_cases c50 : t412 ≤ 20
         ·rw [if_pos c50] at H
          have c50b0 : decide (t412 ≤ 20) = true := decide_eq_true c50
          clear c50
          (first | rw [c50b0] | (simp only [i64_w, i32_w]; rw [c50b0]) | skip)
          by_cases c51 : 0 ≤ (t411.size : Int)
          ·rw [if_pos c51] at H
           have c51b0 := eq_true c51
           have c51b1 : decide (0 ≤ (t411.size : Int)) = true := decide_eq_true c51
           clear c51
           by_cases c52 : ((t411.size : Int) : Int).toNat ≤ 35184372088832
           ·rw [if_pos c52] at H
            have c52b0 := eq_true c52
            have c52b1 : decide (((t411.size : Int) : Int).toNat ≤ 35184372088832) = true := decide_eq_true c52
            clear c52
            obtain ⟨y430, hy430⟩ : ∃ y_ : List Int, y_ = (List.replicate ((t411.size : Int) : Int).toNat 0) := ⟨_, rfl⟩
            replace H : (laws_FnLampsTick.l0 kj9 l1 t411 t412 t414 t418 t411 y430 0 t408) = some r := by fH hy430
            have Ny430 := aM hy430
            clear hy430
            have H' := aM H
            clear H
            go_wp2_with (first | ((with_reducible refine gate_dst (N := 146) rfl ?_); (try (refine gate_guard (by rfl) ?_; dsimp only)); refine Kd.R_make (Kd.int .i64) _ 3 rfl (N := 146) rfl 46 _ _ rfl (t411.size : Int) rfl rfl Tryd.underlying46 (.int .i64 0) 8 info3 rfl (by decide) (by omega) 0 (ok := fun _ => True) (okp := fun _ => True) rfl (fun _ hk => hk) trivial (of_decide_eq_true (by first | (with_reducible assumption) | assumption)) (Nat.le_trans (Nat.mul_le_mul_right _ (of_decide_eq_true (by first | (with_reducible assumption) | assumption) : (t411.size : Int).toNat ≤ 35184372088832)) (by omega)) (Below.refl _ _) (Nat.le_refl _) ?_; intro v431 w53 ho54 hb hg_ hnew_; clear hg_ hnew_; (first | rw [← Ny430.out] at ho54 | (simp only [Int.reduceToNat] at ho54; rw [← Ny430.out] at ho54)); have n0_ := aM (Kd.R_elder' (rU HO_12.out) (Kd.R_base ho54) hb); have n1_ := aM (Kd.R_below (rU HO_414000.out) hb); have n2_ := aM (Kd.R_lower (Kd.R_new' ho54 (Kd.R_lt (rU HO_12.out))) (below_size (by repeat (first | (with_reducible first | exact HB.out | apply aL | apply dN | apply dR | refine sT ?_ GE413.out) | exact HB.out)))); have n3_ := aM (blk_below (g := gb413) (o := .cells #[.slice Ao13 t408.length co13] 29 (0, 0)) (bU BK413.out) hb); have n4_ := aM (below_step (by repeat (first | (with_reducible first | exact HB.out | apply aL | apply dN | apply dR | refine sT ?_ GE413.out) | exact HB.out)) hb); clear HO_12; clear HO_414000; clear BK413; clear HB; have HO_12 := n0_; have HO_414000 := n1_; have HO432 := n2_; have BK413 := n3_; have HB := n4_; clear n0_ n1_ n2_ n3_ n4_; clear hb ho54))
            go_loopg [16, 18] kj9 (fun kq v16 v18 w' => ∃ (x16_2 : ByteArray) (x17_2 : List Int) (x18_2 : Int), v16 = .string x16_2 ∧ v18 = .int .i64 x18_2 ∧ Aside0 (laws_FnLampsTick.l0 kq l1 t411 t412 t414 t418 x16_2 x17_2 x18_2 t408 = some r) ∧ Aside0 (kq ≤ kj9) ∧ Aside0 (Kd.R (Kd.int .i64) 3 w' w.heap.size (fun k_ => some k_ ≠ (v431 : Value).ownBlock) (.slice Ao49 t418.length co49) t418) ∧ Aside0 (Kd.R (Kd.int .i64) 3 w' w.heap.size (fun k_ => some k_ ≠ ((.slice Ao49 t418.length co49) : Value).ownBlock) v431 x17_2) ∧ Aside0 (Kd.R Kd.string 9 w' w.heap.size (fun _ => True) (.slice Ao13 t408.length co13) t408) ∧ Aside0 (w'.heap[gb413]? = some (.cells #[(.slice Ao13 t408.length co13)] 29 (0, 0))) ∧ Aside0 (Below w.heap.size w w'))
            case atStart => exact ⟨(t411), (y430), (0), (by rF), (by rF), H', ⟨Nat.le_refl _⟩, ⟨by (rX); exact Kd.R_mono HO_12.out (fun _ hk => hk.2)⟩, ⟨by (rX); exact Kd.R_mono HO432.out (fun _ hk => hk.2)⟩, ⟨by (rX); exact HO_414000.out⟩, ⟨by (with_reducible repeat (first | refine blk_drewN ?_ _ | refine blk_drew ?_ | refine blk_alloc ?_ _)); exact BK413.out⟩, ⟨by repeat (first | (with_reducible first | exact HB.out | apply aL | apply dN | apply dR | refine sT ?_ GE413.out) | exact HB.out)⟩⟩
            case round => as_aux_lemma =>
             clear H'
             tc c2 p2 c3 c4 c5 c23 c26 c29 c30 c31 c44 c46 c47 c47b0 c47b1 c47b2 c50 c50b0 c51 c51b0 c51b1 c52 c52b0 c52b1 p2
             obtain ⟨x16_2, x17_2, x18_2, rfl, rfl, HA, HK2, HO_12, HO_17, HO_414000, BK413, HB⟩ := hrel
             cases gk with
             | zero => exact absurd HA.out (by simp [laws_FnLampsTick.l0])
             | succ k2 =>
              have H := HA.out
              clear HA
              simp only [laws_FnLampsTick.l0] at H
              by_cases c55 : x18_2 < t412
              ·rw [if_pos c55] at H
               have c55b0 : decide (x18_2 < t412) = true := decide_eq_true c55
               clear c55
               replace H := Option.bind_eq_some_iff.mp H
               obtain ⟨⟨t434, t435⟩, A560, H⟩ := H
               dsimp only at H
               have A56 := aM A560
               clear A560
               have HC57 := aM H
               clear H
               have hcz58_0 : wr.cell? ⟨gb413, 0, none⟩ = some (.slice Ao13 t408.length co13) := (blk_cell BK413.out 0).trans rfl
               have hfz58_0 := blk_frozen BK413.out 0
               go_upto_region 20 with (first | ((with_reducible refine gate_callee (f := 32) rfl ?_); refine goesL_ (some 155) rfl rfl Tryd.func32 (by kernel_rfl) rfl #[.agg #[.slice Ao13 t408.length co13], .string x16_2] rfl (by mA) ?_; (with_reducible refine (impl_TickOnce.calls _ _ t408 x16_2 t434 t435 _ ?side1 ?side2 A56.out).mono ?_); (case side1 => exact cU (Kd.R_reads' HO_414000.out).2.2); (case side2 => exact (Kd.R_reads' HO_414000.out).2.1); rintro e w59 ⟨rfl, hb⟩; refine ⟨_, rfl, ?_⟩; have n0_ := aM (Kd.R_below (rU HO_12.out) hb); have n1_ := aM (Kd.R_below (rU HO_17.out) hb); have n2_ := aM (Kd.R_below (rU HO_414000.out) hb); have n3_ := aM (blk_below (g := gb413) (o := .cells #[.slice Ao13 t408.length co13] 29 (0, 0)) (bU BK413.out) hb); have n4_ := aM (below_step (by repeat (first | (with_reducible first | exact HB.out | apply aL | apply dN | apply dR | refine sT ?_ GE413.out) | exact HB.out)) hb); clear HO_12; clear HO_17; clear HO_414000; clear BK413; clear HB; have HO_12 := n0_; have HO_17 := n1_; have HO_414000 := n2_; have BK413 := n3_; have HB := n4_; clear n0_ n1_ n2_ n3_ n4_; cX))
               (try simp only [Act.put, List.setIfInBounds_toArray, List.set_cons_zero, List.set_cons_succ])
               go_cut [166] from 147 to 166 (fun v166 wc => ∃ (kq : Nat) (x166_56 : Bool), v166 = .bool x166_56 ∧ Aside0 (laws_FnLampsTick.j2 kq l1 t411 t412 t414 t418 x16_2 x17_2 x18_2 t434 x166_56 t408 = some r) ∧ Aside0 (kq ≤ k2) ∧ Aside0 (Kd.R (Kd.int .i64) 3 wc w.heap.size (fun k_ => some k_ ≠ (v431 : Value).ownBlock) (.slice Ao49 t418.length co49) t418) ∧ Aside0 (Kd.R (Kd.int .i64) 3 wc w.heap.size (fun k_ => some k_ ≠ ((.slice Ao49 t418.length co49) : Value).ownBlock) v431 x17_2) ∧ Aside0 (Kd.R Kd.string 9 wc w.heap.size (fun _ => True) (.slice Ao13 t408.length co13) t408) ∧ Aside0 (wc.heap[gb413]? = some (.cells #[(.slice Ao13 t408.length co13)] 29 (0, 0))) ∧ Aside0 (Below w.heap.size w wc))
               case first => as_aux_lemma =>
                have H := HC57.out
                clear HC57
                by_cases c60 : t435 = true
                ·subst c60
                 rw [if_pos rfl] at H
                 have H' := aM H
                 clear H
                 go_wp2
                 go_meet
                 case rel => exact ⟨_, (((t434.size : Int) != (x16_2.size : Int))), (by rF), H', ⟨by have := HJ9.out; have := HK2.out; first | omega | exact Nat.le_refl _⟩, ⟨by (rX); exact HO_12.out⟩, ⟨by (rX); exact HO_17.out⟩, ⟨by (rX); exact HO_414000.out⟩, ⟨by (with_reducible repeat (first | refine blk_drewN ?_ _ | refine blk_drew ?_ | refine blk_alloc ?_ _)); exact BK413.out⟩, ⟨by repeat (first | (with_reducible first | exact HB.out | apply aL | apply dN | apply dR | refine sT ?_ GE413.out) | exact HB.out)⟩⟩
                ·replace c60 := Bool.eq_false_iff.mpr c60
                 subst c60
                 rw [if_neg (show ¬ (false = true) by decide)] at H
                 exact absurd H (by simp)
               case rest => as_aux_lemma =>
                clear HC57
                tc c2 p2 c3 c4 c5 c6 c23 c26 c29 c30 c31 c32 c44 c46 c47 c47b0 c47b1 c47b2 c50 c50b0 c51 c51b0 c51b1 c52 c52b0 c52b1 c55 c55b0 c60 hcz58_0 hfz58_0 p2
                obtain ⟨kq, x166_56, rfl, HA, HJ56, HO_12, HO_17, HO_414000, BK413, HB⟩ := hcut
                cases kq with
                | zero => exact absurd HA.out (by simp [laws_FnLampsTick.j2])
                | succ kj56 =>
                 have H := HA.out
                 clear HA
                 simp only [laws_FnLampsTick.j2] at H
                 by_cases c61 : x166_56 = true
                 ·subst c61
                  rw [if_pos rfl] at H
                  exact absurd H (by simp)
                 ·replace c61 := Bool.eq_false_iff.mpr c61
                  subst c61
                  rw [if_neg (show ¬ (false = true) by decide)] at H
                  have H' := aM H
                  clear H
                  go_wp2
                  obtain ⟨KI168, hKq_, hKb_, hIq_, hBq_⟩ := rng_start HB.out t434
                  have hKB168 := aM hKb_
                  have hIq_ := aM hIq_
                  have HO_12 := aM (rng_R HO_12.out t434)
                  have HO_17 := aM (rng_R HO_17.out t434)
                  have HO_414000 := aM (rng_R HO_414000.out t434)
                  have hne168_BK413 := aM (rng_lt BK413.out hKq_)
                  have BK413 := aM (rng_B BK413.out t434)
                  have HB := aM hBq_
                  rw [← hKq_]
                  clear hKq_ hKb_ hBq_
                  go_loopg [] kj56 (fun kq w' => ∃ (x17_4 : List Int) (x168_4 : Int), Aside0 (0 ≤ x168_4) ∧ Aside0 (w'.heap[KI168]? = some (.stringIter t434 x168_4.toNat)) ∧ Aside0 (laws_FnLampsTick.l1 kq l1 t411 t412 t414 t418 x16_2 x17_4 x18_2 t434 t434 x168_4 t408 = some r) ∧ Aside0 (kq ≤ kj56) ∧ Aside0 (Kd.R (Kd.int .i64) 3 w' w.heap.size (fun k_ => some k_ ≠ (v431 : Value).ownBlock) (.slice Ao49 t418.length co49) t418) ∧ Aside0 (Kd.R (Kd.int .i64) 3 w' w.heap.size (fun k_ => some k_ ≠ ((.slice Ao49 t418.length co49) : Value).ownBlock) v431 x17_4) ∧ Aside0 (Kd.R Kd.string 9 w' w.heap.size (fun _ => True) (.slice Ao13 t408.length co13) t408) ∧ Aside0 (w'.heap[gb413]? = some (.cells #[(.slice Ao13 t408.length co13)] 29 (0, 0))) ∧ Aside0 (Below w.heap.size w w'))
                  case atStart => exact ⟨(x17_2), (0), ⟨Int.le_refl 0⟩, ⟨hIq_.out⟩, H', ⟨Nat.le_refl _⟩, ⟨by (rX); exact HO_12.out⟩, ⟨by (rX); exact HO_17.out⟩, ⟨by (rX); exact HO_414000.out⟩, ⟨by (with_reducible repeat (first | refine blk_drewN ?_ _ | refine blk_drew ?_ | refine blk_alloc ?_ _)); exact BK413.out⟩, ⟨by repeat (first | (with_reducible first | exact HB.out | apply aL | apply dN | apply dR | refine sT ?_ GE413.out) | exact HB.out)⟩⟩
                  case round => as_aux_lemma =>
                   clear H'
                   tc c2 p2 c3 c4 c5 c6 c23 c26 c29 c30 c31 c32 c44 c46 c47 c47b0 c47b1 c47b2 c50 c50b0 c51 c51b0 c51b1 c52 c52b0 c52b1 c55 c55b0 c60 c61 hcz58_0 hfz58_0 p2
                   obtain ⟨x17_4, x168_4, h0I168, HI168, HA, HK4, HO_12, HO_17, HO_414000, BK413, HB⟩ := hrel
                   cases gk with
                   | zero => exact absurd HA.out (by simp [laws_FnLampsTick.l1])
                   | succ k4 =>
                    have H := HA.out
                    clear HA
                    simp only [laws_FnLampsTick.l1] at H
                    by_cases c62 : x168_4 < (t434.size : Int)
                    ·rw [if_pos c62] at H
                     have c62b0 : decide (x168_4 < (t434.size : Int)) = true := decide_eq_true c62
                     clear c62
                     by_cases c63 : 0 ≤ x168_4
                     ·rw [if_pos c63] at H
                      have c63b0 : decide (0 ≤ x168_4) = true := decide_eq_true c63
                      clear c63
                      by_cases c65 : (bt t434 x168_4) < 128
                      ·rw [if_pos c65] at H
                       have c65b0 : decide ((bt t434 x168_4) < 128) = true := decide_eq_true c65
                       clear c65
                       by_cases c66 : x168_4 < 1000000000
                       ·rw [if_pos c66] at H
                        have c66b0 : decide (x168_4 < 1000000000) = true := decide_eq_true c66
                        clear c66
                        by_cases c67 : x168_4 < (t434.size : Int)
                        ·rw [if_pos c67] at H
                         have c67b0 : decide (x168_4 < (t434.size : Int)) = true := decide_eq_true c67
                         clear c67
                         by_cases c69 : x168_4 < (x16_2.size : Int)
                         ·rw [if_pos c69] at H
                          have c69b0 : decide (x168_4 < (x16_2.size : Int)) = true := decide_eq_true c69
                          clear c69
                          by_cases c71 : (bt t434 x168_4) = (bt x16_2 x168_4)
                          ·rw [if_pos c71] at H
                           have c71b0 : ((bt t434 x168_4) == (bt x16_2 x168_4)) = true := beq_iff_eq.mpr c71
                           have c71b1 : ((bt t434 x168_4) != (bt x16_2 x168_4)) = false := bne_eq_false_iff_eq.mpr c71
                           clear c71
                           have H' := aM H
                           clear H
                           have p64 : 0 ≤ (x168_4 : Int) := of_decide_eq_true (by first | (with_reducible assumption) | assumption)
                           have q64 : x168_4 < (t434.size : Int) := of_decide_eq_true (by first | (with_reducible assumption) | assumption)
                           have hx64 := bt_at t434 x168_4
                           replace p64 := eq_true p64
                           replace q64 := eq_true q64
                           have hltI_ : x168_4 < (t434.size : Int) := of_decide_eq_true (by assumption)
                           have hbtI_ : bt t434 x168_4 < 128 := of_decide_eq_true (by assumption)
                           have hwI168 := aM (show wrap64 (x168_4 + 1) = x168_4 + 1 from by have h9_ : x168_4 < 1000000000 := of_decide_eq_true (by assumption); have h8_ := h0I168.out; unfold wrap64; omega)
                           obtain ⟨rn_, hnext⟩ := rng_next (P := Tryd.prog) HI168.out h0I168.out hltI_ hbtI_
                           clear hltI_ hbtI_
                           have nI_ := aM (rng_at (p' := (x168_4 + 1).toNat) HI168.out)
                           have nHO_12_ := aM (R_iter (p' := (x168_4 + 1).toNat) HO_12.out HI168.out)
                           have nHO_17_ := aM (R_iter (p' := (x168_4 + 1).toNat) HO_17.out HI168.out)
                           have nHO_414000_ := aM (R_iter (p' := (x168_4 + 1).toNat) HO_414000.out HI168.out)
                           have nBK413_ := aM (rng_other (s := t434) (p := (x168_4 + 1).toNat) BK413.out hne168_BK413.out)
                           have nHB_ := aM (rng_below (s := t434) (p := (x168_4 + 1).toNat) HB.out hKB168.out)
                           clear HI168 HO_12 HO_17 HO_414000 BK413 HB
                           have HI168 := nI_
                           have HO_12 := nHO_12_
                           have HO_17 := nHO_17_
                           have HO_414000 := nHO_414000_
                           have BK413 := nBK413_
                           have HB := nHB_
                           clear nI_ nHO_12_ nHO_17_ nHO_414000_ nBK413_ nHB_
                           generalize wr.iterAt KI168 t434 (x168_4 + 1).toNat = wr at hnext HI168 HO_12 HO_17 HO_414000 BK413 HB
                           try go_wp2
                           try clear hnext
                           have n0_ := aM (Kd.R_drew HO_12.out)
                           have n1_ := aM (Kd.R_drew HO_17.out)
                           have n2_ := aM (Kd.R_drew HO_414000.out)
                           have n3_ := aM (blk_drew BK413.out)
                           have n168i_ := aM (blk_drew HI168.out)
                           have n4_ := aM (below_drew1 HB.out)
                           clear HO_12
                           clear HO_17
                           clear HO_414000
                           clear BK413
                           clear HI168
                           clear HB
                           have HO_12 := n0_
                           have HO_17 := n1_
                           have HO_414000 := n2_
                           have BK413 := n3_
                           have HI168 := n168i_
                           have HB := n4_
                           clear n0_ n1_ n2_ n3_ n4_ n168i_
                           have p68 : 0 ≤ (x168_4 : Int) := of_decide_eq_true (by first | (with_reducible assumption) | assumption)
                           have q68 : x168_4 < (t434.size : Int) := of_decide_eq_true (by first | (with_reducible assumption) | assumption)
                           have hx68 := bt_at t434 x168_4
                           replace p68 := eq_true p68
                           replace q68 := eq_true q68
                           have p70 : 0 ≤ (x168_4 : Int) := of_decide_eq_true (by first | (with_reducible assumption) | assumption)
                           have q70 : x168_4 < (x16_2.size : Int) := of_decide_eq_true (by first | (with_reducible assumption) | assumption)
                           have hx70 := bt_at x16_2 x168_4
                           replace p70 := eq_true p70
                           replace q70 := eq_true q70
                           refine start_ (n := 7) (S := fun w' => True) (ds := []) #[false, false, false, false, false, false, false] (by kernel_rfl) rfl rfl trivial (fun hHeld => ?_)
                           generalize wr.drew = w72 at HO_12 HO_17 HO_414000 BK413 HI168 HB hHeld ⊢
                           refine pure_ (i := 0) (N := some 172) (v := ?_) (a' := ?_) #[true, false, false, false, false, false, false] rfl rfl (by kernel_rfl) (fun _ _ _ h => h) (Or.inl ⟨by rfl, ?_⟩) ?_ ?_
                           rotate_left
                           ·intro w'
                            go_simp
                            with_reducible rfl
                           rotate_left
                           ·simp only [Act.put, List.setIfInBounds_toArray, List.set_cons_zero, List.set_cons_succ, i64_w, i32_w]
                            rfl
                           refine pure_ (i := 1) (N := some 173) (v := ?_) (a' := ?_) #[true, true, false, false, false, false, false] rfl rfl (by kernel_rfl) (fun _ _ _ h => h) (Or.inl ⟨by rfl, ?_⟩) ?_ ?_
                           rotate_left
                           ·intro w'
                            go_simp
                            with_reducible rfl
                           rotate_left
                           ·simp only [Act.put, List.setIfInBounds_toArray, List.set_cons_zero, List.set_cons_succ, i64_w, i32_w]
                            rfl
                           refine pure_ (i := 3) (N := some 175) (v := ?_) (a' := ?_) #[true, true, false, true, false, false, false] rfl rfl (by kernel_rfl) (fun _ _ _ h => h) (Or.inl ⟨by rfl, ?_⟩) ?_ ?_
                           rotate_left
                           ·intro w'
                            go_simp
                            with_reducible rfl
                           rotate_left
                           ·simp only [Act.put, List.setIfInBounds_toArray, List.set_cons_zero, List.set_cons_succ, i64_w, i32_w]
                            rfl
                           refine pure_ (i := 4) (N := some 176) (v := ?_) (a' := ?_) #[true, true, false, true, true, false, false] rfl rfl (by kernel_rfl) (fun _ _ _ h => h) (Or.inl ⟨by rfl, ?_⟩) ?_ ?_
                           rotate_left
                           ·intro w'
                            go_simp
                            with_reducible rfl
                           rotate_left
                           ·simp only [Act.put, List.setIfInBounds_toArray, List.set_cons_zero, List.set_cons_succ, i64_w, i32_w]
                            rfl
                           refine take_ (i := 2) (N := some 174) (v := ?_) (a' := ?_) #[true, true, true, true, true, false, false] rfl rfl (by kernel_rfl) (fun _ _ _ h => h) (Or.inl ⟨by rfl, ?_⟩) hHeld ?_ ?_
                           rotate_left
                           ·intro w' _
                            go_simp
                            with_reducible rfl
                           rotate_left
                           ·simp only [Act.put, List.setIfInBounds_toArray, List.set_cons_zero, List.set_cons_succ, i64_w, i32_w]
                            rfl
                           refine take_ (i := 5) (N := some 177) (v := ?_) (a' := ?_) #[true, true, true, true, true, true, false] rfl rfl (by kernel_rfl) (fun _ _ _ h => h) (Or.inl ⟨by rfl, ?_⟩) hHeld ?_ ?_
                           rotate_left
                           ·intro w' _
                            go_simp
                            with_reducible rfl
                           rotate_left
                           ·simp only [Act.put, List.setIfInBounds_toArray, List.set_cons_zero, List.set_cons_succ, i64_w, i32_w]
                            rfl
                           refine pure_ (i := 6) (N := some 178) (v := ?_) (a' := ?_) #[true, true, true, true, true, true, true] rfl rfl (by kernel_rfl) (fun _ _ _ h => h) (Or.inl ⟨by rfl, ?_⟩) ?_ ?_
                           rotate_left
                           ·intro w'
                            go_simp
                            with_reducible rfl
                           rotate_left
                           ·simp only [Act.put, List.setIfInBounds_toArray, List.set_cons_zero, List.set_cons_succ, i64_w, i32_w]
                            rfl
                           refine done_ (by kernel_rfl) ?_
                           try go_wp2
                           go_roundg k4
                           case measure => have := HJ9.out; have := HK2.out; have := HJ56.out; have := HK4.out; omega
                           case rel => exact ⟨(x17_4), (wrap64 (x168_4 + 1)), ⟨by rw [hwI168.out]; have h8_ := h0I168.out; omega⟩, ⟨by rw [hwI168.out]; (with_reducible repeat (first | refine blk_drewN ?_ _ | refine blk_drew ?_ | refine blk_alloc ?_ _)); exact HI168.out⟩, H', ⟨by have := HJ9.out; have := HK2.out; have := HJ56.out; have := HK4.out; omega⟩, ⟨by (rX); exact HO_12.out⟩, ⟨by (rX); exact HO_17.out⟩, ⟨by (rX); exact HO_414000.out⟩, ⟨by (with_reducible repeat (first | refine blk_drewN ?_ _ | refine blk_drew ?_ | refine blk_alloc ?_ _)); exact BK413.out⟩, ⟨by repeat (first | (with_reducible first | exact HB.out | apply aL | apply dN | apply dR | refine sT ?_ GE413.out) | exact HB.out)⟩⟩
                          ·rw [if_neg c71] at H
                           have c71b0 : ((bt t434 x168_4) == (bt x16_2 x168_4)) = false := beq_eq_false_iff_ne.mpr c71
                           have c71b1 : ((bt t434 x168_4) != (bt x16_2 x168_4)) = true := bne_iff_ne.mpr c71
                           by_cases c73 : x168_4 < (x17_4.length : Int)
                           ·rw [if_pos c73] at H
                            have c73b0 : decide (x168_4 < (x17_4.length : Int)) = true := decide_eq_true c73
                            clear c73
                            obtain ⟨y437, hy437⟩ : ∃ y_ : List Int, y_ = (x17_4.set (x168_4 : Int).toNat (wrap64 ((rd x17_4 x168_4) + 1))) := ⟨_, rfl⟩
                            replace H : (laws_FnLampsTick.l1 k4 l1 t411 t412 t414 t418 x16_2 y437 x18_2 t434 t434 (wrap64 (x168_4 + 1)) t408) = some r := by fH hy437
                            have Ny437 := aM hy437
                            clear hy437
                            have H' := aM H
                            clear H
                            have p64 : 0 ≤ (x168_4 : Int) := of_decide_eq_true (by first | (with_reducible assumption) | assumption)
                            have q64 : x168_4 < (t434.size : Int) := of_decide_eq_true (by first | (with_reducible assumption) | assumption)
                            have hx64 := bt_at t434 x168_4
                            replace p64 := eq_true p64
                            replace q64 := eq_true q64
                            have hltI_ : x168_4 < (t434.size : Int) := of_decide_eq_true (by assumption)
                            have hbtI_ : bt t434 x168_4 < 128 := of_decide_eq_true (by assumption)
                            have hwI168 := aM (show wrap64 (x168_4 + 1) = x168_4 + 1 from by have h9_ : x168_4 < 1000000000 := of_decide_eq_true (by assumption); have h8_ := h0I168.out; unfold wrap64; omega)
                            obtain ⟨rn_, hnext⟩ := rng_next (P := Tryd.prog) HI168.out h0I168.out hltI_ hbtI_
                            clear hltI_ hbtI_
                            have nI_ := aM (rng_at (p' := (x168_4 + 1).toNat) HI168.out)
                            have nHO_12_ := aM (R_iter (p' := (x168_4 + 1).toNat) HO_12.out HI168.out)
                            have nHO_17_ := aM (R_iter (p' := (x168_4 + 1).toNat) HO_17.out HI168.out)
                            have nHO_414000_ := aM (R_iter (p' := (x168_4 + 1).toNat) HO_414000.out HI168.out)
                            have nBK413_ := aM (rng_other (s := t434) (p := (x168_4 + 1).toNat) BK413.out hne168_BK413.out)
                            have nHB_ := aM (rng_below (s := t434) (p := (x168_4 + 1).toNat) HB.out hKB168.out)
                            clear HI168 HO_12 HO_17 HO_414000 BK413 HB
                            have HI168 := nI_
                            have HO_12 := nHO_12_
                            have HO_17 := nHO_17_
                            have HO_414000 := nHO_414000_
                            have BK413 := nBK413_
                            have HB := nHB_
                            clear nI_ nHO_12_ nHO_17_ nHO_414000_ nBK413_ nHB_
                            generalize wr.iterAt KI168 t434 (x168_4 + 1).toNat = wr at hnext HI168 HO_12 HO_17 HO_414000 BK413 HB
                            try go_wp2
                            try clear hnext
                            have n0_ := aM (Kd.R_drew HO_12.out)
                            have n1_ := aM (Kd.R_drew HO_17.out)
                            have n2_ := aM (Kd.R_drew HO_414000.out)
                            have n3_ := aM (blk_drew BK413.out)
                            have n168i_ := aM (blk_drew HI168.out)
                            have n4_ := aM (below_drew1 HB.out)
                            clear HO_12
                            clear HO_17
                            clear HO_414000
                            clear BK413
                            clear HI168
                            clear HB
                            have HO_12 := n0_
                            have HO_17 := n1_
                            have HO_414000 := n2_
                            have BK413 := n3_
                            have HI168 := n168i_
                            have HB := n4_
                            clear n0_ n1_ n2_ n3_ n4_ n168i_
                            have p68 : 0 ≤ (x168_4 : Int) := of_decide_eq_true (by first | (with_reducible assumption) | assumption)
                            have q68 : x168_4 < (t434.size : Int) := of_decide_eq_true (by first | (with_reducible assumption) | assumption)
                            have hx68 := bt_at t434 x168_4
                            replace p68 := eq_true p68
                            replace q68 := eq_true q68
                            have p70 : 0 ≤ (x168_4 : Int) := of_decide_eq_true (by first | (with_reducible assumption) | assumption)
                            have q70 : x168_4 < (x16_2.size : Int) := of_decide_eq_true (by first | (with_reducible assumption) | assumption)
                            have hx70 := bt_at x16_2 x168_4
                            replace p70 := eq_true p70
                            replace q70 := eq_true q70
                            refine start_ (n := 7) (S := fun w' => True) (ds := []) #[false, false, false, false, false, false, false] (by kernel_rfl) rfl rfl trivial (fun hHeld => ?_)
                            generalize wr.drew = w75 at HO_12 HO_17 HO_414000 BK413 HI168 HB hHeld ⊢
                            refine pure_ (i := 0) (N := some 172) (v := ?_) (a' := ?_) #[true, false, false, false, false, false, false] rfl rfl (by kernel_rfl) (fun _ _ _ h => h) (Or.inl ⟨by rfl, ?_⟩) ?_ ?_
                            rotate_left
                            ·intro w'
                             go_simp
                             with_reducible rfl
                            rotate_left
                            ·simp only [Act.put, List.setIfInBounds_toArray, List.set_cons_zero, List.set_cons_succ, i64_w, i32_w]
                             rfl
                            refine pure_ (i := 1) (N := some 173) (v := ?_) (a' := ?_) #[true, true, false, false, false, false, false] rfl rfl (by kernel_rfl) (fun _ _ _ h => h) (Or.inl ⟨by rfl, ?_⟩) ?_ ?_
                            rotate_left
                            ·intro w'
                             go_simp
                             with_reducible rfl
                            rotate_left
                            ·simp only [Act.put, List.setIfInBounds_toArray, List.set_cons_zero, List.set_cons_succ, i64_w, i32_w]
                             rfl
                            refine pure_ (i := 3) (N := some 175) (v := ?_) (a' := ?_) #[true, true, false, true, false, false, false] rfl rfl (by kernel_rfl) (fun _ _ _ h => h) (Or.inl ⟨by rfl, ?_⟩) ?_ ?_
                            rotate_left
                            ·intro w'
                             go_simp
                             with_reducible rfl
                            rotate_left
                            ·simp only [Act.put, List.setIfInBounds_toArray, List.set_cons_zero, List.set_cons_succ, i64_w, i32_w]
                             rfl
                            refine pure_ (i := 4) (N := some 176) (v := ?_) (a' := ?_) #[true, true, false, true, true, false, false] rfl rfl (by kernel_rfl) (fun _ _ _ h => h) (Or.inl ⟨by rfl, ?_⟩) ?_ ?_
                            rotate_left
                            ·intro w'
                             go_simp
                             with_reducible rfl
                            rotate_left
                            ·simp only [Act.put, List.setIfInBounds_toArray, List.set_cons_zero, List.set_cons_succ, i64_w, i32_w]
                             rfl
                            refine take_ (i := 2) (N := some 174) (v := ?_) (a' := ?_) #[true, true, true, true, true, false, false] rfl rfl (by kernel_rfl) (fun _ _ _ h => h) (Or.inl ⟨by rfl, ?_⟩) hHeld ?_ ?_
                            rotate_left
                            ·intro w' _
                             go_simp
                             with_reducible rfl
                            rotate_left
                            ·simp only [Act.put, List.setIfInBounds_toArray, List.set_cons_zero, List.set_cons_succ, i64_w, i32_w]
                             rfl
                            refine take_ (i := 5) (N := some 177) (v := ?_) (a' := ?_) #[true, true, true, true, true, true, false] rfl rfl (by kernel_rfl) (fun _ _ _ h => h) (Or.inl ⟨by rfl, ?_⟩) hHeld ?_ ?_
                            rotate_left
                            ·intro w' _
                             go_simp
                             with_reducible rfl
                            rotate_left
                            ·simp only [Act.put, List.setIfInBounds_toArray, List.set_cons_zero, List.set_cons_succ, i64_w, i32_w]
                             rfl
                            refine pure_ (i := 6) (N := some 178) (v := ?_) (a' := ?_) #[true, true, true, true, true, true, true] rfl rfl (by kernel_rfl) (fun _ _ _ h => h) (Or.inl ⟨by rfl, ?_⟩) ?_ ?_
                            rotate_left
                            ·intro w'
                             go_simp
                             with_reducible rfl
                            rotate_left
                            ·simp only [Act.put, List.setIfInBounds_toArray, List.set_cons_zero, List.set_cons_succ, i64_w, i32_w]
                             rfl
                            refine done_ (by kernel_rfl) ?_
                            obtain ⟨Ao76, co76, eo76⟩ := Kd.R_slice HO_17.out
                            subst eo76
                            have p436 : 0 ≤ (x168_4 : Int) := of_decide_eq_true (by first | (with_reducible assumption) | assumption)
                            have q436 : x168_4 < (x17_4.length : Int) := of_decide_eq_true (by first | (with_reducible assumption) | assumption)
                            obtain ⟨ad436, e436, hx436_0⟩ := Kd.at_int (Kd.R_reads' HO_17.out).2.2 x168_4 p436 q436
                            cases e436
                            replace p436 := eq_true p436
                            replace q436 := eq_true q436
                            have p74 : 0 ≤ (x168_4 : Int) := of_decide_eq_true (by first | (with_reducible assumption) | assumption)
                            have q74 : (x168_4 : Int) < ((x17_4.length : Int) : Int) := of_decide_eq_true (by first | (with_reducible assumption) | assumption)
                            obtain ⟨go74, co74, eo74, gb74, gl74, cl74, HG74⟩ := Kd.R_form HO_17.out (by omega)
                            (first | cases eo74 | (injection eo74 with ea_ en_ ec_; (first | subst ea_ | (injection ea_ with ea_; subst ea_)); subst ec_; clear en_))
                            have GB74 := aM gb74
                            have GG74 := aM HG74
                            clear gb74 gl74 HG74
                            (first | simp only [add_plain] at hx436_0 | skip)
                            obtain ⟨hx74_0, hf74_0⟩ := Kd.R_celln 0 HO_17.out (x168_4 : Int) p74 q74
                            replace p74 := eq_true p74
                            replace q74 := eq_true q74
                            obtain ⟨hy77_, hz77_⟩ := Kd.R_celln 0 HO_17.out (x168_4 : Int) (of_decide_eq_true (by first | (with_reducible assumption) | assumption)) (of_decide_eq_true (by first | (with_reducible assumption) | assumption))
                            have HP77 := Kd.R_putg HO_17.out (x168_4 : Int) (wrap64 ((rd x17_4 x168_4) + 1))
                            try go_wp2_with (first | ((with_reducible refine gate_store (t := 3) (p := 184) rfl ?_); refine store_event (t := 3) (p := 184) (v := ?vo_w78) (w1 := (w75.setCell ⟨go74, (x168_4 : Int).toNat, none⟩ (.int .i64 (wrap64 ((rd x17_4 x168_4) + 1))))) ?hg ?ho ?hn ?hr ?_; (case ho => rfl); (case hg => rfl); (case hn => rfl); (case hr => first | (go_simp; done) | (go_simp; rfl)); intro w78 hw; have hg : w75.grownBy w78 (some go74) := (by rw [hw]; exact HP77.2); have hp_ : Kd.R (Kd.int .i64) 3 w78 w.heap.size (fun k_ => some k_ ≠ (.slice Ao49 t418.length co49 : Value).ownBlock) (.slice (some ⟨go74, 0, none⟩) x17_4.length co76) y437 := (by rw [hw, Ny437.out]; exact HP77.1); clear HP77; have n0_ := aM (Kd.R_after (v := (.slice (some ⟨go74, 0, none⟩) x17_4.length co76)) (v1 := (.slice (some ⟨go74, 0, none⟩) x17_4.length co76)) (ok := (fun _ => True)) (rU (Kd.R_mono HO_12.out (fun _ hk => ⟨trivial, hk⟩))) hg (.inl rfl)); have n1_ := aM (hp_); have n2_ := aM (Kd.R_over' (v := (.slice (some ⟨go74, 0, none⟩) x17_4.length co76)) (rU HO_414000.out) (Kd.R_typed HO_17.out) (by decide) hg); have n3_ := aM (blk_grown (g := gb413) (o := .cells #[.slice Ao13 t408.length co13] 29 (0, 0)) (bU BK413.out) hg (Kd.R_ne HO_17.out BK413.out (by decide))); have n168i_ := aM (blk_grown (bU HI168.out) hg (rng_ne HO_17.out HI168.out)); have n4_ := aM ((by rw [hw]; exact below_set (HB.out) GB74.out : Below w.heap.size w w78)); clear HO_12; clear HO_17; clear HO_414000; clear BK413; clear HI168; clear HB; have HO_12 := n0_; have HO_17 := n1_; have HO_414000 := n2_; have BK413 := n3_; have HI168 := n168i_; have HB := n4_; clear n0_ n1_ n2_ n3_ n4_ n168i_; clear hg hw hp_))
                            go_roundg k4
                            case measure => have := HJ9.out; have := HK2.out; have := HJ56.out; have := HK4.out; omega
                            case rel => exact ⟨(y437), (wrap64 (x168_4 + 1)), ⟨by rw [hwI168.out]; have h8_ := h0I168.out; omega⟩, ⟨by rw [hwI168.out]; (with_reducible repeat (first | refine blk_drewN ?_ _ | refine blk_drew ?_ | refine blk_alloc ?_ _)); exact HI168.out⟩, H', ⟨by have := HJ9.out; have := HK2.out; have := HJ56.out; have := HK4.out; omega⟩, ⟨by (rX); exact Kd.R_mono HO_12.out (fun _ hk => hk.2)⟩, ⟨by (rX); exact HO_17.out⟩, ⟨by (rX); exact HO_414000.out⟩, ⟨by (with_reducible repeat (first | refine blk_drewN ?_ _ | refine blk_drew ?_ | refine blk_alloc ?_ _)); exact BK413.out⟩, ⟨by repeat (first | (with_reducible first | exact HB.out | apply aL | apply dN | apply dR | refine sT ?_ GE413.out) | exact HB.out)⟩⟩
                           ·rw [if_neg c73] at H
                            exact absurd H (by simp)
                         ·rw [if_neg c69] at H
                          exact absurd H (by simp)
                        ·rw [if_neg c67] at H
                         exact absurd H (by simp)
                       ·rw [if_neg c66] at H
                        exact absurd H (by simp)
                      ·rw [if_neg c65] at H
                       exact absurd H (by simp)
                     ·rw [if_neg c63] at H
                      exact absurd H (by simp)
                    ·rw [if_neg c62] at H
                     have c62b0 : decide (x168_4 < (t434.size : Int)) = false := decide_eq_false c62
                     clear c62
                     have H' := aM H
                     clear H
                     have hnext := rng_end (P := Tryd.prog) HI168.out h0I168.out (of_decide_eq_false (by assumption) : ¬ x168_4 < (t434.size : Int))
                     go_wp2
                     try clear hnext
                     go_roundg k4
                     case measure => have := HJ9.out; have := HK2.out; have := HJ56.out; have := HK4.out; omega
                     case rel => exact ⟨(t434), (x17_4), (wrap64 (x18_2 + 1)), (by rF), (by rF), H', ⟨by have := HJ9.out; have := HK2.out; have := HJ56.out; have := HK4.out; omega⟩, ⟨by (rX); exact HO_12.out⟩, ⟨by (rX); exact HO_17.out⟩, ⟨by (rX); exact HO_414000.out⟩, ⟨by (with_reducible repeat (first | refine blk_drewN ?_ _ | refine blk_drew ?_ | refine blk_alloc ?_ _)); exact BK413.out⟩, ⟨by repeat (first | (with_reducible first | exact HB.out | apply aL | apply dN | apply dR | refine sT ?_ GE413.out) | exact HB.out)⟩⟩
              ·rw [if_neg c55] at H
               have c55b0 : decide (x18_2 < t412) = false := decide_eq_false c55
               clear c55
               by_cases c79 : x16_2.toList = t414.toList
               ·rw [if_pos c79] at H
                have c79b0 : (x16_2.toList == t414.toList) = true := beq_iff_eq.mpr c79
                have c79b1 : (x16_2.toList != t414.toList) = false := bne_eq_false_iff_eq.mpr c79
                clear c79
                replace H := Option.bind_eq_some_iff.mp H
                obtain ⟨t433, A800, H⟩ := H
                replace H : (if t433 = true then (laws_FnLampsTick.j4 k2 l1 t411 t412 t414 t418) else (none)) = some r := H
                have A80 := aM A800
                clear A800
                by_cases c81 : t433 = true
                ·subst c81
                 rw [if_pos rfl] at H
                 have H' := aM H
                 clear H
                 obtain ⟨Ao82, co82, eo82⟩ := Kd.R_slice HO_17.out
                 subst eo82
                 go_wp2_with (first | (go_at_call 29; (with_reducible refine (laws_xSame.calls k2 _ _ x17_2 _ _ t418 true _ ?side1 ?side2 ?side3 ?side4 A80.out).mono ?_); (case side1 => exact cU (Kd.R_reads' HO_17.out).2.2); (case side2 => exact (Kd.R_reads' HO_17.out).2.1); (case side3 => exact cU (Kd.R_reads' HO_12.out).2.2); (case side4 => exact (Kd.R_reads' HO_12.out).2.1); rintro e w' ⟨rfl, ⟨nd, rfl⟩⟩))
                 go_meet
                 case rel => exact ⟨_, (t418), H', ⟨by have := HJ9.out; have := HK2.out; first | omega | exact Nat.le_refl _⟩, ⟨by (rX); exact Kd.R_mono HO_12.out (fun _ hk => trivial)⟩, ⟨by (rX); exact HO_414000.out⟩, ⟨by (with_reducible repeat (first | refine blk_drewN ?_ _ | refine blk_drew ?_ | refine blk_alloc ?_ _)); exact BK413.out⟩, ⟨by repeat (first | (with_reducible first | exact HB.out | apply aL | apply dN | apply dR | refine sT ?_ GE413.out) | exact HB.out)⟩⟩
                ·replace c81 := Bool.eq_false_iff.mpr c81
                 subst c81
                 rw [if_neg (show ¬ (false = true) by decide)] at H
                 exact absurd H (by simp)
               ·rw [if_neg c79] at H
                exact absurd H (by simp)
           ·rw [if_neg c52] at H
            exact absurd H (by simp)
          ·rw [if_neg c51] at H
           exact absurd H (by simp)
         ·rw [if_neg c50] at H
          have c50b0 : decide (t412 ≤ 20) = false := decide_eq_false c50
          clear c50
          (first | rw [c50b0] | (simp only [i64_w, i32_w]; rw [c50b0]) | skip)
          have H' := aM H
          clear H
          go_wp2
          go_meet
          case rel => exact ⟨_, (t418), H', ⟨by have := HJ9.out; first | omega | exact Nat.le_refl _⟩, ⟨by (rX); exact HO_12.out⟩, ⟨by (rX); exact HO_414000.out⟩, ⟨by (with_reducible repeat (first | refine blk_drewN ?_ _ | refine blk_drew ?_ | refine blk_alloc ?_ _)); exact BK413.out⟩, ⟨by repeat (first | (with_reducible first | exact HB.out | apply aL | apply dN | apply dR | refine sT ?_ GE413.out) | exact HB.out)⟩⟩
        case rest => as_aux_lemma =>
         clear HC48
         tc c2 p2 c3 c4 p4 q4 hx4 c5 c6 p6 q6 hx6 c7 p7 q7 hx7 hf7 c8 c23 c26 c29 c30 c31 c32 p43 q43 hx43 c44 c46 c47 c47b0 c47b1 c47b2 c50 c50b0 c51 c51b0 c51b1 c52 c52b0 c52b1 c55 c55b0 c60 c61 c62 c62b0 c63 c63b0 p64 q64 hx64 c65 c65b0 c66 c66b0 c67 c67b0 p68 q68 hx68 c69 c69b0 p70 q70 hx70 c71 c71b0 c71b1 c73 c73b0 p74 q74 hx74 hf74 c79 c79b0 c79b1 c81 hcz58_0 hfz58_0 hx436_0 hx74_0 p2 p436 p64 p68 p70 p74 q436 q64 q68 q70 q74
         obtain ⟨kq, x12_47, HA, HJ47, HO_12, HO_414000, BK413, HB⟩ := hcut
         have hl12_47 := (Kd.R_reads' HO_12.out).1
         rw [hl12_47] at HO_12
         (try simp only [hl12_47])
         (try simp only [hl12_47] at BK413)
         (try simp only [hl12_47] at HO_414000)
         cases kq with
         | zero => exact absurd HA.out (by simp [laws_FnLampsTick.j4])
         | succ kj47 =>
          have H := HA.out
          clear HA
          simp only [laws_FnLampsTick.j4] at H
          have H' := aM H
          clear H
          go_wp2
          go_loopg [197] kj47 (fun kq v197 w' => ∃ (x197_3 : Int), v197 = .int .i64 x197_3 ∧ Aside0 (laws_FnLampsTick.l2 kq l1 t411 t412 t414 x12_47 (x12_47.length : Int) x197_3 = some r) ∧ Aside0 (kq ≤ kj47) ∧ Aside0 (Kd.R (Kd.int .i64) 3 w' w.heap.size (fun _ => True) (.slice Ao49 x12_47.length co49) x12_47) ∧ Aside0 (Kd.R Kd.string 9 w' w.heap.size (fun _ => True) (.slice Ao13 t408.length co13) t408) ∧ Aside0 (w'.heap[gb413]? = some (.cells #[(.slice Ao13 t408.length co13)] 29 (0, 0))) ∧ Aside0 (Below w.heap.size w w'))
          case atStart => exact ⟨(0), (by rF), H', ⟨Nat.le_refl _⟩, ⟨by (try simp only [hl12_47]); (rX); exact HO_12.out⟩, ⟨by (try simp only [hl12_47]); (rX); exact HO_414000.out⟩, ⟨by (try simp only [hl12_47]); (with_reducible repeat (first | refine blk_drewN ?_ _ | refine blk_drew ?_ | refine blk_alloc ?_ _)); exact BK413.out⟩, ⟨by repeat (first | (with_reducible first | exact HB.out | apply aL | apply dN | apply dR | refine sT ?_ GE413.out) | exact HB.out)⟩⟩
          case round => as_aux_lemma =>
           clear H'
           tc c2 p2 c3 c4 p4 q4 hx4 c5 c6 p6 q6 hx6 c7 p7 q7 hx7 hf7 c8 c23 c26 c29 c30 c31 c32 p43 q43 hx43 c44 c46 c47 c47b0 c47b1 c47b2 c50 c50b0 c51 c51b0 c51b1 c52 c52b0 c52b1 c55 c55b0 c60 c61 c62 c62b0 c63 c63b0 p64 q64 hx64 c65 c65b0 c66 c66b0 c67 c67b0 p68 q68 hx68 c69 c69b0 p70 q70 hx70 c71 c71b0 c71b1 c73 c73b0 p74 q74 hx74 hf74 c79 c79b0 c79b1 c81 hcz58_0 hfz58_0 hx436_0 hx74_0 p2 p4 p43 p436 p6 p64 p68 p7 p70 p74 q4 q43 q436 q6 q64 q68 q7 q70 q74
           obtain ⟨x197_3, rfl, HA, HK3, HO_195, HO_414000, BK413, HB⟩ := hrel
           cases gk with
           | zero => exact absurd HA.out (by simp [laws_FnLampsTick.l2])
           | succ k3 =>
            have H := HA.out
            clear HA
            simp only [laws_FnLampsTick.l2] at H
            by_cases c83 : x197_3 < (x12_47.length : Int)
            ·rw [if_pos c83] at H
             have c83b0 : decide (x197_3 < (x12_47.length : Int)) = true := decide_eq_true c83
             try (have c83l := c83b0; simp only [hl12_47] at c83l)
             clear c83
             by_cases c84 : 0 ≤ x197_3
             ·rw [if_pos c84] at H
              have c84b0 : decide (0 ≤ x197_3) = true := decide_eq_true c84
              clear c84
              by_cases c85 : x197_3 < (x12_47.length : Int)
              ·rw [if_pos c85] at H
               have c85b0 : decide (x197_3 < (x12_47.length : Int)) = true := decide_eq_true c85
               try (have c85l := c85b0; simp only [hl12_47] at c85l)
               clear c85
               by_cases c86 : (rd x12_47 x197_3) < 0
               ·rw [if_pos c86] at H
                exact absurd H (by simp)
               ·rw [if_neg c86] at H
                have c86b0 : decide ((rd x12_47 x197_3) < 0) = false := decide_eq_false c86
                clear c86
                by_cases c87 : (rd x12_47 x197_3) > t412
                ·rw [if_pos c87] at H
                 exact absurd H (by simp)
                ·rw [if_neg c87] at H
                 have c87b0 : decide (t412 < (rd x12_47 x197_3)) = false := decide_eq_false c87
                 clear c87
                 by_cases c88 : x197_3 < (t411.size : Int)
                 ·rw [if_pos c88] at H
                  have c88b0 : decide (x197_3 < (t411.size : Int)) = true := decide_eq_true c88
                  clear c88
                  by_cases c90 : x197_3 < (t414.size : Int)
                  ·rw [if_pos c90] at H
                   have c90b0 : decide (x197_3 < (t414.size : Int)) = true := decide_eq_true c90
                   clear c90
                   by_cases c92 : (((Int.tmod (rd x12_47 x197_3) 2) == 1) != ((bt t411 x197_3) != (bt t414 x197_3))) = true
                   ·rw [if_pos c92] at H
                    exact absurd H (by simp)
                   ·rw [if_neg c92] at H
                    have c92b0 : (((Int.tmod (rd x12_47 x197_3) 2) == 1) != ((bt t411 x197_3) != (bt t414 x197_3))) = false := by simpa using c92
                    (try (have c92b1 : decide (((Int.tmod (rd x12_47 x197_3) 2) == 1) = ((bt t411 x197_3) != (bt t414 x197_3))) = true := by simpa using c92))
                    (try (have c92b2 : (((Int.tmod (rd x12_47 x197_3) 2) == 1) == ((bt t411 x197_3) != (bt t414 x197_3))) = true := by simpa using c92))
                    clear c92
                    have H' := aM H
                    clear H
                    have p438 : 0 ≤ (x197_3 : Int) := of_decide_eq_true (by first | (with_reducible assumption) | assumption)
                    have q438 : x197_3 < (x12_47.length : Int) := of_decide_eq_true (by first | (with_reducible assumption) | assumption)
                    obtain ⟨ad438, e438, hx438_0⟩ := Kd.at_int (Kd.R_reads' HO_195.out).2.2 x197_3 p438 q438
                    cases e438
                    replace p438 := eq_true p438
                    replace q438 := eq_true q438
                    try go_wp2
                    have n0_ := aM (Kd.R_drew HO_195.out)
                    have n1_ := aM (Kd.R_drew HO_414000.out)
                    have n2_ := aM (blk_drew BK413.out)
                    have n3_ := aM (below_drew1 HB.out)
                    clear HO_195
                    clear HO_414000
                    clear BK413
                    clear HB
                    have HO_195 := n0_
                    have HO_414000 := n1_
                    have BK413 := n2_
                    have HB := n3_
                    clear n0_ n1_ n2_ n3_
                    have p89 : 0 ≤ (x197_3 : Int) := of_decide_eq_true (by first | (with_reducible assumption) | assumption)
                    have q89 : x197_3 < (t411.size : Int) := of_decide_eq_true (by first | (with_reducible assumption) | assumption)
                    have hx89 := bt_at t411 x197_3
                    replace p89 := eq_true p89
                    replace q89 := eq_true q89
                    have p91 : 0 ≤ (x197_3 : Int) := of_decide_eq_true (by first | (with_reducible assumption) | assumption)
                    have q91 : x197_3 < (t414.size : Int) := of_decide_eq_true (by first | (with_reducible assumption) | assumption)
                    have hx91 := bt_at t414 x197_3
                    replace p91 := eq_true p91
                    replace q91 := eq_true q91
                    refine start_ (n := 20) (S := fun w' => True) (ds := []) #[false, false, false, false, false, false, false, false, false, false, false, false, false, false, false, false, false, false, false, false] (by kernel_rfl) rfl rfl trivial (fun hHeld => ?_); refine with_tabW laws_FnLampsTick.tab33 laws_FnLampsTick.bits33 (fun HT_ HW_ => ?_)
                    generalize wr.drew = w93 at HO_195 HO_414000 BK413 HB hHeld ⊢
                    pU 0 (some 202) #[true, false, false, false, false, false, false, false, false, false, false, false, false, false, false, false, false, false, false, false]
                    rotate_left
                    ·intro w'
                     go_simp
                     with_reducible rfl
                    rotate_left
                    ·simp only [Act.put, List.setIfInBounds_toArray, List.set_cons_zero, List.set_cons_succ, i64_w, i32_w]
                     rfl
                    pU 1 (some 203) #[true, true, false, false, false, false, false, false, false, false, false, false, false, false, false, false, false, false, false, false]
                    rotate_left
                    ·intro w'
                     go_simp
                     with_reducible rfl
                    rotate_left
                    ·simp only [Act.put, List.setIfInBounds_toArray, List.set_cons_zero, List.set_cons_succ, i64_w, i32_w]
                     rfl
                    pU 2 (some 204) #[true, true, true, false, false, false, false, false, false, false, false, false, false, false, false, false, false, false, false, false]
                    rotate_left
                    ·intro w'
                     go_simp
                     with_reducible rfl
                    rotate_left
                    ·simp only [Act.put, List.setIfInBounds_toArray, List.set_cons_zero, List.set_cons_succ, i64_w, i32_w]
                     rfl
                    pU 3 (some 205) #[true, true, true, true, false, false, false, false, false, false, false, false, false, false, false, false, false, false, false, false]
                    rotate_left
                    ·intro w'
                     go_simp
                     with_reducible rfl
                    rotate_left
                    ·simp only [Act.put, List.setIfInBounds_toArray, List.set_cons_zero, List.set_cons_succ, i64_w, i32_w]
                     rfl
                    pU 4 (some 206) #[true, true, true, true, true, false, false, false, false, false, false, false, false, false, false, false, false, false, false, false]
                    rotate_left
                    ·intro w'
                     go_simp
                     with_reducible rfl
                    rotate_left
                    ·simp only [Act.put, List.setIfInBounds_toArray, List.set_cons_zero, List.set_cons_succ, i64_w, i32_w]
                     rfl
                    pU 5 (some 207) #[true, true, true, true, true, true, false, false, false, false, false, false, false, false, false, false, false, false, false, false]
                    rotate_left
                    ·intro w'
                     go_simp
                     with_reducible rfl
                    rotate_left
                    ·simp only [Act.put, List.setIfInBounds_toArray, List.set_cons_zero, List.set_cons_succ, i64_w, i32_w]
                     rfl
                    pU 6 (some 208) #[true, true, true, true, true, true, true, false, false, false, false, false, false, false, false, false, false, false, false, false]
                    rotate_left
                    ·intro w'
                     go_simp
                     with_reducible rfl
                    rotate_left
                    ·simp only [Act.put, List.setIfInBounds_toArray, List.set_cons_zero, List.set_cons_succ, i64_w, i32_w]
                     rfl
                    pU 7 (some 209) #[true, true, true, true, true, true, true, true, false, false, false, false, false, false, false, false, false, false, false, false]
                    rotate_left
                    ·intro w'
                     go_simp
                     with_reducible rfl
                    rotate_left
                    ·simp only [Act.put, List.setIfInBounds_toArray, List.set_cons_zero, List.set_cons_succ, i64_w, i32_w]
                     rfl
                    pU 8 (some 210) #[true, true, true, true, true, true, true, true, true, false, false, false, false, false, false, false, false, false, false, false]
                    rotate_left
                    ·intro w'
                     go_simp
                     with_reducible rfl
                    rotate_left
                    ·simp only [Act.put, List.setIfInBounds_toArray, List.set_cons_zero, List.set_cons_succ, i64_w, i32_w]
                     rfl
                    pU 9 (some 211) #[true, true, true, true, true, true, true, true, true, true, false, false, false, false, false, false, false, false, false, false]
                    rotate_left
                    ·intro w'
                     go_simp
                     with_reducible rfl
                    rotate_left
                    ·simp only [Act.put, List.setIfInBounds_toArray, List.set_cons_zero, List.set_cons_succ, i64_w, i32_w]
                     rfl
                    pU 10 (some 212) #[true, true, true, true, true, true, true, true, true, true, true, false, false, false, false, false, false, false, false, false]
                    rotate_left
                    ·intro w'
                     go_simp
                     with_reducible rfl
                    rotate_left
                    ·simp only [Act.put, List.setIfInBounds_toArray, List.set_cons_zero, List.set_cons_succ, i64_w, i32_w]
                     rfl
                    pU 11 (some 213) #[true, true, true, true, true, true, true, true, true, true, true, true, false, false, false, false, false, false, false, false]
                    rotate_left
                    ·intro w'
                     go_simp
                     with_reducible rfl
                    rotate_left
                    ·simp only [Act.put, List.setIfInBounds_toArray, List.set_cons_zero, List.set_cons_succ, i64_w, i32_w]
                     rfl
                    pU 12 (some 214) #[true, true, true, true, true, true, true, true, true, true, true, true, true, false, false, false, false, false, false, false]
                    rotate_left
                    ·intro w'
                     go_simp
                     with_reducible rfl
                    rotate_left
                    ·simp only [Act.put, List.setIfInBounds_toArray, List.set_cons_zero, List.set_cons_succ, i64_w, i32_w]
                     rfl
                    pU 14 (some 216) #[true, true, true, true, true, true, true, true, true, true, true, true, true, false, true, false, false, false, false, false]
                    rotate_left
                    ·intro w'
                     go_simp
                     with_reducible rfl
                    rotate_left
                    ·simp only [Act.put, List.setIfInBounds_toArray, List.set_cons_zero, List.set_cons_succ, i64_w, i32_w]
                     rfl
                    pU 15 (some 217) #[true, true, true, true, true, true, true, true, true, true, true, true, true, false, true, true, false, false, false, false]
                    rotate_left
                    ·intro w'
                     go_simp
                     with_reducible rfl
                    rotate_left
                    ·simp only [Act.put, List.setIfInBounds_toArray, List.set_cons_zero, List.set_cons_succ, i64_w, i32_w]
                     rfl
                    refine take_ (i := 13) (N := some 215) (v := ?_) (a' := ?_) #[true, true, true, true, true, true, true, true, true, true, true, true, true, true, true, true, false, false, false, false] rfl rfl (take_ofW HT_.out HW_.out (by kernel_rfl)) (fun _ _ _ h => h) (Or.inl ⟨by rfl, ?_⟩) hHeld ?_ ?_
                    rotate_left
                    ·intro w' _
                     go_simp
                     with_reducible rfl
                    rotate_left
                    ·simp only [Act.put, List.setIfInBounds_toArray, List.set_cons_zero, List.set_cons_succ, i64_w, i32_w]
                     rfl
                    refine take_ (i := 16) (N := some 218) (v := ?_) (a' := ?_) #[true, true, true, true, true, true, true, true, true, true, true, true, true, true, true, true, true, false, false, false] rfl rfl (take_ofW HT_.out HW_.out (by kernel_rfl)) (fun _ _ _ h => h) (Or.inl ⟨by rfl, ?_⟩) hHeld ?_ ?_
                    rotate_left
                    ·intro w' _
                     go_simp
                     with_reducible rfl
                    rotate_left
                    ·simp only [Act.put, List.setIfInBounds_toArray, List.set_cons_zero, List.set_cons_succ, i64_w, i32_w]
                     rfl
                    pU 17 (some 219) #[true, true, true, true, true, true, true, true, true, true, true, true, true, true, true, true, true, true, false, false]
                    rotate_left
                    ·intro w'
                     go_simp
                     with_reducible rfl
                    rotate_left
                    ·simp only [Act.put, List.setIfInBounds_toArray, List.set_cons_zero, List.set_cons_succ, i64_w, i32_w]
                     rfl
                    pU 18 (some 220) #[true, true, true, true, true, true, true, true, true, true, true, true, true, true, true, true, true, true, true, false]
                    rotate_left
                    ·intro w'
                     go_simp
                     with_reducible rfl
                    rotate_left
                    ·simp only [Act.put, List.setIfInBounds_toArray, List.set_cons_zero, List.set_cons_succ, i64_w, i32_w]
                     rfl
                    pU 19 (some 221) #[true, true, true, true, true, true, true, true, true, true, true, true, true, true, true, true, true, true, true, true]
                    rotate_left
                    ·intro w'
                     go_simp
                     with_reducible rfl
                    rotate_left
                    ·simp only [Act.put, List.setIfInBounds_toArray, List.set_cons_zero, List.set_cons_succ, i64_w, i32_w]
                     rfl
                    refine done_ (done_of HT_.out (by kernel_rfl)) ?_
                    try go_wp2
                    go_roundg k3
                    case measure => have := HJ9.out; have := HJ47.out; have := HK3.out; omega
                    case rel => exact ⟨(wrap64 (x197_3 + 1)), (by rF), H', ⟨by have := HJ9.out; have := HJ47.out; have := HK3.out; omega⟩, ⟨by (try simp only [hl12_47]); (rX); exact HO_195.out⟩, ⟨by (try simp only [hl12_47]); (rX); exact HO_414000.out⟩, ⟨by (try simp only [hl12_47]); (with_reducible repeat (first | refine blk_drewN ?_ _ | refine blk_drew ?_ | refine blk_alloc ?_ _)); exact BK413.out⟩, ⟨by repeat (first | (with_reducible first | exact HB.out | apply aL | apply dN | apply dR | refine sT ?_ GE413.out) | exact HB.out)⟩⟩
                  ·rw [if_neg c90] at H
                   exact absurd H (by simp)
                 ·rw [if_neg c88] at H
                  exact absurd H (by simp)
              ·rw [if_neg c85] at H
               exact absurd H (by simp)
             ·rw [if_neg c84] at H
              exact absurd H (by simp)
            ·rw [if_neg c83] at H
             have c83b0 : decide (x197_3 < (x12_47.length : Int)) = false := decide_eq_false c83
             try (have c83l := c83b0; simp only [hl12_47] at c83l)
             clear c83
             have H' := aM H
             clear H
             go_wp2
             (try simp only [← hl12_47])
             go_meet
             case rel => exact ⟨_, H', ⟨by have := HJ9.out; have := HJ47.out; have := HK3.out; first | omega | exact Nat.le_refl _⟩, ⟨by (try simp only [hl12_47]); (rX); exact HO_414000.out⟩, ⟨by (try simp only [hl12_47]); (with_reducible repeat (first | refine blk_drewN ?_ _ | refine blk_drew ?_ | refine blk_alloc ?_ _)); exact BK413.out⟩, ⟨by repeat (first | (with_reducible first | exact HB.out | apply aL | apply dN | apply dR | refine sT ?_ GE413.out) | exact HB.out)⟩⟩
       ·rw [if_neg c47] at H
        exact absurd H (by simp)
      ·replace c46 := Bool.eq_false_iff.mpr c46
       subst c46
       rw [if_neg (show ¬ (false = true) by decide)] at H
       have H' := aM H
       clear H
       go_wp2
       go_meet
       case rel => exact ⟨_, H', ⟨by have := HJ9.out; first | omega | exact Nat.le_refl _⟩, ⟨by (rX); exact HO_414000.out⟩, ⟨by (with_reducible repeat (first | refine blk_drewN ?_ _ | refine blk_drew ?_ | refine blk_alloc ?_ _)); exact BK413.out⟩, ⟨by repeat (first | (with_reducible first | exact HB.out | apply aL | apply dN | apply dR | refine sT ?_ GE413.out) | exact HB.out)⟩⟩
     case rest => as_aux_lemma =>
      clear HC45
      tc c2 p2 c3 c4 p4 q4 hx4 c5 c6 p6 q6 hx6 c7 p7 q7 hx7 hf7 c8 p8 q8 hx8 c9 p9 q9 hx9 c23 c26 c29 c30 c31 c32 p43 q43 hx43 c44 c46 c47 c47b0 c47b1 c47b2 c50 c50b0 c51 c51b0 c51b1 c52 c52b0 c52b1 c55 c55b0 c60 c61 c62 c62b0 c63 c63b0 p64 q64 hx64 c65 c65b0 c66 c66b0 c67 c67b0 p68 q68 hx68 c69 c69b0 p70 q70 hx70 c71 c71b0 c71b1 c73 c73b0 p74 q74 hx74 hf74 c79 c79b0 c79b1 c81 c83 c83b0 c84 c84b0 c85 c85b0 c86 c86b0 c87 c87b0 c88 c88b0 p89 q89 hx89 c90 c90b0 p91 q91 hx91 c92 c92b0 c92b1 c92b2 hcz58_0 hfz58_0 hx436_0 hx438_0 hx74_0 p2 p4 p43 p436 p438 p6 p64 p68 p7 p70 p74 p89 p91 q4 q43 q436 q438 q6 q64 q68 q7 q70 q74 q89 q91
      obtain ⟨kq, HA, HJ44, HO_414000, BK413, HB⟩ := hcut
      cases kq with
      | zero => exact absurd HA.out (by simp [laws_FnLampsTick.j6])
      | succ kj44 =>
       have H := HA.out
       clear HA
       simp only [laws_FnLampsTick.j6] at H
       replace H := Option.bind_eq_some_iff.mp H
       obtain ⟨⟨t439, t442⟩, A940, H⟩ := H
       dsimp only at H
       have A94 := aM A940
       clear A940
       replace H := Option.bind_eq_some_iff.mp H
       obtain ⟨⟨t444, t447⟩, A950, H⟩ := H
       dsimp only at H
       have A95 := aM A950
       clear A950
       replace H := Option.bind_eq_some_iff.mp H
       obtain ⟨⟨t448, t451⟩, A960, H⟩ := H
       dsimp only at H
       have A96 := aM A960
       clear A960
       replace H := Option.bind_eq_some_iff.mp H
       obtain ⟨⟨t452, t453, t454⟩, A970, H⟩ := H
       dsimp only at H
       have A97 := aM A970
       clear A970
       replace H := Option.bind_eq_some_iff.mp H
       obtain ⟨⟨t455, t456, t457⟩, A980, H⟩ := H
       dsimp only at H
       have A98 := aM A980
       clear A980
       replace H := Option.bind_eq_some_iff.mp H
       obtain ⟨⟨t458, t459⟩, A990, H⟩ := H
       dsimp only at H
       have A99 := aM A990
       clear A990
       replace H := Option.bind_eq_some_iff.mp H
       obtain ⟨⟨t460, t461⟩, A1000, H⟩ := H
       dsimp only at H
       have A100 := aM A1000
       clear A1000
       replace H := Option.bind_eq_some_iff.mp H
       obtain ⟨⟨t462, t465, t466⟩, A1010, H⟩ := H
       dsimp only at H
       have A101 := aM A1010
       clear A1010
       replace H := Option.bind_eq_some_iff.mp H
       obtain ⟨⟨t468, t469⟩, A1020, H⟩ := H
       dsimp only at H
       have A102 := aM A1020
       clear A1020
       replace H := Option.bind_eq_some_iff.mp H
       obtain ⟨⟨t470, t471⟩, A1030, H⟩ := H
       dsimp only at H
       have A103 := aM A1030
       clear A1030
       have HC104 := aM H
       clear H
       go_upto_region 46 with (first | ((with_reducible refine gate_callee (f := 79) rfl ?_); refine goesL_ (some 225) rfl rfl Tryd.func79 (by kernel_rfl) rfl #[.slice A1 l1.length c1] rfl (by mA) ?_; (with_reducible refine (spec_DrawCycleOfLamps.calls kj44 _ _ l1 t439 t442 _ ?side1 ?side2 A94.out).mono ?_); (case side1 => exact cU (Kd.C_below HR1.out HB.out)); (case side2 => exact HC1.out); rintro e w105 ⟨v440, rfl, ho0, hb⟩; refine ⟨_, rfl, ?_⟩; have n0_ := aM (Kd.R_elder' (rU HO_414000.out) (Kd.R_base ho0) hb); have n1_ := aM (Kd.R_lower (Kd.R_new' ho0 (Kd.R_lt (rU HO_414000.out))) (below_size (by repeat (first | (with_reducible first | exact HB.out | apply aL | apply dN | apply dR | refine sT ?_ GE413.out) | exact HB.out)))); have n2_ := aM (blk_below (g := gb413) (o := .cells #[.slice Ao13 t408.length co13] 29 (0, 0)) (bU BK413.out) hb); have n3_ := aM (below_step (by repeat (first | (with_reducible first | exact HB.out | apply aL | apply dN | apply dR | refine sT ?_ GE413.out) | exact HB.out)) hb); clear HO_414000; clear BK413; clear HB; have HO_414000 := n0_; have HO441 := n1_; have BK413 := n2_; have HB := n3_; clear n0_ n1_ n2_ n3_; cX; (try clear ho0)) | ((with_reducible refine gate_dst (N := 24) rfl ?_); (try (refine gate_guard (by rfl) ?_; dsimp only)); refine box_event ?hg (N := 24) ?hd (cs := #[.slice none 0 0]) (t := 29) ?hr ?_; (case hd => rfl); (case hg => rfl); (case hr => first | (go_simp; done) | (go_simp; rfl)); intro gb443 hg w106 hbox hb; have n0_ := aM (Kd.R_below (rU HO_414000.out) hb); have n1_ := aM (Kd.R_below (rU HO441.out) hb); have n2_ := aM (blk_below (g := gb413) (o := .cells #[.slice Ao13 t408.length co13] 29 (0, 0)) (bU BK413.out) hb); have n3_ := aM (below_step (by repeat (first | (with_reducible first | exact HB.out | apply aL | apply dN | apply dR | refine sT ?_ GE413.out) | exact HB.out)) hb); have n4_ := aM (hbox); have n5_ := aM ((by rw [hg]; exact (below_size (by repeat (first | (with_reducible first | exact HB.out | apply aL | apply dN | apply dR | refine sT ?_ GE413.out) | exact HB.out))) : w.heap.size ≤ gb443)); have n6_ := aM ((by rw [hg]; exact (below_size (by repeat (first | (with_reducible first | exact HB.out | apply aL | apply dN | apply dR | refine sT ?_ GE413.out) | exact HB.out))) : w.heap.size ≤ gb443)); have n7_ := aM ((by rw [hg]; exact Nat.ne_of_lt (blk_lt (g := gb413) (o := .cells #[.slice Ao13 t408.length co13] 29 (0, 0)) (bU BK413.out)) : gb413 ≠ gb443)); have n8_ := aM ((by rw [hg]; exact Nat.ne_of_gt (blk_lt (g := gb413) (o := .cells #[.slice Ao13 t408.length co13] 29 (0, 0)) (bU BK413.out)) : gb443 ≠ gb413)); clear HO_414000; clear HO441; clear BK413; clear HB; have HO_414000 := n0_; have HO441 := n1_; have BK413 := n2_; have HB := n3_; have BK443 := n4_; have GW443 := n5_; have GE443 := n6_; have NB413_443 := n7_; have NB443_413 := n8_; clear n0_ n1_ n2_ n3_ n4_ n5_ n6_ n7_ n8_; clear hb hbox hg; obtain ⟨Ao107, co107, eo107⟩ := Kd.R_slice HO441.out; subst eo107; have hnb108 := NB443_413.out; have hnc108 := NB413_443.out; have hcz109_0 : w106.cell? ⟨gb443, 0, none⟩ = some (.slice none 0 0) := (blk_cell BK443.out 0).trans rfl; have hfz109_0 := blk_frozen BK443.out 0) | ((with_reducible refine gate_callee (f := 33) rfl ?_); refine goesL_ (some 231) rfl rfl Tryd.func33 (by kernel_rfl) rfl #[.agg #[.slice Ao107 t439.length co107], .string t442] rfl (by mA) ?_; (with_reducible refine (impl_CycleOfLamps.calls _ _ t439 t442 t444 t447 _ ?side1 ?side2 A95.out).mono ?_); (case side1 => refine (Kd.R_reads' (e := 9) (base := w.heap.size) (ok := fun k_ => (True ∧ some k_ ≠ (.slice Ao13 t408.length co13 : Value).ownBlock)) (n := t439.length) (c := co107) ?_).2.2; exact (rU (Kd.R_mono (Kd.R_far (p := ⟨gb443, 0, none⟩) (Kd.R_types HO441.out BK443.out (by decide)) (fun _ hk => hk.2) (.slice Ao107 t439.length co107)) (fun _ h_ => h_.1)))); (case side2 => exact (Kd.R_reads' HO441.out).2.1); rintro e w110 ⟨v445, rfl, ho0, hb⟩; refine ⟨_, rfl, ?_⟩; have n0_ := aM (Kd.R_elder' (rU (Kd.R_mono (Kd.R_far (p := ⟨gb443, 0, none⟩) (Kd.R_types HO_414000.out BK443.out (by decide)) (fun _ hk => hk.2) (.slice Ao107 t439.length co107)) (fun _ h_ => h_.1))) (Kd.R_base ho0) hb); have n1_ := aM (Kd.R_elder' (rU (Kd.R_mono (Kd.R_far (p := ⟨gb443, 0, none⟩) (Kd.R_types HO441.out BK443.out (by decide)) (fun _ hk => hk.2) (.slice Ao107 t439.length co107)) (fun _ h_ => h_.1))) (Kd.R_base ho0) hb); have n2_ := aM (Kd.R_lower (Kd.R_new' (Kd.R_new' ho0 (Kd.R_lt (rU (Kd.R_mono (Kd.R_far (p := ⟨gb443, 0, none⟩) (Kd.R_types HO_414000.out BK443.out (by decide)) (fun _ hk => hk.2) (.slice Ao107 t439.length co107)) (fun _ h_ => h_.1))))) (Kd.R_lt (rU (Kd.R_mono (Kd.R_far (p := ⟨gb443, 0, none⟩) (Kd.R_types HO441.out BK443.out (by decide)) (fun _ hk => hk.2) (.slice Ao107 t439.length co107)) (fun _ h_ => h_.1))))) (below_size (by repeat (first | (with_reducible first | exact HB.out | apply aL | apply dN | apply dR | refine sT ?_ GE413.out | refine sT ?_ GE443.out) | exact HB.out)))); have n3_ := aM (blk_below (g := gb413) (o := .cells #[.slice Ao13 t408.length co13] 29 (0, 0)) (by (with_reducible repeat (first | refine blk_drewN ?_ _ | refine blk_drew ?_ | refine blk_alloc ?_ _)); refine blk_far ?_ NB413_443.out _; (with_reducible repeat (first | refine blk_drewN ?_ _ | refine blk_drew ?_ | refine blk_alloc ?_ _)); exact BK413.out) hb); have n4_ := aM (blk_below (g := gb443) (o := .cells #[.slice Ao107 t439.length co107] 29 (0, 0)) (by (with_reducible repeat (first | refine blk_drewN ?_ _ | refine blk_drew ?_ | refine blk_alloc ?_ _)); refine blk_put (cs := #[.slice none 0 0]) ?_ 0 _ rfl; (with_reducible repeat (first | refine blk_drewN ?_ _ | refine blk_drew ?_ | refine blk_alloc ?_ _)); exact BK443.out) hb); have n5_ := aM (below_step (by repeat (first | (with_reducible first | exact HB.out | apply aL | apply dN | apply dR | refine sT ?_ GE413.out | refine sT ?_ GE443.out) | exact HB.out)) hb); clear HO_414000; clear HO441; clear BK413; clear BK443; clear HB; have HO_414000 := n0_; have HO441 := n1_; have HO446 := n2_; have BK413 := n3_; have BK443 := n4_; have HB := n5_; clear n0_ n1_ n2_ n3_ n4_ n5_; cX; (try clear ho0); have hcz111_0 : w110.cell? ⟨gb443, 0, none⟩ = some (.slice Ao107 t439.length co107) := (blk_cell BK443.out 0).trans rfl; have hfz111_0 := blk_frozen BK443.out 0) | ((with_reducible refine gate_callee (f := 34) rfl ?_); refine goesL_ (some 237) rfl rfl Tryd.func34 (by kernel_rfl) rfl #[.agg #[.slice Ao107 t439.length co107], .string t442] rfl (by mA) ?_; (with_reducible refine (spec_CycleOfLamps.calls kj44 _ _ t439 t442 t448 t451 _ ?side1 ?side2 A96.out).mono ?_); (case side1 => exact cU (Kd.R_reads' HO441.out).2.2); (case side2 => exact (Kd.R_reads' HO441.out).2.1); rintro e w112 ⟨v449, rfl, ho0, hb⟩; refine ⟨_, rfl, ?_⟩; have n0_ := aM (Kd.R_elder' (rU HO_414000.out) (Kd.R_base ho0) hb); have n1_ := aM (Kd.R_elder' (rU HO441.out) (Kd.R_base ho0) hb); have n2_ := aM (Kd.R_elder' (rU HO446.out) (Kd.R_base ho0) hb); have n3_ := aM (Kd.R_lower (Kd.R_new' (Kd.R_new' (Kd.R_new' ho0 (Kd.R_lt (rU HO_414000.out))) (Kd.R_lt (rU HO441.out))) (Kd.R_lt (rU HO446.out))) (below_size (by repeat (first | (with_reducible first | exact HB.out | apply aL | apply dN | apply dR | refine sT ?_ GE413.out | refine sT ?_ GE443.out) | exact HB.out)))); have n4_ := aM (blk_below (g := gb413) (o := .cells #[.slice Ao13 t408.length co13] 29 (0, 0)) (bU BK413.out) hb); have n5_ := aM (blk_below (g := gb443) (o := .cells #[.slice Ao107 t439.length co107] 29 (0, 0)) (bU BK443.out) hb); have n6_ := aM (below_step (by repeat (first | (with_reducible first | exact HB.out | apply aL | apply dN | apply dR | refine sT ?_ GE413.out | refine sT ?_ GE443.out) | exact HB.out)) hb); clear HO_414000; clear HO441; clear HO446; clear BK413; clear BK443; clear HB; have HO_414000 := n0_; have HO441 := n1_; have HO446 := n2_; have HO450 := n3_; have BK413 := n4_; have BK443 := n5_; have HB := n6_; clear n0_ n1_ n2_ n3_ n4_ n5_ n6_; cX; (try clear ho0); have hcz113_0 : w112.cell? ⟨gb443, 0, none⟩ = some (.slice Ao107 t439.length co107) := (blk_cell BK443.out 0).trans rfl; have hfz113_0 := blk_frozen BK443.out 0) | ((with_reducible refine gate_callee (f := 35) rfl ?_); refine goesL_ (some 243) rfl rfl Tryd.func35 (by kernel_rfl) rfl #[.agg #[.slice Ao107 t439.length co107], .string t442] rfl (by mA) ?_; (with_reducible refine (impl_LeadOfLamps.calls _ _ t439 t442 t452 t453 t454 _ ?side1 ?side2 A97.out).mono ?_); (case side1 => exact cU (Kd.R_reads' HO441.out).2.2); (case side2 => exact (Kd.R_reads' HO441.out).2.1); rintro e w114 ⟨rfl, hb⟩; refine ⟨_, rfl, ?_⟩; have n0_ := aM (Kd.R_below (rU HO_414000.out) hb); have n1_ := aM (Kd.R_below (rU HO441.out) hb); have n2_ := aM (Kd.R_below (rU HO446.out) hb); have n3_ := aM (Kd.R_below (rU HO450.out) hb); have n4_ := aM (blk_below (g := gb413) (o := .cells #[.slice Ao13 t408.length co13] 29 (0, 0)) (bU BK413.out) hb); have n5_ := aM (blk_below (g := gb443) (o := .cells #[.slice Ao107 t439.length co107] 29 (0, 0)) (bU BK443.out) hb); have n6_ := aM (below_step (by repeat (first | (with_reducible first | exact HB.out | apply aL | apply dN | apply dR | refine sT ?_ GE413.out | refine sT ?_ GE443.out) | exact HB.out)) hb); clear HO_414000; clear HO441; clear HO446; clear HO450; clear BK413; clear BK443; clear HB; have HO_414000 := n0_; have HO441 := n1_; have HO446 := n2_; have HO450 := n3_; have BK413 := n4_; have BK443 := n5_; have HB := n6_; clear n0_ n1_ n2_ n3_ n4_ n5_ n6_; cX; have hcz115_0 : w114.cell? ⟨gb443, 0, none⟩ = some (.slice Ao107 t439.length co107) := (blk_cell BK443.out 0).trans rfl; have hfz115_0 := blk_frozen BK443.out 0) | ((with_reducible refine gate_callee (f := 36) rfl ?_); refine goesL_ (some 250) rfl rfl Tryd.func36 (by kernel_rfl) rfl #[.agg #[.slice Ao107 t439.length co107], .string t442] rfl (by mA) ?_; (with_reducible refine (spec_LeadOfLamps.calls kj44 _ _ t439 t442 t455 t456 t457 _ ?side1 ?side2 A98.out).mono ?_); (case side1 => exact cU (Kd.R_reads' HO441.out).2.2); (case side2 => exact (Kd.R_reads' HO441.out).2.1); rintro e w116 ⟨rfl, hb⟩; refine ⟨_, rfl, ?_⟩; have n0_ := aM (Kd.R_below (rU HO_414000.out) hb); have n1_ := aM (Kd.R_below (rU HO441.out) hb); have n2_ := aM (Kd.R_below (rU HO446.out) hb); have n3_ := aM (Kd.R_below (rU HO450.out) hb); have n4_ := aM (blk_below (g := gb413) (o := .cells #[.slice Ao13 t408.length co13] 29 (0, 0)) (bU BK413.out) hb); have n5_ := aM (blk_below (g := gb443) (o := .cells #[.slice Ao107 t439.length co107] 29 (0, 0)) (bU BK443.out) hb); have n6_ := aM (below_step (by repeat (first | (with_reducible first | exact HB.out | apply aL | apply dN | apply dR | refine sT ?_ GE413.out | refine sT ?_ GE443.out) | exact HB.out)) hb); clear HO_414000; clear HO441; clear HO446; clear HO450; clear BK413; clear BK443; clear HB; have HO_414000 := n0_; have HO441 := n1_; have HO446 := n2_; have HO450 := n3_; have BK413 := n4_; have BK443 := n5_; have HB := n6_; clear n0_ n1_ n2_ n3_ n4_ n5_ n6_; cX; have hcz117_0 : w116.cell? ⟨gb443, 0, none⟩ = some (.slice Ao107 t439.length co107) := (blk_cell BK443.out 0).trans rfl; have hfz117_0 := blk_frozen BK443.out 0) | ((with_reducible refine gate_callee (f := 32) rfl ?_); refine goesL_ (some 257) rfl rfl Tryd.func32 (by kernel_rfl) rfl #[.agg #[.slice Ao107 t439.length co107], .string t442] rfl (by mA) ?_; (with_reducible refine (impl_TickOnce.calls _ _ t439 t442 t458 t459 _ ?side1 ?side2 A99.out).mono ?_); (case side1 => exact cU (Kd.R_reads' HO441.out).2.2); (case side2 => exact (Kd.R_reads' HO441.out).2.1); rintro e w118 ⟨rfl, hb⟩; refine ⟨_, rfl, ?_⟩; have n0_ := aM (Kd.R_below (rU HO_414000.out) hb); have n1_ := aM (Kd.R_below (rU HO441.out) hb); have n2_ := aM (Kd.R_below (rU HO446.out) hb); have n3_ := aM (Kd.R_below (rU HO450.out) hb); have n4_ := aM (blk_below (g := gb413) (o := .cells #[.slice Ao13 t408.length co13] 29 (0, 0)) (bU BK413.out) hb); have n5_ := aM (blk_below (g := gb443) (o := .cells #[.slice Ao107 t439.length co107] 29 (0, 0)) (bU BK443.out) hb); have n6_ := aM (below_step (by repeat (first | (with_reducible first | exact HB.out | apply aL | apply dN | apply dR | refine sT ?_ GE413.out | refine sT ?_ GE443.out) | exact HB.out)) hb); clear HO_414000; clear HO441; clear HO446; clear HO450; clear BK413; clear BK443; clear HB; have HO_414000 := n0_; have HO441 := n1_; have HO446 := n2_; have HO450 := n3_; have BK413 := n4_; have BK443 := n5_; have HB := n6_; clear n0_ n1_ n2_ n3_ n4_ n5_ n6_; cX; have hcz119_0 : w118.cell? ⟨gb443, 0, none⟩ = some (.slice Ao107 t439.length co107) := (blk_cell BK443.out 0).trans rfl; have hfz119_0 := blk_frozen BK443.out 0) | ((with_reducible refine gate_callee (f := 37) rfl ?_); refine goesL_ (some 263) rfl rfl Tryd.func37 (by kernel_rfl) rfl #[.agg #[.slice Ao107 t439.length co107], .string t442] rfl (by mA) ?_; (with_reducible refine (spec_TickOnce.calls _ _ t439 t442 t460 t461 _ ?side1 ?side2 A100.out).mono ?_); (case side1 => exact cU (Kd.R_reads' HO441.out).2.2); (case side2 => exact (Kd.R_reads' HO441.out).2.1); rintro e w120 ⟨rfl, hb⟩; refine ⟨_, rfl, ?_⟩; have n0_ := aM (Kd.R_below (rU HO_414000.out) hb); have n1_ := aM (Kd.R_below (rU HO441.out) hb); have n2_ := aM (Kd.R_below (rU HO446.out) hb); have n3_ := aM (Kd.R_below (rU HO450.out) hb); have n4_ := aM (blk_below (g := gb413) (o := .cells #[.slice Ao13 t408.length co13] 29 (0, 0)) (bU BK413.out) hb); have n5_ := aM (blk_below (g := gb443) (o := .cells #[.slice Ao107 t439.length co107] 29 (0, 0)) (bU BK443.out) hb); have n6_ := aM (below_step (by repeat (first | (with_reducible first | exact HB.out | apply aL | apply dN | apply dR | refine sT ?_ GE413.out | refine sT ?_ GE443.out) | exact HB.out)) hb); clear HO_414000; clear HO441; clear HO446; clear HO450; clear BK413; clear BK443; clear HB; have HO_414000 := n0_; have HO441 := n1_; have HO446 := n2_; have HO450 := n3_; have BK413 := n4_; have BK443 := n5_; have HB := n6_; clear n0_ n1_ n2_ n3_ n4_ n5_ n6_; cX) | ((with_reducible refine gate_callee (f := 80) rfl ?_); refine goesL_ (some 268) rfl rfl Tryd.func80 (by kernel_rfl) rfl #[.slice A1 l1.length c1] rfl (by mA) ?_; (with_reducible refine (spec_DrawFirstTick.calls kj44 _ _ l1 t462 t465 t466 _ ?side1 ?side2 A101.out).mono ?_); (case side1 => exact cU (Kd.C_below HR1.out HB.out)); (case side2 => exact HC1.out); rintro e w121 ⟨v463, rfl, ho0, hb⟩; refine ⟨_, rfl, ?_⟩; have n0_ := aM (Kd.R_elder' (rU HO_414000.out) (Kd.R_base ho0) hb); have n1_ := aM (Kd.R_elder' (rU HO441.out) (Kd.R_base ho0) hb); have n2_ := aM (Kd.R_elder' (rU HO446.out) (Kd.R_base ho0) hb); have n3_ := aM (Kd.R_elder' (rU HO450.out) (Kd.R_base ho0) hb); have n4_ := aM (Kd.R_lower (Kd.R_new' (Kd.R_new' (Kd.R_new' (Kd.R_new' ho0 (Kd.R_lt (rU HO_414000.out))) (Kd.R_lt (rU HO441.out))) (Kd.R_lt (rU HO446.out))) (Kd.R_lt (rU HO450.out))) (below_size (by repeat (first | (with_reducible first | exact HB.out | apply aL | apply dN | apply dR | refine sT ?_ GE413.out | refine sT ?_ GE443.out) | exact HB.out)))); have n5_ := aM (blk_below (g := gb413) (o := .cells #[.slice Ao13 t408.length co13] 29 (0, 0)) (bU BK413.out) hb); have n6_ := aM (blk_below (g := gb443) (o := .cells #[.slice Ao107 t439.length co107] 29 (0, 0)) (bU BK443.out) hb); have n7_ := aM (below_step (by repeat (first | (with_reducible first | exact HB.out | apply aL | apply dN | apply dR | refine sT ?_ GE413.out | refine sT ?_ GE443.out) | exact HB.out)) hb); clear HO_414000; clear HO441; clear HO446; clear HO450; clear BK413; clear BK443; clear HB; have HO_414000 := n0_; have HO441 := n1_; have HO446 := n2_; have HO450 := n3_; have HO464 := n4_; have BK413 := n5_; have BK443 := n6_; have HB := n7_; clear n0_ n1_ n2_ n3_ n4_ n5_ n6_ n7_; cX; (try clear ho0)) | ((with_reducible refine gate_dst (N := 40) rfl ?_); (try (refine gate_guard (by rfl) ?_; dsimp only)); refine box_event ?hg (N := 40) ?hd (cs := #[.slice none 0 0]) (t := 29) ?hr ?_; (case hd => rfl); (case hg => rfl); (case hr => first | (go_simp; done) | (go_simp; rfl)); intro gb467 hg w122 hbox hb; have n0_ := aM (Kd.R_below (rU HO_414000.out) hb); have n1_ := aM (Kd.R_below (rU HO441.out) hb); have n2_ := aM (Kd.R_below (rU HO446.out) hb); have n3_ := aM (Kd.R_below (rU HO450.out) hb); have n4_ := aM (Kd.R_below (rU HO464.out) hb); have n5_ := aM (blk_below (g := gb413) (o := .cells #[.slice Ao13 t408.length co13] 29 (0, 0)) (bU BK413.out) hb); have n6_ := aM (blk_below (g := gb443) (o := .cells #[.slice Ao107 t439.length co107] 29 (0, 0)) (bU BK443.out) hb); have n7_ := aM (below_step (by repeat (first | (with_reducible first | exact HB.out | apply aL | apply dN | apply dR | refine sT ?_ GE413.out | refine sT ?_ GE443.out) | exact HB.out)) hb); have n8_ := aM (hbox); have n9_ := aM ((by rw [hg]; exact (below_size (by repeat (first | (with_reducible first | exact HB.out | apply aL | apply dN | apply dR | refine sT ?_ GE413.out | refine sT ?_ GE443.out) | exact HB.out))) : w.heap.size ≤ gb467)); have n10_ := aM ((by rw [hg]; exact (below_size (by repeat (first | (with_reducible first | exact HB.out | apply aL | apply dN | apply dR | refine sT ?_ GE413.out | refine sT ?_ GE443.out) | exact HB.out))) : w.heap.size ≤ gb467)); have n11_ := aM ((by rw [hg]; exact Nat.ne_of_lt (blk_lt (g := gb413) (o := .cells #[.slice Ao13 t408.length co13] 29 (0, 0)) (bU BK413.out)) : gb413 ≠ gb467)); have n12_ := aM ((by rw [hg]; exact Nat.ne_of_gt (blk_lt (g := gb413) (o := .cells #[.slice Ao13 t408.length co13] 29 (0, 0)) (bU BK413.out)) : gb467 ≠ gb413)); have n13_ := aM ((by rw [hg]; exact Nat.ne_of_lt (blk_lt (g := gb443) (o := .cells #[.slice Ao107 t439.length co107] 29 (0, 0)) (bU BK443.out)) : gb443 ≠ gb467)); have n14_ := aM ((by rw [hg]; exact Nat.ne_of_gt (blk_lt (g := gb443) (o := .cells #[.slice Ao107 t439.length co107] 29 (0, 0)) (bU BK443.out)) : gb467 ≠ gb443)); clear HO_414000; clear HO441; clear HO446; clear HO450; clear HO464; clear BK413; clear BK443; clear HB; have HO_414000 := n0_; have HO441 := n1_; have HO446 := n2_; have HO450 := n3_; have HO464 := n4_; have BK413 := n5_; have BK443 := n6_; have HB := n7_; have BK467 := n8_; have GW467 := n9_; have GE467 := n10_; have NB413_467 := n11_; have NB467_413 := n12_; have NB443_467 := n13_; have NB467_443 := n14_; clear n0_ n1_ n2_ n3_ n4_ n5_ n6_ n7_ n8_ n9_ n10_ n11_ n12_ n13_ n14_; clear hb hbox hg; obtain ⟨Ao123, co123, eo123⟩ := Kd.R_slice HO464.out; subst eo123; have hnb124 := NB467_413.out; have hnc124 := NB413_467.out; have hnb125 := NB467_443.out; have hnc125 := NB443_467.out; have hcz126_0 : w122.cell? ⟨gb467, 0, none⟩ = some (.slice none 0 0) := (blk_cell BK467.out 0).trans rfl; have hfz126_0 := blk_frozen BK467.out 0) | ((with_reducible refine gate_callee (f := 38) rfl ?_); refine goesL_ (some 276) rfl rfl Tryd.func38 (by kernel_rfl) rfl #[.agg #[.slice Ao123 t462.length co123], .string t465, .int .i64 t466] rfl (by mA) ?_; (with_reducible refine (impl_FirstTick.calls _ _ t462 t465 t466 t468 t469 _ ?side1 ?side2 A102.out).mono ?_); (case side1 => refine (Kd.R_reads' (e := 9) (base := w.heap.size) (ok := fun k_ => ((((True ∧ some k_ ≠ (.slice Ao13 t408.length co13 : Value).ownBlock) ∧ some k_ ≠ (.slice Ao107 t439.length co107 : Value).ownBlock) ∧ some k_ ≠ (v445 : Value).ownBlock) ∧ some k_ ≠ (v449 : Value).ownBlock)) (n := t462.length) (c := co123) ?_).2.2; exact (rU (Kd.R_mono (Kd.R_far (p := ⟨gb467, 0, none⟩) (Kd.R_types HO464.out BK467.out (by decide)) (fun _ hk => hk.2) (.slice Ao123 t462.length co123)) (fun _ h_ => h_.1)))); (case side2 => exact (Kd.R_reads' HO464.out).2.1); rintro e w127 ⟨rfl, hb⟩; refine ⟨_, rfl, ?_⟩; have n0_ := aM (Kd.R_below (rU (Kd.R_mono (Kd.R_far (p := ⟨gb467, 0, none⟩) (Kd.R_types HO_414000.out BK467.out (by decide)) (fun _ hk => hk.2) (.slice Ao123 t462.length co123)) (fun _ h_ => h_.1))) hb); have n1_ := aM (Kd.R_below (rU (Kd.R_mono (Kd.R_far (p := ⟨gb467, 0, none⟩) (Kd.R_types HO441.out BK467.out (by decide)) (fun _ hk => hk.2) (.slice Ao123 t462.length co123)) (fun _ h_ => h_.1))) hb); have n2_ := aM (Kd.R_below (rU (Kd.R_mono (Kd.R_far (p := ⟨gb467, 0, none⟩) (Kd.R_types HO446.out BK467.out (by decide)) (fun _ hk => hk.2) (.slice Ao123 t462.length co123)) (fun _ h_ => h_.1))) hb); have n3_ := aM (Kd.R_below (rU (Kd.R_mono (Kd.R_far (p := ⟨gb467, 0, none⟩) (Kd.R_types HO450.out BK467.out (by decide)) (fun _ hk => hk.2) (.slice Ao123 t462.length co123)) (fun _ h_ => h_.1))) hb); have n4_ := aM (Kd.R_below (rU (Kd.R_mono (Kd.R_far (p := ⟨gb467, 0, none⟩) (Kd.R_types HO464.out BK467.out (by decide)) (fun _ hk => hk.2) (.slice Ao123 t462.length co123)) (fun _ h_ => h_.1))) hb); have n5_ := aM (blk_below (g := gb413) (o := .cells #[.slice Ao13 t408.length co13] 29 (0, 0)) (by (with_reducible repeat (first | refine blk_drewN ?_ _ | refine blk_drew ?_ | refine blk_alloc ?_ _)); refine blk_far ?_ NB413_467.out _; (with_reducible repeat (first | refine blk_drewN ?_ _ | refine blk_drew ?_ | refine blk_alloc ?_ _)); exact BK413.out) hb); have n6_ := aM (blk_below (g := gb443) (o := .cells #[.slice Ao107 t439.length co107] 29 (0, 0)) (by (with_reducible repeat (first | refine blk_drewN ?_ _ | refine blk_drew ?_ | refine blk_alloc ?_ _)); refine blk_far ?_ NB443_467.out _; (with_reducible repeat (first | refine blk_drewN ?_ _ | refine blk_drew ?_ | refine blk_alloc ?_ _)); exact BK443.out) hb); have n7_ := aM (blk_below (g := gb467) (o := .cells #[.slice Ao123 t462.length co123] 29 (0, 0)) (by (with_reducible repeat (first | refine blk_drewN ?_ _ | refine blk_drew ?_ | refine blk_alloc ?_ _)); refine blk_put (cs := #[.slice none 0 0]) ?_ 0 _ rfl; (with_reducible repeat (first | refine blk_drewN ?_ _ | refine blk_drew ?_ | refine blk_alloc ?_ _)); exact BK467.out) hb); have n8_ := aM (below_step (by repeat (first | (with_reducible first | exact HB.out | apply aL | apply dN | apply dR | refine sT ?_ GE413.out | refine sT ?_ GE443.out | refine sT ?_ GE467.out) | exact HB.out)) hb); clear HO_414000; clear HO441; clear HO446; clear HO450; clear HO464; clear BK413; clear BK443; clear BK467; clear HB; have HO_414000 := n0_; have HO441 := n1_; have HO446 := n2_; have HO450 := n3_; have HO464 := n4_; have BK413 := n5_; have BK443 := n6_; have BK467 := n7_; have HB := n8_; clear n0_ n1_ n2_ n3_ n4_ n5_ n6_ n7_ n8_; cX; have hcz128_0 : w127.cell? ⟨gb467, 0, none⟩ = some (.slice Ao123 t462.length co123) := (blk_cell BK467.out 0).trans rfl; have hfz128_0 := blk_frozen BK467.out 0) | ((with_reducible refine gate_callee (f := 39) rfl ?_); refine goesL_ (some 283) rfl rfl Tryd.func39 (by kernel_rfl) rfl #[.agg #[.slice Ao123 t462.length co123], .string t465, .int .i64 t466] rfl (by mA) ?_; (with_reducible refine (spec_FirstTick.calls kj44 _ _ t462 t465 t466 t470 t471 _ ?side1 ?side2 A103.out).mono ?_); (case side1 => exact cU (Kd.R_reads' HO464.out).2.2); (case side2 => exact (Kd.R_reads' HO464.out).2.1); rintro e w129 ⟨rfl, hb⟩; refine ⟨_, rfl, ?_⟩; have n0_ := aM (Kd.R_below (rU HO_414000.out) hb); have n1_ := aM (Kd.R_below (rU HO441.out) hb); have n2_ := aM (Kd.R_below (rU HO446.out) hb); have n3_ := aM (Kd.R_below (rU HO450.out) hb); have n4_ := aM (Kd.R_below (rU HO464.out) hb); have n5_ := aM (blk_below (g := gb413) (o := .cells #[.slice Ao13 t408.length co13] 29 (0, 0)) (bU BK413.out) hb); have n6_ := aM (blk_below (g := gb443) (o := .cells #[.slice Ao107 t439.length co107] 29 (0, 0)) (bU BK443.out) hb); have n7_ := aM (blk_below (g := gb467) (o := .cells #[.slice Ao123 t462.length co123] 29 (0, 0)) (bU BK467.out) hb); have n8_ := aM (below_step (by repeat (first | (with_reducible first | exact HB.out | apply aL | apply dN | apply dR | refine sT ?_ GE413.out | refine sT ?_ GE443.out | refine sT ?_ GE467.out) | exact HB.out)) hb); clear HO_414000; clear HO441; clear HO446; clear HO450; clear HO464; clear BK413; clear BK443; clear BK467; clear HB; have HO_414000 := n0_; have HO441 := n1_; have HO446 := n2_; have HO450 := n3_; have HO464 := n4_; have BK413 := n5_; have BK443 := n6_; have BK467 := n7_; have HB := n8_; clear n0_ n1_ n2_ n3_ n4_ n5_ n6_ n7_ n8_; cX))
       (try simp only [Act.put, List.setIfInBounds_toArray, List.set_cons_zero, List.set_cons_succ])
       go_cut [339] from 223 to 339 (fun v339 wc => ∃ (kq : Nat) (x339_103 : Bool), v339 = .bool x339_103 ∧ Aside0 (laws_FnLampsTick.j7 kq t442 t444 t447 t452 t453 t465 t466 t468 t469 x339_103 t439 t462 = some r) ∧ Aside0 (kq ≤ kj44) ∧ Aside0 (Kd.R Kd.string 9 wc w.heap.size (fun k_ => some k_ ≠ ((.slice Ao13 t408.length co13) : Value).ownBlock ∧ some k_ ≠ ((.slice Ao107 t439.length co107) : Value).ownBlock ∧ some k_ ≠ ((.slice Ao123 t462.length co123) : Value).ownBlock) v445 t444) ∧ Aside0 (Kd.R Kd.string 9 wc w.heap.size (fun k_ => some k_ ≠ (v445 : Value).ownBlock ∧ some k_ ≠ ((.slice Ao107 t439.length co107) : Value).ownBlock ∧ some k_ ≠ ((.slice Ao123 t462.length co123) : Value).ownBlock) (.slice Ao13 t408.length co13) t408) ∧ Aside0 (Kd.R Kd.string 9 wc w.heap.size (fun k_ => some k_ ≠ (v445 : Value).ownBlock ∧ some k_ ≠ ((.slice Ao13 t408.length co13) : Value).ownBlock ∧ some k_ ≠ ((.slice Ao123 t462.length co123) : Value).ownBlock) (.slice Ao107 t439.length co107) t439) ∧ Aside0 (Kd.R Kd.string 9 wc w.heap.size (fun k_ => some k_ ≠ (v445 : Value).ownBlock ∧ some k_ ≠ ((.slice Ao13 t408.length co13) : Value).ownBlock ∧ some k_ ≠ ((.slice Ao107 t439.length co107) : Value).ownBlock) (.slice Ao123 t462.length co123) t462) ∧ Aside0 (wc.heap[gb413]? = some (.cells #[(.slice Ao13 t408.length co13)] 29 (0, 0))) ∧ Aside0 (wc.heap[gb443]? = some (.cells #[(.slice Ao107 t439.length co107)] 29 (0, 0))) ∧ Aside0 (wc.heap[gb467]? = some (.cells #[(.slice Ao123 t462.length co123)] 29 (0, 0))) ∧ Aside0 (Below w.heap.size w wc))
       case first => as_aux_lemma =>
        have H := HC104.out
        clear HC104
        by_cases c130 : (t447 != t451) = true
        ·rw [if_pos c130] at H
         exact absurd H (by simp)
        ·rw [if_neg c130] at H
         have c130b0 : (t447 != t451) = false := by simpa using c130
         (try (have c130b1 : decide (t447 = t451) = true := by simpa using c130))
         (try (have c130b2 : (t447 == t451) = true := by simpa using c130))
         clear c130
         (first | rw [c130b0] | (simp only [i64_w, i32_w]; rw [c130b0]) | skip)
         replace H := Option.bind_eq_some_iff.mp H
         obtain ⟨t472, A1310, H⟩ := H
         replace H : (if t472 = true then (if (t454 != t457) = true then (none) else (if t452 = t455 then (if t453 = t456 then (if (t459 != t461) = true then (none) else (if t458.toList = t460.toList then (if (t469 != t471) = true then (none) else (if t468 = t470 then (if (t454 != t447) = true then (none) else (laws_FnLampsTick.j7 kj44 t442 t444 t447 t452 t453 t465 t466 t468 t469 (t459 != t447) t439 t462)) else (none))) else (none))) else (none)) else (none))) else (none)) = some r := H
         have A131 := aM A1310
         clear A1310
         by_cases c132 : t472 = true
         ·subst c132
          rw [if_pos rfl] at H
          by_cases c133 : (t454 != t457) = true
          ·rw [if_pos c133] at H
           exact absurd H (by simp)
          ·rw [if_neg c133] at H
           have c133b0 : (t454 != t457) = false := by simpa using c133
           (try (have c133b1 : decide (t454 = t457) = true := by simpa using c133))
           (try (have c133b2 : (t454 == t457) = true := by simpa using c133))
           clear c133
           by_cases c134 : t452 = t455
           ·rw [if_pos c134] at H
            have c134b0 : (t452 == t455) = true := beq_iff_eq.mpr c134
            have c134b1 : (t452 != t455) = false := bne_eq_false_iff_eq.mpr c134
            clear c134
            by_cases c135 : t453 = t456
            ·rw [if_pos c135] at H
             have c135b0 : (t453 == t456) = true := beq_iff_eq.mpr c135
             have c135b1 : (t453 != t456) = false := bne_eq_false_iff_eq.mpr c135
             clear c135
             by_cases c136 : (t459 != t461) = true
             ·rw [if_pos c136] at H
              exact absurd H (by simp)
             ·rw [if_neg c136] at H
              have c136b0 : (t459 != t461) = false := by simpa using c136
              (try (have c136b1 : decide (t459 = t461) = true := by simpa using c136))
              (try (have c136b2 : (t459 == t461) = true := by simpa using c136))
              clear c136
              by_cases c137 : t458.toList = t460.toList
              ·rw [if_pos c137] at H
               have c137b0 : (t458.toList == t460.toList) = true := beq_iff_eq.mpr c137
               have c137b1 : (t458.toList != t460.toList) = false := bne_eq_false_iff_eq.mpr c137
               clear c137
               by_cases c138 : (t469 != t471) = true
               ·rw [if_pos c138] at H
                exact absurd H (by simp)
               ·rw [if_neg c138] at H
                have c138b0 : (t469 != t471) = false := by simpa using c138
                (try (have c138b1 : decide (t469 = t471) = true := by simpa using c138))
                (try (have c138b2 : (t469 == t471) = true := by simpa using c138))
                clear c138
                by_cases c139 : t468 = t470
                ·rw [if_pos c139] at H
                 have c139b0 : (t468 == t470) = true := beq_iff_eq.mpr c139
                 have c139b1 : (t468 != t470) = false := bne_eq_false_iff_eq.mpr c139
                 clear c139
                 by_cases c140 : (t454 != t447) = true
                 ·rw [if_pos c140] at H
                  exact absurd H (by simp)
                 ·rw [if_neg c140] at H
                  have c140b0 : (t454 != t447) = false := by simpa using c140
                  (try (have c140b1 : decide (t454 = t447) = true := by simpa using c140))
                  (try (have c140b2 : (t454 == t447) = true := by simpa using c140))
                  clear c140
                  have H' := aM H
                  clear H
                  obtain ⟨Ao141, co141, eo141⟩ := Kd.R_slice HO446.out
                  subst eo141
                  obtain ⟨Ao142, co142, eo142⟩ := Kd.R_slice HO450.out
                  subst eo142
                  go_wp2_with (first | (go_at_call 40; (with_reducible refine (laws_xTexts.calls kj44 _ _ t444 _ _ t448 true _ ?side1 ?side2 ?side3 ?side4 A131.out).mono ?_); (case side1 => exact cU (Kd.R_reads' HO446.out).2.2); (case side2 => exact (Kd.R_reads' HO446.out).2.1); (case side3 => exact cU (Kd.R_reads' HO450.out).2.2); (case side4 => exact (Kd.R_reads' HO450.out).2.1); rintro e w' ⟨rfl, ⟨nd, rfl⟩⟩))
                  go_meet
                  case rel => exact ⟨_, ((t459 != t447)), (by rF), H', ⟨by have := HJ9.out; have := HJ44.out; first | omega | exact Nat.le_refl _⟩, ⟨by (rX); exact Kd.R_mono HO446.out (fun _ hk => ⟨hk.1.1.1.2, ⟨hk.1.1.2, hk.2⟩⟩)⟩, ⟨by (rX); exact Kd.R_mono HO_414000.out (fun _ hk => ⟨hk.1.1.2, ⟨hk.1.1.1.2, hk.2⟩⟩)⟩, ⟨by (rX); exact Kd.R_mono HO441.out (fun _ hk => ⟨hk.1.1.2, ⟨hk.1.1.1.2, hk.2⟩⟩)⟩, ⟨by (rX); exact Kd.R_mono HO464.out (fun _ hk => ⟨hk.1.2, ⟨hk.1.1.1.2, hk.1.1.2⟩⟩)⟩, ⟨by (with_reducible repeat (first | refine blk_drewN ?_ _ | refine blk_drew ?_ | refine blk_alloc ?_ _)); exact BK413.out⟩, ⟨by (with_reducible repeat (first | refine blk_drewN ?_ _ | refine blk_drew ?_ | refine blk_alloc ?_ _)); exact BK443.out⟩, ⟨by (with_reducible repeat (first | refine blk_drewN ?_ _ | refine blk_drew ?_ | refine blk_alloc ?_ _)); exact BK467.out⟩, ⟨by repeat (first | (with_reducible first | exact HB.out | apply aL | apply dN | apply dR | refine sT ?_ GE413.out | refine sT ?_ GE443.out | refine sT ?_ GE467.out) | exact HB.out)⟩⟩
                ·rw [if_neg c139] at H
                 exact absurd H (by simp)
              ·rw [if_neg c137] at H
               exact absurd H (by simp)
            ·rw [if_neg c135] at H
             exact absurd H (by simp)
           ·rw [if_neg c134] at H
            exact absurd H (by simp)
         ·replace c132 := Bool.eq_false_iff.mpr c132
          subst c132
          rw [if_neg (show ¬ (false = true) by decide)] at H
          exact absurd H (by simp)
       case rest => as_aux_lemma =>
        clear HC104
        tc c1 c2 p2 c3 c4 p4 q4 hx4 c5 c6 p6 q6 hx6 c7 p7 q7 hx7 hf7 c8 p8 q8 hx8 c9 p9 q9 hx9 c10 c12 c13 c14 c23 c26 c29 c30 c31 c32 c33 c34 c35 c36 c37 c38 c39 p43 q43 hx43 c44 c46 c47 c47b0 c47b1 c47b2 c50 c50b0 c51 c51b0 c51b1 c52 c52b0 c52b1 c55 c55b0 c60 c61 c62 c62b0 c63 c63b0 p64 q64 hx64 c65 c65b0 c66 c66b0 c67 c67b0 p68 q68 hx68 c69 c69b0 p70 q70 hx70 c71 c71b0 c71b1 c73 c73b0 p74 q74 hx74 hf74 c79 c79b0 c79b1 c80 c81 c83 c83b0 c84 c84b0 c85 c85b0 c86 c86b0 c87 c87b0 c88 c88b0 p89 q89 hx89 c90 c90b0 p91 q91 hx91 c92 c92b0 c92b1 c92b2 c108 c124 c125 c130 c130b0 c130b1 c130b2 c132 c133 c133b0 c133b1 c133b2 c134 c134b0 c134b1 c135 c135b0 c135b1 c136 c136b0 c136b1 c136b2 c137 c137b0 c137b1 c138 c138b0 c138b1 c138b2 c139 c139b0 c139b1 c140 c140b0 c140b1 c140b2 hcz109_0 hcz111_0 hcz113_0 hcz115_0 hcz117_0 hcz119_0 hcz126_0 hcz128_0 hcz58_0 hfz109_0 hfz111_0 hfz113_0 hfz115_0 hfz117_0 hfz119_0 hfz126_0 hfz128_0 hfz58_0 hx436_0 hx438_0 hx74_0 p2 p4 p43 p436 p438 p6 p64 p68 p7 p70 p74 p8 p89 p9 p91 q4 q43 q436 q438 q6 q64 q68 q7 q70 q74 q8 q89 q9 q91
        obtain ⟨kq, x339_103, rfl, HA, HJ103, HO_26, HO_414000, HO_444000, HO_468000, BK413, BK443, BK467, HB⟩ := hcut
        cases kq with
        | zero => exact absurd HA.out (by simp [laws_FnLampsTick.j7])
        | succ kj103 =>
         have H := HA.out
         clear HA
         simp only [laws_FnLampsTick.j7] at H
         by_cases c143 : x339_103 = true
         ·subst c143
          rw [if_pos rfl] at H
          exact absurd H (by simp)
         ·replace c143 := Bool.eq_false_iff.mpr c143
          subst c143
          rw [if_neg (show ¬ (false = true) by decide)] at H
          have HC144 := aM H
          clear H
          go_upto_if 340 with (fail)
          go_cut [] from 340 to 340 (fun wc => ∃ (kq : Nat), Aside0 (laws_FnLampsTick.j11 kq t465 t466 t468 t469 t462 = some r) ∧ Aside0 (kq ≤ kj103) ∧ Aside0 (Kd.R Kd.string 9 wc w.heap.size (fun k_ => some k_ ≠ ((.slice Ao107 t439.length co107) : Value).ownBlock ∧ some k_ ≠ ((.slice Ao123 t462.length co123) : Value).ownBlock) (.slice Ao13 t408.length co13) t408) ∧ Aside0 (Kd.R Kd.string 9 wc w.heap.size (fun k_ => some k_ ≠ ((.slice Ao13 t408.length co13) : Value).ownBlock ∧ some k_ ≠ ((.slice Ao123 t462.length co123) : Value).ownBlock) (.slice Ao107 t439.length co107) t439) ∧ Aside0 (Kd.R Kd.string 9 wc w.heap.size (fun k_ => some k_ ≠ ((.slice Ao13 t408.length co13) : Value).ownBlock ∧ some k_ ≠ ((.slice Ao107 t439.length co107) : Value).ownBlock) (.slice Ao123 t462.length co123) t462) ∧ Aside0 (wc.heap[gb413]? = some (.cells #[(.slice Ao13 t408.length co13)] 29 (0, 0))) ∧ Aside0 (wc.heap[gb443]? = some (.cells #[(.slice Ao107 t439.length co107)] 29 (0, 0))) ∧ Aside0 (wc.heap[gb467]? = some (.cells #[(.slice Ao123 t462.length co123)] 29 (0, 0))) ∧ Aside0 (Below w.heap.size w wc))
          case first => as_aux_lemma =>
           have H := HC144.out
           clear HC144
           by_cases c145 : t447 = true
           ·subst c145
            rw [if_pos rfl] at H
            have HC146 := aM H
            clear H
            go_upto_region 49 with (fail)
            go_cut [352] from 341 to 352 (fun v352 wc => ∃ (kq : Nat) (x352_145 : Bool), v352 = .bool x352_145 ∧ Aside0 (laws_FnLampsTick.j8 kq t442 t444 t452 t453 t465 t466 t468 t469 x352_145 t439 t462 = some r) ∧ Aside0 (kq ≤ kj103) ∧ Aside0 (Kd.R Kd.string 9 wc w.heap.size (fun k_ => some k_ ≠ ((.slice Ao13 t408.length co13) : Value).ownBlock ∧ some k_ ≠ ((.slice Ao107 t439.length co107) : Value).ownBlock ∧ some k_ ≠ ((.slice Ao123 t462.length co123) : Value).ownBlock) v445 t444) ∧ Aside0 (Kd.R Kd.string 9 wc w.heap.size (fun k_ => some k_ ≠ (v445 : Value).ownBlock ∧ some k_ ≠ ((.slice Ao107 t439.length co107) : Value).ownBlock ∧ some k_ ≠ ((.slice Ao123 t462.length co123) : Value).ownBlock) (.slice Ao13 t408.length co13) t408) ∧ Aside0 (Kd.R Kd.string 9 wc w.heap.size (fun k_ => some k_ ≠ (v445 : Value).ownBlock ∧ some k_ ≠ ((.slice Ao13 t408.length co13) : Value).ownBlock ∧ some k_ ≠ ((.slice Ao123 t462.length co123) : Value).ownBlock) (.slice Ao107 t439.length co107) t439) ∧ Aside0 (Kd.R Kd.string 9 wc w.heap.size (fun k_ => some k_ ≠ (v445 : Value).ownBlock ∧ some k_ ≠ ((.slice Ao13 t408.length co13) : Value).ownBlock ∧ some k_ ≠ ((.slice Ao107 t439.length co107) : Value).ownBlock) (.slice Ao123 t462.length co123) t462) ∧ Aside0 (wc.heap[gb413]? = some (.cells #[(.slice Ao13 t408.length co13)] 29 (0, 0))) ∧ Aside0 (wc.heap[gb443]? = some (.cells #[(.slice Ao107 t439.length co107)] 29 (0, 0))) ∧ Aside0 (wc.heap[gb467]? = some (.cells #[(.slice Ao123 t462.length co123)] 29 (0, 0))) ∧ Aside0 (Below w.heap.size w wc))
            case first => as_aux_lemma =>
             have H := HC146.out
             clear HC146
             by_cases c147 : (t444.length : Int) = t453
             ·rw [if_pos c147] at H
              have c147b0 : ((t444.length : Int) == t453) = true := beq_iff_eq.mpr c147
              have c147b1 : ((t444.length : Int) != t453) = false := bne_eq_false_iff_eq.mpr c147
              clear c147
              (first | rw [c147b0] | (simp only [i64_w, i32_w]; rw [c147b0]) | skip)
              by_cases c148 : t453 < 1
              ·rw [if_pos c148] at H
               exact absurd H (by simp)
              ·rw [if_neg c148] at H
               have c148b0 : decide (t453 < 1) = false := decide_eq_false c148
               clear c148
               have H' := aM H
               clear H
               obtain ⟨Ao149, co149, eo149⟩ := Kd.R_slice HO_26.out
               subst eo149
               go_wp2
               go_meet
               case rel => exact ⟨_, (decide (t452 < 0)), (by rF), H', ⟨by have := HJ9.out; have := HJ44.out; have := HJ103.out; first | omega | exact Nat.le_refl _⟩, ⟨by (rX); exact HO_26.out⟩, ⟨by (rX); exact HO_414000.out⟩, ⟨by (rX); exact HO_444000.out⟩, ⟨by (rX); exact HO_468000.out⟩, ⟨by (with_reducible repeat (first | refine blk_drewN ?_ _ | refine blk_drew ?_ | refine blk_alloc ?_ _)); exact BK413.out⟩, ⟨by (with_reducible repeat (first | refine blk_drewN ?_ _ | refine blk_drew ?_ | refine blk_alloc ?_ _)); exact BK443.out⟩, ⟨by (with_reducible repeat (first | refine blk_drewN ?_ _ | refine blk_drew ?_ | refine blk_alloc ?_ _)); exact BK467.out⟩, ⟨by repeat (first | (with_reducible first | exact HB.out | apply aL | apply dN | apply dR | refine sT ?_ GE413.out | refine sT ?_ GE443.out | refine sT ?_ GE467.out) | exact HB.out)⟩⟩
             ·rw [if_neg c147] at H
              exact absurd H (by simp)
            case rest => as_aux_lemma =>
             clear HC146
             tc c1 c2 p2 c3 c4 p4 q4 hx4 c5 c6 p6 q6 hx6 c7 p7 q7 hx7 hf7 c8 p8 q8 hx8 c9 p9 q9 hx9 c10 c12 c13 c14 c23 c26 c29 c30 c31 c32 c33 c34 c35 c36 c37 c38 c39 p43 q43 hx43 c44 c46 c47 c47b0 c47b1 c47b2 c50 c50b0 c51 c51b0 c51b1 c52 c52b0 c52b1 c55 c55b0 c60 c61 c62 c62b0 c63 c63b0 p64 q64 hx64 c65 c65b0 c66 c66b0 c67 c67b0 p68 q68 hx68 c69 c69b0 p70 q70 hx70 c71 c71b0 c71b1 c73 c73b0 p74 q74 hx74 hf74 c79 c79b0 c79b1 c80 c81 c83 c83b0 c84 c84b0 c85 c85b0 c86 c86b0 c87 c87b0 c88 c88b0 p89 q89 hx89 c90 c90b0 p91 q91 hx91 c92 c92b0 c92b1 c92b2 c108 c124 c125 c130 c130b0 c130b1 c130b2 c132 c133 c133b0 c133b1 c133b2 c134 c134b0 c134b1 c135 c135b0 c135b1 c136 c136b0 c136b1 c136b2 c137 c137b0 c137b1 c138 c138b0 c138b1 c138b2 c139 c139b0 c139b1 c140 c140b0 c140b1 c140b2 c143 c145 c147 c147b0 c147b1 c148 c148b0 hcz109_0 hcz111_0 hcz113_0 hcz115_0 hcz117_0 hcz119_0 hcz126_0 hcz128_0 hcz58_0 hfz109_0 hfz111_0 hfz113_0 hfz115_0 hfz117_0 hfz119_0 hfz126_0 hfz128_0 hfz58_0 hx436_0 hx438_0 hx74_0 p2 p4 p43 p436 p438 p6 p64 p68 p7 p70 p74 p8 p89 p9 p91 q4 q43 q436 q438 q6 q64 q68 q7 q70 q74 q8 q89 q9 q91
             obtain ⟨kq, x352_145, rfl, HA, HJ145, HO_26, HO_414000, HO_444000, HO_468000, BK413, BK443, BK467, HB⟩ := hcut
             cases kq with
             | zero => exact absurd HA.out (by simp [laws_FnLampsTick.j8])
             | succ kj145 =>
              have H := HA.out
              clear HA
              simp only [laws_FnLampsTick.j8] at H
              by_cases c150 : x352_145 = true
              ·subst c150
               rw [if_pos rfl] at H
               exact absurd H (by simp)
              ·replace c150 := Bool.eq_false_iff.mpr c150
               subst c150
               rw [if_neg (show ¬ (false = true) by decide)] at H
               have H' := aM H
               clear H
               obtain ⟨Ao151, co151, eo151⟩ := Kd.R_slice HO_26.out
               subst eo151
               go_wp2
               go_loopg [355] kj145 (fun kq v355 w' => ∃ (x355_5 : Int), v355 = .int .i64 x355_5 ∧ Aside0 (laws_FnLampsTick.l3 kq t442 t444 t452 t453 t465 t466 t468 t469 t444 (t444.length : Int) x355_5 t439 t462 = some r) ∧ Aside0 (kq ≤ kj145) ∧ Aside0 (Kd.R Kd.string 9 w' w.heap.size (fun k_ => some k_ ≠ ((.slice Ao13 t408.length co13) : Value).ownBlock ∧ some k_ ≠ ((.slice Ao107 t439.length co107) : Value).ownBlock ∧ some k_ ≠ ((.slice Ao123 t462.length co123) : Value).ownBlock) (.slice Ao151 t444.length co151) t444) ∧ Aside0 (Kd.R Kd.string 9 w' w.heap.size (fun k_ => some k_ ≠ ((.slice Ao13 t408.length co13) : Value).ownBlock ∧ some k_ ≠ ((.slice Ao107 t439.length co107) : Value).ownBlock ∧ some k_ ≠ ((.slice Ao123 t462.length co123) : Value).ownBlock) (.slice Ao151 t444.length co151) t444) ∧ Aside0 (Kd.R Kd.string 9 w' w.heap.size (fun k_ => some k_ ≠ ((.slice Ao151 t444.length co151) : Value).ownBlock ∧ some k_ ≠ ((.slice Ao151 t444.length co151) : Value).ownBlock ∧ some k_ ≠ ((.slice Ao107 t439.length co107) : Value).ownBlock ∧ some k_ ≠ ((.slice Ao123 t462.length co123) : Value).ownBlock) (.slice Ao13 t408.length co13) t408) ∧ Aside0 (Kd.R Kd.string 9 w' w.heap.size (fun k_ => some k_ ≠ ((.slice Ao151 t444.length co151) : Value).ownBlock ∧ some k_ ≠ ((.slice Ao151 t444.length co151) : Value).ownBlock ∧ some k_ ≠ ((.slice Ao13 t408.length co13) : Value).ownBlock ∧ some k_ ≠ ((.slice Ao123 t462.length co123) : Value).ownBlock) (.slice Ao107 t439.length co107) t439) ∧ Aside0 (Kd.R Kd.string 9 w' w.heap.size (fun k_ => some k_ ≠ ((.slice Ao151 t444.length co151) : Value).ownBlock ∧ some k_ ≠ ((.slice Ao151 t444.length co151) : Value).ownBlock ∧ some k_ ≠ ((.slice Ao13 t408.length co13) : Value).ownBlock ∧ some k_ ≠ ((.slice Ao107 t439.length co107) : Value).ownBlock) (.slice Ao123 t462.length co123) t462) ∧ Aside0 (w'.heap[gb413]? = some (.cells #[(.slice Ao13 t408.length co13)] 29 (0, 0))) ∧ Aside0 (w'.heap[gb443]? = some (.cells #[(.slice Ao107 t439.length co107)] 29 (0, 0))) ∧ Aside0 (w'.heap[gb467]? = some (.cells #[(.slice Ao123 t462.length co123)] 29 (0, 0))) ∧ Aside0 (Below w.heap.size w w'))
               case atStart => exact ⟨(0), (by rF), H', ⟨Nat.le_refl _⟩, ⟨by (rX); exact HO_26.out⟩, ⟨by (rX); exact HO_26.out⟩, ⟨by (rX); exact Kd.R_mono HO_414000.out (fun _ hk => ⟨hk.1, ⟨hk.1, ⟨hk.2.1, hk.2.2⟩⟩⟩)⟩, ⟨by (rX); exact Kd.R_mono HO_444000.out (fun _ hk => ⟨hk.1, ⟨hk.1, ⟨hk.2.1, hk.2.2⟩⟩⟩)⟩, ⟨by (rX); exact Kd.R_mono HO_468000.out (fun _ hk => ⟨hk.1, ⟨hk.1, ⟨hk.2.1, hk.2.2⟩⟩⟩)⟩, ⟨by (with_reducible repeat (first | refine blk_drewN ?_ _ | refine blk_drew ?_ | refine blk_alloc ?_ _)); exact BK413.out⟩, ⟨by (with_reducible repeat (first | refine blk_drewN ?_ _ | refine blk_drew ?_ | refine blk_alloc ?_ _)); exact BK443.out⟩, ⟨by (with_reducible repeat (first | refine blk_drewN ?_ _ | refine blk_drew ?_ | refine blk_alloc ?_ _)); exact BK467.out⟩, ⟨by repeat (first | (with_reducible first | exact HB.out | apply aL | apply dN | apply dR | refine sT ?_ GE413.out | refine sT ?_ GE443.out | refine sT ?_ GE467.out) | exact HB.out)⟩⟩
               case round => as_aux_lemma =>
                clear H'
                tc c1 c2 p2 c3 c4 p4 q4 hx4 c5 c6 p6 q6 hx6 c7 p7 q7 hx7 hf7 c8 p8 q8 hx8 c9 p9 q9 hx9 c10 c12 c13 c14 c15 c23 c26 c29 c30 c31 c32 c33 c34 c35 c36 c37 c38 c39 p43 q43 hx43 c44 c46 c47 c47b0 c47b1 c47b2 c50 c50b0 c51 c51b0 c51b1 c52 c52b0 c52b1 c55 c55b0 c60 c61 c62 c62b0 c63 c63b0 p64 q64 hx64 c65 c65b0 c66 c66b0 c67 c67b0 p68 q68 hx68 c69 c69b0 p70 q70 hx70 c71 c71b0 c71b1 c73 c73b0 p74 q74 hx74 hf74 c79 c79b0 c79b1 c80 c81 c83 c83b0 c84 c84b0 c85 c85b0 c86 c86b0 c87 c87b0 c88 c88b0 p89 q89 hx89 c90 c90b0 p91 q91 hx91 c92 c92b0 c92b1 c92b2 c108 c124 c125 c130 c130b0 c130b1 c130b2 c132 c133 c133b0 c133b1 c133b2 c134 c134b0 c134b1 c135 c135b0 c135b1 c136 c136b0 c136b1 c136b2 c137 c137b0 c137b1 c138 c138b0 c138b1 c138b2 c139 c139b0 c139b1 c140 c140b0 c140b1 c140b2 c143 c145 c147 c147b0 c147b1 c148 c148b0 c150 hcz109_0 hcz111_0 hcz113_0 hcz115_0 hcz117_0 hcz119_0 hcz126_0 hcz128_0 hcz58_0 hfz109_0 hfz111_0 hfz113_0 hfz115_0 hfz117_0 hfz119_0 hfz126_0 hfz128_0 hfz58_0 hx436_0 hx438_0 hx74_0 p2 p4 p43 p436 p438 p6 p64 p68 p7 p70 p74 p8 p89 p9 p91 q4 q43 q436 q438 q6 q64 q68 q7 q70 q74 q8 q89 q9 q91
                obtain ⟨x355_5, rfl, HA, HK5, HO_26, HO_353, HO_414000, HO_444000, HO_468000, BK413, BK443, BK467, HB⟩ := hrel
                cases gk with
                | zero => exact absurd HA.out (by simp [laws_FnLampsTick.l3])
                | succ k5 =>
                 have H := HA.out
                 clear HA
                 simp only [laws_FnLampsTick.l3] at H
                 by_cases c152 : x355_5 < (t444.length : Int)
                 ·rw [if_pos c152] at H
                  have c152b0 : decide (x355_5 < (t444.length : Int)) = true := decide_eq_true c152
                  try (have c152l := c152b0; simp only [hl12_47] at c152l)
                  clear c152
                  by_cases c153 : 0 ≤ x355_5
                  ·rw [if_pos c153] at H
                   have c153b0 : decide (0 ≤ x355_5) = true := decide_eq_true c153
                   clear c153
                   by_cases c154 : x355_5 < (t444.length : Int)
                   ·rw [if_pos c154] at H
                    have c154b0 : decide (x355_5 < (t444.length : Int)) = true := decide_eq_true c154
                    try (have c154l := c154b0; simp only [hl12_47] at c154l)
                    clear c154
                    replace H := Option.bind_eq_some_iff.mp H
                    obtain ⟨⟨t474, t475⟩, A1550, H⟩ := H
                    dsimp only at H
                    have A155 := aM A1550
                    clear A1550
                    by_cases c156 : t475 = true
                    ·subst c156
                     rw [if_pos rfl] at H
                     by_cases c157 : t453 = 0
                     ·rw [if_pos c157] at H
                      exact absurd H (by simp)
                     ·rw [if_neg c157] at H
                      have c157b0 : (t453 == 0) = false := beq_eq_false_iff_ne.mpr c157
                      have c157b1 : (t453 != 0) = true := bne_iff_ne.mpr c157
                      obtain ⟨ji158, hji158⟩ : ∃ j_ : Int, (Int.tmod (wrap64 (x355_5 + 1)) t453) = j_ := ⟨_, rfl⟩
                      replace H : (if 0 ≤ (ji158) then (if (ji158) < (t444.length : Int) then (if t474.toList = (rdOf ByteArray.empty t444 (ji158)).toList then (if 0 < (t444.length : Int) then (if (Op.bytesLess ((rdOf ByteArray.empty t444 x355_5).toList) ((rdOf ByteArray.empty t444 0).toList)) = true then (none) else (laws_FnLampsTick.l3 k5 t442 t444 t452 t453 t465 t466 t468 t469 t444 (t444.length : Int) (wrap64 (x355_5 + 1)) t439 t462)) else (none)) else (none)) else (none)) else (none)) = some r := by first | (rw [hji158] at H; exact H) | (simp only [hji158] at H ⊢; exact H)
                      (try rw [hji158] at A155)
                      by_cases c159 : 0 ≤ (ji158)
                      ·rw [if_pos c159] at H
                       have c159b0 : decide (0 ≤ (ji158)) = true := decide_eq_true c159
                       clear c159
                       by_cases c160 : (ji158) < (t444.length : Int)
                       ·rw [if_pos c160] at H
                        have c160b0 : decide ((ji158) < (t444.length : Int)) = true := decide_eq_true c160
                        try (have c160l := c160b0; simp only [hl12_47] at c160l)
                        clear c160
                        by_cases c161 : t474.toList = (rdOf ByteArray.empty t444 (ji158)).toList
                        ·rw [if_pos c161] at H
                         have c161b0 : (t474.toList == (rdOf ByteArray.empty t444 (ji158)).toList) = true := beq_iff_eq.mpr c161
                         have c161b1 : (t474.toList != (rdOf ByteArray.empty t444 (ji158)).toList) = false := bne_eq_false_iff_eq.mpr c161
                         clear c161
                         by_cases c162 : 0 < (t444.length : Int)
                         ·rw [if_pos c162] at H
                          have c162b0 : decide (0 < (t444.length : Int)) = true := decide_eq_true c162
                          try (have c162l := c162b0; simp only [hl12_47] at c162l)
                          have c162b1 : decide (0 < t444.length) = true := decide_eq_true (by omega)
                          clear c162
                          by_cases c163 : (Op.bytesLess ((rdOf ByteArray.empty t444 x355_5).toList) ((rdOf ByteArray.empty t444 0).toList)) = true
                          ·rw [if_pos c163] at H
                           exact absurd H (by simp)
                          ·rw [if_neg c163] at H
                           have c163b0 : (Op.bytesLess ((rdOf ByteArray.empty t444 x355_5).toList) ((rdOf ByteArray.empty t444 0).toList)) = false := by simpa using c163
                           clear c163
                           have H' := aM H
                           clear H
                           have p473 : 0 ≤ (x355_5 : Int) := of_decide_eq_true (by first | (with_reducible assumption) | assumption)
                           have q473 : x355_5 < (t444.length : Int) := of_decide_eq_true (by first | (with_reducible assumption) | assumption)
                           obtain ⟨ad473, e473, hx473_0⟩ := Kd.at_string (Kd.R_reads' HO_353.out).2.2 x355_5 p473 q473
                           cases e473
                           replace p473 := eq_true p473
                           replace q473 := eq_true q473
                           have hnb164 := NB443_413.out
                           have hnc164 := NB413_443.out
                           have hnb165 := NB443_467.out
                           have hnc165 := NB467_443.out
                           have hcz166_0 : wr.cell? ⟨gb443, 0, none⟩ = some (.slice Ao107 t439.length co107) := (blk_cell BK443.out 0).trans rfl
                           have hfz166_0 := blk_frozen BK443.out 0
                           go_wp2_with (first | ((with_reducible refine gate_callee (f := 32) rfl ?_); refine goesL_ (some 363) rfl rfl Tryd.func32 (by kernel_rfl) rfl #[.agg #[.slice Ao107 t439.length co107], .string (rdOf ByteArray.empty t444 x355_5)] rfl (by mA) ?_; (with_reducible refine (impl_TickOnce.calls _ _ t439 (rdOf ByteArray.empty t444 x355_5) t474 true _ ?side1 ?side2 A155.out).mono ?_); (case side1 => exact cU (Kd.R_reads' HO_444000.out).2.2); (case side2 => exact (Kd.R_reads' HO_444000.out).2.1); rintro e w167 ⟨rfl, hb⟩; refine ⟨_, rfl, ?_⟩; have n0_ := aM (Kd.R_below (rU HO_26.out) hb); have n1_ := aM (Kd.R_below (rU HO_353.out) hb); have n2_ := aM (Kd.R_below (rU HO_414000.out) hb); have n3_ := aM (Kd.R_below (rU HO_444000.out) hb); have n4_ := aM (Kd.R_below (rU HO_468000.out) hb); have n5_ := aM (blk_below (g := gb413) (o := .cells #[.slice Ao13 t408.length co13] 29 (0, 0)) (bU BK413.out) hb); have n6_ := aM (blk_below (g := gb443) (o := .cells #[.slice Ao107 t439.length co107] 29 (0, 0)) (bU BK443.out) hb); have n7_ := aM (blk_below (g := gb467) (o := .cells #[.slice Ao123 t462.length co123] 29 (0, 0)) (bU BK467.out) hb); have n8_ := aM (below_step (by repeat (first | (with_reducible first | exact HB.out | apply aL | apply dN | apply dR | refine sT ?_ GE413.out | refine sT ?_ GE443.out | refine sT ?_ GE467.out) | exact HB.out)) hb); clear HO_26; clear HO_353; clear HO_414000; clear HO_444000; clear HO_468000; clear BK413; clear BK443; clear BK467; clear HB; have HO_26 := n0_; have HO_353 := n1_; have HO_414000 := n2_; have HO_444000 := n3_; have HO_468000 := n4_; have BK413 := n5_; have BK443 := n6_; have BK467 := n7_; have HB := n8_; clear n0_ n1_ n2_ n3_ n4_ n5_ n6_ n7_ n8_; cX; have p476 : 0 ≤ ((ji158) : Int) := of_decide_eq_true (by first | (with_reducible assumption) | assumption); have q476 : (ji158) < (t444.length : Int) := of_decide_eq_true (by first | (with_reducible assumption) | assumption); obtain ⟨ad476, e476, hx476_0⟩ := Kd.at_string (Kd.R_reads' HO_26.out).2.2 (ji158) p476 q476; obtain rfl : ad473 = ad476 := (by injection e476); replace p476 := eq_true p476; replace q476 := eq_true q476; have p477 : 0 ≤ (0 : Int) := (by omega); have q477 : 0 < (t444.length : Int) := of_decide_eq_true (by first | (with_reducible assumption) | assumption); obtain ⟨ad477, e477, hx477_0⟩ := Kd.at_string (Kd.R_reads' HO_26.out).2.2 0 p477 q477; obtain rfl : ad473 = ad477 := (by injection e477); have qi477 : (0 < t444.length) = True := eq_true (by omega); (try rw [show ((0 : Int)).toNat = 0 from rfl] at hx477_0); (try rw [Addr.add_zero'] at hx477_0); replace p477 := eq_true p477; replace q477 := eq_true q477))
                           go_roundg k5
                           case measure => have := HJ9.out; have := HJ44.out; have := HJ103.out; have := HJ145.out; have := HK5.out; omega
                           case rel => exact ⟨(wrap64 (x355_5 + 1)), (by rF), H', ⟨by have := HJ9.out; have := HJ44.out; have := HJ103.out; have := HJ145.out; have := HK5.out; omega⟩, ⟨by (rX); exact HO_26.out⟩, ⟨by (rX); exact HO_353.out⟩, ⟨by (rX); exact HO_414000.out⟩, ⟨by (rX); exact HO_444000.out⟩, ⟨by (rX); exact HO_468000.out⟩, ⟨by (with_reducible repeat (first | refine blk_drewN ?_ _ | refine blk_drew ?_ | refine blk_alloc ?_ _)); exact BK413.out⟩, ⟨by (with_reducible repeat (first | refine blk_drewN ?_ _ | refine blk_drew ?_ | refine blk_alloc ?_ _)); exact BK443.out⟩, ⟨by (with_reducible repeat (first | refine blk_drewN ?_ _ | refine blk_drew ?_ | refine blk_alloc ?_ _)); exact BK467.out⟩, ⟨by repeat (first | (with_reducible first | exact HB.out | apply aL | apply dN | apply dR | refine sT ?_ GE413.out | refine sT ?_ GE443.out | refine sT ?_ GE467.out) | exact HB.out)⟩⟩
                         ·rw [if_neg c162] at H
                          exact absurd H (by simp)
                        ·rw [if_neg c161] at H
                         exact absurd H (by simp)
                       ·rw [if_neg c160] at H
                        exact absurd H (by simp)
                      ·rw [if_neg c159] at H
                       exact absurd H (by simp)
                    ·replace c156 := Bool.eq_false_iff.mpr c156
                     subst c156
                     rw [if_neg (show ¬ (false = true) by decide)] at H
                     exact absurd H (by simp)
                   ·rw [if_neg c154] at H
                    exact absurd H (by simp)
                  ·rw [if_neg c153] at H
                   exact absurd H (by simp)
                 ·rw [if_neg c152] at H
                  have c152b0 : decide (x355_5 < (t444.length : Int)) = false := decide_eq_false c152
                  try (have c152l := c152b0; simp only [hl12_47] at c152l)
                  clear c152
                  replace H := Option.bind_eq_some_iff.mp H
                  obtain ⟨⟨t478, t479⟩, A1680, H⟩ := H
                  dsimp only at H
                  have A168 := aM A1680
                  clear A1680
                  have HC169 := aM H
                  clear H
                  have hnb170 := NB443_413.out
                  have hnc170 := NB413_443.out
                  have hnb171 := NB443_467.out
                  have hnc171 := NB467_443.out
                  have hcz172_0 : wr.cell? ⟨gb443, 0, none⟩ = some (.slice Ao107 t439.length co107) := (blk_cell BK443.out 0).trans rfl
                  have hfz172_0 := blk_frozen BK443.out 0
                  go_upto_region 59 with (first | ((with_reducible refine gate_callee (f := 25) rfl ?_); refine goesL_ (some 391) rfl rfl Tryd.func25 (by kernel_rfl) rfl #[.agg #[.slice Ao107 t439.length co107], .string t442, .int .i64 t452] rfl (by mA) ?_; (with_reducible refine (impl_TicksAfter.calls k5 _ _ t439 t442 t452 t478 t479 _ ?side1 ?side2 A168.out).mono ?_); (case side1 => exact cU (Kd.R_reads' HO_444000.out).2.2); (case side2 => exact (Kd.R_reads' HO_444000.out).2.1); rintro e w173 ⟨rfl, hb⟩; refine ⟨_, rfl, ?_⟩; have n0_ := aM (Kd.R_below (rU HO_26.out) hb); have n1_ := aM (Kd.R_below (rU HO_353.out) hb); have n2_ := aM (Kd.R_below (rU HO_414000.out) hb); have n3_ := aM (Kd.R_below (rU HO_444000.out) hb); have n4_ := aM (Kd.R_below (rU HO_468000.out) hb); have n5_ := aM (blk_below (g := gb413) (o := .cells #[.slice Ao13 t408.length co13] 29 (0, 0)) (bU BK413.out) hb); have n6_ := aM (blk_below (g := gb443) (o := .cells #[.slice Ao107 t439.length co107] 29 (0, 0)) (bU BK443.out) hb); have n7_ := aM (blk_below (g := gb467) (o := .cells #[.slice Ao123 t462.length co123] 29 (0, 0)) (bU BK467.out) hb); have n8_ := aM (below_step (by repeat (first | (with_reducible first | exact HB.out | apply aL | apply dN | apply dR | refine sT ?_ GE413.out | refine sT ?_ GE443.out | refine sT ?_ GE467.out) | exact HB.out)) hb); clear HO_26; clear HO_353; clear HO_414000; clear HO_444000; clear HO_468000; clear BK413; clear BK443; clear BK467; clear HB; have HO_26 := n0_; have HO_353 := n1_; have HO_414000 := n2_; have HO_444000 := n3_; have HO_468000 := n4_; have BK413 := n5_; have BK443 := n6_; have BK467 := n7_; have HB := n8_; clear n0_ n1_ n2_ n3_ n4_ n5_ n6_ n7_ n8_; cX))
                  (try simp only [Act.put, List.setIfInBounds_toArray, List.set_cons_zero, List.set_cons_succ])
                  go_cut [401] from 353 to 401 (fun v401 wc => ∃ (kq : Nat) (x401_168 : Bool), v401 = .bool x401_168 ∧ Aside0 (laws_FnLampsTick.j10 kq t442 t444 t452 t465 t466 t468 t469 x401_168 t439 t462 = some r) ∧ Aside0 (kq ≤ k5) ∧ Aside0 (Kd.R Kd.string 9 wc w.heap.size (fun k_ => some k_ ≠ ((.slice Ao13 t408.length co13) : Value).ownBlock ∧ some k_ ≠ ((.slice Ao107 t439.length co107) : Value).ownBlock ∧ some k_ ≠ ((.slice Ao123 t462.length co123) : Value).ownBlock) (.slice Ao151 t444.length co151) t444) ∧ Aside0 (Kd.R Kd.string 9 wc w.heap.size (fun k_ => some k_ ≠ ((.slice Ao151 t444.length co151) : Value).ownBlock ∧ some k_ ≠ ((.slice Ao107 t439.length co107) : Value).ownBlock ∧ some k_ ≠ ((.slice Ao123 t462.length co123) : Value).ownBlock) (.slice Ao13 t408.length co13) t408) ∧ Aside0 (Kd.R Kd.string 9 wc w.heap.size (fun k_ => some k_ ≠ ((.slice Ao151 t444.length co151) : Value).ownBlock ∧ some k_ ≠ ((.slice Ao13 t408.length co13) : Value).ownBlock ∧ some k_ ≠ ((.slice Ao123 t462.length co123) : Value).ownBlock) (.slice Ao107 t439.length co107) t439) ∧ Aside0 (Kd.R Kd.string 9 wc w.heap.size (fun k_ => some k_ ≠ ((.slice Ao151 t444.length co151) : Value).ownBlock ∧ some k_ ≠ ((.slice Ao13 t408.length co13) : Value).ownBlock ∧ some k_ ≠ ((.slice Ao107 t439.length co107) : Value).ownBlock) (.slice Ao123 t462.length co123) t462) ∧ Aside0 (wc.heap[gb413]? = some (.cells #[(.slice Ao13 t408.length co13)] 29 (0, 0))) ∧ Aside0 (wc.heap[gb443]? = some (.cells #[(.slice Ao107 t439.length co107)] 29 (0, 0))) ∧ Aside0 (wc.heap[gb467]? = some (.cells #[(.slice Ao123 t462.length co123)] 29 (0, 0))) ∧ Aside0 (Below w.heap.size w wc))
                  case first => as_aux_lemma =>
                   have H := HC169.out
                   clear HC169
                   by_cases c174 : t479 = true
                   ·subst c174
                    rw [if_pos rfl] at H
                    replace H := Option.bind_eq_some_iff.mp H
                    obtain ⟨t480, A1750, H⟩ := H
                    replace H : (laws_FnLampsTick.j10 k5 t442 t444 t452 t465 t466 t468 t469 (!t480) t439 t462) = some r := H
                    have A175 := aM A1750
                    clear A1750
                    have H' := aM H
                    clear H
                    go_wp2_with (first | (go_at_call 41; (with_reducible refine (laws_xText.calls k5 _ _ t444 t478 t480 _ ?side1 ?side2 A175.out).mono ?_); (case side1 => exact cU (Kd.R_reads' HO_26.out).2.2); (case side2 => exact (Kd.R_reads' HO_26.out).2.1); rintro e w' ⟨rfl, ⟨nd, rfl⟩⟩))
                    go_meet
                    case rel => exact ⟨_, (!t480), (by rF), H', ⟨by have := HJ9.out; have := HJ44.out; have := HJ103.out; have := HJ145.out; have := HK5.out; first | omega | exact Nat.le_refl _⟩, ⟨by (rX); exact HO_26.out⟩, ⟨by (rX); exact Kd.R_mono HO_414000.out (fun _ hk => ⟨hk.1, ⟨hk.2.2.1, hk.2.2.2⟩⟩)⟩, ⟨by (rX); exact Kd.R_mono HO_444000.out (fun _ hk => ⟨hk.1, ⟨hk.2.2.1, hk.2.2.2⟩⟩)⟩, ⟨by (rX); exact Kd.R_mono HO_468000.out (fun _ hk => ⟨hk.1, ⟨hk.2.2.1, hk.2.2.2⟩⟩)⟩, ⟨by (with_reducible repeat (first | refine blk_drewN ?_ _ | refine blk_drew ?_ | refine blk_alloc ?_ _)); exact BK413.out⟩, ⟨by (with_reducible repeat (first | refine blk_drewN ?_ _ | refine blk_drew ?_ | refine blk_alloc ?_ _)); exact BK443.out⟩, ⟨by (with_reducible repeat (first | refine blk_drewN ?_ _ | refine blk_drew ?_ | refine blk_alloc ?_ _)); exact BK467.out⟩, ⟨by repeat (first | (with_reducible first | exact HB.out | apply aL | apply dN | apply dR | refine sT ?_ GE413.out | refine sT ?_ GE443.out | refine sT ?_ GE467.out) | exact HB.out)⟩⟩
                   ·replace c174 := Bool.eq_false_iff.mpr c174
                    subst c174
                    rw [if_neg (show ¬ (false = true) by decide)] at H
                    exact absurd H (by simp)
                  case rest => as_aux_lemma =>
                   clear HC169
                   tc c1 c2 p2 c3 c4 p4 q4 hx4 qi4 c5 c6 p6 q6 hx6 c7 p7 q7 hx7 hf7 c8 p8 q8 hx8 c9 p9 q9 hx9 c10 c12 c13 c14 c15 c16 c17 c23 c25 c26 c29 c30 c31 c32 c33 c34 c35 c36 c37 c38 c39 p43 q43 hx43 c44 c46 c47 c47b0 c47b1 c47b2 p47 q47 hx47 qi47 c50 c50b0 c51 c51b0 c51b1 c52 c52b0 c52b1 c55 c55b0 c60 c61 c62 c62b0 c63 c63b0 p64 q64 hx64 c65 c65b0 c66 c66b0 c67 c67b0 p68 q68 hx68 c69 c69b0 p70 q70 hx70 c71 c71b0 c71b1 c73 c73b0 p74 q74 hx74 hf74 c79 c79b0 c79b1 c80 c81 c83 c83b0 c84 c84b0 c85 c85b0 c86 c86b0 c87 c87b0 c88 c88b0 p89 q89 hx89 c90 c90b0 p91 q91 hx91 c92 c92b0 c92b1 c92b2 c108 c124 c125 c130 c130b0 c130b1 c130b2 c132 c133 c133b0 c133b1 c133b2 c134 c134b0 c134b1 c135 c135b0 c135b1 c136 c136b0 c136b1 c136b2 c137 c137b0 c137b1 c138 c138b0 c138b1 c138b2 c139 c139b0 c139b1 c140 c140b0 c140b1 c140b2 c143 c145 c147 c147b0 c147b1 c148 c148b0 c150 c152 c152b0 c153 c153b0 c154 c154b0 c156 c157 c157b0 c157b1 c159 c159b0 c160 c160b0 c161 c161b0 c161b1 c162 c162b0 c162b1 c163 c163b0 c164 c165 c170 c171 c174 hcz109_0 hcz111_0 hcz113_0 hcz115_0 hcz117_0 hcz119_0 hcz126_0 hcz128_0 hcz166_0 hcz172_0 hcz58_0 hfz109_0 hfz111_0 hfz113_0 hfz115_0 hfz117_0 hfz119_0 hfz126_0 hfz128_0 hfz166_0 hfz172_0 hfz58_0 hx436_0 hx438_0 hx473_0 hx476_0 hx477_0 hx74_0 p2 p4 p43 p436 p438 p473 p476 p477 p6 p64 p68 p7 p70 p74 p8 p89 p9 p91 q4 q43 q436 q438 q473 q476 q477 q6 q64 q68 q7 q70 q74 q8
                   tc q89 q9 q91
                   obtain ⟨kq, x401_168, rfl, HA, HJ168, HO_26, HO_414000, HO_444000, HO_468000, BK413, BK443, BK467, HB⟩ := hcut
                   cases kq with
                   | zero => exact absurd HA.out (by simp [laws_FnLampsTick.j10])
                   | succ kj168 =>
                    have H := HA.out
                    clear HA
                    simp only [laws_FnLampsTick.j10] at H
                    by_cases c176 : x401_168 = true
                    ·subst c176
                     rw [if_pos rfl] at H
                     exact absurd H (by simp)
                    ·replace c176 := Bool.eq_false_iff.mpr c176
                     subst c176
                     rw [if_neg (show ¬ (false = true) by decide)] at H
                     by_cases c177 : t452 > 0
                     ·rw [if_pos c177] at H
                      have c177b0 : decide (0 < t452) = true := decide_eq_true c177
                      clear c177
                      replace H := Option.bind_eq_some_iff.mp H
                      obtain ⟨⟨t481, t482⟩, A1780, H⟩ := H
                      dsimp only at H
                      have A178 := aM A1780
                      clear A1780
                      by_cases c179 : t482 = true
                      ·subst c179
                       rw [if_pos rfl] at H
                       replace H := Option.bind_eq_some_iff.mp H
                       obtain ⟨t483, A1800, H⟩ := H
                       replace H : (if t483 = true then (none) else (laws_FnLampsTick.j11 kj168 t465 t466 t468 t469 t462)) = some r := H
                       have A180 := aM A1800
                       clear A1800
                       by_cases c181 : t483 = true
                       ·subst c181
                        rw [if_pos rfl] at H
                        exact absurd H (by simp)
                       ·replace c181 := Bool.eq_false_iff.mpr c181
                        subst c181
                        rw [if_neg (show ¬ (false = true) by decide)] at H
                        have H' := aM H
                        clear H
                        have hnb182 := NB443_413.out
                        have hnc182 := NB413_443.out
                        have hnb183 := NB443_467.out
                        have hnc183 := NB467_443.out
                        have hcz184_0 : wc.cell? ⟨gb443, 0, none⟩ = some (.slice Ao107 t439.length co107) := (blk_cell BK443.out 0).trans rfl
                        have hfz184_0 := blk_frozen BK443.out 0
                        go_wp2_with (first | ((with_reducible refine gate_callee (f := 25) rfl ?_); refine goesL_ (some 409) rfl rfl Tryd.func25 (by kernel_rfl) rfl #[.agg #[.slice Ao107 t439.length co107], .string t442, .int .i64 (wrap64 (t452 - 1))] rfl (by mA) ?_; (with_reducible refine (impl_TicksAfter.calls kj168 _ _ t439 t442 (wrap64 (t452 - 1)) t481 true _ ?side1 ?side2 A178.out).mono ?_); (case side1 => exact cU (Kd.R_reads' HO_444000.out).2.2); (case side2 => exact (Kd.R_reads' HO_444000.out).2.1); rintro e w185 ⟨rfl, hb⟩; refine ⟨_, rfl, ?_⟩; have n0_ := aM (Kd.R_below (rU HO_26.out) hb); have n1_ := aM (Kd.R_below (rU HO_414000.out) hb); have n2_ := aM (Kd.R_below (rU HO_444000.out) hb); have n3_ := aM (Kd.R_below (rU HO_468000.out) hb); have n4_ := aM (blk_below (g := gb413) (o := .cells #[.slice Ao13 t408.length co13] 29 (0, 0)) (bU BK413.out) hb); have n5_ := aM (blk_below (g := gb443) (o := .cells #[.slice Ao107 t439.length co107] 29 (0, 0)) (bU BK443.out) hb); have n6_ := aM (blk_below (g := gb467) (o := .cells #[.slice Ao123 t462.length co123] 29 (0, 0)) (bU BK467.out) hb); have n7_ := aM (below_step (by repeat (first | (with_reducible first | exact HB.out | apply aL | apply dN | apply dR | refine sT ?_ GE413.out | refine sT ?_ GE443.out | refine sT ?_ GE467.out) | exact HB.out)) hb); clear HO_26; clear HO_414000; clear HO_444000; clear HO_468000; clear BK413; clear BK443; clear BK467; clear HB; have HO_26 := n0_; have HO_414000 := n1_; have HO_444000 := n2_; have HO_468000 := n3_; have BK413 := n4_; have BK443 := n5_; have BK467 := n6_; have HB := n7_; clear n0_ n1_ n2_ n3_ n4_ n5_ n6_ n7_; cX) | (go_at_call 41; (with_reducible refine (laws_xText.calls kj168 _ _ t444 t481 false _ ?side1 ?side2 A180.out).mono ?_); (case side1 => exact cU (Kd.R_reads' HO_26.out).2.2); (case side2 => exact (Kd.R_reads' HO_26.out).2.1); rintro e w' ⟨rfl, ⟨nd, rfl⟩⟩))
                        go_meet
                        case rel => exact ⟨_, H', ⟨by have := HJ9.out; have := HJ44.out; have := HJ103.out; have := HJ145.out; have := HK5.out; have := HJ168.out; first | omega | exact Nat.le_refl _⟩, ⟨by (rX); exact Kd.R_mono HO_414000.out (fun _ hk => ⟨hk.2.1, hk.2.2⟩)⟩, ⟨by (rX); exact Kd.R_mono HO_444000.out (fun _ hk => ⟨hk.2.1, hk.2.2⟩)⟩, ⟨by (rX); exact Kd.R_mono HO_468000.out (fun _ hk => ⟨hk.2.1, hk.2.2⟩)⟩, ⟨by (with_reducible repeat (first | refine blk_drewN ?_ _ | refine blk_drew ?_ | refine blk_alloc ?_ _)); exact BK413.out⟩, ⟨by (with_reducible repeat (first | refine blk_drewN ?_ _ | refine blk_drew ?_ | refine blk_alloc ?_ _)); exact BK443.out⟩, ⟨by (with_reducible repeat (first | refine blk_drewN ?_ _ | refine blk_drew ?_ | refine blk_alloc ?_ _)); exact BK467.out⟩, ⟨by repeat (first | (with_reducible first | exact HB.out | apply aL | apply dN | apply dR | refine sT ?_ GE413.out | refine sT ?_ GE443.out | refine sT ?_ GE467.out) | exact HB.out)⟩⟩
                      ·replace c179 := Bool.eq_false_iff.mpr c179
                       subst c179
                       rw [if_neg (show ¬ (false = true) by decide)] at H
                       exact absurd H (by simp)
                     ·rw [if_neg c177] at H
                      have c177b0 : decide (0 < t452) = false := decide_eq_false c177
                      clear c177
                      have H' := aM H
                      clear H
                      go_wp2
                      go_meet
                      case rel => exact ⟨_, H', ⟨by have := HJ9.out; have := HJ44.out; have := HJ103.out; have := HJ145.out; have := HK5.out; have := HJ168.out; first | omega | exact Nat.le_refl _⟩, ⟨by (rX); exact Kd.R_mono HO_414000.out (fun _ hk => ⟨hk.2.1, hk.2.2⟩)⟩, ⟨by (rX); exact Kd.R_mono HO_444000.out (fun _ hk => ⟨hk.2.1, hk.2.2⟩)⟩, ⟨by (rX); exact Kd.R_mono HO_468000.out (fun _ hk => ⟨hk.2.1, hk.2.2⟩)⟩, ⟨by (with_reducible repeat (first | refine blk_drewN ?_ _ | refine blk_drew ?_ | refine blk_alloc ?_ _)); exact BK413.out⟩, ⟨by (with_reducible repeat (first | refine blk_drewN ?_ _ | refine blk_drew ?_ | refine blk_alloc ?_ _)); exact BK443.out⟩, ⟨by (with_reducible repeat (first | refine blk_drewN ?_ _ | refine blk_drew ?_ | refine blk_alloc ?_ _)); exact BK467.out⟩, ⟨by repeat (first | (with_reducible first | exact HB.out | apply aL | apply dN | apply dR | refine sT ?_ GE413.out | refine sT ?_ GE443.out | refine sT ?_ GE467.out) | exact HB.out)⟩⟩
           ·replace c145 := Bool.eq_false_iff.mpr c145
            subst c145
            rw [if_neg (show ¬ (false = true) by decide)] at H
            have H' := aM H
            clear H
            go_wp2
            go_meet
            case rel => exact ⟨_, H', ⟨by have := HJ9.out; have := HJ44.out; have := HJ103.out; first | omega | exact Nat.le_refl _⟩, ⟨by (rX); exact Kd.R_mono HO_414000.out (fun _ hk => ⟨hk.2.1, hk.2.2⟩)⟩, ⟨by (rX); exact Kd.R_mono HO_444000.out (fun _ hk => ⟨hk.2.1, hk.2.2⟩)⟩, ⟨by (rX); exact Kd.R_mono HO_468000.out (fun _ hk => ⟨hk.2.1, hk.2.2⟩)⟩, ⟨by (with_reducible repeat (first | refine blk_drewN ?_ _ | refine blk_drew ?_ | refine blk_alloc ?_ _)); exact BK413.out⟩, ⟨by (with_reducible repeat (first | refine blk_drewN ?_ _ | refine blk_drew ?_ | refine blk_alloc ?_ _)); exact BK443.out⟩, ⟨by (with_reducible repeat (first | refine blk_drewN ?_ _ | refine blk_drew ?_ | refine blk_alloc ?_ _)); exact BK467.out⟩, ⟨by repeat (first | (with_reducible first | exact HB.out | apply aL | apply dN | apply dR | refine sT ?_ GE413.out | refine sT ?_ GE443.out | refine sT ?_ GE467.out) | exact HB.out)⟩⟩
          case rest => as_aux_lemma =>
           clear HC144
           tc c1 c2 p2 c3 c4 p4 q4 hx4 qi4 c5 c6 p6 q6 hx6 c7 p7 q7 hx7 hf7 c8 p8 q8 hx8 c9 p9 q9 hx9 c10 c12 c13 c14 c15 c16 c17 c18 c23 c25 c26 c29 c30 c31 c32 c33 c34 c35 c36 c37 c38 c39 p43 q43 hx43 c44 c46 c47 c47b0 c47b1 c47b2 p47 q47 hx47 qi47 c50 c50b0 c51 c51b0 c51b1 c52 c52b0 c52b1 c55 c55b0 c60 c61 c62 c62b0 c63 c63b0 p64 q64 hx64 c65 c65b0 c66 c66b0 c67 c67b0 p68 q68 hx68 c69 c69b0 p70 q70 hx70 c71 c71b0 c71b1 c73 c73b0 p74 q74 hx74 hf74 c79 c79b0 c79b1 c80 c81 c83 c83b0 c84 c84b0 c85 c85b0 c86 c86b0 c87 c87b0 c88 c88b0 p89 q89 hx89 c90 c90b0 p91 q91 hx91 c92 c92b0 c92b1 c92b2 c108 c124 c125 c130 c130b0 c130b1 c130b2 c132 c133 c133b0 c133b1 c133b2 c134 c134b0 c134b1 c135 c135b0 c135b1 c136 c136b0 c136b1 c136b2 c137 c137b0 c137b1 c138 c138b0 c138b1 c138b2 c139 c139b0 c139b1 c140 c140b0 c140b1 c140b2 c143 c145 c147 c147b0 c147b1 c148 c148b0 c150 c152 c152b0 c153 c153b0 c154 c154b0 c156 c157 c157b0 c157b1 c159 c159b0 c160 c160b0 c161 c161b0 c161b1 c162 c162b0 c162b1 c163 c163b0 c164 c165 c170 c171 c174 c176 c177 c177b0 c179 c181 c182 c183 hcz109_0 hcz111_0 hcz113_0 hcz115_0 hcz117_0 hcz119_0 hcz126_0 hcz128_0 hcz166_0 hcz172_0 hcz184_0 hcz58_0 hfz109_0 hfz111_0 hfz113_0 hfz115_0 hfz117_0 hfz119_0 hfz126_0 hfz128_0 hfz166_0 hfz172_0 hfz184_0 hfz58_0 hx436_0 hx438_0 hx473_0 hx476_0 hx477_0 hx74_0 p2 p4 p43 p436 p438 p47 p473 p476 p477 p6 p64 p68 p7 p70 p74 p8 p89 p9 p91 q4 q43
           tc q436 q438 q47 q473 q476 q477 q6 q64 q68 q7 q70 q74 q8 q89 q9 q91
           obtain ⟨kq, HA, HJ143, HO_414000, HO_444000, HO_468000, BK413, BK443, BK467, HB⟩ := hcut
           cases kq with
           | zero => exact absurd HA.out (by simp [laws_FnLampsTick.j11])
           | succ kj143 =>
            have H := HA.out
            clear HA
            simp only [laws_FnLampsTick.j11] at H
            by_cases c186 : t469 = true
            ·subst c186
             rw [if_pos rfl] at H
             replace H := Option.bind_eq_some_iff.mp H
             obtain ⟨⟨t484, t485⟩, A1870, H⟩ := H
             dsimp only at H
             have A187 := aM A1870
             clear A1870
             by_cases c188 : t485 = true
             ·subst c188
              rw [if_pos rfl] at H
              by_cases c189 : 0 ≤ t466
              ·rw [if_pos c189] at H
               have c189b0 : decide (0 ≤ t466) = true := decide_eq_true c189
               clear c189
               by_cases c190 : t466 < (t484.size : Int)
               ·rw [if_pos c190] at H
                have c190b0 : decide (t466 < (t484.size : Int)) = true := decide_eq_true c190
                clear c190
                by_cases c192 : (bt t484 t466) = 49
                ·rw [if_pos c192] at H
                 have c192b0 : ((bt t484 t466) == 49) = true := beq_iff_eq.mpr c192
                 have c192b1 : ((bt t484 t466) != 49) = false := bne_eq_false_iff_eq.mpr c192
                 clear c192
                 by_cases c193 : t468 > 0
                 ·rw [if_pos c193] at H
                  have c193b0 : decide (0 < t468) = true := decide_eq_true c193
                  clear c193
                  replace H := Option.bind_eq_some_iff.mp H
                  obtain ⟨⟨t486, t487⟩, A1940, H⟩ := H
                  dsimp only at H
                  have A194 := aM A1940
                  clear A1940
                  by_cases c195 : t487 = true
                  ·subst c195
                   rw [if_pos rfl] at H
                   by_cases c196 : t466 < (t486.size : Int)
                   ·rw [if_pos c196] at H
                    have c196b0 : decide (t466 < (t486.size : Int)) = true := decide_eq_true c196
                    clear c196
                    by_cases c198 : (bt t486 t466) = 48
                    ·rw [if_pos c198] at H
                     have c198b0 : ((bt t486 t466) == 48) = true := beq_iff_eq.mpr c198
                     have c198b1 : ((bt t486 t466) != 48) = false := bne_eq_false_iff_eq.mpr c198
                     clear c198
                     obtain rfl := Option.some.inj H
                     have hnb199 := NB467_413.out
                     have hnc199 := NB413_467.out
                     have hnb200 := NB467_443.out
                     have hnc200 := NB443_467.out
                     have hcz201_0 : wc.cell? ⟨gb467, 0, none⟩ = some (.slice Ao123 t462.length co123) := (blk_cell BK467.out 0).trans rfl
                     have hfz201_0 := blk_frozen BK467.out 0
                     go_wp2_with (first | ((with_reducible refine gate_callee (f := 25) rfl ?_); refine goesL_ (some 424) rfl rfl Tryd.func25 (by kernel_rfl) rfl #[.agg #[.slice Ao123 t462.length co123], .string t465, .int .i64 t468] rfl (by mA) ?_; (with_reducible refine (impl_TicksAfter.calls kj143 _ _ t462 t465 t468 t484 true _ ?side1 ?side2 A187.out).mono ?_); (case side1 => exact cU (Kd.R_reads' HO_468000.out).2.2); (case side2 => exact (Kd.R_reads' HO_468000.out).2.1); rintro e w202 ⟨rfl, hb⟩; refine ⟨_, rfl, ?_⟩; have n0_ := aM (Kd.R_below (rU HO_414000.out) hb); have n1_ := aM (Kd.R_below (rU HO_444000.out) hb); have n2_ := aM (Kd.R_below (rU HO_468000.out) hb); have n3_ := aM (blk_below (g := gb413) (o := .cells #[.slice Ao13 t408.length co13] 29 (0, 0)) (bU BK413.out) hb); have n4_ := aM (blk_below (g := gb443) (o := .cells #[.slice Ao107 t439.length co107] 29 (0, 0)) (bU BK443.out) hb); have n5_ := aM (blk_below (g := gb467) (o := .cells #[.slice Ao123 t462.length co123] 29 (0, 0)) (bU BK467.out) hb); have n6_ := aM (below_step (by repeat (first | (with_reducible first | exact HB.out | apply aL | apply dN | apply dR | refine sT ?_ GE413.out | refine sT ?_ GE443.out | refine sT ?_ GE467.out) | exact HB.out)) hb); clear HO_414000; clear HO_444000; clear HO_468000; clear BK413; clear BK443; clear BK467; clear HB; have HO_414000 := n0_; have HO_444000 := n1_; have HO_468000 := n2_; have BK413 := n3_; have BK443 := n4_; have BK467 := n5_; have HB := n6_; clear n0_ n1_ n2_ n3_ n4_ n5_ n6_; cX; have p191 : 0 ≤ (t466 : Int) := of_decide_eq_true (by first | (with_reducible assumption) | assumption); have q191 : t466 < (t484.size : Int) := of_decide_eq_true (by first | (with_reducible assumption) | assumption); have hx191 := bt_at t484 t466; replace p191 := eq_true p191; replace q191 := eq_true q191; have hcz203_0 : w202.cell? ⟨gb467, 0, none⟩ = some (.slice Ao123 t462.length co123) := (blk_cell BK467.out 0).trans rfl; have hfz203_0 := blk_frozen BK467.out 0) | ((with_reducible refine gate_callee (f := 25) rfl ?_); refine goesL_ (some 442) rfl rfl Tryd.func25 (by kernel_rfl) rfl #[.agg #[.slice Ao123 t462.length co123], .string t465, .int .i64 (wrap64 (t468 - 1))] rfl (by mA) ?_; (with_reducible refine (impl_TicksAfter.calls kj143 _ _ t462 t465 (wrap64 (t468 - 1)) t486 true _ ?side1 ?side2 A194.out).mono ?_); (case side1 => exact cU (Kd.R_reads' HO_468000.out).2.2); (case side2 => exact (Kd.R_reads' HO_468000.out).2.1); rintro e w204 ⟨rfl, hb⟩; refine ⟨_, rfl, ?_⟩; have n0_ := aM (Kd.R_below (rU HO_414000.out) hb); have n1_ := aM (Kd.R_below (rU HO_444000.out) hb); have n2_ := aM (Kd.R_below (rU HO_468000.out) hb); have n3_ := aM (blk_below (g := gb413) (o := .cells #[.slice Ao13 t408.length co13] 29 (0, 0)) (bU BK413.out) hb); have n4_ := aM (blk_below (g := gb443) (o := .cells #[.slice Ao107 t439.length co107] 29 (0, 0)) (bU BK443.out) hb); have n5_ := aM (blk_below (g := gb467) (o := .cells #[.slice Ao123 t462.length co123] 29 (0, 0)) (bU BK467.out) hb); have n6_ := aM (below_step (by repeat (first | (with_reducible first | exact HB.out | apply aL | apply dN | apply dR | refine sT ?_ GE413.out | refine sT ?_ GE443.out | refine sT ?_ GE467.out) | exact HB.out)) hb); clear HO_414000; clear HO_444000; clear HO_468000; clear BK413; clear BK443; clear BK467; clear HB; have HO_414000 := n0_; have HO_444000 := n1_; have HO_468000 := n2_; have BK413 := n3_; have BK443 := n4_; have BK467 := n5_; have HB := n6_; clear n0_ n1_ n2_ n3_ n4_ n5_ n6_; cX; have p197 : 0 ≤ (t466 : Int) := of_decide_eq_true (by first | (with_reducible assumption) | assumption); have q197 : t466 < (t486.size : Int) := of_decide_eq_true (by first | (with_reducible assumption) | assumption); have hx197 := bt_at t486 t466; replace p197 := eq_true p197; replace q197 := eq_true q197))
                     go_ret
                     exact ⟨by eW, by repeat (first | (with_reducible first | exact HB.out | apply aL | apply dN | apply dR | refine sT ?_ GE413.out | refine sT ?_ GE443.out | refine sT ?_ GE467.out) | exact HB.out)⟩
                    ·rw [if_neg c198] at H
                     exact absurd H (by simp)
                   ·rw [if_neg c196] at H
                    exact absurd H (by simp)
                  ·replace c195 := Bool.eq_false_iff.mpr c195
                   subst c195
                   rw [if_neg (show ¬ (false = true) by decide)] at H
                   exact absurd H (by simp)
                 ·rw [if_neg c193] at H
                  have c193b0 : decide (0 < t468) = false := decide_eq_false c193
                  clear c193
                  obtain rfl := Option.some.inj H
                  have hnb205 := NB467_413.out
                  have hnc205 := NB413_467.out
                  have hnb206 := NB467_443.out
                  have hnc206 := NB443_467.out
                  have hcz207_0 : wc.cell? ⟨gb467, 0, none⟩ = some (.slice Ao123 t462.length co123) := (blk_cell BK467.out 0).trans rfl
                  have hfz207_0 := blk_frozen BK467.out 0
                  go_wp2_with (first | ((with_reducible refine gate_callee (f := 25) rfl ?_); refine goesL_ (some 424) rfl rfl Tryd.func25 (by kernel_rfl) rfl #[.agg #[.slice Ao123 t462.length co123], .string t465, .int .i64 t468] rfl (by mA) ?_; (with_reducible refine (impl_TicksAfter.calls kj143 _ _ t462 t465 t468 t484 true _ ?side1 ?side2 A187.out).mono ?_); (case side1 => exact cU (Kd.R_reads' HO_468000.out).2.2); (case side2 => exact (Kd.R_reads' HO_468000.out).2.1); rintro e w208 ⟨rfl, hb⟩; refine ⟨_, rfl, ?_⟩; have n0_ := aM (Kd.R_below (rU HO_414000.out) hb); have n1_ := aM (Kd.R_below (rU HO_444000.out) hb); have n2_ := aM (Kd.R_below (rU HO_468000.out) hb); have n3_ := aM (blk_below (g := gb413) (o := .cells #[.slice Ao13 t408.length co13] 29 (0, 0)) (bU BK413.out) hb); have n4_ := aM (blk_below (g := gb443) (o := .cells #[.slice Ao107 t439.length co107] 29 (0, 0)) (bU BK443.out) hb); have n5_ := aM (blk_below (g := gb467) (o := .cells #[.slice Ao123 t462.length co123] 29 (0, 0)) (bU BK467.out) hb); have n6_ := aM (below_step (by repeat (first | (with_reducible first | exact HB.out | apply aL | apply dN | apply dR | refine sT ?_ GE413.out | refine sT ?_ GE443.out | refine sT ?_ GE467.out) | exact HB.out)) hb); clear HO_414000; clear HO_444000; clear HO_468000; clear BK413; clear BK443; clear BK467; clear HB; have HO_414000 := n0_; have HO_444000 := n1_; have HO_468000 := n2_; have BK413 := n3_; have BK443 := n4_; have BK467 := n5_; have HB := n6_; clear n0_ n1_ n2_ n3_ n4_ n5_ n6_; cX; have p191 : 0 ≤ (t466 : Int) := of_decide_eq_true (by first | (with_reducible assumption) | assumption); have q191 : t466 < (t484.size : Int) := of_decide_eq_true (by first | (with_reducible assumption) | assumption); have hx191 := bt_at t484 t466; replace p191 := eq_true p191; replace q191 := eq_true q191))
                  go_ret
                  exact ⟨by eW, by repeat (first | (with_reducible first | exact HB.out | apply aL | apply dN | apply dR | refine sT ?_ GE413.out | refine sT ?_ GE443.out | refine sT ?_ GE467.out) | exact HB.out)⟩
                ·rw [if_neg c192] at H
                 exact absurd H (by simp)
               ·rw [if_neg c190] at H
                exact absurd H (by simp)
              ·rw [if_neg c189] at H
               exact absurd H (by simp)
             ·replace c188 := Bool.eq_false_iff.mpr c188
              subst c188
              rw [if_neg (show ¬ (false = true) by decide)] at H
              exact absurd H (by simp)
            ·replace c186 := Bool.eq_false_iff.mpr c186
             subst c186
             rw [if_neg (show ¬ (false = true) by decide)] at H
             obtain rfl := Option.some.inj H
             go_wp2
             go_ret
             exact ⟨by eW, by repeat (first | (with_reducible first | exact HB.out | apply aL | apply dN | apply dR | refine sT ?_ GE413.out | refine sT ?_ GE443.out | refine sT ?_ GE467.out) | exact HB.out)⟩

/-- THE ONE PURE STATEMENT of laws_FnLampsTick: yours. -/
def laws_FnLampsTick.Pure : Prop := ∀ (l0 : List Int) (l1 : List Int), l0.length ≤ maxLen → l0.length * 1 ≤ 140737488351232 → (∀ x ∈ l0, (Lit.int .u8 x).wf = true) → l1.length ≤ maxLen → l1.length * 1 ≤ 140737488351232 → (∀ x ∈ l1, (Lit.int .u8 x).wf = true) → ∃ k, laws_FnLampsTick.f k l0 l1 = some true
end Go.Proofs.YtifdgebdkhdmhaaDoor.PLTick
