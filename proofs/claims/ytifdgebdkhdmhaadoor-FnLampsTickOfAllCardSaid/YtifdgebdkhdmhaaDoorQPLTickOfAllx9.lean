-- squeezed; PRINTED by drive.py (a program of this session's, over the kit's print.py; wip/tools/drive.py). Lean checks it.
import Derived.Test.YtifdgebdkhdmhaaDoorQPLTickOfAllx0
import Derived.Test.YtifdgebdkhdmhaaDoorQPLTickOfAllx1
import Derived.Test.YtifdgebdkhdmhaaDoorQPLTickOfAllx2
import Derived.Test.YtifdgebdkhdmhaaDoorQPLTickOfAllx3
import Derived.Test.YtifdgebdkhdmhaaDoorQPLTickOfAllx4
import Derived.Test.YtifdgebdkhdmhaaDoorQPLTickOfAllx5
import Derived.Test.YtifdgebdkhdmhaaDoorQPLTickOfAllx6
import Derived.Test.YtifdgebdkhdmhaaDoorQPLTickOfAllx7
import Derived.Test.YtifdgebdkhdmhaaDoorQRange
import Derived.Test.YtifdgebdkhdmhaaDoorQPLTickOfAllx8
import Derived.Test.YtifdgebdkhdmhaaDoorQUp
namespace Go.Proofs.YtifdgebdkhdmhaaDoor.PLTickOfAll
open Go.RowKit Go.Proofs.YtifdgebdkhdmhaaDoorW.PrintWords Go.Proofs.YtifdgebdkhdmhaaDoorW.PrintLast Go.Proofs.YtifdgebdkhdmhaaDoorW.PrintMore
attribute [local go_sem] max2_int min2_int max_two min_two max_three min_three max_four min_four   -- for this text's walks alone
set_option linter.unusedVariables false
set_option linter.unusedSimpArgs false

set_option maxHeartbeats 8000000 in
set_option maxRecDepth 100000 in
theorem laws_FnLampsTickOfAll.calls (k : Nat) (A0_0 : Option Addr) (c0_0 : Nat) (l0_0 : List ByteArray) (a1 : ByteArray) (a2 : Int) (A3_0 : Option Addr) (c3_0 : Nat) (l3_0 : List ByteArray) (a4 : ByteArray) (A5_0 : Option Addr) (c5_0 : Nat) (l5_0 : List ByteArray) (a6 : ByteArray) (a7 : Int) (r : Bool) (w : World) (hr0_0 : Kd.C Kd.string w A0_0 l0_0.length l0_0) (hc0_0 : l0_0.length ≤ c0_0) (hr3_0 : Kd.C Kd.string w A3_0 l3_0.length l3_0) (hc3_0 : l3_0.length ≤ c3_0) (hr5_0 : Kd.C Kd.string w A5_0 l5_0.length l5_0) (hc5_0 : l5_0.length ≤ c5_0) (h : laws_FnLampsTickOfAll.f k l0_0 a1 a2 l3_0 a4 l5_0 a6 a7 = some r) :
  Calls Tryd.prog 5 #[.agg #[.slice A0_0 l0_0.length c0_0], .string a1, .int .i64 a2, .agg #[.slice A3_0 l3_0.length c3_0], .string a4, .agg #[.slice A5_0 l5_0.length c5_0], .string a6, .int .i64 a7] w fun e w' => e = .returned (.bool r) ∧ Below w.heap.size w w' := by
 have hu29 := Tryd.underlying29
 have HR0_0 := aM hr0_0
 have HC0_0 := aM hc0_0
 clear hr0_0 hc0_0
 have HR3_0 := aM hr3_0
 have HC3_0 := aM hc3_0
 clear hr3_0 hc3_0
 have HR5_0 := aM hr5_0
 have HC5_0 := aM hc5_0
 clear hr5_0 hc5_0
 have HB := aM (Below.refl w.heap.size w)
 have H : (if (a1.size : Int) > 1048576 then (laws_FnLampsTickOfAll.j0 k a1 a2 a4 a6 a7 true l0_0 l3_0 l5_0) else (if (a4.size : Int) > 1048576 then (laws_FnLampsTickOfAll.j0 k a1 a2 a4 a6 a7 true l0_0 l3_0 l5_0) else (laws_FnLampsTickOfAll.j0 k a1 a2 a4 a6 a7 (decide ((a6.size : Int) > 1048576)) l0_0 l3_0 l5_0))) = some r := h
 clear h
 have HC9 := aM H
 clear H
 go_enter Tryd.func5, Tryd.ntmps5
 go_upto_region 1 with (first | ((with_reducible refine gate_dst (N := 8) rfl ?_); (try (refine gate_guard (by rfl) ?_; dsimp only)); refine box_event ?hg (N := 8) ?hd (cs := #[.slice A0_0 l0_0.length c0_0]) (t := 29) ?hr ?_; (case hd => rfl); (case hg => rfl); (case hr => first | (go_simp; done) | (go_simp; rfl)); intro gb232 hg w10 hbox hb; have n0_ := aM (below_step (by repeat (first | (with_reducible first | exact HB.out | apply aL | apply dN | apply dR) | exact HB.out)) hb); have n1_ := aM (hbox); have n2_ := aM ((by rw [hg]; exact (below_size (by repeat (first | (with_reducible first | exact HB.out | apply aL | apply dN | apply dR) | exact HB.out))) : w.heap.size ≤ gb232)); have n3_ := aM ((by rw [hg]; exact (below_size (by repeat (first | (with_reducible first | exact HB.out | apply aL | apply dN | apply dR) | exact HB.out))) : w.heap.size ≤ gb232)); clear HB; have HB := n0_; have BK232 := n1_; have GW232 := n2_; have GE232 := n3_; clear n0_ n1_ n2_ n3_; clear hb hbox hg) | ((with_reducible refine gate_dst (N := 11) rfl ?_); (try (refine gate_guard (by rfl) ?_; dsimp only)); refine box_event ?hg (N := 11) ?hd (cs := #[.slice A3_0 l3_0.length c3_0]) (t := 29) ?hr ?_; (case hd => rfl); (case hg => rfl); (case hr => first | (go_simp; done) | (go_simp; rfl)); intro gb233 hg w11 hbox hb; have n0_ := aM (blk_below (g := gb232) (o := .cells #[.slice A0_0 l0_0.length c0_0] 29 (0, 0)) (bU BK232.out) hb); have n1_ := aM (below_step (by repeat (first | (with_reducible first | exact HB.out | apply aL | apply dN | apply dR | refine sT ?_ GE232.out) | exact HB.out)) hb); have n2_ := aM (hbox); have n3_ := aM ((by rw [hg]; exact (below_size (by repeat (first | (with_reducible first | exact HB.out | apply aL | apply dN | apply dR | refine sT ?_ GE232.out) | exact HB.out))) : w.heap.size ≤ gb233)); have n4_ := aM ((by rw [hg]; exact (below_size (by repeat (first | (with_reducible first | exact HB.out | apply aL | apply dN | apply dR | refine sT ?_ GE232.out) | exact HB.out))) : w.heap.size ≤ gb233)); have n5_ := aM ((by rw [hg]; exact Nat.ne_of_lt (blk_lt (g := gb232) (o := .cells #[.slice A0_0 l0_0.length c0_0] 29 (0, 0)) (bU BK232.out)) : gb232 ≠ gb233)); have n6_ := aM ((by rw [hg]; exact Nat.ne_of_gt (blk_lt (g := gb232) (o := .cells #[.slice A0_0 l0_0.length c0_0] 29 (0, 0)) (bU BK232.out)) : gb233 ≠ gb232)); clear BK232; clear HB; have BK232 := n0_; have HB := n1_; have BK233 := n2_; have GW233 := n3_; have GE233 := n4_; have NB232_233 := n5_; have NB233_232 := n6_; clear n0_ n1_ n2_ n3_ n4_ n5_ n6_; clear hb hbox hg) | ((with_reducible refine gate_dst (N := 13) rfl ?_); (try (refine gate_guard (by rfl) ?_; dsimp only)); refine box_event ?hg (N := 13) ?hd (cs := #[.slice A5_0 l5_0.length c5_0]) (t := 29) ?hr ?_; (case hd => rfl); (case hg => rfl); (case hr => first | (go_simp; done) | (go_simp; rfl)); intro gb234 hg w12 hbox hb; have n0_ := aM (blk_below (g := gb232) (o := .cells #[.slice A0_0 l0_0.length c0_0] 29 (0, 0)) (bU BK232.out) hb); have n1_ := aM (blk_below (g := gb233) (o := .cells #[.slice A3_0 l3_0.length c3_0] 29 (0, 0)) (bU BK233.out) hb); have n2_ := aM (below_step (by repeat (first | (with_reducible first | exact HB.out | apply aL | apply dN | apply dR | refine sT ?_ GE232.out | refine sT ?_ GE233.out) | exact HB.out)) hb); have n3_ := aM (hbox); have n4_ := aM ((by rw [hg]; exact (below_size (by repeat (first | (with_reducible first | exact HB.out | apply aL | apply dN | apply dR | refine sT ?_ GE232.out | refine sT ?_ GE233.out) | exact HB.out))) : w.heap.size ≤ gb234)); have n5_ := aM ((by rw [hg]; exact (below_size (by repeat (first | (with_reducible first | exact HB.out | apply aL | apply dN | apply dR | refine sT ?_ GE232.out | refine sT ?_ GE233.out) | exact HB.out))) : w.heap.size ≤ gb234)); have n6_ := aM ((by rw [hg]; exact Nat.ne_of_lt (blk_lt (g := gb232) (o := .cells #[.slice A0_0 l0_0.length c0_0] 29 (0, 0)) (bU BK232.out)) : gb232 ≠ gb234)); have n7_ := aM ((by rw [hg]; exact Nat.ne_of_gt (blk_lt (g := gb232) (o := .cells #[.slice A0_0 l0_0.length c0_0] 29 (0, 0)) (bU BK232.out)) : gb234 ≠ gb232)); have n8_ := aM ((by rw [hg]; exact Nat.ne_of_lt (blk_lt (g := gb233) (o := .cells #[.slice A3_0 l3_0.length c3_0] 29 (0, 0)) (bU BK233.out)) : gb233 ≠ gb234)); have n9_ := aM ((by rw [hg]; exact Nat.ne_of_gt (blk_lt (g := gb233) (o := .cells #[.slice A3_0 l3_0.length c3_0] 29 (0, 0)) (bU BK233.out)) : gb234 ≠ gb233)); clear BK232; clear BK233; clear HB; have BK232 := n0_; have BK233 := n1_; have HB := n2_; have BK234 := n3_; have GW234 := n4_; have GE234 := n5_; have NB232_234 := n6_; have NB234_232 := n7_; have NB233_234 := n8_; have NB234_233 := n9_; clear n0_ n1_ n2_ n3_ n4_ n5_ n6_ n7_ n8_ n9_; clear hb hbox hg))
 (try simp only [Act.put, List.setIfInBounds_toArray, List.set_cons_zero, List.set_cons_succ])
 go_cut [75] from 63 to 75 (fun v75 wc => ∃ (kq : Nat) (x75_8 : Bool), v75 = .bool x75_8 ∧ Aside0 (laws_FnLampsTickOfAll.j0 kq a1 a2 a4 a6 a7 x75_8 l0_0 l3_0 l5_0 = some r) ∧ Aside0 (kq ≤ k) ∧ Aside0 (wc.heap[gb232]? = some (.cells #[(.slice A0_0 l0_0.length c0_0)] 29 (0, 0))) ∧ Aside0 (wc.heap[gb233]? = some (.cells #[(.slice A3_0 l3_0.length c3_0)] 29 (0, 0))) ∧ Aside0 (wc.heap[gb234]? = some (.cells #[(.slice A5_0 l5_0.length c5_0)] 29 (0, 0))) ∧ Aside0 (Below w.heap.size w wc))
 case first => as_aux_lemma =>
  have H := HC9.out
  clear HC9
  by_cases c13 : (a1.size : Int) > 1048576
  ·rw [if_pos c13] at H
   have c13b0 : decide (1048576 < (a1.size : Int)) = true := decide_eq_true c13
   have c13b1 : decide (1048576 < a1.size) = true := decide_eq_true (by omega)
   clear c13
   (first | rw [c13b0] | (simp only [i64_w, i32_w]; rw [c13b0]) | skip)
   have H' := aM H
   clear H
   go_wp2
   go_meet
   case rel => exact ⟨_, (true), (by first | rfl | (simp; done) | (simp [*]; done)), H', ⟨by first | omega | exact Nat.le_refl _⟩, ⟨by (with_reducible repeat (first | refine blk_drewN ?_ _ | refine blk_drew ?_ | refine blk_alloc ?_ _)); exact BK232.out⟩, ⟨by (with_reducible repeat (first | refine blk_drewN ?_ _ | refine blk_drew ?_ | refine blk_alloc ?_ _)); exact BK233.out⟩, ⟨by (with_reducible repeat (first | refine blk_drewN ?_ _ | refine blk_drew ?_ | refine blk_alloc ?_ _)); exact BK234.out⟩, ⟨by repeat (first | (with_reducible first | exact HB.out | apply aL | apply dN | apply dR | refine sT ?_ GE232.out | refine sT ?_ GE233.out | refine sT ?_ GE234.out) | exact HB.out)⟩⟩
  ·rw [if_neg c13] at H
   have c13b0 : decide (1048576 < (a1.size : Int)) = false := decide_eq_false c13
   have c13b1 : decide (1048576 < a1.size) = false := decide_eq_false (by omega)
   clear c13
   (first | rw [c13b0] | (simp only [i64_w, i32_w]; rw [c13b0]) | skip)
   by_cases c14 : (a4.size : Int) > 1048576
   ·rw [if_pos c14] at H
    have c14b0 : decide (1048576 < (a4.size : Int)) = true := decide_eq_true c14
    have c14b1 : decide (1048576 < a4.size) = true := decide_eq_true (by omega)
    clear c14
    have H' := aM H
    clear H
    go_wp2
    go_meet
    case rel => exact ⟨_, (true), (by first | rfl | (simp; done) | (simp [*]; done)), H', ⟨by first | omega | exact Nat.le_refl _⟩, ⟨by (with_reducible repeat (first | refine blk_drewN ?_ _ | refine blk_drew ?_ | refine blk_alloc ?_ _)); exact BK232.out⟩, ⟨by (with_reducible repeat (first | refine blk_drewN ?_ _ | refine blk_drew ?_ | refine blk_alloc ?_ _)); exact BK233.out⟩, ⟨by (with_reducible repeat (first | refine blk_drewN ?_ _ | refine blk_drew ?_ | refine blk_alloc ?_ _)); exact BK234.out⟩, ⟨by repeat (first | (with_reducible first | exact HB.out | apply aL | apply dN | apply dR | refine sT ?_ GE232.out | refine sT ?_ GE233.out | refine sT ?_ GE234.out) | exact HB.out)⟩⟩
   ·rw [if_neg c14] at H
    have c14b0 : decide (1048576 < (a4.size : Int)) = false := decide_eq_false c14
    have c14b1 : decide (1048576 < a4.size) = false := decide_eq_false (by omega)
    clear c14
    have H' := aM H
    clear H
    go_wp2
    go_meet
    case rel => exact ⟨_, (decide ((a6.size : Int) > 1048576)), (by first | rfl | (simp; done) | (simp [*]; done)), H', ⟨by first | omega | exact Nat.le_refl _⟩, ⟨by (with_reducible repeat (first | refine blk_drewN ?_ _ | refine blk_drew ?_ | refine blk_alloc ?_ _)); exact BK232.out⟩, ⟨by (with_reducible repeat (first | refine blk_drewN ?_ _ | refine blk_drew ?_ | refine blk_alloc ?_ _)); exact BK233.out⟩, ⟨by (with_reducible repeat (first | refine blk_drewN ?_ _ | refine blk_drew ?_ | refine blk_alloc ?_ _)); exact BK234.out⟩, ⟨by repeat (first | (with_reducible first | exact HB.out | apply aL | apply dN | apply dR | refine sT ?_ GE232.out | refine sT ?_ GE233.out | refine sT ?_ GE234.out) | exact HB.out)⟩⟩
 case rest => as_aux_lemma =>
  clear HC9
  try clear c1;try clear p2;try clear c3;try clear c5;try clear c13;try clear c13b0;try clear c13b1;try clear c14;try clear c14b0;try clear c14b1
  obtain ⟨kq, x75_8, rfl, HA, HJ8, BK232, BK233, BK234, HB⟩ := hcut
  cases kq with
  | zero => exact absurd HA.out (by simp [laws_FnLampsTickOfAll.j0])
  | succ kj8 =>
   have H := HA.out
   clear HA
   simp only [laws_FnLampsTickOfAll.j0] at H
   by_cases c15 : x75_8 = true
   ·subst c15
    have H1 : (some true) = some r := by rw [if_pos rfl] at H; exact H
    clear H
    have H := H1
    clear H1
    obtain rfl := Option.some.inj H
    go_wp2
    go_ret
    exact ⟨by first | rfl | (simp [errW_none, errW_some] <;> rfl) | (simp [*, errW_none, errW_some] <;> rfl), by repeat (first | (with_reducible first | exact HB.out | apply aL | apply dN | apply dR | refine sT ?_ GE232.out | refine sT ?_ GE233.out | refine sT ?_ GE234.out) | exact HB.out)⟩
   ·replace c15 := Bool.eq_false_iff.mpr c15
    subst c15
    have H1 : ((impl_TicksAfter.f kj8 l0_0 a1 a2).bind fun bt235 => ((spec_TicksAfter.f kj8 l0_0 a1 a2).bind fun bt237 => ((impl_TimesChanging.f kj8 l0_0 a1 a2).bind fun bt239 => ((spec_TimesChanging.f kj8 l0_0 a1 a2).bind fun bt243 => (if (bt235.2 != bt237.2) = true then (none) else (if bt235.1.toList = bt237.1.toList then (if (bt239.2 != bt243.2) = true then (none) else ((laws_xSame.f kj8 bt239.1 bt243.1).bind fun t247 => (if t247 = true then (if (bt239.2 != bt235.2) = true then (none) else ((impl_AreLamps.f l0_0).bind fun t248 => ((spec_AreLamps.f l0_0).bind fun t249 => (if (t248 != t249) = true then (none) else (if bt235.2 = true then ((impl_AreLamps.f l0_0).bind fun t250 => (laws_FnLampsTickOfAll.j1 kj8 a1 a2 a4 a6 a7 bt235.1 bt235.2 bt239.1 (!t250) l0_0 l3_0 l5_0)) else (laws_FnLampsTickOfAll.j1 kj8 a1 a2 a4 a6 a7 bt235.1 bt235.2 bt239.1 false l0_0 l3_0 l5_0)))))) else (none)))) else (none))))))) = some r := by rw [if_neg (show ¬ (false = true) by decide)] at H; exact H
    clear H
    have H := H1
    clear H1
    replace H := Option.bind_eq_some_iff.mp H
    obtain ⟨⟨t235, t236⟩, A160, H⟩ := H
    replace H : ((spec_TicksAfter.f kj8 l0_0 a1 a2).bind fun bt237 => ((impl_TimesChanging.f kj8 l0_0 a1 a2).bind fun bt239 => ((spec_TimesChanging.f kj8 l0_0 a1 a2).bind fun bt243 => (if (t236 != bt237.2) = true then (none) else (if t235.toList = bt237.1.toList then (if (bt239.2 != bt243.2) = true then (none) else ((laws_xSame.f kj8 bt239.1 bt243.1).bind fun t247 => (if t247 = true then (if (bt239.2 != t236) = true then (none) else ((impl_AreLamps.f l0_0).bind fun t248 => ((spec_AreLamps.f l0_0).bind fun t249 => (if (t248 != t249) = true then (none) else (if t236 = true then ((impl_AreLamps.f l0_0).bind fun t250 => (laws_FnLampsTickOfAll.j1 kj8 a1 a2 a4 a6 a7 t235 t236 bt239.1 (!t250) l0_0 l3_0 l5_0)) else (laws_FnLampsTickOfAll.j1 kj8 a1 a2 a4 a6 a7 t235 t236 bt239.1 false l0_0 l3_0 l5_0)))))) else (none)))) else (none)))))) = some r := H
    have A16 := aM A160
    clear A160
    replace H := Option.bind_eq_some_iff.mp H
    obtain ⟨⟨t237, t238⟩, A170, H⟩ := H
    replace H : ((impl_TimesChanging.f kj8 l0_0 a1 a2).bind fun bt239 => ((spec_TimesChanging.f kj8 l0_0 a1 a2).bind fun bt243 => (if (t236 != t238) = true then (none) else (if t235.toList = t237.toList then (if (bt239.2 != bt243.2) = true then (none) else ((laws_xSame.f kj8 bt239.1 bt243.1).bind fun t247 => (if t247 = true then (if (bt239.2 != t236) = true then (none) else ((impl_AreLamps.f l0_0).bind fun t248 => ((spec_AreLamps.f l0_0).bind fun t249 => (if (t248 != t249) = true then (none) else (if t236 = true then ((impl_AreLamps.f l0_0).bind fun t250 => (laws_FnLampsTickOfAll.j1 kj8 a1 a2 a4 a6 a7 t235 t236 bt239.1 (!t250) l0_0 l3_0 l5_0)) else (laws_FnLampsTickOfAll.j1 kj8 a1 a2 a4 a6 a7 t235 t236 bt239.1 false l0_0 l3_0 l5_0)))))) else (none)))) else (none))))) = some r := H
    have A17 := aM A170
    clear A170
    replace H := Option.bind_eq_some_iff.mp H
    obtain ⟨⟨t239, t242⟩, A180, H⟩ := H
    replace H : ((spec_TimesChanging.f kj8 l0_0 a1 a2).bind fun bt243 => (if (t236 != t238) = true then (none) else (if t235.toList = t237.toList then (if (t242 != bt243.2) = true then (none) else ((laws_xSame.f kj8 t239 bt243.1).bind fun t247 => (if t247 = true then (if (t242 != t236) = true then (none) else ((impl_AreLamps.f l0_0).bind fun t248 => ((spec_AreLamps.f l0_0).bind fun t249 => (if (t248 != t249) = true then (none) else (if t236 = true then ((impl_AreLamps.f l0_0).bind fun t250 => (laws_FnLampsTickOfAll.j1 kj8 a1 a2 a4 a6 a7 t235 t236 t239 (!t250) l0_0 l3_0 l5_0)) else (laws_FnLampsTickOfAll.j1 kj8 a1 a2 a4 a6 a7 t235 t236 t239 false l0_0 l3_0 l5_0)))))) else (none)))) else (none)))) = some r := H
    have A18 := aM A180
    clear A180
    replace H := Option.bind_eq_some_iff.mp H
    obtain ⟨⟨t243, t246⟩, A190, H⟩ := H
    replace H : (if (t236 != t238) = true then (none) else (if t235.toList = t237.toList then (if (t242 != t246) = true then (none) else ((laws_xSame.f kj8 t239 t243).bind fun t247 => (if t247 = true then (if (t242 != t236) = true then (none) else ((impl_AreLamps.f l0_0).bind fun t248 => ((spec_AreLamps.f l0_0).bind fun t249 => (if (t248 != t249) = true then (none) else (if t236 = true then ((impl_AreLamps.f l0_0).bind fun t250 => (laws_FnLampsTickOfAll.j1 kj8 a1 a2 a4 a6 a7 t235 t236 t239 (!t250) l0_0 l3_0 l5_0)) else (laws_FnLampsTickOfAll.j1 kj8 a1 a2 a4 a6 a7 t235 t236 t239 false l0_0 l3_0 l5_0)))))) else (none)))) else (none))) = some r := H
    have A19 := aM A190
    clear A190
    have HC20 := aM H
    clear H
    have hnb21 := NB232_233.out
    have hnc21 := NB233_232.out
    have hnb22 := NB232_234.out
    have hnc22 := NB234_232.out
    have hcz23_0 : wc.cell? ⟨gb232, 0, none⟩ = some (.slice A0_0 l0_0.length c0_0) := (blk_cell BK232.out 0).trans rfl
    have hfz23_0 := blk_frozen BK232.out 0
    go_upto_region 7 with (first | ((with_reducible refine gate_callee (f := 25) rfl ?_); refine goesL_ (some 80) rfl rfl Tryd.func25 (by kernel_rfl) rfl #[.agg #[.slice A0_0 l0_0.length c0_0], .string a1, .int .i64 a2] rfl (by (try simp only [List.map_toArray, List.map_cons, List.map_nil]); first | done | rfl | (simp only [List.length_drop, List.length_take]; rfl)) ?_; (with_reducible refine (impl_TicksAfter.calls kj8 _ _ l0_0 a1 a2 t235 t236 _ ?side1 ?side2 A16.out).mono ?_); (case side1 => exact cU (Kd.C_below HR0_0.out HB.out)); (case side2 => exact HC0_0.out); rintro e w24 ⟨rfl, hb⟩; refine ⟨_, rfl, ?_⟩; have n0_ := aM (blk_below (g := gb232) (o := .cells #[.slice A0_0 l0_0.length c0_0] 29 (0, 0)) (bU BK232.out) hb); have n1_ := aM (blk_below (g := gb233) (o := .cells #[.slice A3_0 l3_0.length c3_0] 29 (0, 0)) (bU BK233.out) hb); have n2_ := aM (blk_below (g := gb234) (o := .cells #[.slice A5_0 l5_0.length c5_0] 29 (0, 0)) (bU BK234.out) hb); have n3_ := aM (below_step (by repeat (first | (with_reducible first | exact HB.out | apply aL | apply dN | apply dR | refine sT ?_ GE232.out | refine sT ?_ GE233.out | refine sT ?_ GE234.out) | exact HB.out)) hb); clear BK232; clear BK233; clear BK234; clear HB; have BK232 := n0_; have BK233 := n1_; have BK234 := n2_; have HB := n3_; clear n0_ n1_ n2_ n3_; (try clear hb); (try clear hb2); (try clear hk); (try clear hi); have hcz25_0 : w24.cell? ⟨gb232, 0, none⟩ = some (.slice A0_0 l0_0.length c0_0) := (blk_cell BK232.out 0).trans rfl; have hfz25_0 := blk_frozen BK232.out 0) | ((with_reducible refine gate_callee (f := 26) rfl ?_); refine goesL_ (some 87) rfl rfl Tryd.func26 (by kernel_rfl) rfl #[.agg #[.slice A0_0 l0_0.length c0_0], .string a1, .int .i64 a2] rfl (by (try simp only [List.map_toArray, List.map_cons, List.map_nil]); first | done | rfl | (simp only [List.length_drop, List.length_take]; rfl)) ?_; (with_reducible refine (spec_TicksAfter.calls kj8 _ _ l0_0 a1 a2 t237 t238 _ ?side1 ?side2 A17.out).mono ?_); (case side1 => exact cU (Kd.C_below HR0_0.out HB.out)); (case side2 => exact HC0_0.out); rintro e w26 ⟨rfl, hb⟩; refine ⟨_, rfl, ?_⟩; have n0_ := aM (blk_below (g := gb232) (o := .cells #[.slice A0_0 l0_0.length c0_0] 29 (0, 0)) (bU BK232.out) hb); have n1_ := aM (blk_below (g := gb233) (o := .cells #[.slice A3_0 l3_0.length c3_0] 29 (0, 0)) (bU BK233.out) hb); have n2_ := aM (blk_below (g := gb234) (o := .cells #[.slice A5_0 l5_0.length c5_0] 29 (0, 0)) (bU BK234.out) hb); have n3_ := aM (below_step (by repeat (first | (with_reducible first | exact HB.out | apply aL | apply dN | apply dR | refine sT ?_ GE232.out | refine sT ?_ GE233.out | refine sT ?_ GE234.out) | exact HB.out)) hb); clear BK232; clear BK233; clear BK234; clear HB; have BK232 := n0_; have BK233 := n1_; have BK234 := n2_; have HB := n3_; clear n0_ n1_ n2_ n3_; (try clear hb); (try clear hb2); (try clear hk); (try clear hi); have hcz27_0 : w26.cell? ⟨gb232, 0, none⟩ = some (.slice A0_0 l0_0.length c0_0) := (blk_cell BK232.out 0).trans rfl; have hfz27_0 := blk_frozen BK232.out 0) | ((with_reducible refine gate_callee (f := 27) rfl ?_); refine goesL_ (some 94) rfl rfl Tryd.func27 (by kernel_rfl) rfl #[.agg #[.slice A0_0 l0_0.length c0_0], .string a1, .int .i64 a2] rfl (by (try simp only [List.map_toArray, List.map_cons, List.map_nil]); first | done | rfl | (simp only [List.length_drop, List.length_take]; rfl)) ?_; (with_reducible refine (impl_TimesChanging.calls kj8 _ _ l0_0 a1 a2 t239 t242 _ ?side1 ?side2 A18.out).mono ?_); (case side1 => exact cU (Kd.C_below HR0_0.out HB.out)); (case side2 => exact HC0_0.out); rintro e w28 ⟨v240, rfl, ho0, hb⟩; refine ⟨_, rfl, ?_⟩; have n0_ := aM (Kd.R_lower ho0 (below_size (by repeat (first | (with_reducible first | exact HB.out | apply aL | apply dN | apply dR | refine sT ?_ GE232.out | refine sT ?_ GE233.out | refine sT ?_ GE234.out) | exact HB.out)))); have n1_ := aM (blk_below (g := gb232) (o := .cells #[.slice A0_0 l0_0.length c0_0] 29 (0, 0)) (bU BK232.out) hb); have n2_ := aM (blk_below (g := gb233) (o := .cells #[.slice A3_0 l3_0.length c3_0] 29 (0, 0)) (bU BK233.out) hb); have n3_ := aM (blk_below (g := gb234) (o := .cells #[.slice A5_0 l5_0.length c5_0] 29 (0, 0)) (bU BK234.out) hb); have n4_ := aM (below_step (by repeat (first | (with_reducible first | exact HB.out | apply aL | apply dN | apply dR | refine sT ?_ GE232.out | refine sT ?_ GE233.out | refine sT ?_ GE234.out) | exact HB.out)) hb); clear BK232; clear BK233; clear BK234; clear HB; have HO241 := n0_; have BK232 := n1_; have BK233 := n2_; have BK234 := n3_; have HB := n4_; clear n0_ n1_ n2_ n3_ n4_; (try clear hb); (try clear hb2); (try clear hk); (try clear hi); (try clear ho0); have hcz29_0 : w28.cell? ⟨gb232, 0, none⟩ = some (.slice A0_0 l0_0.length c0_0) := (blk_cell BK232.out 0).trans rfl; have hfz29_0 := blk_frozen BK232.out 0) | ((with_reducible refine gate_callee (f := 28) rfl ?_); refine goesL_ (some 101) rfl rfl Tryd.func28 (by kernel_rfl) rfl #[.agg #[.slice A0_0 l0_0.length c0_0], .string a1, .int .i64 a2] rfl (by (try simp only [List.map_toArray, List.map_cons, List.map_nil]); first | done | rfl | (simp only [List.length_drop, List.length_take]; rfl)) ?_; (with_reducible refine (spec_TimesChanging.calls kj8 _ _ l0_0 a1 a2 t243 t246 _ ?side1 ?side2 A19.out).mono ?_); (case side1 => exact cU (Kd.C_below HR0_0.out HB.out)); (case side2 => exact HC0_0.out); rintro e w30 ⟨v244, rfl, ho0, hb⟩; refine ⟨_, rfl, ?_⟩; have n0_ := aM (Kd.R_elder' (rU HO241.out) (Kd.R_base ho0) hb); have n1_ := aM (Kd.R_lower (Kd.R_new' ho0 (Kd.R_lt (rU HO241.out))) (below_size (by repeat (first | (with_reducible first | exact HB.out | apply aL | apply dN | apply dR | refine sT ?_ GE232.out | refine sT ?_ GE233.out | refine sT ?_ GE234.out) | exact HB.out)))); have n2_ := aM (blk_below (g := gb232) (o := .cells #[.slice A0_0 l0_0.length c0_0] 29 (0, 0)) (bU BK232.out) hb); have n3_ := aM (blk_below (g := gb233) (o := .cells #[.slice A3_0 l3_0.length c3_0] 29 (0, 0)) (bU BK233.out) hb); have n4_ := aM (blk_below (g := gb234) (o := .cells #[.slice A5_0 l5_0.length c5_0] 29 (0, 0)) (bU BK234.out) hb); have n5_ := aM (below_step (by repeat (first | (with_reducible first | exact HB.out | apply aL | apply dN | apply dR | refine sT ?_ GE232.out | refine sT ?_ GE233.out | refine sT ?_ GE234.out) | exact HB.out)) hb); clear HO241; clear BK232; clear BK233; clear BK234; clear HB; have HO241 := n0_; have HO245 := n1_; have BK232 := n2_; have BK233 := n3_; have BK234 := n4_; have HB := n5_; clear n0_ n1_ n2_ n3_ n4_ n5_; (try clear hb); (try clear hb2); (try clear hk); (try clear hi); (try clear ho0)))
    (try simp only [Act.put, List.setIfInBounds_toArray, List.set_cons_zero, List.set_cons_succ])
    go_cut [142] from 76 to 142 (fun v142 wc => ∃ (kq : Nat) (x142_19 : Bool), v142 = .bool x142_19 ∧ Aside0 (laws_FnLampsTickOfAll.j1 kq a1 a2 a4 a6 a7 t235 t236 t239 x142_19 l0_0 l3_0 l5_0 = some r) ∧ Aside0 (kq ≤ kj8) ∧ Aside0 (Kd.R (Kd.int .i64) 3 wc w.heap.size (fun _ => True) v240 t239) ∧ Aside0 (wc.heap[gb232]? = some (.cells #[(.slice A0_0 l0_0.length c0_0)] 29 (0, 0))) ∧ Aside0 (wc.heap[gb233]? = some (.cells #[(.slice A3_0 l3_0.length c3_0)] 29 (0, 0))) ∧ Aside0 (wc.heap[gb234]? = some (.cells #[(.slice A5_0 l5_0.length c5_0)] 29 (0, 0))) ∧ Aside0 (Below w.heap.size w wc))
    case first => as_aux_lemma =>
     have H := HC20.out
     clear HC20
     by_cases c31 : (t236 != t238) = true
     ·rw [if_pos c31] at H
      exact absurd H (by simp)
     ·rw [if_neg c31] at H
      have c31b0 : (t236 != t238) = false := by simpa using c31
      (try (have c31b1 : decide (t236 = t238) = true := by simpa using c31))
      (try (have c31b2 : (t236 == t238) = true := by simpa using c31))
      clear c31
      (first | rw [c31b0] | (simp only [i64_w, i32_w]; rw [c31b0]) | skip)
      by_cases c32 : t235.toList = t237.toList
      ·rw [if_pos c32] at H
       have c32b0 : (t235.toList == t237.toList) = true := beq_iff_eq.mpr c32
       have c32b1 : (t235.toList != t237.toList) = false := bne_eq_false_iff_eq.mpr c32
       clear c32
       by_cases c33 : (t242 != t246) = true
       ·rw [if_pos c33] at H
        exact absurd H (by simp)
       ·rw [if_neg c33] at H
        have c33b0 : (t242 != t246) = false := by simpa using c33
        (try (have c33b1 : decide (t242 = t246) = true := by simpa using c33))
        (try (have c33b2 : (t242 == t246) = true := by simpa using c33))
        clear c33
        replace H := Option.bind_eq_some_iff.mp H
        obtain ⟨t247, A340, H⟩ := H
        replace H : (if t247 = true then (if (t242 != t236) = true then (none) else ((impl_AreLamps.f l0_0).bind fun t248 => ((spec_AreLamps.f l0_0).bind fun t249 => (if (t248 != t249) = true then (none) else (if t236 = true then ((impl_AreLamps.f l0_0).bind fun t250 => (laws_FnLampsTickOfAll.j1 kj8 a1 a2 a4 a6 a7 t235 t236 t239 (!t250) l0_0 l3_0 l5_0)) else (laws_FnLampsTickOfAll.j1 kj8 a1 a2 a4 a6 a7 t235 t236 t239 false l0_0 l3_0 l5_0)))))) else (none)) = some r := H
        have A34 := aM A340
        clear A340
        by_cases c35 : t247 = true
        ·subst c35
         have H1 : (if (t242 != t236) = true then (none) else ((impl_AreLamps.f l0_0).bind fun t248 => ((spec_AreLamps.f l0_0).bind fun t249 => (if (t248 != t249) = true then (none) else (if t236 = true then ((impl_AreLamps.f l0_0).bind fun t250 => (laws_FnLampsTickOfAll.j1 kj8 a1 a2 a4 a6 a7 t235 t236 t239 (!t250) l0_0 l3_0 l5_0)) else (laws_FnLampsTickOfAll.j1 kj8 a1 a2 a4 a6 a7 t235 t236 t239 false l0_0 l3_0 l5_0)))))) = some r := by rw [if_pos rfl] at H; exact H
         clear H
         have H := H1
         clear H1
         by_cases c36 : (t242 != t236) = true
         ·rw [if_pos c36] at H
          exact absurd H (by simp)
         ·rw [if_neg c36] at H
          have c36b0 : (t242 != t236) = false := by simpa using c36
          (try (have c36b1 : decide (t242 = t236) = true := by simpa using c36))
          (try (have c36b2 : (t242 == t236) = true := by simpa using c36))
          clear c36
          replace H := Option.bind_eq_some_iff.mp H
          obtain ⟨t248, A370, H⟩ := H
          replace H : ((spec_AreLamps.f l0_0).bind fun t249 => (if (t248 != t249) = true then (none) else (if t236 = true then ((impl_AreLamps.f l0_0).bind fun t250 => (laws_FnLampsTickOfAll.j1 kj8 a1 a2 a4 a6 a7 t235 t236 t239 (!t250) l0_0 l3_0 l5_0)) else (laws_FnLampsTickOfAll.j1 kj8 a1 a2 a4 a6 a7 t235 t236 t239 false l0_0 l3_0 l5_0)))) = some r := H
          have A37 := aM A370
          clear A370
          replace H := Option.bind_eq_some_iff.mp H
          obtain ⟨t249, A380, H⟩ := H
          replace H : (if (t248 != t249) = true then (none) else (if t236 = true then ((impl_AreLamps.f l0_0).bind fun t250 => (laws_FnLampsTickOfAll.j1 kj8 a1 a2 a4 a6 a7 t235 t236 t239 (!t250) l0_0 l3_0 l5_0)) else (laws_FnLampsTickOfAll.j1 kj8 a1 a2 a4 a6 a7 t235 t236 t239 false l0_0 l3_0 l5_0))) = some r := H
          have A38 := aM A380
          clear A380
          by_cases c39 : (t248 != t249) = true
          ·rw [if_pos c39] at H
           exact absurd H (by simp)
          ·rw [if_neg c39] at H
           have c39b0 : (t248 != t249) = false := by simpa using c39
           (try (have c39b1 : decide (t248 = t249) = true := by simpa using c39))
           (try (have c39b2 : (t248 == t249) = true := by simpa using c39))
           clear c39
           by_cases c40 : t236 = true
           ·subst c40
            have H1 : ((impl_AreLamps.f l0_0).bind fun t250 => (laws_FnLampsTickOfAll.j1 kj8 a1 a2 a4 a6 a7 t235 true t239 (!t250) l0_0 l3_0 l5_0)) = some r := by rw [if_pos rfl] at H; exact H
            clear H
            have H := H1
            clear H1
            replace H := Option.bind_eq_some_iff.mp H
            obtain ⟨t250, A410, H⟩ := H
            replace H : (laws_FnLampsTickOfAll.j1 kj8 a1 a2 a4 a6 a7 t235 true t239 (!t250) l0_0 l3_0 l5_0) = some r := H
            have A41 := aM A410
            clear A410
            have H' := aM H
            clear H
            try go_wp2
            have n0_ := aM (Kd.R_drew HO241.out)
            have n1_ := aM (Kd.R_drew HO245.out)
            have n2_ := aM (blk_drew BK232.out)
            have n3_ := aM (blk_drew BK233.out)
            have n4_ := aM (blk_drew BK234.out)
            have n5_ := aM (below_drew1 HB.out)
            clear HO241
            clear HO245
            clear BK232
            clear BK233
            clear BK234
            clear HB
            have HO241 := n0_
            have HO245 := n1_
            have BK232 := n2_
            have BK233 := n3_
            have BK234 := n4_
            have HB := n5_
            clear n0_ n1_ n2_ n3_ n4_ n5_
            obtain ⟨Ao43, co43, eo43⟩ := Kd.R_slice HO241.out
            (first | subst eo43 | (injection eo43 with f1_ f2_ f3_; have f4_ := f1_.symm; have f5_ := f3_.symm; clear f1_ f2_ f3_; subst f4_; subst f5_))
            obtain ⟨Ao44, co44, eo44⟩ := Kd.R_slice HO245.out
            (first | subst eo44 | (injection eo44 with f1_ f2_ f3_; have f4_ := f1_.symm; have f5_ := f3_.symm; clear f1_ f2_ f3_; subst f4_; subst f5_))
            refine start_ (n := 39) (S := fun w' => w'.cell? ⟨gb232, 0, none⟩ = some (.slice A0_0 l0_0.length c0_0)) (ds := []) #[false, false, false, false, false, false, false, false, false, false, false, false, false, false, false, false, false, false, false, false, false, false, false, false, false, false, false, false, false, false, false, false, false, false, false, false, false, false, false] (by kernel_rfl) rfl rfl ((blk_cell BK232.out 0).trans rfl) (fun hHeld => ?_); refine with_tabW laws_FnLampsTickOfAll.tab7 laws_FnLampsTickOfAll.bits7 (fun HT_ HW_ => ?_)
            generalize w30.drew = w42 at HO241 HO245 BK232 BK233 BK234 HB hHeld ⊢
            refine pure_ (i := 0) (N := some 104) (v := ?_) (a' := ?_) #[true, false, false, false, false, false, false, false, false, false, false, false, false, false, false, false, false, false, false, false, false, false, false, false, false, false, false, false, false, false, false, false, false, false, false, false, false, false, false] rfl rfl (any_of HT_.out (by kernel_rfl)) (fun _ _ _ h => h) (Or.inl ⟨by rfl, ?_⟩) ?_ ?_
            rotate_left
            ·intro w'
             go_simp
             with_reducible rfl
            rotate_left
            ·simp only [Act.put, List.setIfInBounds_toArray, List.set_cons_zero, List.set_cons_succ, i64_w, i32_w]
             rfl
            refine pure_ (i := 1) (N := some 105) (v := ?_) (a' := ?_) #[true, true, false, false, false, false, false, false, false, false, false, false, false, false, false, false, false, false, false, false, false, false, false, false, false, false, false, false, false, false, false, false, false, false, false, false, false, false, false] rfl rfl (any_of HT_.out (by kernel_rfl)) (fun _ _ _ h => h) (Or.inl ⟨by rfl, ?_⟩) ?_ ?_
            rotate_left
            ·intro w'
             go_simp
             with_reducible rfl
            rotate_left
            ·simp only [Act.put, List.setIfInBounds_toArray, List.set_cons_zero, List.set_cons_succ, i64_w, i32_w]
             rfl
            refine pure_ (i := 2) (N := some 106) (v := ?_) (a' := ?_) #[true, true, true, false, false, false, false, false, false, false, false, false, false, false, false, false, false, false, false, false, false, false, false, false, false, false, false, false, false, false, false, false, false, false, false, false, false, false, false] rfl rfl (any_of HT_.out (by kernel_rfl)) (fun _ _ _ h => h) (Or.inl ⟨by rfl, ?_⟩) ?_ ?_
            rotate_left
            ·intro w'
             go_simp
             with_reducible rfl
            rotate_left
            ·simp only [Act.put, List.setIfInBounds_toArray, List.set_cons_zero, List.set_cons_succ, i64_w, i32_w]
             rfl
            refine pure_ (i := 3) (N := some 107) (v := ?_) (a' := ?_) #[true, true, true, true, false, false, false, false, false, false, false, false, false, false, false, false, false, false, false, false, false, false, false, false, false, false, false, false, false, false, false, false, false, false, false, false, false, false, false] rfl rfl (any_of HT_.out (by kernel_rfl)) (fun _ _ _ h => h) (Or.inl ⟨by rfl, ?_⟩) ?_ ?_
            rotate_left
            ·intro w'
             go_simp
             with_reducible rfl
            rotate_left
            ·simp only [Act.put, List.setIfInBounds_toArray, List.set_cons_zero, List.set_cons_succ, i64_w, i32_w]
             rfl
            refine pure_ (i := 4) (N := some 108) (v := ?_) (a' := ?_) #[true, true, true, true, true, false, false, false, false, false, false, false, false, false, false, false, false, false, false, false, false, false, false, false, false, false, false, false, false, false, false, false, false, false, false, false, false, false, false] rfl rfl (any_of HT_.out (by kernel_rfl)) (fun _ _ _ h => h) (Or.inl ⟨by rfl, ?_⟩) ?_ ?_
            rotate_left
            ·intro w'
             go_simp
             with_reducible rfl
            rotate_left
            ·simp only [Act.put, List.setIfInBounds_toArray, List.set_cons_zero, List.set_cons_succ, i64_w, i32_w]
             rfl
            refine pure_ (i := 5) (N := some 109) (v := ?_) (a' := ?_) #[true, true, true, true, true, true, false, false, false, false, false, false, false, false, false, false, false, false, false, false, false, false, false, false, false, false, false, false, false, false, false, false, false, false, false, false, false, false, false] rfl rfl (any_of HT_.out (by kernel_rfl)) (fun _ _ _ h => h) (Or.inl ⟨by rfl, ?_⟩) ?_ ?_
            rotate_left
            ·intro w'
             go_simp
             with_reducible rfl
            rotate_left
            ·simp only [Act.put, List.setIfInBounds_toArray, List.set_cons_zero, List.set_cons_succ, i64_w, i32_w]
             rfl
            refine pure_ (i := 6) (N := some 110) (v := ?_) (a' := ?_) #[true, true, true, true, true, true, true, false, false, false, false, false, false, false, false, false, false, false, false, false, false, false, false, false, false, false, false, false, false, false, false, false, false, false, false, false, false, false, false] rfl rfl (any_of HT_.out (by kernel_rfl)) (fun _ _ _ h => h) (Or.inl ⟨by rfl, ?_⟩) ?_ ?_
            rotate_left
            ·intro w'
             go_simp
             with_reducible rfl
            rotate_left
            ·simp only [Act.put, List.setIfInBounds_toArray, List.set_cons_zero, List.set_cons_succ, i64_w, i32_w]
             rfl
            refine pure_ (i := 7) (N := some 111) (v := ?_) (a' := ?_) #[true, true, true, true, true, true, true, true, false, false, false, false, false, false, false, false, false, false, false, false, false, false, false, false, false, false, false, false, false, false, false, false, false, false, false, false, false, false, false] rfl rfl (any_of HT_.out (by kernel_rfl)) (fun _ _ _ h => h) (Or.inl ⟨by rfl, ?_⟩) ?_ ?_
            rotate_left
            ·intro w'
             go_simp
             with_reducible rfl
            rotate_left
            ·simp only [Act.put, List.setIfInBounds_toArray, List.set_cons_zero, List.set_cons_succ, i64_w, i32_w]
             rfl
            refine pure_ (i := 8) (N := some 112) (v := ?_) (a' := ?_) #[true, true, true, true, true, true, true, true, true, false, false, false, false, false, false, false, false, false, false, false, false, false, false, false, false, false, false, false, false, false, false, false, false, false, false, false, false, false, false] rfl rfl (any_of HT_.out (by kernel_rfl)) (fun _ _ _ h => h) (Or.inl ⟨by rfl, ?_⟩) ?_ ?_
            rotate_left
            ·intro w'
             go_simp
             with_reducible rfl
            rotate_left
            ·simp only [Act.put, List.setIfInBounds_toArray, List.set_cons_zero, List.set_cons_succ, i64_w, i32_w]
             rfl
            refine pure_ (i := 9) (N := some 113) (v := ?_) (a' := ?_) #[true, true, true, true, true, true, true, true, true, true, false, false, false, false, false, false, false, false, false, false, false, false, false, false, false, false, false, false, false, false, false, false, false, false, false, false, false, false, false] rfl rfl (any_of HT_.out (by kernel_rfl)) (fun _ _ _ h => h) (Or.inl ⟨by rfl, ?_⟩) ?_ ?_
            rotate_left
            ·intro w'
             go_simp
             with_reducible rfl
            rotate_left
            ·simp only [Act.put, List.setIfInBounds_toArray, List.set_cons_zero, List.set_cons_succ, i64_w, i32_w]
             rfl
            refine pure_ (i := 10) (N := some 114) (v := ?_) (a' := ?_) #[true, true, true, true, true, true, true, true, true, true, true, false, false, false, false, false, false, false, false, false, false, false, false, false, false, false, false, false, false, false, false, false, false, false, false, false, false, false, false] rfl rfl (any_of HT_.out (by kernel_rfl)) (fun _ _ _ h => h) (Or.inl ⟨by rfl, ?_⟩) ?_ ?_
            rotate_left
            ·intro w'
             go_simp
             with_reducible rfl
            rotate_left
            ·simp only [Act.put, List.setIfInBounds_toArray, List.set_cons_zero, List.set_cons_succ, i64_w, i32_w]
             rfl
            refine pure_ (i := 11) (N := some 115) (v := ?_) (a' := ?_) #[true, true, true, true, true, true, true, true, true, true, true, true, false, false, false, false, false, false, false, false, false, false, false, false, false, false, false, false, false, false, false, false, false, false, false, false, false, false, false] rfl rfl (any_of HT_.out (by kernel_rfl)) (fun _ _ _ h => h) (Or.inl ⟨by rfl, ?_⟩) ?_ ?_
            rotate_left
            ·intro w'
             go_simp
             with_reducible rfl
            rotate_left
            ·simp only [Act.put, List.setIfInBounds_toArray, List.set_cons_zero, List.set_cons_succ, i64_w, i32_w]
             rfl
            refine pure_ (i := 12) (N := some 116) (v := ?_) (a' := ?_) #[true, true, true, true, true, true, true, true, true, true, true, true, true, false, false, false, false, false, false, false, false, false, false, false, false, false, false, false, false, false, false, false, false, false, false, false, false, false, false] rfl rfl (any_of HT_.out (by kernel_rfl)) (fun _ _ _ h => h) (Or.inl ⟨by rfl, ?_⟩) ?_ ?_
            rotate_left
            ·intro w'
             go_simp
             with_reducible rfl
            rotate_left
            ·simp only [Act.put, List.setIfInBounds_toArray, List.set_cons_zero, List.set_cons_succ, i64_w, i32_w]
             rfl
            refine pure_ (i := 13) (N := some 117) (v := ?_) (a' := ?_) #[true, true, true, true, true, true, true, true, true, true, true, true, true, true, false, false, false, false, false, false, false, false, false, false, false, false, false, false, false, false, false, false, false, false, false, false, false, false, false] rfl rfl (any_of HT_.out (by kernel_rfl)) (fun _ _ _ h => h) (Or.inl ⟨by rfl, ?_⟩) ?_ ?_
            rotate_left
            ·intro w'
             go_simp
             with_reducible rfl
            rotate_left
            ·simp only [Act.put, List.setIfInBounds_toArray, List.set_cons_zero, List.set_cons_succ, i64_w, i32_w]
             rfl
            refine pure_ (i := 14) (N := some 118) (v := ?_) (a' := ?_) #[true, true, true, true, true, true, true, true, true, true, true, true, true, true, true, false, false, false, false, false, false, false, false, false, false, false, false, false, false, false, false, false, false, false, false, false, false, false, false] rfl rfl (any_of HT_.out (by kernel_rfl)) (fun _ _ _ h => h) (Or.inl ⟨by rfl, ?_⟩) ?_ ?_
            rotate_left
            ·intro w'
             go_simp
             with_reducible rfl
            rotate_left
            ·simp only [Act.put, List.setIfInBounds_toArray, List.set_cons_zero, List.set_cons_succ, i64_w, i32_w]
             rfl
            refine pure_ (i := 15) (N := some 119) (v := ?_) (a' := ?_) #[true, true, true, true, true, true, true, true, true, true, true, true, true, true, true, true, false, false, false, false, false, false, false, false, false, false, false, false, false, false, false, false, false, false, false, false, false, false, false] rfl rfl (any_of HT_.out (by kernel_rfl)) (fun _ _ _ h => h) (Or.inl ⟨by rfl, ?_⟩) ?_ ?_
            rotate_left
            ·intro w'
             go_simp
             with_reducible rfl
            rotate_left
            ·simp only [Act.put, List.setIfInBounds_toArray, List.set_cons_zero, List.set_cons_succ, i64_w, i32_w]
             rfl
            refine one_ (i := 16) (N := some 120) #[true, true, true, true, true, true, true, true, true, true, true, true, true, true, true, true, true, false, false, false, false, false, false, false, false, false, false, false, false, false, false, false, false, false, false, false, false, false, false] rfl rfl (one_of HT_.out (by kernel_rfl)) (by decide) (fun K hK => ?_)
            refine goes_ Tryd.func29 (by kernel_rfl) rfl #[.slice Ao43 t239.length co43, .slice Ao44 t243.length co44] (by rfl) rfl rfl (by (try simp only [List.map_toArray, List.map_cons, List.map_nil]); first | done | rfl | (simp only [List.length_drop, List.length_take]; rfl)) ?_
            with_reducible refine (laws_xSame.calls kj8 _ _ t239 _ _ t243 true _ ?side1 ?side2 ?side3 ?side4 A34.out).mono ?_
            (case side1 => exact cU (Kd.R_reads' HO241.out).2.2)
            (case side2 => exact (Kd.R_reads' HO241.out).2.1)
            (case side3 => exact cU (Kd.R_reads' HO245.out).2.2)
            (case side4 => exact (Kd.R_reads' HO245.out).2.1)
            rintro e w' ⟨rfl, ⟨nd, rfl⟩⟩
            refine ⟨_, rfl, ?_⟩
            refine hK.out _ _ ((blk_cell BK232.out 0).trans rfl) (fun hHeld => ?_)
            clear hK K
            refine norm_ (a' := ?_) ?_ ?_
            rotate_left
            ·show Act.put _ (some 120) _ = _
             simp only [Act.put, List.setIfInBounds_toArray, List.set_cons_zero, List.set_cons_succ, i64_w, i32_w]
             rfl
            refine pure_ (i := 17) (N := some 121) (v := ?_) (a' := ?_) #[true, true, true, true, true, true, true, true, true, true, true, true, true, true, true, true, true, true, false, false, false, false, false, false, false, false, false, false, false, false, false, false, false, false, false, false, false, false, false] rfl rfl (any_of HT_.out (by kernel_rfl)) (fun _ _ _ h => h) (Or.inl ⟨by rfl, ?_⟩) ?_ ?_
            rotate_left
            ·intro w'
             go_simp
             with_reducible rfl
            rotate_left
            ·simp only [Act.put, List.setIfInBounds_toArray, List.set_cons_zero, List.set_cons_succ, i64_w, i32_w]
             rfl
            refine pure_ (i := 18) (N := some 122) (v := ?_) (a' := ?_) #[true, true, true, true, true, true, true, true, true, true, true, true, true, true, true, true, true, true, true, false, false, false, false, false, false, false, false, false, false, false, false, false, false, false, false, false, false, false, false] rfl rfl (any_of HT_.out (by kernel_rfl)) (fun _ _ _ h => h) (Or.inl ⟨by rfl, ?_⟩) ?_ ?_
            rotate_left
            ·intro w'
             go_simp
             with_reducible rfl
            rotate_left
            ·simp only [Act.put, List.setIfInBounds_toArray, List.set_cons_zero, List.set_cons_succ, i64_w, i32_w]
             rfl
            refine pure_ (i := 19) (N := some 123) (v := ?_) (a' := ?_) #[true, true, true, true, true, true, true, true, true, true, true, true, true, true, true, true, true, true, true, true, false, false, false, false, false, false, false, false, false, false, false, false, false, false, false, false, false, false, false] rfl rfl (any_of HT_.out (by kernel_rfl)) (fun _ _ _ h => h) (Or.inl ⟨by rfl, ?_⟩) ?_ ?_
            rotate_left
            ·intro w'
             go_simp
             with_reducible rfl
            rotate_left
            ·simp only [Act.put, List.setIfInBounds_toArray, List.set_cons_zero, List.set_cons_succ, i64_w, i32_w]
             rfl
            refine pure_ (i := 20) (N := some 124) (v := ?_) (a' := ?_) #[true, true, true, true, true, true, true, true, true, true, true, true, true, true, true, true, true, true, true, true, true, false, false, false, false, false, false, false, false, false, false, false, false, false, false, false, false, false, false] rfl rfl (any_of HT_.out (by kernel_rfl)) (fun _ _ _ h => h) (Or.inl ⟨by rfl, ?_⟩) ?_ ?_
            rotate_left
            ·intro w'
             go_simp
             with_reducible rfl
            rotate_left
            ·simp only [Act.put, List.setIfInBounds_toArray, List.set_cons_zero, List.set_cons_succ, i64_w, i32_w]
             rfl
            refine pure_ (i := 21) (N := some 125) (v := ?_) (a' := ?_) #[true, true, true, true, true, true, true, true, true, true, true, true, true, true, true, true, true, true, true, true, true, true, false, false, false, false, false, false, false, false, false, false, false, false, false, false, false, false, false] rfl rfl (any_of HT_.out (by kernel_rfl)) (fun _ _ _ h => h) (Or.inl ⟨by rfl, ?_⟩) ?_ ?_
            rotate_left
            ·intro w'
             go_simp
             with_reducible rfl
            rotate_left
            ·simp only [Act.put, List.setIfInBounds_toArray, List.set_cons_zero, List.set_cons_succ, i64_w, i32_w]
             rfl
            refine pure_ (i := 22) (N := some 126) (v := ?_) (a' := ?_) #[true, true, true, true, true, true, true, true, true, true, true, true, true, true, true, true, true, true, true, true, true, true, true, false, false, false, false, false, false, false, false, false, false, false, false, false, false, false, false] rfl rfl (any_of HT_.out (by kernel_rfl)) (fun _ _ _ h => h) (Or.inl ⟨by rfl, ?_⟩) ?_ ?_
            rotate_left
            ·intro w'
             go_simp
             with_reducible rfl
            rotate_left
            ·simp only [Act.put, List.setIfInBounds_toArray, List.set_cons_zero, List.set_cons_succ, i64_w, i32_w]
             rfl
            refine pure_ (i := 23) (N := some 127) (v := ?_) (a' := ?_) #[true, true, true, true, true, true, true, true, true, true, true, true, true, true, true, true, true, true, true, true, true, true, true, true, false, false, false, false, false, false, false, false, false, false, false, false, false, false, false] rfl rfl (any_of HT_.out (by kernel_rfl)) (fun _ _ _ h => h) (Or.inl ⟨by rfl, ?_⟩) ?_ ?_
            rotate_left
            ·intro w'
             go_simp
             with_reducible rfl
            rotate_left
            ·simp only [Act.put, List.setIfInBounds_toArray, List.set_cons_zero, List.set_cons_succ, i64_w, i32_w]
             rfl
            refine pure_ (i := 24) (N := some 128) (v := ?_) (a' := ?_) #[true, true, true, true, true, true, true, true, true, true, true, true, true, true, true, true, true, true, true, true, true, true, true, true, true, false, false, false, false, false, false, false, false, false, false, false, false, false, false] rfl rfl (any_of HT_.out (by kernel_rfl)) (fun _ _ _ h => h) (Or.inl ⟨by rfl, ?_⟩) ?_ ?_
            rotate_left
            ·intro w'
             go_simp
             with_reducible rfl
            rotate_left
            ·simp only [Act.put, List.setIfInBounds_toArray, List.set_cons_zero, List.set_cons_succ, i64_w, i32_w]
             rfl
            refine take_ (i := 25) (N := some 129) (v := ?_) (a' := ?_) #[true, true, true, true, true, true, true, true, true, true, true, true, true, true, true, true, true, true, true, true, true, true, true, true, true, true, false, false, false, false, false, false, false, false, false, false, false, false, false] rfl rfl (take_ofW HT_.out HW_.out (by kernel_rfl)) (fun _ _ _ h => h) (Or.inl ⟨by rfl, ?_⟩) hHeld ?_ ?_
            rotate_left
            ·intro w' s0
             go_simp
             with_reducible rfl
            rotate_left
            ·simp only [Act.put, List.setIfInBounds_toArray, List.set_cons_zero, List.set_cons_succ, i64_w, i32_w]
             rfl
            refine take_ (i := 27) (N := some 131) (v := ?_) (a' := ?_) #[true, true, true, true, true, true, true, true, true, true, true, true, true, true, true, true, true, true, true, true, true, true, true, true, true, true, false, true, false, false, false, false, false, false, false, false, false, false, false] rfl rfl (take_ofW HT_.out HW_.out (by kernel_rfl)) (fun _ _ _ h => h) (Or.inl ⟨by rfl, ?_⟩) hHeld ?_ ?_
            rotate_left
            ·intro w' s0
             go_simp
             with_reducible rfl
            rotate_left
            ·simp only [Act.put, List.setIfInBounds_toArray, List.set_cons_zero, List.set_cons_succ, i64_w, i32_w]
             rfl
            refine one_ (i := 26) (N := some 130) #[true, true, true, true, true, true, true, true, true, true, true, true, true, true, true, true, true, true, true, true, true, true, true, true, true, true, true, true, false, false, false, false, false, false, false, false, false, false, false] rfl rfl (one_of HT_.out (by kernel_rfl)) (by decide) (fun K hK => ?_)
            refine goes_ Tryd.func30 (by kernel_rfl) rfl #[.agg #[.slice A0_0 l0_0.length c0_0]] (by rfl) rfl rfl (by (try simp only [List.map_toArray, List.map_cons, List.map_nil]); first | done | rfl | (simp only [List.length_drop, List.length_take]; rfl)) ?_
            with_reducible refine (impl_AreLamps.calls _ _ l0_0 t248 _ ?side1 ?side2 A37.out).mono ?_
            (case side1 => repeat (first | exact (Kd.C_below HR0_0.out (by repeat (first | (with_reducible first | exact HB.out | apply aL | apply dN | apply dR | refine sT ?_ GE232.out | refine sT ?_ GE233.out | refine sT ?_ GE234.out) | exact HB.out))) | (with_reducible refine Kd.C_alloc ?_ _) | (with_reducible refine Kd.C_drewN ?_ _) | (with_reducible refine Kd.C_drew ?_)))
            (case side2 => exact HC0_0.out)
            rintro e w45 ⟨rfl, hb⟩
            refine ⟨_, rfl, ?_⟩
            have n0_ := aM (Kd.R_below (rU HO241.out) hb)
            have n1_ := aM (Kd.R_below (rU HO245.out) hb)
            have n2_ := aM (blk_below (g := gb232) (o := .cells #[.slice A0_0 l0_0.length c0_0] 29 (0, 0)) (bU BK232.out) hb)
            have n3_ := aM (blk_below (g := gb233) (o := .cells #[.slice A3_0 l3_0.length c3_0] 29 (0, 0)) (bU BK233.out) hb)
            have n4_ := aM (blk_below (g := gb234) (o := .cells #[.slice A5_0 l5_0.length c5_0] 29 (0, 0)) (bU BK234.out) hb)
            have n5_ := aM (below_step (by repeat (first | (with_reducible first | exact HB.out | apply aL | apply dN | apply dR | refine sT ?_ GE232.out | refine sT ?_ GE233.out | refine sT ?_ GE234.out) | exact HB.out)) hb)
            clear HO241
            clear HO245
            clear BK232
            clear BK233
            clear BK234
            clear HB
            have HO241 := n0_
            have HO245 := n1_
            have BK232 := n2_
            have BK233 := n3_
            have BK234 := n4_
            have HB := n5_
            clear n0_ n1_ n2_ n3_ n4_ n5_
            (try clear hb)
            (try clear hb2)
            (try clear hk)
            (try clear hi)
            refine hK.out _ _ ((blk_cell BK232.out 0).trans rfl) (fun hHeld => ?_)
            clear hK K
            refine norm_ (a' := ?_) ?_ ?_
            rotate_left
            ·show Act.put _ (some 130) _ = _
             simp only [Act.put, List.setIfInBounds_toArray, List.set_cons_zero, List.set_cons_succ, i64_w, i32_w]
             rfl
            refine one_ (i := 28) (N := some 132) #[true, true, true, true, true, true, true, true, true, true, true, true, true, true, true, true, true, true, true, true, true, true, true, true, true, true, true, true, true, false, false, false, false, false, false, false, false, false, false] rfl rfl (one_of HT_.out (by kernel_rfl)) (by decide) (fun K hK => ?_)
            refine goes_ Tryd.func31 (by kernel_rfl) rfl #[.agg #[.slice A0_0 l0_0.length c0_0]] (by rfl) rfl rfl (by (try simp only [List.map_toArray, List.map_cons, List.map_nil]); first | done | rfl | (simp only [List.length_drop, List.length_take]; rfl)) ?_
            with_reducible refine (spec_AreLamps.calls _ _ l0_0 t249 _ ?side1 ?side2 A38.out).mono ?_
            (case side1 => exact cU (Kd.C_below HR0_0.out HB.out))
            (case side2 => exact HC0_0.out)
            rintro e w46 ⟨rfl, hb⟩
            refine ⟨_, rfl, ?_⟩
            have n0_ := aM (Kd.R_below (rU HO241.out) hb)
            have n1_ := aM (Kd.R_below (rU HO245.out) hb)
            have n2_ := aM (blk_below (g := gb232) (o := .cells #[.slice A0_0 l0_0.length c0_0] 29 (0, 0)) (bU BK232.out) hb)
            have n3_ := aM (blk_below (g := gb233) (o := .cells #[.slice A3_0 l3_0.length c3_0] 29 (0, 0)) (bU BK233.out) hb)
            have n4_ := aM (blk_below (g := gb234) (o := .cells #[.slice A5_0 l5_0.length c5_0] 29 (0, 0)) (bU BK234.out) hb)
            have n5_ := aM (below_step (by repeat (first | (with_reducible first | exact HB.out | apply aL | apply dN | apply dR | refine sT ?_ GE232.out | refine sT ?_ GE233.out | refine sT ?_ GE234.out) | exact HB.out)) hb)
            clear HO241
            clear HO245
            clear BK232
            clear BK233
            clear BK234
            clear HB
            have HO241 := n0_
            have HO245 := n1_
            have BK232 := n2_
            have BK233 := n3_
            have BK234 := n4_
            have HB := n5_
            clear n0_ n1_ n2_ n3_ n4_ n5_
            (try clear hb)
            (try clear hb2)
            (try clear hk)
            (try clear hi)
            refine hK.out _ _ ((blk_cell BK232.out 0).trans rfl) (fun hHeld => ?_)
            clear hK K
            refine norm_ (a' := ?_) ?_ ?_
            rotate_left
            ·show Act.put _ (some 132) _ = _
             simp only [Act.put, List.setIfInBounds_toArray, List.set_cons_zero, List.set_cons_succ, i64_w, i32_w]
             rfl
            refine pure_ (i := 29) (N := some 133) (v := ?_) (a' := ?_) #[true, true, true, true, true, true, true, true, true, true, true, true, true, true, true, true, true, true, true, true, true, true, true, true, true, true, true, true, true, true, false, false, false, false, false, false, false, false, false] rfl rfl (any_of HT_.out (by kernel_rfl)) (fun _ _ _ h => h) (Or.inl ⟨by rfl, ?_⟩) ?_ ?_
            rotate_left
            ·intro w'
             go_simp
             with_reducible rfl
            rotate_left
            ·simp only [Act.put, List.setIfInBounds_toArray, List.set_cons_zero, List.set_cons_succ, i64_w, i32_w]
             rfl
            refine pure_ (i := 30) (N := some 134) (v := ?_) (a' := ?_) #[true, true, true, true, true, true, true, true, true, true, true, true, true, true, true, true, true, true, true, true, true, true, true, true, true, true, true, true, true, true, true, false, false, false, false, false, false, false, false] rfl rfl (any_of HT_.out (by kernel_rfl)) (fun _ _ _ h => h) (Or.inl ⟨by rfl, ?_⟩) ?_ ?_
            rotate_left
            ·intro w'
             go_simp
             with_reducible rfl
            rotate_left
            ·simp only [Act.put, List.setIfInBounds_toArray, List.set_cons_zero, List.set_cons_succ, i64_w, i32_w]
             rfl
            refine pure_ (i := 31) (N := some 135) (v := ?_) (a' := ?_) #[true, true, true, true, true, true, true, true, true, true, true, true, true, true, true, true, true, true, true, true, true, true, true, true, true, true, true, true, true, true, true, true, false, false, false, false, false, false, false] rfl rfl (any_of HT_.out (by kernel_rfl)) (fun _ _ _ h => h) (Or.inl ⟨by rfl, ?_⟩) ?_ ?_
            rotate_left
            ·intro w'
             go_simp
             with_reducible rfl
            rotate_left
            ·simp only [Act.put, List.setIfInBounds_toArray, List.set_cons_zero, List.set_cons_succ, i64_w, i32_w]
             rfl
            refine pure_ (i := 32) (N := some 136) (v := ?_) (a' := ?_) #[true, true, true, true, true, true, true, true, true, true, true, true, true, true, true, true, true, true, true, true, true, true, true, true, true, true, true, true, true, true, true, true, true, false, false, false, false, false, false] rfl rfl (any_of HT_.out (by kernel_rfl)) (fun _ _ _ h => h) (Or.inl ⟨by rfl, ?_⟩) ?_ ?_
            rotate_left
            ·intro w'
             go_simp
             with_reducible rfl
            rotate_left
            ·simp only [Act.put, List.setIfInBounds_toArray, List.set_cons_zero, List.set_cons_succ, i64_w, i32_w]
             rfl
            refine pure_ (i := 33) (N := some 137) (v := ?_) (a' := ?_) #[true, true, true, true, true, true, true, true, true, true, true, true, true, true, true, true, true, true, true, true, true, true, true, true, true, true, true, true, true, true, true, true, true, true, false, false, false, false, false] rfl rfl (any_of HT_.out (by kernel_rfl)) (fun _ _ _ h => h) (Or.inl ⟨by rfl, ?_⟩) ?_ ?_
            rotate_left
            ·intro w'
             go_simp
             with_reducible rfl
            rotate_left
            ·simp only [Act.put, List.setIfInBounds_toArray, List.set_cons_zero, List.set_cons_succ, i64_w, i32_w]
             rfl
            refine take_ (i := 34) (N := some 138) (v := ?_) (a' := ?_) #[true, true, true, true, true, true, true, true, true, true, true, true, true, true, true, true, true, true, true, true, true, true, true, true, true, true, true, true, true, true, true, true, true, true, true, false, false, false, false] rfl rfl (take_ofW HT_.out HW_.out (by kernel_rfl)) (fun _ _ _ h => h) (Or.inl ⟨by rfl, ?_⟩) hHeld ?_ ?_
            rotate_left
            ·intro w' s0
             go_simp
             with_reducible rfl
            rotate_left
            ·simp only [Act.put, List.setIfInBounds_toArray, List.set_cons_zero, List.set_cons_succ, i64_w, i32_w]
             rfl
            refine one_ (i := 35) (N := some 139) #[true, true, true, true, true, true, true, true, true, true, true, true, true, true, true, true, true, true, true, true, true, true, true, true, true, true, true, true, true, true, true, true, true, true, true, true, false, false, false] rfl rfl (one_of HT_.out (by kernel_rfl)) (by decide) (fun K hK => ?_)
            refine goes_ Tryd.func30 (by kernel_rfl) rfl #[.agg #[.slice A0_0 l0_0.length c0_0]] (by rfl) rfl rfl (by (try simp only [List.map_toArray, List.map_cons, List.map_nil]); first | done | rfl | (simp only [List.length_drop, List.length_take]; rfl)) ?_
            with_reducible refine (impl_AreLamps.calls _ _ l0_0 t250 _ ?side1 ?side2 A41.out).mono ?_
            (case side1 => exact cU (Kd.C_below HR0_0.out HB.out))
            (case side2 => exact HC0_0.out)
            rintro e w47 ⟨rfl, hb⟩
            refine ⟨_, rfl, ?_⟩
            have n0_ := aM (Kd.R_below (rU HO241.out) hb)
            have n1_ := aM (Kd.R_below (rU HO245.out) hb)
            have n2_ := aM (blk_below (g := gb232) (o := .cells #[.slice A0_0 l0_0.length c0_0] 29 (0, 0)) (bU BK232.out) hb)
            have n3_ := aM (blk_below (g := gb233) (o := .cells #[.slice A3_0 l3_0.length c3_0] 29 (0, 0)) (bU BK233.out) hb)
            have n4_ := aM (blk_below (g := gb234) (o := .cells #[.slice A5_0 l5_0.length c5_0] 29 (0, 0)) (bU BK234.out) hb)
            have n5_ := aM (below_step (by repeat (first | (with_reducible first | exact HB.out | apply aL | apply dN | apply dR | refine sT ?_ GE232.out | refine sT ?_ GE233.out | refine sT ?_ GE234.out) | exact HB.out)) hb)
            clear HO241
            clear HO245
            clear BK232
            clear BK233
            clear BK234
            clear HB
            have HO241 := n0_
            have HO245 := n1_
            have BK232 := n2_
            have BK233 := n3_
            have BK234 := n4_
            have HB := n5_
            clear n0_ n1_ n2_ n3_ n4_ n5_
            (try clear hb)
            (try clear hb2)
            (try clear hk)
            (try clear hi)
            refine hK.out _ _ ((blk_cell BK232.out 0).trans rfl) (fun hHeld => ?_)
            clear hK K
            refine norm_ (a' := ?_) ?_ ?_
            rotate_left
            ·show Act.put _ (some 139) _ = _
             simp only [Act.put, List.setIfInBounds_toArray, List.set_cons_zero, List.set_cons_succ, i64_w, i32_w]
             rfl
            refine pure_ (i := 36) (N := some 140) (v := ?_) (a' := ?_) #[true, true, true, true, true, true, true, true, true, true, true, true, true, true, true, true, true, true, true, true, true, true, true, true, true, true, true, true, true, true, true, true, true, true, true, true, true, false, false] rfl rfl (any_of HT_.out (by kernel_rfl)) (fun _ _ _ h => h) (Or.inl ⟨by rfl, ?_⟩) ?_ ?_
            rotate_left
            ·intro w'
             go_simp
             with_reducible rfl
            rotate_left
            ·simp only [Act.put, List.setIfInBounds_toArray, List.set_cons_zero, List.set_cons_succ, i64_w, i32_w]
             rfl
            refine pure_ (i := 37) (N := some 141) (v := ?_) (a' := ?_) #[true, true, true, true, true, true, true, true, true, true, true, true, true, true, true, true, true, true, true, true, true, true, true, true, true, true, true, true, true, true, true, true, true, true, true, true, true, true, false] rfl rfl (any_of HT_.out (by kernel_rfl)) (fun _ _ _ h => h) (Or.inl ⟨by rfl, ?_⟩) ?_ ?_
            rotate_left
            ·intro w'
             go_simp
             with_reducible rfl
            rotate_left
            ·simp only [Act.put, List.setIfInBounds_toArray, List.set_cons_zero, List.set_cons_succ, i64_w, i32_w]
             rfl
            refine pure_ (i := 38) (N := some 142) (v := ?_) (a' := ?_) #[true, true, true, true, true, true, true, true, true, true, true, true, true, true, true, true, true, true, true, true, true, true, true, true, true, true, true, true, true, true, true, true, true, true, true, true, true, true, true] rfl rfl (any_of HT_.out (by kernel_rfl)) (fun _ _ _ h => h) (Or.inl ⟨by rfl, ?_⟩) ?_ ?_
            rotate_left
            ·intro w'
             go_simp
             with_reducible rfl
            rotate_left
            ·simp only [Act.put, List.setIfInBounds_toArray, List.set_cons_zero, List.set_cons_succ, i64_w, i32_w]
             rfl
            refine done_ (done_of HT_.out (by kernel_rfl)) ?_
            try go_wp2
            go_meet
            case rel => exact ⟨_, (!t250), (by first | rfl | (simp; done) | (simp [*]; done)), H', ⟨by have := HJ8.out; first | omega | exact Nat.le_refl _⟩, ⟨by (with_reducible repeat (first | apply Kd.R_alloc | apply Kd.R_drewN | apply Kd.R_drew)); exact Kd.R_mono HO241.out (fun _ hk => trivial)⟩, ⟨by (with_reducible repeat (first | refine blk_drewN ?_ _ | refine blk_drew ?_ | refine blk_alloc ?_ _)); exact BK232.out⟩, ⟨by (with_reducible repeat (first | refine blk_drewN ?_ _ | refine blk_drew ?_ | refine blk_alloc ?_ _)); exact BK233.out⟩, ⟨by (with_reducible repeat (first | refine blk_drewN ?_ _ | refine blk_drew ?_ | refine blk_alloc ?_ _)); exact BK234.out⟩, ⟨by repeat (first | (with_reducible first | exact HB.out | apply aL | apply dN | apply dR | refine sT ?_ GE232.out | refine sT ?_ GE233.out | refine sT ?_ GE234.out) | exact HB.out)⟩⟩
           ·replace c40 := Bool.eq_false_iff.mpr c40
            subst c40
            have H1 : (laws_FnLampsTickOfAll.j1 kj8 a1 a2 a4 a6 a7 t235 false t239 false l0_0 l3_0 l5_0) = some r := by rw [if_neg (show ¬ (false = true) by decide)] at H; exact H
            clear H
            have H := H1
            clear H1
            have H' := aM H
            clear H
            try go_wp2
            have n0_ := aM (Kd.R_drew HO241.out)
            have n1_ := aM (Kd.R_drew HO245.out)
            have n2_ := aM (blk_drew BK232.out)
            have n3_ := aM (blk_drew BK233.out)
            have n4_ := aM (blk_drew BK234.out)
            have n5_ := aM (below_drew1 HB.out)
            clear HO241
            clear HO245
            clear BK232
            clear BK233
            clear BK234
            clear HB
            have HO241 := n0_
            have HO245 := n1_
            have BK232 := n2_
            have BK233 := n3_
            have BK234 := n4_
            have HB := n5_
            clear n0_ n1_ n2_ n3_ n4_ n5_
            obtain ⟨Ao49, co49, eo49⟩ := Kd.R_slice HO241.out
            (first | subst eo49 | (injection eo49 with f1_ f2_ f3_; have f4_ := f1_.symm; have f5_ := f3_.symm; clear f1_ f2_ f3_; subst f4_; subst f5_))
            obtain ⟨Ao50, co50, eo50⟩ := Kd.R_slice HO245.out
            (first | subst eo50 | (injection eo50 with f1_ f2_ f3_; have f4_ := f1_.symm; have f5_ := f3_.symm; clear f1_ f2_ f3_; subst f4_; subst f5_))
            refine start_ (n := 39) (S := fun w' => w'.cell? ⟨gb232, 0, none⟩ = some (.slice A0_0 l0_0.length c0_0)) (ds := []) #[false, false, false, false, false, false, false, false, false, false, false, false, false, false, false, false, false, false, false, false, false, false, false, false, false, false, false, false, false, false, false, false, false, false, false, false, false, false, false] (by kernel_rfl) rfl rfl ((blk_cell BK232.out 0).trans rfl) (fun hHeld => ?_); refine with_tabW laws_FnLampsTickOfAll.tab7 laws_FnLampsTickOfAll.bits7 (fun HT_ HW_ => ?_)
            generalize w30.drew = w48 at HO241 HO245 BK232 BK233 BK234 HB hHeld ⊢
            refine pure_ (i := 0) (N := some 104) (v := ?_) (a' := ?_) #[true, false, false, false, false, false, false, false, false, false, false, false, false, false, false, false, false, false, false, false, false, false, false, false, false, false, false, false, false, false, false, false, false, false, false, false, false, false, false] rfl rfl (any_of HT_.out (by kernel_rfl)) (fun _ _ _ h => h) (Or.inl ⟨by rfl, ?_⟩) ?_ ?_
            rotate_left
            ·intro w'
             go_simp
             with_reducible rfl
            rotate_left
            ·simp only [Act.put, List.setIfInBounds_toArray, List.set_cons_zero, List.set_cons_succ, i64_w, i32_w]
             rfl
            refine pure_ (i := 1) (N := some 105) (v := ?_) (a' := ?_) #[true, true, false, false, false, false, false, false, false, false, false, false, false, false, false, false, false, false, false, false, false, false, false, false, false, false, false, false, false, false, false, false, false, false, false, false, false, false, false] rfl rfl (any_of HT_.out (by kernel_rfl)) (fun _ _ _ h => h) (Or.inl ⟨by rfl, ?_⟩) ?_ ?_
            rotate_left
            ·intro w'
             go_simp
             with_reducible rfl
            rotate_left
            ·simp only [Act.put, List.setIfInBounds_toArray, List.set_cons_zero, List.set_cons_succ, i64_w, i32_w]
             rfl
            refine pure_ (i := 2) (N := some 106) (v := ?_) (a' := ?_) #[true, true, true, false, false, false, false, false, false, false, false, false, false, false, false, false, false, false, false, false, false, false, false, false, false, false, false, false, false, false, false, false, false, false, false, false, false, false, false] rfl rfl (any_of HT_.out (by kernel_rfl)) (fun _ _ _ h => h) (Or.inl ⟨by rfl, ?_⟩) ?_ ?_
            rotate_left
            ·intro w'
             go_simp
             with_reducible rfl
            rotate_left
            ·simp only [Act.put, List.setIfInBounds_toArray, List.set_cons_zero, List.set_cons_succ, i64_w, i32_w]
             rfl
            refine pure_ (i := 3) (N := some 107) (v := ?_) (a' := ?_) #[true, true, true, true, false, false, false, false, false, false, false, false, false, false, false, false, false, false, false, false, false, false, false, false, false, false, false, false, false, false, false, false, false, false, false, false, false, false, false] rfl rfl (any_of HT_.out (by kernel_rfl)) (fun _ _ _ h => h) (Or.inl ⟨by rfl, ?_⟩) ?_ ?_
            rotate_left
            ·intro w'
             go_simp
             with_reducible rfl
            rotate_left
            ·simp only [Act.put, List.setIfInBounds_toArray, List.set_cons_zero, List.set_cons_succ, i64_w, i32_w]
             rfl
            refine pure_ (i := 4) (N := some 108) (v := ?_) (a' := ?_) #[true, true, true, true, true, false, false, false, false, false, false, false, false, false, false, false, false, false, false, false, false, false, false, false, false, false, false, false, false, false, false, false, false, false, false, false, false, false, false] rfl rfl (any_of HT_.out (by kernel_rfl)) (fun _ _ _ h => h) (Or.inl ⟨by rfl, ?_⟩) ?_ ?_
            rotate_left
            ·intro w'
             go_simp
             with_reducible rfl
            rotate_left
            ·simp only [Act.put, List.setIfInBounds_toArray, List.set_cons_zero, List.set_cons_succ, i64_w, i32_w]
             rfl
            refine pure_ (i := 5) (N := some 109) (v := ?_) (a' := ?_) #[true, true, true, true, true, true, false, false, false, false, false, false, false, false, false, false, false, false, false, false, false, false, false, false, false, false, false, false, false, false, false, false, false, false, false, false, false, false, false] rfl rfl (any_of HT_.out (by kernel_rfl)) (fun _ _ _ h => h) (Or.inl ⟨by rfl, ?_⟩) ?_ ?_
            rotate_left
            ·intro w'
             go_simp
             with_reducible rfl
            rotate_left
            ·simp only [Act.put, List.setIfInBounds_toArray, List.set_cons_zero, List.set_cons_succ, i64_w, i32_w]
             rfl
            refine pure_ (i := 6) (N := some 110) (v := ?_) (a' := ?_) #[true, true, true, true, true, true, true, false, false, false, false, false, false, false, false, false, false, false, false, false, false, false, false, false, false, false, false, false, false, false, false, false, false, false, false, false, false, false, false] rfl rfl (any_of HT_.out (by kernel_rfl)) (fun _ _ _ h => h) (Or.inl ⟨by rfl, ?_⟩) ?_ ?_
            rotate_left
            ·intro w'
             go_simp
             with_reducible rfl
            rotate_left
            ·simp only [Act.put, List.setIfInBounds_toArray, List.set_cons_zero, List.set_cons_succ, i64_w, i32_w]
             rfl
            refine pure_ (i := 7) (N := some 111) (v := ?_) (a' := ?_) #[true, true, true, true, true, true, true, true, false, false, false, false, false, false, false, false, false, false, false, false, false, false, false, false, false, false, false, false, false, false, false, false, false, false, false, false, false, false, false] rfl rfl (any_of HT_.out (by kernel_rfl)) (fun _ _ _ h => h) (Or.inl ⟨by rfl, ?_⟩) ?_ ?_
            rotate_left
            ·intro w'
             go_simp
             with_reducible rfl
            rotate_left
            ·simp only [Act.put, List.setIfInBounds_toArray, List.set_cons_zero, List.set_cons_succ, i64_w, i32_w]
             rfl
            refine pure_ (i := 8) (N := some 112) (v := ?_) (a' := ?_) #[true, true, true, true, true, true, true, true, true, false, false, false, false, false, false, false, false, false, false, false, false, false, false, false, false, false, false, false, false, false, false, false, false, false, false, false, false, false, false] rfl rfl (any_of HT_.out (by kernel_rfl)) (fun _ _ _ h => h) (Or.inl ⟨by rfl, ?_⟩) ?_ ?_
            rotate_left
            ·intro w'
             go_simp
             with_reducible rfl
            rotate_left
            ·simp only [Act.put, List.setIfInBounds_toArray, List.set_cons_zero, List.set_cons_succ, i64_w, i32_w]
             rfl
            refine pure_ (i := 9) (N := some 113) (v := ?_) (a' := ?_) #[true, true, true, true, true, true, true, true, true, true, false, false, false, false, false, false, false, false, false, false, false, false, false, false, false, false, false, false, false, false, false, false, false, false, false, false, false, false, false] rfl rfl (any_of HT_.out (by kernel_rfl)) (fun _ _ _ h => h) (Or.inl ⟨by rfl, ?_⟩) ?_ ?_
            rotate_left
            ·intro w'
             go_simp
             with_reducible rfl
            rotate_left
            ·simp only [Act.put, List.setIfInBounds_toArray, List.set_cons_zero, List.set_cons_succ, i64_w, i32_w]
             rfl
            refine pure_ (i := 10) (N := some 114) (v := ?_) (a' := ?_) #[true, true, true, true, true, true, true, true, true, true, true, false, false, false, false, false, false, false, false, false, false, false, false, false, false, false, false, false, false, false, false, false, false, false, false, false, false, false, false] rfl rfl (any_of HT_.out (by kernel_rfl)) (fun _ _ _ h => h) (Or.inl ⟨by rfl, ?_⟩) ?_ ?_
            rotate_left
            ·intro w'
             go_simp
             with_reducible rfl
            rotate_left
            ·simp only [Act.put, List.setIfInBounds_toArray, List.set_cons_zero, List.set_cons_succ, i64_w, i32_w]
             rfl
            refine pure_ (i := 11) (N := some 115) (v := ?_) (a' := ?_) #[true, true, true, true, true, true, true, true, true, true, true, true, false, false, false, false, false, false, false, false, false, false, false, false, false, false, false, false, false, false, false, false, false, false, false, false, false, false, false] rfl rfl (any_of HT_.out (by kernel_rfl)) (fun _ _ _ h => h) (Or.inl ⟨by rfl, ?_⟩) ?_ ?_
            rotate_left
            ·intro w'
             go_simp
             with_reducible rfl
            rotate_left
            ·simp only [Act.put, List.setIfInBounds_toArray, List.set_cons_zero, List.set_cons_succ, i64_w, i32_w]
             rfl
            refine pure_ (i := 12) (N := some 116) (v := ?_) (a' := ?_) #[true, true, true, true, true, true, true, true, true, true, true, true, true, false, false, false, false, false, false, false, false, false, false, false, false, false, false, false, false, false, false, false, false, false, false, false, false, false, false] rfl rfl (any_of HT_.out (by kernel_rfl)) (fun _ _ _ h => h) (Or.inl ⟨by rfl, ?_⟩) ?_ ?_
            rotate_left
            ·intro w'
             go_simp
             with_reducible rfl
            rotate_left
            ·simp only [Act.put, List.setIfInBounds_toArray, List.set_cons_zero, List.set_cons_succ, i64_w, i32_w]
             rfl
            refine pure_ (i := 13) (N := some 117) (v := ?_) (a' := ?_) #[true, true, true, true, true, true, true, true, true, true, true, true, true, true, false, false, false, false, false, false, false, false, false, false, false, false, false, false, false, false, false, false, false, false, false, false, false, false, false] rfl rfl (any_of HT_.out (by kernel_rfl)) (fun _ _ _ h => h) (Or.inl ⟨by rfl, ?_⟩) ?_ ?_
            rotate_left
            ·intro w'
             go_simp
             with_reducible rfl
            rotate_left
            ·simp only [Act.put, List.setIfInBounds_toArray, List.set_cons_zero, List.set_cons_succ, i64_w, i32_w]
             rfl
            refine pure_ (i := 14) (N := some 118) (v := ?_) (a' := ?_) #[true, true, true, true, true, true, true, true, true, true, true, true, true, true, true, false, false, false, false, false, false, false, false, false, false, false, false, false, false, false, false, false, false, false, false, false, false, false, false] rfl rfl (any_of HT_.out (by kernel_rfl)) (fun _ _ _ h => h) (Or.inl ⟨by rfl, ?_⟩) ?_ ?_
            rotate_left
            ·intro w'
             go_simp
             with_reducible rfl
            rotate_left
            ·simp only [Act.put, List.setIfInBounds_toArray, List.set_cons_zero, List.set_cons_succ, i64_w, i32_w]
             rfl
            refine pure_ (i := 15) (N := some 119) (v := ?_) (a' := ?_) #[true, true, true, true, true, true, true, true, true, true, true, true, true, true, true, true, false, false, false, false, false, false, false, false, false, false, false, false, false, false, false, false, false, false, false, false, false, false, false] rfl rfl (any_of HT_.out (by kernel_rfl)) (fun _ _ _ h => h) (Or.inl ⟨by rfl, ?_⟩) ?_ ?_
            rotate_left
            ·intro w'
             go_simp
             with_reducible rfl
            rotate_left
            ·simp only [Act.put, List.setIfInBounds_toArray, List.set_cons_zero, List.set_cons_succ, i64_w, i32_w]
             rfl
            refine one_ (i := 16) (N := some 120) #[true, true, true, true, true, true, true, true, true, true, true, true, true, true, true, true, true, false, false, false, false, false, false, false, false, false, false, false, false, false, false, false, false, false, false, false, false, false, false] rfl rfl (one_of HT_.out (by kernel_rfl)) (by decide) (fun K hK => ?_)
            refine goes_ Tryd.func29 (by kernel_rfl) rfl #[.slice Ao49 t239.length co49, .slice Ao50 t243.length co50] (by rfl) rfl rfl (by (try simp only [List.map_toArray, List.map_cons, List.map_nil]); first | done | rfl | (simp only [List.length_drop, List.length_take]; rfl)) ?_
            with_reducible refine (laws_xSame.calls kj8 _ _ t239 _ _ t243 true _ ?side1 ?side2 ?side3 ?side4 A34.out).mono ?_
            (case side1 => exact cU (Kd.R_reads' HO241.out).2.2)
            (case side2 => exact (Kd.R_reads' HO241.out).2.1)
            (case side3 => exact cU (Kd.R_reads' HO245.out).2.2)
            (case side4 => exact (Kd.R_reads' HO245.out).2.1)
            rintro e w' ⟨rfl, ⟨nd, rfl⟩⟩
            refine ⟨_, rfl, ?_⟩
            refine hK.out _ _ ((blk_cell BK232.out 0).trans rfl) (fun hHeld => ?_)
            clear hK K
            refine norm_ (a' := ?_) ?_ ?_
            rotate_left
            ·show Act.put _ (some 120) _ = _
             simp only [Act.put, List.setIfInBounds_toArray, List.set_cons_zero, List.set_cons_succ, i64_w, i32_w]
             rfl
            refine pure_ (i := 17) (N := some 121) (v := ?_) (a' := ?_) #[true, true, true, true, true, true, true, true, true, true, true, true, true, true, true, true, true, true, false, false, false, false, false, false, false, false, false, false, false, false, false, false, false, false, false, false, false, false, false] rfl rfl (any_of HT_.out (by kernel_rfl)) (fun _ _ _ h => h) (Or.inl ⟨by rfl, ?_⟩) ?_ ?_
            rotate_left
            ·intro w'
             go_simp
             with_reducible rfl
            rotate_left
            ·simp only [Act.put, List.setIfInBounds_toArray, List.set_cons_zero, List.set_cons_succ, i64_w, i32_w]
             rfl
            refine pure_ (i := 18) (N := some 122) (v := ?_) (a' := ?_) #[true, true, true, true, true, true, true, true, true, true, true, true, true, true, true, true, true, true, true, false, false, false, false, false, false, false, false, false, false, false, false, false, false, false, false, false, false, false, false] rfl rfl (any_of HT_.out (by kernel_rfl)) (fun _ _ _ h => h) (Or.inl ⟨by rfl, ?_⟩) ?_ ?_
            rotate_left
            ·intro w'
             go_simp
             with_reducible rfl
            rotate_left
            ·simp only [Act.put, List.setIfInBounds_toArray, List.set_cons_zero, List.set_cons_succ, i64_w, i32_w]
             rfl
            refine pure_ (i := 19) (N := some 123) (v := ?_) (a' := ?_) #[true, true, true, true, true, true, true, true, true, true, true, true, true, true, true, true, true, true, true, true, false, false, false, false, false, false, false, false, false, false, false, false, false, false, false, false, false, false, false] rfl rfl (any_of HT_.out (by kernel_rfl)) (fun _ _ _ h => h) (Or.inl ⟨by rfl, ?_⟩) ?_ ?_
            rotate_left
            ·intro w'
             go_simp
             with_reducible rfl
            rotate_left
            ·simp only [Act.put, List.setIfInBounds_toArray, List.set_cons_zero, List.set_cons_succ, i64_w, i32_w]
             rfl
            refine pure_ (i := 20) (N := some 124) (v := ?_) (a' := ?_) #[true, true, true, true, true, true, true, true, true, true, true, true, true, true, true, true, true, true, true, true, true, false, false, false, false, false, false, false, false, false, false, false, false, false, false, false, false, false, false] rfl rfl (any_of HT_.out (by kernel_rfl)) (fun _ _ _ h => h) (Or.inl ⟨by rfl, ?_⟩) ?_ ?_
            rotate_left
            ·intro w'
             go_simp
             with_reducible rfl
            rotate_left
            ·simp only [Act.put, List.setIfInBounds_toArray, List.set_cons_zero, List.set_cons_succ, i64_w, i32_w]
             rfl
            refine pure_ (i := 21) (N := some 125) (v := ?_) (a' := ?_) #[true, true, true, true, true, true, true, true, true, true, true, true, true, true, true, true, true, true, true, true, true, true, false, false, false, false, false, false, false, false, false, false, false, false, false, false, false, false, false] rfl rfl (any_of HT_.out (by kernel_rfl)) (fun _ _ _ h => h) (Or.inl ⟨by rfl, ?_⟩) ?_ ?_
            rotate_left
            ·intro w'
             go_simp
             with_reducible rfl
            rotate_left
            ·simp only [Act.put, List.setIfInBounds_toArray, List.set_cons_zero, List.set_cons_succ, i64_w, i32_w]
             rfl
            refine pure_ (i := 22) (N := some 126) (v := ?_) (a' := ?_) #[true, true, true, true, true, true, true, true, true, true, true, true, true, true, true, true, true, true, true, true, true, true, true, false, false, false, false, false, false, false, false, false, false, false, false, false, false, false, false] rfl rfl (any_of HT_.out (by kernel_rfl)) (fun _ _ _ h => h) (Or.inl ⟨by rfl, ?_⟩) ?_ ?_
            rotate_left
            ·intro w'
             go_simp
             with_reducible rfl
            rotate_left
            ·simp only [Act.put, List.setIfInBounds_toArray, List.set_cons_zero, List.set_cons_succ, i64_w, i32_w]
             rfl
            refine pure_ (i := 23) (N := some 127) (v := ?_) (a' := ?_) #[true, true, true, true, true, true, true, true, true, true, true, true, true, true, true, true, true, true, true, true, true, true, true, true, false, false, false, false, false, false, false, false, false, false, false, false, false, false, false] rfl rfl (any_of HT_.out (by kernel_rfl)) (fun _ _ _ h => h) (Or.inl ⟨by rfl, ?_⟩) ?_ ?_
            rotate_left
            ·intro w'
             go_simp
             with_reducible rfl
            rotate_left
            ·simp only [Act.put, List.setIfInBounds_toArray, List.set_cons_zero, List.set_cons_succ, i64_w, i32_w]
             rfl
            refine pure_ (i := 24) (N := some 128) (v := ?_) (a' := ?_) #[true, true, true, true, true, true, true, true, true, true, true, true, true, true, true, true, true, true, true, true, true, true, true, true, true, false, false, false, false, false, false, false, false, false, false, false, false, false, false] rfl rfl (any_of HT_.out (by kernel_rfl)) (fun _ _ _ h => h) (Or.inl ⟨by rfl, ?_⟩) ?_ ?_
            rotate_left
            ·intro w'
             go_simp
             with_reducible rfl
            rotate_left
            ·simp only [Act.put, List.setIfInBounds_toArray, List.set_cons_zero, List.set_cons_succ, i64_w, i32_w]
             rfl
            refine take_ (i := 25) (N := some 129) (v := ?_) (a' := ?_) #[true, true, true, true, true, true, true, true, true, true, true, true, true, true, true, true, true, true, true, true, true, true, true, true, true, true, false, false, false, false, false, false, false, false, false, false, false, false, false] rfl rfl (take_ofW HT_.out HW_.out (by kernel_rfl)) (fun _ _ _ h => h) (Or.inl ⟨by rfl, ?_⟩) hHeld ?_ ?_
            rotate_left
            ·intro w' s0
             go_simp
             with_reducible rfl
            rotate_left
            ·simp only [Act.put, List.setIfInBounds_toArray, List.set_cons_zero, List.set_cons_succ, i64_w, i32_w]
             rfl
            refine take_ (i := 27) (N := some 131) (v := ?_) (a' := ?_) #[true, true, true, true, true, true, true, true, true, true, true, true, true, true, true, true, true, true, true, true, true, true, true, true, true, true, false, true, false, false, false, false, false, false, false, false, false, false, false] rfl rfl (take_ofW HT_.out HW_.out (by kernel_rfl)) (fun _ _ _ h => h) (Or.inl ⟨by rfl, ?_⟩) hHeld ?_ ?_
            rotate_left
            ·intro w' s0
             go_simp
             with_reducible rfl
            rotate_left
            ·simp only [Act.put, List.setIfInBounds_toArray, List.set_cons_zero, List.set_cons_succ, i64_w, i32_w]
             rfl
            refine one_ (i := 26) (N := some 130) #[true, true, true, true, true, true, true, true, true, true, true, true, true, true, true, true, true, true, true, true, true, true, true, true, true, true, true, true, false, false, false, false, false, false, false, false, false, false, false] rfl rfl (one_of HT_.out (by kernel_rfl)) (by decide) (fun K hK => ?_)
            refine goes_ Tryd.func30 (by kernel_rfl) rfl #[.agg #[.slice A0_0 l0_0.length c0_0]] (by rfl) rfl rfl (by (try simp only [List.map_toArray, List.map_cons, List.map_nil]); first | done | rfl | (simp only [List.length_drop, List.length_take]; rfl)) ?_
            with_reducible refine (impl_AreLamps.calls _ _ l0_0 t248 _ ?side1 ?side2 A37.out).mono ?_
            (case side1 => repeat (first | exact (Kd.C_below HR0_0.out (by repeat (first | (with_reducible first | exact HB.out | apply aL | apply dN | apply dR | refine sT ?_ GE232.out | refine sT ?_ GE233.out | refine sT ?_ GE234.out) | exact HB.out))) | (with_reducible refine Kd.C_alloc ?_ _) | (with_reducible refine Kd.C_drewN ?_ _) | (with_reducible refine Kd.C_drew ?_)))
            (case side2 => exact HC0_0.out)
            rintro e w51 ⟨rfl, hb⟩
            refine ⟨_, rfl, ?_⟩
            have n0_ := aM (Kd.R_below (rU HO241.out) hb)
            have n1_ := aM (Kd.R_below (rU HO245.out) hb)
            have n2_ := aM (blk_below (g := gb232) (o := .cells #[.slice A0_0 l0_0.length c0_0] 29 (0, 0)) (bU BK232.out) hb)
            have n3_ := aM (blk_below (g := gb233) (o := .cells #[.slice A3_0 l3_0.length c3_0] 29 (0, 0)) (bU BK233.out) hb)
            have n4_ := aM (blk_below (g := gb234) (o := .cells #[.slice A5_0 l5_0.length c5_0] 29 (0, 0)) (bU BK234.out) hb)
            have n5_ := aM (below_step (by repeat (first | (with_reducible first | exact HB.out | apply aL | apply dN | apply dR | refine sT ?_ GE232.out | refine sT ?_ GE233.out | refine sT ?_ GE234.out) | exact HB.out)) hb)
            clear HO241
            clear HO245
            clear BK232
            clear BK233
            clear BK234
            clear HB
            have HO241 := n0_
            have HO245 := n1_
            have BK232 := n2_
            have BK233 := n3_
            have BK234 := n4_
            have HB := n5_
            clear n0_ n1_ n2_ n3_ n4_ n5_
            (try clear hb)
            (try clear hb2)
            (try clear hk)
            (try clear hi)
            refine hK.out _ _ ((blk_cell BK232.out 0).trans rfl) (fun hHeld => ?_)
            clear hK K
            refine norm_ (a' := ?_) ?_ ?_
            rotate_left
            ·show Act.put _ (some 130) _ = _
             simp only [Act.put, List.setIfInBounds_toArray, List.set_cons_zero, List.set_cons_succ, i64_w, i32_w]
             rfl
            refine one_ (i := 28) (N := some 132) #[true, true, true, true, true, true, true, true, true, true, true, true, true, true, true, true, true, true, true, true, true, true, true, true, true, true, true, true, true, false, false, false, false, false, false, false, false, false, false] rfl rfl (one_of HT_.out (by kernel_rfl)) (by decide) (fun K hK => ?_)
            refine goes_ Tryd.func31 (by kernel_rfl) rfl #[.agg #[.slice A0_0 l0_0.length c0_0]] (by rfl) rfl rfl (by (try simp only [List.map_toArray, List.map_cons, List.map_nil]); first | done | rfl | (simp only [List.length_drop, List.length_take]; rfl)) ?_
            with_reducible refine (spec_AreLamps.calls _ _ l0_0 t249 _ ?side1 ?side2 A38.out).mono ?_
            (case side1 => exact cU (Kd.C_below HR0_0.out HB.out))
            (case side2 => exact HC0_0.out)
            rintro e w52 ⟨rfl, hb⟩
            refine ⟨_, rfl, ?_⟩
            have n0_ := aM (Kd.R_below (rU HO241.out) hb)
            have n1_ := aM (Kd.R_below (rU HO245.out) hb)
            have n2_ := aM (blk_below (g := gb232) (o := .cells #[.slice A0_0 l0_0.length c0_0] 29 (0, 0)) (bU BK232.out) hb)
            have n3_ := aM (blk_below (g := gb233) (o := .cells #[.slice A3_0 l3_0.length c3_0] 29 (0, 0)) (bU BK233.out) hb)
            have n4_ := aM (blk_below (g := gb234) (o := .cells #[.slice A5_0 l5_0.length c5_0] 29 (0, 0)) (bU BK234.out) hb)
            have n5_ := aM (below_step (by repeat (first | (with_reducible first | exact HB.out | apply aL | apply dN | apply dR | refine sT ?_ GE232.out | refine sT ?_ GE233.out | refine sT ?_ GE234.out) | exact HB.out)) hb)
            clear HO241
            clear HO245
            clear BK232
            clear BK233
            clear BK234
            clear HB
            have HO241 := n0_
            have HO245 := n1_
            have BK232 := n2_
            have BK233 := n3_
            have BK234 := n4_
            have HB := n5_
            clear n0_ n1_ n2_ n3_ n4_ n5_
            (try clear hb)
            (try clear hb2)
            (try clear hk)
            (try clear hi)
            refine hK.out _ _ ((blk_cell BK232.out 0).trans rfl) (fun hHeld => ?_)
            clear hK K
            refine norm_ (a' := ?_) ?_ ?_
            rotate_left
            ·show Act.put _ (some 132) _ = _
             simp only [Act.put, List.setIfInBounds_toArray, List.set_cons_zero, List.set_cons_succ, i64_w, i32_w]
             rfl
            refine pure_ (i := 29) (N := some 133) (v := ?_) (a' := ?_) #[true, true, true, true, true, true, true, true, true, true, true, true, true, true, true, true, true, true, true, true, true, true, true, true, true, true, true, true, true, true, false, false, false, false, false, false, false, false, false] rfl rfl (any_of HT_.out (by kernel_rfl)) (fun _ _ _ h => h) (Or.inl ⟨by rfl, ?_⟩) ?_ ?_
            rotate_left
            ·intro w'
             go_simp
             with_reducible rfl
            rotate_left
            ·simp only [Act.put, List.setIfInBounds_toArray, List.set_cons_zero, List.set_cons_succ, i64_w, i32_w]
             rfl
            refine pure_ (i := 30) (N := some 134) (v := ?_) (a' := ?_) #[true, true, true, true, true, true, true, true, true, true, true, true, true, true, true, true, true, true, true, true, true, true, true, true, true, true, true, true, true, true, true, false, false, false, false, false, false, false, false] rfl rfl (any_of HT_.out (by kernel_rfl)) (fun _ _ _ h => h) (Or.inl ⟨by rfl, ?_⟩) ?_ ?_
            rotate_left
            ·intro w'
             go_simp
             with_reducible rfl
            rotate_left
            ·simp only [Act.put, List.setIfInBounds_toArray, List.set_cons_zero, List.set_cons_succ, i64_w, i32_w]
             rfl
            refine pure_ (i := 31) (N := some 135) (v := ?_) (a' := ?_) #[true, true, true, true, true, true, true, true, true, true, true, true, true, true, true, true, true, true, true, true, true, true, true, true, true, true, true, true, true, true, true, true, false, false, false, false, false, false, false] rfl rfl (any_of HT_.out (by kernel_rfl)) (fun _ _ _ h => h) (Or.inl ⟨by rfl, ?_⟩) ?_ ?_
            rotate_left
            ·intro w'
             go_simp
             with_reducible rfl
            rotate_left
            ·simp only [Act.put, List.setIfInBounds_toArray, List.set_cons_zero, List.set_cons_succ, i64_w, i32_w]
             rfl
            refine pure_ (i := 32) (N := some 136) (v := ?_) (a' := ?_) #[true, true, true, true, true, true, true, true, true, true, true, true, true, true, true, true, true, true, true, true, true, true, true, true, true, true, true, true, true, true, true, true, true, false, false, false, false, false, false] rfl rfl (any_of HT_.out (by kernel_rfl)) (fun _ _ _ h => h) (Or.inl ⟨by rfl, ?_⟩) ?_ ?_
            rotate_left
            ·intro w'
             go_simp
             with_reducible rfl
            rotate_left
            ·simp only [Act.put, List.setIfInBounds_toArray, List.set_cons_zero, List.set_cons_succ, i64_w, i32_w]
             rfl
            refine pure_ (i := 33) (N := some 137) (v := ?_) (a' := ?_) #[true, true, true, true, true, true, true, true, true, true, true, true, true, true, true, true, true, true, true, true, true, true, true, true, true, true, true, true, true, true, true, true, true, true, false, false, false, false, false] rfl rfl (any_of HT_.out (by kernel_rfl)) (fun _ _ _ h => h) (Or.inl ⟨by rfl, ?_⟩) ?_ ?_
            rotate_left
            ·intro w'
             go_simp
             with_reducible rfl
            rotate_left
            ·simp only [Act.put, List.setIfInBounds_toArray, List.set_cons_zero, List.set_cons_succ, i64_w, i32_w]
             rfl
            refine pure_ (i := 34) (N := some 138) (v := undef) (a' := ?_) #[true, true, true, true, true, true, true, true, true, true, true, true, true, true, true, true, true, true, true, true, true, true, true, true, true, true, true, true, true, true, true, true, true, true, true, false, false, false, false] rfl rfl (any_of HT_.out (by kernel_rfl)) (fun _ _ _ h => h) (Or.inr ⟨by rfl, rfl⟩) ?_ ?_
            rotate_left
            ·simp only [Act.put, List.setIfInBounds_toArray, List.set_cons_zero, List.set_cons_succ, i64_w, i32_w]
             rfl
            refine pure_ (i := 35) (N := some 139) (v := undef) (a' := ?_) #[true, true, true, true, true, true, true, true, true, true, true, true, true, true, true, true, true, true, true, true, true, true, true, true, true, true, true, true, true, true, true, true, true, true, true, true, false, false, false] rfl rfl (any_of HT_.out (by kernel_rfl)) (fun _ _ _ h => h) (Or.inr ⟨by rfl, rfl⟩) ?_ ?_
            rotate_left
            ·simp only [Act.put, List.setIfInBounds_toArray, List.set_cons_zero, List.set_cons_succ, i64_w, i32_w]
             rfl
            refine pure_ (i := 36) (N := some 140) (v := undef) (a' := ?_) #[true, true, true, true, true, true, true, true, true, true, true, true, true, true, true, true, true, true, true, true, true, true, true, true, true, true, true, true, true, true, true, true, true, true, true, true, true, false, false] rfl rfl (any_of HT_.out (by kernel_rfl)) (fun _ _ _ h => h) (Or.inr ⟨by rfl, rfl⟩) ?_ ?_
            rotate_left
            ·simp only [Act.put, List.setIfInBounds_toArray, List.set_cons_zero, List.set_cons_succ, i64_w, i32_w]
             rfl
            refine pure_ (i := 37) (N := some 141) (v := ?_) (a' := ?_) #[true, true, true, true, true, true, true, true, true, true, true, true, true, true, true, true, true, true, true, true, true, true, true, true, true, true, true, true, true, true, true, true, true, true, true, true, true, true, false] rfl rfl (any_of HT_.out (by kernel_rfl)) (fun _ _ _ h => h) (Or.inl ⟨by rfl, ?_⟩) ?_ ?_
            rotate_left
            ·intro w'
             go_simp
             with_reducible rfl
            rotate_left
            ·simp only [Act.put, List.setIfInBounds_toArray, List.set_cons_zero, List.set_cons_succ, i64_w, i32_w]
             rfl
            refine pure_ (i := 38) (N := some 142) (v := ?_) (a' := ?_) #[true, true, true, true, true, true, true, true, true, true, true, true, true, true, true, true, true, true, true, true, true, true, true, true, true, true, true, true, true, true, true, true, true, true, true, true, true, true, true] rfl rfl (any_of HT_.out (by kernel_rfl)) (fun _ _ _ h => h) (Or.inl ⟨by rfl, ?_⟩) ?_ ?_
            rotate_left
            ·intro w'
             go_simp
             with_reducible rfl
            rotate_left
            ·simp only [Act.put, List.setIfInBounds_toArray, List.set_cons_zero, List.set_cons_succ, i64_w, i32_w]
             rfl
            refine done_ (done_of HT_.out (by kernel_rfl)) ?_
            try go_wp2
            go_meet
            case rel => exact ⟨_, (false), (by first | rfl | (simp; done) | (simp [*]; done)), H', ⟨by have := HJ8.out; first | omega | exact Nat.le_refl _⟩, ⟨by (with_reducible repeat (first | apply Kd.R_alloc | apply Kd.R_drewN | apply Kd.R_drew)); exact Kd.R_mono HO241.out (fun _ hk => trivial)⟩, ⟨by (with_reducible repeat (first | refine blk_drewN ?_ _ | refine blk_drew ?_ | refine blk_alloc ?_ _)); exact BK232.out⟩, ⟨by (with_reducible repeat (first | refine blk_drewN ?_ _ | refine blk_drew ?_ | refine blk_alloc ?_ _)); exact BK233.out⟩, ⟨by (with_reducible repeat (first | refine blk_drewN ?_ _ | refine blk_drew ?_ | refine blk_alloc ?_ _)); exact BK234.out⟩, ⟨by repeat (first | (with_reducible first | exact HB.out | apply aL | apply dN | apply dR | refine sT ?_ GE232.out | refine sT ?_ GE233.out | refine sT ?_ GE234.out) | exact HB.out)⟩⟩
        ·replace c35 := Bool.eq_false_iff.mpr c35
         subst c35
         have H1 : (none) = some r := by rw [if_neg (show ¬ (false = true) by decide)] at H; exact H
         clear H
         have H := H1
         clear H1
         exact absurd H (by simp)
      ·rw [if_neg c32] at H
       exact absurd H (by simp)
    case rest => as_aux_lemma =>
     clear HC20
     try clear c2;try clear p2;try clear c3;try clear c4;try clear c5;try clear c29;try clear c30;try clear c31;try clear c32;try clear c35;try clear c40
     obtain ⟨kq, x142_19, rfl, HA, HJ19, HO_21, BK232, BK233, BK234, HB⟩ := hcut
     cases kq with
     | zero => exact absurd HA.out (by simp [laws_FnLampsTickOfAll.j1])
     | succ kj19 =>
      have H := HA.out
      clear HA
      simp only [laws_FnLampsTickOfAll.j1] at H
      by_cases c53 : x142_19 = true
      ·subst c53
       have H1 : (none) = some r := by rw [if_pos rfl] at H; exact H
       clear H
       have H := H1
       clear H1
       exact absurd H (by simp)
      ·replace c53 := Bool.eq_false_iff.mpr c53
       subst c53
       have H1 : (if t236 = true then (if (t239.length : Int) = (a1.size : Int) then (if a2 ≤ 20 then (if 0 ≤ (a1.size : Int) then (if ((a1.size : Int) : Int).toNat ≤ 35184372088832 then (laws_FnLampsTickOfAll.l0 kj19 a1 a2 a4 a6 a7 t235 t239 a1 (List.replicate ((a1.size : Int) : Int).toNat 0) 0 l0_0 l3_0 l5_0) else (none)) else (none)) else (laws_FnLampsTickOfAll.j5 kj19 a1 a2 a4 a6 a7 t235 t239 l3_0 l5_0)) else (none)) else (laws_FnLampsTickOfAll.j7 kj19 a4 a6 a7 l3_0 l5_0)) = some r := by rw [if_neg (show ¬ (false = true) by decide)] at H; exact H
       clear H
       have H := H1
       clear H1
       have HC54 := aM H
       clear H
       go_upto_if 143 with (fail)
       go_cut [] from 143 to 143 (fun wc => ∃ (kq : Nat), Aside0 (laws_FnLampsTickOfAll.j7 kq a4 a6 a7 l3_0 l5_0 = some r) ∧ Aside0 (kq ≤ kj19) ∧ Aside0 (wc.heap[gb232]? = some (.cells #[(.slice A0_0 l0_0.length c0_0)] 29 (0, 0))) ∧ Aside0 (wc.heap[gb233]? = some (.cells #[(.slice A3_0 l3_0.length c3_0)] 29 (0, 0))) ∧ Aside0 (wc.heap[gb234]? = some (.cells #[(.slice A5_0 l5_0.length c5_0)] 29 (0, 0))) ∧ Aside0 (Below w.heap.size w wc))
       case first => as_aux_lemma =>
        have H := HC54.out
        clear HC54
        by_cases c55 : t236 = true
        ·subst c55
         have H1 : (if (t239.length : Int) = (a1.size : Int) then (if a2 ≤ 20 then (if 0 ≤ (a1.size : Int) then (if ((a1.size : Int) : Int).toNat ≤ 35184372088832 then (laws_FnLampsTickOfAll.l0 kj19 a1 a2 a4 a6 a7 t235 t239 a1 (List.replicate ((a1.size : Int) : Int).toNat 0) 0 l0_0 l3_0 l5_0) else (none)) else (none)) else (laws_FnLampsTickOfAll.j5 kj19 a1 a2 a4 a6 a7 t235 t239 l3_0 l5_0)) else (none)) = some r := by rw [if_pos rfl] at H; exact H
         clear H
         have H := H1
         clear H1
         by_cases c56 : (t239.length : Int) = (a1.size : Int)
         ·rw [if_pos c56] at H
          have c56b0 : ((t239.length : Int) == (a1.size : Int)) = true := beq_iff_eq.mpr c56
          have c56b1 : ((t239.length : Int) != (a1.size : Int)) = false := bne_eq_false_iff_eq.mpr c56
          have c56b2 : (t239.length == a1.size) = true := by first | simpa using c56 | (simp at c56 ⊢; omega)
          clear c56
          (first | rw [c56b0] | (simp only [i64_w, i32_w]; rw [c56b0]) | skip)
          have HC57 := aM H
          clear H
          obtain ⟨Ao58, co58, eo58⟩ := Kd.R_slice HO_21.out
          subst eo58
          go_upto_if 150 with (fail)
          go_cut [] from 144 to 150 (fun wc => ∃ (kq : Nat) (x21_56 : List Int), Aside0 (laws_FnLampsTickOfAll.j5 kq a1 a2 a4 a6 a7 t235 x21_56 l3_0 l5_0 = some r) ∧ Aside0 (kq ≤ kj19) ∧ Aside0 (Kd.R (Kd.int .i64) 3 wc w.heap.size (fun _ => True) (.slice Ao58 t239.length co58) x21_56) ∧ Aside0 (wc.heap[gb232]? = some (.cells #[(.slice A0_0 l0_0.length c0_0)] 29 (0, 0))) ∧ Aside0 (wc.heap[gb233]? = some (.cells #[(.slice A3_0 l3_0.length c3_0)] 29 (0, 0))) ∧ Aside0 (wc.heap[gb234]? = some (.cells #[(.slice A5_0 l5_0.length c5_0)] 29 (0, 0))) ∧ Aside0 (Below w.heap.size w wc))
          case first => as_aux_lemma =>
           have H := HC57.out
           clear HC57
           by_cases c59 : a2 ≤ 20
           ·rw [if_pos c59] at H
            have c59b0 : decide (a2 ≤ 20) = true := decide_eq_true c59
            clear c59
            (first | rw [c59b0] | (simp only [i64_w, i32_w]; rw [c59b0]) | skip)
            by_cases c60 : 0 ≤ (a1.size : Int)
            ·rw [if_pos c60] at H
             have c60b0 := eq_true c60
             have c60b1 : decide (0 ≤ (a1.size : Int)) = true := decide_eq_true c60
             clear c60
             by_cases c61 : ((a1.size : Int) : Int).toNat ≤ 35184372088832
             ·rw [if_pos c61] at H
              have c61b0 := eq_true c61
              have c61b1 : decide (((a1.size : Int) : Int).toNat ≤ 35184372088832) = true := decide_eq_true c61
              clear c61
              obtain ⟨y251, hy251⟩ : ∃ y_ : List Int, y_ = (List.replicate ((a1.size : Int) : Int).toNat 0) := ⟨_, rfl⟩
              replace H : (laws_FnLampsTickOfAll.l0 kj19 a1 a2 a4 a6 a7 t235 t239 a1 y251 0 l0_0 l3_0 l5_0) = some r := by first | (rw [hy251]; with_reducible exact H) | (have H2_ := (Option.bind_some _ _).symm.trans H; rw [hy251]; with_reducible exact H2_) | (have H2_ := (Option.bind_some _ _).symm.trans H; with_reducible exact H2_) | with_reducible exact H | (rw [hy251]; exact H) | exact H
              have Ny251 := aM hy251
              clear hy251
              have H' := aM H
              clear H
              go_wp2_with (first | ((with_reducible refine gate_dst (N := 154) rfl ?_); (try (refine gate_guard (by rfl) ?_; dsimp only)); refine Kd.R_make (Kd.int .i64) _ 3 rfl (N := 154) rfl 46 _ _ rfl (a1.size : Int) rfl rfl Tryd.underlying46 (.int .i64 0) 8 info3 rfl (by decide) (by omega) 0 (ok := fun _ => True) (okp := fun _ => True) rfl (fun _ hk => hk) trivial (of_decide_eq_true (by first | (with_reducible assumption) | assumption)) (Nat.le_trans (Nat.mul_le_mul_right _ (of_decide_eq_true (by first | (with_reducible assumption) | assumption) : (a1.size : Int).toNat ≤ 35184372088832)) (by omega)) (Below.refl _ _) (Nat.le_refl _) ?_; intro v252 w62 ho63 hb hg_ hnew_; clear hg_ hnew_; (first | rw [← Ny251.out] at ho63 | (simp only [Int.reduceToNat] at ho63; rw [← Ny251.out] at ho63)); have n0_ := aM (Kd.R_elder' (rU HO_21.out) (Kd.R_base ho63) hb); have n1_ := aM (Kd.R_lower (Kd.R_new' ho63 (Kd.R_lt (rU HO_21.out))) (below_size (by repeat (first | (with_reducible first | exact HB.out | apply aL | apply dN | apply dR | refine sT ?_ GE232.out | refine sT ?_ GE233.out | refine sT ?_ GE234.out) | exact HB.out)))); have n2_ := aM (blk_below (g := gb232) (o := .cells #[.slice A0_0 l0_0.length c0_0] 29 (0, 0)) (bU BK232.out) hb); have n3_ := aM (blk_below (g := gb233) (o := .cells #[.slice A3_0 l3_0.length c3_0] 29 (0, 0)) (bU BK233.out) hb); have n4_ := aM (blk_below (g := gb234) (o := .cells #[.slice A5_0 l5_0.length c5_0] 29 (0, 0)) (bU BK234.out) hb); have n5_ := aM (below_step (by repeat (first | (with_reducible first | exact HB.out | apply aL | apply dN | apply dR | refine sT ?_ GE232.out | refine sT ?_ GE233.out | refine sT ?_ GE234.out) | exact HB.out)) hb); clear HO_21; clear BK232; clear BK233; clear BK234; clear HB; have HO_21 := n0_; have HO253 := n1_; have BK232 := n2_; have BK233 := n3_; have BK234 := n4_; have HB := n5_; clear n0_ n1_ n2_ n3_ n4_ n5_; clear hb ho63))
              go_loopg [25, 27] kj19 (fun kq v25 v27 w' => ∃ (x25_3 : ByteArray) (x26_3 : List Int) (x27_3 : Int), v25 = .string x25_3 ∧ v27 = .int .i64 x27_3 ∧ Aside0 (laws_FnLampsTickOfAll.l0 kq a1 a2 a4 a6 a7 t235 t239 x25_3 x26_3 x27_3 l0_0 l3_0 l5_0 = some r) ∧ Aside0 (kq ≤ kj19) ∧ Aside0 (Kd.R (Kd.int .i64) 3 w' w.heap.size (fun k_ => some k_ ≠ (v252 : Value).ownBlock) (.slice Ao58 t239.length co58) t239) ∧ Aside0 (Kd.R (Kd.int .i64) 3 w' w.heap.size (fun k_ => some k_ ≠ ((.slice Ao58 t239.length co58) : Value).ownBlock) v252 x26_3) ∧ Aside0 (w'.heap[gb232]? = some (.cells #[(.slice A0_0 l0_0.length c0_0)] 29 (0, 0))) ∧ Aside0 (w'.heap[gb233]? = some (.cells #[(.slice A3_0 l3_0.length c3_0)] 29 (0, 0))) ∧ Aside0 (w'.heap[gb234]? = some (.cells #[(.slice A5_0 l5_0.length c5_0)] 29 (0, 0))) ∧ Aside0 (Below w.heap.size w w'))
              case atStart => exact ⟨(a1), (y251), (0), (by first | rfl | (simp; done) | (simp [*]; done)), (by first | rfl | (simp; done) | (simp [*]; done)), H', ⟨Nat.le_refl _⟩, ⟨by (with_reducible repeat (first | apply Kd.R_alloc | apply Kd.R_drewN | apply Kd.R_drew)); exact Kd.R_mono HO_21.out (fun _ hk => hk.2)⟩, ⟨by (with_reducible repeat (first | apply Kd.R_alloc | apply Kd.R_drewN | apply Kd.R_drew)); exact Kd.R_mono HO253.out (fun _ hk => hk.2)⟩, ⟨by (with_reducible repeat (first | refine blk_drewN ?_ _ | refine blk_drew ?_ | refine blk_alloc ?_ _)); exact BK232.out⟩, ⟨by (with_reducible repeat (first | refine blk_drewN ?_ _ | refine blk_drew ?_ | refine blk_alloc ?_ _)); exact BK233.out⟩, ⟨by (with_reducible repeat (first | refine blk_drewN ?_ _ | refine blk_drew ?_ | refine blk_alloc ?_ _)); exact BK234.out⟩, ⟨by repeat (first | (with_reducible first | exact HB.out | apply aL | apply dN | apply dR | refine sT ?_ GE232.out | refine sT ?_ GE233.out | refine sT ?_ GE234.out) | exact HB.out)⟩⟩
              case round => as_aux_lemma =>
               clear H'
               try clear c2;try clear p2;try clear c3;try clear c4;try clear c5;try clear c6;try clear c29;try clear c30;try clear c31;try clear c32;try clear c35;try clear c40;try clear c53;try clear c55;try clear c56;try clear c56b0;try clear c56b1;try clear c56b2;try clear c59;try clear c59b0;try clear c60;try clear c60b0;try clear c60b1;try clear c61;try clear c61b0;try clear c61b1;try clear p2
               obtain ⟨x25_3, x26_3, x27_3, rfl, rfl, HA, HK3, HO_21, HO_26, BK232, BK233, BK234, HB⟩ := hrel
               cases gk with
               | zero => exact absurd HA.out (by simp [laws_FnLampsTickOfAll.l0])
               | succ k3 =>
                have H := HA.out
                clear HA
                simp only [laws_FnLampsTickOfAll.l0] at H
                by_cases c64 : x27_3 < a2
                ·rw [if_pos c64] at H
                 have c64b0 : decide (x27_3 < a2) = true := decide_eq_true c64
                 clear c64
                 replace H := Option.bind_eq_some_iff.mp H
                 obtain ⟨⟨t255, t256⟩, A650, H⟩ := H
                 replace H : (if t256 = true then (laws_FnLampsTickOfAll.j3 k3 a1 a2 a4 a6 a7 t235 t239 x25_3 x26_3 x27_3 t255 ((t255.size : Int) != (x25_3.size : Int)) l0_0 l3_0 l5_0) else (none)) = some r := H
                 have A65 := aM A650
                 clear A650
                 have HC66 := aM H
                 clear H
                 have hnb67 := NB232_233.out
                 have hnc67 := NB233_232.out
                 have hnb68 := NB232_234.out
                 have hnc68 := NB234_232.out
                 have hcz69_0 : wr.cell? ⟨gb232, 0, none⟩ = some (.slice A0_0 l0_0.length c0_0) := (blk_cell BK232.out 0).trans rfl
                 have hfz69_0 := blk_frozen BK232.out 0
                 go_upto_region 19 with (first | ((with_reducible refine gate_callee (f := 32) rfl ?_); refine goesL_ (some 163) rfl rfl Tryd.func32 (by kernel_rfl) rfl #[.agg #[.slice A0_0 l0_0.length c0_0], .string x25_3] rfl (by (try simp only [List.map_toArray, List.map_cons, List.map_nil]); first | done | rfl | (simp only [List.length_drop, List.length_take]; rfl)) ?_; (with_reducible refine (impl_TickOnce.calls _ _ l0_0 x25_3 t255 t256 _ ?side1 ?side2 A65.out).mono ?_); (case side1 => exact cU (Kd.C_below HR0_0.out HB.out)); (case side2 => exact HC0_0.out); rintro e w70 ⟨rfl, hb⟩; refine ⟨_, rfl, ?_⟩; have n0_ := aM (Kd.R_below (rU HO_21.out) hb); have n1_ := aM (Kd.R_below (rU HO_26.out) hb); have n2_ := aM (blk_below (g := gb232) (o := .cells #[.slice A0_0 l0_0.length c0_0] 29 (0, 0)) (bU BK232.out) hb); have n3_ := aM (blk_below (g := gb233) (o := .cells #[.slice A3_0 l3_0.length c3_0] 29 (0, 0)) (bU BK233.out) hb); have n4_ := aM (blk_below (g := gb234) (o := .cells #[.slice A5_0 l5_0.length c5_0] 29 (0, 0)) (bU BK234.out) hb); have n5_ := aM (below_step (by repeat (first | (with_reducible first | exact HB.out | apply aL | apply dN | apply dR | refine sT ?_ GE232.out | refine sT ?_ GE233.out | refine sT ?_ GE234.out) | exact HB.out)) hb); clear HO_21; clear HO_26; clear BK232; clear BK233; clear BK234; clear HB; have HO_21 := n0_; have HO_26 := n1_; have BK232 := n2_; have BK233 := n3_; have BK234 := n4_; have HB := n5_; clear n0_ n1_ n2_ n3_ n4_ n5_; (try clear hb); (try clear hb2); (try clear hk); (try clear hi)))
                 (try simp only [Act.put, List.setIfInBounds_toArray, List.set_cons_zero, List.set_cons_succ])
                 go_cut [174] from 155 to 174 (fun v174 wc => ∃ (kq : Nat) (x174_65 : Bool), v174 = .bool x174_65 ∧ Aside0 (laws_FnLampsTickOfAll.j3 kq a1 a2 a4 a6 a7 t235 t239 x25_3 x26_3 x27_3 t255 x174_65 l0_0 l3_0 l5_0 = some r) ∧ Aside0 (kq ≤ k3) ∧ Aside0 (Kd.R (Kd.int .i64) 3 wc w.heap.size (fun k_ => some k_ ≠ (v252 : Value).ownBlock) (.slice Ao58 t239.length co58) t239) ∧ Aside0 (Kd.R (Kd.int .i64) 3 wc w.heap.size (fun k_ => some k_ ≠ ((.slice Ao58 t239.length co58) : Value).ownBlock) v252 x26_3) ∧ Aside0 (wc.heap[gb232]? = some (.cells #[(.slice A0_0 l0_0.length c0_0)] 29 (0, 0))) ∧ Aside0 (wc.heap[gb233]? = some (.cells #[(.slice A3_0 l3_0.length c3_0)] 29 (0, 0))) ∧ Aside0 (wc.heap[gb234]? = some (.cells #[(.slice A5_0 l5_0.length c5_0)] 29 (0, 0))) ∧ Aside0 (Below w.heap.size w wc))
                 case first => as_aux_lemma =>
                  have H := HC66.out
                  clear HC66
                  by_cases c71 : t256 = true
                  ·subst c71
                   have H1 : (laws_FnLampsTickOfAll.j3 k3 a1 a2 a4 a6 a7 t235 t239 x25_3 x26_3 x27_3 t255 ((t255.size : Int) != (x25_3.size : Int)) l0_0 l3_0 l5_0) = some r := by rw [if_pos rfl] at H; exact H
                   clear H
                   have H := H1
                   clear H1
                   have H' := aM H
                   clear H
                   go_wp2
                   go_meet
                   case rel => exact ⟨_, (((t255.size : Int) != (x25_3.size : Int))), (by first | rfl | (simp; done) | (simp [*]; done)), H', ⟨by have := HJ8.out; have := HJ19.out; have := HK3.out; first | omega | exact Nat.le_refl _⟩, ⟨by (with_reducible repeat (first | apply Kd.R_alloc | apply Kd.R_drewN | apply Kd.R_drew)); exact HO_21.out⟩, ⟨by (with_reducible repeat (first | apply Kd.R_alloc | apply Kd.R_drewN | apply Kd.R_drew)); exact HO_26.out⟩, ⟨by (with_reducible repeat (first | refine blk_drewN ?_ _ | refine blk_drew ?_ | refine blk_alloc ?_ _)); exact BK232.out⟩, ⟨by (with_reducible repeat (first | refine blk_drewN ?_ _ | refine blk_drew ?_ | refine blk_alloc ?_ _)); exact BK233.out⟩, ⟨by (with_reducible repeat (first | refine blk_drewN ?_ _ | refine blk_drew ?_ | refine blk_alloc ?_ _)); exact BK234.out⟩, ⟨by repeat (first | (with_reducible first | exact HB.out | apply aL | apply dN | apply dR | refine sT ?_ GE232.out | refine sT ?_ GE233.out | refine sT ?_ GE234.out) | exact HB.out)⟩⟩
                  ·replace c71 := Bool.eq_false_iff.mpr c71
                   subst c71
                   have H1 : (none) = some r := by rw [if_neg (show ¬ (false = true) by decide)] at H; exact H
                   clear H
                   have H := H1
                   clear H1
                   exact absurd H (by simp)
                 case rest => as_aux_lemma =>
                  clear HC66
                  try clear c2;try clear p2;try clear c3;try clear c4;try clear c5;try clear c6;try clear c7;try clear c29;try clear c30;try clear c31;try clear c32;try clear c35;try clear c40;try clear c53;try clear c55;try clear c56;try clear c56b0;try clear c56b1;try clear c56b2;try clear c59;try clear c59b0;try clear c60;try clear c60b0;try clear c60b1;try clear c61;try clear c61b0;try clear c61b1;try clear c64;try clear c64b0;try clear c67;try clear c68;try clear c71;try clear hcz69_0;try clear hfz69_0;try clear p2
                  obtain ⟨kq, x174_65, rfl, HA, HJ65, HO_21, HO_26, BK232, BK233, BK234, HB⟩ := hcut
                  cases kq with
                  | zero => exact absurd HA.out (by simp [laws_FnLampsTickOfAll.j3])
                  | succ kj65 =>
                   have H := HA.out
                   clear HA
                   simp only [laws_FnLampsTickOfAll.j3] at H
                   by_cases c72 : x174_65 = true
                   ·subst c72
                    have H1 : (none) = some r := by rw [if_pos rfl] at H; exact H
                    clear H
                    have H := H1
                    clear H1
                    exact absurd H (by simp)
                   ·replace c72 := Bool.eq_false_iff.mpr c72
                    subst c72
                    have H1 : (laws_FnLampsTickOfAll.l1 kj65 a1 a2 a4 a6 a7 t235 t239 x25_3 x26_3 x27_3 t255 t255 0 l0_0 l3_0 l5_0) = some r := by rw [if_neg (show ¬ (false = true) by decide)] at H; exact H
                    clear H
                    have H := H1
                    clear H1
                    have H' := aM H
                    clear H
                    go_wp2
                    obtain ⟨KI176, hKq_, hKb_, hIq_, hBq_⟩ := rng_start HB.out t255
                    have hKB176 := aM hKb_
                    have hIq_ := aM hIq_
                    have HO_21 := aM (rng_R HO_21.out t255)
                    have HO_26 := aM (rng_R HO_26.out t255)
                    have hne176_BK232 := aM (rng_lt BK232.out hKq_)
                    have BK232 := aM (rng_B BK232.out t255)
                    have hne176_BK233 := aM (rng_lt BK233.out hKq_)
                    have BK233 := aM (rng_B BK233.out t255)
                    have hne176_BK234 := aM (rng_lt BK234.out hKq_)
                    have BK234 := aM (rng_B BK234.out t255)
                    have HB := aM hBq_
                    rw [← hKq_]
                    clear hKq_ hKb_ hBq_
                    go_loopg [] kj65 (fun kq w' => ∃ (x26_5 : List Int) (x176_5 : Int), Aside0 (0 ≤ x176_5) ∧ Aside0 (w'.heap[KI176]? = some (.stringIter t255 x176_5.toNat)) ∧ Aside0 (laws_FnLampsTickOfAll.l1 kq a1 a2 a4 a6 a7 t235 t239 x25_3 x26_5 x27_3 t255 t255 x176_5 l0_0 l3_0 l5_0 = some r) ∧ Aside0 (kq ≤ kj65) ∧ Aside0 (Kd.R (Kd.int .i64) 3 w' w.heap.size (fun k_ => some k_ ≠ (v252 : Value).ownBlock) (.slice Ao58 t239.length co58) t239) ∧ Aside0 (Kd.R (Kd.int .i64) 3 w' w.heap.size (fun k_ => some k_ ≠ ((.slice Ao58 t239.length co58) : Value).ownBlock) v252 x26_5) ∧ Aside0 (w'.heap[gb232]? = some (.cells #[(.slice A0_0 l0_0.length c0_0)] 29 (0, 0))) ∧ Aside0 (w'.heap[gb233]? = some (.cells #[(.slice A3_0 l3_0.length c3_0)] 29 (0, 0))) ∧ Aside0 (w'.heap[gb234]? = some (.cells #[(.slice A5_0 l5_0.length c5_0)] 29 (0, 0))) ∧ Aside0 (Below w.heap.size w w'))
                    case atStart => exact ⟨(x26_3), (0), ⟨Int.le_refl 0⟩, ⟨hIq_.out⟩, H', ⟨Nat.le_refl _⟩, ⟨by (with_reducible repeat (first | apply Kd.R_alloc | apply Kd.R_drewN | apply Kd.R_drew)); exact HO_21.out⟩, ⟨by (with_reducible repeat (first | apply Kd.R_alloc | apply Kd.R_drewN | apply Kd.R_drew)); exact HO_26.out⟩, ⟨by (with_reducible repeat (first | refine blk_drewN ?_ _ | refine blk_drew ?_ | refine blk_alloc ?_ _)); exact BK232.out⟩, ⟨by (with_reducible repeat (first | refine blk_drewN ?_ _ | refine blk_drew ?_ | refine blk_alloc ?_ _)); exact BK233.out⟩, ⟨by (with_reducible repeat (first | refine blk_drewN ?_ _ | refine blk_drew ?_ | refine blk_alloc ?_ _)); exact BK234.out⟩, ⟨by repeat (first | (with_reducible first | exact HB.out | apply aL | apply dN | apply dR | refine sT ?_ GE232.out | refine sT ?_ GE233.out | refine sT ?_ GE234.out) | exact HB.out)⟩⟩
                    case round => as_aux_lemma =>
                     clear H'
                     try clear c2;try clear p2;try clear c3;try clear c4;try clear c5;try clear c6;try clear c7;try clear c29;try clear c30;try clear c31;try clear c32;try clear c35;try clear c40;try clear c53;try clear c55;try clear c56;try clear c56b0;try clear c56b1;try clear c56b2;try clear c59;try clear c59b0;try clear c60;try clear c60b0;try clear c60b1;try clear c61;try clear c61b0;try clear c61b1;try clear c64;try clear c64b0;try clear c67;try clear c68;try clear c71;try clear c72;try clear hcz69_0;try clear hfz69_0;try clear p2
                     obtain ⟨x26_5, x176_5, h0I176, HI176, HA, HK5, HO_21, HO_26, BK232, BK233, BK234, HB⟩ := hrel
                     cases gk with
                     | zero => exact absurd HA.out (by simp [laws_FnLampsTickOfAll.l1])
                     | succ k5 =>
                      have H := HA.out
                      clear HA
                      simp only [laws_FnLampsTickOfAll.l1] at H
                      by_cases c73 : x176_5 < (t255.size : Int)
                      ·rw [if_pos c73] at H
                       have c73b0 : decide (x176_5 < (t255.size : Int)) = true := decide_eq_true c73
                       clear c73
                       by_cases c74 : 0 ≤ x176_5
                       ·rw [if_pos c74] at H
                        have c74b0 : decide (0 ≤ x176_5) = true := decide_eq_true c74
                        clear c74
                        by_cases c76 : (bt t255 x176_5) < 128
                        ·rw [if_pos c76] at H
                         have c76b0 : decide ((bt t255 x176_5) < 128) = true := decide_eq_true c76
                         clear c76
                         by_cases c77 : x176_5 < 1000000000
                         ·rw [if_pos c77] at H
                          have c77b0 : decide (x176_5 < 1000000000) = true := decide_eq_true c77
                          clear c77
                          by_cases c78 : x176_5 < (t255.size : Int)
                          ·rw [if_pos c78] at H
                           have c78b0 : decide (x176_5 < (t255.size : Int)) = true := decide_eq_true c78
                           clear c78
                           by_cases c80 : x176_5 < (x25_3.size : Int)
                           ·rw [if_pos c80] at H
                            have c80b0 : decide (x176_5 < (x25_3.size : Int)) = true := decide_eq_true c80
                            clear c80
                            by_cases c82 : (bt t255 x176_5) = (bt x25_3 x176_5)
                            ·rw [if_pos c82] at H
                             have c82b0 : ((bt t255 x176_5) == (bt x25_3 x176_5)) = true := beq_iff_eq.mpr c82
                             have c82b1 : ((bt t255 x176_5) != (bt x25_3 x176_5)) = false := bne_eq_false_iff_eq.mpr c82
                             clear c82
                             have H' := aM H
                             clear H
                             have p75 : 0 ≤ (x176_5 : Int) := of_decide_eq_true (by first | (with_reducible assumption) | assumption)
                             have q75 : x176_5 < (t255.size : Int) := of_decide_eq_true (by first | (with_reducible assumption) | assumption)
                             have hx75 := bt_at t255 x176_5
                             replace p75 := eq_true p75
                             replace q75 := eq_true q75
                             have hltI_ : x176_5 < (t255.size : Int) := of_decide_eq_true (by assumption)
                             have hbtI_ : bt t255 x176_5 < 128 := of_decide_eq_true (by assumption)
                             have hwI176 := aM (show wrap64 (x176_5 + 1) = x176_5 + 1 from by have h9_ : x176_5 < 1000000000 := of_decide_eq_true (by assumption); have h8_ := h0I176.out; unfold wrap64; omega)
                             obtain ⟨rn_, hnext⟩ := rng_next (P := Tryd.prog) HI176.out h0I176.out hltI_ hbtI_
                             clear hltI_ hbtI_
                             have nI_ := aM (rng_at (p' := (x176_5 + 1).toNat) HI176.out)
                             have nHO_21_ := aM (R_iter (p' := (x176_5 + 1).toNat) HO_21.out HI176.out)
                             have nHO_26_ := aM (R_iter (p' := (x176_5 + 1).toNat) HO_26.out HI176.out)
                             have nBK232_ := aM (rng_other (s := t255) (p := (x176_5 + 1).toNat) BK232.out hne176_BK232.out)
                             have nBK233_ := aM (rng_other (s := t255) (p := (x176_5 + 1).toNat) BK233.out hne176_BK233.out)
                             have nBK234_ := aM (rng_other (s := t255) (p := (x176_5 + 1).toNat) BK234.out hne176_BK234.out)
                             have nHB_ := aM (rng_below (s := t255) (p := (x176_5 + 1).toNat) HB.out hKB176.out)
                             clear HI176 HO_21 HO_26 BK232 BK233 BK234 HB
                             have HI176 := nI_
                             have HO_21 := nHO_21_
                             have HO_26 := nHO_26_
                             have BK232 := nBK232_
                             have BK233 := nBK233_
                             have BK234 := nBK234_
                             have HB := nHB_
                             clear nI_ nHO_21_ nHO_26_ nBK232_ nBK233_ nBK234_ nHB_
                             generalize wr.iterAt KI176 t255 (x176_5 + 1).toNat = wr at hnext HI176 HO_21 HO_26 BK232 BK233 BK234 HB
                             try go_wp2
                             try clear hnext
                             have n0_ := aM (Kd.R_drew HO_21.out)
                             have n1_ := aM (Kd.R_drew HO_26.out)
                             have n2_ := aM (blk_drew BK232.out)
                             have n3_ := aM (blk_drew BK233.out)
                             have n4_ := aM (blk_drew BK234.out)
                             have n176i_ := aM (blk_drew HI176.out)
                             have n5_ := aM (below_drew1 HB.out)
                             clear HO_21
                             clear HO_26
                             clear BK232
                             clear BK233
                             clear BK234
                             clear HI176
                             clear HB
                             have HO_21 := n0_
                             have HO_26 := n1_
                             have BK232 := n2_
                             have BK233 := n3_
                             have BK234 := n4_
                             have HI176 := n176i_
                             have HB := n5_
                             clear n0_ n1_ n2_ n3_ n4_ n5_ n176i_
                             have p79 : 0 ≤ (x176_5 : Int) := of_decide_eq_true (by first | (with_reducible assumption) | assumption)
                             have q79 : x176_5 < (t255.size : Int) := of_decide_eq_true (by first | (with_reducible assumption) | assumption)
                             have hx79 := bt_at t255 x176_5
                             replace p79 := eq_true p79
                             replace q79 := eq_true q79
                             have p81 : 0 ≤ (x176_5 : Int) := of_decide_eq_true (by first | (with_reducible assumption) | assumption)
                             have q81 : x176_5 < (x25_3.size : Int) := of_decide_eq_true (by first | (with_reducible assumption) | assumption)
                             have hx81 := bt_at x25_3 x176_5
                             replace p81 := eq_true p81
                             replace q81 := eq_true q81
                             refine start_ (n := 7) (S := fun w' => True) (ds := []) #[false, false, false, false, false, false, false] (by kernel_rfl) rfl rfl trivial (fun hHeld => ?_)
                             generalize wr.drew = w83 at HO_21 HO_26 BK232 BK233 BK234 HI176 HB hHeld ⊢
                             refine pure_ (i := 0) (N := some 180) (v := ?_) (a' := ?_) #[true, false, false, false, false, false, false] rfl rfl (by kernel_rfl) (fun _ _ _ h => h) (Or.inl ⟨by rfl, ?_⟩) ?_ ?_
                             rotate_left
                             ·intro w'
                              go_simp
                              with_reducible rfl
                             rotate_left
                             ·simp only [Act.put, List.setIfInBounds_toArray, List.set_cons_zero, List.set_cons_succ, i64_w, i32_w]
                              rfl
                             refine pure_ (i := 1) (N := some 181) (v := ?_) (a' := ?_) #[true, true, false, false, false, false, false] rfl rfl (by kernel_rfl) (fun _ _ _ h => h) (Or.inl ⟨by rfl, ?_⟩) ?_ ?_
                             rotate_left
                             ·intro w'
                              go_simp
                              with_reducible rfl
                             rotate_left
                             ·simp only [Act.put, List.setIfInBounds_toArray, List.set_cons_zero, List.set_cons_succ, i64_w, i32_w]
                              rfl
                             refine pure_ (i := 3) (N := some 183) (v := ?_) (a' := ?_) #[true, true, false, true, false, false, false] rfl rfl (by kernel_rfl) (fun _ _ _ h => h) (Or.inl ⟨by rfl, ?_⟩) ?_ ?_
                             rotate_left
                             ·intro w'
                              go_simp
                              with_reducible rfl
                             rotate_left
                             ·simp only [Act.put, List.setIfInBounds_toArray, List.set_cons_zero, List.set_cons_succ, i64_w, i32_w]
                              rfl
                             refine pure_ (i := 4) (N := some 184) (v := ?_) (a' := ?_) #[true, true, false, true, true, false, false] rfl rfl (by kernel_rfl) (fun _ _ _ h => h) (Or.inl ⟨by rfl, ?_⟩) ?_ ?_
                             rotate_left
                             ·intro w'
                              go_simp
                              with_reducible rfl
                             rotate_left
                             ·simp only [Act.put, List.setIfInBounds_toArray, List.set_cons_zero, List.set_cons_succ, i64_w, i32_w]
                              rfl
                             refine take_ (i := 2) (N := some 182) (v := ?_) (a' := ?_) #[true, true, true, true, true, false, false] rfl rfl (by kernel_rfl) (fun _ _ _ h => h) (Or.inl ⟨by rfl, ?_⟩) hHeld ?_ ?_
                             rotate_left
                             ·intro w' _
                              go_simp
                              with_reducible rfl
                             rotate_left
                             ·simp only [Act.put, List.setIfInBounds_toArray, List.set_cons_zero, List.set_cons_succ, i64_w, i32_w]
                              rfl
                             refine take_ (i := 5) (N := some 185) (v := ?_) (a' := ?_) #[true, true, true, true, true, true, false] rfl rfl (by kernel_rfl) (fun _ _ _ h => h) (Or.inl ⟨by rfl, ?_⟩) hHeld ?_ ?_
                             rotate_left
                             ·intro w' _
                              go_simp
                              with_reducible rfl
                             rotate_left
                             ·simp only [Act.put, List.setIfInBounds_toArray, List.set_cons_zero, List.set_cons_succ, i64_w, i32_w]
                              rfl
                             refine pure_ (i := 6) (N := some 186) (v := ?_) (a' := ?_) #[true, true, true, true, true, true, true] rfl rfl (by kernel_rfl) (fun _ _ _ h => h) (Or.inl ⟨by rfl, ?_⟩) ?_ ?_
                             rotate_left
                             ·intro w'
                              go_simp
                              with_reducible rfl
                             rotate_left
                             ·simp only [Act.put, List.setIfInBounds_toArray, List.set_cons_zero, List.set_cons_succ, i64_w, i32_w]
                              rfl
                             refine done_ (by kernel_rfl) ?_
                             try go_wp2
                             go_roundg k5
                             case measure => have := HJ8.out; have := HJ19.out; have := HK3.out; have := HJ65.out; have := HK5.out; omega
                             case rel => exact ⟨(x26_5), (wrap64 (x176_5 + 1)), ⟨by rw [hwI176.out]; have h8_ := h0I176.out; omega⟩, ⟨by rw [hwI176.out]; (with_reducible repeat (first | refine blk_drewN ?_ _ | refine blk_drew ?_ | refine blk_alloc ?_ _)); exact HI176.out⟩, H', ⟨by have := HJ8.out; have := HJ19.out; have := HK3.out; have := HJ65.out; have := HK5.out; omega⟩, ⟨by (with_reducible repeat (first | apply Kd.R_alloc | apply Kd.R_drewN | apply Kd.R_drew)); exact HO_21.out⟩, ⟨by (with_reducible repeat (first | apply Kd.R_alloc | apply Kd.R_drewN | apply Kd.R_drew)); exact HO_26.out⟩, ⟨by (with_reducible repeat (first | refine blk_drewN ?_ _ | refine blk_drew ?_ | refine blk_alloc ?_ _)); exact BK232.out⟩, ⟨by (with_reducible repeat (first | refine blk_drewN ?_ _ | refine blk_drew ?_ | refine blk_alloc ?_ _)); exact BK233.out⟩, ⟨by (with_reducible repeat (first | refine blk_drewN ?_ _ | refine blk_drew ?_ | refine blk_alloc ?_ _)); exact BK234.out⟩, ⟨by repeat (first | (with_reducible first | exact HB.out | apply aL | apply dN | apply dR | refine sT ?_ GE232.out | refine sT ?_ GE233.out | refine sT ?_ GE234.out) | exact HB.out)⟩⟩
                            ·rw [if_neg c82] at H
                             have c82b0 : ((bt t255 x176_5) == (bt x25_3 x176_5)) = false := beq_eq_false_iff_ne.mpr c82
                             have c82b1 : ((bt t255 x176_5) != (bt x25_3 x176_5)) = true := bne_iff_ne.mpr c82
                             by_cases c84 : x176_5 < (x26_5.length : Int)
                             ·rw [if_pos c84] at H
                              have c84b0 : decide (x176_5 < (x26_5.length : Int)) = true := decide_eq_true c84
                              clear c84
                              obtain ⟨y258, hy258⟩ : ∃ y_ : List Int, y_ = (x26_5.set (x176_5 : Int).toNat (wrap64 ((rd x26_5 x176_5) + 1))) := ⟨_, rfl⟩
                              replace H : (laws_FnLampsTickOfAll.l1 k5 a1 a2 a4 a6 a7 t235 t239 x25_3 y258 x27_3 t255 t255 (wrap64 (x176_5 + 1)) l0_0 l3_0 l5_0) = some r := by first | (rw [hy258]; with_reducible exact H) | (have H2_ := (Option.bind_some _ _).symm.trans H; rw [hy258]; with_reducible exact H2_) | (have H2_ := (Option.bind_some _ _).symm.trans H; with_reducible exact H2_) | with_reducible exact H | (rw [hy258]; exact H) | exact H
                              have Ny258 := aM hy258
                              clear hy258
                              have H' := aM H
                              clear H
                              have p75 : 0 ≤ (x176_5 : Int) := of_decide_eq_true (by first | (with_reducible assumption) | assumption)
                              have q75 : x176_5 < (t255.size : Int) := of_decide_eq_true (by first | (with_reducible assumption) | assumption)
                              have hx75 := bt_at t255 x176_5
                              replace p75 := eq_true p75
                              replace q75 := eq_true q75
                              have hltI_ : x176_5 < (t255.size : Int) := of_decide_eq_true (by assumption)
                              have hbtI_ : bt t255 x176_5 < 128 := of_decide_eq_true (by assumption)
                              have hwI176 := aM (show wrap64 (x176_5 + 1) = x176_5 + 1 from by have h9_ : x176_5 < 1000000000 := of_decide_eq_true (by assumption); have h8_ := h0I176.out; unfold wrap64; omega)
                              obtain ⟨rn_, hnext⟩ := rng_next (P := Tryd.prog) HI176.out h0I176.out hltI_ hbtI_
                              clear hltI_ hbtI_
                              have nI_ := aM (rng_at (p' := (x176_5 + 1).toNat) HI176.out)
                              have nHO_21_ := aM (R_iter (p' := (x176_5 + 1).toNat) HO_21.out HI176.out)
                              have nHO_26_ := aM (R_iter (p' := (x176_5 + 1).toNat) HO_26.out HI176.out)
                              have nBK232_ := aM (rng_other (s := t255) (p := (x176_5 + 1).toNat) BK232.out hne176_BK232.out)
                              have nBK233_ := aM (rng_other (s := t255) (p := (x176_5 + 1).toNat) BK233.out hne176_BK233.out)
                              have nBK234_ := aM (rng_other (s := t255) (p := (x176_5 + 1).toNat) BK234.out hne176_BK234.out)
                              have nHB_ := aM (rng_below (s := t255) (p := (x176_5 + 1).toNat) HB.out hKB176.out)
                              clear HI176 HO_21 HO_26 BK232 BK233 BK234 HB
                              have HI176 := nI_
                              have HO_21 := nHO_21_
                              have HO_26 := nHO_26_
                              have BK232 := nBK232_
                              have BK233 := nBK233_
                              have BK234 := nBK234_
                              have HB := nHB_
                              clear nI_ nHO_21_ nHO_26_ nBK232_ nBK233_ nBK234_ nHB_
                              generalize wr.iterAt KI176 t255 (x176_5 + 1).toNat = wr at hnext HI176 HO_21 HO_26 BK232 BK233 BK234 HB
                              try go_wp2
                              try clear hnext
                              have n0_ := aM (Kd.R_drew HO_21.out)
                              have n1_ := aM (Kd.R_drew HO_26.out)
                              have n2_ := aM (blk_drew BK232.out)
                              have n3_ := aM (blk_drew BK233.out)
                              have n4_ := aM (blk_drew BK234.out)
                              have n176i_ := aM (blk_drew HI176.out)
                              have n5_ := aM (below_drew1 HB.out)
                              clear HO_21
                              clear HO_26
                              clear BK232
                              clear BK233
                              clear BK234
                              clear HI176
                              clear HB
                              have HO_21 := n0_
                              have HO_26 := n1_
                              have BK232 := n2_
                              have BK233 := n3_
                              have BK234 := n4_
                              have HI176 := n176i_
                              have HB := n5_
                              clear n0_ n1_ n2_ n3_ n4_ n5_ n176i_
                              have p79 : 0 ≤ (x176_5 : Int) := of_decide_eq_true (by first | (with_reducible assumption) | assumption)
                              have q79 : x176_5 < (t255.size : Int) := of_decide_eq_true (by first | (with_reducible assumption) | assumption)
                              have hx79 := bt_at t255 x176_5
                              replace p79 := eq_true p79
                              replace q79 := eq_true q79
                              have p81 : 0 ≤ (x176_5 : Int) := of_decide_eq_true (by first | (with_reducible assumption) | assumption)
                              have q81 : x176_5 < (x25_3.size : Int) := of_decide_eq_true (by first | (with_reducible assumption) | assumption)
                              have hx81 := bt_at x25_3 x176_5
                              replace p81 := eq_true p81
                              replace q81 := eq_true q81
                              refine start_ (n := 7) (S := fun w' => True) (ds := []) #[false, false, false, false, false, false, false] (by kernel_rfl) rfl rfl trivial (fun hHeld => ?_)
                              generalize wr.drew = w86 at HO_21 HO_26 BK232 BK233 BK234 HI176 HB hHeld ⊢
                              refine pure_ (i := 0) (N := some 180) (v := ?_) (a' := ?_) #[true, false, false, false, false, false, false] rfl rfl (by kernel_rfl) (fun _ _ _ h => h) (Or.inl ⟨by rfl, ?_⟩) ?_ ?_
                              rotate_left
                              ·intro w'
                               go_simp
                               with_reducible rfl
                              rotate_left
                              ·simp only [Act.put, List.setIfInBounds_toArray, List.set_cons_zero, List.set_cons_succ, i64_w, i32_w]
                               rfl
                              refine pure_ (i := 1) (N := some 181) (v := ?_) (a' := ?_) #[true, true, false, false, false, false, false] rfl rfl (by kernel_rfl) (fun _ _ _ h => h) (Or.inl ⟨by rfl, ?_⟩) ?_ ?_
                              rotate_left
                              ·intro w'
                               go_simp
                               with_reducible rfl
                              rotate_left
                              ·simp only [Act.put, List.setIfInBounds_toArray, List.set_cons_zero, List.set_cons_succ, i64_w, i32_w]
                               rfl
                              refine pure_ (i := 3) (N := some 183) (v := ?_) (a' := ?_) #[true, true, false, true, false, false, false] rfl rfl (by kernel_rfl) (fun _ _ _ h => h) (Or.inl ⟨by rfl, ?_⟩) ?_ ?_
                              rotate_left
                              ·intro w'
                               go_simp
                               with_reducible rfl
                              rotate_left
                              ·simp only [Act.put, List.setIfInBounds_toArray, List.set_cons_zero, List.set_cons_succ, i64_w, i32_w]
                               rfl
                              refine pure_ (i := 4) (N := some 184) (v := ?_) (a' := ?_) #[true, true, false, true, true, false, false] rfl rfl (by kernel_rfl) (fun _ _ _ h => h) (Or.inl ⟨by rfl, ?_⟩) ?_ ?_
                              rotate_left
                              ·intro w'
                               go_simp
                               with_reducible rfl
                              rotate_left
                              ·simp only [Act.put, List.setIfInBounds_toArray, List.set_cons_zero, List.set_cons_succ, i64_w, i32_w]
                               rfl
                              refine take_ (i := 2) (N := some 182) (v := ?_) (a' := ?_) #[true, true, true, true, true, false, false] rfl rfl (by kernel_rfl) (fun _ _ _ h => h) (Or.inl ⟨by rfl, ?_⟩) hHeld ?_ ?_
                              rotate_left
                              ·intro w' _
                               go_simp
                               with_reducible rfl
                              rotate_left
                              ·simp only [Act.put, List.setIfInBounds_toArray, List.set_cons_zero, List.set_cons_succ, i64_w, i32_w]
                               rfl
                              refine take_ (i := 5) (N := some 185) (v := ?_) (a' := ?_) #[true, true, true, true, true, true, false] rfl rfl (by kernel_rfl) (fun _ _ _ h => h) (Or.inl ⟨by rfl, ?_⟩) hHeld ?_ ?_
                              rotate_left
                              ·intro w' _
                               go_simp
                               with_reducible rfl
                              rotate_left
                              ·simp only [Act.put, List.setIfInBounds_toArray, List.set_cons_zero, List.set_cons_succ, i64_w, i32_w]
                               rfl
                              refine pure_ (i := 6) (N := some 186) (v := ?_) (a' := ?_) #[true, true, true, true, true, true, true] rfl rfl (by kernel_rfl) (fun _ _ _ h => h) (Or.inl ⟨by rfl, ?_⟩) ?_ ?_
                              rotate_left
                              ·intro w'
                               go_simp
                               with_reducible rfl
                              rotate_left
                              ·simp only [Act.put, List.setIfInBounds_toArray, List.set_cons_zero, List.set_cons_succ, i64_w, i32_w]
                               rfl
                              refine done_ (by kernel_rfl) ?_
                              obtain ⟨Ao87, co87, eo87⟩ := Kd.R_slice HO_26.out
                              subst eo87
                              have p257 : 0 ≤ (x176_5 : Int) := of_decide_eq_true (by first | (with_reducible assumption) | assumption)
                              have q257 : x176_5 < (x26_5.length : Int) := of_decide_eq_true (by first | (with_reducible assumption) | assumption)
                              obtain ⟨ad257, e257, hx257_0⟩ := Kd.at_int (Kd.R_reads' HO_26.out).2.2 x176_5 p257 q257
                              cases e257
                              replace p257 := eq_true p257
                              replace q257 := eq_true q257
                              have p85 : 0 ≤ (x176_5 : Int) := of_decide_eq_true (by first | (with_reducible assumption) | assumption)
                              have q85 : (x176_5 : Int) < ((x26_5.length : Int) : Int) := of_decide_eq_true (by first | (with_reducible assumption) | assumption)
                              obtain ⟨go85, co85, eo85, gb85, gl85, cl85, HG85⟩ := Kd.R_form HO_26.out (by omega)
                              (first | cases eo85 | (injection eo85 with ea_ en_ ec_; (first | subst ea_ | (injection ea_ with ea_; subst ea_)); subst ec_; clear en_))
                              have GB85 := aM gb85
                              have GG85 := aM HG85
                              clear gb85 gl85 HG85
                              (first | simp only [add_plain] at hx257_0 | skip)
                              obtain ⟨hx85_0, hf85_0⟩ := Kd.R_celln 0 HO_26.out (x176_5 : Int) p85 q85
                              replace p85 := eq_true p85
                              replace q85 := eq_true q85
                              obtain ⟨hy88_, hz88_⟩ := Kd.R_celln 0 HO_26.out (x176_5 : Int) (of_decide_eq_true (by first | (with_reducible assumption) | assumption)) (of_decide_eq_true (by first | (with_reducible assumption) | assumption))
                              have HP88 := Kd.R_putg HO_26.out (x176_5 : Int) (wrap64 ((rd x26_5 x176_5) + 1))
                              try go_wp2_with (first | ((with_reducible refine gate_store (t := 3) (p := 192) rfl ?_); refine store_event (t := 3) (p := 192) (v := ?vo_w89) (w1 := (w86.setCell ⟨go85, (x176_5 : Int).toNat, none⟩ (.int .i64 (wrap64 ((rd x26_5 x176_5) + 1))))) ?hg ?ho ?hn ?hr ?_; (case ho => rfl); (case hg => rfl); (case hn => rfl); (case hr => first | (go_simp; done) | (go_simp; rfl)); intro w89 hw; have hg : w86.grownBy w89 (some go85) := (by rw [hw]; exact HP88.2); have hp_ : Kd.R (Kd.int .i64) 3 w89 w.heap.size (fun k_ => some k_ ≠ (.slice Ao58 t239.length co58 : Value).ownBlock) (.slice (some ⟨go85, 0, none⟩) x26_5.length co87) y258 := (by rw [hw, Ny258.out]; exact HP88.1); clear HP88; have n0_ := aM (Kd.R_after (v := (.slice (some ⟨go85, 0, none⟩) x26_5.length co87)) (v1 := (.slice (some ⟨go85, 0, none⟩) x26_5.length co87)) (ok := (fun _ => True)) (rU (Kd.R_mono HO_21.out (fun _ hk => ⟨trivial, hk⟩))) hg (.inl rfl)); have n1_ := aM (hp_); have n2_ := aM (blk_grown (g := gb232) (o := .cells #[.slice A0_0 l0_0.length c0_0] 29 (0, 0)) (bU BK232.out) hg (Kd.R_ne HO_26.out BK232.out (by decide))); have n3_ := aM (blk_grown (g := gb233) (o := .cells #[.slice A3_0 l3_0.length c3_0] 29 (0, 0)) (bU BK233.out) hg (Kd.R_ne HO_26.out BK233.out (by decide))); have n4_ := aM (blk_grown (g := gb234) (o := .cells #[.slice A5_0 l5_0.length c5_0] 29 (0, 0)) (bU BK234.out) hg (Kd.R_ne HO_26.out BK234.out (by decide))); have n176i_ := aM (blk_grown (bU HI176.out) hg (rng_ne HO_26.out HI176.out)); have n5_ := aM ((by rw [hw]; exact below_set (HB.out) GB85.out : Below w.heap.size w w89)); clear HO_21; clear HO_26; clear BK232; clear BK233; clear BK234; clear HI176; clear HB; have HO_21 := n0_; have HO_26 := n1_; have BK232 := n2_; have BK233 := n3_; have BK234 := n4_; have HI176 := n176i_; have HB := n5_; clear n0_ n1_ n2_ n3_ n4_ n5_ n176i_; clear hg hw hp_))
                              go_roundg k5
                              case measure => have := HJ8.out; have := HJ19.out; have := HK3.out; have := HJ65.out; have := HK5.out; omega
                              case rel => exact ⟨(y258), (wrap64 (x176_5 + 1)), ⟨by rw [hwI176.out]; have h8_ := h0I176.out; omega⟩, ⟨by rw [hwI176.out]; (with_reducible repeat (first | refine blk_drewN ?_ _ | refine blk_drew ?_ | refine blk_alloc ?_ _)); exact HI176.out⟩, H', ⟨by have := HJ8.out; have := HJ19.out; have := HK3.out; have := HJ65.out; have := HK5.out; omega⟩, ⟨by (with_reducible repeat (first | apply Kd.R_alloc | apply Kd.R_drewN | apply Kd.R_drew)); exact Kd.R_mono HO_21.out (fun _ hk => hk.2)⟩, ⟨by (with_reducible repeat (first | apply Kd.R_alloc | apply Kd.R_drewN | apply Kd.R_drew)); exact HO_26.out⟩, ⟨by (with_reducible repeat (first | refine blk_drewN ?_ _ | refine blk_drew ?_ | refine blk_alloc ?_ _)); exact BK232.out⟩, ⟨by (with_reducible repeat (first | refine blk_drewN ?_ _ | refine blk_drew ?_ | refine blk_alloc ?_ _)); exact BK233.out⟩, ⟨by (with_reducible repeat (first | refine blk_drewN ?_ _ | refine blk_drew ?_ | refine blk_alloc ?_ _)); exact BK234.out⟩, ⟨by repeat (first | (with_reducible first | exact HB.out | apply aL | apply dN | apply dR | refine sT ?_ GE232.out | refine sT ?_ GE233.out | refine sT ?_ GE234.out) | exact HB.out)⟩⟩
                             ·rw [if_neg c84] at H
                              exact absurd H (by simp)
                           ·rw [if_neg c80] at H
                            exact absurd H (by simp)
                          ·rw [if_neg c78] at H
                           exact absurd H (by simp)
                         ·rw [if_neg c77] at H
                          exact absurd H (by simp)
                        ·rw [if_neg c76] at H
                         exact absurd H (by simp)
                       ·rw [if_neg c74] at H
                        exact absurd H (by simp)
                      ·rw [if_neg c73] at H
                       have c73b0 : decide (x176_5 < (t255.size : Int)) = false := decide_eq_false c73
                       clear c73
                       have H' := aM H
                       clear H
                       have hnext := rng_end (P := Tryd.prog) HI176.out h0I176.out (of_decide_eq_false (by assumption) : ¬ x176_5 < (t255.size : Int))
                       go_wp2
                       try clear hnext
                       go_roundg k5
                       case measure => have := HJ8.out; have := HJ19.out; have := HK3.out; have := HJ65.out; have := HK5.out; omega
                       case rel => exact ⟨(t255), (x26_5), (wrap64 (x27_3 + 1)), (by first | rfl | (simp; done) | (simp [*]; done)), (by first | rfl | (simp; done) | (simp [*]; done)), H', ⟨by have := HJ8.out; have := HJ19.out; have := HK3.out; have := HJ65.out; have := HK5.out; omega⟩, ⟨by (with_reducible repeat (first | apply Kd.R_alloc | apply Kd.R_drewN | apply Kd.R_drew)); exact HO_21.out⟩, ⟨by (with_reducible repeat (first | apply Kd.R_alloc | apply Kd.R_drewN | apply Kd.R_drew)); exact HO_26.out⟩, ⟨by (with_reducible repeat (first | refine blk_drewN ?_ _ | refine blk_drew ?_ | refine blk_alloc ?_ _)); exact BK232.out⟩, ⟨by (with_reducible repeat (first | refine blk_drewN ?_ _ | refine blk_drew ?_ | refine blk_alloc ?_ _)); exact BK233.out⟩, ⟨by (with_reducible repeat (first | refine blk_drewN ?_ _ | refine blk_drew ?_ | refine blk_alloc ?_ _)); exact BK234.out⟩, ⟨by repeat (first | (with_reducible first | exact HB.out | apply aL | apply dN | apply dR | refine sT ?_ GE232.out | refine sT ?_ GE233.out | refine sT ?_ GE234.out) | exact HB.out)⟩⟩
                ·rw [if_neg c64] at H
                 have c64b0 : decide (x27_3 < a2) = false := decide_eq_false c64
                 clear c64
                 by_cases c90 : x25_3.toList = t235.toList
                 ·rw [if_pos c90] at H
                  have c90b0 : (x25_3.toList == t235.toList) = true := beq_iff_eq.mpr c90
                  have c90b1 : (x25_3.toList != t235.toList) = false := bne_eq_false_iff_eq.mpr c90
                  clear c90
                  replace H := Option.bind_eq_some_iff.mp H
                  obtain ⟨t254, A910, H⟩ := H
                  replace H : (if t254 = true then (laws_FnLampsTickOfAll.j5 k3 a1 a2 a4 a6 a7 t235 t239 l3_0 l5_0) else (none)) = some r := H
                  have A91 := aM A910
                  clear A910
                  by_cases c92 : t254 = true
                  ·subst c92
                   have H1 : (laws_FnLampsTickOfAll.j5 k3 a1 a2 a4 a6 a7 t235 t239 l3_0 l5_0) = some r := by rw [if_pos rfl] at H; exact H
                   clear H
                   have H := H1
                   clear H1
                   have H' := aM H
                   clear H
                   obtain ⟨Ao93, co93, eo93⟩ := Kd.R_slice HO_26.out
                   subst eo93
                   go_wp2_with (first | (go_at_call 29; (with_reducible refine (laws_xSame.calls k3 _ _ x26_3 _ _ t239 true _ ?side1 ?side2 ?side3 ?side4 A91.out).mono ?_); (case side1 => exact cU (Kd.R_reads' HO_26.out).2.2); (case side2 => exact (Kd.R_reads' HO_26.out).2.1); (case side3 => exact cU (Kd.R_reads' HO_21.out).2.2); (case side4 => exact (Kd.R_reads' HO_21.out).2.1); rintro e w' ⟨rfl, ⟨nd, rfl⟩⟩))
                   go_meet
                   case rel => exact ⟨_, (t239), H', ⟨by have := HJ8.out; have := HJ19.out; have := HK3.out; first | omega | exact Nat.le_refl _⟩, ⟨by (with_reducible repeat (first | apply Kd.R_alloc | apply Kd.R_drewN | apply Kd.R_drew)); exact Kd.R_mono HO_21.out (fun _ hk => trivial)⟩, ⟨by (with_reducible repeat (first | refine blk_drewN ?_ _ | refine blk_drew ?_ | refine blk_alloc ?_ _)); exact BK232.out⟩, ⟨by (with_reducible repeat (first | refine blk_drewN ?_ _ | refine blk_drew ?_ | refine blk_alloc ?_ _)); exact BK233.out⟩, ⟨by (with_reducible repeat (first | refine blk_drewN ?_ _ | refine blk_drew ?_ | refine blk_alloc ?_ _)); exact BK234.out⟩, ⟨by repeat (first | (with_reducible first | exact HB.out | apply aL | apply dN | apply dR | refine sT ?_ GE232.out | refine sT ?_ GE233.out | refine sT ?_ GE234.out) | exact HB.out)⟩⟩
                  ·replace c92 := Bool.eq_false_iff.mpr c92
                   subst c92
                   have H1 : (none) = some r := by rw [if_neg (show ¬ (false = true) by decide)] at H; exact H
                   clear H
                   have H := H1
                   clear H1
                   exact absurd H (by simp)
                 ·rw [if_neg c90] at H
                  exact absurd H (by simp)
             ·rw [if_neg c61] at H
              exact absurd H (by simp)
            ·rw [if_neg c60] at H
             exact absurd H (by simp)
           ·rw [if_neg c59] at H
            have c59b0 : decide (a2 ≤ 20) = false := decide_eq_false c59
            clear c59
            (first | rw [c59b0] | (simp only [i64_w, i32_w]; rw [c59b0]) | skip)
            have H' := aM H
            clear H
            go_wp2
            go_meet
            case rel => exact ⟨_, (t239), H', ⟨by have := HJ8.out; have := HJ19.out; first | omega | exact Nat.le_refl _⟩, ⟨by (with_reducible repeat (first | apply Kd.R_alloc | apply Kd.R_drewN | apply Kd.R_drew)); exact HO_21.out⟩, ⟨by (with_reducible repeat (first | refine blk_drewN ?_ _ | refine blk_drew ?_ | refine blk_alloc ?_ _)); exact BK232.out⟩, ⟨by (with_reducible repeat (first | refine blk_drewN ?_ _ | refine blk_drew ?_ | refine blk_alloc ?_ _)); exact BK233.out⟩, ⟨by (with_reducible repeat (first | refine blk_drewN ?_ _ | refine blk_drew ?_ | refine blk_alloc ?_ _)); exact BK234.out⟩, ⟨by repeat (first | (with_reducible first | exact HB.out | apply aL | apply dN | apply dR | refine sT ?_ GE232.out | refine sT ?_ GE233.out | refine sT ?_ GE234.out) | exact HB.out)⟩⟩
          case rest => as_aux_lemma =>
           clear HC57
           try clear c2;try clear p2;try clear q2;try clear hx2;try clear c3;try clear c4;try clear c5;try clear c6;try clear p6;try clear c7;try clear p7;try clear q7;try clear hx7;try clear c8;try clear p8;try clear q8;try clear hx8;try clear hf8;try clear c9;try clear p25;try clear q25;try clear hx25;try clear c29;try clear c30;try clear c31;try clear c32;try clear c35;try clear c40;try clear c53;try clear c55;try clear c56;try clear c56b0;try clear c56b1;try clear c56b2;try clear c59;try clear c59b0;try clear c60;try clear c60b0;try clear c60b1;try clear c61;try clear c61b0;try clear c61b1;try clear c64;try clear c64b0;try clear p64;try clear c67;try clear c68;try clear c71;try clear c72;try clear c73;try clear c73b0;try clear c74;try clear c74b0;try clear p75;try clear q75;try clear hx75;try clear c76;try clear c76b0;try clear c77;try clear c77b0;try clear c78;try clear c78b0;try clear p79;try clear q79;try clear hx79;try clear c80;try clear c80b0;try clear p81;try clear q81;try clear hx81;try clear c82;try clear c82b0;try clear c82b1;try clear c84;try clear c84b0;try clear p85;try clear q85;try clear hx85;try clear hf85;try clear c90;try clear c90b0;try clear c90b1;try clear c92;try clear hcz69_0;try clear hfz69_0;try clear hx257_0;try clear hx85_0;try clear p2;try clear p257;try clear p75;try clear p79;try clear p81;try clear p85;try clear q257;try clear q75;try clear q79;try clear q81;try clear q85
           obtain ⟨kq, x21_56, HA, HJ56, HO_21, BK232, BK233, BK234, HB⟩ := hcut
           have hl21_56 := (Kd.R_reads' HO_21.out).1
           rw [hl21_56] at HO_21
           (try simp only [hl21_56])
           (try simp only [hl21_56] at BK232)
           (try simp only [hl21_56] at BK233)
           (try simp only [hl21_56] at BK234)
           cases kq with
           | zero => exact absurd HA.out (by simp [laws_FnLampsTickOfAll.j5])
           | succ kj56 =>
            have H := HA.out
            clear HA
            simp only [laws_FnLampsTickOfAll.j5] at H
            have H' := aM H
            clear H
            go_wp2
            go_loopg [205] kj56 (fun kq v205 w' => ∃ (x205_4 : Int), v205 = .int .i64 x205_4 ∧ Aside0 (laws_FnLampsTickOfAll.l2 kq a1 a2 a4 a6 a7 t235 x21_56 (x21_56.length : Int) x205_4 l3_0 l5_0 = some r) ∧ Aside0 (kq ≤ kj56) ∧ Aside0 (Kd.R (Kd.int .i64) 3 w' w.heap.size (fun _ => True) (.slice Ao58 x21_56.length co58) x21_56) ∧ Aside0 (w'.heap[gb232]? = some (.cells #[(.slice A0_0 l0_0.length c0_0)] 29 (0, 0))) ∧ Aside0 (w'.heap[gb233]? = some (.cells #[(.slice A3_0 l3_0.length c3_0)] 29 (0, 0))) ∧ Aside0 (w'.heap[gb234]? = some (.cells #[(.slice A5_0 l5_0.length c5_0)] 29 (0, 0))) ∧ Aside0 (Below w.heap.size w w'))
            case atStart => exact ⟨(0), (by first | rfl | (simp; done) | (simp [*]; done)), H', ⟨Nat.le_refl _⟩, ⟨by (try simp only [hl21_56]); (with_reducible repeat (first | apply Kd.R_alloc | apply Kd.R_drewN | apply Kd.R_drew)); exact HO_21.out⟩, ⟨by (try simp only [hl21_56]); (with_reducible repeat (first | refine blk_drewN ?_ _ | refine blk_drew ?_ | refine blk_alloc ?_ _)); exact BK232.out⟩, ⟨by (try simp only [hl21_56]); (with_reducible repeat (first | refine blk_drewN ?_ _ | refine blk_drew ?_ | refine blk_alloc ?_ _)); exact BK233.out⟩, ⟨by (try simp only [hl21_56]); (with_reducible repeat (first | refine blk_drewN ?_ _ | refine blk_drew ?_ | refine blk_alloc ?_ _)); exact BK234.out⟩, ⟨by repeat (first | (with_reducible first | exact HB.out | apply aL | apply dN | apply dR | refine sT ?_ GE232.out | refine sT ?_ GE233.out | refine sT ?_ GE234.out) | exact HB.out)⟩⟩
            case round => as_aux_lemma =>
             clear H'
             try clear c2;try clear p2;try clear q2;try clear hx2;try clear c3;try clear c4;try clear c5;try clear c6;try clear p6;try clear c7;try clear p7;try clear q7;try clear hx7;try clear c8;try clear p8;try clear q8;try clear hx8;try clear hf8;try clear c9;try clear p25;try clear q25;try clear hx25;try clear c29;try clear c30;try clear c31;try clear c32;try clear c35;try clear c40;try clear c53;try clear c55;try clear c56;try clear c56b0;try clear c56b1;try clear c56b2;try clear c59;try clear c59b0;try clear c60;try clear c60b0;try clear c60b1;try clear c61;try clear c61b0;try clear c61b1;try clear c64;try clear c64b0;try clear p64;try clear c67;try clear c68;try clear c71;try clear c72;try clear c73;try clear c73b0;try clear c74;try clear c74b0;try clear p75;try clear q75;try clear hx75;try clear c76;try clear c76b0;try clear c77;try clear c77b0;try clear c78;try clear c78b0;try clear p79;try clear q79;try clear hx79;try clear c80;try clear c80b0;try clear p81;try clear q81;try clear hx81;try clear c82;try clear c82b0;try clear c82b1;try clear c84;try clear c84b0;try clear p85;try clear q85;try clear hx85;try clear hf85;try clear c90;try clear c90b0;try clear c90b1;try clear c92;try clear hcz69_0;try clear hfz69_0;try clear hx257_0;try clear hx85_0;try clear p2;try clear p25;try clear p257;try clear p6;try clear p64;try clear p7;try clear p75;try clear p79;try clear p8;try clear p81;try clear p85;try clear q2;try clear q25;try clear q257;try clear q7;try clear q75;try clear q79;try clear q8;try clear q81;try clear q85
             obtain ⟨x205_4, rfl, HA, HK4, HO_203, BK232, BK233, BK234, HB⟩ := hrel
             cases gk with
             | zero => exact absurd HA.out (by simp [laws_FnLampsTickOfAll.l2])
             | succ k4 =>
              have H := HA.out
              clear HA
              simp only [laws_FnLampsTickOfAll.l2] at H
              by_cases c94 : x205_4 < (x21_56.length : Int)
              ·rw [if_pos c94] at H
               have c94b0 : decide (x205_4 < (x21_56.length : Int)) = true := decide_eq_true c94
               try (have c94l := c94b0; simp only [hl21_56] at c94l)
               clear c94
               by_cases c95 : 0 ≤ x205_4
               ·rw [if_pos c95] at H
                have c95b0 : decide (0 ≤ x205_4) = true := decide_eq_true c95
                clear c95
                by_cases c96 : x205_4 < (x21_56.length : Int)
                ·rw [if_pos c96] at H
                 have c96b0 : decide (x205_4 < (x21_56.length : Int)) = true := decide_eq_true c96
                 try (have c96l := c96b0; simp only [hl21_56] at c96l)
                 clear c96
                 by_cases c97 : (rd x21_56 x205_4) < 0
                 ·rw [if_pos c97] at H
                  exact absurd H (by simp)
                 ·rw [if_neg c97] at H
                  have c97b0 : decide ((rd x21_56 x205_4) < 0) = false := decide_eq_false c97
                  clear c97
                  by_cases c98 : (rd x21_56 x205_4) > a2
                  ·rw [if_pos c98] at H
                   exact absurd H (by simp)
                  ·rw [if_neg c98] at H
                   have c98b0 : decide (a2 < (rd x21_56 x205_4)) = false := decide_eq_false c98
                   clear c98
                   by_cases c99 : x205_4 < (a1.size : Int)
                   ·rw [if_pos c99] at H
                    have c99b0 : decide (x205_4 < (a1.size : Int)) = true := decide_eq_true c99
                    clear c99
                    by_cases c101 : x205_4 < (t235.size : Int)
                    ·rw [if_pos c101] at H
                     have c101b0 : decide (x205_4 < (t235.size : Int)) = true := decide_eq_true c101
                     clear c101
                     by_cases c103 : (((Int.tmod (rd x21_56 x205_4) 2) == 1) != ((bt a1 x205_4) != (bt t235 x205_4))) = true
                     ·rw [if_pos c103] at H
                      exact absurd H (by simp)
                     ·rw [if_neg c103] at H
                      have c103b0 : (((Int.tmod (rd x21_56 x205_4) 2) == 1) != ((bt a1 x205_4) != (bt t235 x205_4))) = false := by simpa using c103
                      (try (have c103b1 : decide (((Int.tmod (rd x21_56 x205_4) 2) == 1) = ((bt a1 x205_4) != (bt t235 x205_4))) = true := by simpa using c103))
                      (try (have c103b2 : (((Int.tmod (rd x21_56 x205_4) 2) == 1) == ((bt a1 x205_4) != (bt t235 x205_4))) = true := by simpa using c103))
                      clear c103
                      have H' := aM H
                      clear H
                      have p259 : 0 ≤ (x205_4 : Int) := of_decide_eq_true (by first | (with_reducible assumption) | assumption)
                      have q259 : x205_4 < (x21_56.length : Int) := of_decide_eq_true (by first | (with_reducible assumption) | assumption)
                      obtain ⟨ad259, e259, hx259_0⟩ := Kd.at_int (Kd.R_reads' HO_203.out).2.2 x205_4 p259 q259
                      cases e259
                      replace p259 := eq_true p259
                      replace q259 := eq_true q259
                      try go_wp2
                      have n0_ := aM (Kd.R_drew HO_203.out)
                      have n1_ := aM (blk_drew BK232.out)
                      have n2_ := aM (blk_drew BK233.out)
                      have n3_ := aM (blk_drew BK234.out)
                      have n4_ := aM (below_drew1 HB.out)
                      clear HO_203
                      clear BK232
                      clear BK233
                      clear BK234
                      clear HB
                      have HO_203 := n0_
                      have BK232 := n1_
                      have BK233 := n2_
                      have BK234 := n3_
                      have HB := n4_
                      clear n0_ n1_ n2_ n3_ n4_
                      have p100 : 0 ≤ (x205_4 : Int) := of_decide_eq_true (by first | (with_reducible assumption) | assumption)
                      have q100 : x205_4 < (a1.size : Int) := of_decide_eq_true (by first | (with_reducible assumption) | assumption)
                      have hx100 := bt_at a1 x205_4
                      replace p100 := eq_true p100
                      replace q100 := eq_true q100
                      have p102 : 0 ≤ (x205_4 : Int) := of_decide_eq_true (by first | (with_reducible assumption) | assumption)
                      have q102 : x205_4 < (t235.size : Int) := of_decide_eq_true (by first | (with_reducible assumption) | assumption)
                      have hx102 := bt_at t235 x205_4
                      replace p102 := eq_true p102
                      replace q102 := eq_true q102
                      refine start_ (n := 20) (S := fun w' => True) (ds := []) #[false, false, false, false, false, false, false, false, false, false, false, false, false, false, false, false, false, false, false, false] (by kernel_rfl) rfl rfl trivial (fun hHeld => ?_); refine with_tabW laws_FnLampsTickOfAll.tab32 laws_FnLampsTickOfAll.bits32 (fun HT_ HW_ => ?_)
                      generalize wr.drew = w104 at HO_203 BK232 BK233 BK234 HB hHeld ⊢
                      refine pure_ (i := 0) (N := some 210) (v := ?_) (a' := ?_) #[true, false, false, false, false, false, false, false, false, false, false, false, false, false, false, false, false, false, false, false] rfl rfl (any_of HT_.out (by kernel_rfl)) (fun _ _ _ h => h) (Or.inl ⟨by rfl, ?_⟩) ?_ ?_
                      rotate_left
                      ·intro w'
                       go_simp
                       with_reducible rfl
                      rotate_left
                      ·simp only [Act.put, List.setIfInBounds_toArray, List.set_cons_zero, List.set_cons_succ, i64_w, i32_w]
                       rfl
                      refine pure_ (i := 1) (N := some 211) (v := ?_) (a' := ?_) #[true, true, false, false, false, false, false, false, false, false, false, false, false, false, false, false, false, false, false, false] rfl rfl (any_of HT_.out (by kernel_rfl)) (fun _ _ _ h => h) (Or.inl ⟨by rfl, ?_⟩) ?_ ?_
                      rotate_left
                      ·intro w'
                       go_simp
                       with_reducible rfl
                      rotate_left
                      ·simp only [Act.put, List.setIfInBounds_toArray, List.set_cons_zero, List.set_cons_succ, i64_w, i32_w]
                       rfl
                      refine pure_ (i := 2) (N := some 212) (v := ?_) (a' := ?_) #[true, true, true, false, false, false, false, false, false, false, false, false, false, false, false, false, false, false, false, false] rfl rfl (any_of HT_.out (by kernel_rfl)) (fun _ _ _ h => h) (Or.inl ⟨by rfl, ?_⟩) ?_ ?_
                      rotate_left
                      ·intro w'
                       go_simp
                       with_reducible rfl
                      rotate_left
                      ·simp only [Act.put, List.setIfInBounds_toArray, List.set_cons_zero, List.set_cons_succ, i64_w, i32_w]
                       rfl
                      refine pure_ (i := 3) (N := some 213) (v := ?_) (a' := ?_) #[true, true, true, true, false, false, false, false, false, false, false, false, false, false, false, false, false, false, false, false] rfl rfl (any_of HT_.out (by kernel_rfl)) (fun _ _ _ h => h) (Or.inl ⟨by rfl, ?_⟩) ?_ ?_
                      rotate_left
                      ·intro w'
                       go_simp
                       with_reducible rfl
                      rotate_left
                      ·simp only [Act.put, List.setIfInBounds_toArray, List.set_cons_zero, List.set_cons_succ, i64_w, i32_w]
                       rfl
                      refine pure_ (i := 4) (N := some 214) (v := ?_) (a' := ?_) #[true, true, true, true, true, false, false, false, false, false, false, false, false, false, false, false, false, false, false, false] rfl rfl (any_of HT_.out (by kernel_rfl)) (fun _ _ _ h => h) (Or.inl ⟨by rfl, ?_⟩) ?_ ?_
                      rotate_left
                      ·intro w'
                       go_simp
                       with_reducible rfl
                      rotate_left
                      ·simp only [Act.put, List.setIfInBounds_toArray, List.set_cons_zero, List.set_cons_succ, i64_w, i32_w]
                       rfl
                      refine pure_ (i := 5) (N := some 215) (v := ?_) (a' := ?_) #[true, true, true, true, true, true, false, false, false, false, false, false, false, false, false, false, false, false, false, false] rfl rfl (any_of HT_.out (by kernel_rfl)) (fun _ _ _ h => h) (Or.inl ⟨by rfl, ?_⟩) ?_ ?_
                      rotate_left
                      ·intro w'
                       go_simp
                       with_reducible rfl
                      rotate_left
                      ·simp only [Act.put, List.setIfInBounds_toArray, List.set_cons_zero, List.set_cons_succ, i64_w, i32_w]
                       rfl
                      refine pure_ (i := 6) (N := some 216) (v := ?_) (a' := ?_) #[true, true, true, true, true, true, true, false, false, false, false, false, false, false, false, false, false, false, false, false] rfl rfl (any_of HT_.out (by kernel_rfl)) (fun _ _ _ h => h) (Or.inl ⟨by rfl, ?_⟩) ?_ ?_
                      rotate_left
                      ·intro w'
                       go_simp
                       with_reducible rfl
                      rotate_left
                      ·simp only [Act.put, List.setIfInBounds_toArray, List.set_cons_zero, List.set_cons_succ, i64_w, i32_w]
                       rfl
                      refine pure_ (i := 7) (N := some 217) (v := ?_) (a' := ?_) #[true, true, true, true, true, true, true, true, false, false, false, false, false, false, false, false, false, false, false, false] rfl rfl (any_of HT_.out (by kernel_rfl)) (fun _ _ _ h => h) (Or.inl ⟨by rfl, ?_⟩) ?_ ?_
                      rotate_left
                      ·intro w'
                       go_simp
                       with_reducible rfl
                      rotate_left
                      ·simp only [Act.put, List.setIfInBounds_toArray, List.set_cons_zero, List.set_cons_succ, i64_w, i32_w]
                       rfl
                      refine pure_ (i := 8) (N := some 218) (v := ?_) (a' := ?_) #[true, true, true, true, true, true, true, true, true, false, false, false, false, false, false, false, false, false, false, false] rfl rfl (any_of HT_.out (by kernel_rfl)) (fun _ _ _ h => h) (Or.inl ⟨by rfl, ?_⟩) ?_ ?_
                      rotate_left
                      ·intro w'
                       go_simp
                       with_reducible rfl
                      rotate_left
                      ·simp only [Act.put, List.setIfInBounds_toArray, List.set_cons_zero, List.set_cons_succ, i64_w, i32_w]
                       rfl
                      refine pure_ (i := 9) (N := some 219) (v := ?_) (a' := ?_) #[true, true, true, true, true, true, true, true, true, true, false, false, false, false, false, false, false, false, false, false] rfl rfl (any_of HT_.out (by kernel_rfl)) (fun _ _ _ h => h) (Or.inl ⟨by rfl, ?_⟩) ?_ ?_
                      rotate_left
                      ·intro w'
                       go_simp
                       with_reducible rfl
                      rotate_left
                      ·simp only [Act.put, List.setIfInBounds_toArray, List.set_cons_zero, List.set_cons_succ, i64_w, i32_w]
                       rfl
                      refine pure_ (i := 10) (N := some 220) (v := ?_) (a' := ?_) #[true, true, true, true, true, true, true, true, true, true, true, false, false, false, false, false, false, false, false, false] rfl rfl (any_of HT_.out (by kernel_rfl)) (fun _ _ _ h => h) (Or.inl ⟨by rfl, ?_⟩) ?_ ?_
                      rotate_left
                      ·intro w'
                       go_simp
                       with_reducible rfl
                      rotate_left
                      ·simp only [Act.put, List.setIfInBounds_toArray, List.set_cons_zero, List.set_cons_succ, i64_w, i32_w]
                       rfl
                      refine pure_ (i := 11) (N := some 221) (v := ?_) (a' := ?_) #[true, true, true, true, true, true, true, true, true, true, true, true, false, false, false, false, false, false, false, false] rfl rfl (any_of HT_.out (by kernel_rfl)) (fun _ _ _ h => h) (Or.inl ⟨by rfl, ?_⟩) ?_ ?_
                      rotate_left
                      ·intro w'
                       go_simp
                       with_reducible rfl
                      rotate_left
                      ·simp only [Act.put, List.setIfInBounds_toArray, List.set_cons_zero, List.set_cons_succ, i64_w, i32_w]
                       rfl
                      refine pure_ (i := 12) (N := some 222) (v := ?_) (a' := ?_) #[true, true, true, true, true, true, true, true, true, true, true, true, true, false, false, false, false, false, false, false] rfl rfl (any_of HT_.out (by kernel_rfl)) (fun _ _ _ h => h) (Or.inl ⟨by rfl, ?_⟩) ?_ ?_
                      rotate_left
                      ·intro w'
                       go_simp
                       with_reducible rfl
                      rotate_left
                      ·simp only [Act.put, List.setIfInBounds_toArray, List.set_cons_zero, List.set_cons_succ, i64_w, i32_w]
                       rfl
                      refine pure_ (i := 14) (N := some 224) (v := ?_) (a' := ?_) #[true, true, true, true, true, true, true, true, true, true, true, true, true, false, true, false, false, false, false, false] rfl rfl (any_of HT_.out (by kernel_rfl)) (fun _ _ _ h => h) (Or.inl ⟨by rfl, ?_⟩) ?_ ?_
                      rotate_left
                      ·intro w'
                       go_simp
                       with_reducible rfl
                      rotate_left
                      ·simp only [Act.put, List.setIfInBounds_toArray, List.set_cons_zero, List.set_cons_succ, i64_w, i32_w]
                       rfl
                      refine pure_ (i := 15) (N := some 225) (v := ?_) (a' := ?_) #[true, true, true, true, true, true, true, true, true, true, true, true, true, false, true, true, false, false, false, false] rfl rfl (any_of HT_.out (by kernel_rfl)) (fun _ _ _ h => h) (Or.inl ⟨by rfl, ?_⟩) ?_ ?_
                      rotate_left
                      ·intro w'
                       go_simp
                       with_reducible rfl
                      rotate_left
                      ·simp only [Act.put, List.setIfInBounds_toArray, List.set_cons_zero, List.set_cons_succ, i64_w, i32_w]
                       rfl
                      refine take_ (i := 13) (N := some 223) (v := ?_) (a' := ?_) #[true, true, true, true, true, true, true, true, true, true, true, true, true, true, true, true, false, false, false, false] rfl rfl (take_ofW HT_.out HW_.out (by kernel_rfl)) (fun _ _ _ h => h) (Or.inl ⟨by rfl, ?_⟩) hHeld ?_ ?_
                      rotate_left
                      ·intro w' _
                       go_simp
                       with_reducible rfl
                      rotate_left
                      ·simp only [Act.put, List.setIfInBounds_toArray, List.set_cons_zero, List.set_cons_succ, i64_w, i32_w]
                       rfl
                      refine take_ (i := 16) (N := some 226) (v := ?_) (a' := ?_) #[true, true, true, true, true, true, true, true, true, true, true, true, true, true, true, true, true, false, false, false] rfl rfl (take_ofW HT_.out HW_.out (by kernel_rfl)) (fun _ _ _ h => h) (Or.inl ⟨by rfl, ?_⟩) hHeld ?_ ?_
                      rotate_left
                      ·intro w' _
                       go_simp
                       with_reducible rfl
                      rotate_left
                      ·simp only [Act.put, List.setIfInBounds_toArray, List.set_cons_zero, List.set_cons_succ, i64_w, i32_w]
                       rfl
                      refine pure_ (i := 17) (N := some 227) (v := ?_) (a' := ?_) #[true, true, true, true, true, true, true, true, true, true, true, true, true, true, true, true, true, true, false, false] rfl rfl (any_of HT_.out (by kernel_rfl)) (fun _ _ _ h => h) (Or.inl ⟨by rfl, ?_⟩) ?_ ?_
                      rotate_left
                      ·intro w'
                       go_simp
                       with_reducible rfl
                      rotate_left
                      ·simp only [Act.put, List.setIfInBounds_toArray, List.set_cons_zero, List.set_cons_succ, i64_w, i32_w]
                       rfl
                      refine pure_ (i := 18) (N := some 228) (v := ?_) (a' := ?_) #[true, true, true, true, true, true, true, true, true, true, true, true, true, true, true, true, true, true, true, false] rfl rfl (any_of HT_.out (by kernel_rfl)) (fun _ _ _ h => h) (Or.inl ⟨by rfl, ?_⟩) ?_ ?_
                      rotate_left
                      ·intro w'
                       go_simp
                       with_reducible rfl
                      rotate_left
                      ·simp only [Act.put, List.setIfInBounds_toArray, List.set_cons_zero, List.set_cons_succ, i64_w, i32_w]
                       rfl
                      refine pure_ (i := 19) (N := some 229) (v := ?_) (a' := ?_) #[true, true, true, true, true, true, true, true, true, true, true, true, true, true, true, true, true, true, true, true] rfl rfl (any_of HT_.out (by kernel_rfl)) (fun _ _ _ h => h) (Or.inl ⟨by rfl, ?_⟩) ?_ ?_
                      rotate_left
                      ·intro w'
                       go_simp
                       with_reducible rfl
                      rotate_left
                      ·simp only [Act.put, List.setIfInBounds_toArray, List.set_cons_zero, List.set_cons_succ, i64_w, i32_w]
                       rfl
                      refine done_ (done_of HT_.out (by kernel_rfl)) ?_
                      try go_wp2
                      go_roundg k4
                      case measure => have := HJ8.out; have := HJ19.out; have := HJ56.out; have := HK4.out; omega
                      case rel => exact ⟨(wrap64 (x205_4 + 1)), (by first | rfl | (simp; done) | (simp [*]; done)), H', ⟨by have := HJ8.out; have := HJ19.out; have := HJ56.out; have := HK4.out; omega⟩, ⟨by (try simp only [hl21_56]); (with_reducible repeat (first | apply Kd.R_alloc | apply Kd.R_drewN | apply Kd.R_drew)); exact HO_203.out⟩, ⟨by (try simp only [hl21_56]); (with_reducible repeat (first | refine blk_drewN ?_ _ | refine blk_drew ?_ | refine blk_alloc ?_ _)); exact BK232.out⟩, ⟨by (try simp only [hl21_56]); (with_reducible repeat (first | refine blk_drewN ?_ _ | refine blk_drew ?_ | refine blk_alloc ?_ _)); exact BK233.out⟩, ⟨by (try simp only [hl21_56]); (with_reducible repeat (first | refine blk_drewN ?_ _ | refine blk_drew ?_ | refine blk_alloc ?_ _)); exact BK234.out⟩, ⟨by repeat (first | (with_reducible first | exact HB.out | apply aL | apply dN | apply dR | refine sT ?_ GE232.out | refine sT ?_ GE233.out | refine sT ?_ GE234.out) | exact HB.out)⟩⟩
                    ·rw [if_neg c101] at H
                     exact absurd H (by simp)
                   ·rw [if_neg c99] at H
                    exact absurd H (by simp)
                ·rw [if_neg c96] at H
                 exact absurd H (by simp)
               ·rw [if_neg c95] at H
                exact absurd H (by simp)
              ·rw [if_neg c94] at H
               have c94b0 : decide (x205_4 < (x21_56.length : Int)) = false := decide_eq_false c94
               try (have c94l := c94b0; simp only [hl21_56] at c94l)
               clear c94
               have H' := aM H
               clear H
               go_wp2
               (try simp only [← hl21_56])
               go_meet
               case rel => exact ⟨_, H', ⟨by have := HJ8.out; have := HJ19.out; have := HJ56.out; have := HK4.out; first | omega | exact Nat.le_refl _⟩, ⟨by (try simp only [hl21_56]); (with_reducible repeat (first | refine blk_drewN ?_ _ | refine blk_drew ?_ | refine blk_alloc ?_ _)); exact BK232.out⟩, ⟨by (try simp only [hl21_56]); (with_reducible repeat (first | refine blk_drewN ?_ _ | refine blk_drew ?_ | refine blk_alloc ?_ _)); exact BK233.out⟩, ⟨by (try simp only [hl21_56]); (with_reducible repeat (first | refine blk_drewN ?_ _ | refine blk_drew ?_ | refine blk_alloc ?_ _)); exact BK234.out⟩, ⟨by repeat (first | (with_reducible first | exact HB.out | apply aL | apply dN | apply dR | refine sT ?_ GE232.out | refine sT ?_ GE233.out | refine sT ?_ GE234.out) | exact HB.out)⟩⟩
         ·rw [if_neg c56] at H
          exact absurd H (by simp)
        ·replace c55 := Bool.eq_false_iff.mpr c55
         subst c55
         have H1 : (laws_FnLampsTickOfAll.j7 kj19 a4 a6 a7 l3_0 l5_0) = some r := by rw [if_neg (show ¬ (false = true) by decide)] at H; exact H
         clear H
         have H := H1
         clear H1
         have H' := aM H
         clear H
         go_wp2
         go_meet
         case rel => exact ⟨_, H', ⟨by have := HJ8.out; have := HJ19.out; first | omega | exact Nat.le_refl _⟩, ⟨by (with_reducible repeat (first | refine blk_drewN ?_ _ | refine blk_drew ?_ | refine blk_alloc ?_ _)); exact BK232.out⟩, ⟨by (with_reducible repeat (first | refine blk_drewN ?_ _ | refine blk_drew ?_ | refine blk_alloc ?_ _)); exact BK233.out⟩, ⟨by (with_reducible repeat (first | refine blk_drewN ?_ _ | refine blk_drew ?_ | refine blk_alloc ?_ _)); exact BK234.out⟩, ⟨by repeat (first | (with_reducible first | exact HB.out | apply aL | apply dN | apply dR | refine sT ?_ GE232.out | refine sT ?_ GE233.out | refine sT ?_ GE234.out) | exact HB.out)⟩⟩
       case rest => as_aux_lemma =>
        clear HC54
        try clear c1;try clear p1;try clear q1;try clear hx1;try clear c2;try clear p2;try clear q2;try clear hx2;try clear c3;try clear c4;try clear c5;try clear c6;try clear p6;try clear c7;try clear p7;try clear q7;try clear hx7;try clear c8;try clear p8;try clear q8;try clear hx8;try clear hf8;try clear c9;try clear c10;try clear p10;try clear q10;try clear hx10;try clear p25;try clear q25;try clear hx25;try clear c29;try clear c30;try clear c31;try clear c32;try clear c35;try clear c40;try clear c53;try clear c55;try clear c56;try clear c56b0;try clear c56b1;try clear c56b2;try clear c59;try clear c59b0;try clear c60;try clear c60b0;try clear c60b1;try clear c61;try clear c61b0;try clear c61b1;try clear c64;try clear c64b0;try clear p64;try clear c67;try clear c68;try clear c71;try clear c72;try clear c73;try clear c73b0;try clear c74;try clear c74b0;try clear p75;try clear q75;try clear hx75;try clear c76;try clear c76b0;try clear c77;try clear c77b0;try clear c78;try clear c78b0;try clear p79;try clear q79;try clear hx79;try clear c80;try clear c80b0;try clear p81;try clear q81;try clear hx81;try clear c82;try clear c82b0;try clear c82b1;try clear c84;try clear c84b0;try clear p85;try clear q85;try clear hx85;try clear hf85;try clear c90;try clear c90b0;try clear c90b1;try clear c92;try clear c94;try clear c94b0;try clear c95;try clear c95b0;try clear c96;try clear c96b0;try clear c97;try clear c97b0;try clear c98;try clear c98b0;try clear c99;try clear c99b0;try clear p100;try clear q100;try clear hx100;try clear c101;try clear c101b0;try clear p102;try clear q102;try clear hx102;try clear c103;try clear c103b0;try clear c103b1;try clear c103b2;try clear hcz69_0;try clear hfz69_0;try clear hx257_0;try clear hx259_0;try clear hx85_0;try clear p100;try clear p102;try clear p2;try clear p25;try clear p257;try clear p259;try clear p6;try clear p64;try clear p7;try clear p75;try clear p79;try clear p8;try clear p81;try clear p85;try clear q100;try clear q102;try clear q2;try clear q25;try clear q257;try clear q259;try clear q7;try clear q75;try clear q79;try clear q8;try clear q81;try clear q85
        obtain ⟨kq, HA, HJ53, BK232, BK233, BK234, HB⟩ := hcut
        cases kq with
        | zero => exact absurd HA.out (by simp [laws_FnLampsTickOfAll.j7])
        | succ kj53 =>
         have H := HA.out
         clear HA
         simp only [laws_FnLampsTickOfAll.j7] at H
         replace H := Option.bind_eq_some_iff.mp H
         obtain ⟨⟨t260, t263⟩, A1050, H⟩ := H
         replace H : ((spec_CycleOfLamps.f kj53 l3_0 a4).bind fun bt264 => ((impl_LeadOfLamps.f l3_0 a4).bind fun bt268 => ((spec_LeadOfLamps.f kj53 l3_0 a4).bind fun bt271 => ((impl_TickOnce.f l3_0 a4).bind fun bt274 => ((spec_TickOnce.f l3_0 a4).bind fun bt276 => ((impl_FirstTick.f l5_0 a6 a7).bind fun bt278 => ((spec_FirstTick.f kj53 l5_0 a6 a7).bind fun bt280 => (if (t263 != bt264.2) = true then (none) else ((laws_xTexts.f kj53 t260 bt264.1).bind fun t282 => (if t282 = true then (if (bt268.2.2 != bt271.2.2) = true then (none) else (if bt268.1 = bt271.1 then (if bt268.2.1 = bt271.2.1 then (if (bt274.2 != bt276.2) = true then (none) else (if bt274.1.toList = bt276.1.toList then (if (bt278.2 != bt280.2) = true then (none) else (if bt278.1 = bt280.1 then (if (bt268.2.2 != t263) = true then (none) else (laws_FnLampsTickOfAll.j8 kj53 a4 a6 a7 t260 t263 bt268.1 bt268.2.1 bt278.1 bt278.2 (bt274.2 != t263) l3_0 l5_0)) else (none))) else (none))) else (none)) else (none))) else (none))))))))))) = some r := H
         have A105 := aM A1050
         clear A1050
         replace H := Option.bind_eq_some_iff.mp H
         obtain ⟨⟨t264, t267⟩, A1060, H⟩ := H
         replace H : ((impl_LeadOfLamps.f l3_0 a4).bind fun bt268 => ((spec_LeadOfLamps.f kj53 l3_0 a4).bind fun bt271 => ((impl_TickOnce.f l3_0 a4).bind fun bt274 => ((spec_TickOnce.f l3_0 a4).bind fun bt276 => ((impl_FirstTick.f l5_0 a6 a7).bind fun bt278 => ((spec_FirstTick.f kj53 l5_0 a6 a7).bind fun bt280 => (if (t263 != t267) = true then (none) else ((laws_xTexts.f kj53 t260 t264).bind fun t282 => (if t282 = true then (if (bt268.2.2 != bt271.2.2) = true then (none) else (if bt268.1 = bt271.1 then (if bt268.2.1 = bt271.2.1 then (if (bt274.2 != bt276.2) = true then (none) else (if bt274.1.toList = bt276.1.toList then (if (bt278.2 != bt280.2) = true then (none) else (if bt278.1 = bt280.1 then (if (bt268.2.2 != t263) = true then (none) else (laws_FnLampsTickOfAll.j8 kj53 a4 a6 a7 t260 t263 bt268.1 bt268.2.1 bt278.1 bt278.2 (bt274.2 != t263) l3_0 l5_0)) else (none))) else (none))) else (none)) else (none))) else (none)))))))))) = some r := H
         have A106 := aM A1060
         clear A1060
         replace H := Option.bind_eq_some_iff.mp H
         obtain ⟨⟨t268, t269, t270⟩, A1070, H⟩ := H
         replace H : ((spec_LeadOfLamps.f kj53 l3_0 a4).bind fun bt271 => ((impl_TickOnce.f l3_0 a4).bind fun bt274 => ((spec_TickOnce.f l3_0 a4).bind fun bt276 => ((impl_FirstTick.f l5_0 a6 a7).bind fun bt278 => ((spec_FirstTick.f kj53 l5_0 a6 a7).bind fun bt280 => (if (t263 != t267) = true then (none) else ((laws_xTexts.f kj53 t260 t264).bind fun t282 => (if t282 = true then (if (t270 != bt271.2.2) = true then (none) else (if t268 = bt271.1 then (if t269 = bt271.2.1 then (if (bt274.2 != bt276.2) = true then (none) else (if bt274.1.toList = bt276.1.toList then (if (bt278.2 != bt280.2) = true then (none) else (if bt278.1 = bt280.1 then (if (t270 != t263) = true then (none) else (laws_FnLampsTickOfAll.j8 kj53 a4 a6 a7 t260 t263 t268 t269 bt278.1 bt278.2 (bt274.2 != t263) l3_0 l5_0)) else (none))) else (none))) else (none)) else (none))) else (none))))))))) = some r := H
         have A107 := aM A1070
         clear A1070
         replace H := Option.bind_eq_some_iff.mp H
         obtain ⟨⟨t271, t272, t273⟩, A1080, H⟩ := H
         replace H : ((impl_TickOnce.f l3_0 a4).bind fun bt274 => ((spec_TickOnce.f l3_0 a4).bind fun bt276 => ((impl_FirstTick.f l5_0 a6 a7).bind fun bt278 => ((spec_FirstTick.f kj53 l5_0 a6 a7).bind fun bt280 => (if (t263 != t267) = true then (none) else ((laws_xTexts.f kj53 t260 t264).bind fun t282 => (if t282 = true then (if (t270 != t273) = true then (none) else (if t268 = t271 then (if t269 = t272 then (if (bt274.2 != bt276.2) = true then (none) else (if bt274.1.toList = bt276.1.toList then (if (bt278.2 != bt280.2) = true then (none) else (if bt278.1 = bt280.1 then (if (t270 != t263) = true then (none) else (laws_FnLampsTickOfAll.j8 kj53 a4 a6 a7 t260 t263 t268 t269 bt278.1 bt278.2 (bt274.2 != t263) l3_0 l5_0)) else (none))) else (none))) else (none)) else (none))) else (none)))))))) = some r := H
         have A108 := aM A1080
         clear A1080
         replace H := Option.bind_eq_some_iff.mp H
         obtain ⟨⟨t274, t275⟩, A1090, H⟩ := H
         replace H : ((spec_TickOnce.f l3_0 a4).bind fun bt276 => ((impl_FirstTick.f l5_0 a6 a7).bind fun bt278 => ((spec_FirstTick.f kj53 l5_0 a6 a7).bind fun bt280 => (if (t263 != t267) = true then (none) else ((laws_xTexts.f kj53 t260 t264).bind fun t282 => (if t282 = true then (if (t270 != t273) = true then (none) else (if t268 = t271 then (if t269 = t272 then (if (t275 != bt276.2) = true then (none) else (if t274.toList = bt276.1.toList then (if (bt278.2 != bt280.2) = true then (none) else (if bt278.1 = bt280.1 then (if (t270 != t263) = true then (none) else (laws_FnLampsTickOfAll.j8 kj53 a4 a6 a7 t260 t263 t268 t269 bt278.1 bt278.2 (t275 != t263) l3_0 l5_0)) else (none))) else (none))) else (none)) else (none))) else (none))))))) = some r := H
         have A109 := aM A1090
         clear A1090
         replace H := Option.bind_eq_some_iff.mp H
         obtain ⟨⟨t276, t277⟩, A1100, H⟩ := H
         replace H : ((impl_FirstTick.f l5_0 a6 a7).bind fun bt278 => ((spec_FirstTick.f kj53 l5_0 a6 a7).bind fun bt280 => (if (t263 != t267) = true then (none) else ((laws_xTexts.f kj53 t260 t264).bind fun t282 => (if t282 = true then (if (t270 != t273) = true then (none) else (if t268 = t271 then (if t269 = t272 then (if (t275 != t277) = true then (none) else (if t274.toList = t276.toList then (if (bt278.2 != bt280.2) = true then (none) else (if bt278.1 = bt280.1 then (if (t270 != t263) = true then (none) else (laws_FnLampsTickOfAll.j8 kj53 a4 a6 a7 t260 t263 t268 t269 bt278.1 bt278.2 (t275 != t263) l3_0 l5_0)) else (none))) else (none))) else (none)) else (none))) else (none)))))) = some r := H
         have A110 := aM A1100
         clear A1100
         replace H := Option.bind_eq_some_iff.mp H
         obtain ⟨⟨t278, t279⟩, A1110, H⟩ := H
         replace H : ((spec_FirstTick.f kj53 l5_0 a6 a7).bind fun bt280 => (if (t263 != t267) = true then (none) else ((laws_xTexts.f kj53 t260 t264).bind fun t282 => (if t282 = true then (if (t270 != t273) = true then (none) else (if t268 = t271 then (if t269 = t272 then (if (t275 != t277) = true then (none) else (if t274.toList = t276.toList then (if (t279 != bt280.2) = true then (none) else (if t278 = bt280.1 then (if (t270 != t263) = true then (none) else (laws_FnLampsTickOfAll.j8 kj53 a4 a6 a7 t260 t263 t268 t269 t278 t279 (t275 != t263) l3_0 l5_0)) else (none))) else (none))) else (none)) else (none))) else (none))))) = some r := H
         have A111 := aM A1110
         clear A1110
         replace H := Option.bind_eq_some_iff.mp H
         obtain ⟨⟨t280, t281⟩, A1120, H⟩ := H
         replace H : (if (t263 != t267) = true then (none) else ((laws_xTexts.f kj53 t260 t264).bind fun t282 => (if t282 = true then (if (t270 != t273) = true then (none) else (if t268 = t271 then (if t269 = t272 then (if (t275 != t277) = true then (none) else (if t274.toList = t276.toList then (if (t279 != t281) = true then (none) else (if t278 = t280 then (if (t270 != t263) = true then (none) else (laws_FnLampsTickOfAll.j8 kj53 a4 a6 a7 t260 t263 t268 t269 t278 t279 (t275 != t263) l3_0 l5_0)) else (none))) else (none))) else (none)) else (none))) else (none)))) = some r := H
         have A112 := aM A1120
         clear A1120
         have HC113 := aM H
         clear H
         have hnb114 := NB233_232.out
         have hnc114 := NB232_233.out
         have hnb115 := NB233_234.out
         have hnc115 := NB234_233.out
         have hcz116_0 : wc.cell? ⟨gb233, 0, none⟩ = some (.slice A3_0 l3_0.length c3_0) := (blk_cell BK233.out 0).trans rfl
         have hfz116_0 := blk_frozen BK233.out 0
         go_upto_region 43 with (first | ((with_reducible refine gate_callee (f := 33) rfl ?_); refine goesL_ (some 234) rfl rfl Tryd.func33 (by kernel_rfl) rfl #[.agg #[.slice A3_0 l3_0.length c3_0], .string a4] rfl (by (try simp only [List.map_toArray, List.map_cons, List.map_nil]); first | done | rfl | (simp only [List.length_drop, List.length_take]; rfl)) ?_; (with_reducible refine (impl_CycleOfLamps.calls _ _ l3_0 a4 t260 t263 _ ?side1 ?side2 A105.out).mono ?_); (case side1 => exact cU (Kd.C_below HR3_0.out HB.out)); (case side2 => exact HC3_0.out); rintro e w117 ⟨v261, rfl, ho0, hb⟩; refine ⟨_, rfl, ?_⟩; have n0_ := aM (Kd.R_lower ho0 (below_size (by repeat (first | (with_reducible first | exact HB.out | apply aL | apply dN | apply dR | refine sT ?_ GE232.out | refine sT ?_ GE233.out | refine sT ?_ GE234.out) | exact HB.out)))); have n1_ := aM (blk_below (g := gb232) (o := .cells #[.slice A0_0 l0_0.length c0_0] 29 (0, 0)) (bU BK232.out) hb); have n2_ := aM (blk_below (g := gb233) (o := .cells #[.slice A3_0 l3_0.length c3_0] 29 (0, 0)) (bU BK233.out) hb); have n3_ := aM (blk_below (g := gb234) (o := .cells #[.slice A5_0 l5_0.length c5_0] 29 (0, 0)) (bU BK234.out) hb); have n4_ := aM (below_step (by repeat (first | (with_reducible first | exact HB.out | apply aL | apply dN | apply dR | refine sT ?_ GE232.out | refine sT ?_ GE233.out | refine sT ?_ GE234.out) | exact HB.out)) hb); clear BK232; clear BK233; clear BK234; clear HB; have HO262 := n0_; have BK232 := n1_; have BK233 := n2_; have BK234 := n3_; have HB := n4_; clear n0_ n1_ n2_ n3_ n4_; (try clear hb); (try clear hb2); (try clear hk); (try clear hi); (try clear ho0); have hcz118_0 : w117.cell? ⟨gb233, 0, none⟩ = some (.slice A3_0 l3_0.length c3_0) := (blk_cell BK233.out 0).trans rfl; have hfz118_0 := blk_frozen BK233.out 0) | ((with_reducible refine gate_callee (f := 34) rfl ?_); refine goesL_ (some 240) rfl rfl Tryd.func34 (by kernel_rfl) rfl #[.agg #[.slice A3_0 l3_0.length c3_0], .string a4] rfl (by (try simp only [List.map_toArray, List.map_cons, List.map_nil]); first | done | rfl | (simp only [List.length_drop, List.length_take]; rfl)) ?_; (with_reducible refine (spec_CycleOfLamps.calls kj53 _ _ l3_0 a4 t264 t267 _ ?side1 ?side2 A106.out).mono ?_); (case side1 => exact cU (Kd.C_below HR3_0.out HB.out)); (case side2 => exact HC3_0.out); rintro e w119 ⟨v265, rfl, ho0, hb⟩; refine ⟨_, rfl, ?_⟩; have n0_ := aM (Kd.R_elder' (rU HO262.out) (Kd.R_base ho0) hb); have n1_ := aM (Kd.R_lower (Kd.R_new' ho0 (Kd.R_lt (rU HO262.out))) (below_size (by repeat (first | (with_reducible first | exact HB.out | apply aL | apply dN | apply dR | refine sT ?_ GE232.out | refine sT ?_ GE233.out | refine sT ?_ GE234.out) | exact HB.out)))); have n2_ := aM (blk_below (g := gb232) (o := .cells #[.slice A0_0 l0_0.length c0_0] 29 (0, 0)) (bU BK232.out) hb); have n3_ := aM (blk_below (g := gb233) (o := .cells #[.slice A3_0 l3_0.length c3_0] 29 (0, 0)) (bU BK233.out) hb); have n4_ := aM (blk_below (g := gb234) (o := .cells #[.slice A5_0 l5_0.length c5_0] 29 (0, 0)) (bU BK234.out) hb); have n5_ := aM (below_step (by repeat (first | (with_reducible first | exact HB.out | apply aL | apply dN | apply dR | refine sT ?_ GE232.out | refine sT ?_ GE233.out | refine sT ?_ GE234.out) | exact HB.out)) hb); clear HO262; clear BK232; clear BK233; clear BK234; clear HB; have HO262 := n0_; have HO266 := n1_; have BK232 := n2_; have BK233 := n3_; have BK234 := n4_; have HB := n5_; clear n0_ n1_ n2_ n3_ n4_ n5_; (try clear hb); (try clear hb2); (try clear hk); (try clear hi); (try clear ho0); have hcz120_0 : w119.cell? ⟨gb233, 0, none⟩ = some (.slice A3_0 l3_0.length c3_0) := (blk_cell BK233.out 0).trans rfl; have hfz120_0 := blk_frozen BK233.out 0) | ((with_reducible refine gate_callee (f := 35) rfl ?_); refine goesL_ (some 246) rfl rfl Tryd.func35 (by kernel_rfl) rfl #[.agg #[.slice A3_0 l3_0.length c3_0], .string a4] rfl (by (try simp only [List.map_toArray, List.map_cons, List.map_nil]); first | done | rfl | (simp only [List.length_drop, List.length_take]; rfl)) ?_; (with_reducible refine (impl_LeadOfLamps.calls _ _ l3_0 a4 t268 t269 t270 _ ?side1 ?side2 A107.out).mono ?_); (case side1 => exact cU (Kd.C_below HR3_0.out HB.out)); (case side2 => exact HC3_0.out); rintro e w121 ⟨rfl, hb⟩; refine ⟨_, rfl, ?_⟩; have n0_ := aM (Kd.R_below (rU HO262.out) hb); have n1_ := aM (Kd.R_below (rU HO266.out) hb); have n2_ := aM (blk_below (g := gb232) (o := .cells #[.slice A0_0 l0_0.length c0_0] 29 (0, 0)) (bU BK232.out) hb); have n3_ := aM (blk_below (g := gb233) (o := .cells #[.slice A3_0 l3_0.length c3_0] 29 (0, 0)) (bU BK233.out) hb); have n4_ := aM (blk_below (g := gb234) (o := .cells #[.slice A5_0 l5_0.length c5_0] 29 (0, 0)) (bU BK234.out) hb); have n5_ := aM (below_step (by repeat (first | (with_reducible first | exact HB.out | apply aL | apply dN | apply dR | refine sT ?_ GE232.out | refine sT ?_ GE233.out | refine sT ?_ GE234.out) | exact HB.out)) hb); clear HO262; clear HO266; clear BK232; clear BK233; clear BK234; clear HB; have HO262 := n0_; have HO266 := n1_; have BK232 := n2_; have BK233 := n3_; have BK234 := n4_; have HB := n5_; clear n0_ n1_ n2_ n3_ n4_ n5_; (try clear hb); (try clear hb2); (try clear hk); (try clear hi); have hcz122_0 : w121.cell? ⟨gb233, 0, none⟩ = some (.slice A3_0 l3_0.length c3_0) := (blk_cell BK233.out 0).trans rfl; have hfz122_0 := blk_frozen BK233.out 0) | ((with_reducible refine gate_callee (f := 36) rfl ?_); refine goesL_ (some 253) rfl rfl Tryd.func36 (by kernel_rfl) rfl #[.agg #[.slice A3_0 l3_0.length c3_0], .string a4] rfl (by (try simp only [List.map_toArray, List.map_cons, List.map_nil]); first | done | rfl | (simp only [List.length_drop, List.length_take]; rfl)) ?_; (with_reducible refine (spec_LeadOfLamps.calls kj53 _ _ l3_0 a4 t271 t272 t273 _ ?side1 ?side2 A108.out).mono ?_); (case side1 => exact cU (Kd.C_below HR3_0.out HB.out)); (case side2 => exact HC3_0.out); rintro e w123 ⟨rfl, hb⟩; refine ⟨_, rfl, ?_⟩; have n0_ := aM (Kd.R_below (rU HO262.out) hb); have n1_ := aM (Kd.R_below (rU HO266.out) hb); have n2_ := aM (blk_below (g := gb232) (o := .cells #[.slice A0_0 l0_0.length c0_0] 29 (0, 0)) (bU BK232.out) hb); have n3_ := aM (blk_below (g := gb233) (o := .cells #[.slice A3_0 l3_0.length c3_0] 29 (0, 0)) (bU BK233.out) hb); have n4_ := aM (blk_below (g := gb234) (o := .cells #[.slice A5_0 l5_0.length c5_0] 29 (0, 0)) (bU BK234.out) hb); have n5_ := aM (below_step (by repeat (first | (with_reducible first | exact HB.out | apply aL | apply dN | apply dR | refine sT ?_ GE232.out | refine sT ?_ GE233.out | refine sT ?_ GE234.out) | exact HB.out)) hb); clear HO262; clear HO266; clear BK232; clear BK233; clear BK234; clear HB; have HO262 := n0_; have HO266 := n1_; have BK232 := n2_; have BK233 := n3_; have BK234 := n4_; have HB := n5_; clear n0_ n1_ n2_ n3_ n4_ n5_; (try clear hb); (try clear hb2); (try clear hk); (try clear hi); have hcz124_0 : w123.cell? ⟨gb233, 0, none⟩ = some (.slice A3_0 l3_0.length c3_0) := (blk_cell BK233.out 0).trans rfl; have hfz124_0 := blk_frozen BK233.out 0) | ((with_reducible refine gate_callee (f := 32) rfl ?_); refine goesL_ (some 260) rfl rfl Tryd.func32 (by kernel_rfl) rfl #[.agg #[.slice A3_0 l3_0.length c3_0], .string a4] rfl (by (try simp only [List.map_toArray, List.map_cons, List.map_nil]); first | done | rfl | (simp only [List.length_drop, List.length_take]; rfl)) ?_; (with_reducible refine (impl_TickOnce.calls _ _ l3_0 a4 t274 t275 _ ?side1 ?side2 A109.out).mono ?_); (case side1 => exact cU (Kd.C_below HR3_0.out HB.out)); (case side2 => exact HC3_0.out); rintro e w125 ⟨rfl, hb⟩; refine ⟨_, rfl, ?_⟩; have n0_ := aM (Kd.R_below (rU HO262.out) hb); have n1_ := aM (Kd.R_below (rU HO266.out) hb); have n2_ := aM (blk_below (g := gb232) (o := .cells #[.slice A0_0 l0_0.length c0_0] 29 (0, 0)) (bU BK232.out) hb); have n3_ := aM (blk_below (g := gb233) (o := .cells #[.slice A3_0 l3_0.length c3_0] 29 (0, 0)) (bU BK233.out) hb); have n4_ := aM (blk_below (g := gb234) (o := .cells #[.slice A5_0 l5_0.length c5_0] 29 (0, 0)) (bU BK234.out) hb); have n5_ := aM (below_step (by repeat (first | (with_reducible first | exact HB.out | apply aL | apply dN | apply dR | refine sT ?_ GE232.out | refine sT ?_ GE233.out | refine sT ?_ GE234.out) | exact HB.out)) hb); clear HO262; clear HO266; clear BK232; clear BK233; clear BK234; clear HB; have HO262 := n0_; have HO266 := n1_; have BK232 := n2_; have BK233 := n3_; have BK234 := n4_; have HB := n5_; clear n0_ n1_ n2_ n3_ n4_ n5_; (try clear hb); (try clear hb2); (try clear hk); (try clear hi); have hcz126_0 : w125.cell? ⟨gb233, 0, none⟩ = some (.slice A3_0 l3_0.length c3_0) := (blk_cell BK233.out 0).trans rfl; have hfz126_0 := blk_frozen BK233.out 0) | ((with_reducible refine gate_callee (f := 37) rfl ?_); refine goesL_ (some 266) rfl rfl Tryd.func37 (by kernel_rfl) rfl #[.agg #[.slice A3_0 l3_0.length c3_0], .string a4] rfl (by (try simp only [List.map_toArray, List.map_cons, List.map_nil]); first | done | rfl | (simp only [List.length_drop, List.length_take]; rfl)) ?_; (with_reducible refine (spec_TickOnce.calls _ _ l3_0 a4 t276 t277 _ ?side1 ?side2 A110.out).mono ?_); (case side1 => exact cU (Kd.C_below HR3_0.out HB.out)); (case side2 => exact HC3_0.out); rintro e w127 ⟨rfl, hb⟩; refine ⟨_, rfl, ?_⟩; have n0_ := aM (Kd.R_below (rU HO262.out) hb); have n1_ := aM (Kd.R_below (rU HO266.out) hb); have n2_ := aM (blk_below (g := gb232) (o := .cells #[.slice A0_0 l0_0.length c0_0] 29 (0, 0)) (bU BK232.out) hb); have n3_ := aM (blk_below (g := gb233) (o := .cells #[.slice A3_0 l3_0.length c3_0] 29 (0, 0)) (bU BK233.out) hb); have n4_ := aM (blk_below (g := gb234) (o := .cells #[.slice A5_0 l5_0.length c5_0] 29 (0, 0)) (bU BK234.out) hb); have n5_ := aM (below_step (by repeat (first | (with_reducible first | exact HB.out | apply aL | apply dN | apply dR | refine sT ?_ GE232.out | refine sT ?_ GE233.out | refine sT ?_ GE234.out) | exact HB.out)) hb); clear HO262; clear HO266; clear BK232; clear BK233; clear BK234; clear HB; have HO262 := n0_; have HO266 := n1_; have BK232 := n2_; have BK233 := n3_; have BK234 := n4_; have HB := n5_; clear n0_ n1_ n2_ n3_ n4_ n5_; (try clear hb); (try clear hb2); (try clear hk); (try clear hi); have hnb128 := NB234_232.out; have hnc128 := NB232_234.out; have hcz129_0 : w127.cell? ⟨gb234, 0, none⟩ = some (.slice A5_0 l5_0.length c5_0) := (blk_cell BK234.out 0).trans rfl; have hfz129_0 := blk_frozen BK234.out 0) | ((with_reducible refine gate_callee (f := 38) rfl ?_); refine goesL_ (some 273) rfl rfl Tryd.func38 (by kernel_rfl) rfl #[.agg #[.slice A5_0 l5_0.length c5_0], .string a6, .int .i64 a7] rfl (by (try simp only [List.map_toArray, List.map_cons, List.map_nil]); first | done | rfl | (simp only [List.length_drop, List.length_take]; rfl)) ?_; (with_reducible refine (impl_FirstTick.calls _ _ l5_0 a6 a7 t278 t279 _ ?side1 ?side2 A111.out).mono ?_); (case side1 => exact cU (Kd.C_below HR5_0.out HB.out)); (case side2 => exact HC5_0.out); rintro e w130 ⟨rfl, hb⟩; refine ⟨_, rfl, ?_⟩; have n0_ := aM (Kd.R_below (rU HO262.out) hb); have n1_ := aM (Kd.R_below (rU HO266.out) hb); have n2_ := aM (blk_below (g := gb232) (o := .cells #[.slice A0_0 l0_0.length c0_0] 29 (0, 0)) (bU BK232.out) hb); have n3_ := aM (blk_below (g := gb233) (o := .cells #[.slice A3_0 l3_0.length c3_0] 29 (0, 0)) (bU BK233.out) hb); have n4_ := aM (blk_below (g := gb234) (o := .cells #[.slice A5_0 l5_0.length c5_0] 29 (0, 0)) (bU BK234.out) hb); have n5_ := aM (below_step (by repeat (first | (with_reducible first | exact HB.out | apply aL | apply dN | apply dR | refine sT ?_ GE232.out | refine sT ?_ GE233.out | refine sT ?_ GE234.out) | exact HB.out)) hb); clear HO262; clear HO266; clear BK232; clear BK233; clear BK234; clear HB; have HO262 := n0_; have HO266 := n1_; have BK232 := n2_; have BK233 := n3_; have BK234 := n4_; have HB := n5_; clear n0_ n1_ n2_ n3_ n4_ n5_; (try clear hb); (try clear hb2); (try clear hk); (try clear hi); have hcz131_0 : w130.cell? ⟨gb234, 0, none⟩ = some (.slice A5_0 l5_0.length c5_0) := (blk_cell BK234.out 0).trans rfl; have hfz131_0 := blk_frozen BK234.out 0) | ((with_reducible refine gate_callee (f := 39) rfl ?_); refine goesL_ (some 280) rfl rfl Tryd.func39 (by kernel_rfl) rfl #[.agg #[.slice A5_0 l5_0.length c5_0], .string a6, .int .i64 a7] rfl (by (try simp only [List.map_toArray, List.map_cons, List.map_nil]); first | done | rfl | (simp only [List.length_drop, List.length_take]; rfl)) ?_; (with_reducible refine (spec_FirstTick.calls kj53 _ _ l5_0 a6 a7 t280 t281 _ ?side1 ?side2 A112.out).mono ?_); (case side1 => exact cU (Kd.C_below HR5_0.out HB.out)); (case side2 => exact HC5_0.out); rintro e w132 ⟨rfl, hb⟩; refine ⟨_, rfl, ?_⟩; have n0_ := aM (Kd.R_below (rU HO262.out) hb); have n1_ := aM (Kd.R_below (rU HO266.out) hb); have n2_ := aM (blk_below (g := gb232) (o := .cells #[.slice A0_0 l0_0.length c0_0] 29 (0, 0)) (bU BK232.out) hb); have n3_ := aM (blk_below (g := gb233) (o := .cells #[.slice A3_0 l3_0.length c3_0] 29 (0, 0)) (bU BK233.out) hb); have n4_ := aM (blk_below (g := gb234) (o := .cells #[.slice A5_0 l5_0.length c5_0] 29 (0, 0)) (bU BK234.out) hb); have n5_ := aM (below_step (by repeat (first | (with_reducible first | exact HB.out | apply aL | apply dN | apply dR | refine sT ?_ GE232.out | refine sT ?_ GE233.out | refine sT ?_ GE234.out) | exact HB.out)) hb); clear HO262; clear HO266; clear BK232; clear BK233; clear BK234; clear HB; have HO262 := n0_; have HO266 := n1_; have BK232 := n2_; have BK233 := n3_; have BK234 := n4_; have HB := n5_; clear n0_ n1_ n2_ n3_ n4_ n5_; (try clear hb); (try clear hb2); (try clear hk); (try clear hi)))
         (try simp only [Act.put, List.setIfInBounds_toArray, List.set_cons_zero, List.set_cons_succ])
         go_cut [336] from 231 to 336 (fun v336 wc => ∃ (kq : Nat) (x336_112 : Bool), v336 = .bool x336_112 ∧ Aside0 (laws_FnLampsTickOfAll.j8 kq a4 a6 a7 t260 t263 t268 t269 t278 t279 x336_112 l3_0 l5_0 = some r) ∧ Aside0 (kq ≤ kj53) ∧ Aside0 (Kd.R Kd.string 9 wc w.heap.size (fun _ => True) v261 t260) ∧ Aside0 (wc.heap[gb232]? = some (.cells #[(.slice A0_0 l0_0.length c0_0)] 29 (0, 0))) ∧ Aside0 (wc.heap[gb233]? = some (.cells #[(.slice A3_0 l3_0.length c3_0)] 29 (0, 0))) ∧ Aside0 (wc.heap[gb234]? = some (.cells #[(.slice A5_0 l5_0.length c5_0)] 29 (0, 0))) ∧ Aside0 (Below w.heap.size w wc))
         case first => as_aux_lemma =>
          have H := HC113.out
          clear HC113
          by_cases c133 : (t263 != t267) = true
          ·rw [if_pos c133] at H
           exact absurd H (by simp)
          ·rw [if_neg c133] at H
           have c133b0 : (t263 != t267) = false := by simpa using c133
           (try (have c133b1 : decide (t263 = t267) = true := by simpa using c133))
           (try (have c133b2 : (t263 == t267) = true := by simpa using c133))
           clear c133
           (first | rw [c133b0] | (simp only [i64_w, i32_w]; rw [c133b0]) | skip)
           replace H := Option.bind_eq_some_iff.mp H
           obtain ⟨t282, A1340, H⟩ := H
           replace H : (if t282 = true then (if (t270 != t273) = true then (none) else (if t268 = t271 then (if t269 = t272 then (if (t275 != t277) = true then (none) else (if t274.toList = t276.toList then (if (t279 != t281) = true then (none) else (if t278 = t280 then (if (t270 != t263) = true then (none) else (laws_FnLampsTickOfAll.j8 kj53 a4 a6 a7 t260 t263 t268 t269 t278 t279 (t275 != t263) l3_0 l5_0)) else (none))) else (none))) else (none)) else (none))) else (none)) = some r := H
           have A134 := aM A1340
           clear A1340
           by_cases c135 : t282 = true
           ·subst c135
            have H1 : (if (t270 != t273) = true then (none) else (if t268 = t271 then (if t269 = t272 then (if (t275 != t277) = true then (none) else (if t274.toList = t276.toList then (if (t279 != t281) = true then (none) else (if t278 = t280 then (if (t270 != t263) = true then (none) else (laws_FnLampsTickOfAll.j8 kj53 a4 a6 a7 t260 t263 t268 t269 t278 t279 (t275 != t263) l3_0 l5_0)) else (none))) else (none))) else (none)) else (none))) = some r := by rw [if_pos rfl] at H; exact H
            clear H
            have H := H1
            clear H1
            by_cases c136 : (t270 != t273) = true
            ·rw [if_pos c136] at H
             exact absurd H (by simp)
            ·rw [if_neg c136] at H
             have c136b0 : (t270 != t273) = false := by simpa using c136
             (try (have c136b1 : decide (t270 = t273) = true := by simpa using c136))
             (try (have c136b2 : (t270 == t273) = true := by simpa using c136))
             clear c136
             by_cases c137 : t268 = t271
             ·rw [if_pos c137] at H
              have c137b0 : (t268 == t271) = true := beq_iff_eq.mpr c137
              have c137b1 : (t268 != t271) = false := bne_eq_false_iff_eq.mpr c137
              clear c137
              by_cases c138 : t269 = t272
              ·rw [if_pos c138] at H
               have c138b0 : (t269 == t272) = true := beq_iff_eq.mpr c138
               have c138b1 : (t269 != t272) = false := bne_eq_false_iff_eq.mpr c138
               clear c138
               by_cases c139 : (t275 != t277) = true
               ·rw [if_pos c139] at H
                exact absurd H (by simp)
               ·rw [if_neg c139] at H
                have c139b0 : (t275 != t277) = false := by simpa using c139
                (try (have c139b1 : decide (t275 = t277) = true := by simpa using c139))
                (try (have c139b2 : (t275 == t277) = true := by simpa using c139))
                clear c139
                by_cases c140 : t274.toList = t276.toList
                ·rw [if_pos c140] at H
                 have c140b0 : (t274.toList == t276.toList) = true := beq_iff_eq.mpr c140
                 have c140b1 : (t274.toList != t276.toList) = false := bne_eq_false_iff_eq.mpr c140
                 clear c140
                 by_cases c141 : (t279 != t281) = true
                 ·rw [if_pos c141] at H
                  exact absurd H (by simp)
                 ·rw [if_neg c141] at H
                  have c141b0 : (t279 != t281) = false := by simpa using c141
                  (try (have c141b1 : decide (t279 = t281) = true := by simpa using c141))
                  (try (have c141b2 : (t279 == t281) = true := by simpa using c141))
                  clear c141
                  by_cases c142 : t278 = t280
                  ·rw [if_pos c142] at H
                   have c142b0 : (t278 == t280) = true := beq_iff_eq.mpr c142
                   have c142b1 : (t278 != t280) = false := bne_eq_false_iff_eq.mpr c142
                   clear c142
                   by_cases c143 : (t270 != t263) = true
                   ·rw [if_pos c143] at H
                    exact absurd H (by simp)
                   ·rw [if_neg c143] at H
                    have c143b0 : (t270 != t263) = false := by simpa using c143
                    (try (have c143b1 : decide (t270 = t263) = true := by simpa using c143))
                    (try (have c143b2 : (t270 == t263) = true := by simpa using c143))
                    clear c143
                    have H' := aM H
                    clear H
                    obtain ⟨Ao144, co144, eo144⟩ := Kd.R_slice HO262.out
                    subst eo144
                    obtain ⟨Ao145, co145, eo145⟩ := Kd.R_slice HO266.out
                    subst eo145
                    go_wp2_with (first | (go_at_call 40; (with_reducible refine (laws_xTexts.calls kj53 _ _ t260 _ _ t264 true _ ?side1 ?side2 ?side3 ?side4 A134.out).mono ?_); (case side1 => exact cU (Kd.R_reads' HO262.out).2.2); (case side2 => exact (Kd.R_reads' HO262.out).2.1); (case side3 => exact cU (Kd.R_reads' HO266.out).2.2); (case side4 => exact (Kd.R_reads' HO266.out).2.1); rintro e w' ⟨rfl, ⟨nd, rfl⟩⟩))
                    go_meet
                    case rel => exact ⟨_, ((t275 != t263)), (by first | rfl | (simp; done) | (simp [*]; done)), H', ⟨by have := HJ8.out; have := HJ19.out; have := HJ53.out; first | omega | exact Nat.le_refl _⟩, ⟨by (with_reducible repeat (first | apply Kd.R_alloc | apply Kd.R_drewN | apply Kd.R_drew)); exact Kd.R_mono HO262.out (fun _ hk => trivial)⟩, ⟨by (with_reducible repeat (first | refine blk_drewN ?_ _ | refine blk_drew ?_ | refine blk_alloc ?_ _)); exact BK232.out⟩, ⟨by (with_reducible repeat (first | refine blk_drewN ?_ _ | refine blk_drew ?_ | refine blk_alloc ?_ _)); exact BK233.out⟩, ⟨by (with_reducible repeat (first | refine blk_drewN ?_ _ | refine blk_drew ?_ | refine blk_alloc ?_ _)); exact BK234.out⟩, ⟨by repeat (first | (with_reducible first | exact HB.out | apply aL | apply dN | apply dR | refine sT ?_ GE232.out | refine sT ?_ GE233.out | refine sT ?_ GE234.out) | exact HB.out)⟩⟩
                  ·rw [if_neg c142] at H
                   exact absurd H (by simp)
                ·rw [if_neg c140] at H
                 exact absurd H (by simp)
              ·rw [if_neg c138] at H
               exact absurd H (by simp)
             ·rw [if_neg c137] at H
              exact absurd H (by simp)
           ·replace c135 := Bool.eq_false_iff.mpr c135
            subst c135
            have H1 : (none) = some r := by rw [if_neg (show ¬ (false = true) by decide)] at H; exact H
            clear H
            have H := H1
            clear H1
            exact absurd H (by simp)
         case rest => as_aux_lemma =>
          clear HC113
          try clear c1;try clear p1;try clear q1;try clear hx1;try clear c2;try clear p2;try clear q2;try clear hx2;try clear c3;try clear c4;try clear c5;try clear c6;try clear p6;try clear c7;try clear p7;try clear q7;try clear hx7;try clear c8;try clear p8;try clear q8;try clear hx8;try clear hf8;try clear c9;try clear c10;try clear p10;try clear q10;try clear hx10;try clear c11;try clear c12;try clear c13;try clear c14;try clear p25;try clear q25;try clear hx25;try clear c29;try clear c30;try clear c31;try clear c32;try clear c33;try clear c34;try clear c35;try clear c36;try clear c37;try clear c38;try clear c39;try clear c40;try clear c53;try clear c55;try clear c56;try clear c56b0;try clear c56b1;try clear c56b2;try clear c59;try clear c59b0;try clear c60;try clear c60b0;try clear c60b1;try clear c61;try clear c61b0;try clear c61b1;try clear c64;try clear c64b0;try clear p64;try clear c67;try clear c68;try clear c71;try clear c72;try clear c73;try clear c73b0;try clear c74;try clear c74b0;try clear p75;try clear q75;try clear hx75;try clear c76;try clear c76b0;try clear c77;try clear c77b0;try clear c78;try clear c78b0;try clear p79;try clear q79;try clear hx79;try clear c80;try clear c80b0;try clear p81;try clear q81;try clear hx81;try clear c82;try clear c82b0;try clear c82b1;try clear c84;try clear c84b0;try clear p85;try clear q85;try clear hx85;try clear hf85;try clear c90;try clear c90b0;try clear c90b1;try clear c92;try clear c94;try clear c94b0;try clear c95;try clear c95b0;try clear c96;try clear c96b0;try clear c97;try clear c97b0;try clear c98;try clear c98b0;try clear c99;try clear c99b0;try clear p100;try clear q100;try clear hx100;try clear c101;try clear c101b0;try clear p102;try clear q102;try clear hx102;try clear c103;try clear c103b0;try clear c103b1;try clear c103b2;try clear c114;try clear c115;try clear c128;try clear c133;try clear c133b0;try clear c133b1;try clear c133b2;try clear c135;try clear c136;try clear c136b0;try clear c136b1;try clear c136b2;try clear c137;try clear c137b0;try clear c137b1;try clear c138;try clear c138b0;try clear c138b1;try clear c139;try clear c139b0;try clear c139b1;try clear c139b2;try clear c140;try clear c140b0;try clear c140b1;try clear c141;try clear c141b0;try clear c141b1;try clear c141b2;try clear c142;try clear c142b0;try clear c142b1;try clear c143;try clear c143b0;try clear c143b1;try clear c143b2;try clear hcz116_0;try clear hcz118_0;try clear hcz120_0;try clear hcz122_0;try clear hcz124_0;try clear hcz126_0;try clear hcz129_0;try clear hcz131_0;try clear hcz69_0;try clear hfz116_0;try clear hfz118_0;try clear hfz120_0;try clear hfz122_0;try clear hfz124_0;try clear hfz126_0;try clear hfz129_0;try clear hfz131_0;try clear hfz69_0;try clear hx257_0;try clear hx259_0;try clear hx85_0;try clear p1;try clear p10;try clear p100;try clear p102;try clear p2;try clear p25;try clear p257;try clear p259;try clear p6;try clear p64;try clear p7;try clear p75;try clear p79;try clear p8;try clear p81;try clear p85;try clear q1;try clear q10;try clear q100;try clear q102;try clear q2;try clear q25;try clear q257;try clear q259;try clear q7;try clear q75;try clear q79;try clear q8;try clear q81;try clear q85
          obtain ⟨kq, x336_112, rfl, HA, HJ112, HO_33, BK232, BK233, BK234, HB⟩ := hcut
          cases kq with
          | zero => exact absurd HA.out (by simp [laws_FnLampsTickOfAll.j8])
          | succ kj112 =>
           have H := HA.out
           clear HA
           simp only [laws_FnLampsTickOfAll.j8] at H
           by_cases c146 : x336_112 = true
           ·subst c146
            have H1 : (none) = some r := by rw [if_pos rfl] at H; exact H
            clear H
            have H := H1
            clear H1
            exact absurd H (by simp)
           ·replace c146 := Bool.eq_false_iff.mpr c146
            subst c146
            have H1 : (if t263 = true then (if (t260.length : Int) = t269 then (if t269 < 1 then (none) else (laws_FnLampsTickOfAll.j9 kj112 a4 a6 a7 t260 t268 t269 t278 t279 (decide (t268 < 0)) l3_0 l5_0)) else (none)) else (laws_FnLampsTickOfAll.j12 kj112 a6 a7 t278 t279 l5_0)) = some r := by rw [if_neg (show ¬ (false = true) by decide)] at H; exact H
            clear H
            have H := H1
            clear H1
            have HC147 := aM H
            clear H
            go_upto_if 337 with (fail)
            go_cut [] from 337 to 337 (fun wc => ∃ (kq : Nat), Aside0 (laws_FnLampsTickOfAll.j12 kq a6 a7 t278 t279 l5_0 = some r) ∧ Aside0 (kq ≤ kj112) ∧ Aside0 (wc.heap[gb232]? = some (.cells #[(.slice A0_0 l0_0.length c0_0)] 29 (0, 0))) ∧ Aside0 (wc.heap[gb233]? = some (.cells #[(.slice A3_0 l3_0.length c3_0)] 29 (0, 0))) ∧ Aside0 (wc.heap[gb234]? = some (.cells #[(.slice A5_0 l5_0.length c5_0)] 29 (0, 0))) ∧ Aside0 (Below w.heap.size w wc))
            case first => as_aux_lemma =>
             have H := HC147.out
             clear HC147
             by_cases c148 : t263 = true
             ·subst c148
              have H1 : (if (t260.length : Int) = t269 then (if t269 < 1 then (none) else (laws_FnLampsTickOfAll.j9 kj112 a4 a6 a7 t260 t268 t269 t278 t279 (decide (t268 < 0)) l3_0 l5_0)) else (none)) = some r := by rw [if_pos rfl] at H; exact H
              clear H
              have H := H1
              clear H1
              have HC149 := aM H
              clear H
              go_upto_region 46 with (fail)
              go_cut [349] from 338 to 349 (fun v349 wc => ∃ (kq : Nat) (x349_148 : Bool), v349 = .bool x349_148 ∧ Aside0 (laws_FnLampsTickOfAll.j9 kq a4 a6 a7 t260 t268 t269 t278 t279 x349_148 l3_0 l5_0 = some r) ∧ Aside0 (kq ≤ kj112) ∧ Aside0 (Kd.R Kd.string 9 wc w.heap.size (fun _ => True) v261 t260) ∧ Aside0 (wc.heap[gb232]? = some (.cells #[(.slice A0_0 l0_0.length c0_0)] 29 (0, 0))) ∧ Aside0 (wc.heap[gb233]? = some (.cells #[(.slice A3_0 l3_0.length c3_0)] 29 (0, 0))) ∧ Aside0 (wc.heap[gb234]? = some (.cells #[(.slice A5_0 l5_0.length c5_0)] 29 (0, 0))) ∧ Aside0 (Below w.heap.size w wc))
              case first => as_aux_lemma =>
               have H := HC149.out
               clear HC149
               by_cases c150 : (t260.length : Int) = t269
               ·rw [if_pos c150] at H
                have c150b0 : ((t260.length : Int) == t269) = true := beq_iff_eq.mpr c150
                have c150b1 : ((t260.length : Int) != t269) = false := bne_eq_false_iff_eq.mpr c150
                clear c150
                (first | rw [c150b0] | (simp only [i64_w, i32_w]; rw [c150b0]) | skip)
                by_cases c151 : t269 < 1
                ·rw [if_pos c151] at H
                 exact absurd H (by simp)
                ·rw [if_neg c151] at H
                 have c151b0 : decide (t269 < 1) = false := decide_eq_false c151
                 clear c151
                 have H' := aM H
                 clear H
                 obtain ⟨Ao152, co152, eo152⟩ := Kd.R_slice HO_33.out
                 subst eo152
                 go_wp2
                 go_meet
                 case rel => exact ⟨_, (decide (t268 < 0)), (by first | rfl | (simp; done) | (simp [*]; done)), H', ⟨by have := HJ8.out; have := HJ19.out; have := HJ53.out; have := HJ112.out; first | omega | exact Nat.le_refl _⟩, ⟨by (with_reducible repeat (first | apply Kd.R_alloc | apply Kd.R_drewN | apply Kd.R_drew)); exact HO_33.out⟩, ⟨by (with_reducible repeat (first | refine blk_drewN ?_ _ | refine blk_drew ?_ | refine blk_alloc ?_ _)); exact BK232.out⟩, ⟨by (with_reducible repeat (first | refine blk_drewN ?_ _ | refine blk_drew ?_ | refine blk_alloc ?_ _)); exact BK233.out⟩, ⟨by (with_reducible repeat (first | refine blk_drewN ?_ _ | refine blk_drew ?_ | refine blk_alloc ?_ _)); exact BK234.out⟩, ⟨by repeat (first | (with_reducible first | exact HB.out | apply aL | apply dN | apply dR | refine sT ?_ GE232.out | refine sT ?_ GE233.out | refine sT ?_ GE234.out) | exact HB.out)⟩⟩
               ·rw [if_neg c150] at H
                exact absurd H (by simp)
              case rest => as_aux_lemma =>
               clear HC149
               try clear c1;try clear p1;try clear q1;try clear hx1;try clear c2;try clear p2;try clear q2;try clear hx2;try clear c3;try clear c4;try clear c5;try clear c6;try clear p6;try clear c7;try clear p7;try clear q7;try clear hx7;try clear c8;try clear p8;try clear q8;try clear hx8;try clear hf8;try clear c9;try clear c10;try clear p10;try clear q10;try clear hx10;try clear c11;try clear c12;try clear c13;try clear c14;try clear c15;try clear p25;try clear q25;try clear hx25;try clear c29;try clear c30;try clear c31;try clear c32;try clear c33;try clear c34;try clear c35;try clear c36;try clear c37;try clear c38;try clear c39;try clear c40;try clear c53;try clear c55;try clear c56;try clear c56b0;try clear c56b1;try clear c56b2;try clear c59;try clear c59b0;try clear c60;try clear c60b0;try clear c60b1;try clear c61;try clear c61b0;try clear c61b1;try clear c64;try clear c64b0;try clear p64;try clear c67;try clear c68;try clear c71;try clear c72;try clear c73;try clear c73b0;try clear c74;try clear c74b0;try clear p75;try clear q75;try clear hx75;try clear c76;try clear c76b0;try clear c77;try clear c77b0;try clear c78;try clear c78b0;try clear p79;try clear q79;try clear hx79;try clear c80;try clear c80b0;try clear p81;try clear q81;try clear hx81;try clear c82;try clear c82b0;try clear c82b1;try clear c84;try clear c84b0;try clear p85;try clear q85;try clear hx85;try clear hf85;try clear c90;try clear c90b0;try clear c90b1;try clear c92;try clear c94;try clear c94b0;try clear c95;try clear c95b0;try clear c96;try clear c96b0;try clear c97;try clear c97b0;try clear c98;try clear c98b0;try clear c99;try clear c99b0;try clear p100;try clear q100;try clear hx100;try clear c101;try clear c101b0;try clear p102;try clear q102;try clear hx102;try clear c103;try clear c103b0;try clear c103b1;try clear c103b2;try clear c114;try clear c115;try clear c128;try clear c133;try clear c133b0;try clear c133b1;try clear c133b2;try clear c135;try clear c136;try clear c136b0;try clear c136b1;try clear c136b2;try clear c137;try clear c137b0;try clear c137b1;try clear c138;try clear c138b0;try clear c138b1;try clear c139;try clear c139b0;try clear c139b1;try clear c139b2;try clear c140;try clear c140b0;try clear c140b1;try clear c141;try clear c141b0;try clear c141b1;try clear c141b2;try clear c142;try clear c142b0;try clear c142b1;try clear c143;try clear c143b0;try clear c143b1;try clear c143b2;try clear c146;try clear c148;try clear c150;try clear c150b0;try clear c150b1;try clear c151;try clear c151b0;try clear hcz116_0;try clear hcz118_0;try clear hcz120_0;try clear hcz122_0;try clear hcz124_0;try clear hcz126_0;try clear hcz129_0;try clear hcz131_0;try clear hcz69_0;try clear hfz116_0;try clear hfz118_0;try clear hfz120_0;try clear hfz122_0;try clear hfz124_0;try clear hfz126_0;try clear hfz129_0;try clear hfz131_0;try clear hfz69_0;try clear hx257_0;try clear hx259_0;try clear hx85_0;try clear p1;try clear p10;try clear p100;try clear p102;try clear p2;try clear p25;try clear p257;try clear p259;try clear p6;try clear p64;try clear p7;try clear p75;try clear p79;try clear p8;try clear p81;try clear p85;try clear q1;try clear q10;try clear q100;try clear q102;try clear q2;try clear q25;try clear q257;try clear q259;try clear q7;try clear q75;try clear q79;try clear q8;try clear q81;try clear q85
               obtain ⟨kq, x349_148, rfl, HA, HJ148, HO_33, BK232, BK233, BK234, HB⟩ := hcut
               cases kq with
               | zero => exact absurd HA.out (by simp [laws_FnLampsTickOfAll.j9])
               | succ kj148 =>
                have H := HA.out
                clear HA
                simp only [laws_FnLampsTickOfAll.j9] at H
                by_cases c153 : x349_148 = true
                ·subst c153
                 have H1 : (none) = some r := by rw [if_pos rfl] at H; exact H
                 clear H
                 have H := H1
                 clear H1
                 exact absurd H (by simp)
                ·replace c153 := Bool.eq_false_iff.mpr c153
                 subst c153
                 have H1 : (laws_FnLampsTickOfAll.l3 kj148 a4 a6 a7 t260 t268 t269 t278 t279 t260 (t260.length : Int) 0 l3_0 l5_0) = some r := by rw [if_neg (show ¬ (false = true) by decide)] at H; exact H
                 clear H
                 have H := H1
                 clear H1
                 have H' := aM H
                 clear H
                 obtain ⟨Ao154, co154, eo154⟩ := Kd.R_slice HO_33.out
                 subst eo154
                 go_wp2
                 go_loopg [352] kj148 (fun kq v352 w' => ∃ (x352_6 : Int), v352 = .int .i64 x352_6 ∧ Aside0 (laws_FnLampsTickOfAll.l3 kq a4 a6 a7 t260 t268 t269 t278 t279 t260 (t260.length : Int) x352_6 l3_0 l5_0 = some r) ∧ Aside0 (kq ≤ kj148) ∧ Aside0 (Kd.R Kd.string 9 w' w.heap.size (fun _ => True) (.slice Ao154 t260.length co154) t260) ∧ Aside0 (Kd.R Kd.string 9 w' w.heap.size (fun _ => True) (.slice Ao154 t260.length co154) t260) ∧ Aside0 (w'.heap[gb232]? = some (.cells #[(.slice A0_0 l0_0.length c0_0)] 29 (0, 0))) ∧ Aside0 (w'.heap[gb233]? = some (.cells #[(.slice A3_0 l3_0.length c3_0)] 29 (0, 0))) ∧ Aside0 (w'.heap[gb234]? = some (.cells #[(.slice A5_0 l5_0.length c5_0)] 29 (0, 0))) ∧ Aside0 (Below w.heap.size w w'))
                 case atStart => exact ⟨(0), (by first | rfl | (simp; done) | (simp [*]; done)), H', ⟨Nat.le_refl _⟩, ⟨by (with_reducible repeat (first | apply Kd.R_alloc | apply Kd.R_drewN | apply Kd.R_drew)); exact HO_33.out⟩, ⟨by (with_reducible repeat (first | apply Kd.R_alloc | apply Kd.R_drewN | apply Kd.R_drew)); exact HO_33.out⟩, ⟨by (with_reducible repeat (first | refine blk_drewN ?_ _ | refine blk_drew ?_ | refine blk_alloc ?_ _)); exact BK232.out⟩, ⟨by (with_reducible repeat (first | refine blk_drewN ?_ _ | refine blk_drew ?_ | refine blk_alloc ?_ _)); exact BK233.out⟩, ⟨by (with_reducible repeat (first | refine blk_drewN ?_ _ | refine blk_drew ?_ | refine blk_alloc ?_ _)); exact BK234.out⟩, ⟨by repeat (first | (with_reducible first | exact HB.out | apply aL | apply dN | apply dR | refine sT ?_ GE232.out | refine sT ?_ GE233.out | refine sT ?_ GE234.out) | exact HB.out)⟩⟩
                 case round => as_aux_lemma =>
                  clear H'
                  try clear c1;try clear p1;try clear q1;try clear hx1;try clear c2;try clear p2;try clear q2;try clear hx2;try clear c3;try clear c4;try clear c5;try clear c6;try clear p6;try clear c7;try clear p7;try clear q7;try clear hx7;try clear c8;try clear p8;try clear q8;try clear hx8;try clear hf8;try clear c9;try clear c10;try clear p10;try clear q10;try clear hx10;try clear c11;try clear c12;try clear c13;try clear c14;try clear c15;try clear p25;try clear q25;try clear hx25;try clear c29;try clear c30;try clear c31;try clear c32;try clear c33;try clear c34;try clear c35;try clear c36;try clear c37;try clear c38;try clear c39;try clear c40;try clear c53;try clear c55;try clear c56;try clear c56b0;try clear c56b1;try clear c56b2;try clear c59;try clear c59b0;try clear c60;try clear c60b0;try clear c60b1;try clear c61;try clear c61b0;try clear c61b1;try clear c64;try clear c64b0;try clear p64;try clear c67;try clear c68;try clear c71;try clear c72;try clear c73;try clear c73b0;try clear c74;try clear c74b0;try clear p75;try clear q75;try clear hx75;try clear c76;try clear c76b0;try clear c77;try clear c77b0;try clear c78;try clear c78b0;try clear p79;try clear q79;try clear hx79;try clear c80;try clear c80b0;try clear p81;try clear q81;try clear hx81;try clear c82;try clear c82b0;try clear c82b1;try clear c84;try clear c84b0;try clear p85;try clear q85;try clear hx85;try clear hf85;try clear c90;try clear c90b0;try clear c90b1;try clear c92;try clear c94;try clear c94b0;try clear c95;try clear c95b0;try clear c96;try clear c96b0;try clear c97;try clear c97b0;try clear c98;try clear c98b0;try clear c99;try clear c99b0;try clear p100;try clear q100;try clear hx100;try clear c101;try clear c101b0;try clear p102;try clear q102;try clear hx102;try clear c103;try clear c103b0;try clear c103b1;try clear c103b2;try clear c114;try clear c115;try clear c128;try clear c133;try clear c133b0;try clear c133b1;try clear c133b2;try clear c135;try clear c136;try clear c136b0;try clear c136b1;try clear c136b2;try clear c137;try clear c137b0;try clear c137b1;try clear c138;try clear c138b0;try clear c138b1;try clear c139;try clear c139b0;try clear c139b1;try clear c139b2;try clear c140;try clear c140b0;try clear c140b1;try clear c141;try clear c141b0;try clear c141b1;try clear c141b2;try clear c142;try clear c142b0;try clear c142b1;try clear c143;try clear c143b0;try clear c143b1;try clear c143b2;try clear c146;try clear c148;try clear c150;try clear c150b0;try clear c150b1;try clear c151;try clear c151b0;try clear c153;try clear hcz116_0;try clear hcz118_0;try clear hcz120_0;try clear hcz122_0;try clear hcz124_0;try clear hcz126_0;try clear hcz129_0;try clear hcz131_0;try clear hcz69_0;try clear hfz116_0;try clear hfz118_0;try clear hfz120_0;try clear hfz122_0;try clear hfz124_0;try clear hfz126_0;try clear hfz129_0;try clear hfz131_0;try clear hfz69_0;try clear hx257_0;try clear hx259_0;try clear hx85_0;try clear p1;try clear p10;try clear p100;try clear p102;try clear p2;try clear p25;try clear p257;try clear p259;try clear p6;try clear p64;try clear p7;try clear p75;try clear p79;try clear p8;try clear p81;try clear p85;try clear q1;try clear q10;try clear q100;try clear q102;try clear q2;try clear q25;try clear q257;try clear q259;try clear q7;try clear q75;try clear q79;try clear q8;try clear q81;try clear q85
                  obtain ⟨x352_6, rfl, HA, HK6, HO_33, HO_350, BK232, BK233, BK234, HB⟩ := hrel
                  cases gk with
                  | zero => exact absurd HA.out (by simp [laws_FnLampsTickOfAll.l3])
                  | succ k6 =>
                   have H := HA.out
                   clear HA
                   simp only [laws_FnLampsTickOfAll.l3] at H
                   by_cases c155 : x352_6 < (t260.length : Int)
                   ·rw [if_pos c155] at H
                    have c155b0 : decide (x352_6 < (t260.length : Int)) = true := decide_eq_true c155
                    try (have c155l := c155b0; simp only [hl21_56] at c155l)
                    clear c155
                    by_cases c156 : 0 ≤ x352_6
                    ·rw [if_pos c156] at H
                     have c156b0 : decide (0 ≤ x352_6) = true := decide_eq_true c156
                     clear c156
                     by_cases c157 : x352_6 < (t260.length : Int)
                     ·rw [if_pos c157] at H
                      have c157b0 : decide (x352_6 < (t260.length : Int)) = true := decide_eq_true c157
                      try (have c157l := c157b0; simp only [hl21_56] at c157l)
                      clear c157
                      replace H := Option.bind_eq_some_iff.mp H
                      obtain ⟨⟨t284, t285⟩, A1580, H⟩ := H
                      replace H : (if t285 = true then (if t269 = 0 then (none) else (if 0 ≤ (Int.tmod (wrap64 (x352_6 + 1)) t269) then (if (Int.tmod (wrap64 (x352_6 + 1)) t269) < (t260.length : Int) then (if t284.toList = (rdOf ByteArray.empty t260 (Int.tmod (wrap64 (x352_6 + 1)) t269)).toList then (if 0 < (t260.length : Int) then (if (Op.bytesLess ((rdOf ByteArray.empty t260 x352_6).toList) ((rdOf ByteArray.empty t260 0).toList)) = true then (none) else (laws_FnLampsTickOfAll.l3 k6 a4 a6 a7 t260 t268 t269 t278 t279 t260 (t260.length : Int) (wrap64 (x352_6 + 1)) l3_0 l5_0)) else (none)) else (none)) else (none)) else (none))) else (none)) = some r := H
                      have A158 := aM A1580
                      clear A1580
                      by_cases c159 : t285 = true
                      ·subst c159
                       have H1 : (if t269 = 0 then (none) else (if 0 ≤ (Int.tmod (wrap64 (x352_6 + 1)) t269) then (if (Int.tmod (wrap64 (x352_6 + 1)) t269) < (t260.length : Int) then (if t284.toList = (rdOf ByteArray.empty t260 (Int.tmod (wrap64 (x352_6 + 1)) t269)).toList then (if 0 < (t260.length : Int) then (if (Op.bytesLess ((rdOf ByteArray.empty t260 x352_6).toList) ((rdOf ByteArray.empty t260 0).toList)) = true then (none) else (laws_FnLampsTickOfAll.l3 k6 a4 a6 a7 t260 t268 t269 t278 t279 t260 (t260.length : Int) (wrap64 (x352_6 + 1)) l3_0 l5_0)) else (none)) else (none)) else (none)) else (none))) = some r := by rw [if_pos rfl] at H; exact H
                       clear H
                       have H := H1
                       clear H1
                       by_cases c160 : t269 = 0
                       ·rw [if_pos c160] at H
                        exact absurd H (by simp)
                       ·rw [if_neg c160] at H
                        have c160b0 : (t269 == 0) = false := beq_eq_false_iff_ne.mpr c160
                        have c160b1 : (t269 != 0) = true := bne_iff_ne.mpr c160
                        obtain ⟨ji161, hji161⟩ : ∃ j_ : Int, (Int.tmod (wrap64 (x352_6 + 1)) t269) = j_ := ⟨_, rfl⟩
                        replace H : (if 0 ≤ (ji161) then (if (ji161) < (t260.length : Int) then (if t284.toList = (rdOf ByteArray.empty t260 (ji161)).toList then (if 0 < (t260.length : Int) then (if (Op.bytesLess ((rdOf ByteArray.empty t260 x352_6).toList) ((rdOf ByteArray.empty t260 0).toList)) = true then (none) else (laws_FnLampsTickOfAll.l3 k6 a4 a6 a7 t260 t268 t269 t278 t279 t260 (t260.length : Int) (wrap64 (x352_6 + 1)) l3_0 l5_0)) else (none)) else (none)) else (none)) else (none)) = some r := by first | (rw [hji161] at H; exact H) | (simp only [hji161] at H ⊢; exact H)
                        (try rw [hji161] at A158)
                        by_cases c162 : 0 ≤ (ji161)
                        ·rw [if_pos c162] at H
                         have c162b0 : decide (0 ≤ (ji161)) = true := decide_eq_true c162
                         clear c162
                         by_cases c163 : (ji161) < (t260.length : Int)
                         ·rw [if_pos c163] at H
                          have c163b0 : decide ((ji161) < (t260.length : Int)) = true := decide_eq_true c163
                          try (have c163l := c163b0; simp only [hl21_56] at c163l)
                          clear c163
                          by_cases c164 : t284.toList = (rdOf ByteArray.empty t260 (ji161)).toList
                          ·rw [if_pos c164] at H
                           have c164b0 : (t284.toList == (rdOf ByteArray.empty t260 (ji161)).toList) = true := beq_iff_eq.mpr c164
                           have c164b1 : (t284.toList != (rdOf ByteArray.empty t260 (ji161)).toList) = false := bne_eq_false_iff_eq.mpr c164
                           clear c164
                           by_cases c165 : 0 < (t260.length : Int)
                           ·rw [if_pos c165] at H
                            have c165b0 : decide (0 < (t260.length : Int)) = true := decide_eq_true c165
                            try (have c165l := c165b0; simp only [hl21_56] at c165l)
                            have c165b1 : decide (0 < t260.length) = true := decide_eq_true (by omega)
                            clear c165
                            by_cases c166 : (Op.bytesLess ((rdOf ByteArray.empty t260 x352_6).toList) ((rdOf ByteArray.empty t260 0).toList)) = true
                            ·rw [if_pos c166] at H
                             exact absurd H (by simp)
                            ·rw [if_neg c166] at H
                             have c166b0 : (Op.bytesLess ((rdOf ByteArray.empty t260 x352_6).toList) ((rdOf ByteArray.empty t260 0).toList)) = false := by simpa using c166
                             clear c166
                             have H' := aM H
                             clear H
                             have p283 : 0 ≤ (x352_6 : Int) := of_decide_eq_true (by first | (with_reducible assumption) | assumption)
                             have q283 : x352_6 < (t260.length : Int) := of_decide_eq_true (by first | (with_reducible assumption) | assumption)
                             obtain ⟨ad283, e283, hx283_0⟩ := Kd.at_string (Kd.R_reads' HO_350.out).2.2 x352_6 p283 q283
                             cases e283
                             replace p283 := eq_true p283
                             replace q283 := eq_true q283
                             have hnb167 := NB233_232.out
                             have hnc167 := NB232_233.out
                             have hnb168 := NB233_234.out
                             have hnc168 := NB234_233.out
                             have hcz169_0 : wr.cell? ⟨gb233, 0, none⟩ = some (.slice A3_0 l3_0.length c3_0) := (blk_cell BK233.out 0).trans rfl
                             have hfz169_0 := blk_frozen BK233.out 0
                             go_wp2_with (first | ((with_reducible refine gate_callee (f := 32) rfl ?_); refine goesL_ (some 360) rfl rfl Tryd.func32 (by kernel_rfl) rfl #[.agg #[.slice A3_0 l3_0.length c3_0], .string (rdOf ByteArray.empty t260 x352_6)] rfl (by (try simp only [List.map_toArray, List.map_cons, List.map_nil]); first | done | rfl | (simp only [List.length_drop, List.length_take]; rfl)) ?_; (with_reducible refine (impl_TickOnce.calls _ _ l3_0 (rdOf ByteArray.empty t260 x352_6) t284 true _ ?side1 ?side2 A158.out).mono ?_); (case side1 => exact cU (Kd.C_below HR3_0.out HB.out)); (case side2 => exact HC3_0.out); rintro e w170 ⟨rfl, hb⟩; refine ⟨_, rfl, ?_⟩; have n0_ := aM (Kd.R_below (rU HO_33.out) hb); have n1_ := aM (Kd.R_below (rU HO_350.out) hb); have n2_ := aM (blk_below (g := gb232) (o := .cells #[.slice A0_0 l0_0.length c0_0] 29 (0, 0)) (bU BK232.out) hb); have n3_ := aM (blk_below (g := gb233) (o := .cells #[.slice A3_0 l3_0.length c3_0] 29 (0, 0)) (bU BK233.out) hb); have n4_ := aM (blk_below (g := gb234) (o := .cells #[.slice A5_0 l5_0.length c5_0] 29 (0, 0)) (bU BK234.out) hb); have n5_ := aM (below_step (by repeat (first | (with_reducible first | exact HB.out | apply aL | apply dN | apply dR | refine sT ?_ GE232.out | refine sT ?_ GE233.out | refine sT ?_ GE234.out) | exact HB.out)) hb); clear HO_33; clear HO_350; clear BK232; clear BK233; clear BK234; clear HB; have HO_33 := n0_; have HO_350 := n1_; have BK232 := n2_; have BK233 := n3_; have BK234 := n4_; have HB := n5_; clear n0_ n1_ n2_ n3_ n4_ n5_; (try clear hb); (try clear hb2); (try clear hk); (try clear hi); have p286 : 0 ≤ ((ji161) : Int) := of_decide_eq_true (by first | (with_reducible assumption) | assumption); have q286 : (ji161) < (t260.length : Int) := of_decide_eq_true (by first | (with_reducible assumption) | assumption); obtain ⟨ad286, e286, hx286_0⟩ := Kd.at_string (Kd.R_reads' HO_33.out).2.2 (ji161) p286 q286; obtain rfl : ad283 = ad286 := (by injection e286); replace p286 := eq_true p286; replace q286 := eq_true q286; have p287 : 0 ≤ (0 : Int) := (by omega); have q287 : 0 < (t260.length : Int) := of_decide_eq_true (by first | (with_reducible assumption) | assumption); obtain ⟨ad287, e287, hx287_0⟩ := Kd.at_string (Kd.R_reads' HO_33.out).2.2 0 p287 q287; obtain rfl : ad283 = ad287 := (by injection e287); have qi287 : (0 < t260.length) = True := eq_true (by omega); (try rw [show ((0 : Int)).toNat = 0 from rfl] at hx287_0); (try rw [Addr.add_zero'] at hx287_0); replace p287 := eq_true p287; replace q287 := eq_true q287))
                             go_roundg k6
                             case measure => have := HJ8.out; have := HJ19.out; have := HJ53.out; have := HJ112.out; have := HJ148.out; have := HK6.out; omega
                             case rel => exact ⟨(wrap64 (x352_6 + 1)), (by first | rfl | (simp; done) | (simp [*]; done)), H', ⟨by have := HJ8.out; have := HJ19.out; have := HJ53.out; have := HJ112.out; have := HJ148.out; have := HK6.out; omega⟩, ⟨by (with_reducible repeat (first | apply Kd.R_alloc | apply Kd.R_drewN | apply Kd.R_drew)); exact HO_33.out⟩, ⟨by (with_reducible repeat (first | apply Kd.R_alloc | apply Kd.R_drewN | apply Kd.R_drew)); exact HO_350.out⟩, ⟨by (with_reducible repeat (first | refine blk_drewN ?_ _ | refine blk_drew ?_ | refine blk_alloc ?_ _)); exact BK232.out⟩, ⟨by (with_reducible repeat (first | refine blk_drewN ?_ _ | refine blk_drew ?_ | refine blk_alloc ?_ _)); exact BK233.out⟩, ⟨by (with_reducible repeat (first | refine blk_drewN ?_ _ | refine blk_drew ?_ | refine blk_alloc ?_ _)); exact BK234.out⟩, ⟨by repeat (first | (with_reducible first | exact HB.out | apply aL | apply dN | apply dR | refine sT ?_ GE232.out | refine sT ?_ GE233.out | refine sT ?_ GE234.out) | exact HB.out)⟩⟩
                           ·rw [if_neg c165] at H
                            exact absurd H (by simp)
                          ·rw [if_neg c164] at H
                           exact absurd H (by simp)
                         ·rw [if_neg c163] at H
                          exact absurd H (by simp)
                        ·rw [if_neg c162] at H
                         exact absurd H (by simp)
                      ·replace c159 := Bool.eq_false_iff.mpr c159
                       subst c159
                       have H1 : (none) = some r := by rw [if_neg (show ¬ (false = true) by decide)] at H; exact H
                       clear H
                       have H := H1
                       clear H1
                       exact absurd H (by simp)
                     ·rw [if_neg c157] at H
                      exact absurd H (by simp)
                    ·rw [if_neg c156] at H
                     exact absurd H (by simp)
                   ·rw [if_neg c155] at H
                    have c155b0 : decide (x352_6 < (t260.length : Int)) = false := decide_eq_false c155
                    try (have c155l := c155b0; simp only [hl21_56] at c155l)
                    clear c155
                    replace H := Option.bind_eq_some_iff.mp H
                    obtain ⟨⟨t288, t289⟩, A1710, H⟩ := H
                    replace H : (if t289 = true then ((laws_xText.f k6 t260 t288).bind fun t290 => (laws_FnLampsTickOfAll.j11 k6 a4 a6 a7 t260 t268 t278 t279 (!t290) l3_0 l5_0)) else (none)) = some r := H
                    have A171 := aM A1710
                    clear A1710
                    have HC172 := aM H
                    clear H
                    have hnb173 := NB233_232.out
                    have hnc173 := NB232_233.out
                    have hnb174 := NB233_234.out
                    have hnc174 := NB234_233.out
                    have hcz175_0 : wr.cell? ⟨gb233, 0, none⟩ = some (.slice A3_0 l3_0.length c3_0) := (blk_cell BK233.out 0).trans rfl
                    have hfz175_0 := blk_frozen BK233.out 0
                    go_upto_region 56 with (first | ((with_reducible refine gate_callee (f := 25) rfl ?_); refine goesL_ (some 388) rfl rfl Tryd.func25 (by kernel_rfl) rfl #[.agg #[.slice A3_0 l3_0.length c3_0], .string a4, .int .i64 t268] rfl (by (try simp only [List.map_toArray, List.map_cons, List.map_nil]); first | done | rfl | (simp only [List.length_drop, List.length_take]; rfl)) ?_; (with_reducible refine (impl_TicksAfter.calls k6 _ _ l3_0 a4 t268 t288 t289 _ ?side1 ?side2 A171.out).mono ?_); (case side1 => exact cU (Kd.C_below HR3_0.out HB.out)); (case side2 => exact HC3_0.out); rintro e w176 ⟨rfl, hb⟩; refine ⟨_, rfl, ?_⟩; have n0_ := aM (Kd.R_below (rU HO_33.out) hb); have n1_ := aM (Kd.R_below (rU HO_350.out) hb); have n2_ := aM (blk_below (g := gb232) (o := .cells #[.slice A0_0 l0_0.length c0_0] 29 (0, 0)) (bU BK232.out) hb); have n3_ := aM (blk_below (g := gb233) (o := .cells #[.slice A3_0 l3_0.length c3_0] 29 (0, 0)) (bU BK233.out) hb); have n4_ := aM (blk_below (g := gb234) (o := .cells #[.slice A5_0 l5_0.length c5_0] 29 (0, 0)) (bU BK234.out) hb); have n5_ := aM (below_step (by repeat (first | (with_reducible first | exact HB.out | apply aL | apply dN | apply dR | refine sT ?_ GE232.out | refine sT ?_ GE233.out | refine sT ?_ GE234.out) | exact HB.out)) hb); clear HO_33; clear HO_350; clear BK232; clear BK233; clear BK234; clear HB; have HO_33 := n0_; have HO_350 := n1_; have BK232 := n2_; have BK233 := n3_; have BK234 := n4_; have HB := n5_; clear n0_ n1_ n2_ n3_ n4_ n5_; (try clear hb); (try clear hb2); (try clear hk); (try clear hi)))
                    (try simp only [Act.put, List.setIfInBounds_toArray, List.set_cons_zero, List.set_cons_succ])
                    go_cut [398] from 350 to 398 (fun v398 wc => ∃ (kq : Nat) (x398_171 : Bool), v398 = .bool x398_171 ∧ Aside0 (laws_FnLampsTickOfAll.j11 kq a4 a6 a7 t260 t268 t278 t279 x398_171 l3_0 l5_0 = some r) ∧ Aside0 (kq ≤ k6) ∧ Aside0 (Kd.R Kd.string 9 wc w.heap.size (fun _ => True) (.slice Ao154 t260.length co154) t260) ∧ Aside0 (wc.heap[gb232]? = some (.cells #[(.slice A0_0 l0_0.length c0_0)] 29 (0, 0))) ∧ Aside0 (wc.heap[gb233]? = some (.cells #[(.slice A3_0 l3_0.length c3_0)] 29 (0, 0))) ∧ Aside0 (wc.heap[gb234]? = some (.cells #[(.slice A5_0 l5_0.length c5_0)] 29 (0, 0))) ∧ Aside0 (Below w.heap.size w wc))
                    case first => as_aux_lemma =>
                     have H := HC172.out
                     clear HC172
                     by_cases c177 : t289 = true
                     ·subst c177
                      have H1 : ((laws_xText.f k6 t260 t288).bind fun t290 => (laws_FnLampsTickOfAll.j11 k6 a4 a6 a7 t260 t268 t278 t279 (!t290) l3_0 l5_0)) = some r := by rw [if_pos rfl] at H; exact H
                      clear H
                      have H := H1
                      clear H1
                      replace H := Option.bind_eq_some_iff.mp H
                      obtain ⟨t290, A1780, H⟩ := H
                      replace H : (laws_FnLampsTickOfAll.j11 k6 a4 a6 a7 t260 t268 t278 t279 (!t290) l3_0 l5_0) = some r := H
                      have A178 := aM A1780
                      clear A1780
                      have H' := aM H
                      clear H
                      go_wp2_with (first | (go_at_call 41; (with_reducible refine (laws_xText.calls k6 _ _ t260 t288 t290 _ ?side1 ?side2 A178.out).mono ?_); (case side1 => exact cU (Kd.R_reads' HO_33.out).2.2); (case side2 => exact (Kd.R_reads' HO_33.out).2.1); rintro e w' ⟨rfl, ⟨nd, rfl⟩⟩))
                      go_meet
                      case rel => exact ⟨_, (!t290), (by first | rfl | (simp; done) | (simp [*]; done)), H', ⟨by have := HJ8.out; have := HJ19.out; have := HJ53.out; have := HJ112.out; have := HJ148.out; have := HK6.out; first | omega | exact Nat.le_refl _⟩, ⟨by (with_reducible repeat (first | apply Kd.R_alloc | apply Kd.R_drewN | apply Kd.R_drew)); exact HO_33.out⟩, ⟨by (with_reducible repeat (first | refine blk_drewN ?_ _ | refine blk_drew ?_ | refine blk_alloc ?_ _)); exact BK232.out⟩, ⟨by (with_reducible repeat (first | refine blk_drewN ?_ _ | refine blk_drew ?_ | refine blk_alloc ?_ _)); exact BK233.out⟩, ⟨by (with_reducible repeat (first | refine blk_drewN ?_ _ | refine blk_drew ?_ | refine blk_alloc ?_ _)); exact BK234.out⟩, ⟨by repeat (first | (with_reducible first | exact HB.out | apply aL | apply dN | apply dR | refine sT ?_ GE232.out | refine sT ?_ GE233.out | refine sT ?_ GE234.out) | exact HB.out)⟩⟩
                     ·replace c177 := Bool.eq_false_iff.mpr c177
                      subst c177
                      have H1 : (none) = some r := by rw [if_neg (show ¬ (false = true) by decide)] at H; exact H
                      clear H
                      have H := H1
                      clear H1
                      exact absurd H (by simp)
                    case rest => as_aux_lemma =>
                     clear HC172
                     try clear c1;try clear p1;try clear q1;try clear hx1;try clear c2;try clear p2;try clear q2;try clear hx2;try clear qi2;try clear c3;try clear c4;try clear c5;try clear c6;try clear p6;try clear c7;try clear p7;try clear q7;try clear hx7;try clear c8;try clear p8;try clear q8;try clear hx8;try clear hf8;try clear c9;try clear c10;try clear p10;try clear q10;try clear hx10;try clear c11;try clear c12;try clear c13;try clear c14;try clear c15;try clear c16;try clear c17;try clear c25;try clear p25;try clear q25;try clear hx25;try clear p28;try clear q28;try clear hx28;try clear qi28;try clear c29;try clear c30;try clear c31;try clear c32;try clear c33;try clear c34;try clear c35;try clear c36;try clear c37;try clear c38;try clear c39;try clear c40;try clear c53;try clear c55;try clear c56;try clear c56b0;try clear c56b1;try clear c56b2;try clear c59;try clear c59b0;try clear c60;try clear c60b0;try clear c60b1;try clear c61;try clear c61b0;try clear c61b1;try clear c64;try clear c64b0;try clear p64;try clear c67;try clear c68;try clear c71;try clear c72;try clear c73;try clear c73b0;try clear c74;try clear c74b0;try clear p75;try clear q75;try clear hx75;try clear c76;try clear c76b0;try clear c77;try clear c77b0;try clear c78;try clear c78b0;try clear p79;try clear q79;try clear hx79;try clear c80;try clear c80b0;try clear p81;try clear q81;try clear hx81;try clear c82;try clear c82b0;try clear c82b1;try clear c84;try clear c84b0;try clear p85;try clear q85;try clear hx85;try clear hf85;try clear c90;try clear c90b0;try clear c90b1;try clear c92;try clear c94;try clear c94b0;try clear c95;try clear c95b0;try clear c96;try clear c96b0;try clear c97;try clear c97b0;try clear c98;try clear c98b0;try clear c99;try clear c99b0;try clear p100;try clear q100;try clear hx100;try clear c101;try clear c101b0;try clear p102;try clear q102;try clear hx102;try clear c103;try clear c103b0;try clear c103b1;try clear c103b2;try clear c114;try clear c115;try clear c128;try clear c133;try clear c133b0;try clear c133b1;try clear c133b2;try clear c135;try clear c136;try clear c136b0;try clear c136b1;try clear c136b2;try clear c137;try clear c137b0;try clear c137b1;try clear c138;try clear c138b0;try clear c138b1;try clear c139;try clear c139b0;try clear c139b1;try clear c139b2;try clear c140;try clear c140b0;try clear c140b1;try clear c141;try clear c141b0;try clear c141b1;try clear c141b2;try clear c142;try clear c142b0;try clear c142b1;try clear c143;try clear c143b0;try clear c143b1;try clear c143b2;try clear c146;try clear c148;try clear c150;try clear c150b0;try clear c150b1;try clear c151;try clear c151b0;try clear c153;try clear c155;try clear c155b0;try clear c156;try clear c156b0;try clear c157;try clear c157b0;try clear c159;try clear c160;try clear c160b0;try clear c160b1;try clear c162;try clear c162b0;try clear c163;try clear c163b0;try clear c164;try clear c164b0;try clear c164b1;try clear c165;try clear c165b0;try clear c165b1;try clear c166;try clear c166b0;try clear c167;try clear c168;try clear c173;try clear c174;try clear c177;try clear hcz116_0;try clear hcz118_0;try clear hcz120_0;try clear hcz122_0;try clear hcz124_0;try clear hcz126_0;try clear hcz129_0;try clear hcz131_0;try clear hcz169_0;try clear hcz175_0;try clear hcz69_0;try clear hfz116_0;try clear hfz118_0;try clear hfz120_0;try clear hfz122_0;try clear hfz124_0;try clear hfz126_0;try clear hfz129_0;try clear hfz131_0;try clear hfz169_0;try clear hfz175_0;try clear hfz69_0;try clear hx257_0;try clear hx259_0;try clear hx283_0;try clear hx286_0;try clear hx287_0;try clear hx85_0;try clear p1;try clear p10;try clear p100;try clear p102;try clear p2;try clear p25;try clear p257;try clear p259;try clear p283;try clear p286;try clear p287;try clear p6;try clear p64;try clear p7;try clear p75;try clear p79;try clear p8;try clear p81;try clear p85;try clear q1;try clear q10;try clear q100;try clear q102;try clear q2;try clear q25;try clear q257;try clear q259;try clear q283
                     try clear q286;try clear q287;try clear q7;try clear q75;try clear q79;try clear q8;try clear q81;try clear q85
                     obtain ⟨kq, x398_171, rfl, HA, HJ171, HO_33, BK232, BK233, BK234, HB⟩ := hcut
                     cases kq with
                     | zero => exact absurd HA.out (by simp [laws_FnLampsTickOfAll.j11])
                     | succ kj171 =>
                      have H := HA.out
                      clear HA
                      simp only [laws_FnLampsTickOfAll.j11] at H
                      by_cases c179 : x398_171 = true
                      ·subst c179
                       have H1 : (none) = some r := by rw [if_pos rfl] at H; exact H
                       clear H
                       have H := H1
                       clear H1
                       exact absurd H (by simp)
                      ·replace c179 := Bool.eq_false_iff.mpr c179
                       subst c179
                       have H1 : (if t268 > 0 then ((impl_TicksAfter.f kj171 l3_0 a4 (wrap64 (t268 - 1))).bind fun bt291 => (if bt291.2 = true then ((laws_xText.f kj171 t260 bt291.1).bind fun t293 => (if t293 = true then (none) else (laws_FnLampsTickOfAll.j12 kj171 a6 a7 t278 t279 l5_0))) else (none))) else (laws_FnLampsTickOfAll.j12 kj171 a6 a7 t278 t279 l5_0)) = some r := by rw [if_neg (show ¬ (false = true) by decide)] at H; exact H
                       clear H
                       have H := H1
                       clear H1
                       by_cases c180 : t268 > 0
                       ·rw [if_pos c180] at H
                        have c180b0 : decide (0 < t268) = true := decide_eq_true c180
                        clear c180
                        replace H := Option.bind_eq_some_iff.mp H
                        obtain ⟨⟨t291, t292⟩, A1810, H⟩ := H
                        replace H : (if t292 = true then ((laws_xText.f kj171 t260 t291).bind fun t293 => (if t293 = true then (none) else (laws_FnLampsTickOfAll.j12 kj171 a6 a7 t278 t279 l5_0))) else (none)) = some r := H
                        have A181 := aM A1810
                        clear A1810
                        by_cases c182 : t292 = true
                        ·subst c182
                         have H1 : ((laws_xText.f kj171 t260 t291).bind fun t293 => (if t293 = true then (none) else (laws_FnLampsTickOfAll.j12 kj171 a6 a7 t278 t279 l5_0))) = some r := by rw [if_pos rfl] at H; exact H
                         clear H
                         have H := H1
                         clear H1
                         replace H := Option.bind_eq_some_iff.mp H
                         obtain ⟨t293, A1830, H⟩ := H
                         replace H : (if t293 = true then (none) else (laws_FnLampsTickOfAll.j12 kj171 a6 a7 t278 t279 l5_0)) = some r := H
                         have A183 := aM A1830
                         clear A1830
                         by_cases c184 : t293 = true
                         ·subst c184
                          have H1 : (none) = some r := by rw [if_pos rfl] at H; exact H
                          clear H
                          have H := H1
                          clear H1
                          exact absurd H (by simp)
                         ·replace c184 := Bool.eq_false_iff.mpr c184
                          subst c184
                          have H1 : (laws_FnLampsTickOfAll.j12 kj171 a6 a7 t278 t279 l5_0) = some r := by rw [if_neg (show ¬ (false = true) by decide)] at H; exact H
                          clear H
                          have H := H1
                          clear H1
                          have H' := aM H
                          clear H
                          have hnb185 := NB233_232.out
                          have hnc185 := NB232_233.out
                          have hnb186 := NB233_234.out
                          have hnc186 := NB234_233.out
                          have hcz187_0 : wc.cell? ⟨gb233, 0, none⟩ = some (.slice A3_0 l3_0.length c3_0) := (blk_cell BK233.out 0).trans rfl
                          have hfz187_0 := blk_frozen BK233.out 0
                          go_wp2_with (first | ((with_reducible refine gate_callee (f := 25) rfl ?_); refine goesL_ (some 406) rfl rfl Tryd.func25 (by kernel_rfl) rfl #[.agg #[.slice A3_0 l3_0.length c3_0], .string a4, .int .i64 (wrap64 (t268 - 1))] rfl (by (try simp only [List.map_toArray, List.map_cons, List.map_nil]); first | done | rfl | (simp only [List.length_drop, List.length_take]; rfl)) ?_; (with_reducible refine (impl_TicksAfter.calls kj171 _ _ l3_0 a4 (wrap64 (t268 - 1)) t291 true _ ?side1 ?side2 A181.out).mono ?_); (case side1 => exact cU (Kd.C_below HR3_0.out HB.out)); (case side2 => exact HC3_0.out); rintro e w188 ⟨rfl, hb⟩; refine ⟨_, rfl, ?_⟩; have n0_ := aM (Kd.R_below (rU HO_33.out) hb); have n1_ := aM (blk_below (g := gb232) (o := .cells #[.slice A0_0 l0_0.length c0_0] 29 (0, 0)) (bU BK232.out) hb); have n2_ := aM (blk_below (g := gb233) (o := .cells #[.slice A3_0 l3_0.length c3_0] 29 (0, 0)) (bU BK233.out) hb); have n3_ := aM (blk_below (g := gb234) (o := .cells #[.slice A5_0 l5_0.length c5_0] 29 (0, 0)) (bU BK234.out) hb); have n4_ := aM (below_step (by repeat (first | (with_reducible first | exact HB.out | apply aL | apply dN | apply dR | refine sT ?_ GE232.out | refine sT ?_ GE233.out | refine sT ?_ GE234.out) | exact HB.out)) hb); clear HO_33; clear BK232; clear BK233; clear BK234; clear HB; have HO_33 := n0_; have BK232 := n1_; have BK233 := n2_; have BK234 := n3_; have HB := n4_; clear n0_ n1_ n2_ n3_ n4_; (try clear hb); (try clear hb2); (try clear hk); (try clear hi)) | (go_at_call 41; (with_reducible refine (laws_xText.calls kj171 _ _ t260 t291 false _ ?side1 ?side2 A183.out).mono ?_); (case side1 => exact cU (Kd.R_reads' HO_33.out).2.2); (case side2 => exact (Kd.R_reads' HO_33.out).2.1); rintro e w' ⟨rfl, ⟨nd, rfl⟩⟩))
                          go_meet
                          case rel => exact ⟨_, H', ⟨by have := HJ8.out; have := HJ19.out; have := HJ53.out; have := HJ112.out; have := HJ148.out; have := HK6.out; have := HJ171.out; first | omega | exact Nat.le_refl _⟩, ⟨by (with_reducible repeat (first | refine blk_drewN ?_ _ | refine blk_drew ?_ | refine blk_alloc ?_ _)); exact BK232.out⟩, ⟨by (with_reducible repeat (first | refine blk_drewN ?_ _ | refine blk_drew ?_ | refine blk_alloc ?_ _)); exact BK233.out⟩, ⟨by (with_reducible repeat (first | refine blk_drewN ?_ _ | refine blk_drew ?_ | refine blk_alloc ?_ _)); exact BK234.out⟩, ⟨by repeat (first | (with_reducible first | exact HB.out | apply aL | apply dN | apply dR | refine sT ?_ GE232.out | refine sT ?_ GE233.out | refine sT ?_ GE234.out) | exact HB.out)⟩⟩
                        ·replace c182 := Bool.eq_false_iff.mpr c182
                         subst c182
                         have H1 : (none) = some r := by rw [if_neg (show ¬ (false = true) by decide)] at H; exact H
                         clear H
                         have H := H1
                         clear H1
                         exact absurd H (by simp)
                       ·rw [if_neg c180] at H
                        have c180b0 : decide (0 < t268) = false := decide_eq_false c180
                        clear c180
                        have H' := aM H
                        clear H
                        go_wp2
                        go_meet
                        case rel => exact ⟨_, H', ⟨by have := HJ8.out; have := HJ19.out; have := HJ53.out; have := HJ112.out; have := HJ148.out; have := HK6.out; have := HJ171.out; first | omega | exact Nat.le_refl _⟩, ⟨by (with_reducible repeat (first | refine blk_drewN ?_ _ | refine blk_drew ?_ | refine blk_alloc ?_ _)); exact BK232.out⟩, ⟨by (with_reducible repeat (first | refine blk_drewN ?_ _ | refine blk_drew ?_ | refine blk_alloc ?_ _)); exact BK233.out⟩, ⟨by (with_reducible repeat (first | refine blk_drewN ?_ _ | refine blk_drew ?_ | refine blk_alloc ?_ _)); exact BK234.out⟩, ⟨by repeat (first | (with_reducible first | exact HB.out | apply aL | apply dN | apply dR | refine sT ?_ GE232.out | refine sT ?_ GE233.out | refine sT ?_ GE234.out) | exact HB.out)⟩⟩
             ·replace c148 := Bool.eq_false_iff.mpr c148
              subst c148
              have H1 : (laws_FnLampsTickOfAll.j12 kj112 a6 a7 t278 t279 l5_0) = some r := by rw [if_neg (show ¬ (false = true) by decide)] at H; exact H
              clear H
              have H := H1
              clear H1
              have H' := aM H
              clear H
              go_wp2
              go_meet
              case rel => exact ⟨_, H', ⟨by have := HJ8.out; have := HJ19.out; have := HJ53.out; have := HJ112.out; first | omega | exact Nat.le_refl _⟩, ⟨by (with_reducible repeat (first | refine blk_drewN ?_ _ | refine blk_drew ?_ | refine blk_alloc ?_ _)); exact BK232.out⟩, ⟨by (with_reducible repeat (first | refine blk_drewN ?_ _ | refine blk_drew ?_ | refine blk_alloc ?_ _)); exact BK233.out⟩, ⟨by (with_reducible repeat (first | refine blk_drewN ?_ _ | refine blk_drew ?_ | refine blk_alloc ?_ _)); exact BK234.out⟩, ⟨by repeat (first | (with_reducible first | exact HB.out | apply aL | apply dN | apply dR | refine sT ?_ GE232.out | refine sT ?_ GE233.out | refine sT ?_ GE234.out) | exact HB.out)⟩⟩
            case rest => as_aux_lemma =>
             clear HC147
             try clear c1;try clear p1;try clear q1;try clear hx1;try clear c2;try clear p2;try clear q2;try clear hx2;try clear qi2;try clear c3;try clear c4;try clear c5;try clear c6;try clear p6;try clear c7;try clear p7;try clear q7;try clear hx7;try clear c8;try clear p8;try clear q8;try clear hx8;try clear hf8;try clear c9;try clear c10;try clear p10;try clear q10;try clear hx10;try clear c11;try clear c12;try clear c13;try clear c14;try clear c15;try clear c16;try clear c17;try clear c18;try clear c25;try clear p25;try clear q25;try clear hx25;try clear p28;try clear q28;try clear hx28;try clear qi28;try clear c29;try clear c30;try clear c31;try clear c32;try clear c33;try clear c34;try clear c35;try clear c36;try clear c37;try clear c38;try clear c39;try clear c40;try clear c53;try clear c55;try clear c56;try clear c56b0;try clear c56b1;try clear c56b2;try clear c59;try clear c59b0;try clear c60;try clear c60b0;try clear c60b1;try clear c61;try clear c61b0;try clear c61b1;try clear c64;try clear c64b0;try clear p64;try clear c67;try clear c68;try clear c71;try clear c72;try clear c73;try clear c73b0;try clear c74;try clear c74b0;try clear p75;try clear q75;try clear hx75;try clear c76;try clear c76b0;try clear c77;try clear c77b0;try clear c78;try clear c78b0;try clear p79;try clear q79;try clear hx79;try clear c80;try clear c80b0;try clear p81;try clear q81;try clear hx81;try clear c82;try clear c82b0;try clear c82b1;try clear c84;try clear c84b0;try clear p85;try clear q85;try clear hx85;try clear hf85;try clear c90;try clear c90b0;try clear c90b1;try clear c92;try clear c94;try clear c94b0;try clear c95;try clear c95b0;try clear c96;try clear c96b0;try clear c97;try clear c97b0;try clear c98;try clear c98b0;try clear c99;try clear c99b0;try clear p100;try clear q100;try clear hx100;try clear c101;try clear c101b0;try clear p102;try clear q102;try clear hx102;try clear c103;try clear c103b0;try clear c103b1;try clear c103b2;try clear c114;try clear c115;try clear c128;try clear c133;try clear c133b0;try clear c133b1;try clear c133b2;try clear c135;try clear c136;try clear c136b0;try clear c136b1;try clear c136b2;try clear c137;try clear c137b0;try clear c137b1;try clear c138;try clear c138b0;try clear c138b1;try clear c139;try clear c139b0;try clear c139b1;try clear c139b2;try clear c140;try clear c140b0;try clear c140b1;try clear c141;try clear c141b0;try clear c141b1;try clear c141b2;try clear c142;try clear c142b0;try clear c142b1;try clear c143;try clear c143b0;try clear c143b1;try clear c143b2;try clear c146;try clear c148;try clear c150;try clear c150b0;try clear c150b1;try clear c151;try clear c151b0;try clear c153;try clear c155;try clear c155b0;try clear c156;try clear c156b0;try clear c157;try clear c157b0;try clear c159;try clear c160;try clear c160b0;try clear c160b1;try clear c162;try clear c162b0;try clear c163;try clear c163b0;try clear c164;try clear c164b0;try clear c164b1;try clear c165;try clear c165b0;try clear c165b1;try clear c166;try clear c166b0;try clear c167;try clear c168;try clear c173;try clear c174;try clear c177;try clear c179;try clear c180;try clear c180b0;try clear c182;try clear c184;try clear c185;try clear c186;try clear hcz116_0;try clear hcz118_0;try clear hcz120_0;try clear hcz122_0;try clear hcz124_0;try clear hcz126_0;try clear hcz129_0;try clear hcz131_0;try clear hcz169_0;try clear hcz175_0;try clear hcz187_0;try clear hcz69_0;try clear hfz116_0;try clear hfz118_0;try clear hfz120_0;try clear hfz122_0;try clear hfz124_0;try clear hfz126_0;try clear hfz129_0;try clear hfz131_0;try clear hfz169_0;try clear hfz175_0;try clear hfz187_0;try clear hfz69_0;try clear hx257_0;try clear hx259_0;try clear hx283_0;try clear hx286_0;try clear hx287_0;try clear hx85_0;try clear p1;try clear p10;try clear p100;try clear p102;try clear p2;try clear p25;try clear p257;try clear p259;try clear p28;try clear p283;try clear p286;try clear p287;try clear p6;try clear p64;try clear p7;try clear p75;try clear p79
             try clear p8;try clear p81;try clear p85;try clear q1;try clear q10;try clear q100;try clear q102;try clear q2;try clear q25;try clear q257;try clear q259;try clear q28;try clear q283;try clear q286;try clear q287;try clear q7;try clear q75;try clear q79;try clear q8;try clear q81;try clear q85
             obtain ⟨kq, HA, HJ146, BK232, BK233, BK234, HB⟩ := hcut
             cases kq with
             | zero => exact absurd HA.out (by simp [laws_FnLampsTickOfAll.j12])
             | succ kj146 =>
              have H := HA.out
              clear HA
              simp only [laws_FnLampsTickOfAll.j12] at H
              by_cases c189 : t279 = true
              ·subst c189
               have H1 : ((impl_TicksAfter.f kj146 l5_0 a6 t278).bind fun bt294 => (if bt294.2 = true then (if 0 ≤ a7 then (if a7 < (bt294.1.size : Int) then (if (bt bt294.1 a7) = 49 then (if t278 > 0 then ((impl_TicksAfter.f kj146 l5_0 a6 (wrap64 (t278 - 1))).bind fun bt296 => (if bt296.2 = true then (if a7 < (bt296.1.size : Int) then (if (bt bt296.1 a7) = 48 then (some true) else (none)) else (none)) else (none))) else (some true)) else (none)) else (none)) else (none)) else (none))) = some r := by rw [if_pos rfl] at H; exact H
               clear H
               have H := H1
               clear H1
               replace H := Option.bind_eq_some_iff.mp H
               obtain ⟨⟨t294, t295⟩, A1900, H⟩ := H
               replace H : (if t295 = true then (if 0 ≤ a7 then (if a7 < (t294.size : Int) then (if (bt t294 a7) = 49 then (if t278 > 0 then ((impl_TicksAfter.f kj146 l5_0 a6 (wrap64 (t278 - 1))).bind fun bt296 => (if bt296.2 = true then (if a7 < (bt296.1.size : Int) then (if (bt bt296.1 a7) = 48 then (some true) else (none)) else (none)) else (none))) else (some true)) else (none)) else (none)) else (none)) else (none)) = some r := H
               have A190 := aM A1900
               clear A1900
               by_cases c191 : t295 = true
               ·subst c191
                have H1 : (if 0 ≤ a7 then (if a7 < (t294.size : Int) then (if (bt t294 a7) = 49 then (if t278 > 0 then ((impl_TicksAfter.f kj146 l5_0 a6 (wrap64 (t278 - 1))).bind fun bt296 => (if bt296.2 = true then (if a7 < (bt296.1.size : Int) then (if (bt bt296.1 a7) = 48 then (some true) else (none)) else (none)) else (none))) else (some true)) else (none)) else (none)) else (none)) = some r := by rw [if_pos rfl] at H; exact H
                clear H
                have H := H1
                clear H1
                by_cases c192 : 0 ≤ a7
                ·rw [if_pos c192] at H
                 have c192b0 : decide (0 ≤ a7) = true := decide_eq_true c192
                 clear c192
                 by_cases c193 : a7 < (t294.size : Int)
                 ·rw [if_pos c193] at H
                  have c193b0 : decide (a7 < (t294.size : Int)) = true := decide_eq_true c193
                  clear c193
                  by_cases c195 : (bt t294 a7) = 49
                  ·rw [if_pos c195] at H
                   have c195b0 : ((bt t294 a7) == 49) = true := beq_iff_eq.mpr c195
                   have c195b1 : ((bt t294 a7) != 49) = false := bne_eq_false_iff_eq.mpr c195
                   clear c195
                   by_cases c196 : t278 > 0
                   ·rw [if_pos c196] at H
                    have c196b0 : decide (0 < t278) = true := decide_eq_true c196
                    clear c196
                    replace H := Option.bind_eq_some_iff.mp H
                    obtain ⟨⟨t296, t297⟩, A1970, H⟩ := H
                    replace H : (if t297 = true then (if a7 < (t296.size : Int) then (if (bt t296 a7) = 48 then (some true) else (none)) else (none)) else (none)) = some r := H
                    have A197 := aM A1970
                    clear A1970
                    by_cases c198 : t297 = true
                    ·subst c198
                     have H1 : (if a7 < (t296.size : Int) then (if (bt t296 a7) = 48 then (some true) else (none)) else (none)) = some r := by rw [if_pos rfl] at H; exact H
                     clear H
                     have H := H1
                     clear H1
                     by_cases c199 : a7 < (t296.size : Int)
                     ·rw [if_pos c199] at H
                      have c199b0 : decide (a7 < (t296.size : Int)) = true := decide_eq_true c199
                      clear c199
                      by_cases c201 : (bt t296 a7) = 48
                      ·rw [if_pos c201] at H
                       have c201b0 : ((bt t296 a7) == 48) = true := beq_iff_eq.mpr c201
                       have c201b1 : ((bt t296 a7) != 48) = false := bne_eq_false_iff_eq.mpr c201
                       clear c201
                       obtain rfl := Option.some.inj H
                       have hnb202 := NB234_232.out
                       have hnc202 := NB232_234.out
                       have hnb203 := NB234_233.out
                       have hnc203 := NB233_234.out
                       have hcz204_0 : wc.cell? ⟨gb234, 0, none⟩ = some (.slice A5_0 l5_0.length c5_0) := (blk_cell BK234.out 0).trans rfl
                       have hfz204_0 := blk_frozen BK234.out 0
                       go_wp2_with (first | ((with_reducible refine gate_callee (f := 25) rfl ?_); refine goesL_ (some 421) rfl rfl Tryd.func25 (by kernel_rfl) rfl #[.agg #[.slice A5_0 l5_0.length c5_0], .string a6, .int .i64 t278] rfl (by (try simp only [List.map_toArray, List.map_cons, List.map_nil]); first | done | rfl | (simp only [List.length_drop, List.length_take]; rfl)) ?_; (with_reducible refine (impl_TicksAfter.calls kj146 _ _ l5_0 a6 t278 t294 true _ ?side1 ?side2 A190.out).mono ?_); (case side1 => exact cU (Kd.C_below HR5_0.out HB.out)); (case side2 => exact HC5_0.out); rintro e w205 ⟨rfl, hb⟩; refine ⟨_, rfl, ?_⟩; have n0_ := aM (blk_below (g := gb232) (o := .cells #[.slice A0_0 l0_0.length c0_0] 29 (0, 0)) (bU BK232.out) hb); have n1_ := aM (blk_below (g := gb233) (o := .cells #[.slice A3_0 l3_0.length c3_0] 29 (0, 0)) (bU BK233.out) hb); have n2_ := aM (blk_below (g := gb234) (o := .cells #[.slice A5_0 l5_0.length c5_0] 29 (0, 0)) (bU BK234.out) hb); have n3_ := aM (below_step (by repeat (first | (with_reducible first | exact HB.out | apply aL | apply dN | apply dR | refine sT ?_ GE232.out | refine sT ?_ GE233.out | refine sT ?_ GE234.out) | exact HB.out)) hb); clear BK232; clear BK233; clear BK234; clear HB; have BK232 := n0_; have BK233 := n1_; have BK234 := n2_; have HB := n3_; clear n0_ n1_ n2_ n3_; (try clear hb); (try clear hb2); (try clear hk); (try clear hi); have p194 : 0 ≤ (a7 : Int) := of_decide_eq_true (by first | (with_reducible assumption) | assumption); have q194 : a7 < (t294.size : Int) := of_decide_eq_true (by first | (with_reducible assumption) | assumption); have hx194 := bt_at t294 a7; replace p194 := eq_true p194; replace q194 := eq_true q194; have hcz206_0 : w205.cell? ⟨gb234, 0, none⟩ = some (.slice A5_0 l5_0.length c5_0) := (blk_cell BK234.out 0).trans rfl; have hfz206_0 := blk_frozen BK234.out 0) | ((with_reducible refine gate_callee (f := 25) rfl ?_); refine goesL_ (some 439) rfl rfl Tryd.func25 (by kernel_rfl) rfl #[.agg #[.slice A5_0 l5_0.length c5_0], .string a6, .int .i64 (wrap64 (t278 - 1))] rfl (by (try simp only [List.map_toArray, List.map_cons, List.map_nil]); first | done | rfl | (simp only [List.length_drop, List.length_take]; rfl)) ?_; (with_reducible refine (impl_TicksAfter.calls kj146 _ _ l5_0 a6 (wrap64 (t278 - 1)) t296 true _ ?side1 ?side2 A197.out).mono ?_); (case side1 => exact cU (Kd.C_below HR5_0.out HB.out)); (case side2 => exact HC5_0.out); rintro e w207 ⟨rfl, hb⟩; refine ⟨_, rfl, ?_⟩; have n0_ := aM (blk_below (g := gb232) (o := .cells #[.slice A0_0 l0_0.length c0_0] 29 (0, 0)) (bU BK232.out) hb); have n1_ := aM (blk_below (g := gb233) (o := .cells #[.slice A3_0 l3_0.length c3_0] 29 (0, 0)) (bU BK233.out) hb); have n2_ := aM (blk_below (g := gb234) (o := .cells #[.slice A5_0 l5_0.length c5_0] 29 (0, 0)) (bU BK234.out) hb); have n3_ := aM (below_step (by repeat (first | (with_reducible first | exact HB.out | apply aL | apply dN | apply dR | refine sT ?_ GE232.out | refine sT ?_ GE233.out | refine sT ?_ GE234.out) | exact HB.out)) hb); clear BK232; clear BK233; clear BK234; clear HB; have BK232 := n0_; have BK233 := n1_; have BK234 := n2_; have HB := n3_; clear n0_ n1_ n2_ n3_; (try clear hb); (try clear hb2); (try clear hk); (try clear hi); have p200 : 0 ≤ (a7 : Int) := of_decide_eq_true (by first | (with_reducible assumption) | assumption); have q200 : a7 < (t296.size : Int) := of_decide_eq_true (by first | (with_reducible assumption) | assumption); have hx200 := bt_at t296 a7; replace p200 := eq_true p200; replace q200 := eq_true q200))
                       go_ret
                       exact ⟨by first | rfl | (simp [errW_none, errW_some] <;> rfl) | (simp [*, errW_none, errW_some] <;> rfl), by repeat (first | (with_reducible first | exact HB.out | apply aL | apply dN | apply dR | refine sT ?_ GE232.out | refine sT ?_ GE233.out | refine sT ?_ GE234.out) | exact HB.out)⟩
                      ·rw [if_neg c201] at H
                       exact absurd H (by simp)
                     ·rw [if_neg c199] at H
                      exact absurd H (by simp)
                    ·replace c198 := Bool.eq_false_iff.mpr c198
                     subst c198
                     have H1 : (none) = some r := by rw [if_neg (show ¬ (false = true) by decide)] at H; exact H
                     clear H
                     have H := H1
                     clear H1
                     exact absurd H (by simp)
                   ·rw [if_neg c196] at H
                    have c196b0 : decide (0 < t278) = false := decide_eq_false c196
                    clear c196
                    obtain rfl := Option.some.inj H
                    have hnb208 := NB234_232.out
                    have hnc208 := NB232_234.out
                    have hnb209 := NB234_233.out
                    have hnc209 := NB233_234.out
                    have hcz210_0 : wc.cell? ⟨gb234, 0, none⟩ = some (.slice A5_0 l5_0.length c5_0) := (blk_cell BK234.out 0).trans rfl
                    have hfz210_0 := blk_frozen BK234.out 0
                    go_wp2_with (first | ((with_reducible refine gate_callee (f := 25) rfl ?_); refine goesL_ (some 421) rfl rfl Tryd.func25 (by kernel_rfl) rfl #[.agg #[.slice A5_0 l5_0.length c5_0], .string a6, .int .i64 t278] rfl (by (try simp only [List.map_toArray, List.map_cons, List.map_nil]); first | done | rfl | (simp only [List.length_drop, List.length_take]; rfl)) ?_; (with_reducible refine (impl_TicksAfter.calls kj146 _ _ l5_0 a6 t278 t294 true _ ?side1 ?side2 A190.out).mono ?_); (case side1 => exact cU (Kd.C_below HR5_0.out HB.out)); (case side2 => exact HC5_0.out); rintro e w211 ⟨rfl, hb⟩; refine ⟨_, rfl, ?_⟩; have n0_ := aM (blk_below (g := gb232) (o := .cells #[.slice A0_0 l0_0.length c0_0] 29 (0, 0)) (bU BK232.out) hb); have n1_ := aM (blk_below (g := gb233) (o := .cells #[.slice A3_0 l3_0.length c3_0] 29 (0, 0)) (bU BK233.out) hb); have n2_ := aM (blk_below (g := gb234) (o := .cells #[.slice A5_0 l5_0.length c5_0] 29 (0, 0)) (bU BK234.out) hb); have n3_ := aM (below_step (by repeat (first | (with_reducible first | exact HB.out | apply aL | apply dN | apply dR | refine sT ?_ GE232.out | refine sT ?_ GE233.out | refine sT ?_ GE234.out) | exact HB.out)) hb); clear BK232; clear BK233; clear BK234; clear HB; have BK232 := n0_; have BK233 := n1_; have BK234 := n2_; have HB := n3_; clear n0_ n1_ n2_ n3_; (try clear hb); (try clear hb2); (try clear hk); (try clear hi); have p194 : 0 ≤ (a7 : Int) := of_decide_eq_true (by first | (with_reducible assumption) | assumption); have q194 : a7 < (t294.size : Int) := of_decide_eq_true (by first | (with_reducible assumption) | assumption); have hx194 := bt_at t294 a7; replace p194 := eq_true p194; replace q194 := eq_true q194))
                    go_ret
                    exact ⟨by first | rfl | (simp [errW_none, errW_some] <;> rfl) | (simp [*, errW_none, errW_some] <;> rfl), by repeat (first | (with_reducible first | exact HB.out | apply aL | apply dN | apply dR | refine sT ?_ GE232.out | refine sT ?_ GE233.out | refine sT ?_ GE234.out) | exact HB.out)⟩
                  ·rw [if_neg c195] at H
                   exact absurd H (by simp)
                 ·rw [if_neg c193] at H
                  exact absurd H (by simp)
                ·rw [if_neg c192] at H
                 exact absurd H (by simp)
               ·replace c191 := Bool.eq_false_iff.mpr c191
                subst c191
                have H1 : (none) = some r := by rw [if_neg (show ¬ (false = true) by decide)] at H; exact H
                clear H
                have H := H1
                clear H1
                exact absurd H (by simp)
              ·replace c189 := Bool.eq_false_iff.mpr c189
               subst c189
               have H1 : (some true) = some r := by rw [if_neg (show ¬ (false = true) by decide)] at H; exact H
               clear H
               have H := H1
               clear H1
               obtain rfl := Option.some.inj H
               go_wp2
               go_ret
               exact ⟨by first | rfl | (simp [errW_none, errW_some] <;> rfl) | (simp [*, errW_none, errW_some] <;> rfl), by repeat (first | (with_reducible first | exact HB.out | apply aL | apply dN | apply dR | refine sT ?_ GE232.out | refine sT ?_ GE233.out | refine sT ?_ GE234.out) | exact HB.out)⟩

end Go.Proofs.YtifdgebdkhdmhaaDoor.PLTickOfAll
