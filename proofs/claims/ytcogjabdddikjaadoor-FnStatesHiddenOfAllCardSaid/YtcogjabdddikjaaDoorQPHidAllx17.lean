-- squeezed; PRINTED by drive.py (a program of this session's, over the kit's print.py; wip/tools/drive.py). Lean checks it.
import Derived.Test.YtcogjabdddikjaaDoorQPHidAllx0
import Derived.Test.YtcogjabdddikjaaDoorQPHidAllx1
import Derived.Test.YtcogjabdddikjaaDoorQPHidAllx2
import Derived.Test.YtcogjabdddikjaaDoorQPHidAllx5
import Derived.Test.YtcogjabdddikjaaDoorQPHidAllx7
import Derived.Test.YtcogjabdddikjaaDoorQPHidAllx8
import Derived.Test.YtcogjabdddikjaaDoorQPHidAllx9
import Derived.Test.YtcogjabdddikjaaDoorQPHidAllx10
import Derived.Test.YtcogjabdddikjaaDoorQPHidAllx11
import Derived.Test.YtcogjabdddikjaaDoorQPHidAllx12
import Derived.Test.YtcogjabdddikjaaDoorQPHidAllx13
import Derived.Test.YtcogjabdddikjaaDoorQPHidAllx14
import Derived.Test.YtcogjabdddikjaaDoorQPHidAllx15
import Derived.Test.YtcogjabdddikjaaDoorQRange
import Derived.Test.YtcogjabdddikjaaDoorQPHidAllx16
import Derived.Test.YtcogjabdddikjaaDoorQUp
import Derived.Test.YtcogjabdddikjaaDoorQSq
namespace Go.Proofs.YtcogjabdddikjaaDoor.PHidAll
open Go.RowKit Go.Proofs.YtcogjabdddikjaaDoorW.PrintWords Go.Proofs.YtcogjabdddikjaaDoorW.PrintLast Go.Proofs.YtcogjabdddikjaaDoorW.PrintMore
attribute [local go_sem] max2_int min2_int max_two min_two max_three min_three max_four min_four   -- for this text's walks alone
set_option linter.unusedVariables false
set_option linter.unusedSimpArgs false

attribute [local go_sem high] eqA59
set_option maxHeartbeats 8000000 in
set_option maxRecDepth 100000 in
theorem laws_FnStatesHiddenOfAll.calls (k : Nat) (a0 : ByteArray) (a1 : Int) (a2 : Int) (a3_0 : Int) (A3_1 : Option Addr) (c3_1 : Nat) (l3_1 : List (S59)) (a4_0 : Int) (A4_1 : Option Addr) (c4_1 : Nat) (l4_1 : List (S59)) (a5_0 : Int) (a5_1 : Int) (a5_2 : Int) (a6_0 : Int) (A6_1 : Option Addr) (c6_1 : Nat) (l6_1 : List (S59)) (a7 : Int) (a8_0 : Int) (a8_1 : Int) (a8_2 : Int) (a9 : ByteArray) (a10 : Int) (a11_0 : Int) (a11_1 : Int) (a11_2 : Int) (r : Bool) (w : World) (hr3_1 : Kd.C k59 w A3_1 l3_1.length l3_1) (hc3_1 : l3_1.length ≤ c3_1) (hr4_1 : Kd.C k59 w A4_1 l4_1.length l4_1) (hc4_1 : l4_1.length ≤ c4_1) (hr6_1 : Kd.C k59 w A6_1 l6_1.length l6_1) (hc6_1 : l6_1.length ≤ c6_1) (h : laws_FnStatesHiddenOfAll.f k a0 a1 a2 a3_0 l3_1 a4_0 l4_1 a5_0 a5_1 a5_2 a6_0 l6_1 a7 a8_0 a8_1 a8_2 a9 a10 a11_0 a11_1 a11_2 = some r) :
  Calls Tryd.prog 5 #[.string a0, .int .i64 a1, .int .i64 a2, .agg #[.int .i64 a3_0, .slice A3_1 l3_1.length c3_1], .agg #[.int .i64 a4_0, .slice A4_1 l4_1.length c4_1], .agg #[.int .i64 a5_0, .int .i64 a5_1, .int .i64 a5_2], .agg #[.int .i64 a6_0, .slice A6_1 l6_1.length c6_1], .int .i64 a7, .agg #[.int .i64 a8_0, .int .i64 a8_1, .int .i64 a8_2], .string a9, .int .i64 a10, .agg #[.int .i64 a11_0, .int .i64 a11_1, .int .i64 a11_2]] w fun e w' => e = .returned (.bool r) ∧ Below w.heap.size w w' := by
 have hu57 := Tryd.underlying57
 have hu59 := Tryd.underlying59
 have HR3_1 := aM hr3_1
 have HC3_1 := aM hc3_1
 clear hr3_1 hc3_1
 have HR4_1 := aM hr4_1
 have HC4_1 := aM hc4_1
 clear hr4_1 hc4_1
 have HR6_1 := aM hr6_1
 have HC6_1 := aM hc6_1
 clear hr6_1 hc6_1
 have HB := aM (Below.refl w.heap.size w)
 have H := h
 clear h; unfold laws_FnStatesHiddenOfAll.f at H
 have HC13 := aM H
 clear H
 go_enter Tryd.func5, Tryd.ntmps5
 go_upto_region 1 with (first | ((with_reducible refine gate_dst (N := 15) rfl ?_); (try (refine gate_guard (by rfl) ?_; dsimp only)); refine bX (N := 15) rfl (cs := #[.int .i64 a3_0, .slice A3_1 l3_1.length c3_1]) (t := 57) ?_; intro gb361 hg w14 BK361 hb; have GW361 := gE hg HB; have GE361 := gE hg HB; replace HB := hS HB hb; clear hb hg) | ((with_reducible refine gate_dst (N := 16) rfl ?_); (try (refine gate_guard (by rfl) ?_; dsimp only)); refine bX (N := 16) rfl (cs := #[.int .i64 a4_0, .slice A4_1 l4_1.length c4_1]) (t := 57) ?_; intro gb362 hg w15 BK362 hb; have GW362 := gE hg HB; have GE362 := gE hg HB; have NB361_362 := nbL hg BK361; have NB362_361 := nbR hg BK361; replace BK361 := bB BK361 hb; replace HB := hS HB hb; clear hb hg) | ((with_reducible refine gate_dst (N := 17) rfl ?_); (try (refine gate_guard (by rfl) ?_; dsimp only)); refine bX (N := 17) rfl (cs := #[.int .i64 a5_0, .int .i64 a5_1, .int .i64 a5_2]) (t := 59) ?_; intro gb363 hg w16 BK363 hb; have GW363 := gE hg HB; have GE363 := gE hg HB; have NB361_363 := nbL hg BK361; have NB363_361 := nbR hg BK361; have NB362_363 := nbL hg BK362; have NB363_362 := nbR hg BK362; replace BK361 := bB BK361 hb; replace BK362 := bB BK362 hb; replace HB := hS HB hb; clear hb hg) | ((with_reducible refine gate_dst (N := 18) rfl ?_); (try (refine gate_guard (by rfl) ?_; dsimp only)); refine bX (N := 18) rfl (cs := #[.int .i64 a6_0, .slice A6_1 l6_1.length c6_1]) (t := 57) ?_; intro gb364 hg w17 BK364 hb; have GW364 := gE hg HB; have GE364 := gE hg HB; have NB361_364 := nbL hg BK361; have NB364_361 := nbR hg BK361; have NB362_364 := nbL hg BK362; have NB364_362 := nbR hg BK362; have NB363_364 := nbL hg BK363; have NB364_363 := nbR hg BK363; replace BK361 := bB BK361 hb; replace BK362 := bB BK362 hb; replace BK363 := bB BK363 hb; replace HB := hS HB hb; clear hb hg) | ((with_reducible refine gate_dst (N := 20) rfl ?_); (try (refine gate_guard (by rfl) ?_; dsimp only)); refine bX (N := 20) rfl (cs := #[.int .i64 a8_0, .int .i64 a8_1, .int .i64 a8_2]) (t := 59) ?_; intro gb365 hg w18 BK365 hb; have GW365 := gE hg HB; have GE365 := gE hg HB; have NB361_365 := nbL hg BK361; have NB365_361 := nbR hg BK361; have NB362_365 := nbL hg BK362; have NB365_362 := nbR hg BK362; have NB363_365 := nbL hg BK363; have NB365_363 := nbR hg BK363; have NB364_365 := nbL hg BK364; have NB365_364 := nbR hg BK364; replace BK361 := bB BK361 hb; replace BK362 := bB BK362 hb; replace BK363 := bB BK363 hb; replace BK364 := bB BK364 hb; replace HB := hS HB hb; clear hb hg) | ((with_reducible refine gate_dst (N := 23) rfl ?_); (try (refine gate_guard (by rfl) ?_; dsimp only)); refine bX (N := 23) rfl (cs := #[.int .i64 a11_0, .int .i64 a11_1, .int .i64 a11_2]) (t := 59) ?_; intro gb366 hg w19 BK366 hb; have GW366 := gE hg HB; have GE366 := gE hg HB; have NB361_366 := nbL hg BK361; have NB366_361 := nbR hg BK361; have NB362_366 := nbL hg BK362; have NB366_362 := nbR hg BK362; have NB363_366 := nbL hg BK363; have NB366_363 := nbR hg BK363; have NB364_366 := nbL hg BK364; have NB366_364 := nbR hg BK364; have NB365_366 := nbL hg BK365; have NB366_365 := nbR hg BK365; replace BK361 := bB BK361 hb; replace BK362 := bB BK362 hb; replace BK363 := bB BK363 hb; replace BK364 := bB BK364 hb; replace BK365 := bB BK365 hb; replace HB := hS HB hb; clear hb hg))
 (try simp only [Act.put, List.setIfInBounds_toArray, List.set_cons_zero, List.set_cons_succ])
 go_cut [80] from 73 to 80 (fun v80 wc => ∃ (kq : Nat) (x80_12 : Bool), v80 = .bool x80_12 ∧ Aside0 (laws_FnStatesHiddenOfAll.j0 kq a0 a1 a2 a7 a9 a10 x80_12 a3_0 l3_1 a4_0 l4_1 a5_0 a5_1 a5_2 a6_0 l6_1 a8_0 a8_1 a8_2 a11_0 a11_1 a11_2 = some r) ∧ Aside0 (kq ≤ k) ∧ Aside0 (wc.heap[gb361]? = some (.cells #[.int .i64 a3_0, (.slice A3_1 l3_1.length c3_1)] 57 (0, 0))) ∧ Aside0 (wc.heap[gb362]? = some (.cells #[.int .i64 a4_0, (.slice A4_1 l4_1.length c4_1)] 57 (0, 0))) ∧ Aside0 (wc.heap[gb363]? = some (.cells #[.int .i64 a5_0, .int .i64 a5_1, .int .i64 a5_2] 59 (0, 0))) ∧ Aside0 (wc.heap[gb364]? = some (.cells #[.int .i64 a6_0, (.slice A6_1 l6_1.length c6_1)] 57 (0, 0))) ∧ Aside0 (wc.heap[gb365]? = some (.cells #[.int .i64 a8_0, .int .i64 a8_1, .int .i64 a8_2] 59 (0, 0))) ∧ Aside0 (wc.heap[gb366]? = some (.cells #[.int .i64 a11_0, .int .i64 a11_1, .int .i64 a11_2] 59 (0, 0))) ∧ Aside0 (Below w.heap.size w wc))
 case first => as_aux_lemma =>
  have H := HC13.out
  clear HC13
  refine iI H ?_ ?_ <;> clear H <;> intro c20 H
  ·have c20b0 := gT c20
   have c20b1 : decide (1048576 < a0.size) = true := decide_eq_true (by omega)
   clear c20
   (first | rw [c20b0] | (simp only [i64_w, i32_w]; rw [c20b0]) | skip)
   have H' := aM H
   clear H
   go_wp2
   go_meet
   case rel => exact ⟨_, (true), rF, H', kL, ⟨bU BK361.out⟩, ⟨bU BK362.out⟩, ⟨bU BK363.out⟩, ⟨bU BK364.out⟩, ⟨bU BK365.out⟩, ⟨bU BK366.out⟩, hV HB⟩
  have c20b0 := gF c20
  have c20b1 : decide (1048576 < a0.size) = false := decide_eq_false (by omega)
  clear c20
  (first | rw [c20b0] | (simp only [i64_w, i32_w]; rw [c20b0]) | skip)
  have H' := aM H
  clear H
  go_wp2
  go_meet
  case rel => exact ⟨_, (decide ((a9.size : Int) > 1048576)), rF, H', kL, ⟨bU BK361.out⟩, ⟨bU BK362.out⟩, ⟨bU BK363.out⟩, ⟨bU BK364.out⟩, ⟨bU BK365.out⟩, ⟨bU BK366.out⟩, hV HB⟩
 case rest => as_aux_lemma =>
  clear HC13
  obtain ⟨kq, x80_12, rfl, HA, HJ12, BK361, BK362, BK363, BK364, BK365, BK366, HB⟩ := hcut
  obtain rfl | ⟨kj12, rfl⟩ := fz kq
  ·exact zA HA
  have H := HA.out
  clear HA
  simp only [laws_FnStatesHiddenOfAll.j0] at H
  refine iB H ?_ ?_ <;> clear H <;> rintro rfl H
  ·obtain rfl := Option.some.inj H
   go_wp2
   go_ret
   exact ⟨eW, bel HB⟩
  replace H := bC H; obtain ⟨⟨t367, t368, t371⟩, A22, H⟩ := H; try dsimp only at H
  replace H := bC H; obtain ⟨⟨t373, t374, t377⟩, A23, H⟩ := H; try dsimp only at H
  have HC24 := aM H
  clear H
  go_upto_region 5 with (first | ((with_reducible refine gG 48 (some 85) rfl rfl ?_); refine gD Tryd.func48 (impl_MakePuzzle.calls a0 a1 a2 t367 t368 t371 _ A22.out) ?_; rintro w25 v369 ⟨ho0, hb⟩; have HO370 := aM (Kd.R_lower (Kd.R_newB (Kd.R_newB (Kd.R_newB ho0 (g := gb363) (o := .cells #[.int .i64 a5_0, .int .i64 a5_1, .int .i64 a5_2] 59 (0, 0)) (bU BK363.out)) (g := gb365) (o := .cells #[.int .i64 a8_0, .int .i64 a8_1, .int .i64 a8_2] 59 (0, 0)) (bU BK365.out)) (g := gb366) (o := .cells #[.int .i64 a11_0, .int .i64 a11_1, .int .i64 a11_2] 59 (0, 0)) (bU BK366.out)) (below_size (bel HB))); replace BK361 := bB BK361 hb; replace BK362 := bB BK362 hb; replace BK363 := bB BK363 hb; replace BK364 := bB BK364 hb; replace BK365 := bB BK365 hb; replace BK366 := bB BK366 hb; replace HB := hS HB hb; clear hb ho0) | ((with_reducible refine gate_dst (N := 25) rfl ?_); (try (refine gate_guard (by rfl) ?_; dsimp only)); refine bX (N := 25) rfl (cs := #[.int .i64 0, .slice none 0 0]) (t := 57) ?_; intro gb372 hg w26 BK372 hb; have GW372 := gE hg HB; have GE372 := gE hg HB; have NB361_372 := nbL hg BK361; have NB372_361 := nbR hg BK361; have NB362_372 := nbL hg BK362; have NB372_362 := nbR hg BK362; have NB363_372 := nbL hg BK363; have NB372_363 := nbR hg BK363; have NB364_372 := nbL hg BK364; have NB372_364 := nbR hg BK364; have NB365_372 := nbL hg BK365; have NB372_365 := nbR hg BK365; have NB366_372 := nbL hg BK366; have NB372_366 := nbR hg BK366; replace HO370 := rB HO370 hb; replace BK361 := bB BK361 hb; replace BK362 := bB BK362 hb; replace BK363 := bB BK363 hb; replace BK364 := bB BK364 hb; replace BK365 := bB BK365 hb; replace BK366 := bB BK366 hb; replace HB := hS HB hb; clear hb hg; have hnb27 := NB372_361.out; have hnc27 := NB361_372.out; have hnb28 := NB372_362.out; have hnc28 := NB362_372.out; have hnb29 := NB372_363.out; have hnc29 := NB363_372.out; have hnb30 := NB372_364.out; have hnc30 := NB364_372.out; have hnb31 := NB372_365.out; have hnc31 := NB365_372.out; have hnb32 := NB372_366.out; have hnc32 := NB366_372.out; obtain ⟨hcz33_0, hcz33_1, hfz33_0, hfz33_1⟩ := hC2 BK372; obtain ⟨Ao34, co34, eo34⟩ := Kd.R_slice HO370.out; subst eo34) | ((with_reducible refine gG 49 (some 92) rfl rfl ?_); refine gD Tryd.func49 (spec_MakePuzzle.calls kj12 a0 a1 a2 t373 t374 t377 _ A23.out) ?_; rintro w35 v375 ⟨ho0, hb⟩; have HO376 := aM (Kd.R_lower (Kd.R_newB (Kd.R_newB (Kd.R_newB (Kd.R_new' ho0 (Kd.R_lt (rU (Kd.R_mono (Kd.R_far (p := ⟨gb372, 1, none⟩) (Kd.R_far (p := ⟨gb372, 0, none⟩) (Kd.R_types HO370.out BK372.out (by decide)) (fun _ hk => hk.2) (.int .i64 t367)) (fun _ hk => hk.2) (.slice Ao34 t368.length co34)) (fun _ h_ => h_.1))))) (g := gb363) (o := .cells #[.int .i64 a5_0, .int .i64 a5_1, .int .i64 a5_2] 59 (0, 0)) (by (with_reducible repeat (first | refine blk_drewN ?_ _ | refine blk_drew ?_ | refine blk_alloc ?_ _)); refine blk_far ?_ NB363_372.out _; (with_reducible repeat (first | refine blk_drewN ?_ _ | refine blk_drew ?_ | refine blk_alloc ?_ _)); refine blk_far ?_ NB363_372.out _; (with_reducible repeat (first | refine blk_drewN ?_ _ | refine blk_drew ?_ | refine blk_alloc ?_ _)); exact BK363.out)) (g := gb365) (o := .cells #[.int .i64 a8_0, .int .i64 a8_1, .int .i64 a8_2] 59 (0, 0)) (by (with_reducible repeat (first | refine blk_drewN ?_ _ | refine blk_drew ?_ | refine blk_alloc ?_ _)); refine blk_far ?_ NB365_372.out _; (with_reducible repeat (first | refine blk_drewN ?_ _ | refine blk_drew ?_ | refine blk_alloc ?_ _)); refine blk_far ?_ NB365_372.out _; (with_reducible repeat (first | refine blk_drewN ?_ _ | refine blk_drew ?_ | refine blk_alloc ?_ _)); exact BK365.out)) (g := gb366) (o := .cells #[.int .i64 a11_0, .int .i64 a11_1, .int .i64 a11_2] 59 (0, 0)) (by (with_reducible repeat (first | refine blk_drewN ?_ _ | refine blk_drew ?_ | refine blk_alloc ?_ _)); refine blk_far ?_ NB366_372.out _; (with_reducible repeat (first | refine blk_drewN ?_ _ | refine blk_drew ?_ | refine blk_alloc ?_ _)); refine blk_far ?_ NB366_372.out _; (with_reducible repeat (first | refine blk_drewN ?_ _ | refine blk_drew ?_ | refine blk_alloc ?_ _)); exact BK366.out)) (below_size (bel HB))); replace HO370 := aM (Kd.R_elder' (rU (Kd.R_mono (Kd.R_far (p := ⟨gb372, 1, none⟩) (Kd.R_far (p := ⟨gb372, 0, none⟩) (Kd.R_types HO370.out BK372.out (by decide)) (fun _ hk => hk.2) (.int .i64 t367)) (fun _ hk => hk.2) (.slice Ao34 t368.length co34)) (fun _ h_ => h_.1))) (Kd.R_base ho0) hb); replace BK361 := aM (blk_below (g := gb361) (o := .cells #[.int .i64 a3_0, .slice A3_1 l3_1.length c3_1] 57 (0, 0)) (by (with_reducible repeat (first | refine blk_drewN ?_ _ | refine blk_drew ?_ | refine blk_alloc ?_ _)); refine blk_far ?_ NB361_372.out _; (with_reducible repeat (first | refine blk_drewN ?_ _ | refine blk_drew ?_ | refine blk_alloc ?_ _)); refine blk_far ?_ NB361_372.out _; (with_reducible repeat (first | refine blk_drewN ?_ _ | refine blk_drew ?_ | refine blk_alloc ?_ _)); exact BK361.out) hb); replace BK362 := aM (blk_below (g := gb362) (o := .cells #[.int .i64 a4_0, .slice A4_1 l4_1.length c4_1] 57 (0, 0)) (by (with_reducible repeat (first | refine blk_drewN ?_ _ | refine blk_drew ?_ | refine blk_alloc ?_ _)); refine blk_far ?_ NB362_372.out _; (with_reducible repeat (first | refine blk_drewN ?_ _ | refine blk_drew ?_ | refine blk_alloc ?_ _)); refine blk_far ?_ NB362_372.out _; (with_reducible repeat (first | refine blk_drewN ?_ _ | refine blk_drew ?_ | refine blk_alloc ?_ _)); exact BK362.out) hb); replace BK363 := aM (blk_below (g := gb363) (o := .cells #[.int .i64 a5_0, .int .i64 a5_1, .int .i64 a5_2] 59 (0, 0)) (by (with_reducible repeat (first | refine blk_drewN ?_ _ | refine blk_drew ?_ | refine blk_alloc ?_ _)); refine blk_far ?_ NB363_372.out _; (with_reducible repeat (first | refine blk_drewN ?_ _ | refine blk_drew ?_ | refine blk_alloc ?_ _)); refine blk_far ?_ NB363_372.out _; (with_reducible repeat (first | refine blk_drewN ?_ _ | refine blk_drew ?_ | refine blk_alloc ?_ _)); exact BK363.out) hb); replace BK364 := aM (blk_below (g := gb364) (o := .cells #[.int .i64 a6_0, .slice A6_1 l6_1.length c6_1] 57 (0, 0)) (by (with_reducible repeat (first | refine blk_drewN ?_ _ | refine blk_drew ?_ | refine blk_alloc ?_ _)); refine blk_far ?_ NB364_372.out _; (with_reducible repeat (first | refine blk_drewN ?_ _ | refine blk_drew ?_ | refine blk_alloc ?_ _)); refine blk_far ?_ NB364_372.out _; (with_reducible repeat (first | refine blk_drewN ?_ _ | refine blk_drew ?_ | refine blk_alloc ?_ _)); exact BK364.out) hb); replace BK365 := aM (blk_below (g := gb365) (o := .cells #[.int .i64 a8_0, .int .i64 a8_1, .int .i64 a8_2] 59 (0, 0)) (by (with_reducible repeat (first | refine blk_drewN ?_ _ | refine blk_drew ?_ | refine blk_alloc ?_ _)); refine blk_far ?_ NB365_372.out _; (with_reducible repeat (first | refine blk_drewN ?_ _ | refine blk_drew ?_ | refine blk_alloc ?_ _)); refine blk_far ?_ NB365_372.out _; (with_reducible repeat (first | refine blk_drewN ?_ _ | refine blk_drew ?_ | refine blk_alloc ?_ _)); exact BK365.out) hb); replace BK366 := aM (blk_below (g := gb366) (o := .cells #[.int .i64 a11_0, .int .i64 a11_1, .int .i64 a11_2] 59 (0, 0)) (by (with_reducible repeat (first | refine blk_drewN ?_ _ | refine blk_drew ?_ | refine blk_alloc ?_ _)); refine blk_far ?_ NB366_372.out _; (with_reducible repeat (first | refine blk_drewN ?_ _ | refine blk_drew ?_ | refine blk_alloc ?_ _)); refine blk_far ?_ NB366_372.out _; (with_reducible repeat (first | refine blk_drewN ?_ _ | refine blk_drew ?_ | refine blk_alloc ?_ _)); exact BK366.out) hb); replace BK372 := aM (blk_below (g := gb372) (o := .cells #[.int .i64 t367, .slice Ao34 t368.length co34] 57 (0, 0)) (by (with_reducible repeat (first | refine blk_drewN ?_ _ | refine blk_drew ?_ | refine blk_alloc ?_ _)); refine blk_put (cs := #[.int .i64 t367, .slice none 0 0]) ?_ 1 _ rfl; (with_reducible repeat (first | refine blk_drewN ?_ _ | refine blk_drew ?_ | refine blk_alloc ?_ _)); refine blk_put (cs := #[.int .i64 0, .slice none 0 0]) ?_ 0 _ rfl; (with_reducible repeat (first | refine blk_drewN ?_ _ | refine blk_drew ?_ | refine blk_alloc ?_ _)); exact BK372.out) hb); replace HB := hS HB hb; clear hb ho0) | ((with_reducible refine gate_dst (N := 27) rfl ?_); (try (refine gate_guard (by rfl) ?_; dsimp only)); refine bX (N := 27) rfl (cs := #[.int .i64 0, .slice none 0 0]) (t := 57) ?_; intro gb378 hg w36 BK378 hb; have GW378 := gE hg HB; have GE378 := gE hg HB; have NB361_378 := nbL hg BK361; have NB378_361 := nbR hg BK361; have NB362_378 := nbL hg BK362; have NB378_362 := nbR hg BK362; have NB363_378 := nbL hg BK363; have NB378_363 := nbR hg BK363; have NB364_378 := nbL hg BK364; have NB378_364 := nbR hg BK364; have NB365_378 := nbL hg BK365; have NB378_365 := nbR hg BK365; have NB366_378 := nbL hg BK366; have NB378_366 := nbR hg BK366; have NB372_378 := nbL hg BK372; have NB378_372 := nbR hg BK372; replace HO370 := rB HO370 hb; replace HO376 := rB HO376 hb; replace BK361 := bB BK361 hb; replace BK362 := bB BK362 hb; replace BK363 := bB BK363 hb; replace BK364 := bB BK364 hb; replace BK365 := bB BK365 hb; replace BK366 := bB BK366 hb; replace BK372 := bB BK372 hb; replace HB := hS HB hb; clear hb hg; have hnb37 := NB378_361.out; have hnc37 := NB361_378.out; have hnb38 := NB378_362.out; have hnc38 := NB362_378.out; have hnb39 := NB378_363.out; have hnc39 := NB363_378.out; have hnb40 := NB378_364.out; have hnc40 := NB364_378.out; have hnb41 := NB378_365.out; have hnc41 := NB365_378.out; have hnb42 := NB378_366.out; have hnc42 := NB366_378.out; have hnb43 := NB378_372.out; have hnc43 := NB372_378.out; obtain ⟨hcz44_0, hcz44_1, hfz44_0, hfz44_1⟩ := hC2 BK378; obtain ⟨Ao45, co45, eo45⟩ := Kd.R_slice HO376.out; subst eo45))
  (try simp only [Act.put, List.setIfInBounds_toArray, List.set_cons_zero, List.set_cons_succ])
  go_cut [103] from 81 to 103 (fun v103 wc => ∃ (kq : Nat) (x103_23 : Bool), v103 = .bool x103_23 ∧ Aside0 (laws_FnStatesHiddenOfAll.j1 kq a0 a1 a7 a9 a10 t371 x103_23 a3_0 l3_1 a4_0 l4_1 a5_0 a5_1 a5_2 a6_0 l6_1 a8_0 a8_1 a8_2 a11_0 a11_1 a11_2 t367 t368 = some r) ∧ Aside0 (kq ≤ kj12) ∧ Aside0 (Kd.R k59 59 wc w.heap.size (fun k_ => k_ ≠ gb363 ∧ k_ ≠ gb365 ∧ k_ ≠ gb366) (.slice Ao34 t368.length co34) t368) ∧ Aside0 (wc.heap[gb361]? = some (.cells #[.int .i64 a3_0, (.slice A3_1 l3_1.length c3_1)] 57 (0, 0))) ∧ Aside0 (wc.heap[gb362]? = some (.cells #[.int .i64 a4_0, (.slice A4_1 l4_1.length c4_1)] 57 (0, 0))) ∧ Aside0 (wc.heap[gb363]? = some (.cells #[.int .i64 a5_0, .int .i64 a5_1, .int .i64 a5_2] 59 (0, 0))) ∧ Aside0 (wc.heap[gb364]? = some (.cells #[.int .i64 a6_0, (.slice A6_1 l6_1.length c6_1)] 57 (0, 0))) ∧ Aside0 (wc.heap[gb365]? = some (.cells #[.int .i64 a8_0, .int .i64 a8_1, .int .i64 a8_2] 59 (0, 0))) ∧ Aside0 (wc.heap[gb366]? = some (.cells #[.int .i64 a11_0, .int .i64 a11_1, .int .i64 a11_2] 59 (0, 0))) ∧ Aside0 (wc.heap[gb372]? = some (.cells #[.int .i64 t367, (.slice Ao34 t368.length co34)] 57 (0, 0))) ∧ Aside0 (Below w.heap.size w wc))
  case first => as_aux_lemma =>
   have H := HC24.out
   clear HC24
   refine iN H ?_; clear H; intro c46 H
   have c46b0 := bF c46
   (try have c46b1 := nD c46)
   (try have c46b2 := nQ c46)
   clear c46
   (first | rw [c46b0] | (simp only [i64_w, i32_w]; rw [c46b0]) | skip)
   replace H := bC H; obtain ⟨t379, A47, H⟩ := H
   have H' := aM H
   clear H
   have hnb48 := NB372_361.out
   have hnc48 := NB361_372.out
   have hnb49 := NB372_362.out
   have hnc49 := NB362_372.out
   have hnb50 := NB372_363.out
   have hnc50 := NB363_372.out
   have hnb51 := NB372_364.out
   have hnc51 := NB364_372.out
   have hnb52 := NB372_365.out
   have hnc52 := NB365_372.out
   have hnb53 := NB372_366.out
   have hnc53 := NB366_372.out
   have hnb54 := NB372_378.out
   have hnc54 := NB378_372.out
   obtain ⟨hcz55_0, hcz55_1, hfz55_0, hfz55_1⟩ := hC2 BK372
   have hnb56 := NB378_361.out
   have hnc56 := NB361_378.out
   have hnb57 := NB378_362.out
   have hnc57 := NB362_378.out
   have hnb58 := NB378_363.out
   have hnc58 := NB363_378.out
   have hnb59 := NB378_364.out
   have hnc59 := NB364_378.out
   have hnb60 := NB378_365.out
   have hnc60 := NB365_378.out
   have hnb61 := NB378_366.out
   have hnc61 := NB366_378.out
   obtain ⟨hcz62_0, hcz62_1, hfz62_0, hfz62_1⟩ := hC2 BK378
   go_wp2_with (first | (go_at_call 50; (with_reducible refine (laws_xPuzzle.calls kj12 t367 _ _ t368 t373 _ _ t374 t379 _ ?side1 ((Kd.R_reads' HO370.out).2.1) ?side3 ((Kd.R_reads' HO376.out).2.1) A47.out).mono ?_); (case side1 => refine (Kd.R_reads' (e := 59) (base := w.heap.size) (ok := fun k_ => ((((True ∧ k_ ≠ gb363) ∧ k_ ≠ gb365) ∧ k_ ≠ gb366) ∧ some k_ ≠ (.slice Ao45 t374.length co45 : Value).ownBlock)) (n := t368.length) (c := co34) ?_).2.2; exact (rU (Kd.R_mono (Kd.R_far (p := ⟨gb378, 1, none⟩) (Kd.R_far (p := ⟨gb378, 0, none⟩) (Kd.R_types HO370.out BK378.out (by decide)) (fun _ hk => hk.2) (.int .i64 t373)) (fun _ hk => hk.2) (.slice Ao45 t374.length co45)) (fun _ h_ => h_.1)))); (case side3 => refine (Kd.R_reads' (e := 59) (base := w.heap.size) (ok := fun k_ => ((((True ∧ some k_ ≠ (.slice Ao34 t368.length co34 : Value).ownBlock) ∧ k_ ≠ gb363) ∧ k_ ≠ gb365) ∧ k_ ≠ gb366)) (n := t374.length) (c := co45) ?_).2.2; exact (rU (Kd.R_mono (Kd.R_far (p := ⟨gb378, 1, none⟩) (Kd.R_far (p := ⟨gb378, 0, none⟩) (Kd.R_types HO376.out BK378.out (by decide)) (fun _ hk => hk.2) (.int .i64 t373)) (fun _ hk => hk.2) (.slice Ao45 t374.length co45)) (fun _ h_ => h_.1)))); rintro e w63 ⟨rfl, hb⟩; replace HO370 := aM (Kd.R_below (rU (Kd.R_mono (Kd.R_far (p := ⟨gb378, 1, none⟩) (Kd.R_far (p := ⟨gb378, 0, none⟩) (Kd.R_types HO370.out BK378.out (by decide)) (fun _ hk => hk.2) (.int .i64 t373)) (fun _ hk => hk.2) (.slice Ao45 t374.length co45)) (fun _ h_ => h_.1))) hb); replace HO376 := aM (Kd.R_below (rU (Kd.R_mono (Kd.R_far (p := ⟨gb378, 1, none⟩) (Kd.R_far (p := ⟨gb378, 0, none⟩) (Kd.R_types HO376.out BK378.out (by decide)) (fun _ hk => hk.2) (.int .i64 t373)) (fun _ hk => hk.2) (.slice Ao45 t374.length co45)) (fun _ h_ => h_.1))) hb); replace BK361 := aM (blk_below (g := gb361) (o := .cells #[.int .i64 a3_0, .slice A3_1 l3_1.length c3_1] 57 (0, 0)) (by (with_reducible repeat (first | refine blk_drewN ?_ _ | refine blk_drew ?_ | refine blk_alloc ?_ _)); refine blk_far ?_ NB361_378.out _; (with_reducible repeat (first | refine blk_drewN ?_ _ | refine blk_drew ?_ | refine blk_alloc ?_ _)); refine blk_far ?_ NB361_378.out _; (with_reducible repeat (first | refine blk_drewN ?_ _ | refine blk_drew ?_ | refine blk_alloc ?_ _)); exact BK361.out) hb); replace BK362 := aM (blk_below (g := gb362) (o := .cells #[.int .i64 a4_0, .slice A4_1 l4_1.length c4_1] 57 (0, 0)) (by (with_reducible repeat (first | refine blk_drewN ?_ _ | refine blk_drew ?_ | refine blk_alloc ?_ _)); refine blk_far ?_ NB362_378.out _; (with_reducible repeat (first | refine blk_drewN ?_ _ | refine blk_drew ?_ | refine blk_alloc ?_ _)); refine blk_far ?_ NB362_378.out _; (with_reducible repeat (first | refine blk_drewN ?_ _ | refine blk_drew ?_ | refine blk_alloc ?_ _)); exact BK362.out) hb); replace BK363 := aM (blk_below (g := gb363) (o := .cells #[.int .i64 a5_0, .int .i64 a5_1, .int .i64 a5_2] 59 (0, 0)) (by (with_reducible repeat (first | refine blk_drewN ?_ _ | refine blk_drew ?_ | refine blk_alloc ?_ _)); refine blk_far ?_ NB363_378.out _; (with_reducible repeat (first | refine blk_drewN ?_ _ | refine blk_drew ?_ | refine blk_alloc ?_ _)); refine blk_far ?_ NB363_378.out _; (with_reducible repeat (first | refine blk_drewN ?_ _ | refine blk_drew ?_ | refine blk_alloc ?_ _)); exact BK363.out) hb); replace BK364 := aM (blk_below (g := gb364) (o := .cells #[.int .i64 a6_0, .slice A6_1 l6_1.length c6_1] 57 (0, 0)) (by (with_reducible repeat (first | refine blk_drewN ?_ _ | refine blk_drew ?_ | refine blk_alloc ?_ _)); refine blk_far ?_ NB364_378.out _; (with_reducible repeat (first | refine blk_drewN ?_ _ | refine blk_drew ?_ | refine blk_alloc ?_ _)); refine blk_far ?_ NB364_378.out _; (with_reducible repeat (first | refine blk_drewN ?_ _ | refine blk_drew ?_ | refine blk_alloc ?_ _)); exact BK364.out) hb); replace BK365 := aM (blk_below (g := gb365) (o := .cells #[.int .i64 a8_0, .int .i64 a8_1, .int .i64 a8_2] 59 (0, 0)) (by (with_reducible repeat (first | refine blk_drewN ?_ _ | refine blk_drew ?_ | refine blk_alloc ?_ _)); refine blk_far ?_ NB365_378.out _; (with_reducible repeat (first | refine blk_drewN ?_ _ | refine blk_drew ?_ | refine blk_alloc ?_ _)); refine blk_far ?_ NB365_378.out _; (with_reducible repeat (first | refine blk_drewN ?_ _ | refine blk_drew ?_ | refine blk_alloc ?_ _)); exact BK365.out) hb); replace BK366 := aM (blk_below (g := gb366) (o := .cells #[.int .i64 a11_0, .int .i64 a11_1, .int .i64 a11_2] 59 (0, 0)) (by (with_reducible repeat (first | refine blk_drewN ?_ _ | refine blk_drew ?_ | refine blk_alloc ?_ _)); refine blk_far ?_ NB366_378.out _; (with_reducible repeat (first | refine blk_drewN ?_ _ | refine blk_drew ?_ | refine blk_alloc ?_ _)); refine blk_far ?_ NB366_378.out _; (with_reducible repeat (first | refine blk_drewN ?_ _ | refine blk_drew ?_ | refine blk_alloc ?_ _)); exact BK366.out) hb); replace BK372 := aM (blk_below (g := gb372) (o := .cells #[.int .i64 t367, .slice Ao34 t368.length co34] 57 (0, 0)) (by (with_reducible repeat (first | refine blk_drewN ?_ _ | refine blk_drew ?_ | refine blk_alloc ?_ _)); refine blk_far ?_ NB372_378.out _; (with_reducible repeat (first | refine blk_drewN ?_ _ | refine blk_drew ?_ | refine blk_alloc ?_ _)); refine blk_far ?_ NB372_378.out _; (with_reducible repeat (first | refine blk_drewN ?_ _ | refine blk_drew ?_ | refine blk_alloc ?_ _)); exact BK372.out) hb); replace BK378 := aM (blk_below (g := gb378) (o := .cells #[.int .i64 t373, .slice Ao45 t374.length co45] 57 (0, 0)) (by (with_reducible repeat (first | refine blk_drewN ?_ _ | refine blk_drew ?_ | refine blk_alloc ?_ _)); refine blk_put (cs := #[.int .i64 t373, .slice none 0 0]) ?_ 1 _ rfl; (with_reducible repeat (first | refine blk_drewN ?_ _ | refine blk_drew ?_ | refine blk_alloc ?_ _)); refine blk_put (cs := #[.int .i64 0, .slice none 0 0]) ?_ 0 _ rfl; (with_reducible repeat (first | refine blk_drewN ?_ _ | refine blk_drew ?_ | refine blk_alloc ?_ _)); exact BK378.out) hb); replace HB := hS HB hb; clear hb))
   go_meet
   case rel => exact ⟨_, (!t379), rF, H', ⟨by have := HJ12.out; first | omega | exact Nat.le_refl _⟩, ⟨rU (Kd.R_mono HO370.out (fun _ hk => ⟨hk.1.1.1.2, ⟨hk.1.1.2, hk.1.2⟩⟩))⟩, ⟨bU BK361.out⟩, ⟨bU BK362.out⟩, ⟨bU BK363.out⟩, ⟨bU BK364.out⟩, ⟨bU BK365.out⟩, ⟨bU BK366.out⟩, ⟨bU BK372.out⟩, hV HB⟩
  case rest => as_aux_lemma =>
   clear HC24
   try clear hcz33_0;try clear hcz33_1;try clear hcz44_0;try clear hcz44_1;try clear hfz33_0;try clear hfz33_1;try clear hfz44_0;try clear hfz44_1
   obtain ⟨kq, x103_23, rfl, HA, HJ23, HO_373001, BK361, BK362, BK363, BK364, BK365, BK366, BK372, HB⟩ := hcut
   obtain rfl | ⟨kj23, rfl⟩ := fz kq
   ·exact zA HA
   have H := HA.out
   clear HA
   simp only [laws_FnStatesHiddenOfAll.j1] at H
   refine iBn H ?_; clear H; rintro rfl H
   have HC65 := aM H
   clear H
   go_upto_if 104 with (fail)
   go_cut [] from 104 to 104 (fun wc => ∃ (kq : Nat), Aside0 (laws_FnStatesHiddenOfAll.j4 kq a7 a9 a10 a3_0 l3_1 a4_0 l4_1 a5_0 a5_1 a5_2 a6_0 l6_1 a8_0 a8_1 a8_2 a11_0 a11_1 a11_2 = some r) ∧ Aside0 (kq ≤ kj23) ∧ Aside0 (wc.heap[gb361]? = some (.cells #[.int .i64 a3_0, (.slice A3_1 l3_1.length c3_1)] 57 (0, 0))) ∧ Aside0 (wc.heap[gb362]? = some (.cells #[.int .i64 a4_0, (.slice A4_1 l4_1.length c4_1)] 57 (0, 0))) ∧ Aside0 (wc.heap[gb363]? = some (.cells #[.int .i64 a5_0, .int .i64 a5_1, .int .i64 a5_2] 59 (0, 0))) ∧ Aside0 (wc.heap[gb364]? = some (.cells #[.int .i64 a6_0, (.slice A6_1 l6_1.length c6_1)] 57 (0, 0))) ∧ Aside0 (wc.heap[gb365]? = some (.cells #[.int .i64 a8_0, .int .i64 a8_1, .int .i64 a8_2] 59 (0, 0))) ∧ Aside0 (wc.heap[gb366]? = some (.cells #[.int .i64 a11_0, .int .i64 a11_1, .int .i64 a11_2] 59 (0, 0))) ∧ Aside0 (Below w.heap.size w wc))
   case first => as_aux_lemma =>
    have H := HC65.out
    clear HC65
    refine iB H ?_ ?_ <;> clear H <;> rintro rfl H
    ·replace H := bC H; obtain ⟨⟨t380, t383⟩, A67, H⟩ := H; try dsimp only at H
     replace H := bC H; obtain ⟨⟨t384, t385⟩, A68, H⟩ := H; try dsimp only at H
     replace H := bC H; obtain ⟨⟨t386, t387⟩, A69, H⟩ := H; try dsimp only at H
     replace H := bC H; obtain ⟨⟨t388, t389⟩, A70, H⟩ := H; try dsimp only at H
     replace H := bC H; obtain ⟨⟨t390, t391⟩, A71, H⟩ := H; try dsimp only at H
     replace H := bC H; obtain ⟨⟨t392, t393⟩, A72, H⟩ := H; try dsimp only at H
     have HC73 := aM H
     clear H
     have hnb74 := NB372_361.out
     have hnc74 := NB361_372.out
     have hnb75 := NB372_362.out
     have hnc75 := NB362_372.out
     have hnb76 := NB372_363.out
     have hnc76 := NB363_372.out
     have hnb77 := NB372_364.out
     have hnc77 := NB364_372.out
     have hnb78 := NB372_365.out
     have hnc78 := NB365_372.out
     have hnb79 := NB372_366.out
     have hnc79 := NB366_372.out
     obtain ⟨hcz80_0, hcz80_1, hfz80_0, hfz80_1⟩ := hC2 BK372
     go_upto_region 14 with (first | ((with_reducible refine gG 51 (some 107) rfl rfl ?_); refine gD Tryd.func51 (impl_Solutions.calls t367 _ _ t368 t380 t383 _ (cU (Kd.R_reads' HO_373001.out).2.2) ((Kd.R_reads' HO_373001.out).2.1) A67.out) ?_; rintro w81 v381 ⟨ho0, hb⟩; have HO382 := rL ho0 HB; replace HO_373001 := rB HO_373001 hb; replace BK361 := bB BK361 hb; replace BK362 := bB BK362 hb; replace BK363 := bB BK363 hb; replace BK364 := bB BK364 hb; replace BK365 := bB BK365 hb; replace BK366 := bB BK366 hb; replace BK372 := bB BK372 hb; replace HB := hS HB hb; clear hb ho0) | ((with_reducible refine gG 19 (some 112) rfl rfl ?_); refine gC Tryd.func19 (impl_NumberOfState.calls kj23 a0 t384 t385 _ A68.out) ?_; rintro w82 hb; replace HO_373001 := rB HO_373001 hb; replace HO382 := rB HO382 hb; replace BK361 := bB BK361 hb; replace BK362 := bB BK362 hb; replace BK363 := bB BK363 hb; replace BK364 := bB BK364 hb; replace BK365 := bB BK365 hb; replace BK366 := bB BK366 hb; replace BK372 := bB BK372 hb; replace HB := hS HB hb; clear hb) | ((with_reducible refine gG 52 (some 119) rfl rfl ?_); refine gC Tryd.func52 (impl_DoesFit.calls kj23 3 0 t384 a0 t386 t387 _ A69.out) ?_; rintro w83 hb; replace HO_373001 := rB HO_373001 hb; replace HO382 := rB HO382 hb; replace BK361 := bB BK361 hb; replace BK362 := bB BK362 hb; replace BK363 := bB BK363 hb; replace BK364 := bB BK364 hb; replace BK365 := bB BK365 hb; replace BK366 := bB BK366 hb; replace BK372 := bB BK372 hb; replace HB := hS HB hb; clear hb) | ((with_reducible refine gG 20 (some 124) rfl rfl ?_); refine gC Tryd.func20 (impl_CountOn.calls a0 t388 t389 _ A70.out) ?_; rintro w84 hb; replace HO_373001 := rB HO_373001 hb; replace HO382 := rB HO382 hb; replace BK361 := bB BK361 hb; replace BK362 := bB BK362 hb; replace BK363 := bB BK363 hb; replace BK364 := bB BK364 hb; replace BK365 := bB BK365 hb; replace BK366 := bB BK366 hb; replace BK372 := bB BK372 hb; replace HB := hS HB hb; clear hb) | ((with_reducible refine gG 52 (some 131) rfl rfl ?_); refine gC Tryd.func52 (impl_DoesFit.calls kj23 1 t388 0 a0 t390 t391 _ A71.out) ?_; rintro w85 hb; replace HO_373001 := rB HO_373001 hb; replace HO382 := rB HO382 hb; replace BK361 := bB BK361 hb; replace BK362 := bB BK362 hb; replace BK363 := bB BK363 hb; replace BK364 := bB BK364 hb; replace BK365 := bB BK365 hb; replace BK366 := bB BK366 hb; replace BK372 := bB BK372 hb; replace HB := hS HB hb; clear hb) | ((with_reducible refine gG 36 (some 136) rfl rfl ?_); refine gD Tryd.func36 (impl_MovesOf.calls kj23 a0 t392 t393 _ A72.out) ?_; rintro w86 v394 ⟨ho0, hb⟩; have HO395 := rL ho0 HB; replace HO_373001 := rB HO_373001 hb; replace HO382 := rB HO382 hb; replace BK361 := bB BK361 hb; replace BK362 := bB BK362 hb; replace BK363 := bB BK363 hb; replace BK364 := bB BK364 hb; replace BK365 := bB BK365 hb; replace BK366 := bB BK366 hb; replace BK372 := bB BK372 hb; replace HB := hS HB hb; clear hb ho0))
     (try simp only [Act.put, List.setIfInBounds_toArray, List.set_cons_zero, List.set_cons_succ])
     go_cut [186] from 105 to 186 (fun v186 wc => ∃ (kq : Nat) (x186_72 : Bool), v186 = .bool x186_72 ∧ Aside0 (laws_FnStatesHiddenOfAll.j2 kq a0 a7 a9 a10 t392 x186_72 a3_0 l3_1 a4_0 l4_1 a5_0 a5_1 a5_2 a6_0 l6_1 a8_0 a8_1 a8_2 a11_0 a11_1 a11_2 = some r) ∧ Aside0 (kq ≤ kj23) ∧ Aside0 (Kd.R (Kd.int .i64) 3 wc w.heap.size (fun _ => True) v394 t392) ∧ Aside0 (wc.heap[gb361]? = some (.cells #[.int .i64 a3_0, (.slice A3_1 l3_1.length c3_1)] 57 (0, 0))) ∧ Aside0 (wc.heap[gb362]? = some (.cells #[.int .i64 a4_0, (.slice A4_1 l4_1.length c4_1)] 57 (0, 0))) ∧ Aside0 (wc.heap[gb363]? = some (.cells #[.int .i64 a5_0, .int .i64 a5_1, .int .i64 a5_2] 59 (0, 0))) ∧ Aside0 (wc.heap[gb364]? = some (.cells #[.int .i64 a6_0, (.slice A6_1 l6_1.length c6_1)] 57 (0, 0))) ∧ Aside0 (wc.heap[gb365]? = some (.cells #[.int .i64 a8_0, .int .i64 a8_1, .int .i64 a8_2] 59 (0, 0))) ∧ Aside0 (wc.heap[gb366]? = some (.cells #[.int .i64 a11_0, .int .i64 a11_1, .int .i64 a11_2] 59 (0, 0))) ∧ Aside0 (Below w.heap.size w wc))
     case first => as_aux_lemma =>
      have H := HC73.out
      clear HC73
      replace H := bC H; obtain ⟨t396, A87, H⟩ := H
      refine iBy H ?_; clear H; rintro rfl H
      refine iY H ?_; clear H; intro c89 H
      have c89b0 := qT c89
      have c89b1 := nF c89
      clear c89
      (first | rw [c89b0] | (simp only [i64_w, i32_w]; rw [c89b0]) | skip)
      refine iBy H ?_; clear H; rintro rfl H
      replace H := bC H; obtain ⟨t397, A91, H⟩ := H
      refine iBy H ?_; clear H; rintro rfl H
      refine iBy H ?_; clear H; rintro rfl H
      refine iBy H ?_; clear H; rintro rfl H
      refine iBy H ?_; clear H; rintro rfl H
      refine iBy H ?_; clear H; rintro rfl H
      refine iBy H ?_; clear H; rintro rfl H
      refine iBy H ?_; clear H; rintro rfl H
      have H' := aM H
      clear H
      have hnb99 := NB372_361.out
      have hnc99 := NB361_372.out
      have hnb100 := NB372_362.out
      have hnc100 := NB362_372.out
      have hnb101 := NB372_363.out
      have hnc101 := NB363_372.out
      have hnb102 := NB372_364.out
      have hnc102 := NB364_372.out
      have hnb103 := NB372_365.out
      have hnc103 := NB365_372.out
      have hnb104 := NB372_366.out
      have hnc104 := NB366_372.out
      obtain ⟨hcz105_0, hcz105_1, hfz105_0, hfz105_1⟩ := hC2 BK372
      go_wp2_with (first | ((with_reducible refine gG 53 (some 140) rfl rfl ?_); refine gC Tryd.func53 (impl_IsPuzzle.calls t367 _ _ t368 true _ (cU (Kd.R_reads' HO_373001.out).2.2) ((Kd.R_reads' HO_373001.out).2.1) A87.out) ?_; rintro w106 hb; replace HO_373001 := rB HO_373001 hb; replace HO382 := rB HO382 hb; replace HO395 := rB HO395 hb; replace BK361 := bB BK361 hb; replace BK362 := bB BK362 hb; replace BK363 := bB BK363 hb; replace BK364 := bB BK364 hb; replace BK365 := bB BK365 hb; replace BK366 := bB BK366 hb; replace BK372 := bB BK372 hb; replace HB := hS HB hb; clear hb; obtain ⟨hcz107_0, hcz107_1, hfz107_0, hfz107_1⟩ := hC2 BK372; obtain ⟨Ao108, co108, eo108⟩ := Kd.R_slice HO382.out; subst eo108) | (go_at_call 54; (with_reducible refine (laws_xText.calls kj23 _ _ t380 a0 true _ (cU (Kd.R_reads' HO382.out).2.2) ((Kd.R_reads' HO382.out).2.1) A91.out).mono ?_); rintro e w' ⟨rfl, ⟨nd, rfl⟩⟩))
      go_meet
      case rel => exact ⟨_, (!t393), rF, H', ⟨by have := HJ12.out; have := HJ23.out; first | omega | exact Nat.le_refl _⟩, ⟨rU HO395.out⟩, ⟨bU BK361.out⟩, ⟨bU BK362.out⟩, ⟨bU BK363.out⟩, ⟨bU BK364.out⟩, ⟨bU BK365.out⟩, ⟨bU BK366.out⟩, hV HB⟩
     case rest => as_aux_lemma =>
      clear HC73
      try clear hcz80_0;try clear hcz80_1;try clear hfz80_0;try clear hfz80_1
      obtain ⟨kq, x186_72, rfl, HA, HJ72, HO_39, BK361, BK362, BK363, BK364, BK365, BK366, HB⟩ := hcut
      obtain rfl | ⟨kj72, rfl⟩ := fz kq
      ·exact zA HA
      have H := HA.out
      clear HA
      simp only [laws_FnStatesHiddenOfAll.j2] at H
      refine iBn H ?_; clear H; rintro rfl H
      have H' := aM H
      clear H
      go_wp2
      obtain ⟨KI188, hKq_, hKb_, hIq_, hBq_⟩ := rng_start HB.out a0
      have hKB188 := aM hKb_
      have hIq_ := aM hIq_
      have HO_39 := aM (rng_R HO_39.out a0)
      have hne188_BK361 := aM (rng_lt BK361.out hKq_)
      have BK361 := aM (rng_B BK361.out a0)
      have hne188_BK362 := aM (rng_lt BK362.out hKq_)
      have BK362 := aM (rng_B BK362.out a0)
      have hne188_BK363 := aM (rng_lt BK363.out hKq_)
      have BK363 := aM (rng_B BK363.out a0)
      have hne188_BK364 := aM (rng_lt BK364.out hKq_)
      have BK364 := aM (rng_B BK364.out a0)
      have hne188_BK365 := aM (rng_lt BK365.out hKq_)
      have BK365 := aM (rng_B BK365.out a0)
      have hne188_BK366 := aM (rng_lt BK366.out hKq_)
      have BK366 := aM (rng_B BK366.out a0)
      have HB := aM hBq_
      rw [← hKq_]
      clear hKq_ hKb_ hBq_
      go_loopg [] kj72 (fun kq w' => ∃ (x188_4 : Int), Aside0 (0 ≤ x188_4) ∧ Aside0 (w'.heap[KI188]? = some (.stringIter a0 x188_4.toNat)) ∧ Aside0 (laws_FnStatesHiddenOfAll.l0 kq a0 a7 a9 a10 t392 a0 x188_4 a3_0 l3_1 a4_0 l4_1 a5_0 a5_1 a5_2 a6_0 l6_1 a8_0 a8_1 a8_2 a11_0 a11_1 a11_2 = some r) ∧ Aside0 (kq ≤ kj72) ∧ Aside0 (Kd.R (Kd.int .i64) 3 w' w.heap.size (fun _ => True) v394 t392) ∧ Aside0 (w'.heap[gb361]? = some (.cells #[.int .i64 a3_0, (.slice A3_1 l3_1.length c3_1)] 57 (0, 0))) ∧ Aside0 (w'.heap[gb362]? = some (.cells #[.int .i64 a4_0, (.slice A4_1 l4_1.length c4_1)] 57 (0, 0))) ∧ Aside0 (w'.heap[gb363]? = some (.cells #[.int .i64 a5_0, .int .i64 a5_1, .int .i64 a5_2] 59 (0, 0))) ∧ Aside0 (w'.heap[gb364]? = some (.cells #[.int .i64 a6_0, (.slice A6_1 l6_1.length c6_1)] 57 (0, 0))) ∧ Aside0 (w'.heap[gb365]? = some (.cells #[.int .i64 a8_0, .int .i64 a8_1, .int .i64 a8_2] 59 (0, 0))) ∧ Aside0 (w'.heap[gb366]? = some (.cells #[.int .i64 a11_0, .int .i64 a11_1, .int .i64 a11_2] 59 (0, 0))) ∧ Aside0 (Below w.heap.size w w'))
      case atStart => exact ⟨(0), ⟨Int.le_refl 0⟩, ⟨hIq_.out⟩, H', kR, ⟨rU HO_39.out⟩, ⟨bU BK361.out⟩, ⟨bU BK362.out⟩, ⟨bU BK363.out⟩, ⟨bU BK364.out⟩, ⟨bU BK365.out⟩, ⟨bU BK366.out⟩, hV HB⟩
      case round => as_aux_lemma =>
       clear H'
       obtain ⟨x188_4, h0I188, HI188, HA, HK4, HO_39, BK361, BK362, BK363, BK364, BK365, BK366, HB⟩ := hrel
       obtain rfl | ⟨k4, rfl⟩ := fz gk
       ·exact zA HA
       have H := HA.out
       clear HA
       simp only [laws_FnStatesHiddenOfAll.l0] at H
       refine iI H ?_ ?_ <;> clear H <;> intro c110 H
       ·have c110b0 := dT c110
        clear c110
        refine iY H ?_; clear H; intro c111 H
        have c111b0 := dT c111
        clear c111
        refine iY H ?_; clear H; intro c113 H
        have c113b0 := dT c113
        clear c113
        refine iY H ?_; clear H; intro c114 H
        have c114b0 := dT c114
        clear c114
        replace H := bC H; obtain ⟨t398, A115, H⟩ := H
        refine iB H ?_ ?_ <;> clear H <;> rintro rfl H
        ·replace H := bC H; obtain ⟨⟨t399, t400⟩, A117, H⟩ := H; try dsimp only at H
         refine iBy H ?_; clear H; rintro rfl H
         refine iBy H ?_; clear H; rintro rfl H
         have H' := aM H
         clear H
         have p112 : 0 ≤ (x188_4 : Int) := oD
         have q112 : x188_4 < (a0.size : Int) := oD
         have hx112 := bt_at a0 x188_4
         replace p112 := eq_true p112
         replace q112 := eq_true q112
         obtain ⟨Ao120, co120, eo120⟩ := Kd.R_slice HO_39.out
         subst eo120
         have hltI_ : x188_4 < (a0.size : Int) := of_decide_eq_true (by assumption)
         have hbtI_ : bt a0 x188_4 < 128 := of_decide_eq_true (by assumption)
         have hwI188 := aM (show wrap64 (x188_4 + 1) = x188_4 + 1 from by have h9_ : x188_4 < 1000000000 := of_decide_eq_true (by assumption); have h8_ := h0I188.out; unfold wrap64; omega)
         obtain ⟨rn_, hnext⟩ := rng_next (P := Tryd.prog) HI188.out h0I188.out hltI_ hbtI_
         clear hltI_ hbtI_
         have nI_ := aM (rng_at (p' := (x188_4 + 1).toNat) HI188.out)
         have nHO_39_ := aM (R_iter (p' := (x188_4 + 1).toNat) HO_39.out HI188.out)
         have nBK361_ := aM (rng_other (s := a0) (p := (x188_4 + 1).toNat) BK361.out hne188_BK361.out)
         have nBK362_ := aM (rng_other (s := a0) (p := (x188_4 + 1).toNat) BK362.out hne188_BK362.out)
         have nBK363_ := aM (rng_other (s := a0) (p := (x188_4 + 1).toNat) BK363.out hne188_BK363.out)
         have nBK364_ := aM (rng_other (s := a0) (p := (x188_4 + 1).toNat) BK364.out hne188_BK364.out)
         have nBK365_ := aM (rng_other (s := a0) (p := (x188_4 + 1).toNat) BK365.out hne188_BK365.out)
         have nBK366_ := aM (rng_other (s := a0) (p := (x188_4 + 1).toNat) BK366.out hne188_BK366.out)
         have nHB_ := aM (rng_below (s := a0) (p := (x188_4 + 1).toNat) HB.out hKB188.out)
         clear HI188 HO_39 BK361 BK362 BK363 BK364 BK365 BK366 HB
         have HI188 := nI_
         have HO_39 := nHO_39_
         have BK361 := nBK361_
         have BK362 := nBK362_
         have BK363 := nBK363_
         have BK364 := nBK364_
         have BK365 := nBK365_
         have BK366 := nBK366_
         have HB := nHB_
         clear nI_ nHO_39_ nBK361_ nBK362_ nBK363_ nBK364_ nBK365_ nBK366_ nHB_
         generalize wr.iterAt KI188 a0 (x188_4 + 1).toNat = wr at hnext HI188 HO_39 BK361 BK362 BK363 BK364 BK365 BK366 HB
         go_wp2_with (first | ((with_reducible refine gG 55 (some 194) rfl rfl ?_); refine gL Tryd.func55 #[.slice Ao120 t392.length co120, .int .i64 x188_4] ?_; (with_reducible refine (laws_xHas.calls k4 _ _ t392 x188_4 true _ (cU (Kd.R_reads' HO_39.out).2.2) ((Kd.R_reads' HO_39.out).2.1) A115.out).mono ?_); rintro e w' ⟨rfl, ⟨nd, rfl⟩⟩; refine ⟨_, rfl, ?_⟩) | ((with_reducible refine gG 52 (some 200) rfl rfl ?_); refine gC Tryd.func52 (impl_DoesFit.calls k4 4 x188_4 1 a0 true true _ A117.out) ?_; rintro w121 hb; have n0_ := rB HO_39 hb; have n1_ := bB BK361 hb; have n2_ := bB BK362 hb; have n3_ := bB BK363 hb; have n4_ := bB BK364 hb; have n5_ := bB BK365 hb; have n6_ := bB BK366 hb; have n188i_ := aM (blk_below (bU HI188.out) hb); have n7_ := hS HB hb; clear HO_39; clear BK361; clear BK362; clear BK363; clear BK364; clear BK365; clear BK366; clear HI188; clear HB; have HO_39 := n0_; have BK361 := n1_; have BK362 := n2_; have BK363 := n3_; have BK364 := n4_; have BK365 := n5_; have BK366 := n6_; have HI188 := n188i_; have HB := n7_; clear n0_ n1_ n2_ n3_ n4_ n5_ n6_ n7_ n188i_; clear hb))
         try clear hnext
         go_roundg k4
         case measure => have := HJ12.out; have := HJ23.out; have := HJ72.out; have := HK4.out; omega
         case rel => exact ⟨(wrap64 (x188_4 + 1)), ⟨by rw [hwI188.out]; have h8_ := h0I188.out; omega⟩, ⟨by rw [hwI188.out]; (with_reducible repeat (first | refine blk_drewN ?_ _ | refine blk_drew ?_ | refine blk_alloc ?_ _)); exact HI188.out⟩, H', ⟨by have := HJ12.out; have := HJ23.out; have := HJ72.out; have := HK4.out; omega⟩, ⟨rU HO_39.out⟩, ⟨bU BK361.out⟩, ⟨bU BK362.out⟩, ⟨bU BK363.out⟩, ⟨bU BK364.out⟩, ⟨bU BK365.out⟩, ⟨bU BK366.out⟩, hV HB⟩
        replace H := bC H; obtain ⟨⟨t401, t402⟩, A122, H⟩ := H; try dsimp only at H
        refine iBy H ?_; clear H; rintro rfl H
        refine iBy H ?_; clear H; rintro rfl H
        have H' := aM H
        clear H
        have p112 : 0 ≤ (x188_4 : Int) := oD
        have q112 : x188_4 < (a0.size : Int) := oD
        have hx112 := bt_at a0 x188_4
        replace p112 := eq_true p112
        replace q112 := eq_true q112
        obtain ⟨Ao125, co125, eo125⟩ := Kd.R_slice HO_39.out
        subst eo125
        have hltI_ : x188_4 < (a0.size : Int) := of_decide_eq_true (by assumption)
        have hbtI_ : bt a0 x188_4 < 128 := of_decide_eq_true (by assumption)
        have hwI188 := aM (show wrap64 (x188_4 + 1) = x188_4 + 1 from by have h9_ : x188_4 < 1000000000 := of_decide_eq_true (by assumption); have h8_ := h0I188.out; unfold wrap64; omega)
        obtain ⟨rn_, hnext⟩ := rng_next (P := Tryd.prog) HI188.out h0I188.out hltI_ hbtI_
        clear hltI_ hbtI_
        have nI_ := aM (rng_at (p' := (x188_4 + 1).toNat) HI188.out)
        have nHO_39_ := aM (R_iter (p' := (x188_4 + 1).toNat) HO_39.out HI188.out)
        have nBK361_ := aM (rng_other (s := a0) (p := (x188_4 + 1).toNat) BK361.out hne188_BK361.out)
        have nBK362_ := aM (rng_other (s := a0) (p := (x188_4 + 1).toNat) BK362.out hne188_BK362.out)
        have nBK363_ := aM (rng_other (s := a0) (p := (x188_4 + 1).toNat) BK363.out hne188_BK363.out)
        have nBK364_ := aM (rng_other (s := a0) (p := (x188_4 + 1).toNat) BK364.out hne188_BK364.out)
        have nBK365_ := aM (rng_other (s := a0) (p := (x188_4 + 1).toNat) BK365.out hne188_BK365.out)
        have nBK366_ := aM (rng_other (s := a0) (p := (x188_4 + 1).toNat) BK366.out hne188_BK366.out)
        have nHB_ := aM (rng_below (s := a0) (p := (x188_4 + 1).toNat) HB.out hKB188.out)
        clear HI188 HO_39 BK361 BK362 BK363 BK364 BK365 BK366 HB
        have HI188 := nI_
        have HO_39 := nHO_39_
        have BK361 := nBK361_
        have BK362 := nBK362_
        have BK363 := nBK363_
        have BK364 := nBK364_
        have BK365 := nBK365_
        have BK366 := nBK366_
        have HB := nHB_
        clear nI_ nHO_39_ nBK361_ nBK362_ nBK363_ nBK364_ nBK365_ nBK366_ nHB_
        generalize wr.iterAt KI188 a0 (x188_4 + 1).toNat = wr at hnext HI188 HO_39 BK361 BK362 BK363 BK364 BK365 BK366 HB
        go_wp2_with (first | ((with_reducible refine gG 55 (some 194) rfl rfl ?_); refine gL Tryd.func55 #[.slice Ao125 t392.length co125, .int .i64 x188_4] ?_; (with_reducible refine (laws_xHas.calls k4 _ _ t392 x188_4 false _ (cU (Kd.R_reads' HO_39.out).2.2) ((Kd.R_reads' HO_39.out).2.1) A115.out).mono ?_); rintro e w' ⟨rfl, ⟨nd, rfl⟩⟩; refine ⟨_, rfl, ?_⟩) | ((with_reducible refine gG 52 (some 200) rfl rfl ?_); refine gC Tryd.func52 (impl_DoesFit.calls k4 4 x188_4 0 a0 true true _ A122.out) ?_; rintro w126 hb; have n0_ := rB HO_39 hb; have n1_ := bB BK361 hb; have n2_ := bB BK362 hb; have n3_ := bB BK363 hb; have n4_ := bB BK364 hb; have n5_ := bB BK365 hb; have n6_ := bB BK366 hb; have n188i_ := aM (blk_below (bU HI188.out) hb); have n7_ := hS HB hb; clear HO_39; clear BK361; clear BK362; clear BK363; clear BK364; clear BK365; clear BK366; clear HI188; clear HB; have HO_39 := n0_; have BK361 := n1_; have BK362 := n2_; have BK363 := n3_; have BK364 := n4_; have BK365 := n5_; have BK366 := n6_; have HI188 := n188i_; have HB := n7_; clear n0_ n1_ n2_ n3_ n4_ n5_ n6_ n7_ n188i_; clear hb))
        try clear hnext
        go_roundg k4
        case measure => have := HJ12.out; have := HJ23.out; have := HJ72.out; have := HK4.out; omega
        case rel => exact ⟨(wrap64 (x188_4 + 1)), ⟨by rw [hwI188.out]; have h8_ := h0I188.out; omega⟩, ⟨by rw [hwI188.out]; (with_reducible repeat (first | refine blk_drewN ?_ _ | refine blk_drew ?_ | refine blk_alloc ?_ _)); exact HI188.out⟩, H', ⟨by have := HJ12.out; have := HJ23.out; have := HJ72.out; have := HK4.out; omega⟩, ⟨rU HO_39.out⟩, ⟨bU BK361.out⟩, ⟨bU BK362.out⟩, ⟨bU BK363.out⟩, ⟨bU BK364.out⟩, ⟨bU BK365.out⟩, ⟨bU BK366.out⟩, hV HB⟩
       have c110b0 := dF c110
       clear c110
       have H' := aM H
       clear H
       have hnext := rng_end (P := Tryd.prog) HI188.out h0I188.out (of_decide_eq_false (by assumption) : ¬ x188_4 < (a0.size : Int))
       go_wp2
       try clear hnext
       go_meet
       case rel => exact ⟨_, H', ⟨by have := HJ12.out; have := HJ23.out; have := HJ72.out; have := HK4.out; first | omega | exact Nat.le_refl _⟩, ⟨bU BK361.out⟩, ⟨bU BK362.out⟩, ⟨bU BK363.out⟩, ⟨bU BK364.out⟩, ⟨bU BK365.out⟩, ⟨bU BK366.out⟩, hV HB⟩
    have H' := aM H
    clear H
    go_wp2
    go_meet
    case rel => exact ⟨_, H', ⟨by have := HJ12.out; have := HJ23.out; first | omega | exact Nat.le_refl _⟩, ⟨bU BK361.out⟩, ⟨bU BK362.out⟩, ⟨bU BK363.out⟩, ⟨bU BK364.out⟩, ⟨bU BK365.out⟩, ⟨bU BK366.out⟩, hV HB⟩
   case rest => as_aux_lemma =>
    clear HC65
    obtain ⟨kq, HA, HJ64, BK361, BK362, BK363, BK364, BK365, BK366, HB⟩ := hcut
    obtain rfl | ⟨kj64, rfl⟩ := fz kq
    ·exact zA HA
    have H := HA.out
    clear HA
    simp only [laws_FnStatesHiddenOfAll.j4] at H
    replace H := bC H; obtain ⟨⟨t403, t404, t407⟩, A127, H⟩ := H; try dsimp only at H
    replace H := bC H; obtain ⟨⟨t409, t410, t413⟩, A128, H⟩ := H; try dsimp only at H
    replace H := bC H; obtain ⟨⟨t415, t416⟩, A129, H⟩ := H; try dsimp only at H
    have HC130 := aM H
    clear H
    have hnb131 := NB361_362.out
    have hnc131 := NB362_361.out
    have hnb132 := NB361_363.out
    have hnc132 := NB363_361.out
    have hnb133 := NB361_364.out
    have hnc133 := NB364_361.out
    have hnb134 := NB361_365.out
    have hnc134 := NB365_361.out
    have hnb135 := NB361_366.out
    have hnc135 := NB366_361.out
    obtain ⟨hcz136_0, hcz136_1, hfz136_0, hfz136_1⟩ := hC2 BK361
    go_upto_region 28 with (first | ((with_reducible refine gG 56 (some 211) rfl rfl ?_); refine gD Tryd.func56 (impl_HarderPuzzle.calls kj64 a3_0 _ _ l3_1 t403 t404 t407 _ (cU (Kd.C_below HR3_1.out HB.out)) HC3_1.out A127.out) ?_; rintro w137 v405 ⟨ho0, hb⟩; have HO406 := aM (Kd.R_lower (Kd.R_newB (Kd.R_newB (Kd.R_newB ho0 (g := gb363) (o := .cells #[.int .i64 a5_0, .int .i64 a5_1, .int .i64 a5_2] 59 (0, 0)) (bU BK363.out)) (g := gb365) (o := .cells #[.int .i64 a8_0, .int .i64 a8_1, .int .i64 a8_2] 59 (0, 0)) (bU BK365.out)) (g := gb366) (o := .cells #[.int .i64 a11_0, .int .i64 a11_1, .int .i64 a11_2] 59 (0, 0)) (bU BK366.out)) (below_size (bel HB))); replace BK361 := bB BK361 hb; replace BK362 := bB BK362 hb; replace BK363 := bB BK363 hb; replace BK364 := bB BK364 hb; replace BK365 := bB BK365 hb; replace BK366 := bB BK366 hb; replace HB := hS HB hb; clear hb ho0) | ((with_reducible refine gate_dst (N := 45) rfl ?_); (try (refine gate_guard (by rfl) ?_; dsimp only)); refine bX (N := 45) rfl (cs := #[.int .i64 0, .slice none 0 0]) (t := 57) ?_; intro gb408 hg w138 BK408 hb; have GW408 := gE hg HB; have GE408 := gE hg HB; have NB361_408 := nbL hg BK361; have NB408_361 := nbR hg BK361; have NB362_408 := nbL hg BK362; have NB408_362 := nbR hg BK362; have NB363_408 := nbL hg BK363; have NB408_363 := nbR hg BK363; have NB364_408 := nbL hg BK364; have NB408_364 := nbR hg BK364; have NB365_408 := nbL hg BK365; have NB408_365 := nbR hg BK365; have NB366_408 := nbL hg BK366; have NB408_366 := nbR hg BK366; replace HO406 := rB HO406 hb; replace BK361 := bB BK361 hb; replace BK362 := bB BK362 hb; replace BK363 := bB BK363 hb; replace BK364 := bB BK364 hb; replace BK365 := bB BK365 hb; replace BK366 := bB BK366 hb; replace HB := hS HB hb; clear hb hg; have hnb139 := NB408_361.out; have hnc139 := NB361_408.out; have hnb140 := NB408_362.out; have hnc140 := NB362_408.out; have hnb141 := NB408_363.out; have hnc141 := NB363_408.out; have hnb142 := NB408_364.out; have hnc142 := NB364_408.out; have hnb143 := NB408_365.out; have hnc143 := NB365_408.out; have hnb144 := NB408_366.out; have hnc144 := NB366_408.out; obtain ⟨hcz145_0, hcz145_1, hfz145_0, hfz145_1⟩ := hC2 BK408; obtain ⟨Ao146, co146, eo146⟩ := Kd.R_slice HO406.out; subst eo146; obtain ⟨hcz147_0, hcz147_1, hfz147_0, hfz147_1⟩ := hC2 BK361) | ((with_reducible refine gG 57 (some 216) rfl rfl ?_); refine gD Tryd.func57 (spec_HarderPuzzle.calls kj64 a3_0 _ _ l3_1 t409 t410 t413 _ (Kd.C_below HR3_1.out (bel HB)) HC3_1.out A128.out) ?_; rintro w148 v411 ⟨ho0, hb⟩; have HO412 := aM (Kd.R_lower (Kd.R_newB (Kd.R_newB (Kd.R_newB (Kd.R_new' ho0 (Kd.R_lt (rU (Kd.R_mono (Kd.R_far (p := ⟨gb408, 1, none⟩) (Kd.R_far (p := ⟨gb408, 0, none⟩) (Kd.R_types HO406.out BK408.out (by decide)) (fun _ hk => hk.2) (.int .i64 t403)) (fun _ hk => hk.2) (.slice Ao146 t404.length co146)) (fun _ h_ => h_.1))))) (g := gb363) (o := .cells #[.int .i64 a5_0, .int .i64 a5_1, .int .i64 a5_2] 59 (0, 0)) (by (with_reducible repeat (first | refine blk_drewN ?_ _ | refine blk_drew ?_ | refine blk_alloc ?_ _)); refine blk_far ?_ NB363_408.out _; (with_reducible repeat (first | refine blk_drewN ?_ _ | refine blk_drew ?_ | refine blk_alloc ?_ _)); refine blk_far ?_ NB363_408.out _; (with_reducible repeat (first | refine blk_drewN ?_ _ | refine blk_drew ?_ | refine blk_alloc ?_ _)); exact BK363.out)) (g := gb365) (o := .cells #[.int .i64 a8_0, .int .i64 a8_1, .int .i64 a8_2] 59 (0, 0)) (by (with_reducible repeat (first | refine blk_drewN ?_ _ | refine blk_drew ?_ | refine blk_alloc ?_ _)); refine blk_far ?_ NB365_408.out _; (with_reducible repeat (first | refine blk_drewN ?_ _ | refine blk_drew ?_ | refine blk_alloc ?_ _)); refine blk_far ?_ NB365_408.out _; (with_reducible repeat (first | refine blk_drewN ?_ _ | refine blk_drew ?_ | refine blk_alloc ?_ _)); exact BK365.out)) (g := gb366) (o := .cells #[.int .i64 a11_0, .int .i64 a11_1, .int .i64 a11_2] 59 (0, 0)) (by (with_reducible repeat (first | refine blk_drewN ?_ _ | refine blk_drew ?_ | refine blk_alloc ?_ _)); refine blk_far ?_ NB366_408.out _; (with_reducible repeat (first | refine blk_drewN ?_ _ | refine blk_drew ?_ | refine blk_alloc ?_ _)); refine blk_far ?_ NB366_408.out _; (with_reducible repeat (first | refine blk_drewN ?_ _ | refine blk_drew ?_ | refine blk_alloc ?_ _)); exact BK366.out)) (below_size (bel HB))); replace HO406 := aM (Kd.R_elder' (rU (Kd.R_mono (Kd.R_far (p := ⟨gb408, 1, none⟩) (Kd.R_far (p := ⟨gb408, 0, none⟩) (Kd.R_types HO406.out BK408.out (by decide)) (fun _ hk => hk.2) (.int .i64 t403)) (fun _ hk => hk.2) (.slice Ao146 t404.length co146)) (fun _ h_ => h_.1))) (Kd.R_base ho0) hb); replace BK361 := aM (blk_below (g := gb361) (o := .cells #[.int .i64 a3_0, .slice A3_1 l3_1.length c3_1] 57 (0, 0)) (by (with_reducible repeat (first | refine blk_drewN ?_ _ | refine blk_drew ?_ | refine blk_alloc ?_ _)); refine blk_far ?_ NB361_408.out _; (with_reducible repeat (first | refine blk_drewN ?_ _ | refine blk_drew ?_ | refine blk_alloc ?_ _)); refine blk_far ?_ NB361_408.out _; (with_reducible repeat (first | refine blk_drewN ?_ _ | refine blk_drew ?_ | refine blk_alloc ?_ _)); exact BK361.out) hb); replace BK362 := aM (blk_below (g := gb362) (o := .cells #[.int .i64 a4_0, .slice A4_1 l4_1.length c4_1] 57 (0, 0)) (by (with_reducible repeat (first | refine blk_drewN ?_ _ | refine blk_drew ?_ | refine blk_alloc ?_ _)); refine blk_far ?_ NB362_408.out _; (with_reducible repeat (first | refine blk_drewN ?_ _ | refine blk_drew ?_ | refine blk_alloc ?_ _)); refine blk_far ?_ NB362_408.out _; (with_reducible repeat (first | refine blk_drewN ?_ _ | refine blk_drew ?_ | refine blk_alloc ?_ _)); exact BK362.out) hb); replace BK363 := aM (blk_below (g := gb363) (o := .cells #[.int .i64 a5_0, .int .i64 a5_1, .int .i64 a5_2] 59 (0, 0)) (by (with_reducible repeat (first | refine blk_drewN ?_ _ | refine blk_drew ?_ | refine blk_alloc ?_ _)); refine blk_far ?_ NB363_408.out _; (with_reducible repeat (first | refine blk_drewN ?_ _ | refine blk_drew ?_ | refine blk_alloc ?_ _)); refine blk_far ?_ NB363_408.out _; (with_reducible repeat (first | refine blk_drewN ?_ _ | refine blk_drew ?_ | refine blk_alloc ?_ _)); exact BK363.out) hb); replace BK364 := aM (blk_below (g := gb364) (o := .cells #[.int .i64 a6_0, .slice A6_1 l6_1.length c6_1] 57 (0, 0)) (by (with_reducible repeat (first | refine blk_drewN ?_ _ | refine blk_drew ?_ | refine blk_alloc ?_ _)); refine blk_far ?_ NB364_408.out _; (with_reducible repeat (first | refine blk_drewN ?_ _ | refine blk_drew ?_ | refine blk_alloc ?_ _)); refine blk_far ?_ NB364_408.out _; (with_reducible repeat (first | refine blk_drewN ?_ _ | refine blk_drew ?_ | refine blk_alloc ?_ _)); exact BK364.out) hb); replace BK365 := aM (blk_below (g := gb365) (o := .cells #[.int .i64 a8_0, .int .i64 a8_1, .int .i64 a8_2] 59 (0, 0)) (by (with_reducible repeat (first | refine blk_drewN ?_ _ | refine blk_drew ?_ | refine blk_alloc ?_ _)); refine blk_far ?_ NB365_408.out _; (with_reducible repeat (first | refine blk_drewN ?_ _ | refine blk_drew ?_ | refine blk_alloc ?_ _)); refine blk_far ?_ NB365_408.out _; (with_reducible repeat (first | refine blk_drewN ?_ _ | refine blk_drew ?_ | refine blk_alloc ?_ _)); exact BK365.out) hb); replace BK366 := aM (blk_below (g := gb366) (o := .cells #[.int .i64 a11_0, .int .i64 a11_1, .int .i64 a11_2] 59 (0, 0)) (by (with_reducible repeat (first | refine blk_drewN ?_ _ | refine blk_drew ?_ | refine blk_alloc ?_ _)); refine blk_far ?_ NB366_408.out _; (with_reducible repeat (first | refine blk_drewN ?_ _ | refine blk_drew ?_ | refine blk_alloc ?_ _)); refine blk_far ?_ NB366_408.out _; (with_reducible repeat (first | refine blk_drewN ?_ _ | refine blk_drew ?_ | refine blk_alloc ?_ _)); exact BK366.out) hb); replace BK408 := aM (blk_below (g := gb408) (o := .cells #[.int .i64 t403, .slice Ao146 t404.length co146] 57 (0, 0)) (by (with_reducible repeat (first | refine blk_drewN ?_ _ | refine blk_drew ?_ | refine blk_alloc ?_ _)); refine blk_put (cs := #[.int .i64 t403, .slice none 0 0]) ?_ 1 _ rfl; (with_reducible repeat (first | refine blk_drewN ?_ _ | refine blk_drew ?_ | refine blk_alloc ?_ _)); refine blk_put (cs := #[.int .i64 0, .slice none 0 0]) ?_ 0 _ rfl; (with_reducible repeat (first | refine blk_drewN ?_ _ | refine blk_drew ?_ | refine blk_alloc ?_ _)); exact BK408.out) hb); replace HB := hS HB hb; clear hb ho0) | ((with_reducible refine gate_dst (N := 47) rfl ?_); (try (refine gate_guard (by rfl) ?_; dsimp only)); refine bX (N := 47) rfl (cs := #[.int .i64 0, .slice none 0 0]) (t := 57) ?_; intro gb414 hg w149 BK414 hb; have GW414 := gE hg HB; have GE414 := gE hg HB; have NB361_414 := nbL hg BK361; have NB414_361 := nbR hg BK361; have NB362_414 := nbL hg BK362; have NB414_362 := nbR hg BK362; have NB363_414 := nbL hg BK363; have NB414_363 := nbR hg BK363; have NB364_414 := nbL hg BK364; have NB414_364 := nbR hg BK364; have NB365_414 := nbL hg BK365; have NB414_365 := nbR hg BK365; have NB366_414 := nbL hg BK366; have NB414_366 := nbR hg BK366; have NB408_414 := nbL hg BK408; have NB414_408 := nbR hg BK408; replace HO406 := rB HO406 hb; replace HO412 := rB HO412 hb; replace BK361 := bB BK361 hb; replace BK362 := bB BK362 hb; replace BK363 := bB BK363 hb; replace BK364 := bB BK364 hb; replace BK365 := bB BK365 hb; replace BK366 := bB BK366 hb; replace BK408 := bB BK408 hb; replace HB := hS HB hb; clear hb hg; have hnb150 := NB414_361.out; have hnc150 := NB361_414.out; have hnb151 := NB414_362.out; have hnc151 := NB362_414.out; have hnb152 := NB414_363.out; have hnc152 := NB363_414.out; have hnb153 := NB414_364.out; have hnc153 := NB364_414.out; have hnb154 := NB414_365.out; have hnc154 := NB365_414.out; have hnb155 := NB414_366.out; have hnc155 := NB366_414.out; have hnb156 := NB414_408.out; have hnc156 := NB408_414.out; obtain ⟨hcz157_0, hcz157_1, hfz157_0, hfz157_1⟩ := hC2 BK414; obtain ⟨Ao158, co158, eo158⟩ := Kd.R_slice HO412.out; subst eo158; obtain ⟨hcz159_0, hcz159_1, hfz159_0, hfz159_1⟩ := hC2 BK361) | ((with_reducible refine gG 58 (some 221) rfl rfl ?_); refine gC Tryd.func58 (impl_IsSolved.calls a3_0 _ _ l3_1 t415 t416 _ (Kd.C_below HR3_1.out (bel HB)) HC3_1.out A129.out) ?_; rintro w160 hb; replace HO406 := aM (Kd.R_below (rU (Kd.R_mono (Kd.R_far (p := ⟨gb414, 1, none⟩) (Kd.R_far (p := ⟨gb414, 0, none⟩) (Kd.R_types HO406.out BK414.out (by decide)) (fun _ hk => hk.2) (.int .i64 t409)) (fun _ hk => hk.2) (.slice Ao158 t410.length co158)) (fun _ h_ => h_.1))) hb); replace HO412 := aM (Kd.R_below (rU (Kd.R_mono (Kd.R_far (p := ⟨gb414, 1, none⟩) (Kd.R_far (p := ⟨gb414, 0, none⟩) (Kd.R_types HO412.out BK414.out (by decide)) (fun _ hk => hk.2) (.int .i64 t409)) (fun _ hk => hk.2) (.slice Ao158 t410.length co158)) (fun _ h_ => h_.1))) hb); replace BK361 := aM (blk_below (g := gb361) (o := .cells #[.int .i64 a3_0, .slice A3_1 l3_1.length c3_1] 57 (0, 0)) (by (with_reducible repeat (first | refine blk_drewN ?_ _ | refine blk_drew ?_ | refine blk_alloc ?_ _)); refine blk_far ?_ NB361_414.out _; (with_reducible repeat (first | refine blk_drewN ?_ _ | refine blk_drew ?_ | refine blk_alloc ?_ _)); refine blk_far ?_ NB361_414.out _; (with_reducible repeat (first | refine blk_drewN ?_ _ | refine blk_drew ?_ | refine blk_alloc ?_ _)); exact BK361.out) hb); replace BK362 := aM (blk_below (g := gb362) (o := .cells #[.int .i64 a4_0, .slice A4_1 l4_1.length c4_1] 57 (0, 0)) (by (with_reducible repeat (first | refine blk_drewN ?_ _ | refine blk_drew ?_ | refine blk_alloc ?_ _)); refine blk_far ?_ NB362_414.out _; (with_reducible repeat (first | refine blk_drewN ?_ _ | refine blk_drew ?_ | refine blk_alloc ?_ _)); refine blk_far ?_ NB362_414.out _; (with_reducible repeat (first | refine blk_drewN ?_ _ | refine blk_drew ?_ | refine blk_alloc ?_ _)); exact BK362.out) hb); replace BK363 := aM (blk_below (g := gb363) (o := .cells #[.int .i64 a5_0, .int .i64 a5_1, .int .i64 a5_2] 59 (0, 0)) (by (with_reducible repeat (first | refine blk_drewN ?_ _ | refine blk_drew ?_ | refine blk_alloc ?_ _)); refine blk_far ?_ NB363_414.out _; (with_reducible repeat (first | refine blk_drewN ?_ _ | refine blk_drew ?_ | refine blk_alloc ?_ _)); refine blk_far ?_ NB363_414.out _; (with_reducible repeat (first | refine blk_drewN ?_ _ | refine blk_drew ?_ | refine blk_alloc ?_ _)); exact BK363.out) hb); replace BK364 := aM (blk_below (g := gb364) (o := .cells #[.int .i64 a6_0, .slice A6_1 l6_1.length c6_1] 57 (0, 0)) (by (with_reducible repeat (first | refine blk_drewN ?_ _ | refine blk_drew ?_ | refine blk_alloc ?_ _)); refine blk_far ?_ NB364_414.out _; (with_reducible repeat (first | refine blk_drewN ?_ _ | refine blk_drew ?_ | refine blk_alloc ?_ _)); refine blk_far ?_ NB364_414.out _; (with_reducible repeat (first | refine blk_drewN ?_ _ | refine blk_drew ?_ | refine blk_alloc ?_ _)); exact BK364.out) hb); replace BK365 := aM (blk_below (g := gb365) (o := .cells #[.int .i64 a8_0, .int .i64 a8_1, .int .i64 a8_2] 59 (0, 0)) (by (with_reducible repeat (first | refine blk_drewN ?_ _ | refine blk_drew ?_ | refine blk_alloc ?_ _)); refine blk_far ?_ NB365_414.out _; (with_reducible repeat (first | refine blk_drewN ?_ _ | refine blk_drew ?_ | refine blk_alloc ?_ _)); refine blk_far ?_ NB365_414.out _; (with_reducible repeat (first | refine blk_drewN ?_ _ | refine blk_drew ?_ | refine blk_alloc ?_ _)); exact BK365.out) hb); replace BK366 := aM (blk_below (g := gb366) (o := .cells #[.int .i64 a11_0, .int .i64 a11_1, .int .i64 a11_2] 59 (0, 0)) (by (with_reducible repeat (first | refine blk_drewN ?_ _ | refine blk_drew ?_ | refine blk_alloc ?_ _)); refine blk_far ?_ NB366_414.out _; (with_reducible repeat (first | refine blk_drewN ?_ _ | refine blk_drew ?_ | refine blk_alloc ?_ _)); refine blk_far ?_ NB366_414.out _; (with_reducible repeat (first | refine blk_drewN ?_ _ | refine blk_drew ?_ | refine blk_alloc ?_ _)); exact BK366.out) hb); replace BK408 := aM (blk_below (g := gb408) (o := .cells #[.int .i64 t403, .slice Ao146 t404.length co146] 57 (0, 0)) (by (with_reducible repeat (first | refine blk_drewN ?_ _ | refine blk_drew ?_ | refine blk_alloc ?_ _)); refine blk_far ?_ NB408_414.out _; (with_reducible repeat (first | refine blk_drewN ?_ _ | refine blk_drew ?_ | refine blk_alloc ?_ _)); refine blk_far ?_ NB408_414.out _; (with_reducible repeat (first | refine blk_drewN ?_ _ | refine blk_drew ?_ | refine blk_alloc ?_ _)); exact BK408.out) hb); replace BK414 := aM (blk_below (g := gb414) (o := .cells #[.int .i64 t409, .slice Ao158 t410.length co158] 57 (0, 0)) (by (with_reducible repeat (first | refine blk_drewN ?_ _ | refine blk_drew ?_ | refine blk_alloc ?_ _)); refine blk_put (cs := #[.int .i64 t409, .slice none 0 0]) ?_ 1 _ rfl; (with_reducible repeat (first | refine blk_drewN ?_ _ | refine blk_drew ?_ | refine blk_alloc ?_ _)); refine blk_put (cs := #[.int .i64 0, .slice none 0 0]) ?_ 0 _ rfl; (with_reducible repeat (first | refine blk_drewN ?_ _ | refine blk_drew ?_ | refine blk_alloc ?_ _)); exact BK414.out) hb); replace HB := hS HB hb; clear hb))
    (try simp only [Act.put, List.setIfInBounds_toArray, List.set_cons_zero, List.set_cons_succ])
    go_cut [240] from 209 to 240 (fun v240 wc => ∃ (kq : Nat) (x240_129 : Bool), v240 = .bool x240_129 ∧ Aside0 (laws_FnStatesHiddenOfAll.j5 kq a7 a9 a10 t407 x240_129 a3_0 l3_1 a4_0 l4_1 a5_0 a5_1 a5_2 a6_0 l6_1 a8_0 a8_1 a8_2 a11_0 a11_1 a11_2 t403 t404 = some r) ∧ Aside0 (kq ≤ kj64) ∧ Aside0 (Kd.R k59 59 wc w.heap.size (fun k_ => k_ ≠ gb363 ∧ k_ ≠ gb365 ∧ k_ ≠ gb366) (.slice Ao146 t404.length co146) t404) ∧ Aside0 (wc.heap[gb361]? = some (.cells #[.int .i64 a3_0, (.slice A3_1 l3_1.length c3_1)] 57 (0, 0))) ∧ Aside0 (wc.heap[gb362]? = some (.cells #[.int .i64 a4_0, (.slice A4_1 l4_1.length c4_1)] 57 (0, 0))) ∧ Aside0 (wc.heap[gb363]? = some (.cells #[.int .i64 a5_0, .int .i64 a5_1, .int .i64 a5_2] 59 (0, 0))) ∧ Aside0 (wc.heap[gb364]? = some (.cells #[.int .i64 a6_0, (.slice A6_1 l6_1.length c6_1)] 57 (0, 0))) ∧ Aside0 (wc.heap[gb365]? = some (.cells #[.int .i64 a8_0, .int .i64 a8_1, .int .i64 a8_2] 59 (0, 0))) ∧ Aside0 (wc.heap[gb366]? = some (.cells #[.int .i64 a11_0, .int .i64 a11_1, .int .i64 a11_2] 59 (0, 0))) ∧ Aside0 (wc.heap[gb408]? = some (.cells #[.int .i64 t403, (.slice Ao146 t404.length co146)] 57 (0, 0))) ∧ Aside0 (Below w.heap.size w wc))
    case first => as_aux_lemma =>
     have H := HC130.out
     clear HC130
     refine iN H ?_; clear H; intro c161 H
     have c161b0 := bF c161
     (try have c161b1 := nD c161)
     (try have c161b2 := nQ c161)
     clear c161
     (first | rw [c161b0] | (simp only [i64_w, i32_w]; rw [c161b0]) | skip)
     replace H := bC H; obtain ⟨t417, A162, H⟩ := H
     refine iBy H ?_; clear H; rintro rfl H
     refine iB H ?_ ?_ <;> clear H <;> rintro rfl H
     ·have H' := aM H
      clear H
      have hnb165 := NB408_361.out
      have hnc165 := NB361_408.out
      have hnb166 := NB408_362.out
      have hnc166 := NB362_408.out
      have hnb167 := NB408_363.out
      have hnc167 := NB363_408.out
      have hnb168 := NB408_364.out
      have hnc168 := NB364_408.out
      have hnb169 := NB408_365.out
      have hnc169 := NB365_408.out
      have hnb170 := NB408_366.out
      have hnc170 := NB366_408.out
      have hnb171 := NB408_414.out
      have hnc171 := NB414_408.out
      obtain ⟨hcz172_0, hcz172_1, hfz172_0, hfz172_1⟩ := hC2 BK408
      have hnb173 := NB414_361.out
      have hnc173 := NB361_414.out
      have hnb174 := NB414_362.out
      have hnc174 := NB362_414.out
      have hnb175 := NB414_363.out
      have hnc175 := NB363_414.out
      have hnb176 := NB414_364.out
      have hnc176 := NB364_414.out
      have hnb177 := NB414_365.out
      have hnc177 := NB365_414.out
      have hnb178 := NB414_366.out
      have hnc178 := NB366_414.out
      obtain ⟨hcz179_0, hcz179_1, hfz179_0, hfz179_1⟩ := hC2 BK414
      go_wp2_with (first | (go_at_call 50; (with_reducible refine (laws_xPuzzle.calls kj64 t403 _ _ t404 t409 _ _ t410 true _ (cU (Kd.R_reads' HO406.out).2.2) ((Kd.R_reads' HO406.out).2.1) (cU (Kd.R_reads' HO412.out).2.2) ((Kd.R_reads' HO412.out).2.1) A162.out).mono ?_); rintro e w180 ⟨rfl, hb⟩; replace HO406 := rB HO406 hb; replace HO412 := rB HO412 hb; replace BK361 := bB BK361 hb; replace BK362 := bB BK362 hb; replace BK363 := bB BK363 hb; replace BK364 := bB BK364 hb; replace BK365 := bB BK365 hb; replace BK366 := bB BK366 hb; replace BK408 := bB BK408 hb; replace BK414 := bB BK414 hb; replace HB := hS HB hb; clear hb))
      go_meet
      case rel => exact ⟨_, ((t407 != t415)), rF, H', ⟨by have := HJ12.out; have := HJ23.out; have := HJ64.out; first | omega | exact Nat.le_refl _⟩, ⟨rU (Kd.R_mono HO406.out (fun _ hk => ⟨hk.1.1.1.2, ⟨hk.1.1.2, hk.1.2⟩⟩))⟩, ⟨bU BK361.out⟩, ⟨bU BK362.out⟩, ⟨bU BK363.out⟩, ⟨bU BK364.out⟩, ⟨bU BK365.out⟩, ⟨bU BK366.out⟩, ⟨bU BK408.out⟩, hV HB⟩
     have H' := aM H
     clear H
     have hnb181 := NB408_361.out
     have hnc181 := NB361_408.out
     have hnb182 := NB408_362.out
     have hnc182 := NB362_408.out
     have hnb183 := NB408_363.out
     have hnc183 := NB363_408.out
     have hnb184 := NB408_364.out
     have hnc184 := NB364_408.out
     have hnb185 := NB408_365.out
     have hnc185 := NB365_408.out
     have hnb186 := NB408_366.out
     have hnc186 := NB366_408.out
     have hnb187 := NB408_414.out
     have hnc187 := NB414_408.out
     obtain ⟨hcz188_0, hcz188_1, hfz188_0, hfz188_1⟩ := hC2 BK408
     have hnb189 := NB414_361.out
     have hnc189 := NB361_414.out
     have hnb190 := NB414_362.out
     have hnc190 := NB362_414.out
     have hnb191 := NB414_363.out
     have hnc191 := NB363_414.out
     have hnb192 := NB414_364.out
     have hnc192 := NB364_414.out
     have hnb193 := NB414_365.out
     have hnc193 := NB365_414.out
     have hnb194 := NB414_366.out
     have hnc194 := NB366_414.out
     obtain ⟨hcz195_0, hcz195_1, hfz195_0, hfz195_1⟩ := hC2 BK414
     go_wp2_with (first | (go_at_call 50; (with_reducible refine (laws_xPuzzle.calls kj64 t403 _ _ t404 t409 _ _ t410 true _ (cU (Kd.R_reads' HO406.out).2.2) ((Kd.R_reads' HO406.out).2.1) (cU (Kd.R_reads' HO412.out).2.2) ((Kd.R_reads' HO412.out).2.1) A162.out).mono ?_); rintro e w196 ⟨rfl, hb⟩; replace HO406 := rB HO406 hb; replace HO412 := rB HO412 hb; replace BK361 := bB BK361 hb; replace BK362 := bB BK362 hb; replace BK363 := bB BK363 hb; replace BK364 := bB BK364 hb; replace BK365 := bB BK365 hb; replace BK366 := bB BK366 hb; replace BK408 := bB BK408 hb; replace BK414 := bB BK414 hb; replace HB := hS HB hb; clear hb))
     go_meet
     case rel => exact ⟨_, ((t407 != false)), rF, H', ⟨by have := HJ12.out; have := HJ23.out; have := HJ64.out; first | omega | exact Nat.le_refl _⟩, ⟨rU (Kd.R_mono HO406.out (fun _ hk => ⟨hk.1.1.1.2, ⟨hk.1.1.2, hk.1.2⟩⟩))⟩, ⟨bU BK361.out⟩, ⟨bU BK362.out⟩, ⟨bU BK363.out⟩, ⟨bU BK364.out⟩, ⟨bU BK365.out⟩, ⟨bU BK366.out⟩, ⟨bU BK408.out⟩, hV HB⟩
    case rest => as_aux_lemma =>
     clear HC130
     try clear hcz136_0;try clear hcz136_1;try clear hcz145_0;try clear hcz145_1;try clear hcz147_0;try clear hcz147_1;try clear hcz157_0;try clear hcz157_1;try clear hcz159_0;try clear hcz159_1;try clear hfz136_0;try clear hfz136_1;try clear hfz145_0;try clear hfz145_1;try clear hfz147_0;try clear hfz147_1;try clear hfz157_0;try clear hfz157_1;try clear hfz159_0;try clear hfz159_1
     obtain ⟨kq, x240_129, rfl, HA, HJ129, HO_409001, BK361, BK362, BK363, BK364, BK365, BK366, BK408, HB⟩ := hcut
     obtain rfl | ⟨kj129, rfl⟩ := fz kq
     ·exact zA HA
     have H := HA.out
     clear HA
     simp only [laws_FnStatesHiddenOfAll.j5] at H
     refine iBn H ?_; clear H; rintro rfl H
     have HC198 := aM H
     clear H
     go_upto_if 241 with (fail)
     go_cut [] from 241 to 241 (fun wc => ∃ (kq : Nat), Aside0 (laws_FnStatesHiddenOfAll.j6 kq a7 a9 a10 a4_0 l4_1 a5_0 a5_1 a5_2 a6_0 l6_1 a8_0 a8_1 a8_2 a11_0 a11_1 a11_2 = some r) ∧ Aside0 (kq ≤ kj129) ∧ Aside0 (wc.heap[gb362]? = some (.cells #[.int .i64 a4_0, (.slice A4_1 l4_1.length c4_1)] 57 (0, 0))) ∧ Aside0 (wc.heap[gb363]? = some (.cells #[.int .i64 a5_0, .int .i64 a5_1, .int .i64 a5_2] 59 (0, 0))) ∧ Aside0 (wc.heap[gb364]? = some (.cells #[.int .i64 a6_0, (.slice A6_1 l6_1.length c6_1)] 57 (0, 0))) ∧ Aside0 (wc.heap[gb365]? = some (.cells #[.int .i64 a8_0, .int .i64 a8_1, .int .i64 a8_2] 59 (0, 0))) ∧ Aside0 (wc.heap[gb366]? = some (.cells #[.int .i64 a11_0, .int .i64 a11_1, .int .i64 a11_2] 59 (0, 0))) ∧ Aside0 (Below w.heap.size w wc))
     case first => as_aux_lemma =>
      have H := HC198.out
      clear HC198
      refine iB H ?_ ?_ <;> clear H <;> rintro rfl H
      ·replace H := bC H; obtain ⟨⟨t418, t421⟩, A200, H⟩ := H; try dsimp only at H
       replace H := bC H; obtain ⟨⟨t422, t425⟩, A201, H⟩ := H; try dsimp only at H
       replace H := bC H; obtain ⟨⟨t426, t429⟩, A202, H⟩ := H; try dsimp only at H
       refine iBy H ?_; clear H; rintro rfl H
       refine iBy H ?_; clear H; rintro rfl H
       replace H := bC H; obtain ⟨t430, A205, H⟩ := H
       refine iBy H ?_; clear H; rintro rfl H
       refine iBy H ?_; clear H; rintro rfl H
       refine iY H ?_; clear H; intro c208 H
       have c208b0 := qT c208
       have c208b1 := nF c208
       clear c208
       (first | rw [c208b0] | (simp only [i64_w, i32_w]; rw [c208b0]) | skip)
       refine iN H ?_; clear H; intro c209 H
       have c209b0 := gF c209
       have c209b1 : decide (l3_1.length < t404.length) = false := decide_eq_false (fun h => c209 (Int.ofNat_lt.mpr h))
       clear c209
       have H' := aM H
       clear H
       have hnb210 := NB361_362.out
       have hnc210 := NB362_361.out
       have hnb211 := NB361_363.out
       have hnc211 := NB363_361.out
       have hnb212 := NB361_364.out
       have hnc212 := NB364_361.out
       have hnb213 := NB361_365.out
       have hnc213 := NB365_361.out
       have hnb214 := NB361_366.out
       have hnc214 := NB366_361.out
       have hnb215 := NB361_408.out
       have hnc215 := NB408_361.out
       obtain ⟨hcz216_0, hcz216_1, hfz216_0, hfz216_1⟩ := hC2 BK361
       go_wp2_with (first | ((with_reducible refine gG 51 (some 244) rfl rfl ?_); refine gD Tryd.func51 (impl_Solutions.calls a3_0 _ _ l3_1 t418 true _ (cU (Kd.C_below HR3_1.out HB.out)) HC3_1.out A200.out) ?_; rintro w217 v419 ⟨ho0, hb⟩; have HO420 := rL ho0 HB; replace HO_409001 := rB HO_409001 hb; replace BK361 := bB BK361 hb; replace BK362 := bB BK362 hb; replace BK363 := bB BK363 hb; replace BK364 := bB BK364 hb; replace BK365 := bB BK365 hb; replace BK366 := bB BK366 hb; replace BK408 := bB BK408 hb; replace HB := hS HB hb; clear hb ho0; have hnb218 := NB408_362.out; have hnc218 := NB362_408.out; have hnb219 := NB408_363.out; have hnc219 := NB363_408.out; have hnb220 := NB408_364.out; have hnc220 := NB364_408.out; have hnb221 := NB408_365.out; have hnc221 := NB365_408.out; have hnb222 := NB408_366.out; have hnc222 := NB366_408.out; obtain ⟨hcz223_0, hcz223_1, hfz223_0, hfz223_1⟩ := hC2 BK408) | ((with_reducible refine gG 51 (some 249) rfl rfl ?_); refine gD Tryd.func51 (impl_Solutions.calls t403 _ _ t404 t422 true _ (cU (Kd.R_reads' HO_409001.out).2.2) ((Kd.R_reads' HO_409001.out).2.1) A201.out) ?_; rintro w224 v423 ⟨ho0, hb⟩; have HO424 := aM (Kd.R_lower (Kd.R_new' ho0 (Kd.R_lt (rU HO420.out))) (below_size (bel HB))); replace HO_409001 := rB HO_409001 hb; replace HO420 := aM (Kd.R_elder' (rU HO420.out) (Kd.R_base ho0) hb); replace BK361 := bB BK361 hb; replace BK362 := bB BK362 hb; replace BK363 := bB BK363 hb; replace BK364 := bB BK364 hb; replace BK365 := bB BK365 hb; replace BK366 := bB BK366 hb; replace BK408 := bB BK408 hb; replace HB := hS HB hb; clear hb ho0; obtain ⟨hcz225_0, hcz225_1, hfz225_0, hfz225_1⟩ := hC2 BK408) | ((with_reducible refine gG 59 (some 254) rfl rfl ?_); refine gD Tryd.func59 (impl_NeedlessClues.calls kj129 t403 _ _ t404 t426 true _ (cU (Kd.R_reads' HO_409001.out).2.2) ((Kd.R_reads' HO_409001.out).2.1) A202.out) ?_; rintro w226 v427 ⟨ho0, hb⟩; have HO428 := rL ho0 HB; replace HO_409001 := rB HO_409001 hb; replace HO420 := rB HO420 hb; replace HO424 := rB HO424 hb; replace BK361 := bB BK361 hb; replace BK362 := bB BK362 hb; replace BK363 := bB BK363 hb; replace BK364 := bB BK364 hb; replace BK365 := bB BK365 hb; replace BK366 := bB BK366 hb; replace BK408 := bB BK408 hb; replace HB := hS HB hb; clear hb ho0; obtain ⟨Ao227, co227, eo227⟩ := Kd.R_slice HO420.out; subst eo227; obtain ⟨Ao228, co228, eo228⟩ := Kd.R_slice HO424.out; subst eo228) | (go_at_call 60; (with_reducible refine (laws_xTexts.calls kj129 _ _ t418 _ _ t422 true _ (cU (Kd.R_reads' HO420.out).2.2) ((Kd.R_reads' HO420.out).2.1) (cU (Kd.R_reads' HO424.out).2.2) ((Kd.R_reads' HO424.out).2.1) A205.out).mono ?_); rintro e w' ⟨rfl, ⟨nd, rfl⟩⟩; obtain ⟨Ao229, co229, eo229⟩ := Kd.R_slice HO428.out; subst eo229; obtain ⟨hcz230_0, hcz230_1, hfz230_0, hfz230_1⟩ := hC2 BK408; obtain ⟨hcz231_0, hcz231_1, hfz231_0, hfz231_1⟩ := hC2 BK361))
       go_meet
       case rel => exact ⟨_, H', ⟨by have := HJ12.out; have := HJ23.out; have := HJ64.out; have := HJ129.out; first | omega | exact Nat.le_refl _⟩, ⟨bU BK362.out⟩, ⟨bU BK363.out⟩, ⟨bU BK364.out⟩, ⟨bU BK365.out⟩, ⟨bU BK366.out⟩, hV HB⟩
      have H' := aM H
      clear H
      go_wp2
      go_meet
      case rel => exact ⟨_, H', ⟨by have := HJ12.out; have := HJ23.out; have := HJ64.out; have := HJ129.out; first | omega | exact Nat.le_refl _⟩, ⟨bU BK362.out⟩, ⟨bU BK363.out⟩, ⟨bU BK364.out⟩, ⟨bU BK365.out⟩, ⟨bU BK366.out⟩, hV HB⟩
     case rest => as_aux_lemma =>
      clear HC198
      obtain ⟨kq, HA, HJ197, BK362, BK363, BK364, BK365, BK366, HB⟩ := hcut
      obtain rfl | ⟨kj197, rfl⟩ := fz kq
      ·exact zA HA
      have H := HA.out
      clear HA
      simp only [laws_FnStatesHiddenOfAll.j6] at H
      replace H := bC H; obtain ⟨⟨t431, t432, t435⟩, A232, H⟩ := H; try dsimp only at H
      replace H := bC H; obtain ⟨⟨t437, t438, t441⟩, A233, H⟩ := H; try dsimp only at H
      replace H := bC H; obtain ⟨⟨t443, t444, t447⟩, A234, H⟩ := H; try dsimp only at H
      replace H := bC H; obtain ⟨⟨t449, t450, t453⟩, A235, H⟩ := H; try dsimp only at H
      replace H := bC H; obtain ⟨⟨t455, t456⟩, A236, H⟩ := H; try dsimp only at H
      replace H := bC H; obtain ⟨⟨t457, t458⟩, A237, H⟩ := H; try dsimp only at H
      have HC238 := aM H
      clear H
      have hnb239 := NB362_363.out
      have hnc239 := NB363_362.out
      have hnb240 := NB362_364.out
      have hnc240 := NB364_362.out
      have hnb241 := NB362_365.out
      have hnc241 := NB365_362.out
      have hnb242 := NB362_366.out
      have hnc242 := NB366_362.out
      obtain ⟨hcz243_0, hcz243_1, hfz243_0, hfz243_1⟩ := hC2 BK362
      have hnb244 := NB363_364.out
      have hnc244 := NB364_363.out
      have hnb245 := NB363_365.out
      have hnc245 := NB365_363.out
      have hnb246 := NB363_366.out
      have hnc246 := NB366_363.out
      obtain ⟨hcz247_0, hcz247_1, hcz247_2, hfz247_0, hfz247_1, hfz247_2⟩ := hC3 BK363
      go_upto_region 42 with (first | ((with_reducible refine gG 61 (some 290) rfl rfl ?_); refine gD Tryd.func61 (impl_AddClue.calls kj197 a4_0 _ _ l4_1 a5_0 a5_1 a5_2 t431 t432 t435 _ (cU (Kd.C_below HR4_1.out HB.out)) HC4_1.out A232.out) ?_; rintro w248 v433 ⟨ho0, hb⟩; have HO434 := aM (Kd.R_lower (Kd.R_newB (Kd.R_newB (Kd.R_newB ho0 (g := gb363) (o := .cells #[.int .i64 a5_0, .int .i64 a5_1, .int .i64 a5_2] 59 (0, 0)) (bU BK363.out)) (g := gb365) (o := .cells #[.int .i64 a8_0, .int .i64 a8_1, .int .i64 a8_2] 59 (0, 0)) (bU BK365.out)) (g := gb366) (o := .cells #[.int .i64 a11_0, .int .i64 a11_1, .int .i64 a11_2] 59 (0, 0)) (bU BK366.out)) (below_size (bel HB))); replace BK362 := bB BK362 hb; replace BK363 := bB BK363 hb; replace BK364 := bB BK364 hb; replace BK365 := bB BK365 hb; replace BK366 := bB BK366 hb; replace HB := hS HB hb; clear hb ho0) | ((with_reducible refine gate_dst (N := 57) rfl ?_); (try (refine gate_guard (by rfl) ?_; dsimp only)); refine bX (N := 57) rfl (cs := #[.int .i64 0, .slice none 0 0]) (t := 57) ?_; intro gb436 hg w249 BK436 hb; have GW436 := gE hg HB; have GE436 := gE hg HB; have NB362_436 := nbL hg BK362; have NB436_362 := nbR hg BK362; have NB363_436 := nbL hg BK363; have NB436_363 := nbR hg BK363; have NB364_436 := nbL hg BK364; have NB436_364 := nbR hg BK364; have NB365_436 := nbL hg BK365; have NB436_365 := nbR hg BK365; have NB366_436 := nbL hg BK366; have NB436_366 := nbR hg BK366; replace HO434 := rB HO434 hb; replace BK362 := bB BK362 hb; replace BK363 := bB BK363 hb; replace BK364 := bB BK364 hb; replace BK365 := bB BK365 hb; replace BK366 := bB BK366 hb; replace HB := hS HB hb; clear hb hg; have hnb250 := NB436_362.out; have hnc250 := NB362_436.out; have hnb251 := NB436_363.out; have hnc251 := NB363_436.out; have hnb252 := NB436_364.out; have hnc252 := NB364_436.out; have hnb253 := NB436_365.out; have hnc253 := NB365_436.out; have hnb254 := NB436_366.out; have hnc254 := NB366_436.out; obtain ⟨hcz255_0, hcz255_1, hfz255_0, hfz255_1⟩ := hC2 BK436; obtain ⟨Ao256, co256, eo256⟩ := Kd.R_slice HO434.out; subst eo256; obtain ⟨hcz257_0, hcz257_1, hfz257_0, hfz257_1⟩ := hC2 BK362; obtain ⟨hcz258_0, hcz258_1, hcz258_2, hfz258_0, hfz258_1, hfz258_2⟩ := hC3 BK363) | ((with_reducible refine gG 62 (some 296) rfl rfl ?_); refine gD Tryd.func62 (spec_AddClue.calls kj197 a4_0 _ _ l4_1 a5_0 a5_1 a5_2 t437 t438 t441 _ (Kd.C_below HR4_1.out (bel HB)) HC4_1.out A233.out) ?_; rintro w259 v439 ⟨ho0, hb⟩; have HO440 := aM (Kd.R_lower (Kd.R_newB (Kd.R_newB (Kd.R_newB (Kd.R_new' ho0 (Kd.R_lt (rU (Kd.R_mono (Kd.R_far (p := ⟨gb436, 1, none⟩) (Kd.R_far (p := ⟨gb436, 0, none⟩) (Kd.R_types HO434.out BK436.out (by decide)) (fun _ hk => hk.2) (.int .i64 t431)) (fun _ hk => hk.2) (.slice Ao256 t432.length co256)) (fun _ h_ => h_.1))))) (g := gb363) (o := .cells #[.int .i64 a5_0, .int .i64 a5_1, .int .i64 a5_2] 59 (0, 0)) (by (with_reducible repeat (first | refine blk_drewN ?_ _ | refine blk_drew ?_ | refine blk_alloc ?_ _)); refine blk_far ?_ NB363_436.out _; (with_reducible repeat (first | refine blk_drewN ?_ _ | refine blk_drew ?_ | refine blk_alloc ?_ _)); refine blk_far ?_ NB363_436.out _; (with_reducible repeat (first | refine blk_drewN ?_ _ | refine blk_drew ?_ | refine blk_alloc ?_ _)); exact BK363.out)) (g := gb365) (o := .cells #[.int .i64 a8_0, .int .i64 a8_1, .int .i64 a8_2] 59 (0, 0)) (by (with_reducible repeat (first | refine blk_drewN ?_ _ | refine blk_drew ?_ | refine blk_alloc ?_ _)); refine blk_far ?_ NB365_436.out _; (with_reducible repeat (first | refine blk_drewN ?_ _ | refine blk_drew ?_ | refine blk_alloc ?_ _)); refine blk_far ?_ NB365_436.out _; (with_reducible repeat (first | refine blk_drewN ?_ _ | refine blk_drew ?_ | refine blk_alloc ?_ _)); exact BK365.out)) (g := gb366) (o := .cells #[.int .i64 a11_0, .int .i64 a11_1, .int .i64 a11_2] 59 (0, 0)) (by (with_reducible repeat (first | refine blk_drewN ?_ _ | refine blk_drew ?_ | refine blk_alloc ?_ _)); refine blk_far ?_ NB366_436.out _; (with_reducible repeat (first | refine blk_drewN ?_ _ | refine blk_drew ?_ | refine blk_alloc ?_ _)); refine blk_far ?_ NB366_436.out _; (with_reducible repeat (first | refine blk_drewN ?_ _ | refine blk_drew ?_ | refine blk_alloc ?_ _)); exact BK366.out)) (below_size (bel HB))); replace HO434 := aM (Kd.R_elder' (rU (Kd.R_mono (Kd.R_far (p := ⟨gb436, 1, none⟩) (Kd.R_far (p := ⟨gb436, 0, none⟩) (Kd.R_types HO434.out BK436.out (by decide)) (fun _ hk => hk.2) (.int .i64 t431)) (fun _ hk => hk.2) (.slice Ao256 t432.length co256)) (fun _ h_ => h_.1))) (Kd.R_base ho0) hb); replace BK362 := aM (blk_below (g := gb362) (o := .cells #[.int .i64 a4_0, .slice A4_1 l4_1.length c4_1] 57 (0, 0)) (by (with_reducible repeat (first | refine blk_drewN ?_ _ | refine blk_drew ?_ | refine blk_alloc ?_ _)); refine blk_far ?_ NB362_436.out _; (with_reducible repeat (first | refine blk_drewN ?_ _ | refine blk_drew ?_ | refine blk_alloc ?_ _)); refine blk_far ?_ NB362_436.out _; (with_reducible repeat (first | refine blk_drewN ?_ _ | refine blk_drew ?_ | refine blk_alloc ?_ _)); exact BK362.out) hb); replace BK363 := aM (blk_below (g := gb363) (o := .cells #[.int .i64 a5_0, .int .i64 a5_1, .int .i64 a5_2] 59 (0, 0)) (by (with_reducible repeat (first | refine blk_drewN ?_ _ | refine blk_drew ?_ | refine blk_alloc ?_ _)); refine blk_far ?_ NB363_436.out _; (with_reducible repeat (first | refine blk_drewN ?_ _ | refine blk_drew ?_ | refine blk_alloc ?_ _)); refine blk_far ?_ NB363_436.out _; (with_reducible repeat (first | refine blk_drewN ?_ _ | refine blk_drew ?_ | refine blk_alloc ?_ _)); exact BK363.out) hb); replace BK364 := aM (blk_below (g := gb364) (o := .cells #[.int .i64 a6_0, .slice A6_1 l6_1.length c6_1] 57 (0, 0)) (by (with_reducible repeat (first | refine blk_drewN ?_ _ | refine blk_drew ?_ | refine blk_alloc ?_ _)); refine blk_far ?_ NB364_436.out _; (with_reducible repeat (first | refine blk_drewN ?_ _ | refine blk_drew ?_ | refine blk_alloc ?_ _)); refine blk_far ?_ NB364_436.out _; (with_reducible repeat (first | refine blk_drewN ?_ _ | refine blk_drew ?_ | refine blk_alloc ?_ _)); exact BK364.out) hb); replace BK365 := aM (blk_below (g := gb365) (o := .cells #[.int .i64 a8_0, .int .i64 a8_1, .int .i64 a8_2] 59 (0, 0)) (by (with_reducible repeat (first | refine blk_drewN ?_ _ | refine blk_drew ?_ | refine blk_alloc ?_ _)); refine blk_far ?_ NB365_436.out _; (with_reducible repeat (first | refine blk_drewN ?_ _ | refine blk_drew ?_ | refine blk_alloc ?_ _)); refine blk_far ?_ NB365_436.out _; (with_reducible repeat (first | refine blk_drewN ?_ _ | refine blk_drew ?_ | refine blk_alloc ?_ _)); exact BK365.out) hb); replace BK366 := aM (blk_below (g := gb366) (o := .cells #[.int .i64 a11_0, .int .i64 a11_1, .int .i64 a11_2] 59 (0, 0)) (by (with_reducible repeat (first | refine blk_drewN ?_ _ | refine blk_drew ?_ | refine blk_alloc ?_ _)); refine blk_far ?_ NB366_436.out _; (with_reducible repeat (first | refine blk_drewN ?_ _ | refine blk_drew ?_ | refine blk_alloc ?_ _)); refine blk_far ?_ NB366_436.out _; (with_reducible repeat (first | refine blk_drewN ?_ _ | refine blk_drew ?_ | refine blk_alloc ?_ _)); exact BK366.out) hb); replace BK436 := aM (blk_below (g := gb436) (o := .cells #[.int .i64 t431, .slice Ao256 t432.length co256] 57 (0, 0)) (by (with_reducible repeat (first | refine blk_drewN ?_ _ | refine blk_drew ?_ | refine blk_alloc ?_ _)); refine blk_put (cs := #[.int .i64 t431, .slice none 0 0]) ?_ 1 _ rfl; (with_reducible repeat (first | refine blk_drewN ?_ _ | refine blk_drew ?_ | refine blk_alloc ?_ _)); refine blk_put (cs := #[.int .i64 0, .slice none 0 0]) ?_ 0 _ rfl; (with_reducible repeat (first | refine blk_drewN ?_ _ | refine blk_drew ?_ | refine blk_alloc ?_ _)); exact BK436.out) hb); replace HB := hS HB hb; clear hb ho0) | ((with_reducible refine gate_dst (N := 59) rfl ?_); (try (refine gate_guard (by rfl) ?_; dsimp only)); refine bX (N := 59) rfl (cs := #[.int .i64 0, .slice none 0 0]) (t := 57) ?_; intro gb442 hg w260 BK442 hb; have GW442 := gE hg HB; have GE442 := gE hg HB; have NB362_442 := nbL hg BK362; have NB442_362 := nbR hg BK362; have NB363_442 := nbL hg BK363; have NB442_363 := nbR hg BK363; have NB364_442 := nbL hg BK364; have NB442_364 := nbR hg BK364; have NB365_442 := nbL hg BK365; have NB442_365 := nbR hg BK365; have NB366_442 := nbL hg BK366; have NB442_366 := nbR hg BK366; have NB436_442 := nbL hg BK436; have NB442_436 := nbR hg BK436; replace HO434 := rB HO434 hb; replace HO440 := rB HO440 hb; replace BK362 := bB BK362 hb; replace BK363 := bB BK363 hb; replace BK364 := bB BK364 hb; replace BK365 := bB BK365 hb; replace BK366 := bB BK366 hb; replace BK436 := bB BK436 hb; replace HB := hS HB hb; clear hb hg; have hnb261 := NB442_362.out; have hnc261 := NB362_442.out; have hnb262 := NB442_363.out; have hnc262 := NB363_442.out; have hnb263 := NB442_364.out; have hnc263 := NB364_442.out; have hnb264 := NB442_365.out; have hnc264 := NB365_442.out; have hnb265 := NB442_366.out; have hnc265 := NB366_442.out; have hnb266 := NB442_436.out; have hnc266 := NB436_442.out; obtain ⟨hcz267_0, hcz267_1, hfz267_0, hfz267_1⟩ := hC2 BK442; obtain ⟨Ao268, co268, eo268⟩ := Kd.R_slice HO440.out; subst eo268; have hnb269 := NB364_365.out; have hnc269 := NB365_364.out; have hnb270 := NB364_366.out; have hnc270 := NB366_364.out; obtain ⟨hcz271_0, hcz271_1, hfz271_0, hfz271_1⟩ := hC2 BK364) | ((with_reducible refine gG 63 (some 302) rfl rfl ?_); refine gD Tryd.func63 (impl_DropClue.calls a6_0 _ _ l6_1 a7 t443 t444 t447 _ (Kd.C_below HR6_1.out (bel HB)) HC6_1.out A234.out) ?_; rintro w272 v445 ⟨ho0, hb⟩; have HO446 := aM (Kd.R_lower (Kd.R_newB (Kd.R_newB (Kd.R_newB (Kd.R_new' (Kd.R_new' ho0 (Kd.R_lt (rU (Kd.R_mono (Kd.R_far (p := ⟨gb442, 1, none⟩) (Kd.R_far (p := ⟨gb442, 0, none⟩) (Kd.R_types HO434.out BK442.out (by decide)) (fun _ hk => hk.2) (.int .i64 t437)) (fun _ hk => hk.2) (.slice Ao268 t438.length co268)) (fun _ h_ => h_.1))))) (Kd.R_lt (rU (Kd.R_mono (Kd.R_far (p := ⟨gb442, 1, none⟩) (Kd.R_far (p := ⟨gb442, 0, none⟩) (Kd.R_types HO440.out BK442.out (by decide)) (fun _ hk => hk.2) (.int .i64 t437)) (fun _ hk => hk.2) (.slice Ao268 t438.length co268)) (fun _ h_ => h_.1))))) (g := gb363) (o := .cells #[.int .i64 a5_0, .int .i64 a5_1, .int .i64 a5_2] 59 (0, 0)) (by (with_reducible repeat (first | refine blk_drewN ?_ _ | refine blk_drew ?_ | refine blk_alloc ?_ _)); refine blk_far ?_ NB363_442.out _; (with_reducible repeat (first | refine blk_drewN ?_ _ | refine blk_drew ?_ | refine blk_alloc ?_ _)); refine blk_far ?_ NB363_442.out _; (with_reducible repeat (first | refine blk_drewN ?_ _ | refine blk_drew ?_ | refine blk_alloc ?_ _)); exact BK363.out)) (g := gb365) (o := .cells #[.int .i64 a8_0, .int .i64 a8_1, .int .i64 a8_2] 59 (0, 0)) (by (with_reducible repeat (first | refine blk_drewN ?_ _ | refine blk_drew ?_ | refine blk_alloc ?_ _)); refine blk_far ?_ NB365_442.out _; (with_reducible repeat (first | refine blk_drewN ?_ _ | refine blk_drew ?_ | refine blk_alloc ?_ _)); refine blk_far ?_ NB365_442.out _; (with_reducible repeat (first | refine blk_drewN ?_ _ | refine blk_drew ?_ | refine blk_alloc ?_ _)); exact BK365.out)) (g := gb366) (o := .cells #[.int .i64 a11_0, .int .i64 a11_1, .int .i64 a11_2] 59 (0, 0)) (by (with_reducible repeat (first | refine blk_drewN ?_ _ | refine blk_drew ?_ | refine blk_alloc ?_ _)); refine blk_far ?_ NB366_442.out _; (with_reducible repeat (first | refine blk_drewN ?_ _ | refine blk_drew ?_ | refine blk_alloc ?_ _)); refine blk_far ?_ NB366_442.out _; (with_reducible repeat (first | refine blk_drewN ?_ _ | refine blk_drew ?_ | refine blk_alloc ?_ _)); exact BK366.out)) (below_size (bel HB))); replace HO434 := aM (Kd.R_elder' (rU (Kd.R_mono (Kd.R_far (p := ⟨gb442, 1, none⟩) (Kd.R_far (p := ⟨gb442, 0, none⟩) (Kd.R_types HO434.out BK442.out (by decide)) (fun _ hk => hk.2) (.int .i64 t437)) (fun _ hk => hk.2) (.slice Ao268 t438.length co268)) (fun _ h_ => h_.1))) (Kd.R_base ho0) hb); replace HO440 := aM (Kd.R_elder' (rU (Kd.R_mono (Kd.R_far (p := ⟨gb442, 1, none⟩) (Kd.R_far (p := ⟨gb442, 0, none⟩) (Kd.R_types HO440.out BK442.out (by decide)) (fun _ hk => hk.2) (.int .i64 t437)) (fun _ hk => hk.2) (.slice Ao268 t438.length co268)) (fun _ h_ => h_.1))) (Kd.R_base ho0) hb); replace BK362 := aM (blk_below (g := gb362) (o := .cells #[.int .i64 a4_0, .slice A4_1 l4_1.length c4_1] 57 (0, 0)) (by (with_reducible repeat (first | refine blk_drewN ?_ _ | refine blk_drew ?_ | refine blk_alloc ?_ _)); refine blk_far ?_ NB362_442.out _; (with_reducible repeat (first | refine blk_drewN ?_ _ | refine blk_drew ?_ | refine blk_alloc ?_ _)); refine blk_far ?_ NB362_442.out _; (with_reducible repeat (first | refine blk_drewN ?_ _ | refine blk_drew ?_ | refine blk_alloc ?_ _)); exact BK362.out) hb); replace BK363 := aM (blk_below (g := gb363) (o := .cells #[.int .i64 a5_0, .int .i64 a5_1, .int .i64 a5_2] 59 (0, 0)) (by (with_reducible repeat (first | refine blk_drewN ?_ _ | refine blk_drew ?_ | refine blk_alloc ?_ _)); refine blk_far ?_ NB363_442.out _; (with_reducible repeat (first | refine blk_drewN ?_ _ | refine blk_drew ?_ | refine blk_alloc ?_ _)); refine blk_far ?_ NB363_442.out _; (with_reducible repeat (first | refine blk_drewN ?_ _ | refine blk_drew ?_ | refine blk_alloc ?_ _)); exact BK363.out) hb); replace BK364 := aM (blk_below (g := gb364) (o := .cells #[.int .i64 a6_0, .slice A6_1 l6_1.length c6_1] 57 (0, 0)) (by (with_reducible repeat (first | refine blk_drewN ?_ _ | refine blk_drew ?_ | refine blk_alloc ?_ _)); refine blk_far ?_ NB364_442.out _; (with_reducible repeat (first | refine blk_drewN ?_ _ | refine blk_drew ?_ | refine blk_alloc ?_ _)); refine blk_far ?_ NB364_442.out _; (with_reducible repeat (first | refine blk_drewN ?_ _ | refine blk_drew ?_ | refine blk_alloc ?_ _)); exact BK364.out) hb); replace BK365 := aM (blk_below (g := gb365) (o := .cells #[.int .i64 a8_0, .int .i64 a8_1, .int .i64 a8_2] 59 (0, 0)) (by (with_reducible repeat (first | refine blk_drewN ?_ _ | refine blk_drew ?_ | refine blk_alloc ?_ _)); refine blk_far ?_ NB365_442.out _; (with_reducible repeat (first | refine blk_drewN ?_ _ | refine blk_drew ?_ | refine blk_alloc ?_ _)); refine blk_far ?_ NB365_442.out _; (with_reducible repeat (first | refine blk_drewN ?_ _ | refine blk_drew ?_ | refine blk_alloc ?_ _)); exact BK365.out) hb); replace BK366 := aM (blk_below (g := gb366) (o := .cells #[.int .i64 a11_0, .int .i64 a11_1, .int .i64 a11_2] 59 (0, 0)) (by (with_reducible repeat (first | refine blk_drewN ?_ _ | refine blk_drew ?_ | refine blk_alloc ?_ _)); refine blk_far ?_ NB366_442.out _; (with_reducible repeat (first | refine blk_drewN ?_ _ | refine blk_drew ?_ | refine blk_alloc ?_ _)); refine blk_far ?_ NB366_442.out _; (with_reducible repeat (first | refine blk_drewN ?_ _ | refine blk_drew ?_ | refine blk_alloc ?_ _)); exact BK366.out) hb); replace BK436 := aM (blk_below (g := gb436) (o := .cells #[.int .i64 t431, .slice Ao256 t432.length co256] 57 (0, 0)) (by (with_reducible repeat (first | refine blk_drewN ?_ _ | refine blk_drew ?_ | refine blk_alloc ?_ _)); refine blk_far ?_ NB436_442.out _; (with_reducible repeat (first | refine blk_drewN ?_ _ | refine blk_drew ?_ | refine blk_alloc ?_ _)); refine blk_far ?_ NB436_442.out _; (with_reducible repeat (first | refine blk_drewN ?_ _ | refine blk_drew ?_ | refine blk_alloc ?_ _)); exact BK436.out) hb); replace BK442 := aM (blk_below (g := gb442) (o := .cells #[.int .i64 t437, .slice Ao268 t438.length co268] 57 (0, 0)) (by (with_reducible repeat (first | refine blk_drewN ?_ _ | refine blk_drew ?_ | refine blk_alloc ?_ _)); refine blk_put (cs := #[.int .i64 t437, .slice none 0 0]) ?_ 1 _ rfl; (with_reducible repeat (first | refine blk_drewN ?_ _ | refine blk_drew ?_ | refine blk_alloc ?_ _)); refine blk_put (cs := #[.int .i64 0, .slice none 0 0]) ?_ 0 _ rfl; (with_reducible repeat (first | refine blk_drewN ?_ _ | refine blk_drew ?_ | refine blk_alloc ?_ _)); exact BK442.out) hb); replace HB := hS HB hb; clear hb ho0) | ((with_reducible refine gate_dst (N := 61) rfl ?_); (try (refine gate_guard (by rfl) ?_; dsimp only)); refine bX (N := 61) rfl (cs := #[.int .i64 0, .slice none 0 0]) (t := 57) ?_; intro gb448 hg w273 BK448 hb; have GW448 := gE hg HB; have GE448 := gE hg HB; have NB362_448 := nbL hg BK362; have NB448_362 := nbR hg BK362; have NB363_448 := nbL hg BK363; have NB448_363 := nbR hg BK363; have NB364_448 := nbL hg BK364; have NB448_364 := nbR hg BK364; have NB365_448 := nbL hg BK365; have NB448_365 := nbR hg BK365; have NB366_448 := nbL hg BK366; have NB448_366 := nbR hg BK366; have NB436_448 := nbL hg BK436; have NB448_436 := nbR hg BK436; have NB442_448 := nbL hg BK442; have NB448_442 := nbR hg BK442; replace HO434 := rB HO434 hb; replace HO440 := rB HO440 hb; replace HO446 := rB HO446 hb; replace BK362 := bB BK362 hb; replace BK363 := bB BK363 hb; replace BK364 := bB BK364 hb; replace BK365 := bB BK365 hb; replace BK366 := bB BK366 hb; replace BK436 := bB BK436 hb; replace BK442 := bB BK442 hb; replace HB := hS HB hb; clear hb hg; have hnb274 := NB448_362.out; have hnc274 := NB362_448.out; have hnb275 := NB448_363.out; have hnc275 := NB363_448.out; have hnb276 := NB448_364.out; have hnc276 := NB364_448.out; have hnb277 := NB448_365.out; have hnc277 := NB365_448.out; have hnb278 := NB448_366.out; have hnc278 := NB366_448.out; have hnb279 := NB448_436.out; have hnc279 := NB436_448.out; have hnb280 := NB448_442.out; have hnc280 := NB442_448.out; obtain ⟨hcz281_0, hcz281_1, hfz281_0, hfz281_1⟩ := hC2 BK448; obtain ⟨Ao282, co282, eo282⟩ := Kd.R_slice HO446.out; subst eo282; obtain ⟨hcz283_0, hcz283_1, hfz283_0, hfz283_1⟩ := hC2 BK364) | ((with_reducible refine gG 64 (some 308) rfl rfl ?_); refine gD Tryd.func64 (spec_DropClue.calls kj197 a6_0 _ _ l6_1 a7 t449 t450 t453 _ (Kd.C_below HR6_1.out (bel HB)) HC6_1.out A235.out) ?_; rintro w284 v451 ⟨ho0, hb⟩; have HO452 := aM (Kd.R_lower (Kd.R_newB (Kd.R_newB (Kd.R_newB (Kd.R_new' (Kd.R_new' (Kd.R_new' ho0 (Kd.R_lt (rU (Kd.R_mono (Kd.R_far (p := ⟨gb448, 1, none⟩) (Kd.R_far (p := ⟨gb448, 0, none⟩) (Kd.R_types HO434.out BK448.out (by decide)) (fun _ hk => hk.2) (.int .i64 t443)) (fun _ hk => hk.2) (.slice Ao282 t444.length co282)) (fun _ h_ => h_.1))))) (Kd.R_lt (rU (Kd.R_mono (Kd.R_far (p := ⟨gb448, 1, none⟩) (Kd.R_far (p := ⟨gb448, 0, none⟩) (Kd.R_types HO440.out BK448.out (by decide)) (fun _ hk => hk.2) (.int .i64 t443)) (fun _ hk => hk.2) (.slice Ao282 t444.length co282)) (fun _ h_ => h_.1))))) (Kd.R_lt (rU (Kd.R_mono (Kd.R_far (p := ⟨gb448, 1, none⟩) (Kd.R_far (p := ⟨gb448, 0, none⟩) (Kd.R_types HO446.out BK448.out (by decide)) (fun _ hk => hk.2) (.int .i64 t443)) (fun _ hk => hk.2) (.slice Ao282 t444.length co282)) (fun _ h_ => h_.1))))) (g := gb363) (o := .cells #[.int .i64 a5_0, .int .i64 a5_1, .int .i64 a5_2] 59 (0, 0)) (by (with_reducible repeat (first | refine blk_drewN ?_ _ | refine blk_drew ?_ | refine blk_alloc ?_ _)); refine blk_far ?_ NB363_448.out _; (with_reducible repeat (first | refine blk_drewN ?_ _ | refine blk_drew ?_ | refine blk_alloc ?_ _)); refine blk_far ?_ NB363_448.out _; (with_reducible repeat (first | refine blk_drewN ?_ _ | refine blk_drew ?_ | refine blk_alloc ?_ _)); exact BK363.out)) (g := gb365) (o := .cells #[.int .i64 a8_0, .int .i64 a8_1, .int .i64 a8_2] 59 (0, 0)) (by (with_reducible repeat (first | refine blk_drewN ?_ _ | refine blk_drew ?_ | refine blk_alloc ?_ _)); refine blk_far ?_ NB365_448.out _; (with_reducible repeat (first | refine blk_drewN ?_ _ | refine blk_drew ?_ | refine blk_alloc ?_ _)); refine blk_far ?_ NB365_448.out _; (with_reducible repeat (first | refine blk_drewN ?_ _ | refine blk_drew ?_ | refine blk_alloc ?_ _)); exact BK365.out)) (g := gb366) (o := .cells #[.int .i64 a11_0, .int .i64 a11_1, .int .i64 a11_2] 59 (0, 0)) (by (with_reducible repeat (first | refine blk_drewN ?_ _ | refine blk_drew ?_ | refine blk_alloc ?_ _)); refine blk_far ?_ NB366_448.out _; (with_reducible repeat (first | refine blk_drewN ?_ _ | refine blk_drew ?_ | refine blk_alloc ?_ _)); refine blk_far ?_ NB366_448.out _; (with_reducible repeat (first | refine blk_drewN ?_ _ | refine blk_drew ?_ | refine blk_alloc ?_ _)); exact BK366.out)) (below_size (bel HB))); replace HO434 := aM (Kd.R_elder' (rU (Kd.R_mono (Kd.R_far (p := ⟨gb448, 1, none⟩) (Kd.R_far (p := ⟨gb448, 0, none⟩) (Kd.R_types HO434.out BK448.out (by decide)) (fun _ hk => hk.2) (.int .i64 t443)) (fun _ hk => hk.2) (.slice Ao282 t444.length co282)) (fun _ h_ => h_.1))) (Kd.R_base ho0) hb); replace HO440 := aM (Kd.R_elder' (rU (Kd.R_mono (Kd.R_far (p := ⟨gb448, 1, none⟩) (Kd.R_far (p := ⟨gb448, 0, none⟩) (Kd.R_types HO440.out BK448.out (by decide)) (fun _ hk => hk.2) (.int .i64 t443)) (fun _ hk => hk.2) (.slice Ao282 t444.length co282)) (fun _ h_ => h_.1))) (Kd.R_base ho0) hb); replace HO446 := aM (Kd.R_elder' (rU (Kd.R_mono (Kd.R_far (p := ⟨gb448, 1, none⟩) (Kd.R_far (p := ⟨gb448, 0, none⟩) (Kd.R_types HO446.out BK448.out (by decide)) (fun _ hk => hk.2) (.int .i64 t443)) (fun _ hk => hk.2) (.slice Ao282 t444.length co282)) (fun _ h_ => h_.1))) (Kd.R_base ho0) hb); replace BK362 := aM (blk_below (g := gb362) (o := .cells #[.int .i64 a4_0, .slice A4_1 l4_1.length c4_1] 57 (0, 0)) (by (with_reducible repeat (first | refine blk_drewN ?_ _ | refine blk_drew ?_ | refine blk_alloc ?_ _)); refine blk_far ?_ NB362_448.out _; (with_reducible repeat (first | refine blk_drewN ?_ _ | refine blk_drew ?_ | refine blk_alloc ?_ _)); refine blk_far ?_ NB362_448.out _; (with_reducible repeat (first | refine blk_drewN ?_ _ | refine blk_drew ?_ | refine blk_alloc ?_ _)); exact BK362.out) hb); replace BK363 := aM (blk_below (g := gb363) (o := .cells #[.int .i64 a5_0, .int .i64 a5_1, .int .i64 a5_2] 59 (0, 0)) (by (with_reducible repeat (first | refine blk_drewN ?_ _ | refine blk_drew ?_ | refine blk_alloc ?_ _)); refine blk_far ?_ NB363_448.out _; (with_reducible repeat (first | refine blk_drewN ?_ _ | refine blk_drew ?_ | refine blk_alloc ?_ _)); refine blk_far ?_ NB363_448.out _; (with_reducible repeat (first | refine blk_drewN ?_ _ | refine blk_drew ?_ | refine blk_alloc ?_ _)); exact BK363.out) hb); replace BK364 := aM (blk_below (g := gb364) (o := .cells #[.int .i64 a6_0, .slice A6_1 l6_1.length c6_1] 57 (0, 0)) (by (with_reducible repeat (first | refine blk_drewN ?_ _ | refine blk_drew ?_ | refine blk_alloc ?_ _)); refine blk_far ?_ NB364_448.out _; (with_reducible repeat (first | refine blk_drewN ?_ _ | refine blk_drew ?_ | refine blk_alloc ?_ _)); refine blk_far ?_ NB364_448.out _; (with_reducible repeat (first | refine blk_drewN ?_ _ | refine blk_drew ?_ | refine blk_alloc ?_ _)); exact BK364.out) hb); replace BK365 := aM (blk_below (g := gb365) (o := .cells #[.int .i64 a8_0, .int .i64 a8_1, .int .i64 a8_2] 59 (0, 0)) (by (with_reducible repeat (first | refine blk_drewN ?_ _ | refine blk_drew ?_ | refine blk_alloc ?_ _)); refine blk_far ?_ NB365_448.out _; (with_reducible repeat (first | refine blk_drewN ?_ _ | refine blk_drew ?_ | refine blk_alloc ?_ _)); refine blk_far ?_ NB365_448.out _; (with_reducible repeat (first | refine blk_drewN ?_ _ | refine blk_drew ?_ | refine blk_alloc ?_ _)); exact BK365.out) hb); replace BK366 := aM (blk_below (g := gb366) (o := .cells #[.int .i64 a11_0, .int .i64 a11_1, .int .i64 a11_2] 59 (0, 0)) (by (with_reducible repeat (first | refine blk_drewN ?_ _ | refine blk_drew ?_ | refine blk_alloc ?_ _)); refine blk_far ?_ NB366_448.out _; (with_reducible repeat (first | refine blk_drewN ?_ _ | refine blk_drew ?_ | refine blk_alloc ?_ _)); refine blk_far ?_ NB366_448.out _; (with_reducible repeat (first | refine blk_drewN ?_ _ | refine blk_drew ?_ | refine blk_alloc ?_ _)); exact BK366.out) hb); replace BK436 := aM (blk_below (g := gb436) (o := .cells #[.int .i64 t431, .slice Ao256 t432.length co256] 57 (0, 0)) (by (with_reducible repeat (first | refine blk_drewN ?_ _ | refine blk_drew ?_ | refine blk_alloc ?_ _)); refine blk_far ?_ NB436_448.out _; (with_reducible repeat (first | refine blk_drewN ?_ _ | refine blk_drew ?_ | refine blk_alloc ?_ _)); refine blk_far ?_ NB436_448.out _; (with_reducible repeat (first | refine blk_drewN ?_ _ | refine blk_drew ?_ | refine blk_alloc ?_ _)); exact BK436.out) hb); replace BK442 := aM (blk_below (g := gb442) (o := .cells #[.int .i64 t437, .slice Ao268 t438.length co268] 57 (0, 0)) (by (with_reducible repeat (first | refine blk_drewN ?_ _ | refine blk_drew ?_ | refine blk_alloc ?_ _)); refine blk_far ?_ NB442_448.out _; (with_reducible repeat (first | refine blk_drewN ?_ _ | refine blk_drew ?_ | refine blk_alloc ?_ _)); refine blk_far ?_ NB442_448.out _; (with_reducible repeat (first | refine blk_drewN ?_ _ | refine blk_drew ?_ | refine blk_alloc ?_ _)); exact BK442.out) hb); replace BK448 := aM (blk_below (g := gb448) (o := .cells #[.int .i64 t443, .slice Ao282 t444.length co282] 57 (0, 0)) (by (with_reducible repeat (first | refine blk_drewN ?_ _ | refine blk_drew ?_ | refine blk_alloc ?_ _)); refine blk_put (cs := #[.int .i64 t443, .slice none 0 0]) ?_ 1 _ rfl; (with_reducible repeat (first | refine blk_drewN ?_ _ | refine blk_drew ?_ | refine blk_alloc ?_ _)); refine blk_put (cs := #[.int .i64 0, .slice none 0 0]) ?_ 0 _ rfl; (with_reducible repeat (first | refine blk_drewN ?_ _ | refine blk_drew ?_ | refine blk_alloc ?_ _)); exact BK448.out) hb); replace HB := hS HB hb; clear hb ho0) | ((with_reducible refine gate_dst (N := 63) rfl ?_); (try (refine gate_guard (by rfl) ?_; dsimp only)); refine bX (N := 63) rfl (cs := #[.int .i64 0, .slice none 0 0]) (t := 57) ?_; intro gb454 hg w285 BK454 hb; have GW454 := gE hg HB; have GE454 := gE hg HB; have NB362_454 := nbL hg BK362; have NB454_362 := nbR hg BK362; have NB363_454 := nbL hg BK363; have NB454_363 := nbR hg BK363; have NB364_454 := nbL hg BK364; have NB454_364 := nbR hg BK364; have NB365_454 := nbL hg BK365; have NB454_365 := nbR hg BK365; have NB366_454 := nbL hg BK366; have NB454_366 := nbR hg BK366; have NB436_454 := nbL hg BK436; have NB454_436 := nbR hg BK436; have NB442_454 := nbL hg BK442; have NB454_442 := nbR hg BK442; have NB448_454 := nbL hg BK448; have NB454_448 := nbR hg BK448; replace HO434 := rB HO434 hb; replace HO440 := rB HO440 hb; replace HO446 := rB HO446 hb; replace HO452 := rB HO452 hb; replace BK362 := bB BK362 hb; replace BK363 := bB BK363 hb; replace BK364 := bB BK364 hb; replace BK365 := bB BK365 hb; replace BK366 := bB BK366 hb; replace BK436 := bB BK436 hb; replace BK442 := bB BK442 hb; replace BK448 := bB BK448 hb; replace HB := hS HB hb; clear hb hg; have hnb286 := NB454_362.out; have hnc286 := NB362_454.out; have hnb287 := NB454_363.out; have hnc287 := NB363_454.out; have hnb288 := NB454_364.out; have hnc288 := NB364_454.out; have hnb289 := NB454_365.out; have hnc289 := NB365_454.out; have hnb290 := NB454_366.out; have hnc290 := NB366_454.out; have hnb291 := NB454_436.out; have hnc291 := NB436_454.out; have hnb292 := NB454_442.out; have hnc292 := NB442_454.out; have hnb293 := NB454_448.out; have hnc293 := NB448_454.out; obtain ⟨hcz294_0, hcz294_1, hfz294_0, hfz294_1⟩ := hC2 BK454; obtain ⟨Ao295, co295, eo295⟩ := Kd.R_slice HO452.out; subst eo295; have hnb296 := NB365_366.out; have hnc296 := NB366_365.out; obtain ⟨hcz297_0, hcz297_1, hcz297_2, hfz297_0, hfz297_1, hfz297_2⟩ := hC3 BK365) | ((with_reducible refine gG 52 (some 314) rfl rfl ?_); refine gC Tryd.func52 (impl_DoesFit.calls kj197 a8_0 a8_1 a8_2 a9 t455 t456 _ A236.out) ?_; rintro w298 hb; replace HO434 := aM (Kd.R_below (rU (Kd.R_mono (Kd.R_far (p := ⟨gb454, 1, none⟩) (Kd.R_far (p := ⟨gb454, 0, none⟩) (Kd.R_types HO434.out BK454.out (by decide)) (fun _ hk => hk.2) (.int .i64 t449)) (fun _ hk => hk.2) (.slice Ao295 t450.length co295)) (fun _ h_ => h_.1))) hb); replace HO440 := aM (Kd.R_below (rU (Kd.R_mono (Kd.R_far (p := ⟨gb454, 1, none⟩) (Kd.R_far (p := ⟨gb454, 0, none⟩) (Kd.R_types HO440.out BK454.out (by decide)) (fun _ hk => hk.2) (.int .i64 t449)) (fun _ hk => hk.2) (.slice Ao295 t450.length co295)) (fun _ h_ => h_.1))) hb); replace HO446 := aM (Kd.R_below (rU (Kd.R_mono (Kd.R_far (p := ⟨gb454, 1, none⟩) (Kd.R_far (p := ⟨gb454, 0, none⟩) (Kd.R_types HO446.out BK454.out (by decide)) (fun _ hk => hk.2) (.int .i64 t449)) (fun _ hk => hk.2) (.slice Ao295 t450.length co295)) (fun _ h_ => h_.1))) hb); replace HO452 := aM (Kd.R_below (rU (Kd.R_mono (Kd.R_far (p := ⟨gb454, 1, none⟩) (Kd.R_far (p := ⟨gb454, 0, none⟩) (Kd.R_types HO452.out BK454.out (by decide)) (fun _ hk => hk.2) (.int .i64 t449)) (fun _ hk => hk.2) (.slice Ao295 t450.length co295)) (fun _ h_ => h_.1))) hb); replace BK362 := aM (blk_below (g := gb362) (o := .cells #[.int .i64 a4_0, .slice A4_1 l4_1.length c4_1] 57 (0, 0)) (by (with_reducible repeat (first | refine blk_drewN ?_ _ | refine blk_drew ?_ | refine blk_alloc ?_ _)); refine blk_far ?_ NB362_454.out _; (with_reducible repeat (first | refine blk_drewN ?_ _ | refine blk_drew ?_ | refine blk_alloc ?_ _)); refine blk_far ?_ NB362_454.out _; (with_reducible repeat (first | refine blk_drewN ?_ _ | refine blk_drew ?_ | refine blk_alloc ?_ _)); exact BK362.out) hb); replace BK363 := aM (blk_below (g := gb363) (o := .cells #[.int .i64 a5_0, .int .i64 a5_1, .int .i64 a5_2] 59 (0, 0)) (by (with_reducible repeat (first | refine blk_drewN ?_ _ | refine blk_drew ?_ | refine blk_alloc ?_ _)); refine blk_far ?_ NB363_454.out _; (with_reducible repeat (first | refine blk_drewN ?_ _ | refine blk_drew ?_ | refine blk_alloc ?_ _)); refine blk_far ?_ NB363_454.out _; (with_reducible repeat (first | refine blk_drewN ?_ _ | refine blk_drew ?_ | refine blk_alloc ?_ _)); exact BK363.out) hb); replace BK364 := aM (blk_below (g := gb364) (o := .cells #[.int .i64 a6_0, .slice A6_1 l6_1.length c6_1] 57 (0, 0)) (by (with_reducible repeat (first | refine blk_drewN ?_ _ | refine blk_drew ?_ | refine blk_alloc ?_ _)); refine blk_far ?_ NB364_454.out _; (with_reducible repeat (first | refine blk_drewN ?_ _ | refine blk_drew ?_ | refine blk_alloc ?_ _)); refine blk_far ?_ NB364_454.out _; (with_reducible repeat (first | refine blk_drewN ?_ _ | refine blk_drew ?_ | refine blk_alloc ?_ _)); exact BK364.out) hb); replace BK365 := aM (blk_below (g := gb365) (o := .cells #[.int .i64 a8_0, .int .i64 a8_1, .int .i64 a8_2] 59 (0, 0)) (by (with_reducible repeat (first | refine blk_drewN ?_ _ | refine blk_drew ?_ | refine blk_alloc ?_ _)); refine blk_far ?_ NB365_454.out _; (with_reducible repeat (first | refine blk_drewN ?_ _ | refine blk_drew ?_ | refine blk_alloc ?_ _)); refine blk_far ?_ NB365_454.out _; (with_reducible repeat (first | refine blk_drewN ?_ _ | refine blk_drew ?_ | refine blk_alloc ?_ _)); exact BK365.out) hb); replace BK366 := aM (blk_below (g := gb366) (o := .cells #[.int .i64 a11_0, .int .i64 a11_1, .int .i64 a11_2] 59 (0, 0)) (by (with_reducible repeat (first | refine blk_drewN ?_ _ | refine blk_drew ?_ | refine blk_alloc ?_ _)); refine blk_far ?_ NB366_454.out _; (with_reducible repeat (first | refine blk_drewN ?_ _ | refine blk_drew ?_ | refine blk_alloc ?_ _)); refine blk_far ?_ NB366_454.out _; (with_reducible repeat (first | refine blk_drewN ?_ _ | refine blk_drew ?_ | refine blk_alloc ?_ _)); exact BK366.out) hb); replace BK436 := aM (blk_below (g := gb436) (o := .cells #[.int .i64 t431, .slice Ao256 t432.length co256] 57 (0, 0)) (by (with_reducible repeat (first | refine blk_drewN ?_ _ | refine blk_drew ?_ | refine blk_alloc ?_ _)); refine blk_far ?_ NB436_454.out _; (with_reducible repeat (first | refine blk_drewN ?_ _ | refine blk_drew ?_ | refine blk_alloc ?_ _)); refine blk_far ?_ NB436_454.out _; (with_reducible repeat (first | refine blk_drewN ?_ _ | refine blk_drew ?_ | refine blk_alloc ?_ _)); exact BK436.out) hb); replace BK442 := aM (blk_below (g := gb442) (o := .cells #[.int .i64 t437, .slice Ao268 t438.length co268] 57 (0, 0)) (by (with_reducible repeat (first | refine blk_drewN ?_ _ | refine blk_drew ?_ | refine blk_alloc ?_ _)); refine blk_far ?_ NB442_454.out _; (with_reducible repeat (first | refine blk_drewN ?_ _ | refine blk_drew ?_ | refine blk_alloc ?_ _)); refine blk_far ?_ NB442_454.out _; (with_reducible repeat (first | refine blk_drewN ?_ _ | refine blk_drew ?_ | refine blk_alloc ?_ _)); exact BK442.out) hb); replace BK448 := aM (blk_below (g := gb448) (o := .cells #[.int .i64 t443, .slice Ao282 t444.length co282] 57 (0, 0)) (by (with_reducible repeat (first | refine blk_drewN ?_ _ | refine blk_drew ?_ | refine blk_alloc ?_ _)); refine blk_far ?_ NB448_454.out _; (with_reducible repeat (first | refine blk_drewN ?_ _ | refine blk_drew ?_ | refine blk_alloc ?_ _)); refine blk_far ?_ NB448_454.out _; (with_reducible repeat (first | refine blk_drewN ?_ _ | refine blk_drew ?_ | refine blk_alloc ?_ _)); exact BK448.out) hb); replace BK454 := aM (blk_below (g := gb454) (o := .cells #[.int .i64 t449, .slice Ao295 t450.length co295] 57 (0, 0)) (by (with_reducible repeat (first | refine blk_drewN ?_ _ | refine blk_drew ?_ | refine blk_alloc ?_ _)); refine blk_put (cs := #[.int .i64 t449, .slice none 0 0]) ?_ 1 _ rfl; (with_reducible repeat (first | refine blk_drewN ?_ _ | refine blk_drew ?_ | refine blk_alloc ?_ _)); refine blk_put (cs := #[.int .i64 0, .slice none 0 0]) ?_ 0 _ rfl; (with_reducible repeat (first | refine blk_drewN ?_ _ | refine blk_drew ?_ | refine blk_alloc ?_ _)); exact BK454.out) hb); replace HB := hS HB hb; clear hb; obtain ⟨hcz299_0, hcz299_1, hcz299_2, hfz299_0, hfz299_1, hfz299_2⟩ := hC3 BK365) | ((with_reducible refine gG 65 (some 320) rfl rfl ?_); refine gC Tryd.func65 (spec_DoesFit.calls kj197 a8_0 a8_1 a8_2 a9 t457 t458 _ A237.out) ?_; rintro w300 hb; replace HO434 := rB HO434 hb; replace HO440 := rB HO440 hb; replace HO446 := rB HO446 hb; replace HO452 := rB HO452 hb; replace BK362 := bB BK362 hb; replace BK363 := bB BK363 hb; replace BK364 := bB BK364 hb; replace BK365 := bB BK365 hb; replace BK366 := bB BK366 hb; replace BK436 := bB BK436 hb; replace BK442 := bB BK442 hb; replace BK448 := bB BK448 hb; replace BK454 := bB BK454 hb; replace HB := hS HB hb; clear hb))
      (try simp only [Act.put, List.setIfInBounds_toArray, List.set_cons_zero, List.set_cons_succ])
      go_cut [371] from 287 to 371 (fun v371 wc => ∃ (kq : Nat) (x371_237 : Bool), v371 = .bool x371_237 ∧ Aside0 (laws_FnStatesHiddenOfAll.j7 kq a7 t435 t447 x371_237 a4_0 l4_1 a5_0 a5_1 a5_2 a6_0 l6_1 t431 t432 t443 t444 = some r) ∧ Aside0 (kq ≤ kj197) ∧ Aside0 (Kd.R k59 59 wc w.heap.size (fun k_ => some k_ ≠ ((.slice Ao282 t444.length co282) : Value).ownBlock ∧ k_ ≠ gb363) (.slice Ao256 t432.length co256) t432) ∧ Aside0 (Kd.R k59 59 wc w.heap.size (fun k_ => some k_ ≠ ((.slice Ao256 t432.length co256) : Value).ownBlock ∧ k_ ≠ gb363) (.slice Ao282 t444.length co282) t444) ∧ Aside0 (wc.heap[gb362]? = some (.cells #[.int .i64 a4_0, (.slice A4_1 l4_1.length c4_1)] 57 (0, 0))) ∧ Aside0 (wc.heap[gb363]? = some (.cells #[.int .i64 a5_0, .int .i64 a5_1, .int .i64 a5_2] 59 (0, 0))) ∧ Aside0 (wc.heap[gb364]? = some (.cells #[.int .i64 a6_0, (.slice A6_1 l6_1.length c6_1)] 57 (0, 0))) ∧ Aside0 (wc.heap[gb436]? = some (.cells #[.int .i64 t431, (.slice Ao256 t432.length co256)] 57 (0, 0))) ∧ Aside0 (wc.heap[gb448]? = some (.cells #[.int .i64 t443, (.slice Ao282 t444.length co282)] 57 (0, 0))) ∧ Aside0 (Below w.heap.size w wc))
      case first => as_aux_lemma =>
       have H := HC238.out
       clear HC238
       refine iN H ?_; clear H; intro c301 H
       have c301b0 := bF c301
       (try have c301b1 := nD c301)
       (try have c301b2 := nQ c301)
       clear c301
       (first | rw [c301b0] | (simp only [i64_w, i32_w]; rw [c301b0]) | skip)
       replace H := bC H; obtain ⟨t459, A302, H⟩ := H
       refine iBy H ?_; clear H; rintro rfl H
       refine iN H ?_; clear H; intro c304 H
       have c304b0 := bF c304
       (try have c304b1 := nD c304)
       (try have c304b2 := nQ c304)
       clear c304
       replace H := bC H; obtain ⟨t460, A305, H⟩ := H
       refine iBy H ?_; clear H; rintro rfl H
       refine iN H ?_; clear H; intro c307 H
       have c307b0 := bF c307
       (try have c307b1 := nD c307)
       (try have c307b2 := nQ c307)
       clear c307
       refine iN H ?_; clear H; intro c308 H
       have c308b0 := bF c308
       (try have c308b1 := nD c308)
       (try have c308b2 := nQ c308)
       clear c308
       replace H := bC H; obtain ⟨t461, A309, H⟩ := H
       replace H := bC H; obtain ⟨t462, A310, H⟩ := H
       refine iN H ?_; clear H; intro c311 H
       have c311b0 := bF c311
       (try have c311b1 := nD c311)
       (try have c311b2 := nQ c311)
       clear c311
       refine iB H ?_ ?_ <;> clear H <;> rintro rfl H
       ·replace H := bC H; obtain ⟨t463, A313, H⟩ := H
        have H' := aM H
        clear H
        try go_wp2
        have n0_ := aM (Kd.R_drew HO434.out)
        have n1_ := aM (Kd.R_drew HO440.out)
        have n2_ := aM (Kd.R_drew HO446.out)
        have n3_ := aM (Kd.R_drew HO452.out)
        have n4_ := aM (blk_drew BK362.out)
        have n5_ := aM (blk_drew BK363.out)
        have n6_ := aM (blk_drew BK364.out)
        have n7_ := aM (blk_drew BK365.out)
        have n8_ := aM (blk_drew BK366.out)
        have n9_ := aM (blk_drew BK436.out)
        have n10_ := aM (blk_drew BK442.out)
        have n11_ := aM (blk_drew BK448.out)
        have n12_ := aM (blk_drew BK454.out)
        have n13_ := aM (below_drew1 HB.out)
        clear HO434
        clear HO440
        clear HO446
        clear HO452
        clear BK362
        clear BK363
        clear BK364
        clear BK365
        clear BK366
        clear BK436
        clear BK442
        clear BK448
        clear BK454
        clear HB
        have HO434 := n0_
        have HO440 := n1_
        have HO446 := n2_
        have HO452 := n3_
        have BK362 := n4_
        have BK363 := n5_
        have BK364 := n6_
        have BK365 := n7_
        have BK366 := n8_
        have BK436 := n9_
        have BK442 := n10_
        have BK448 := n11_
        have BK454 := n12_
        have HB := n13_
        clear n0_ n1_ n2_ n3_ n4_ n5_ n6_ n7_ n8_ n9_ n10_ n11_ n12_ n13_
        refine start_ (n := 49) (S := fun w' => w'.cell? ⟨gb436, 0, none⟩ = some (.int .i64 t431) ∧ w'.cell? ⟨gb436, 1, none⟩ = some (.slice Ao256 t432.length co256) ∧ w'.cell? ⟨gb442, 0, none⟩ = some (.int .i64 t437) ∧ w'.cell? ⟨gb442, 1, none⟩ = some (.slice Ao268 t438.length co268) ∧ w'.cell? ⟨gb448, 0, none⟩ = some (.int .i64 t443) ∧ w'.cell? ⟨gb448, 1, none⟩ = some (.slice Ao282 t444.length co282) ∧ w'.cell? ⟨gb454, 0, none⟩ = some (.int .i64 t449) ∧ w'.cell? ⟨gb454, 1, none⟩ = some (.slice Ao295 t450.length co295) ∧ w'.cell? ⟨gb366, 0, none⟩ = some (.int .i64 a11_0) ∧ w'.cell? ⟨gb366, 1, none⟩ = some (.int .i64 a11_1) ∧ w'.cell? ⟨gb366, 2, none⟩ = some (.int .i64 a11_2) ∧ w'.cell? ⟨gb365, 0, none⟩ = some (.int .i64 a8_0) ∧ w'.cell? ⟨gb365, 1, none⟩ = some (.int .i64 a8_1) ∧ w'.cell? ⟨gb365, 2, none⟩ = some (.int .i64 a8_2)) (ds := []) #[false, false, false, false, false, false, false, false, false, false, false, false, false, false, false, false, false, false, false, false, false, false, false, false, false, false, false, false, false, false, false, false, false, false, false, false, false, false, false, false, false, false, false, false, false, false, false, false, false] (by kernel_rfl) rfl rfl ⟨(blk_cell BK436.out 0).trans rfl, (blk_cell BK436.out 1).trans rfl, (blk_cell BK442.out 0).trans rfl, (blk_cell BK442.out 1).trans rfl, (blk_cell BK448.out 0).trans rfl, (blk_cell BK448.out 1).trans rfl, (blk_cell BK454.out 0).trans rfl, (blk_cell BK454.out 1).trans rfl, (blk_cell BK366.out 0).trans rfl, (blk_cell BK366.out 1).trans rfl, (blk_cell BK366.out 2).trans rfl, (blk_cell BK365.out 0).trans rfl, (blk_cell BK365.out 1).trans rfl, (blk_cell BK365.out 2).trans rfl⟩ (fun hHeld => ?_); refine with_tabW laws_FnStatesHiddenOfAll.tab42 laws_FnStatesHiddenOfAll.bits42 (fun HT_ HW_ => ?_)
        generalize w300.drew = w314 at HO434 HO440 HO446 HO452 BK362 BK363 BK364 BK365 BK366 BK436 BK442 BK448 BK454 HB hHeld ⊢
        refine pure_ (i := 0) (N := some 323) (v := ?_) (a' := ?_) #[true, false, false, false, false, false, false, false, false, false, false, false, false, false, false, false, false, false, false, false, false, false, false, false, false, false, false, false, false, false, false, false, false, false, false, false, false, false, false, false, false, false, false, false, false, false, false, false, false] rfl rfl (any_of HT_.out (by kernel_rfl)) (fun _ _ _ h => h) (Or.inl ⟨by rfl, ?_⟩) ?_ ?_
        rotate_left
        ·intro w'
         go_simp
         with_reducible rfl
        rotate_left
        ·simp only [Act.put, List.setIfInBounds_toArray, List.set_cons_zero, List.set_cons_succ, i64_w, i32_w]
         rfl
        refine pure_ (i := 1) (N := some 324) (v := ?_) (a' := ?_) #[true, true, false, false, false, false, false, false, false, false, false, false, false, false, false, false, false, false, false, false, false, false, false, false, false, false, false, false, false, false, false, false, false, false, false, false, false, false, false, false, false, false, false, false, false, false, false, false, false] rfl rfl (any_of HT_.out (by kernel_rfl)) (fun _ _ _ h => h) (Or.inl ⟨by rfl, ?_⟩) ?_ ?_
        rotate_left
        ·intro w'
         go_simp
         with_reducible rfl
        rotate_left
        ·simp only [Act.put, List.setIfInBounds_toArray, List.set_cons_zero, List.set_cons_succ, i64_w, i32_w]
         rfl
        refine pure_ (i := 2) (N := some 325) (v := ?_) (a' := ?_) #[true, true, true, false, false, false, false, false, false, false, false, false, false, false, false, false, false, false, false, false, false, false, false, false, false, false, false, false, false, false, false, false, false, false, false, false, false, false, false, false, false, false, false, false, false, false, false, false, false] rfl rfl (any_of HT_.out (by kernel_rfl)) (fun _ _ _ h => h) (Or.inl ⟨by rfl, ?_⟩) ?_ ?_
        rotate_left
        ·intro w'
         go_simp
         with_reducible rfl
        rotate_left
        ·simp only [Act.put, List.setIfInBounds_toArray, List.set_cons_zero, List.set_cons_succ, i64_w, i32_w]
         rfl
        refine pure_ (i := 3) (N := some 326) (v := ?_) (a' := ?_) #[true, true, true, true, false, false, false, false, false, false, false, false, false, false, false, false, false, false, false, false, false, false, false, false, false, false, false, false, false, false, false, false, false, false, false, false, false, false, false, false, false, false, false, false, false, false, false, false, false] rfl rfl (any_of HT_.out (by kernel_rfl)) (fun _ _ _ h => h) (Or.inl ⟨by rfl, ?_⟩) ?_ ?_
        rotate_left
        ·intro w'
         go_simp
         with_reducible rfl
        rotate_left
        ·simp only [Act.put, List.setIfInBounds_toArray, List.set_cons_zero, List.set_cons_succ, i64_w, i32_w]
         rfl
        refine take_ (i := 4) (N := some 327) (v := ?_) (a' := ?_) #[true, true, true, true, true, false, false, false, false, false, false, false, false, false, false, false, false, false, false, false, false, false, false, false, false, false, false, false, false, false, false, false, false, false, false, false, false, false, false, false, false, false, false, false, false, false, false, false, false] rfl rfl (take_ofW HT_.out HW_.out (by kernel_rfl)) (fun _ _ _ h => h) (Or.inl ⟨by rfl, ?_⟩) hHeld ?_ ?_
        rotate_left
        ·rintro w' ⟨s0, s1, s2, s3, s4, s5, s6, s7, s8, s9, s10, s11, s12, s13⟩
         go_simp
         with_reducible rfl
        rotate_left
        ·simp only [Act.put, List.setIfInBounds_toArray, List.set_cons_zero, List.set_cons_succ, i64_w, i32_w]
         rfl
        refine take_ (i := 5) (N := some 328) (v := ?_) (a' := ?_) #[true, true, true, true, true, true, false, false, false, false, false, false, false, false, false, false, false, false, false, false, false, false, false, false, false, false, false, false, false, false, false, false, false, false, false, false, false, false, false, false, false, false, false, false, false, false, false, false, false] rfl rfl (take_ofW HT_.out HW_.out (by kernel_rfl)) (fun _ _ _ h => h) (Or.inl ⟨by rfl, ?_⟩) hHeld ?_ ?_
        rotate_left
        ·rintro w' ⟨s0, s1, s2, s3, s4, s5, s6, s7, s8, s9, s10, s11, s12, s13⟩
         go_simp
         with_reducible rfl
        rotate_left
        ·simp only [Act.put, List.setIfInBounds_toArray, List.set_cons_zero, List.set_cons_succ, i64_w, i32_w]
         rfl
        refine one_ (i := 6) (N := some 329) #[true, true, true, true, true, true, true, false, false, false, false, false, false, false, false, false, false, false, false, false, false, false, false, false, false, false, false, false, false, false, false, false, false, false, false, false, false, false, false, false, false, false, false, false, false, false, false, false, false] rfl rfl (one_of HT_.out (by kernel_rfl)) (by decide) (fun K hK => ?_)
        refine goes_ Tryd.func50 (by kernel_rfl) rfl #[.agg #[.int .i64 t431, .slice Ao256 t432.length co256], .agg #[.int .i64 t437, .slice Ao268 t438.length co268]] (by rfl) rfl rfl (by (try simp only [List.map_toArray, List.map_cons, List.map_nil]); first | done | rfl | (simp only [List.length_drop, List.length_take]; rfl)) ?_
        with_reducible refine (laws_xPuzzle.calls kj197 t431 _ _ t432 t437 _ _ t438 true _ ?side1 ?side2 ?side3 ?side4 A302.out).mono ?_
        (case side1 => exact cU (Kd.R_reads' HO434.out).2.2)
        (case side2 => exact (Kd.R_reads' HO434.out).2.1)
        (case side3 => exact cU (Kd.R_reads' HO440.out).2.2)
        (case side4 => exact (Kd.R_reads' HO440.out).2.1)
        rintro e w315 ⟨rfl, hb⟩
        refine ⟨_, rfl, ?_⟩
        have n0_ := rB HO434 hb
        have n1_ := rB HO440 hb
        have n2_ := rB HO446 hb
        have n3_ := rB HO452 hb
        have n4_ := bB BK362 hb
        have n5_ := bB BK363 hb
        have n6_ := bB BK364 hb
        have n7_ := bB BK365 hb
        have n8_ := bB BK366 hb
        have n9_ := bB BK436 hb
        have n10_ := bB BK442 hb
        have n11_ := bB BK448 hb
        have n12_ := bB BK454 hb
        have n13_ := hS HB hb
        clear HO434
        clear HO440
        clear HO446
        clear HO452
        clear BK362
        clear BK363
        clear BK364
        clear BK365
        clear BK366
        clear BK436
        clear BK442
        clear BK448
        clear BK454
        clear HB
        have HO434 := n0_
        have HO440 := n1_
        have HO446 := n2_
        have HO452 := n3_
        have BK362 := n4_
        have BK363 := n5_
        have BK364 := n6_
        have BK365 := n7_
        have BK366 := n8_
        have BK436 := n9_
        have BK442 := n10_
        have BK448 := n11_
        have BK454 := n12_
        have HB := n13_
        clear n0_ n1_ n2_ n3_ n4_ n5_ n6_ n7_ n8_ n9_ n10_ n11_ n12_ n13_
        (try clear hb)
        (try clear hb2)
        (try clear hk)
        (try clear hi)
        refine hK.out _ _ ⟨(blk_cell BK436.out 0).trans rfl, (blk_cell BK436.out 1).trans rfl, (blk_cell BK442.out 0).trans rfl, (blk_cell BK442.out 1).trans rfl, (blk_cell BK448.out 0).trans rfl, (blk_cell BK448.out 1).trans rfl, (blk_cell BK454.out 0).trans rfl, (blk_cell BK454.out 1).trans rfl, (blk_cell BK366.out 0).trans rfl, (blk_cell BK366.out 1).trans rfl, (blk_cell BK366.out 2).trans rfl, (blk_cell BK365.out 0).trans rfl, (blk_cell BK365.out 1).trans rfl, (blk_cell BK365.out 2).trans rfl⟩ (fun hHeld => ?_)
        clear hK K
        refine norm_ (a' := ?_) ?_ ?_
        rotate_left
        ·show Act.put _ (some 329) _ = _
         simp only [Act.put, List.setIfInBounds_toArray, List.set_cons_zero, List.set_cons_succ, i64_w, i32_w]
         rfl
        refine pure_ (i := 7) (N := some 330) (v := ?_) (a' := ?_) #[true, true, true, true, true, true, true, true, false, false, false, false, false, false, false, false, false, false, false, false, false, false, false, false, false, false, false, false, false, false, false, false, false, false, false, false, false, false, false, false, false, false, false, false, false, false, false, false, false] rfl rfl (any_of HT_.out (by kernel_rfl)) (fun _ _ _ h => h) (Or.inl ⟨by rfl, ?_⟩) ?_ ?_
        rotate_left
        ·intro w'
         go_simp
         with_reducible rfl
        rotate_left
        ·simp only [Act.put, List.setIfInBounds_toArray, List.set_cons_zero, List.set_cons_succ, i64_w, i32_w]
         rfl
        refine pure_ (i := 8) (N := some 331) (v := ?_) (a' := ?_) #[true, true, true, true, true, true, true, true, true, false, false, false, false, false, false, false, false, false, false, false, false, false, false, false, false, false, false, false, false, false, false, false, false, false, false, false, false, false, false, false, false, false, false, false, false, false, false, false, false] rfl rfl (any_of HT_.out (by kernel_rfl)) (fun _ _ _ h => h) (Or.inl ⟨by rfl, ?_⟩) ?_ ?_
        rotate_left
        ·intro w'
         go_simp
         with_reducible rfl
        rotate_left
        ·simp only [Act.put, List.setIfInBounds_toArray, List.set_cons_zero, List.set_cons_succ, i64_w, i32_w]
         rfl
        refine pure_ (i := 9) (N := some 332) (v := ?_) (a' := ?_) #[true, true, true, true, true, true, true, true, true, true, false, false, false, false, false, false, false, false, false, false, false, false, false, false, false, false, false, false, false, false, false, false, false, false, false, false, false, false, false, false, false, false, false, false, false, false, false, false, false] rfl rfl (any_of HT_.out (by kernel_rfl)) (fun _ _ _ h => h) (Or.inl ⟨by rfl, ?_⟩) ?_ ?_
        rotate_left
        ·intro w'
         go_simp
         with_reducible rfl
        rotate_left
        ·simp only [Act.put, List.setIfInBounds_toArray, List.set_cons_zero, List.set_cons_succ, i64_w, i32_w]
         rfl
        refine pure_ (i := 10) (N := some 333) (v := ?_) (a' := ?_) #[true, true, true, true, true, true, true, true, true, true, true, false, false, false, false, false, false, false, false, false, false, false, false, false, false, false, false, false, false, false, false, false, false, false, false, false, false, false, false, false, false, false, false, false, false, false, false, false, false] rfl rfl (any_of HT_.out (by kernel_rfl)) (fun _ _ _ h => h) (Or.inl ⟨by rfl, ?_⟩) ?_ ?_
        rotate_left
        ·intro w'
         go_simp
         with_reducible rfl
        rotate_left
        ·simp only [Act.put, List.setIfInBounds_toArray, List.set_cons_zero, List.set_cons_succ, i64_w, i32_w]
         rfl
        refine pure_ (i := 11) (N := some 334) (v := ?_) (a' := ?_) #[true, true, true, true, true, true, true, true, true, true, true, true, false, false, false, false, false, false, false, false, false, false, false, false, false, false, false, false, false, false, false, false, false, false, false, false, false, false, false, false, false, false, false, false, false, false, false, false, false] rfl rfl (any_of HT_.out (by kernel_rfl)) (fun _ _ _ h => h) (Or.inl ⟨by rfl, ?_⟩) ?_ ?_
        rotate_left
        ·intro w'
         go_simp
         with_reducible rfl
        rotate_left
        ·simp only [Act.put, List.setIfInBounds_toArray, List.set_cons_zero, List.set_cons_succ, i64_w, i32_w]
         rfl
        refine pure_ (i := 12) (N := some 335) (v := ?_) (a' := ?_) #[true, true, true, true, true, true, true, true, true, true, true, true, true, false, false, false, false, false, false, false, false, false, false, false, false, false, false, false, false, false, false, false, false, false, false, false, false, false, false, false, false, false, false, false, false, false, false, false, false] rfl rfl (any_of HT_.out (by kernel_rfl)) (fun _ _ _ h => h) (Or.inl ⟨by rfl, ?_⟩) ?_ ?_
        rotate_left
        ·intro w'
         go_simp
         with_reducible rfl
        rotate_left
        ·simp only [Act.put, List.setIfInBounds_toArray, List.set_cons_zero, List.set_cons_succ, i64_w, i32_w]
         rfl
        refine pure_ (i := 13) (N := some 336) (v := ?_) (a' := ?_) #[true, true, true, true, true, true, true, true, true, true, true, true, true, true, false, false, false, false, false, false, false, false, false, false, false, false, false, false, false, false, false, false, false, false, false, false, false, false, false, false, false, false, false, false, false, false, false, false, false] rfl rfl (any_of HT_.out (by kernel_rfl)) (fun _ _ _ h => h) (Or.inl ⟨by rfl, ?_⟩) ?_ ?_
        rotate_left
        ·intro w'
         go_simp
         with_reducible rfl
        rotate_left
        ·simp only [Act.put, List.setIfInBounds_toArray, List.set_cons_zero, List.set_cons_succ, i64_w, i32_w]
         rfl
        refine pure_ (i := 14) (N := some 337) (v := ?_) (a' := ?_) #[true, true, true, true, true, true, true, true, true, true, true, true, true, true, true, false, false, false, false, false, false, false, false, false, false, false, false, false, false, false, false, false, false, false, false, false, false, false, false, false, false, false, false, false, false, false, false, false, false] rfl rfl (any_of HT_.out (by kernel_rfl)) (fun _ _ _ h => h) (Or.inl ⟨by rfl, ?_⟩) ?_ ?_
        rotate_left
        ·intro w'
         go_simp
         with_reducible rfl
        rotate_left
        ·simp only [Act.put, List.setIfInBounds_toArray, List.set_cons_zero, List.set_cons_succ, i64_w, i32_w]
         rfl
        refine take_ (i := 15) (N := some 338) (v := ?_) (a' := ?_) #[true, true, true, true, true, true, true, true, true, true, true, true, true, true, true, true, false, false, false, false, false, false, false, false, false, false, false, false, false, false, false, false, false, false, false, false, false, false, false, false, false, false, false, false, false, false, false, false, false] rfl rfl (take_ofW HT_.out HW_.out (by kernel_rfl)) (fun _ _ _ h => h) (Or.inl ⟨by rfl, ?_⟩) hHeld ?_ ?_
        rotate_left
        ·rintro w' ⟨s0, s1, s2, s3, s4, s5, s6, s7, s8, s9, s10, s11, s12, s13⟩
         go_simp
         with_reducible rfl
        rotate_left
        ·simp only [Act.put, List.setIfInBounds_toArray, List.set_cons_zero, List.set_cons_succ, i64_w, i32_w]
         rfl
        refine take_ (i := 16) (N := some 339) (v := ?_) (a' := ?_) #[true, true, true, true, true, true, true, true, true, true, true, true, true, true, true, true, true, false, false, false, false, false, false, false, false, false, false, false, false, false, false, false, false, false, false, false, false, false, false, false, false, false, false, false, false, false, false, false, false] rfl rfl (take_ofW HT_.out HW_.out (by kernel_rfl)) (fun _ _ _ h => h) (Or.inl ⟨by rfl, ?_⟩) hHeld ?_ ?_
        rotate_left
        ·rintro w' ⟨s0, s1, s2, s3, s4, s5, s6, s7, s8, s9, s10, s11, s12, s13⟩
         go_simp
         with_reducible rfl
        rotate_left
        ·simp only [Act.put, List.setIfInBounds_toArray, List.set_cons_zero, List.set_cons_succ, i64_w, i32_w]
         rfl
        refine one_ (i := 17) (N := some 340) #[true, true, true, true, true, true, true, true, true, true, true, true, true, true, true, true, true, true, false, false, false, false, false, false, false, false, false, false, false, false, false, false, false, false, false, false, false, false, false, false, false, false, false, false, false, false, false, false, false] rfl rfl (one_of HT_.out (by kernel_rfl)) (by decide) (fun K hK => ?_)
        refine goes_ Tryd.func50 (by kernel_rfl) rfl #[.agg #[.int .i64 t443, .slice Ao282 t444.length co282], .agg #[.int .i64 t449, .slice Ao295 t450.length co295]] (by rfl) rfl rfl (by (try simp only [List.map_toArray, List.map_cons, List.map_nil]); first | done | rfl | (simp only [List.length_drop, List.length_take]; rfl)) ?_
        with_reducible refine (laws_xPuzzle.calls kj197 t443 _ _ t444 t449 _ _ t450 true _ ?side1 ?side2 ?side3 ?side4 A305.out).mono ?_
        (case side1 => exact cU (Kd.R_reads' HO446.out).2.2)
        (case side2 => exact (Kd.R_reads' HO446.out).2.1)
        (case side3 => exact cU (Kd.R_reads' HO452.out).2.2)
        (case side4 => exact (Kd.R_reads' HO452.out).2.1)
        rintro e w316 ⟨rfl, hb⟩
        refine ⟨_, rfl, ?_⟩
        have n0_ := rB HO434 hb
        have n1_ := rB HO440 hb
        have n2_ := rB HO446 hb
        have n3_ := rB HO452 hb
        have n4_ := bB BK362 hb
        have n5_ := bB BK363 hb
        have n6_ := bB BK364 hb
        have n7_ := bB BK365 hb
        have n8_ := bB BK366 hb
        have n9_ := bB BK436 hb
        have n10_ := bB BK442 hb
        have n11_ := bB BK448 hb
        have n12_ := bB BK454 hb
        have n13_ := hS HB hb
        clear HO434
        clear HO440
        clear HO446
        clear HO452
        clear BK362
        clear BK363
        clear BK364
        clear BK365
        clear BK366
        clear BK436
        clear BK442
        clear BK448
        clear BK454
        clear HB
        have HO434 := n0_
        have HO440 := n1_
        have HO446 := n2_
        have HO452 := n3_
        have BK362 := n4_
        have BK363 := n5_
        have BK364 := n6_
        have BK365 := n7_
        have BK366 := n8_
        have BK436 := n9_
        have BK442 := n10_
        have BK448 := n11_
        have BK454 := n12_
        have HB := n13_
        clear n0_ n1_ n2_ n3_ n4_ n5_ n6_ n7_ n8_ n9_ n10_ n11_ n12_ n13_
        (try clear hb)
        (try clear hb2)
        (try clear hk)
        (try clear hi)
        refine hK.out _ _ ⟨(blk_cell BK436.out 0).trans rfl, (blk_cell BK436.out 1).trans rfl, (blk_cell BK442.out 0).trans rfl, (blk_cell BK442.out 1).trans rfl, (blk_cell BK448.out 0).trans rfl, (blk_cell BK448.out 1).trans rfl, (blk_cell BK454.out 0).trans rfl, (blk_cell BK454.out 1).trans rfl, (blk_cell BK366.out 0).trans rfl, (blk_cell BK366.out 1).trans rfl, (blk_cell BK366.out 2).trans rfl, (blk_cell BK365.out 0).trans rfl, (blk_cell BK365.out 1).trans rfl, (blk_cell BK365.out 2).trans rfl⟩ (fun hHeld => ?_)
        clear hK K
        refine norm_ (a' := ?_) ?_ ?_
        rotate_left
        ·show Act.put _ (some 340) _ = _
         simp only [Act.put, List.setIfInBounds_toArray, List.set_cons_zero, List.set_cons_succ, i64_w, i32_w]
         rfl
        refine pure_ (i := 18) (N := some 341) (v := ?_) (a' := ?_) #[true, true, true, true, true, true, true, true, true, true, true, true, true, true, true, true, true, true, true, false, false, false, false, false, false, false, false, false, false, false, false, false, false, false, false, false, false, false, false, false, false, false, false, false, false, false, false, false, false] rfl rfl (any_of HT_.out (by kernel_rfl)) (fun _ _ _ h => h) (Or.inl ⟨by rfl, ?_⟩) ?_ ?_
        rotate_left
        ·intro w'
         go_simp
         with_reducible rfl
        rotate_left
        ·simp only [Act.put, List.setIfInBounds_toArray, List.set_cons_zero, List.set_cons_succ, i64_w, i32_w]
         rfl
        refine pure_ (i := 19) (N := some 342) (v := ?_) (a' := ?_) #[true, true, true, true, true, true, true, true, true, true, true, true, true, true, true, true, true, true, true, true, false, false, false, false, false, false, false, false, false, false, false, false, false, false, false, false, false, false, false, false, false, false, false, false, false, false, false, false, false] rfl rfl (any_of HT_.out (by kernel_rfl)) (fun _ _ _ h => h) (Or.inl ⟨by rfl, ?_⟩) ?_ ?_
        rotate_left
        ·intro w'
         go_simp
         with_reducible rfl
        rotate_left
        ·simp only [Act.put, List.setIfInBounds_toArray, List.set_cons_zero, List.set_cons_succ, i64_w, i32_w]
         rfl
        refine pure_ (i := 20) (N := some 343) (v := ?_) (a' := ?_) #[true, true, true, true, true, true, true, true, true, true, true, true, true, true, true, true, true, true, true, true, true, false, false, false, false, false, false, false, false, false, false, false, false, false, false, false, false, false, false, false, false, false, false, false, false, false, false, false, false] rfl rfl (any_of HT_.out (by kernel_rfl)) (fun _ _ _ h => h) (Or.inl ⟨by rfl, ?_⟩) ?_ ?_
        rotate_left
        ·intro w'
         go_simp
         with_reducible rfl
        rotate_left
        ·simp only [Act.put, List.setIfInBounds_toArray, List.set_cons_zero, List.set_cons_succ, i64_w, i32_w]
         rfl
        refine pure_ (i := 21) (N := some 344) (v := ?_) (a' := ?_) #[true, true, true, true, true, true, true, true, true, true, true, true, true, true, true, true, true, true, true, true, true, true, false, false, false, false, false, false, false, false, false, false, false, false, false, false, false, false, false, false, false, false, false, false, false, false, false, false, false] rfl rfl (any_of HT_.out (by kernel_rfl)) (fun _ _ _ h => h) (Or.inl ⟨by rfl, ?_⟩) ?_ ?_
        rotate_left
        ·intro w'
         go_simp
         with_reducible rfl
        rotate_left
        ·simp only [Act.put, List.setIfInBounds_toArray, List.set_cons_zero, List.set_cons_succ, i64_w, i32_w]
         rfl
        refine pure_ (i := 22) (N := some 345) (v := ?_) (a' := ?_) #[true, true, true, true, true, true, true, true, true, true, true, true, true, true, true, true, true, true, true, true, true, true, true, false, false, false, false, false, false, false, false, false, false, false, false, false, false, false, false, false, false, false, false, false, false, false, false, false, false] rfl rfl (any_of HT_.out (by kernel_rfl)) (fun _ _ _ h => h) (Or.inl ⟨by rfl, ?_⟩) ?_ ?_
        rotate_left
        ·intro w'
         go_simp
         with_reducible rfl
        rotate_left
        ·simp only [Act.put, List.setIfInBounds_toArray, List.set_cons_zero, List.set_cons_succ, i64_w, i32_w]
         rfl
        refine pure_ (i := 23) (N := some 346) (v := ?_) (a' := ?_) #[true, true, true, true, true, true, true, true, true, true, true, true, true, true, true, true, true, true, true, true, true, true, true, true, false, false, false, false, false, false, false, false, false, false, false, false, false, false, false, false, false, false, false, false, false, false, false, false, false] rfl rfl (any_of HT_.out (by kernel_rfl)) (fun _ _ _ h => h) (Or.inl ⟨by rfl, ?_⟩) ?_ ?_
        rotate_left
        ·intro w'
         go_simp
         with_reducible rfl
        rotate_left
        ·simp only [Act.put, List.setIfInBounds_toArray, List.set_cons_zero, List.set_cons_succ, i64_w, i32_w]
         rfl
        refine pure_ (i := 24) (N := some 347) (v := ?_) (a' := ?_) #[true, true, true, true, true, true, true, true, true, true, true, true, true, true, true, true, true, true, true, true, true, true, true, true, true, false, false, false, false, false, false, false, false, false, false, false, false, false, false, false, false, false, false, false, false, false, false, false, false] rfl rfl (any_of HT_.out (by kernel_rfl)) (fun _ _ _ h => h) (Or.inl ⟨by rfl, ?_⟩) ?_ ?_
        rotate_left
        ·intro w'
         go_simp
         with_reducible rfl
        rotate_left
        ·simp only [Act.put, List.setIfInBounds_toArray, List.set_cons_zero, List.set_cons_succ, i64_w, i32_w]
         rfl
        refine pure_ (i := 25) (N := some 348) (v := ?_) (a' := ?_) #[true, true, true, true, true, true, true, true, true, true, true, true, true, true, true, true, true, true, true, true, true, true, true, true, true, true, false, false, false, false, false, false, false, false, false, false, false, false, false, false, false, false, false, false, false, false, false, false, false] rfl rfl (any_of HT_.out (by kernel_rfl)) (fun _ _ _ h => h) (Or.inl ⟨by rfl, ?_⟩) ?_ ?_
        rotate_left
        ·intro w'
         go_simp
         with_reducible rfl
        rotate_left
        ·simp only [Act.put, List.setIfInBounds_toArray, List.set_cons_zero, List.set_cons_succ, i64_w, i32_w]
         rfl
        refine pure_ (i := 26) (N := some 349) (v := ?_) (a' := ?_) #[true, true, true, true, true, true, true, true, true, true, true, true, true, true, true, true, true, true, true, true, true, true, true, true, true, true, true, false, false, false, false, false, false, false, false, false, false, false, false, false, false, false, false, false, false, false, false, false, false] rfl rfl (any_of HT_.out (by kernel_rfl)) (fun _ _ _ h => h) (Or.inl ⟨by rfl, ?_⟩) ?_ ?_
        rotate_left
        ·intro w'
         go_simp
         with_reducible rfl
        rotate_left
        ·simp only [Act.put, List.setIfInBounds_toArray, List.set_cons_zero, List.set_cons_succ, i64_w, i32_w]
         rfl
        refine pure_ (i := 27) (N := some 350) (v := ?_) (a' := ?_) #[true, true, true, true, true, true, true, true, true, true, true, true, true, true, true, true, true, true, true, true, true, true, true, true, true, true, true, true, false, false, false, false, false, false, false, false, false, false, false, false, false, false, false, false, false, false, false, false, false] rfl rfl (any_of HT_.out (by kernel_rfl)) (fun _ _ _ h => h) (Or.inl ⟨by rfl, ?_⟩) ?_ ?_
        rotate_left
        ·intro w'
         go_simp
         with_reducible rfl
        rotate_left
        ·simp only [Act.put, List.setIfInBounds_toArray, List.set_cons_zero, List.set_cons_succ, i64_w, i32_w]
         rfl
        refine pure_ (i := 28) (N := some 351) (v := ?_) (a' := ?_) #[true, true, true, true, true, true, true, true, true, true, true, true, true, true, true, true, true, true, true, true, true, true, true, true, true, true, true, true, true, false, false, false, false, false, false, false, false, false, false, false, false, false, false, false, false, false, false, false, false] rfl rfl (any_of HT_.out (by kernel_rfl)) (fun _ _ _ h => h) (Or.inl ⟨by rfl, ?_⟩) ?_ ?_
        rotate_left
        ·intro w'
         go_simp
         with_reducible rfl
        rotate_left
        ·simp only [Act.put, List.setIfInBounds_toArray, List.set_cons_zero, List.set_cons_succ, i64_w, i32_w]
         rfl
        refine pure_ (i := 29) (N := some 352) (v := ?_) (a' := ?_) #[true, true, true, true, true, true, true, true, true, true, true, true, true, true, true, true, true, true, true, true, true, true, true, true, true, true, true, true, true, true, false, false, false, false, false, false, false, false, false, false, false, false, false, false, false, false, false, false, false] rfl rfl (any_of HT_.out (by kernel_rfl)) (fun _ _ _ h => h) (Or.inl ⟨by rfl, ?_⟩) ?_ ?_
        rotate_left
        ·intro w'
         go_simp
         with_reducible rfl
        rotate_left
        ·simp only [Act.put, List.setIfInBounds_toArray, List.set_cons_zero, List.set_cons_succ, i64_w, i32_w]
         rfl
        refine pure_ (i := 30) (N := some 353) (v := ?_) (a' := ?_) #[true, true, true, true, true, true, true, true, true, true, true, true, true, true, true, true, true, true, true, true, true, true, true, true, true, true, true, true, true, true, true, false, false, false, false, false, false, false, false, false, false, false, false, false, false, false, false, false, false] rfl rfl (any_of HT_.out (by kernel_rfl)) (fun _ _ _ h => h) (Or.inl ⟨by rfl, ?_⟩) ?_ ?_
        rotate_left
        ·intro w'
         go_simp
         with_reducible rfl
        rotate_left
        ·simp only [Act.put, List.setIfInBounds_toArray, List.set_cons_zero, List.set_cons_succ, i64_w, i32_w]
         rfl
        refine pure_ (i := 31) (N := some 354) (v := ?_) (a' := ?_) #[true, true, true, true, true, true, true, true, true, true, true, true, true, true, true, true, true, true, true, true, true, true, true, true, true, true, true, true, true, true, true, true, false, false, false, false, false, false, false, false, false, false, false, false, false, false, false, false, false] rfl rfl (any_of HT_.out (by kernel_rfl)) (fun _ _ _ h => h) (Or.inl ⟨by rfl, ?_⟩) ?_ ?_
        rotate_left
        ·intro w'
         go_simp
         with_reducible rfl
        rotate_left
        ·simp only [Act.put, List.setIfInBounds_toArray, List.set_cons_zero, List.set_cons_succ, i64_w, i32_w]
         rfl
        refine pure_ (i := 34) (N := some 357) (v := ?_) (a' := ?_) #[true, true, true, true, true, true, true, true, true, true, true, true, true, true, true, true, true, true, true, true, true, true, true, true, true, true, true, true, true, true, true, true, false, false, true, false, false, false, false, false, false, false, false, false, false, false, false, false, false] rfl rfl (any_of HT_.out (by kernel_rfl)) (fun _ _ _ h => h) (Or.inl ⟨by rfl, ?_⟩) ?_ ?_
        rotate_left
        ·intro w'
         go_simp
         with_reducible rfl
        rotate_left
        ·simp only [Act.put, List.setIfInBounds_toArray, List.set_cons_zero, List.set_cons_succ, i64_w, i32_w]
         rfl
        refine take_ (i := 32) (N := some 355) (v := ?_) (a' := ?_) #[true, true, true, true, true, true, true, true, true, true, true, true, true, true, true, true, true, true, true, true, true, true, true, true, true, true, true, true, true, true, true, true, true, false, true, false, false, false, false, false, false, false, false, false, false, false, false, false, false] rfl rfl (take_ofW HT_.out HW_.out (by kernel_rfl)) (fun _ _ _ h => h) (Or.inl ⟨by rfl, ?_⟩) hHeld ?_ ?_
        rotate_left
        ·rintro w' ⟨s0, s1, s2, s3, s4, s5, s6, s7, s8, s9, s10, s11, s12, s13⟩
         go_simp
         with_reducible rfl
        rotate_left
        ·simp only [Act.put, List.setIfInBounds_toArray, List.set_cons_zero, List.set_cons_succ, i64_w, i32_w]
         rfl
        refine take_ (i := 35) (N := some 358) (v := ?_) (a' := ?_) #[true, true, true, true, true, true, true, true, true, true, true, true, true, true, true, true, true, true, true, true, true, true, true, true, true, true, true, true, true, true, true, true, true, false, true, true, false, false, false, false, false, false, false, false, false, false, false, false, false] rfl rfl (take_ofW HT_.out HW_.out (by kernel_rfl)) (fun _ _ _ h => h) (Or.inl ⟨by rfl, ?_⟩) hHeld ?_ ?_
        rotate_left
        ·rintro w' ⟨s0, s1, s2, s3, s4, s5, s6, s7, s8, s9, s10, s11, s12, s13⟩
         go_simp
         with_reducible rfl
        rotate_left
        ·simp only [Act.put, List.setIfInBounds_toArray, List.set_cons_zero, List.set_cons_succ, i64_w, i32_w]
         rfl
        refine one_ (i := 33) (N := some 356) #[true, true, true, true, true, true, true, true, true, true, true, true, true, true, true, true, true, true, true, true, true, true, true, true, true, true, true, true, true, true, true, true, true, true, true, true, false, false, false, false, false, false, false, false, false, false, false, false, false] rfl rfl (one_of HT_.out (by kernel_rfl)) (by decide) (fun K hK => ?_)
        refine goes_ Tryd.func66 (by kernel_rfl) rfl #[.int .i64 a10, .agg #[.int .i64 a11_0, .int .i64 a11_1, .int .i64 a11_2]] (by rfl) rfl rfl (by (try simp only [List.map_toArray, List.map_cons, List.map_nil]); first | done | rfl | (simp only [List.length_drop, List.length_take]; rfl)) ?_
        with_reducible refine (impl_IsClue.calls kj197 a10 a11_0 a11_1 a11_2 t461 _ A309.out).mono ?_
        rintro e w317 ⟨rfl, hb⟩
        refine ⟨_, rfl, ?_⟩
        have n0_ := rB HO434 hb
        have n1_ := rB HO440 hb
        have n2_ := rB HO446 hb
        have n3_ := rB HO452 hb
        have n4_ := bB BK362 hb
        have n5_ := bB BK363 hb
        have n6_ := bB BK364 hb
        have n7_ := bB BK365 hb
        have n8_ := bB BK366 hb
        have n9_ := bB BK436 hb
        have n10_ := bB BK442 hb
        have n11_ := bB BK448 hb
        have n12_ := bB BK454 hb
        have n13_ := hS HB hb
        clear HO434
        clear HO440
        clear HO446
        clear HO452
        clear BK362
        clear BK363
        clear BK364
        clear BK365
        clear BK366
        clear BK436
        clear BK442
        clear BK448
        clear BK454
        clear HB
        have HO434 := n0_
        have HO440 := n1_
        have HO446 := n2_
        have HO452 := n3_
        have BK362 := n4_
        have BK363 := n5_
        have BK364 := n6_
        have BK365 := n7_
        have BK366 := n8_
        have BK436 := n9_
        have BK442 := n10_
        have BK448 := n11_
        have BK454 := n12_
        have HB := n13_
        clear n0_ n1_ n2_ n3_ n4_ n5_ n6_ n7_ n8_ n9_ n10_ n11_ n12_ n13_
        (try clear hb)
        (try clear hb2)
        (try clear hk)
        (try clear hi)
        refine hK.out _ _ ⟨(blk_cell BK436.out 0).trans rfl, (blk_cell BK436.out 1).trans rfl, (blk_cell BK442.out 0).trans rfl, (blk_cell BK442.out 1).trans rfl, (blk_cell BK448.out 0).trans rfl, (blk_cell BK448.out 1).trans rfl, (blk_cell BK454.out 0).trans rfl, (blk_cell BK454.out 1).trans rfl, (blk_cell BK366.out 0).trans rfl, (blk_cell BK366.out 1).trans rfl, (blk_cell BK366.out 2).trans rfl, (blk_cell BK365.out 0).trans rfl, (blk_cell BK365.out 1).trans rfl, (blk_cell BK365.out 2).trans rfl⟩ (fun hHeld => ?_)
        clear hK K
        refine norm_ (a' := ?_) ?_ ?_
        rotate_left
        ·show Act.put _ (some 356) _ = _
         simp only [Act.put, List.setIfInBounds_toArray, List.set_cons_zero, List.set_cons_succ, i64_w, i32_w]
         rfl
        refine one_ (i := 36) (N := some 359) #[true, true, true, true, true, true, true, true, true, true, true, true, true, true, true, true, true, true, true, true, true, true, true, true, true, true, true, true, true, true, true, true, true, true, true, true, true, false, false, false, false, false, false, false, false, false, false, false, false] rfl rfl (one_of HT_.out (by kernel_rfl)) (by decide) (fun K hK => ?_)
        refine goes_ Tryd.func67 (by kernel_rfl) rfl #[.int .i64 a10, .agg #[.int .i64 a11_0, .int .i64 a11_1, .int .i64 a11_2]] (by rfl) rfl rfl (by (try simp only [List.map_toArray, List.map_cons, List.map_nil]); first | done | rfl | (simp only [List.length_drop, List.length_take]; rfl)) ?_
        with_reducible refine (spec_IsClue.calls kj197 a10 a11_0 a11_1 a11_2 t462 _ A310.out).mono ?_
        rintro e w318 ⟨rfl, hb⟩
        refine ⟨_, rfl, ?_⟩
        have n0_ := rB HO434 hb
        have n1_ := rB HO440 hb
        have n2_ := rB HO446 hb
        have n3_ := rB HO452 hb
        have n4_ := bB BK362 hb
        have n5_ := bB BK363 hb
        have n6_ := bB BK364 hb
        have n7_ := bB BK365 hb
        have n8_ := bB BK366 hb
        have n9_ := bB BK436 hb
        have n10_ := bB BK442 hb
        have n11_ := bB BK448 hb
        have n12_ := bB BK454 hb
        have n13_ := hS HB hb
        clear HO434
        clear HO440
        clear HO446
        clear HO452
        clear BK362
        clear BK363
        clear BK364
        clear BK365
        clear BK366
        clear BK436
        clear BK442
        clear BK448
        clear BK454
        clear HB
        have HO434 := n0_
        have HO440 := n1_
        have HO446 := n2_
        have HO452 := n3_
        have BK362 := n4_
        have BK363 := n5_
        have BK364 := n6_
        have BK365 := n7_
        have BK366 := n8_
        have BK436 := n9_
        have BK442 := n10_
        have BK448 := n11_
        have BK454 := n12_
        have HB := n13_
        clear n0_ n1_ n2_ n3_ n4_ n5_ n6_ n7_ n8_ n9_ n10_ n11_ n12_ n13_
        (try clear hb)
        (try clear hb2)
        (try clear hk)
        (try clear hi)
        refine hK.out _ _ ⟨(blk_cell BK436.out 0).trans rfl, (blk_cell BK436.out 1).trans rfl, (blk_cell BK442.out 0).trans rfl, (blk_cell BK442.out 1).trans rfl, (blk_cell BK448.out 0).trans rfl, (blk_cell BK448.out 1).trans rfl, (blk_cell BK454.out 0).trans rfl, (blk_cell BK454.out 1).trans rfl, (blk_cell BK366.out 0).trans rfl, (blk_cell BK366.out 1).trans rfl, (blk_cell BK366.out 2).trans rfl, (blk_cell BK365.out 0).trans rfl, (blk_cell BK365.out 1).trans rfl, (blk_cell BK365.out 2).trans rfl⟩ (fun hHeld => ?_)
        clear hK K
        refine norm_ (a' := ?_) ?_ ?_
        rotate_left
        ·show Act.put _ (some 359) _ = _
         simp only [Act.put, List.setIfInBounds_toArray, List.set_cons_zero, List.set_cons_succ, i64_w, i32_w]
         rfl
        refine pure_ (i := 37) (N := some 360) (v := ?_) (a' := ?_) #[true, true, true, true, true, true, true, true, true, true, true, true, true, true, true, true, true, true, true, true, true, true, true, true, true, true, true, true, true, true, true, true, true, true, true, true, true, true, false, false, false, false, false, false, false, false, false, false, false] rfl rfl (any_of HT_.out (by kernel_rfl)) (fun _ _ _ h => h) (Or.inl ⟨by rfl, ?_⟩) ?_ ?_
        rotate_left
        ·intro w'
         go_simp
         with_reducible rfl
        rotate_left
        ·simp only [Act.put, List.setIfInBounds_toArray, List.set_cons_zero, List.set_cons_succ, i64_w, i32_w]
         rfl
        refine pure_ (i := 38) (N := some 361) (v := ?_) (a' := ?_) #[true, true, true, true, true, true, true, true, true, true, true, true, true, true, true, true, true, true, true, true, true, true, true, true, true, true, true, true, true, true, true, true, true, true, true, true, true, true, true, false, false, false, false, false, false, false, false, false, false] rfl rfl (any_of HT_.out (by kernel_rfl)) (fun _ _ _ h => h) (Or.inl ⟨by rfl, ?_⟩) ?_ ?_
        rotate_left
        ·intro w'
         go_simp
         with_reducible rfl
        rotate_left
        ·simp only [Act.put, List.setIfInBounds_toArray, List.set_cons_zero, List.set_cons_succ, i64_w, i32_w]
         rfl
        refine pure_ (i := 39) (N := some 362) (v := ?_) (a' := ?_) #[true, true, true, true, true, true, true, true, true, true, true, true, true, true, true, true, true, true, true, true, true, true, true, true, true, true, true, true, true, true, true, true, true, true, true, true, true, true, true, true, false, false, false, false, false, false, false, false, false] rfl rfl (any_of HT_.out (by kernel_rfl)) (fun _ _ _ h => h) (Or.inl ⟨by rfl, ?_⟩) ?_ ?_
        rotate_left
        ·intro w'
         go_simp
         with_reducible rfl
        rotate_left
        ·simp only [Act.put, List.setIfInBounds_toArray, List.set_cons_zero, List.set_cons_succ, i64_w, i32_w]
         rfl
        refine pure_ (i := 40) (N := some 363) (v := ?_) (a' := ?_) #[true, true, true, true, true, true, true, true, true, true, true, true, true, true, true, true, true, true, true, true, true, true, true, true, true, true, true, true, true, true, true, true, true, true, true, true, true, true, true, true, true, false, false, false, false, false, false, false, false] rfl rfl (any_of HT_.out (by kernel_rfl)) (fun _ _ _ h => h) (Or.inl ⟨by rfl, ?_⟩) ?_ ?_
        rotate_left
        ·intro w'
         go_simp
         with_reducible rfl
        rotate_left
        ·simp only [Act.put, List.setIfInBounds_toArray, List.set_cons_zero, List.set_cons_succ, i64_w, i32_w]
         rfl
        refine pure_ (i := 41) (N := some 364) (v := ?_) (a' := ?_) #[true, true, true, true, true, true, true, true, true, true, true, true, true, true, true, true, true, true, true, true, true, true, true, true, true, true, true, true, true, true, true, true, true, true, true, true, true, true, true, true, true, true, false, false, false, false, false, false, false] rfl rfl (any_of HT_.out (by kernel_rfl)) (fun _ _ _ h => h) (Or.inl ⟨by rfl, ?_⟩) ?_ ?_
        rotate_left
        ·intro w'
         go_simp
         with_reducible rfl
        rotate_left
        ·simp only [Act.put, List.setIfInBounds_toArray, List.set_cons_zero, List.set_cons_succ, i64_w, i32_w]
         rfl
        refine pure_ (i := 42) (N := some 365) (v := ?_) (a' := ?_) #[true, true, true, true, true, true, true, true, true, true, true, true, true, true, true, true, true, true, true, true, true, true, true, true, true, true, true, true, true, true, true, true, true, true, true, true, true, true, true, true, true, true, true, false, false, false, false, false, false] rfl rfl (any_of HT_.out (by kernel_rfl)) (fun _ _ _ h => h) (Or.inl ⟨by rfl, ?_⟩) ?_ ?_
        rotate_left
        ·intro w'
         go_simp
         with_reducible rfl
        rotate_left
        ·simp only [Act.put, List.setIfInBounds_toArray, List.set_cons_zero, List.set_cons_succ, i64_w, i32_w]
         rfl
        refine pure_ (i := 43) (N := some 366) (v := ?_) (a' := ?_) #[true, true, true, true, true, true, true, true, true, true, true, true, true, true, true, true, true, true, true, true, true, true, true, true, true, true, true, true, true, true, true, true, true, true, true, true, true, true, true, true, true, true, true, true, false, false, false, false, false] rfl rfl (any_of HT_.out (by kernel_rfl)) (fun _ _ _ h => h) (Or.inl ⟨by rfl, ?_⟩) ?_ ?_
        rotate_left
        ·intro w'
         go_simp
         with_reducible rfl
        rotate_left
        ·simp only [Act.put, List.setIfInBounds_toArray, List.set_cons_zero, List.set_cons_succ, i64_w, i32_w]
         rfl
        refine take_ (i := 44) (N := some 367) (v := ?_) (a' := ?_) #[true, true, true, true, true, true, true, true, true, true, true, true, true, true, true, true, true, true, true, true, true, true, true, true, true, true, true, true, true, true, true, true, true, true, true, true, true, true, true, true, true, true, true, true, true, false, false, false, false] rfl rfl (take_ofW HT_.out HW_.out (by kernel_rfl)) (fun _ _ _ h => h) (Or.inl ⟨by rfl, ?_⟩) hHeld ?_ ?_
        rotate_left
        ·rintro w' ⟨s0, s1, s2, s3, s4, s5, s6, s7, s8, s9, s10, s11, s12, s13⟩
         go_simp
         with_reducible rfl
        rotate_left
        ·simp only [Act.put, List.setIfInBounds_toArray, List.set_cons_zero, List.set_cons_succ, i64_w, i32_w]
         rfl
        refine one_ (i := 45) (N := some 368) #[true, true, true, true, true, true, true, true, true, true, true, true, true, true, true, true, true, true, true, true, true, true, true, true, true, true, true, true, true, true, true, true, true, true, true, true, true, true, true, true, true, true, true, true, true, true, false, false, false] rfl rfl (one_of HT_.out (by kernel_rfl)) (by decide) (fun K hK => ?_)
        refine goes_ Tryd.func66 (by kernel_rfl) rfl #[.int .i64 (a9.size : Int), .agg #[.int .i64 a8_0, .int .i64 a8_1, .int .i64 a8_2]] (by rfl) rfl rfl (by (try simp only [List.map_toArray, List.map_cons, List.map_nil]); first | done | rfl | (simp only [List.length_drop, List.length_take]; rfl)) ?_
        with_reducible refine (impl_IsClue.calls kj197 (a9.size : Int) a8_0 a8_1 a8_2 t463 _ A313.out).mono ?_
        rintro e w319 ⟨rfl, hb⟩
        refine ⟨_, rfl, ?_⟩
        have n0_ := rB HO434 hb
        have n1_ := rB HO440 hb
        have n2_ := rB HO446 hb
        have n3_ := rB HO452 hb
        have n4_ := bB BK362 hb
        have n5_ := bB BK363 hb
        have n6_ := bB BK364 hb
        have n7_ := bB BK365 hb
        have n8_ := bB BK366 hb
        have n9_ := bB BK436 hb
        have n10_ := bB BK442 hb
        have n11_ := bB BK448 hb
        have n12_ := bB BK454 hb
        have n13_ := hS HB hb
        clear HO434
        clear HO440
        clear HO446
        clear HO452
        clear BK362
        clear BK363
        clear BK364
        clear BK365
        clear BK366
        clear BK436
        clear BK442
        clear BK448
        clear BK454
        clear HB
        have HO434 := n0_
        have HO440 := n1_
        have HO446 := n2_
        have HO452 := n3_
        have BK362 := n4_
        have BK363 := n5_
        have BK364 := n6_
        have BK365 := n7_
        have BK366 := n8_
        have BK436 := n9_
        have BK442 := n10_
        have BK448 := n11_
        have BK454 := n12_
        have HB := n13_
        clear n0_ n1_ n2_ n3_ n4_ n5_ n6_ n7_ n8_ n9_ n10_ n11_ n12_ n13_
        (try clear hb)
        (try clear hb2)
        (try clear hk)
        (try clear hi)
        refine hK.out _ _ ⟨(blk_cell BK436.out 0).trans rfl, (blk_cell BK436.out 1).trans rfl, (blk_cell BK442.out 0).trans rfl, (blk_cell BK442.out 1).trans rfl, (blk_cell BK448.out 0).trans rfl, (blk_cell BK448.out 1).trans rfl, (blk_cell BK454.out 0).trans rfl, (blk_cell BK454.out 1).trans rfl, (blk_cell BK366.out 0).trans rfl, (blk_cell BK366.out 1).trans rfl, (blk_cell BK366.out 2).trans rfl, (blk_cell BK365.out 0).trans rfl, (blk_cell BK365.out 1).trans rfl, (blk_cell BK365.out 2).trans rfl⟩ (fun hHeld => ?_)
        clear hK K
        refine norm_ (a' := ?_) ?_ ?_
        rotate_left
        ·show Act.put _ (some 368) _ = _
         simp only [Act.put, List.setIfInBounds_toArray, List.set_cons_zero, List.set_cons_succ, i64_w, i32_w]
         rfl
        refine pure_ (i := 46) (N := some 369) (v := ?_) (a' := ?_) #[true, true, true, true, true, true, true, true, true, true, true, true, true, true, true, true, true, true, true, true, true, true, true, true, true, true, true, true, true, true, true, true, true, true, true, true, true, true, true, true, true, true, true, true, true, true, true, false, false] rfl rfl (any_of HT_.out (by kernel_rfl)) (fun _ _ _ h => h) (Or.inl ⟨by rfl, ?_⟩) ?_ ?_
        rotate_left
        ·intro w'
         go_simp
         with_reducible rfl
        rotate_left
        ·simp only [Act.put, List.setIfInBounds_toArray, List.set_cons_zero, List.set_cons_succ, i64_w, i32_w]
         rfl
        refine pure_ (i := 47) (N := some 370) (v := ?_) (a' := ?_) #[true, true, true, true, true, true, true, true, true, true, true, true, true, true, true, true, true, true, true, true, true, true, true, true, true, true, true, true, true, true, true, true, true, true, true, true, true, true, true, true, true, true, true, true, true, true, true, true, false] rfl rfl (any_of HT_.out (by kernel_rfl)) (fun _ _ _ h => h) (Or.inl ⟨by rfl, ?_⟩) ?_ ?_
        rotate_left
        ·intro w'
         go_simp
         with_reducible rfl
        rotate_left
        ·simp only [Act.put, List.setIfInBounds_toArray, List.set_cons_zero, List.set_cons_succ, i64_w, i32_w]
         rfl
        refine pure_ (i := 48) (N := some 371) (v := ?_) (a' := ?_) #[true, true, true, true, true, true, true, true, true, true, true, true, true, true, true, true, true, true, true, true, true, true, true, true, true, true, true, true, true, true, true, true, true, true, true, true, true, true, true, true, true, true, true, true, true, true, true, true, true] rfl rfl (any_of HT_.out (by kernel_rfl)) (fun _ _ _ h => h) (Or.inl ⟨by rfl, ?_⟩) ?_ ?_
        rotate_left
        ·intro w'
         go_simp
         with_reducible rfl
        rotate_left
        ·simp only [Act.put, List.setIfInBounds_toArray, List.set_cons_zero, List.set_cons_succ, i64_w, i32_w]
         rfl
        refine done_ (done_of HT_.out (by kernel_rfl)) ?_
        try go_wp2
        go_meet
        case rel => exact ⟨_, (!t463), rF, H', ⟨by have := HJ12.out; have := HJ23.out; have := HJ64.out; have := HJ129.out; have := HJ197.out; first | omega | exact Nat.le_refl _⟩, ⟨rU (Kd.R_mono HO434.out (fun _ hk => ⟨hk.1.2, hk.1.1.1.1.1.2⟩))⟩, ⟨rU (Kd.R_mono HO446.out (fun _ hk => ⟨hk.1.1.1.1.1.2, hk.1.1.1.2⟩))⟩, ⟨bU BK362.out⟩, ⟨bU BK363.out⟩, ⟨bU BK364.out⟩, ⟨bU BK436.out⟩, ⟨bU BK448.out⟩, hV HB⟩
       have H' := aM H
       clear H
       try go_wp2
       have n0_ := aM (Kd.R_drew HO434.out)
       have n1_ := aM (Kd.R_drew HO440.out)
       have n2_ := aM (Kd.R_drew HO446.out)
       have n3_ := aM (Kd.R_drew HO452.out)
       have n4_ := aM (blk_drew BK362.out)
       have n5_ := aM (blk_drew BK363.out)
       have n6_ := aM (blk_drew BK364.out)
       have n7_ := aM (blk_drew BK365.out)
       have n8_ := aM (blk_drew BK366.out)
       have n9_ := aM (blk_drew BK436.out)
       have n10_ := aM (blk_drew BK442.out)
       have n11_ := aM (blk_drew BK448.out)
       have n12_ := aM (blk_drew BK454.out)
       have n13_ := aM (below_drew1 HB.out)
       clear HO434
       clear HO440
       clear HO446
       clear HO452
       clear BK362
       clear BK363
       clear BK364
       clear BK365
       clear BK366
       clear BK436
       clear BK442
       clear BK448
       clear BK454
       clear HB
       have HO434 := n0_
       have HO440 := n1_
       have HO446 := n2_
       have HO452 := n3_
       have BK362 := n4_
       have BK363 := n5_
       have BK364 := n6_
       have BK365 := n7_
       have BK366 := n8_
       have BK436 := n9_
       have BK442 := n10_
       have BK448 := n11_
       have BK454 := n12_
       have HB := n13_
       clear n0_ n1_ n2_ n3_ n4_ n5_ n6_ n7_ n8_ n9_ n10_ n11_ n12_ n13_
       refine start_ (n := 49) (S := fun w' => w'.cell? ⟨gb436, 0, none⟩ = some (.int .i64 t431) ∧ w'.cell? ⟨gb436, 1, none⟩ = some (.slice Ao256 t432.length co256) ∧ w'.cell? ⟨gb442, 0, none⟩ = some (.int .i64 t437) ∧ w'.cell? ⟨gb442, 1, none⟩ = some (.slice Ao268 t438.length co268) ∧ w'.cell? ⟨gb448, 0, none⟩ = some (.int .i64 t443) ∧ w'.cell? ⟨gb448, 1, none⟩ = some (.slice Ao282 t444.length co282) ∧ w'.cell? ⟨gb454, 0, none⟩ = some (.int .i64 t449) ∧ w'.cell? ⟨gb454, 1, none⟩ = some (.slice Ao295 t450.length co295) ∧ w'.cell? ⟨gb366, 0, none⟩ = some (.int .i64 a11_0) ∧ w'.cell? ⟨gb366, 1, none⟩ = some (.int .i64 a11_1) ∧ w'.cell? ⟨gb366, 2, none⟩ = some (.int .i64 a11_2)) (ds := []) #[false, false, false, false, false, false, false, false, false, false, false, false, false, false, false, false, false, false, false, false, false, false, false, false, false, false, false, false, false, false, false, false, false, false, false, false, false, false, false, false, false, false, false, false, false, false, false, false, false] (by kernel_rfl) rfl rfl ⟨(blk_cell BK436.out 0).trans rfl, (blk_cell BK436.out 1).trans rfl, (blk_cell BK442.out 0).trans rfl, (blk_cell BK442.out 1).trans rfl, (blk_cell BK448.out 0).trans rfl, (blk_cell BK448.out 1).trans rfl, (blk_cell BK454.out 0).trans rfl, (blk_cell BK454.out 1).trans rfl, (blk_cell BK366.out 0).trans rfl, (blk_cell BK366.out 1).trans rfl, (blk_cell BK366.out 2).trans rfl⟩ (fun hHeld => ?_); refine with_tabW laws_FnStatesHiddenOfAll.tab42 laws_FnStatesHiddenOfAll.bits42 (fun HT_ HW_ => ?_)
       generalize w300.drew = w320 at HO434 HO440 HO446 HO452 BK362 BK363 BK364 BK365 BK366 BK436 BK442 BK448 BK454 HB hHeld ⊢
       refine pure_ (i := 0) (N := some 323) (v := ?_) (a' := ?_) #[true, false, false, false, false, false, false, false, false, false, false, false, false, false, false, false, false, false, false, false, false, false, false, false, false, false, false, false, false, false, false, false, false, false, false, false, false, false, false, false, false, false, false, false, false, false, false, false, false] rfl rfl (any_of HT_.out (by kernel_rfl)) (fun _ _ _ h => h) (Or.inl ⟨by rfl, ?_⟩) ?_ ?_
       rotate_left
       ·intro w'
        go_simp
        with_reducible rfl
       rotate_left
       ·simp only [Act.put, List.setIfInBounds_toArray, List.set_cons_zero, List.set_cons_succ, i64_w, i32_w]
        rfl
       refine pure_ (i := 1) (N := some 324) (v := ?_) (a' := ?_) #[true, true, false, false, false, false, false, false, false, false, false, false, false, false, false, false, false, false, false, false, false, false, false, false, false, false, false, false, false, false, false, false, false, false, false, false, false, false, false, false, false, false, false, false, false, false, false, false, false] rfl rfl (any_of HT_.out (by kernel_rfl)) (fun _ _ _ h => h) (Or.inl ⟨by rfl, ?_⟩) ?_ ?_
       rotate_left
       ·intro w'
        go_simp
        with_reducible rfl
       rotate_left
       ·simp only [Act.put, List.setIfInBounds_toArray, List.set_cons_zero, List.set_cons_succ, i64_w, i32_w]
        rfl
       refine pure_ (i := 2) (N := some 325) (v := ?_) (a' := ?_) #[true, true, true, false, false, false, false, false, false, false, false, false, false, false, false, false, false, false, false, false, false, false, false, false, false, false, false, false, false, false, false, false, false, false, false, false, false, false, false, false, false, false, false, false, false, false, false, false, false] rfl rfl (any_of HT_.out (by kernel_rfl)) (fun _ _ _ h => h) (Or.inl ⟨by rfl, ?_⟩) ?_ ?_
       rotate_left
       ·intro w'
        go_simp
        with_reducible rfl
       rotate_left
       ·simp only [Act.put, List.setIfInBounds_toArray, List.set_cons_zero, List.set_cons_succ, i64_w, i32_w]
        rfl
       refine pure_ (i := 3) (N := some 326) (v := ?_) (a' := ?_) #[true, true, true, true, false, false, false, false, false, false, false, false, false, false, false, false, false, false, false, false, false, false, false, false, false, false, false, false, false, false, false, false, false, false, false, false, false, false, false, false, false, false, false, false, false, false, false, false, false] rfl rfl (any_of HT_.out (by kernel_rfl)) (fun _ _ _ h => h) (Or.inl ⟨by rfl, ?_⟩) ?_ ?_
       rotate_left
       ·intro w'
        go_simp
        with_reducible rfl
       rotate_left
       ·simp only [Act.put, List.setIfInBounds_toArray, List.set_cons_zero, List.set_cons_succ, i64_w, i32_w]
        rfl
       refine take_ (i := 4) (N := some 327) (v := ?_) (a' := ?_) #[true, true, true, true, true, false, false, false, false, false, false, false, false, false, false, false, false, false, false, false, false, false, false, false, false, false, false, false, false, false, false, false, false, false, false, false, false, false, false, false, false, false, false, false, false, false, false, false, false] rfl rfl (take_ofW HT_.out HW_.out (by kernel_rfl)) (fun _ _ _ h => h) (Or.inl ⟨by rfl, ?_⟩) hHeld ?_ ?_
       rotate_left
       ·rintro w' ⟨s0, s1, s2, s3, s4, s5, s6, s7, s8, s9, s10⟩
        go_simp
        with_reducible rfl
       rotate_left
       ·simp only [Act.put, List.setIfInBounds_toArray, List.set_cons_zero, List.set_cons_succ, i64_w, i32_w]
        rfl
       refine take_ (i := 5) (N := some 328) (v := ?_) (a' := ?_) #[true, true, true, true, true, true, false, false, false, false, false, false, false, false, false, false, false, false, false, false, false, false, false, false, false, false, false, false, false, false, false, false, false, false, false, false, false, false, false, false, false, false, false, false, false, false, false, false, false] rfl rfl (take_ofW HT_.out HW_.out (by kernel_rfl)) (fun _ _ _ h => h) (Or.inl ⟨by rfl, ?_⟩) hHeld ?_ ?_
       rotate_left
       ·rintro w' ⟨s0, s1, s2, s3, s4, s5, s6, s7, s8, s9, s10⟩
        go_simp
        with_reducible rfl
       rotate_left
       ·simp only [Act.put, List.setIfInBounds_toArray, List.set_cons_zero, List.set_cons_succ, i64_w, i32_w]
        rfl
       refine one_ (i := 6) (N := some 329) #[true, true, true, true, true, true, true, false, false, false, false, false, false, false, false, false, false, false, false, false, false, false, false, false, false, false, false, false, false, false, false, false, false, false, false, false, false, false, false, false, false, false, false, false, false, false, false, false, false] rfl rfl (one_of HT_.out (by kernel_rfl)) (by decide) (fun K hK => ?_)
       refine goes_ Tryd.func50 (by kernel_rfl) rfl #[.agg #[.int .i64 t431, .slice Ao256 t432.length co256], .agg #[.int .i64 t437, .slice Ao268 t438.length co268]] (by rfl) rfl rfl (by (try simp only [List.map_toArray, List.map_cons, List.map_nil]); first | done | rfl | (simp only [List.length_drop, List.length_take]; rfl)) ?_
       with_reducible refine (laws_xPuzzle.calls kj197 t431 _ _ t432 t437 _ _ t438 true _ ?side1 ?side2 ?side3 ?side4 A302.out).mono ?_
       (case side1 => exact cU (Kd.R_reads' HO434.out).2.2)
       (case side2 => exact (Kd.R_reads' HO434.out).2.1)
       (case side3 => exact cU (Kd.R_reads' HO440.out).2.2)
       (case side4 => exact (Kd.R_reads' HO440.out).2.1)
       rintro e w321 ⟨rfl, hb⟩
       refine ⟨_, rfl, ?_⟩
       have n0_ := rB HO434 hb
       have n1_ := rB HO440 hb
       have n2_ := rB HO446 hb
       have n3_ := rB HO452 hb
       have n4_ := bB BK362 hb
       have n5_ := bB BK363 hb
       have n6_ := bB BK364 hb
       have n7_ := bB BK365 hb
       have n8_ := bB BK366 hb
       have n9_ := bB BK436 hb
       have n10_ := bB BK442 hb
       have n11_ := bB BK448 hb
       have n12_ := bB BK454 hb
       have n13_ := hS HB hb
       clear HO434
       clear HO440
       clear HO446
       clear HO452
       clear BK362
       clear BK363
       clear BK364
       clear BK365
       clear BK366
       clear BK436
       clear BK442
       clear BK448
       clear BK454
       clear HB
       have HO434 := n0_
       have HO440 := n1_
       have HO446 := n2_
       have HO452 := n3_
       have BK362 := n4_
       have BK363 := n5_
       have BK364 := n6_
       have BK365 := n7_
       have BK366 := n8_
       have BK436 := n9_
       have BK442 := n10_
       have BK448 := n11_
       have BK454 := n12_
       have HB := n13_
       clear n0_ n1_ n2_ n3_ n4_ n5_ n6_ n7_ n8_ n9_ n10_ n11_ n12_ n13_
       (try clear hb)
       (try clear hb2)
       (try clear hk)
       (try clear hi)
       refine hK.out _ _ ⟨(blk_cell BK436.out 0).trans rfl, (blk_cell BK436.out 1).trans rfl, (blk_cell BK442.out 0).trans rfl, (blk_cell BK442.out 1).trans rfl, (blk_cell BK448.out 0).trans rfl, (blk_cell BK448.out 1).trans rfl, (blk_cell BK454.out 0).trans rfl, (blk_cell BK454.out 1).trans rfl, (blk_cell BK366.out 0).trans rfl, (blk_cell BK366.out 1).trans rfl, (blk_cell BK366.out 2).trans rfl⟩ (fun hHeld => ?_)
       clear hK K
       refine norm_ (a' := ?_) ?_ ?_
       rotate_left
       ·show Act.put _ (some 329) _ = _
        simp only [Act.put, List.setIfInBounds_toArray, List.set_cons_zero, List.set_cons_succ, i64_w, i32_w]
        rfl
       refine pure_ (i := 7) (N := some 330) (v := ?_) (a' := ?_) #[true, true, true, true, true, true, true, true, false, false, false, false, false, false, false, false, false, false, false, false, false, false, false, false, false, false, false, false, false, false, false, false, false, false, false, false, false, false, false, false, false, false, false, false, false, false, false, false, false] rfl rfl (any_of HT_.out (by kernel_rfl)) (fun _ _ _ h => h) (Or.inl ⟨by rfl, ?_⟩) ?_ ?_
       rotate_left
       ·intro w'
        go_simp
        with_reducible rfl
       rotate_left
       ·simp only [Act.put, List.setIfInBounds_toArray, List.set_cons_zero, List.set_cons_succ, i64_w, i32_w]
        rfl
       refine pure_ (i := 8) (N := some 331) (v := ?_) (a' := ?_) #[true, true, true, true, true, true, true, true, true, false, false, false, false, false, false, false, false, false, false, false, false, false, false, false, false, false, false, false, false, false, false, false, false, false, false, false, false, false, false, false, false, false, false, false, false, false, false, false, false] rfl rfl (any_of HT_.out (by kernel_rfl)) (fun _ _ _ h => h) (Or.inl ⟨by rfl, ?_⟩) ?_ ?_
       rotate_left
       ·intro w'
        go_simp
        with_reducible rfl
       rotate_left
       ·simp only [Act.put, List.setIfInBounds_toArray, List.set_cons_zero, List.set_cons_succ, i64_w, i32_w]
        rfl
       refine pure_ (i := 9) (N := some 332) (v := ?_) (a' := ?_) #[true, true, true, true, true, true, true, true, true, true, false, false, false, false, false, false, false, false, false, false, false, false, false, false, false, false, false, false, false, false, false, false, false, false, false, false, false, false, false, false, false, false, false, false, false, false, false, false, false] rfl rfl (any_of HT_.out (by kernel_rfl)) (fun _ _ _ h => h) (Or.inl ⟨by rfl, ?_⟩) ?_ ?_
       rotate_left
       ·intro w'
        go_simp
        with_reducible rfl
       rotate_left
       ·simp only [Act.put, List.setIfInBounds_toArray, List.set_cons_zero, List.set_cons_succ, i64_w, i32_w]
        rfl
       refine pure_ (i := 10) (N := some 333) (v := ?_) (a' := ?_) #[true, true, true, true, true, true, true, true, true, true, true, false, false, false, false, false, false, false, false, false, false, false, false, false, false, false, false, false, false, false, false, false, false, false, false, false, false, false, false, false, false, false, false, false, false, false, false, false, false] rfl rfl (any_of HT_.out (by kernel_rfl)) (fun _ _ _ h => h) (Or.inl ⟨by rfl, ?_⟩) ?_ ?_
       rotate_left
       ·intro w'
        go_simp
        with_reducible rfl
       rotate_left
       ·simp only [Act.put, List.setIfInBounds_toArray, List.set_cons_zero, List.set_cons_succ, i64_w, i32_w]
        rfl
       refine pure_ (i := 11) (N := some 334) (v := ?_) (a' := ?_) #[true, true, true, true, true, true, true, true, true, true, true, true, false, false, false, false, false, false, false, false, false, false, false, false, false, false, false, false, false, false, false, false, false, false, false, false, false, false, false, false, false, false, false, false, false, false, false, false, false] rfl rfl (any_of HT_.out (by kernel_rfl)) (fun _ _ _ h => h) (Or.inl ⟨by rfl, ?_⟩) ?_ ?_
       rotate_left
       ·intro w'
        go_simp
        with_reducible rfl
       rotate_left
       ·simp only [Act.put, List.setIfInBounds_toArray, List.set_cons_zero, List.set_cons_succ, i64_w, i32_w]
        rfl
       refine pure_ (i := 12) (N := some 335) (v := ?_) (a' := ?_) #[true, true, true, true, true, true, true, true, true, true, true, true, true, false, false, false, false, false, false, false, false, false, false, false, false, false, false, false, false, false, false, false, false, false, false, false, false, false, false, false, false, false, false, false, false, false, false, false, false] rfl rfl (any_of HT_.out (by kernel_rfl)) (fun _ _ _ h => h) (Or.inl ⟨by rfl, ?_⟩) ?_ ?_
       rotate_left
       ·intro w'
        go_simp
        with_reducible rfl
       rotate_left
       ·simp only [Act.put, List.setIfInBounds_toArray, List.set_cons_zero, List.set_cons_succ, i64_w, i32_w]
        rfl
       refine pure_ (i := 13) (N := some 336) (v := ?_) (a' := ?_) #[true, true, true, true, true, true, true, true, true, true, true, true, true, true, false, false, false, false, false, false, false, false, false, false, false, false, false, false, false, false, false, false, false, false, false, false, false, false, false, false, false, false, false, false, false, false, false, false, false] rfl rfl (any_of HT_.out (by kernel_rfl)) (fun _ _ _ h => h) (Or.inl ⟨by rfl, ?_⟩) ?_ ?_
       rotate_left
       ·intro w'
        go_simp
        with_reducible rfl
       rotate_left
       ·simp only [Act.put, List.setIfInBounds_toArray, List.set_cons_zero, List.set_cons_succ, i64_w, i32_w]
        rfl
       refine pure_ (i := 14) (N := some 337) (v := ?_) (a' := ?_) #[true, true, true, true, true, true, true, true, true, true, true, true, true, true, true, false, false, false, false, false, false, false, false, false, false, false, false, false, false, false, false, false, false, false, false, false, false, false, false, false, false, false, false, false, false, false, false, false, false] rfl rfl (any_of HT_.out (by kernel_rfl)) (fun _ _ _ h => h) (Or.inl ⟨by rfl, ?_⟩) ?_ ?_
       rotate_left
       ·intro w'
        go_simp
        with_reducible rfl
       rotate_left
       ·simp only [Act.put, List.setIfInBounds_toArray, List.set_cons_zero, List.set_cons_succ, i64_w, i32_w]
        rfl
       refine take_ (i := 15) (N := some 338) (v := ?_) (a' := ?_) #[true, true, true, true, true, true, true, true, true, true, true, true, true, true, true, true, false, false, false, false, false, false, false, false, false, false, false, false, false, false, false, false, false, false, false, false, false, false, false, false, false, false, false, false, false, false, false, false, false] rfl rfl (take_ofW HT_.out HW_.out (by kernel_rfl)) (fun _ _ _ h => h) (Or.inl ⟨by rfl, ?_⟩) hHeld ?_ ?_
       rotate_left
       ·rintro w' ⟨s0, s1, s2, s3, s4, s5, s6, s7, s8, s9, s10⟩
        go_simp
        with_reducible rfl
       rotate_left
       ·simp only [Act.put, List.setIfInBounds_toArray, List.set_cons_zero, List.set_cons_succ, i64_w, i32_w]
        rfl
       refine take_ (i := 16) (N := some 339) (v := ?_) (a' := ?_) #[true, true, true, true, true, true, true, true, true, true, true, true, true, true, true, true, true, false, false, false, false, false, false, false, false, false, false, false, false, false, false, false, false, false, false, false, false, false, false, false, false, false, false, false, false, false, false, false, false] rfl rfl (take_ofW HT_.out HW_.out (by kernel_rfl)) (fun _ _ _ h => h) (Or.inl ⟨by rfl, ?_⟩) hHeld ?_ ?_
       rotate_left
       ·rintro w' ⟨s0, s1, s2, s3, s4, s5, s6, s7, s8, s9, s10⟩
        go_simp
        with_reducible rfl
       rotate_left
       ·simp only [Act.put, List.setIfInBounds_toArray, List.set_cons_zero, List.set_cons_succ, i64_w, i32_w]
        rfl
       refine one_ (i := 17) (N := some 340) #[true, true, true, true, true, true, true, true, true, true, true, true, true, true, true, true, true, true, false, false, false, false, false, false, false, false, false, false, false, false, false, false, false, false, false, false, false, false, false, false, false, false, false, false, false, false, false, false, false] rfl rfl (one_of HT_.out (by kernel_rfl)) (by decide) (fun K hK => ?_)
       refine goes_ Tryd.func50 (by kernel_rfl) rfl #[.agg #[.int .i64 t443, .slice Ao282 t444.length co282], .agg #[.int .i64 t449, .slice Ao295 t450.length co295]] (by rfl) rfl rfl (by (try simp only [List.map_toArray, List.map_cons, List.map_nil]); first | done | rfl | (simp only [List.length_drop, List.length_take]; rfl)) ?_
       with_reducible refine (laws_xPuzzle.calls kj197 t443 _ _ t444 t449 _ _ t450 true _ ?side1 ?side2 ?side3 ?side4 A305.out).mono ?_
       (case side1 => exact cU (Kd.R_reads' HO446.out).2.2)
       (case side2 => exact (Kd.R_reads' HO446.out).2.1)
       (case side3 => exact cU (Kd.R_reads' HO452.out).2.2)
       (case side4 => exact (Kd.R_reads' HO452.out).2.1)
       rintro e w322 ⟨rfl, hb⟩
       refine ⟨_, rfl, ?_⟩
       have n0_ := rB HO434 hb
       have n1_ := rB HO440 hb
       have n2_ := rB HO446 hb
       have n3_ := rB HO452 hb
       have n4_ := bB BK362 hb
       have n5_ := bB BK363 hb
       have n6_ := bB BK364 hb
       have n7_ := bB BK365 hb
       have n8_ := bB BK366 hb
       have n9_ := bB BK436 hb
       have n10_ := bB BK442 hb
       have n11_ := bB BK448 hb
       have n12_ := bB BK454 hb
       have n13_ := hS HB hb
       clear HO434
       clear HO440
       clear HO446
       clear HO452
       clear BK362
       clear BK363
       clear BK364
       clear BK365
       clear BK366
       clear BK436
       clear BK442
       clear BK448
       clear BK454
       clear HB
       have HO434 := n0_
       have HO440 := n1_
       have HO446 := n2_
       have HO452 := n3_
       have BK362 := n4_
       have BK363 := n5_
       have BK364 := n6_
       have BK365 := n7_
       have BK366 := n8_
       have BK436 := n9_
       have BK442 := n10_
       have BK448 := n11_
       have BK454 := n12_
       have HB := n13_
       clear n0_ n1_ n2_ n3_ n4_ n5_ n6_ n7_ n8_ n9_ n10_ n11_ n12_ n13_
       (try clear hb)
       (try clear hb2)
       (try clear hk)
       (try clear hi)
       refine hK.out _ _ ⟨(blk_cell BK436.out 0).trans rfl, (blk_cell BK436.out 1).trans rfl, (blk_cell BK442.out 0).trans rfl, (blk_cell BK442.out 1).trans rfl, (blk_cell BK448.out 0).trans rfl, (blk_cell BK448.out 1).trans rfl, (blk_cell BK454.out 0).trans rfl, (blk_cell BK454.out 1).trans rfl, (blk_cell BK366.out 0).trans rfl, (blk_cell BK366.out 1).trans rfl, (blk_cell BK366.out 2).trans rfl⟩ (fun hHeld => ?_)
       clear hK K
       refine norm_ (a' := ?_) ?_ ?_
       rotate_left
       ·show Act.put _ (some 340) _ = _
        simp only [Act.put, List.setIfInBounds_toArray, List.set_cons_zero, List.set_cons_succ, i64_w, i32_w]
        rfl
       refine pure_ (i := 18) (N := some 341) (v := ?_) (a' := ?_) #[true, true, true, true, true, true, true, true, true, true, true, true, true, true, true, true, true, true, true, false, false, false, false, false, false, false, false, false, false, false, false, false, false, false, false, false, false, false, false, false, false, false, false, false, false, false, false, false, false] rfl rfl (any_of HT_.out (by kernel_rfl)) (fun _ _ _ h => h) (Or.inl ⟨by rfl, ?_⟩) ?_ ?_
       rotate_left
       ·intro w'
        go_simp
        with_reducible rfl
       rotate_left
       ·simp only [Act.put, List.setIfInBounds_toArray, List.set_cons_zero, List.set_cons_succ, i64_w, i32_w]
        rfl
       refine pure_ (i := 19) (N := some 342) (v := ?_) (a' := ?_) #[true, true, true, true, true, true, true, true, true, true, true, true, true, true, true, true, true, true, true, true, false, false, false, false, false, false, false, false, false, false, false, false, false, false, false, false, false, false, false, false, false, false, false, false, false, false, false, false, false] rfl rfl (any_of HT_.out (by kernel_rfl)) (fun _ _ _ h => h) (Or.inl ⟨by rfl, ?_⟩) ?_ ?_
       rotate_left
       ·intro w'
        go_simp
        with_reducible rfl
       rotate_left
       ·simp only [Act.put, List.setIfInBounds_toArray, List.set_cons_zero, List.set_cons_succ, i64_w, i32_w]
        rfl
       refine pure_ (i := 20) (N := some 343) (v := ?_) (a' := ?_) #[true, true, true, true, true, true, true, true, true, true, true, true, true, true, true, true, true, true, true, true, true, false, false, false, false, false, false, false, false, false, false, false, false, false, false, false, false, false, false, false, false, false, false, false, false, false, false, false, false] rfl rfl (any_of HT_.out (by kernel_rfl)) (fun _ _ _ h => h) (Or.inl ⟨by rfl, ?_⟩) ?_ ?_
       rotate_left
       ·intro w'
        go_simp
        with_reducible rfl
       rotate_left
       ·simp only [Act.put, List.setIfInBounds_toArray, List.set_cons_zero, List.set_cons_succ, i64_w, i32_w]
        rfl
       refine pure_ (i := 21) (N := some 344) (v := ?_) (a' := ?_) #[true, true, true, true, true, true, true, true, true, true, true, true, true, true, true, true, true, true, true, true, true, true, false, false, false, false, false, false, false, false, false, false, false, false, false, false, false, false, false, false, false, false, false, false, false, false, false, false, false] rfl rfl (any_of HT_.out (by kernel_rfl)) (fun _ _ _ h => h) (Or.inl ⟨by rfl, ?_⟩) ?_ ?_
       rotate_left
       ·intro w'
        go_simp
        with_reducible rfl
       rotate_left
       ·simp only [Act.put, List.setIfInBounds_toArray, List.set_cons_zero, List.set_cons_succ, i64_w, i32_w]
        rfl
       refine pure_ (i := 22) (N := some 345) (v := ?_) (a' := ?_) #[true, true, true, true, true, true, true, true, true, true, true, true, true, true, true, true, true, true, true, true, true, true, true, false, false, false, false, false, false, false, false, false, false, false, false, false, false, false, false, false, false, false, false, false, false, false, false, false, false] rfl rfl (any_of HT_.out (by kernel_rfl)) (fun _ _ _ h => h) (Or.inl ⟨by rfl, ?_⟩) ?_ ?_
       rotate_left
       ·intro w'
        go_simp
        with_reducible rfl
       rotate_left
       ·simp only [Act.put, List.setIfInBounds_toArray, List.set_cons_zero, List.set_cons_succ, i64_w, i32_w]
        rfl
       refine pure_ (i := 23) (N := some 346) (v := ?_) (a' := ?_) #[true, true, true, true, true, true, true, true, true, true, true, true, true, true, true, true, true, true, true, true, true, true, true, true, false, false, false, false, false, false, false, false, false, false, false, false, false, false, false, false, false, false, false, false, false, false, false, false, false] rfl rfl (any_of HT_.out (by kernel_rfl)) (fun _ _ _ h => h) (Or.inl ⟨by rfl, ?_⟩) ?_ ?_
       rotate_left
       ·intro w'
        go_simp
        with_reducible rfl
       rotate_left
       ·simp only [Act.put, List.setIfInBounds_toArray, List.set_cons_zero, List.set_cons_succ, i64_w, i32_w]
        rfl
       refine pure_ (i := 24) (N := some 347) (v := ?_) (a' := ?_) #[true, true, true, true, true, true, true, true, true, true, true, true, true, true, true, true, true, true, true, true, true, true, true, true, true, false, false, false, false, false, false, false, false, false, false, false, false, false, false, false, false, false, false, false, false, false, false, false, false] rfl rfl (any_of HT_.out (by kernel_rfl)) (fun _ _ _ h => h) (Or.inl ⟨by rfl, ?_⟩) ?_ ?_
       rotate_left
       ·intro w'
        go_simp
        with_reducible rfl
       rotate_left
       ·simp only [Act.put, List.setIfInBounds_toArray, List.set_cons_zero, List.set_cons_succ, i64_w, i32_w]
        rfl
       refine pure_ (i := 25) (N := some 348) (v := ?_) (a' := ?_) #[true, true, true, true, true, true, true, true, true, true, true, true, true, true, true, true, true, true, true, true, true, true, true, true, true, true, false, false, false, false, false, false, false, false, false, false, false, false, false, false, false, false, false, false, false, false, false, false, false] rfl rfl (any_of HT_.out (by kernel_rfl)) (fun _ _ _ h => h) (Or.inl ⟨by rfl, ?_⟩) ?_ ?_
       rotate_left
       ·intro w'
        go_simp
        with_reducible rfl
       rotate_left
       ·simp only [Act.put, List.setIfInBounds_toArray, List.set_cons_zero, List.set_cons_succ, i64_w, i32_w]
        rfl
       refine pure_ (i := 26) (N := some 349) (v := ?_) (a' := ?_) #[true, true, true, true, true, true, true, true, true, true, true, true, true, true, true, true, true, true, true, true, true, true, true, true, true, true, true, false, false, false, false, false, false, false, false, false, false, false, false, false, false, false, false, false, false, false, false, false, false] rfl rfl (any_of HT_.out (by kernel_rfl)) (fun _ _ _ h => h) (Or.inl ⟨by rfl, ?_⟩) ?_ ?_
       rotate_left
       ·intro w'
        go_simp
        with_reducible rfl
       rotate_left
       ·simp only [Act.put, List.setIfInBounds_toArray, List.set_cons_zero, List.set_cons_succ, i64_w, i32_w]
        rfl
       refine pure_ (i := 27) (N := some 350) (v := ?_) (a' := ?_) #[true, true, true, true, true, true, true, true, true, true, true, true, true, true, true, true, true, true, true, true, true, true, true, true, true, true, true, true, false, false, false, false, false, false, false, false, false, false, false, false, false, false, false, false, false, false, false, false, false] rfl rfl (any_of HT_.out (by kernel_rfl)) (fun _ _ _ h => h) (Or.inl ⟨by rfl, ?_⟩) ?_ ?_
       rotate_left
       ·intro w'
        go_simp
        with_reducible rfl
       rotate_left
       ·simp only [Act.put, List.setIfInBounds_toArray, List.set_cons_zero, List.set_cons_succ, i64_w, i32_w]
        rfl
       refine pure_ (i := 28) (N := some 351) (v := ?_) (a' := ?_) #[true, true, true, true, true, true, true, true, true, true, true, true, true, true, true, true, true, true, true, true, true, true, true, true, true, true, true, true, true, false, false, false, false, false, false, false, false, false, false, false, false, false, false, false, false, false, false, false, false] rfl rfl (any_of HT_.out (by kernel_rfl)) (fun _ _ _ h => h) (Or.inl ⟨by rfl, ?_⟩) ?_ ?_
       rotate_left
       ·intro w'
        go_simp
        with_reducible rfl
       rotate_left
       ·simp only [Act.put, List.setIfInBounds_toArray, List.set_cons_zero, List.set_cons_succ, i64_w, i32_w]
        rfl
       refine pure_ (i := 29) (N := some 352) (v := ?_) (a' := ?_) #[true, true, true, true, true, true, true, true, true, true, true, true, true, true, true, true, true, true, true, true, true, true, true, true, true, true, true, true, true, true, false, false, false, false, false, false, false, false, false, false, false, false, false, false, false, false, false, false, false] rfl rfl (any_of HT_.out (by kernel_rfl)) (fun _ _ _ h => h) (Or.inl ⟨by rfl, ?_⟩) ?_ ?_
       rotate_left
       ·intro w'
        go_simp
        with_reducible rfl
       rotate_left
       ·simp only [Act.put, List.setIfInBounds_toArray, List.set_cons_zero, List.set_cons_succ, i64_w, i32_w]
        rfl
       refine pure_ (i := 30) (N := some 353) (v := ?_) (a' := ?_) #[true, true, true, true, true, true, true, true, true, true, true, true, true, true, true, true, true, true, true, true, true, true, true, true, true, true, true, true, true, true, true, false, false, false, false, false, false, false, false, false, false, false, false, false, false, false, false, false, false] rfl rfl (any_of HT_.out (by kernel_rfl)) (fun _ _ _ h => h) (Or.inl ⟨by rfl, ?_⟩) ?_ ?_
       rotate_left
       ·intro w'
        go_simp
        with_reducible rfl
       rotate_left
       ·simp only [Act.put, List.setIfInBounds_toArray, List.set_cons_zero, List.set_cons_succ, i64_w, i32_w]
        rfl
       refine pure_ (i := 31) (N := some 354) (v := ?_) (a' := ?_) #[true, true, true, true, true, true, true, true, true, true, true, true, true, true, true, true, true, true, true, true, true, true, true, true, true, true, true, true, true, true, true, true, false, false, false, false, false, false, false, false, false, false, false, false, false, false, false, false, false] rfl rfl (any_of HT_.out (by kernel_rfl)) (fun _ _ _ h => h) (Or.inl ⟨by rfl, ?_⟩) ?_ ?_
       rotate_left
       ·intro w'
        go_simp
        with_reducible rfl
       rotate_left
       ·simp only [Act.put, List.setIfInBounds_toArray, List.set_cons_zero, List.set_cons_succ, i64_w, i32_w]
        rfl
       refine pure_ (i := 34) (N := some 357) (v := ?_) (a' := ?_) #[true, true, true, true, true, true, true, true, true, true, true, true, true, true, true, true, true, true, true, true, true, true, true, true, true, true, true, true, true, true, true, true, false, false, true, false, false, false, false, false, false, false, false, false, false, false, false, false, false] rfl rfl (any_of HT_.out (by kernel_rfl)) (fun _ _ _ h => h) (Or.inl ⟨by rfl, ?_⟩) ?_ ?_
       rotate_left
       ·intro w'
        go_simp
        with_reducible rfl
       rotate_left
       ·simp only [Act.put, List.setIfInBounds_toArray, List.set_cons_zero, List.set_cons_succ, i64_w, i32_w]
        rfl
       refine take_ (i := 32) (N := some 355) (v := ?_) (a' := ?_) #[true, true, true, true, true, true, true, true, true, true, true, true, true, true, true, true, true, true, true, true, true, true, true, true, true, true, true, true, true, true, true, true, true, false, true, false, false, false, false, false, false, false, false, false, false, false, false, false, false] rfl rfl (take_ofW HT_.out HW_.out (by kernel_rfl)) (fun _ _ _ h => h) (Or.inl ⟨by rfl, ?_⟩) hHeld ?_ ?_
       rotate_left
       ·rintro w' ⟨s0, s1, s2, s3, s4, s5, s6, s7, s8, s9, s10⟩
        go_simp
        with_reducible rfl
       rotate_left
       ·simp only [Act.put, List.setIfInBounds_toArray, List.set_cons_zero, List.set_cons_succ, i64_w, i32_w]
        rfl
       refine take_ (i := 35) (N := some 358) (v := ?_) (a' := ?_) #[true, true, true, true, true, true, true, true, true, true, true, true, true, true, true, true, true, true, true, true, true, true, true, true, true, true, true, true, true, true, true, true, true, false, true, true, false, false, false, false, false, false, false, false, false, false, false, false, false] rfl rfl (take_ofW HT_.out HW_.out (by kernel_rfl)) (fun _ _ _ h => h) (Or.inl ⟨by rfl, ?_⟩) hHeld ?_ ?_
       rotate_left
       ·rintro w' ⟨s0, s1, s2, s3, s4, s5, s6, s7, s8, s9, s10⟩
        go_simp
        with_reducible rfl
       rotate_left
       ·simp only [Act.put, List.setIfInBounds_toArray, List.set_cons_zero, List.set_cons_succ, i64_w, i32_w]
        rfl
       refine one_ (i := 33) (N := some 356) #[true, true, true, true, true, true, true, true, true, true, true, true, true, true, true, true, true, true, true, true, true, true, true, true, true, true, true, true, true, true, true, true, true, true, true, true, false, false, false, false, false, false, false, false, false, false, false, false, false] rfl rfl (one_of HT_.out (by kernel_rfl)) (by decide) (fun K hK => ?_)
       refine goes_ Tryd.func66 (by kernel_rfl) rfl #[.int .i64 a10, .agg #[.int .i64 a11_0, .int .i64 a11_1, .int .i64 a11_2]] (by rfl) rfl rfl (by (try simp only [List.map_toArray, List.map_cons, List.map_nil]); first | done | rfl | (simp only [List.length_drop, List.length_take]; rfl)) ?_
       with_reducible refine (impl_IsClue.calls kj197 a10 a11_0 a11_1 a11_2 t461 _ A309.out).mono ?_
       rintro e w323 ⟨rfl, hb⟩
       refine ⟨_, rfl, ?_⟩
       have n0_ := rB HO434 hb
       have n1_ := rB HO440 hb
       have n2_ := rB HO446 hb
       have n3_ := rB HO452 hb
       have n4_ := bB BK362 hb
       have n5_ := bB BK363 hb
       have n6_ := bB BK364 hb
       have n7_ := bB BK365 hb
       have n8_ := bB BK366 hb
       have n9_ := bB BK436 hb
       have n10_ := bB BK442 hb
       have n11_ := bB BK448 hb
       have n12_ := bB BK454 hb
       have n13_ := hS HB hb
       clear HO434
       clear HO440
       clear HO446
       clear HO452
       clear BK362
       clear BK363
       clear BK364
       clear BK365
       clear BK366
       clear BK436
       clear BK442
       clear BK448
       clear BK454
       clear HB
       have HO434 := n0_
       have HO440 := n1_
       have HO446 := n2_
       have HO452 := n3_
       have BK362 := n4_
       have BK363 := n5_
       have BK364 := n6_
       have BK365 := n7_
       have BK366 := n8_
       have BK436 := n9_
       have BK442 := n10_
       have BK448 := n11_
       have BK454 := n12_
       have HB := n13_
       clear n0_ n1_ n2_ n3_ n4_ n5_ n6_ n7_ n8_ n9_ n10_ n11_ n12_ n13_
       (try clear hb)
       (try clear hb2)
       (try clear hk)
       (try clear hi)
       refine hK.out _ _ ⟨(blk_cell BK436.out 0).trans rfl, (blk_cell BK436.out 1).trans rfl, (blk_cell BK442.out 0).trans rfl, (blk_cell BK442.out 1).trans rfl, (blk_cell BK448.out 0).trans rfl, (blk_cell BK448.out 1).trans rfl, (blk_cell BK454.out 0).trans rfl, (blk_cell BK454.out 1).trans rfl, (blk_cell BK366.out 0).trans rfl, (blk_cell BK366.out 1).trans rfl, (blk_cell BK366.out 2).trans rfl⟩ (fun hHeld => ?_)
       clear hK K
       refine norm_ (a' := ?_) ?_ ?_
       rotate_left
       ·show Act.put _ (some 356) _ = _
        simp only [Act.put, List.setIfInBounds_toArray, List.set_cons_zero, List.set_cons_succ, i64_w, i32_w]
        rfl
       refine one_ (i := 36) (N := some 359) #[true, true, true, true, true, true, true, true, true, true, true, true, true, true, true, true, true, true, true, true, true, true, true, true, true, true, true, true, true, true, true, true, true, true, true, true, true, false, false, false, false, false, false, false, false, false, false, false, false] rfl rfl (one_of HT_.out (by kernel_rfl)) (by decide) (fun K hK => ?_)
       refine goes_ Tryd.func67 (by kernel_rfl) rfl #[.int .i64 a10, .agg #[.int .i64 a11_0, .int .i64 a11_1, .int .i64 a11_2]] (by rfl) rfl rfl (by (try simp only [List.map_toArray, List.map_cons, List.map_nil]); first | done | rfl | (simp only [List.length_drop, List.length_take]; rfl)) ?_
       with_reducible refine (spec_IsClue.calls kj197 a10 a11_0 a11_1 a11_2 t462 _ A310.out).mono ?_
       rintro e w324 ⟨rfl, hb⟩
       refine ⟨_, rfl, ?_⟩
       have n0_ := rB HO434 hb
       have n1_ := rB HO440 hb
       have n2_ := rB HO446 hb
       have n3_ := rB HO452 hb
       have n4_ := bB BK362 hb
       have n5_ := bB BK363 hb
       have n6_ := bB BK364 hb
       have n7_ := bB BK365 hb
       have n8_ := bB BK366 hb
       have n9_ := bB BK436 hb
       have n10_ := bB BK442 hb
       have n11_ := bB BK448 hb
       have n12_ := bB BK454 hb
       have n13_ := hS HB hb
       clear HO434
       clear HO440
       clear HO446
       clear HO452
       clear BK362
       clear BK363
       clear BK364
       clear BK365
       clear BK366
       clear BK436
       clear BK442
       clear BK448
       clear BK454
       clear HB
       have HO434 := n0_
       have HO440 := n1_
       have HO446 := n2_
       have HO452 := n3_
       have BK362 := n4_
       have BK363 := n5_
       have BK364 := n6_
       have BK365 := n7_
       have BK366 := n8_
       have BK436 := n9_
       have BK442 := n10_
       have BK448 := n11_
       have BK454 := n12_
       have HB := n13_
       clear n0_ n1_ n2_ n3_ n4_ n5_ n6_ n7_ n8_ n9_ n10_ n11_ n12_ n13_
       (try clear hb)
       (try clear hb2)
       (try clear hk)
       (try clear hi)
       refine hK.out _ _ ⟨(blk_cell BK436.out 0).trans rfl, (blk_cell BK436.out 1).trans rfl, (blk_cell BK442.out 0).trans rfl, (blk_cell BK442.out 1).trans rfl, (blk_cell BK448.out 0).trans rfl, (blk_cell BK448.out 1).trans rfl, (blk_cell BK454.out 0).trans rfl, (blk_cell BK454.out 1).trans rfl, (blk_cell BK366.out 0).trans rfl, (blk_cell BK366.out 1).trans rfl, (blk_cell BK366.out 2).trans rfl⟩ (fun hHeld => ?_)
       clear hK K
       refine norm_ (a' := ?_) ?_ ?_
       rotate_left
       ·show Act.put _ (some 359) _ = _
        simp only [Act.put, List.setIfInBounds_toArray, List.set_cons_zero, List.set_cons_succ, i64_w, i32_w]
        rfl
       refine pure_ (i := 37) (N := some 360) (v := ?_) (a' := ?_) #[true, true, true, true, true, true, true, true, true, true, true, true, true, true, true, true, true, true, true, true, true, true, true, true, true, true, true, true, true, true, true, true, true, true, true, true, true, true, false, false, false, false, false, false, false, false, false, false, false] rfl rfl (any_of HT_.out (by kernel_rfl)) (fun _ _ _ h => h) (Or.inl ⟨by rfl, ?_⟩) ?_ ?_
       rotate_left
       ·intro w'
        go_simp
        with_reducible rfl
       rotate_left
       ·simp only [Act.put, List.setIfInBounds_toArray, List.set_cons_zero, List.set_cons_succ, i64_w, i32_w]
        rfl
       refine pure_ (i := 38) (N := some 361) (v := ?_) (a' := ?_) #[true, true, true, true, true, true, true, true, true, true, true, true, true, true, true, true, true, true, true, true, true, true, true, true, true, true, true, true, true, true, true, true, true, true, true, true, true, true, true, false, false, false, false, false, false, false, false, false, false] rfl rfl (any_of HT_.out (by kernel_rfl)) (fun _ _ _ h => h) (Or.inl ⟨by rfl, ?_⟩) ?_ ?_
       rotate_left
       ·intro w'
        go_simp
        with_reducible rfl
       rotate_left
       ·simp only [Act.put, List.setIfInBounds_toArray, List.set_cons_zero, List.set_cons_succ, i64_w, i32_w]
        rfl
       refine pure_ (i := 39) (N := some 362) (v := ?_) (a' := ?_) #[true, true, true, true, true, true, true, true, true, true, true, true, true, true, true, true, true, true, true, true, true, true, true, true, true, true, true, true, true, true, true, true, true, true, true, true, true, true, true, true, false, false, false, false, false, false, false, false, false] rfl rfl (any_of HT_.out (by kernel_rfl)) (fun _ _ _ h => h) (Or.inl ⟨by rfl, ?_⟩) ?_ ?_
       rotate_left
       ·intro w'
        go_simp
        with_reducible rfl
       rotate_left
       ·simp only [Act.put, List.setIfInBounds_toArray, List.set_cons_zero, List.set_cons_succ, i64_w, i32_w]
        rfl
       refine pure_ (i := 40) (N := some 363) (v := ?_) (a' := ?_) #[true, true, true, true, true, true, true, true, true, true, true, true, true, true, true, true, true, true, true, true, true, true, true, true, true, true, true, true, true, true, true, true, true, true, true, true, true, true, true, true, true, false, false, false, false, false, false, false, false] rfl rfl (any_of HT_.out (by kernel_rfl)) (fun _ _ _ h => h) (Or.inl ⟨by rfl, ?_⟩) ?_ ?_
       rotate_left
       ·intro w'
        go_simp
        with_reducible rfl
       rotate_left
       ·simp only [Act.put, List.setIfInBounds_toArray, List.set_cons_zero, List.set_cons_succ, i64_w, i32_w]
        rfl
       refine pure_ (i := 41) (N := some 364) (v := ?_) (a' := ?_) #[true, true, true, true, true, true, true, true, true, true, true, true, true, true, true, true, true, true, true, true, true, true, true, true, true, true, true, true, true, true, true, true, true, true, true, true, true, true, true, true, true, true, false, false, false, false, false, false, false] rfl rfl (any_of HT_.out (by kernel_rfl)) (fun _ _ _ h => h) (Or.inl ⟨by rfl, ?_⟩) ?_ ?_
       rotate_left
       ·intro w'
        go_simp
        with_reducible rfl
       rotate_left
       ·simp only [Act.put, List.setIfInBounds_toArray, List.set_cons_zero, List.set_cons_succ, i64_w, i32_w]
        rfl
       refine pure_ (i := 42) (N := some 365) (v := undef) (a' := ?_) #[true, true, true, true, true, true, true, true, true, true, true, true, true, true, true, true, true, true, true, true, true, true, true, true, true, true, true, true, true, true, true, true, true, true, true, true, true, true, true, true, true, true, true, false, false, false, false, false, false] rfl rfl (any_of HT_.out (by kernel_rfl)) (fun _ _ _ h => h) (Or.inr ⟨by rfl, rfl⟩) ?_ ?_
       rotate_left
       ·simp only [Act.put, List.setIfInBounds_toArray, List.set_cons_zero, List.set_cons_succ, i64_w, i32_w]
        rfl
       refine pure_ (i := 43) (N := some 366) (v := undef) (a' := ?_) #[true, true, true, true, true, true, true, true, true, true, true, true, true, true, true, true, true, true, true, true, true, true, true, true, true, true, true, true, true, true, true, true, true, true, true, true, true, true, true, true, true, true, true, true, false, false, false, false, false] rfl rfl (any_of HT_.out (by kernel_rfl)) (fun _ _ _ h => h) (Or.inr ⟨by rfl, rfl⟩) ?_ ?_
       rotate_left
       ·simp only [Act.put, List.setIfInBounds_toArray, List.set_cons_zero, List.set_cons_succ, i64_w, i32_w]
        rfl
       refine pure_ (i := 44) (N := some 367) (v := undef) (a' := ?_) #[true, true, true, true, true, true, true, true, true, true, true, true, true, true, true, true, true, true, true, true, true, true, true, true, true, true, true, true, true, true, true, true, true, true, true, true, true, true, true, true, true, true, true, true, true, false, false, false, false] rfl rfl (any_of HT_.out (by kernel_rfl)) (fun _ _ _ h => h) (Or.inr ⟨by rfl, rfl⟩) ?_ ?_
       rotate_left
       ·simp only [Act.put, List.setIfInBounds_toArray, List.set_cons_zero, List.set_cons_succ, i64_w, i32_w]
        rfl
       refine pure_ (i := 45) (N := some 368) (v := undef) (a' := ?_) #[true, true, true, true, true, true, true, true, true, true, true, true, true, true, true, true, true, true, true, true, true, true, true, true, true, true, true, true, true, true, true, true, true, true, true, true, true, true, true, true, true, true, true, true, true, true, false, false, false] rfl rfl (any_of HT_.out (by kernel_rfl)) (fun _ _ _ h => h) (Or.inr ⟨by rfl, rfl⟩) ?_ ?_
       rotate_left
       ·simp only [Act.put, List.setIfInBounds_toArray, List.set_cons_zero, List.set_cons_succ, i64_w, i32_w]
        rfl
       refine pure_ (i := 46) (N := some 369) (v := undef) (a' := ?_) #[true, true, true, true, true, true, true, true, true, true, true, true, true, true, true, true, true, true, true, true, true, true, true, true, true, true, true, true, true, true, true, true, true, true, true, true, true, true, true, true, true, true, true, true, true, true, true, false, false] rfl rfl (any_of HT_.out (by kernel_rfl)) (fun _ _ _ h => h) (Or.inr ⟨by rfl, rfl⟩) ?_ ?_
       rotate_left
       ·simp only [Act.put, List.setIfInBounds_toArray, List.set_cons_zero, List.set_cons_succ, i64_w, i32_w]
        rfl
       refine pure_ (i := 47) (N := some 370) (v := ?_) (a' := ?_) #[true, true, true, true, true, true, true, true, true, true, true, true, true, true, true, true, true, true, true, true, true, true, true, true, true, true, true, true, true, true, true, true, true, true, true, true, true, true, true, true, true, true, true, true, true, true, true, true, false] rfl rfl (any_of HT_.out (by kernel_rfl)) (fun _ _ _ h => h) (Or.inl ⟨by rfl, ?_⟩) ?_ ?_
       rotate_left
       ·intro w'
        go_simp
        with_reducible rfl
       rotate_left
       ·simp only [Act.put, List.setIfInBounds_toArray, List.set_cons_zero, List.set_cons_succ, i64_w, i32_w]
        rfl
       refine pure_ (i := 48) (N := some 371) (v := ?_) (a' := ?_) #[true, true, true, true, true, true, true, true, true, true, true, true, true, true, true, true, true, true, true, true, true, true, true, true, true, true, true, true, true, true, true, true, true, true, true, true, true, true, true, true, true, true, true, true, true, true, true, true, true] rfl rfl (any_of HT_.out (by kernel_rfl)) (fun _ _ _ h => h) (Or.inl ⟨by rfl, ?_⟩) ?_ ?_
       rotate_left
       ·intro w'
        go_simp
        with_reducible rfl
       rotate_left
       ·simp only [Act.put, List.setIfInBounds_toArray, List.set_cons_zero, List.set_cons_succ, i64_w, i32_w]
        rfl
       refine done_ (done_of HT_.out (by kernel_rfl)) ?_
       try go_wp2
       go_meet
       case rel => exact ⟨_, (false), rF, H', ⟨by have := HJ12.out; have := HJ23.out; have := HJ64.out; have := HJ129.out; have := HJ197.out; first | omega | exact Nat.le_refl _⟩, ⟨rU (Kd.R_mono HO434.out (fun _ hk => ⟨hk.1.2, hk.1.1.1.1.1.2⟩))⟩, ⟨rU (Kd.R_mono HO446.out (fun _ hk => ⟨hk.1.1.1.1.1.2, hk.1.1.1.2⟩))⟩, ⟨bU BK362.out⟩, ⟨bU BK363.out⟩, ⟨bU BK364.out⟩, ⟨bU BK436.out⟩, ⟨bU BK448.out⟩, hV HB⟩
      case rest => as_aux_lemma =>
       clear HC238
       obtain ⟨kq, x371_237, rfl, HA, HJ237, HO_437001, HO_449001, BK362, BK363, BK364, BK436, BK448, HB⟩ := hcut
       obtain rfl | ⟨kj237, rfl⟩ := fz kq
       ·exact zA HA
       have H := HA.out
       clear HA
       simp only [laws_FnStatesHiddenOfAll.j7] at H
       refine iBn H ?_; clear H; rintro rfl H
       have HC326 := aM H
       clear H
       go_upto_if 372 with (fail)
       go_cut [] from 372 to 372 (fun wc => ∃ (kq : Nat), Aside0 (laws_FnStatesHiddenOfAll.j8 kq a7 t447 a6_0 l6_1 t443 t444 = some r) ∧ Aside0 (kq ≤ kj237) ∧ Aside0 (Kd.R k59 59 wc w.heap.size (fun _ => True) (.slice Ao282 t444.length co282) t444) ∧ Aside0 (wc.heap[gb364]? = some (.cells #[.int .i64 a6_0, (.slice A6_1 l6_1.length c6_1)] 57 (0, 0))) ∧ Aside0 (wc.heap[gb448]? = some (.cells #[.int .i64 t443, (.slice Ao282 t444.length co282)] 57 (0, 0))) ∧ Aside0 (Below w.heap.size w wc))
       case first => as_aux_lemma =>
        have H := HC326.out
        clear HC326
        refine iB H ?_ ?_ <;> clear H <;> rintro rfl H
        ·replace H := bC H; obtain ⟨⟨t464, t465, t468⟩, A328, H⟩ := H; try dsimp only at H
         refine iBy H ?_; clear H; rintro rfl H
         replace H := bC H; obtain ⟨t470, A330, H⟩ := H
         refine iBy H ?_; clear H; rintro rfl H
         refine iY H ?_; clear H; intro c332 H
         have c332b0 := dT c332
         have c332b1 : decide (0 ≤ l4_1.length) = true := decide_eq_true (by omega)
         clear c332
         (first | rw [c332b0] | (simp only [i64_w, i32_w]; rw [c332b0]) | skip)
         refine iY H ?_; clear H; intro c333 H
         have c333b0 := dT c333
         have c333b1 : decide (l4_1.length < t432.length) = true := decide_eq_true (Int.ofNat_lt.mp c333)
         clear c333
         refine iN H ?_; clear H; intro c334 H
         have c334b0 := bF c334
         clear c334
         have H' := aM H
         clear H
         have hnb335 := NB436_362.out
         have hnc335 := NB362_436.out
         have hnb336 := NB436_363.out
         have hnc336 := NB363_436.out
         have hnb337 := NB436_364.out
         have hnc337 := NB364_436.out
         have hnb338 := NB436_448.out
         have hnc338 := NB448_436.out
         obtain ⟨hcz339_0, hcz339_1, hfz339_0, hfz339_1⟩ := hC2 BK436
         have hnb340 := NB362_363.out
         have hnc340 := NB363_362.out
         have hnb341 := NB362_364.out
         have hnc341 := NB364_362.out
         have hnb342 := NB362_448.out
         have hnc342 := NB448_362.out
         obtain ⟨hcz343_0, hcz343_1, hfz343_0, hfz343_1⟩ := hC2 BK362
         try go_wp2_with (first | ((with_reducible refine gG 63 (some 378) rfl rfl ?_); refine gD Tryd.func63 (impl_DropClue.calls t431 _ _ t432 (l4_1.length : Int) t464 t465 true _ (cU (Kd.R_reads' HO_437001.out).2.2) ((Kd.R_reads' HO_437001.out).2.1) A328.out) ?_; rintro w344 v466 ⟨ho0, hb⟩; have HO467 := aM (Kd.R_lower (Kd.R_newB (Kd.R_new' (Kd.R_new' ho0 (Kd.R_lt (rU HO_437001.out))) (Kd.R_lt (rU HO_449001.out))) (g := gb363) (o := .cells #[.int .i64 a5_0, .int .i64 a5_1, .int .i64 a5_2] 59 (0, 0)) (bU BK363.out)) (below_size (bel HB))); replace HO_437001 := aM (Kd.R_elder' (rU HO_437001.out) (Kd.R_base ho0) hb); replace HO_449001 := aM (Kd.R_elder' (rU HO_449001.out) (Kd.R_base ho0) hb); replace BK362 := bB BK362 hb; replace BK363 := bB BK363 hb; replace BK364 := bB BK364 hb; replace BK436 := bB BK436 hb; replace BK448 := bB BK448 hb; replace HB := hS HB hb; clear hb ho0) | ((with_reducible refine gate_dst (N := 69) rfl ?_); (try (refine gate_guard (by rfl) ?_; dsimp only)); refine bX (N := 69) rfl (cs := #[.int .i64 0, .slice none 0 0]) (t := 57) ?_; intro gb469 hg w345 BK469 hb; have GW469 := gE hg HB; have GE469 := gE hg HB; have NB362_469 := nbL hg BK362; have NB469_362 := nbR hg BK362; have NB363_469 := nbL hg BK363; have NB469_363 := nbR hg BK363; have NB364_469 := nbL hg BK364; have NB469_364 := nbR hg BK364; have NB436_469 := nbL hg BK436; have NB469_436 := nbR hg BK436; have NB448_469 := nbL hg BK448; have NB469_448 := nbR hg BK448; replace HO_437001 := rB HO_437001 hb; replace HO_449001 := rB HO_449001 hb; replace HO467 := rB HO467 hb; replace BK362 := bB BK362 hb; replace BK363 := bB BK363 hb; replace BK364 := bB BK364 hb; replace BK436 := bB BK436 hb; replace BK448 := bB BK448 hb; replace HB := hS HB hb; clear hb hg; have hnb346 := NB469_362.out; have hnc346 := NB362_469.out; have hnb347 := NB469_363.out; have hnc347 := NB363_469.out; have hnb348 := NB469_364.out; have hnc348 := NB364_469.out; have hnb349 := NB469_436.out; have hnc349 := NB436_469.out; have hnb350 := NB469_448.out; have hnc350 := NB448_469.out; obtain ⟨hcz351_0, hcz351_1, hfz351_0, hfz351_1⟩ := hC2 BK469; obtain ⟨Ao352, co352, eo352⟩ := Kd.R_slice HO467.out; subst eo352))
         have n0_ : Aside0 (Kd.R k59 59 ((w345.setCell ⟨gb469, 0, none⟩ (.int .i64 t464)).setCell ⟨gb469, 1, none⟩ (.slice Ao352 t465.length co352)) w.heap.size (fun k_ => some k_ ≠ (.slice Ao282 t444.length co282 : Value).ownBlock ∧ some k_ ≠ (.slice Ao352 t465.length co352 : Value).ownBlock ∧ k_ ≠ gb363) (.slice Ao256 t432.length co256) t432) := ⟨rU (Kd.R_mono (Kd.R_far (p := ⟨gb469, 1, none⟩) (Kd.R_far (p := ⟨gb469, 0, none⟩) (Kd.R_types HO_437001.out BK469.out (by decide)) (fun _ hk => hk.2) (.int .i64 t464)) (fun _ hk => hk.2) (.slice Ao352 t465.length co352)) (fun _ hk => ⟨hk.1.1.1, ⟨hk.1.2, hk.1.1.2⟩⟩))⟩
         have n1_ : Aside0 (Kd.R k59 59 ((w345.setCell ⟨gb469, 0, none⟩ (.int .i64 t464)).setCell ⟨gb469, 1, none⟩ (.slice Ao352 t465.length co352)) w.heap.size (fun k_ => some k_ ≠ (.slice Ao256 t432.length co256 : Value).ownBlock ∧ some k_ ≠ (.slice Ao352 t465.length co352 : Value).ownBlock ∧ k_ ≠ gb363) (.slice Ao282 t444.length co282) t444) := ⟨rU (Kd.R_mono (Kd.R_far (p := ⟨gb469, 1, none⟩) (Kd.R_far (p := ⟨gb469, 0, none⟩) (Kd.R_types HO_449001.out BK469.out (by decide)) (fun _ hk => hk.2) (.int .i64 t464)) (fun _ hk => hk.2) (.slice Ao352 t465.length co352)) (fun _ hk => ⟨hk.1.1.1, ⟨hk.1.2, hk.1.1.2⟩⟩))⟩
         have n2_ : Aside0 (Kd.R k59 59 ((w345.setCell ⟨gb469, 0, none⟩ (.int .i64 t464)).setCell ⟨gb469, 1, none⟩ (.slice Ao352 t465.length co352)) w.heap.size (fun k_ => some k_ ≠ (.slice Ao256 t432.length co256 : Value).ownBlock ∧ some k_ ≠ (.slice Ao282 t444.length co282 : Value).ownBlock ∧ k_ ≠ gb363) (.slice Ao352 t465.length co352) t465) := ⟨rU (Kd.R_mono (Kd.R_far (p := ⟨gb469, 1, none⟩) (Kd.R_far (p := ⟨gb469, 0, none⟩) (Kd.R_types HO467.out BK469.out (by decide)) (fun _ hk => hk.2) (.int .i64 t464)) (fun _ hk => hk.2) (.slice Ao352 t465.length co352)) (fun _ hk => ⟨hk.1.1.1.2, ⟨hk.1.1.2, hk.1.2⟩⟩))⟩
         have n3_ : Aside0 (((w345.setCell ⟨gb469, 0, none⟩ (.int .i64 t464)).setCell ⟨gb469, 1, none⟩ (.slice Ao352 t465.length co352)).heap[gb362]? = some (.cells #[.int .i64 a4_0, .slice A4_1 l4_1.length c4_1] 57 (0, 0))) := ⟨by (with_reducible repeat (first | refine blk_drewN ?_ _ | refine blk_drew ?_ | refine blk_alloc ?_ _)); refine blk_far ?_ NB362_469.out _; (with_reducible repeat (first | refine blk_drewN ?_ _ | refine blk_drew ?_ | refine blk_alloc ?_ _)); refine blk_far ?_ NB362_469.out _; (with_reducible repeat (first | refine blk_drewN ?_ _ | refine blk_drew ?_ | refine blk_alloc ?_ _)); exact BK362.out⟩
         have n4_ : Aside0 (((w345.setCell ⟨gb469, 0, none⟩ (.int .i64 t464)).setCell ⟨gb469, 1, none⟩ (.slice Ao352 t465.length co352)).heap[gb363]? = some (.cells #[.int .i64 a5_0, .int .i64 a5_1, .int .i64 a5_2] 59 (0, 0))) := ⟨by (with_reducible repeat (first | refine blk_drewN ?_ _ | refine blk_drew ?_ | refine blk_alloc ?_ _)); refine blk_far ?_ NB363_469.out _; (with_reducible repeat (first | refine blk_drewN ?_ _ | refine blk_drew ?_ | refine blk_alloc ?_ _)); refine blk_far ?_ NB363_469.out _; (with_reducible repeat (first | refine blk_drewN ?_ _ | refine blk_drew ?_ | refine blk_alloc ?_ _)); exact BK363.out⟩
         have n5_ : Aside0 (((w345.setCell ⟨gb469, 0, none⟩ (.int .i64 t464)).setCell ⟨gb469, 1, none⟩ (.slice Ao352 t465.length co352)).heap[gb364]? = some (.cells #[.int .i64 a6_0, .slice A6_1 l6_1.length c6_1] 57 (0, 0))) := ⟨by (with_reducible repeat (first | refine blk_drewN ?_ _ | refine blk_drew ?_ | refine blk_alloc ?_ _)); refine blk_far ?_ NB364_469.out _; (with_reducible repeat (first | refine blk_drewN ?_ _ | refine blk_drew ?_ | refine blk_alloc ?_ _)); refine blk_far ?_ NB364_469.out _; (with_reducible repeat (first | refine blk_drewN ?_ _ | refine blk_drew ?_ | refine blk_alloc ?_ _)); exact BK364.out⟩
         have n6_ : Aside0 (((w345.setCell ⟨gb469, 0, none⟩ (.int .i64 t464)).setCell ⟨gb469, 1, none⟩ (.slice Ao352 t465.length co352)).heap[gb436]? = some (.cells #[.int .i64 t431, .slice Ao256 t432.length co256] 57 (0, 0))) := ⟨by (with_reducible repeat (first | refine blk_drewN ?_ _ | refine blk_drew ?_ | refine blk_alloc ?_ _)); refine blk_far ?_ NB436_469.out _; (with_reducible repeat (first | refine blk_drewN ?_ _ | refine blk_drew ?_ | refine blk_alloc ?_ _)); refine blk_far ?_ NB436_469.out _; (with_reducible repeat (first | refine blk_drewN ?_ _ | refine blk_drew ?_ | refine blk_alloc ?_ _)); exact BK436.out⟩
         have n7_ : Aside0 (((w345.setCell ⟨gb469, 0, none⟩ (.int .i64 t464)).setCell ⟨gb469, 1, none⟩ (.slice Ao352 t465.length co352)).heap[gb448]? = some (.cells #[.int .i64 t443, .slice Ao282 t444.length co282] 57 (0, 0))) := ⟨by (with_reducible repeat (first | refine blk_drewN ?_ _ | refine blk_drew ?_ | refine blk_alloc ?_ _)); refine blk_far ?_ NB448_469.out _; (with_reducible repeat (first | refine blk_drewN ?_ _ | refine blk_drew ?_ | refine blk_alloc ?_ _)); refine blk_far ?_ NB448_469.out _; (with_reducible repeat (first | refine blk_drewN ?_ _ | refine blk_drew ?_ | refine blk_alloc ?_ _)); exact BK448.out⟩
         have n8_ : Aside0 (((w345.setCell ⟨gb469, 0, none⟩ (.int .i64 t464)).setCell ⟨gb469, 1, none⟩ (.slice Ao352 t465.length co352)).heap[gb469]? = some (.cells #[.int .i64 t464, .slice Ao352 t465.length co352] 57 (0, 0))) := ⟨by (with_reducible repeat (first | refine blk_drewN ?_ _ | refine blk_drew ?_ | refine blk_alloc ?_ _)); refine blk_put (cs := #[.int .i64 t464, .slice none 0 0]) ?_ 1 _ rfl; (with_reducible repeat (first | refine blk_drewN ?_ _ | refine blk_drew ?_ | refine blk_alloc ?_ _)); refine blk_put (cs := #[.int .i64 0, .slice none 0 0]) ?_ 0 _ rfl; (with_reducible repeat (first | refine blk_drewN ?_ _ | refine blk_drew ?_ | refine blk_alloc ?_ _)); exact BK469.out⟩
         have n9_ : Aside0 (Below w.heap.size w ((w345.setCell ⟨gb469, 0, none⟩ (.int .i64 t464)).setCell ⟨gb469, 1, none⟩ (.slice Ao352 t465.length co352))) := hV HB
         (try clear HO_437001)
         (try clear HO_449001)
         (try clear HO467)
         (try clear BK362)
         (try clear BK363)
         (try clear BK364)
         (try clear BK436)
         (try clear BK448)
         (try clear BK469)
         (try clear HB)
         generalize ((w345.setCell ⟨gb469, 0, none⟩ (.int .i64 t464)).setCell ⟨gb469, 1, none⟩ (.slice Ao352 t465.length co352)) = w353 at n0_ n1_ n2_ n3_ n4_ n5_ n6_ n7_ n8_ n9_ ⊢
         have HO_437001 := n0_
         have HO_449001 := n1_
         have HO467 := n2_
         have BK362 := n3_
         have BK363 := n4_
         have BK364 := n5_
         have BK436 := n6_
         have BK448 := n7_
         have BK469 := n8_
         have HB := n9_
         clear n0_ n1_ n2_ n3_ n4_ n5_ n6_ n7_ n8_ n9_
         have n0_ := aM (Kd.R_drew HO_437001.out)
         have n1_ := aM (Kd.R_drew HO_449001.out)
         have n2_ := aM (Kd.R_drew HO467.out)
         have n3_ := aM (blk_drew BK362.out)
         have n4_ := aM (blk_drew BK363.out)
         have n5_ := aM (blk_drew BK364.out)
         have n6_ := aM (blk_drew BK436.out)
         have n7_ := aM (blk_drew BK448.out)
         have n8_ := aM (blk_drew BK469.out)
         have n9_ := aM (below_drew1 HB.out)
         clear HO_437001
         clear HO_449001
         clear HO467
         clear BK362
         clear BK363
         clear BK364
         clear BK436
         clear BK448
         clear BK469
         clear HB
         have HO_437001 := n0_
         have HO_449001 := n1_
         have HO467 := n2_
         have BK362 := n3_
         have BK363 := n4_
         have BK364 := n5_
         have BK436 := n6_
         have BK448 := n7_
         have BK469 := n8_
         have HB := n9_
         clear n0_ n1_ n2_ n3_ n4_ n5_ n6_ n7_ n8_ n9_
         have p471 : 0 ≤ ((l4_1.length : Int) : Int) := oD
         have q471 : (l4_1.length : Int) < (t432.length : Int) := oD
         obtain ⟨ad471, e471, hx471_0, hx471_1, hx471_2⟩ := at_T59 (Kd.R_reads' HO_437001.out).2.2 (l4_1.length : Int) p471 q471
         cases e471
         (try simp only [Go.IntWalk.toNatUp] at hx471_0)
         (try simp only [Go.IntWalk.toNatUp] at hx471_1)
         (try simp only [Go.IntWalk.toNatUp] at hx471_2)
         replace p471 := eq_true p471
         replace q471 := eq_true q471
         refine start_ (n := 19) (S := fun w' => w'.cell? ⟨gb469, 0, none⟩ = some (.int .i64 t464) ∧ w'.cell? ⟨gb469, 1, none⟩ = some (.slice Ao352 t465.length co352) ∧ w'.cell? ⟨gb362, 0, none⟩ = some (.int .i64 a4_0) ∧ w'.cell? ⟨gb362, 1, none⟩ = some (.slice A4_1 l4_1.length c4_1) ∧ w'.cell? ⟨gb436, 0, none⟩ = some (.int .i64 t431) ∧ w'.cell? ⟨gb436, 1, none⟩ = some (.slice (some ad471) t432.length co256) ∧ w'.cell? ⟨gb363, 0, none⟩ = some (.int .i64 a5_0) ∧ w'.cell? ⟨gb363, 1, none⟩ = some (.int .i64 a5_1) ∧ w'.cell? ⟨gb363, 2, none⟩ = some (.int .i64 a5_2) ∧ w'.cell? (ad471.add (((l4_1.length : Int)).toNat * 3)) = some (.int .i64 ((rd_T59 t432 (l4_1.length : Int)).f0)) ∧ w'.cell? ⟨(ad471.add (((l4_1.length : Int)).toNat * 3)).block, (ad471.add (((l4_1.length : Int)).toNat * 3)).off + 1, none⟩ = some (.int .i64 ((rd_T59 t432 (l4_1.length : Int)).f1)) ∧ w'.cell? ⟨(ad471.add (((l4_1.length : Int)).toNat * 3)).block, (ad471.add (((l4_1.length : Int)).toNat * 3)).off + 2, none⟩ = some (.int .i64 ((rd_T59 t432 (l4_1.length : Int)).f2))) (ds := []) #[false, false, false, false, false, false, false, false, false, false, false, false, false, false, false, false, false, false, false] (by kernel_rfl) rfl rfl ⟨(blk_cell BK469.out 0).trans rfl, (blk_cell BK469.out 1).trans rfl, (blk_cell BK362.out 0).trans rfl, (blk_cell BK362.out 1).trans rfl, (blk_cell BK436.out 0).trans rfl, (blk_cell BK436.out 1).trans rfl, (blk_cell BK363.out 0).trans rfl, (blk_cell BK363.out 1).trans rfl, (blk_cell BK363.out 2).trans rfl, hx471_0, hx471_1, hx471_2⟩ (fun hHeld => ?_); refine with_tabW laws_FnStatesHiddenOfAll.tab46 laws_FnStatesHiddenOfAll.bits46 (fun HT_ HW_ => ?_)
         generalize w353.drew = w354 at HO_437001 HO_449001 HO467 BK362 BK363 BK364 BK436 BK448 BK469 HB hx471_0 hx471_1 hx471_2 hHeld ⊢
         refine pure_ (i := 0) (N := some 381) (v := ?_) (a' := ?_) #[true, false, false, false, false, false, false, false, false, false, false, false, false, false, false, false, false, false, false] rfl rfl (any_of HT_.out (by kernel_rfl)) (fun _ _ _ h => h) (Or.inl ⟨by rfl, ?_⟩) ?_ ?_
         rotate_left
         ·intro w'
          go_simp
          with_reducible rfl
         rotate_left
         ·simp only [Act.put, List.setIfInBounds_toArray, List.set_cons_zero, List.set_cons_succ, i64_w, i32_w]
          rfl
         refine pure_ (i := 1) (N := some 382) (v := ?_) (a' := ?_) #[true, true, false, false, false, false, false, false, false, false, false, false, false, false, false, false, false, false, false] rfl rfl (any_of HT_.out (by kernel_rfl)) (fun _ _ _ h => h) (Or.inl ⟨by rfl, ?_⟩) ?_ ?_
         rotate_left
         ·intro w'
          go_simp
          with_reducible rfl
         rotate_left
         ·simp only [Act.put, List.setIfInBounds_toArray, List.set_cons_zero, List.set_cons_succ, i64_w, i32_w]
          rfl
         refine pure_ (i := 2) (N := some 383) (v := ?_) (a' := ?_) #[true, true, true, false, false, false, false, false, false, false, false, false, false, false, false, false, false, false, false] rfl rfl (any_of HT_.out (by kernel_rfl)) (fun _ _ _ h => h) (Or.inl ⟨by rfl, ?_⟩) ?_ ?_
         rotate_left
         ·intro w'
          go_simp
          with_reducible rfl
         rotate_left
         ·simp only [Act.put, List.setIfInBounds_toArray, List.set_cons_zero, List.set_cons_succ, i64_w, i32_w]
          rfl
         refine take_ (i := 3) (N := some 384) (v := ?_) (a' := ?_) #[true, true, true, true, false, false, false, false, false, false, false, false, false, false, false, false, false, false, false] rfl rfl (take_ofW HT_.out HW_.out (by kernel_rfl)) (fun _ _ _ h => h) (Or.inl ⟨by rfl, ?_⟩) hHeld ?_ ?_
         rotate_left
         ·rintro w' ⟨s0, s1, s2, s3, s4, s5, s6, s7, s8, s9, s10, s11⟩
          (try simp only [Int.toNat_natCast] at s0 s1 s2 s3 s4 s5 s6 s7 s8 s9 s10 s11)
          go_simp
          with_reducible rfl
         rotate_left
         ·simp only [Act.put, List.setIfInBounds_toArray, List.set_cons_zero, List.set_cons_succ, i64_w, i32_w]
          rfl
         refine take_ (i := 4) (N := some 385) (v := ?_) (a' := ?_) #[true, true, true, true, true, false, false, false, false, false, false, false, false, false, false, false, false, false, false] rfl rfl (take_ofW HT_.out HW_.out (by kernel_rfl)) (fun _ _ _ h => h) (Or.inl ⟨by rfl, ?_⟩) hHeld ?_ ?_
         rotate_left
         ·rintro w' ⟨s0, s1, s2, s3, s4, s5, s6, s7, s8, s9, s10, s11⟩
          (try simp only [Int.toNat_natCast] at s0 s1 s2 s3 s4 s5 s6 s7 s8 s9 s10 s11)
          go_simp
          with_reducible rfl
         rotate_left
         ·simp only [Act.put, List.setIfInBounds_toArray, List.set_cons_zero, List.set_cons_succ, i64_w, i32_w]
          rfl
         refine one_ (i := 5) (N := some 386) #[true, true, true, true, true, true, false, false, false, false, false, false, false, false, false, false, false, false, false] rfl rfl (one_of HT_.out (by kernel_rfl)) (by decide) (fun K hK => ?_)
         refine goes_ Tryd.func50 (by kernel_rfl) rfl #[.agg #[.int .i64 t464, .slice Ao352 t465.length co352], .agg #[.int .i64 a4_0, .slice A4_1 l4_1.length c4_1]] (by rfl) rfl rfl (by (try simp only [List.map_toArray, List.map_cons, List.map_nil]); first | done | rfl | (simp only [List.length_drop, List.length_take]; rfl)) ?_
         with_reducible refine (laws_xPuzzle.calls kj237 t464 _ _ t465 a4_0 _ _ l4_1 true _ ?side1 ?side2 ?side3 ?side4 A330.out).mono ?_
         (case side1 => exact cU (Kd.R_reads' HO467.out).2.2)
         (case side2 => exact (Kd.R_reads' HO467.out).2.1)
         (case side3 => exact cU (Kd.C_below HR4_1.out HB.out))
         (case side4 => exact HC4_1.out)
         rintro e w355 ⟨rfl, hb⟩
         have HS9_ := (hb.cell (World.block_lt_of_cell? _ _ (hHeld.2.2.2.2.2.2.2.2.2.1))).trans (hHeld.2.2.2.2.2.2.2.2.2.1)
         have HS10_ := (hb.cell (World.block_lt_of_cell? _ _ (hHeld.2.2.2.2.2.2.2.2.2.2.1))).trans (hHeld.2.2.2.2.2.2.2.2.2.2.1)
         have HS11_ := (hb.cell (World.block_lt_of_cell? _ _ (hHeld.2.2.2.2.2.2.2.2.2.2.2))).trans (hHeld.2.2.2.2.2.2.2.2.2.2.2)
         refine ⟨_, rfl, ?_⟩
         have n0_ := rB HO_437001 hb
         have n1_ := rB HO_449001 hb
         have n2_ := rB HO467 hb
         have n3_ := bB BK362 hb
         have n4_ := bB BK363 hb
         have n5_ := bB BK364 hb
         have n6_ := bB BK436 hb
         have n7_ := bB BK448 hb
         have n8_ := bB BK469 hb
         have n9_ := hS HB hb
         clear HO_437001
         clear HO_449001
         clear HO467
         clear BK362
         clear BK363
         clear BK364
         clear BK436
         clear BK448
         clear BK469
         clear HB
         have HO_437001 := n0_
         have HO_449001 := n1_
         have HO467 := n2_
         have BK362 := n3_
         have BK363 := n4_
         have BK364 := n5_
         have BK436 := n6_
         have BK448 := n7_
         have BK469 := n8_
         have HB := n9_
         clear n0_ n1_ n2_ n3_ n4_ n5_ n6_ n7_ n8_ n9_
         (try clear hb)
         (try clear hb2)
         (try clear hk)
         (try clear hi)
         refine hK.out _ _ ⟨(blk_cell BK469.out 0).trans rfl, (blk_cell BK469.out 1).trans rfl, (blk_cell BK362.out 0).trans rfl, (blk_cell BK362.out 1).trans rfl, (blk_cell BK436.out 0).trans rfl, (blk_cell BK436.out 1).trans rfl, (blk_cell BK363.out 0).trans rfl, (blk_cell BK363.out 1).trans rfl, (blk_cell BK363.out 2).trans rfl, HS9_, HS10_, HS11_⟩ (fun hHeld => ?_)
         clear hK K
         refine norm_ (a' := ?_) ?_ ?_
         rotate_left
         ·show Act.put _ (some 386) _ = _
          simp only [Act.put, List.setIfInBounds_toArray, List.set_cons_zero, List.set_cons_succ, i64_w, i32_w]
          rfl
         refine pure_ (i := 6) (N := some 387) (v := ?_) (a' := ?_) #[true, true, true, true, true, true, true, false, false, false, false, false, false, false, false, false, false, false, false] rfl rfl (any_of HT_.out (by kernel_rfl)) (fun _ _ _ h => h) (Or.inl ⟨by rfl, ?_⟩) ?_ ?_
         rotate_left
         ·intro w'
          go_simp
          with_reducible rfl
         rotate_left
         ·simp only [Act.put, List.setIfInBounds_toArray, List.set_cons_zero, List.set_cons_succ, i64_w, i32_w]
          rfl
         refine pure_ (i := 7) (N := some 388) (v := ?_) (a' := ?_) #[true, true, true, true, true, true, true, true, false, false, false, false, false, false, false, false, false, false, false] rfl rfl (any_of HT_.out (by kernel_rfl)) (fun _ _ _ h => h) (Or.inl ⟨by rfl, ?_⟩) ?_ ?_
         rotate_left
         ·intro w'
          go_simp
          with_reducible rfl
         rotate_left
         ·simp only [Act.put, List.setIfInBounds_toArray, List.set_cons_zero, List.set_cons_succ, i64_w, i32_w]
          rfl
         refine pure_ (i := 8) (N := some 389) (v := ?_) (a' := ?_) #[true, true, true, true, true, true, true, true, true, false, false, false, false, false, false, false, false, false, false] rfl rfl (any_of HT_.out (by kernel_rfl)) (fun _ _ _ h => h) (Or.inl ⟨by rfl, ?_⟩) ?_ ?_
         rotate_left
         ·intro w'
          go_simp
          with_reducible rfl
         rotate_left
         ·simp only [Act.put, List.setIfInBounds_toArray, List.set_cons_zero, List.set_cons_succ, i64_w, i32_w]
          rfl
         refine pure_ (i := 9) (N := some 390) (v := ?_) (a' := ?_) #[true, true, true, true, true, true, true, true, true, true, false, false, false, false, false, false, false, false, false] rfl rfl (any_of HT_.out (by kernel_rfl)) (fun _ _ _ h => h) (Or.inl ⟨by rfl, ?_⟩) ?_ ?_
         rotate_left
         ·intro w'
          go_simp
          with_reducible rfl
         rotate_left
         ·simp only [Act.put, List.setIfInBounds_toArray, List.set_cons_zero, List.set_cons_succ, i64_w, i32_w]
          rfl
         refine pure_ (i := 11) (N := some 392) (v := ?_) (a' := ?_) #[true, true, true, true, true, true, true, true, true, true, false, true, false, false, false, false, false, false, false] rfl rfl (any_of HT_.out (by kernel_rfl)) (fun _ _ _ h => h) (Or.inl ⟨by rfl, ?_⟩) ?_ ?_
         rotate_left
         ·intro w'
          go_simp
          with_reducible rfl
         rotate_left
         ·simp only [Act.put, List.setIfInBounds_toArray, List.set_cons_zero, List.set_cons_succ, i64_w, i32_w]
          rfl
         refine take_ (i := 10) (N := some 391) (v := ?_) (a' := ?_) #[true, true, true, true, true, true, true, true, true, true, true, true, false, false, false, false, false, false, false] rfl rfl (take_ofW HT_.out HW_.out (by kernel_rfl)) (fun _ _ _ h => h) (Or.inl ⟨by rfl, ?_⟩) hHeld ?_ ?_
         rotate_left
         ·rintro w' ⟨s0, s1, s2, s3, s4, s5, s6, s7, s8, s9, s10, s11⟩
          (try simp only [Int.toNat_natCast] at s0 s1 s2 s3 s4 s5 s6 s7 s8 s9 s10 s11)
          go_simp
          with_reducible rfl
         rotate_left
         ·simp only [Act.put, List.setIfInBounds_toArray, List.set_cons_zero, List.set_cons_succ, i64_w, i32_w]
          rfl
         refine take_ (i := 12) (N := some 393) (v := ?_) (a' := ?_) #[true, true, true, true, true, true, true, true, true, true, true, true, true, false, false, false, false, false, false] rfl rfl (take_ofW HT_.out HW_.out (by kernel_rfl)) (fun _ _ _ h => h) (Or.inl ⟨by rfl, ?_⟩) hHeld ?_ ?_
         rotate_left
         ·rintro w' ⟨s0, s1, s2, s3, s4, s5, s6, s7, s8, s9, s10, s11⟩
          (try simp only [Int.toNat_natCast] at s0 s1 s2 s3 s4 s5 s6 s7 s8 s9 s10 s11)
          go_simp
          with_reducible rfl
         rotate_left
         ·simp only [Act.put, List.setIfInBounds_toArray, List.set_cons_zero, List.set_cons_succ, i64_w, i32_w]
          rfl
         refine pure_ (i := 13) (N := some 394) (v := ?_) (a' := ?_) #[true, true, true, true, true, true, true, true, true, true, true, true, true, true, false, false, false, false, false] rfl rfl (any_of HT_.out (by kernel_rfl)) (fun _ _ _ h => h) (Or.inl ⟨by rfl, ?_⟩) ?_ ?_
         rotate_left
         ·intro w'
          go_simp
          with_reducible rfl
         rotate_left
         ·simp only [Act.put, List.setIfInBounds_toArray, List.set_cons_zero, List.set_cons_succ, i64_w, i32_w]
          rfl
         refine pure_ (i := 14) (N := some 395) (v := ?_) (a' := ?_) #[true, true, true, true, true, true, true, true, true, true, true, true, true, true, true, false, false, false, false] rfl rfl (any_of HT_.out (by kernel_rfl)) (fun _ _ _ h => h) (Or.inl ⟨by rfl, ?_⟩) ?_ ?_
         rotate_left
         ·intro w'
          go_simp
          with_reducible rfl
         rotate_left
         ·simp only [Act.put, List.setIfInBounds_toArray, List.set_cons_zero, List.set_cons_succ, i64_w, i32_w]
          rfl
         refine take_ (i := 15) (N := some 396) (v := ?_) (a' := ?_) #[true, true, true, true, true, true, true, true, true, true, true, true, true, true, true, true, false, false, false] rfl rfl (take_ofW HT_.out HW_.out (by kernel_rfl)) (fun _ _ _ h => h) (Or.inl ⟨by rfl, ?_⟩) hHeld ?_ ?_
         rotate_left
         ·rintro w' ⟨s0, s1, s2, s3, s4, s5, s6, s7, s8, s9, s10, s11⟩
          (try simp only [Int.toNat_natCast] at s0 s1 s2 s3 s4 s5 s6 s7 s8 s9 s10 s11)
          go_simp
          with_reducible rfl
         rotate_left
         ·simp only [Act.put, List.setIfInBounds_toArray, List.set_cons_zero, List.set_cons_succ, i64_w, i32_w]
          rfl
         refine take_ (i := 16) (N := some 397) (v := ?_) (a' := ?_) #[true, true, true, true, true, true, true, true, true, true, true, true, true, true, true, true, true, false, false] rfl rfl (take_ofW HT_.out HW_.out (by kernel_rfl)) (fun _ _ _ h => h) (Or.inl ⟨by rfl, ?_⟩) hHeld ?_ ?_
         rotate_left
         ·rintro w' ⟨s0, s1, s2, s3, s4, s5, s6, s7, s8, s9, s10, s11⟩
          (try simp only [Int.toNat_natCast] at s0 s1 s2 s3 s4 s5 s6 s7 s8 s9 s10 s11)
          go_simp
          with_reducible rfl
         rotate_left
         ·simp only [Act.put, List.setIfInBounds_toArray, List.set_cons_zero, List.set_cons_succ, i64_w, i32_w]
          rfl
         refine pure_ (i := 17) (N := some 398) (v := ?_) (a' := ?_) #[true, true, true, true, true, true, true, true, true, true, true, true, true, true, true, true, true, true, false] rfl rfl (any_of HT_.out (by kernel_rfl)) (fun _ _ _ h => h) (Or.inl ⟨by rfl, ?_⟩) ?_ ?_
         rotate_left
         ·intro w'
          go_simp
          with_reducible rfl
         rotate_left
         ·simp only [Act.put, List.setIfInBounds_toArray, List.set_cons_zero, List.set_cons_succ, i64_w, i32_w]
          rfl
         refine pure_ (i := 18) (N := some 399) (v := ?_) (a' := ?_) #[true, true, true, true, true, true, true, true, true, true, true, true, true, true, true, true, true, true, true] rfl rfl (any_of HT_.out (by kernel_rfl)) (fun _ _ _ h => h) (Or.inl ⟨by rfl, ?_⟩) ?_ ?_
         rotate_left
         ·intro w'
          go_simp
          with_reducible rfl
         rotate_left
         ·simp only [Act.put, List.setIfInBounds_toArray, List.set_cons_zero, List.set_cons_succ, i64_w, i32_w]
          rfl
         refine done_ (done_of HT_.out (by kernel_rfl)) ?_
         try go_wp2
         go_meet
         case rel => exact ⟨_, H', ⟨by have := HJ12.out; have := HJ23.out; have := HJ64.out; have := HJ129.out; have := HJ197.out; have := HJ237.out; first | omega | exact Nat.le_refl _⟩, ⟨rU (Kd.R_mono HO_449001.out (fun _ hk => trivial))⟩, ⟨bU BK364.out⟩, ⟨bU BK448.out⟩, hV HB⟩
        have H' := aM H
        clear H
        go_wp2
        go_meet
        case rel => exact ⟨_, H', ⟨by have := HJ12.out; have := HJ23.out; have := HJ64.out; have := HJ129.out; have := HJ197.out; have := HJ237.out; first | omega | exact Nat.le_refl _⟩, ⟨rU (Kd.R_mono HO_449001.out (fun _ hk => trivial))⟩, ⟨bU BK364.out⟩, ⟨bU BK448.out⟩, hV HB⟩
       case rest => as_aux_lemma =>
        clear HC326
        obtain ⟨kq, HA, HJ325, HO_449001, BK364, BK448, HB⟩ := hcut
        obtain rfl | ⟨kj325, rfl⟩ := fz kq
        ·exact zA HA
        have H := HA.out
        clear HA
        simp only [laws_FnStatesHiddenOfAll.j8] at H
        have HC356 := aM H
        clear H
        go_upto_region 48 with (fail)
        go_cut [408] from 400 to 408 (fun v408 wc => ∃ (kq : Nat) (x408_355 : Bool), v408 = .bool x408_355 ∧ Aside0 (laws_FnStatesHiddenOfAll.j9 kq a7 x408_355 a6_0 l6_1 t443 t444 = some r) ∧ Aside0 (kq ≤ kj325) ∧ Aside0 (Kd.R k59 59 wc w.heap.size (fun _ => True) (.slice Ao282 t444.length co282) t444) ∧ Aside0 (wc.heap[gb364]? = some (.cells #[.int .i64 a6_0, (.slice A6_1 l6_1.length c6_1)] 57 (0, 0))) ∧ Aside0 (wc.heap[gb448]? = some (.cells #[.int .i64 t443, (.slice Ao282 t444.length co282)] 57 (0, 0))) ∧ Aside0 (Below w.heap.size w wc))
        case first => as_aux_lemma =>
         have H := HC356.out
         clear HC356
         refine iB H ?_ ?_ <;> clear H <;> rintro rfl H
         ·have H' := aM H
          clear H
          have hnb358 := NB364_448.out
          have hnc358 := NB448_364.out
          obtain ⟨hcz359_0, hcz359_1, hfz359_0, hfz359_1⟩ := hC2 BK364
          go_wp2
          go_meet
          case rel => exact ⟨_, ((a7 == (wrap64 ((l6_1.length : Int) - 1)))), rF, H', ⟨by have := HJ12.out; have := HJ23.out; have := HJ64.out; have := HJ129.out; have := HJ197.out; have := HJ237.out; have := HJ325.out; first | omega | exact Nat.le_refl _⟩, ⟨rU HO_449001.out⟩, ⟨bU BK364.out⟩, ⟨bU BK448.out⟩, hV HB⟩
         have H' := aM H
         clear H
         go_wp2
         go_meet
         case rel => exact ⟨_, (false), rF, H', ⟨by have := HJ12.out; have := HJ23.out; have := HJ64.out; have := HJ129.out; have := HJ197.out; have := HJ237.out; have := HJ325.out; first | omega | exact Nat.le_refl _⟩, ⟨rU HO_449001.out⟩, ⟨bU BK364.out⟩, ⟨bU BK448.out⟩, hV HB⟩
        case rest => as_aux_lemma =>
         clear HC356
         obtain ⟨kq, x408_355, rfl, HA, HJ355, HO_449001, BK364, BK448, HB⟩ := hcut
         obtain rfl | ⟨kj355, rfl⟩ := fz kq
         ·exact zA HA
         have H := HA.out
         clear HA
         simp only [laws_FnStatesHiddenOfAll.j9] at H
         refine iB H ?_ ?_ <;> clear H <;> rintro rfl H
         ·refine iY H ?_; clear H; intro c361 H
          have c361b0 := dT c361
          clear c361
          refine iY H ?_; clear H; intro c362 H
          have c362b0 := dT c362
          clear c362
          replace H := bC H; obtain ⟨⟨t473, t474, t477⟩, A363, H⟩ := H; try dsimp only at H
          refine iBy H ?_; clear H; rintro rfl H
          replace H := bC H; obtain ⟨t479, A365, H⟩ := H
          obtain rfl := Option.some.inj H
          try go_wp2
          have n0_ := aM (Kd.R_drew HO_449001.out)
          have n1_ := aM (blk_drew BK364.out)
          have n2_ := aM (blk_drew BK448.out)
          have n3_ := aM (below_drew1 HB.out)
          clear HO_449001
          clear BK364
          clear BK448
          clear HB
          have HO_449001 := n0_
          have BK364 := n1_
          have BK448 := n2_
          have HB := n3_
          clear n0_ n1_ n2_ n3_
          have p472 : 0 ≤ (a7 : Int) := oD
          have q472 : a7 < (l6_1.length : Int) := oD
          obtain ⟨ad472, e472, hx472_0, hx472_1, hx472_2⟩ := at_T59 HR6_1.out a7 p472 q472
          have hw472_2 := hx472_2
          have hw472_1 := hx472_1
          have hw472_0 := hx472_0
          cases e472
          replace hx472_0 := (HB.out.cell (World.block_lt_of_cell? w _ hx472_0)).trans hx472_0
          replace hx472_1 := (HB.out.cell (World.block_lt_of_cell? w _ hx472_1)).trans hx472_1
          replace hx472_2 := (HB.out.cell (World.block_lt_of_cell? w _ hx472_2)).trans hx472_2
          replace p472 := eq_true p472
          replace q472 := eq_true q472
          refine start_ (n := 13) (S := fun w' => w'.cell? ⟨gb448, 0, none⟩ = some (.int .i64 t443) ∧ w'.cell? ⟨gb448, 1, none⟩ = some (.slice Ao282 t444.length co282) ∧ w'.cell? ⟨gb364, 0, none⟩ = some (.int .i64 a6_0) ∧ w'.cell? ⟨gb364, 1, none⟩ = some (.slice (some ad472) l6_1.length c6_1) ∧ w'.cell? (ad472.add ((a7).toNat * 3)) = some (.int .i64 ((rd_T59 l6_1 a7).f0)) ∧ w'.cell? ⟨(ad472.add ((a7).toNat * 3)).block, (ad472.add ((a7).toNat * 3)).off + 1, none⟩ = some (.int .i64 ((rd_T59 l6_1 a7).f1)) ∧ w'.cell? ⟨(ad472.add ((a7).toNat * 3)).block, (ad472.add ((a7).toNat * 3)).off + 2, none⟩ = some (.int .i64 ((rd_T59 l6_1 a7).f2))) (ds := []) #[false, false, false, false, false, false, false, false, false, false, false, false, false] (by kernel_rfl) rfl rfl ⟨(blk_cell BK448.out 0).trans rfl, (blk_cell BK448.out 1).trans rfl, (blk_cell BK364.out 0).trans rfl, (blk_cell BK364.out 1).trans rfl, ((HB.out.cell (World.block_lt_of_cell? w _ hw472_0)).trans hw472_0), ((HB.out.cell (World.block_lt_of_cell? w _ hw472_1)).trans hw472_1), ((HB.out.cell (World.block_lt_of_cell? w _ hw472_2)).trans hw472_2)⟩ (fun hHeld => ?_); refine with_tabW laws_FnStatesHiddenOfAll.tab49 laws_FnStatesHiddenOfAll.bits49 (fun HT_ HW_ => ?_)
          generalize wc.drew = w366 at HO_449001 BK364 BK448 HB hx472_0 hx472_1 hx472_2 hHeld ⊢
          refine pure_ (i := 1) (N := some 411) (v := ?_) (a' := ?_) #[false, true, false, false, false, false, false, false, false, false, false, false, false] rfl rfl (any_of HT_.out (by kernel_rfl)) (fun _ _ _ h => h) (Or.inl ⟨by rfl, ?_⟩) ?_ ?_
          rotate_left
          ·intro w'
           go_simp
           with_reducible rfl
          rotate_left
          ·simp only [Act.put, List.setIfInBounds_toArray, List.set_cons_zero, List.set_cons_succ, i64_w, i32_w]
           rfl
          refine pure_ (i := 3) (N := some 413) (v := ?_) (a' := ?_) #[false, true, false, true, false, false, false, false, false, false, false, false, false] rfl rfl (any_of HT_.out (by kernel_rfl)) (fun _ _ _ h => h) (Or.inl ⟨by rfl, ?_⟩) ?_ ?_
          rotate_left
          ·intro w'
           go_simp
           with_reducible rfl
          rotate_left
          ·simp only [Act.put, List.setIfInBounds_toArray, List.set_cons_zero, List.set_cons_succ, i64_w, i32_w]
           rfl
          refine take_ (i := 0) (N := some 410) (v := ?_) (a' := ?_) #[true, true, false, true, false, false, false, false, false, false, false, false, false] rfl rfl (take_ofW HT_.out HW_.out (by kernel_rfl)) (fun _ _ _ h => h) (Or.inl ⟨by rfl, ?_⟩) hHeld ?_ ?_
          rotate_left
          ·rintro w' ⟨s0, s1, s2, s3, s4, s5, s6⟩
           go_simp
           with_reducible rfl
          rotate_left
          ·simp only [Act.put, List.setIfInBounds_toArray, List.set_cons_zero, List.set_cons_succ, i64_w, i32_w]
           rfl
          refine take_ (i := 2) (N := some 412) (v := ?_) (a' := ?_) #[true, true, true, true, false, false, false, false, false, false, false, false, false] rfl rfl (take_ofW HT_.out HW_.out (by kernel_rfl)) (fun _ _ _ h => h) (Or.inl ⟨by rfl, ?_⟩) hHeld ?_ ?_
          rotate_left
          ·rintro w' ⟨s0, s1, s2, s3, s4, s5, s6⟩
           go_simp
           with_reducible rfl
          rotate_left
          ·simp only [Act.put, List.setIfInBounds_toArray, List.set_cons_zero, List.set_cons_succ, i64_w, i32_w]
           rfl
          refine pure_ (i := 4) (N := some 414) (v := ?_) (a' := ?_) #[true, true, true, true, true, false, false, false, false, false, false, false, false] rfl rfl (any_of HT_.out (by kernel_rfl)) (fun _ _ _ h => h) (Or.inl ⟨by rfl, ?_⟩) ?_ ?_
          rotate_left
          ·intro w'
           go_simp
           with_reducible rfl
          rotate_left
          ·simp only [Act.put, List.setIfInBounds_toArray, List.set_cons_zero, List.set_cons_succ, i64_w, i32_w]
           rfl
          refine take_ (i := 5) (N := some 415) (v := ?_) (a' := ?_) #[true, true, true, true, true, true, false, false, false, false, false, false, false] rfl rfl (take_ofW HT_.out HW_.out (by kernel_rfl)) (fun _ _ _ h => h) (Or.inl ⟨by rfl, ?_⟩) hHeld ?_ ?_
          rotate_left
          ·rintro w' ⟨s0, s1, s2, s3, s4, s5, s6⟩
           go_simp
           with_reducible rfl
          rotate_left
          ·simp only [Act.put, List.setIfInBounds_toArray, List.set_cons_zero, List.set_cons_succ, i64_w, i32_w]
           rfl
          refine join_ (σ := Value × Nat) 2 #[true, true, true, true, true, true, true, true, true, true, true, false, false] (fun s_ => [(416, .tuple #[.agg #[.int .i64 t473, s_.1], .bool true]), (71, .pointer (some ⟨s_.2, 0, none⟩)), (409, .tuple #[.agg #[.int .i64 t473, s_.1], .bool true]), (417, .agg #[.int .i64 t473, s_.1]), (418, .bool true)]) (fun s_ w' => (w'.cell? ⟨gb448, 0, none⟩ = some (.int .i64 t443) ∧ w'.cell? ⟨gb448, 1, none⟩ = some (.slice Ao282 t444.length co282) ∧ w'.cell? ⟨gb364, 0, none⟩ = some (.int .i64 a6_0) ∧ w'.cell? ⟨gb364, 1, none⟩ = some (.slice (some ad472) l6_1.length c6_1) ∧ w'.cell? (ad472.add ((a7).toNat * 3)) = some (.int .i64 ((rd_T59 l6_1 a7).f0)) ∧ w'.cell? ⟨(ad472.add ((a7).toNat * 3)).block, (ad472.add ((a7).toNat * 3)).off + 1, none⟩ = some (.int .i64 ((rd_T59 l6_1 a7).f1)) ∧ w'.cell? ⟨(ad472.add ((a7).toNat * 3)).block, (ad472.add ((a7).toNat * 3)).off + 2, none⟩ = some (.int .i64 ((rd_T59 l6_1 a7).f2))) ∧ (Kd.R k59 59 w' w.heap.size (fun k_ => some k_ ≠ (.slice Ao282 t444.length co282 : Value).ownBlock) s_.1 t474) ∧ (Kd.R k59 59 w' w.heap.size (fun k_ => some k_ ≠ (s_.1 : Value).ownBlock) (.slice Ao282 t444.length co282) t444) ∧ (w'.heap[gb364]? = some (.cells #[.int .i64 a6_0, .slice (some ad472) l6_1.length c6_1] 57 (0, 0))) ∧ (w'.heap[gb448]? = some (.cells #[.int .i64 t443, .slice Ao282 t444.length co282] 57 (0, 0))) ∧ (w'.heap[s_.2]? = some (.cells #[.int .i64 0, .slice none 0 0] 57 (0, 0))) ∧ (w.heap.size ≤ s_.2) ∧ (w.heap.size ≤ s_.2) ∧ (gb364 ≠ s_.2) ∧ (s_.2 ≠ gb364) ∧ (gb448 ≠ s_.2) ∧ (s_.2 ≠ gb448) ∧ (Below w.heap.size w w')) ?_ ?_
          rotate_left
          ·intro hCont
           refine two_ (i := 6) (j := 10) (Ni := some 416) (Nj := some 71) #[true, true, true, true, true, true, true, false, false, false, false, false, false] #[true, true, true, true, true, true, false, false, false, false, true, false, false] rfl rfl rfl rfl (two_of HT_.out (by kernel_rfl)) (by decide) (by decide) (fun K hK => ?_) (fun K hK => ?_)
           ·skip
            refine goes_ Tryd.func61 (by kernel_rfl) rfl #[.agg #[.int .i64 t443, .slice Ao282 t444.length co282], .agg #[.int .i64 ((rd_T59 l6_1 a7).f0), .int .i64 ((rd_T59 l6_1 a7).f1), .int .i64 ((rd_T59 l6_1 a7).f2)]] (by rfl) rfl rfl (by (try simp only [List.map_toArray, List.map_cons, List.map_nil]); first | done | rfl | (simp only [List.length_drop, List.length_take]; rfl)) ?_
            with_reducible refine (impl_AddClue.calls kj355 t443 _ _ t444 ((rd_T59 l6_1 a7).f0) ((rd_T59 l6_1 a7).f1) ((rd_T59 l6_1 a7).f2) t473 t474 true _ ?side1 ?side2 A363.out).mono ?_
            (case side1 => exact cU (Kd.R_reads' HO_449001.out).2.2)
            (case side2 => exact (Kd.R_reads' HO_449001.out).2.1)
            rintro e w367 ⟨v475, rfl, ho0, hb⟩
            refine ⟨_, rfl, ?_⟩
            have n0_ := aM (Kd.R_elder' (rU HO_449001.out) (Kd.R_base ho0) hb)
            have n1_ := aM (Kd.R_lower (Kd.R_new' ho0 (Kd.R_lt (rU HO_449001.out))) (below_size (bel HB)))
            have n2_ := bB BK364 hb
            have n3_ := bB BK448 hb
            have n4_ := hS HB hb
            clear HO_449001
            clear BK364
            clear BK448
            clear HB
            have HO_449001 := n0_
            have HO476 := n1_
            have BK364 := n2_
            have BK448 := n3_
            have HB := n4_
            clear n0_ n1_ n2_ n3_ n4_
            (try clear hb)
            (try clear hb2)
            (try clear hk)
            (try clear hi)
            (try clear ho0)
            refine hK.out _ _ ⟨(blk_cell BK448.out 0).trans rfl, (blk_cell BK448.out 1).trans rfl, (blk_cell BK364.out 0).trans rfl, (blk_cell BK364.out 1).trans rfl, ((HB.out.cell (World.block_lt_of_cell? w _ hw472_0)).trans hw472_0), ((HB.out.cell (World.block_lt_of_cell? w _ hw472_1)).trans hw472_1), ((HB.out.cell (World.block_lt_of_cell? w _ hw472_2)).trans hw472_2)⟩ (fun hHeld => ?_)
            clear hK K
            refine norm_ (a' := ?_) ?_ ?_
            rotate_left
            ·show Act.put _ (some 416) _ = _
             simp only [Act.put, List.setIfInBounds_toArray, List.set_cons_zero, List.set_cons_succ, i64_w, i32_w]
             rfl
            refine pure_ (i := 7) (N := some 409) (v := ?_) (a' := ?_) #[true, true, true, true, true, true, true, true, false, false, false, false, false] rfl rfl (any_of HT_.out (by kernel_rfl)) (fun _ _ _ h => h) (Or.inl ⟨by rfl, ?_⟩) ?_ ?_
            rotate_left
            ·intro w'
             go_simp
             with_reducible rfl
            rotate_left
            ·simp only [Act.put, List.setIfInBounds_toArray, List.set_cons_zero, List.set_cons_succ, i64_w, i32_w]
             rfl
            refine pure_ (i := 8) (N := some 417) (v := ?_) (a' := ?_) #[true, true, true, true, true, true, true, true, true, false, false, false, false] rfl rfl (any_of HT_.out (by kernel_rfl)) (fun _ _ _ h => h) (Or.inl ⟨by rfl, ?_⟩) ?_ ?_
            rotate_left
            ·intro w'
             go_simp
             with_reducible rfl
            rotate_left
            ·simp only [Act.put, List.setIfInBounds_toArray, List.set_cons_zero, List.set_cons_succ, i64_w, i32_w]
             rfl
            refine pure_ (i := 9) (N := some 418) (v := ?_) (a' := ?_) #[true, true, true, true, true, true, true, true, true, true, false, false, false] rfl rfl (any_of HT_.out (by kernel_rfl)) (fun _ _ _ h => h) (Or.inl ⟨by rfl, ?_⟩) ?_ ?_
            rotate_left
            ·intro w'
             go_simp
             with_reducible rfl
            rotate_left
            ·simp only [Act.put, List.setIfInBounds_toArray, List.set_cons_zero, List.set_cons_succ, i64_w, i32_w]
             rfl
            refine one_ (i := 10) (N := some 71) #[true, true, true, true, true, true, true, true, true, true, true, false, false] rfl rfl (one_of HT_.out (by kernel_rfl)) (by decide) (fun K hK => ?_)
            refine box_step ?hg (N := 71) ?hd (cs := #[.int .i64 0, .slice none 0 0]) (t := 57) ?hr ?_; (case hd => rfl); (case hg => rfl); (case hr => first | (go_simp; done) | (go_simp; rfl))
            intro gb478 hg w368 hbox hb
            have n0_ := rB HO_449001 hb
            have n1_ := rB HO476 hb
            have n2_ := bB BK364 hb
            have n3_ := bB BK448 hb
            have n4_ := hS HB hb
            have n5_ := aM hbox
            have n6_ := gE hg HB
            have n7_ := gE hg HB
            have n8_ := nbL hg BK364
            have n9_ := nbR hg BK364
            have n10_ := nbL hg BK448
            have n11_ := nbR hg BK448
            clear HO_449001
            clear HO476
            clear BK364
            clear BK448
            clear HB
            have HO_449001 := n0_
            have HO476 := n1_
            have BK364 := n2_
            have BK448 := n3_
            have HB := n4_
            have BK478 := n5_
            have GW478 := n6_
            have GE478 := n7_
            have NB364_478 := n8_
            have NB478_364 := n9_
            have NB448_478 := n10_
            have NB478_448 := n11_
            clear n0_ n1_ n2_ n3_ n4_ n5_ n6_ n7_ n8_ n9_ n10_ n11_
            clear hb hbox hg
            refine hK.out _ _ ⟨(blk_cell BK448.out 0).trans rfl, (blk_cell BK448.out 1).trans rfl, (blk_cell BK364.out 0).trans rfl, (blk_cell BK364.out 1).trans rfl, ((HB.out.cell (World.block_lt_of_cell? w _ hw472_0)).trans hw472_0), ((HB.out.cell (World.block_lt_of_cell? w _ hw472_1)).trans hw472_1), ((HB.out.cell (World.block_lt_of_cell? w _ hw472_2)).trans hw472_2)⟩ (fun hHeld => ?_)
            clear hK K
            refine norm_ (a' := ?_) ?_ ?_
            rotate_left
            ·show Act.put _ (some 71) _ = _
             simp only [Act.put, List.setIfInBounds_toArray, List.set_cons_zero, List.set_cons_succ, i64_w, i32_w]
             rfl
            exact norm_ (by simp only [putAll, Act.put, List.setIfInBounds_toArray, List.set_cons_zero, List.set_cons_succ]) (hCont (v475, gb478) _ ⟨hHeld, (rU (Kd.R_mono HO476.out (fun _ hk => hk.2))), (rU (Kd.R_mono HO_449001.out (fun _ hk => hk.2))), (bU BK364.out), (bU BK448.out), (bU BK478.out), GW478.out, GE478.out, NB364_478.out, NB478_364.out, NB448_478.out, NB478_448.out, (bel HB)⟩)
           skip
           refine box_step ?hg (N := 71) ?hd (cs := #[.int .i64 0, .slice none 0 0]) (t := 57) ?hr ?_; (case hd => rfl); (case hg => rfl); (case hr => first | (go_simp; done) | (go_simp; rfl))
           intro gb478 hg w367 hbox hb
           have n0_ := rB HO_449001 hb
           have n1_ := bB BK364 hb
           have n2_ := bB BK448 hb
           have n3_ := hS HB hb
           have n4_ := aM hbox
           have n5_ := gE hg HB
           have n6_ := gE hg HB
           have n7_ := nbL hg BK364
           have n8_ := nbR hg BK364
           have n9_ := nbL hg BK448
           have n10_ := nbR hg BK448
           clear HO_449001
           clear BK364
           clear BK448
           clear HB
           have HO_449001 := n0_
           have BK364 := n1_
           have BK448 := n2_
           have HB := n3_
           have BK478 := n4_
           have GW478 := n5_
           have GE478 := n6_
           have NB364_478 := n7_
           have NB478_364 := n8_
           have NB448_478 := n9_
           have NB478_448 := n10_
           clear n0_ n1_ n2_ n3_ n4_ n5_ n6_ n7_ n8_ n9_ n10_
           clear hb hbox hg
           refine hK.out _ _ ⟨(blk_cell BK448.out 0).trans rfl, (blk_cell BK448.out 1).trans rfl, (blk_cell BK364.out 0).trans rfl, (blk_cell BK364.out 1).trans rfl, ((HB.out.cell (World.block_lt_of_cell? w _ hw472_0)).trans hw472_0), ((HB.out.cell (World.block_lt_of_cell? w _ hw472_1)).trans hw472_1), ((HB.out.cell (World.block_lt_of_cell? w _ hw472_2)).trans hw472_2)⟩ (fun hHeld => ?_)
           clear hK K
           refine norm_ (a' := ?_) ?_ ?_
           rotate_left
           ·show Act.put _ (some 71) _ = _
            simp only [Act.put, List.setIfInBounds_toArray, List.set_cons_zero, List.set_cons_succ, i64_w, i32_w]
            rfl
           refine one_ (i := 6) (N := some 416) #[true, true, true, true, true, true, true, false, false, false, true, false, false] rfl rfl (one_of HT_.out (by kernel_rfl)) (by decide) (fun K hK => ?_)
           refine goes_ Tryd.func61 (by kernel_rfl) rfl #[.agg #[.int .i64 t443, .slice Ao282 t444.length co282], .agg #[.int .i64 ((rd_T59 l6_1 a7).f0), .int .i64 ((rd_T59 l6_1 a7).f1), .int .i64 ((rd_T59 l6_1 a7).f2)]] (by rfl) rfl rfl (by (try simp only [List.map_toArray, List.map_cons, List.map_nil]); first | done | rfl | (simp only [List.length_drop, List.length_take]; rfl)) ?_
           with_reducible refine (impl_AddClue.calls kj355 t443 _ _ t444 ((rd_T59 l6_1 a7).f0) ((rd_T59 l6_1 a7).f1) ((rd_T59 l6_1 a7).f2) t473 t474 true _ ?side1 ?side2 A363.out).mono ?_
           (case side1 => exact cU (Kd.R_reads' HO_449001.out).2.2)
           (case side2 => exact (Kd.R_reads' HO_449001.out).2.1)
           rintro e w368 ⟨v475, rfl, ho0, hb⟩
           refine ⟨_, rfl, ?_⟩
           have n0_ := aM (Kd.R_elder' (rU HO_449001.out) (Kd.R_base ho0) hb)
           have n1_ := aM (Kd.R_lower (Kd.R_new' ho0 (Kd.R_lt (rU HO_449001.out))) (below_size (bel HB)))
           have n2_ := bB BK364 hb
           have n3_ := bB BK448 hb
           have n4_ := bB BK478 hb
           have n5_ := hS HB hb
           clear HO_449001
           clear BK364
           clear BK448
           clear BK478
           clear HB
           have HO_449001 := n0_
           have HO476 := n1_
           have BK364 := n2_
           have BK448 := n3_
           have BK478 := n4_
           have HB := n5_
           clear n0_ n1_ n2_ n3_ n4_ n5_
           (try clear hb)
           (try clear hb2)
           (try clear hk)
           (try clear hi)
           (try clear ho0)
           refine hK.out _ _ ⟨(blk_cell BK448.out 0).trans rfl, (blk_cell BK448.out 1).trans rfl, (blk_cell BK364.out 0).trans rfl, (blk_cell BK364.out 1).trans rfl, ((HB.out.cell (World.block_lt_of_cell? w _ hw472_0)).trans hw472_0), ((HB.out.cell (World.block_lt_of_cell? w _ hw472_1)).trans hw472_1), ((HB.out.cell (World.block_lt_of_cell? w _ hw472_2)).trans hw472_2)⟩ (fun hHeld => ?_)
           clear hK K
           refine norm_ (a' := ?_) ?_ ?_
           rotate_left
           ·show Act.put _ (some 416) _ = _
            simp only [Act.put, List.setIfInBounds_toArray, List.set_cons_zero, List.set_cons_succ, i64_w, i32_w]
            rfl
           refine pure_ (i := 7) (N := some 409) (v := ?_) (a' := ?_) #[true, true, true, true, true, true, true, true, false, false, true, false, false] rfl rfl (any_of HT_.out (by kernel_rfl)) (fun _ _ _ h => h) (Or.inl ⟨by rfl, ?_⟩) ?_ ?_
           rotate_left
           ·intro w'
            go_simp
            with_reducible rfl
           rotate_left
           ·simp only [Act.put, List.setIfInBounds_toArray, List.set_cons_zero, List.set_cons_succ, i64_w, i32_w]
            rfl
           refine pure_ (i := 8) (N := some 417) (v := ?_) (a' := ?_) #[true, true, true, true, true, true, true, true, true, false, true, false, false] rfl rfl (any_of HT_.out (by kernel_rfl)) (fun _ _ _ h => h) (Or.inl ⟨by rfl, ?_⟩) ?_ ?_
           rotate_left
           ·intro w'
            go_simp
            with_reducible rfl
           rotate_left
           ·simp only [Act.put, List.setIfInBounds_toArray, List.set_cons_zero, List.set_cons_succ, i64_w, i32_w]
            rfl
           refine pure_ (i := 9) (N := some 418) (v := ?_) (a' := ?_) #[true, true, true, true, true, true, true, true, true, true, true, false, false] rfl rfl (any_of HT_.out (by kernel_rfl)) (fun _ _ _ h => h) (Or.inl ⟨by rfl, ?_⟩) ?_ ?_
           rotate_left
           ·intro w'
            go_simp
            with_reducible rfl
           rotate_left
           ·simp only [Act.put, List.setIfInBounds_toArray, List.set_cons_zero, List.set_cons_succ, i64_w, i32_w]
            rfl
           exact norm_ (by simp only [putAll, Act.put, List.setIfInBounds_toArray, List.set_cons_zero, List.set_cons_succ]) (hCont (v475, gb478) _ ⟨hHeld, (rU (Kd.R_mono HO476.out (fun _ hk => hk.2))), (rU (Kd.R_mono HO_449001.out (fun _ hk => hk.2))), (bU BK364.out), (bU BK448.out), (bU BK478.out), GW478.out, GE478.out, NB364_478.out, NB478_364.out, NB448_478.out, NB478_448.out, (bel HB)⟩)
          rintro ⟨v475, gb478⟩ w369 ⟨hS_, h0_, h1_, h2_, h3_, h4_, h5_, h6_, h7_, h8_, h9_, h10_, h11_⟩
          have n0_ : Aside0 (Kd.R k59 59 w369 w.heap.size (fun k_ => some k_ ≠ (.slice Ao282 t444.length co282 : Value).ownBlock) v475 t474) := ⟨h0_⟩
          have n1_ : Aside0 (Kd.R k59 59 w369 w.heap.size (fun k_ => some k_ ≠ (v475 : Value).ownBlock) (.slice Ao282 t444.length co282) t444) := ⟨h1_⟩
          have n2_ : Aside0 (w369.heap[gb364]? = some (.cells #[.int .i64 a6_0, .slice (some ad472) l6_1.length c6_1] 57 (0, 0))) := ⟨h2_⟩
          have n3_ : Aside0 (w369.heap[gb448]? = some (.cells #[.int .i64 t443, .slice Ao282 t444.length co282] 57 (0, 0))) := ⟨h3_⟩
          have n4_ : Aside0 (w369.heap[gb478]? = some (.cells #[.int .i64 0, .slice none 0 0] 57 (0, 0))) := ⟨h4_⟩
          have n5_ : Ge w gb478 := ⟨h5_⟩
          have n6_ : Ge w gb478 := ⟨h6_⟩
          have n7_ : Ap gb364 gb478 := ⟨h7_⟩
          have n8_ : Ap gb478 gb364 := ⟨h8_⟩
          have n9_ : Ap gb448 gb478 := ⟨h9_⟩
          have n10_ : Ap gb478 gb448 := ⟨h10_⟩
          have n11_ : Aside0 (Below w.heap.size w w369) := ⟨h11_⟩
          clear HO_449001
          clear BK364
          clear BK448
          clear HB
          clear h0_ h1_ h2_ h3_ h4_ h5_ h6_ h7_ h8_ h9_ h10_ h11_
          have HO476 := n0_
          have HO_449001 := n1_
          have BK364 := n2_
          have BK448 := n3_
          have BK478 := n4_
          have GW478 := n5_
          have GE478 := n6_
          have NB364_478 := n7_
          have NB478_364 := n8_
          have NB448_478 := n9_
          have NB478_448 := n10_
          have HB := n11_
          clear n0_ n1_ n2_ n3_ n4_ n5_ n6_ n7_ n8_ n9_ n10_ n11_
          have hHeld : w369.cell? ⟨gb448, 0, none⟩ = some (.int .i64 t443) ∧ w369.cell? ⟨gb448, 1, none⟩ = some (.slice Ao282 t444.length co282) ∧ w369.cell? ⟨gb364, 0, none⟩ = some (.int .i64 a6_0) ∧ w369.cell? ⟨gb364, 1, none⟩ = some (.slice (some ad472) l6_1.length c6_1) ∧ w369.cell? (ad472.add ((a7).toNat * 3)) = some (.int .i64 ((rd_T59 l6_1 a7).f0)) ∧ w369.cell? ⟨(ad472.add ((a7).toNat * 3)).block, (ad472.add ((a7).toNat * 3)).off + 1, none⟩ = some (.int .i64 ((rd_T59 l6_1 a7).f1)) ∧ w369.cell? ⟨(ad472.add ((a7).toNat * 3)).block, (ad472.add ((a7).toNat * 3)).off + 2, none⟩ = some (.int .i64 ((rd_T59 l6_1 a7).f2)) := hS_
          obtain ⟨Ao371, co371, eo371⟩ := Kd.R_slice HO476.out
          (first | subst eo371 | (injection eo371 with f1_ f2_ f3_; have f4_ := f1_.symm; have f5_ := f3_.symm; clear f1_ f2_ f3_; subst f4_; subst f5_))
          refine norm_ (a' := ?_) ?_ ?_
          rotate_left
          ·simp only [putAll, Act.put, List.setIfInBounds_toArray, List.set_cons_zero, List.set_cons_succ]
           rfl
          refine one_ (i := 11) (N := none) #[true, true, true, true, true, true, true, true, true, true, true, true, false] rfl rfl (one_of HT_.out (by kernel_rfl)) (by decide) (fun K hK => ?_)
          have hs370 : w369.cell? ⟨gb478, 0, none⟩ = some (.int .i64 0) := (blk_cell BK478.out 0).trans rfl
          have hfs370 := blk_frozen BK478.out 0
          have hns370_0 := NB364_478.out
          have hns370_1 := NB448_478.out
          have hms370_0 := NB478_364.out
          have hms370_1 := NB478_448.out
          have hs372 : w369.cell? ⟨gb478, 1, none⟩ = some (.slice none 0 0) := (blk_cell BK478.out 1).trans rfl
          have hfs372 := blk_frozen BK478.out 1
          have hns372_0 := NB364_478.out
          have hns372_1 := NB448_478.out
          have hms372_0 := NB478_364.out
          have hms372_1 := NB478_448.out
          refine skip_ (w1 := ?_) (by rfl) rfl ?_ ?_
          rotate_left
          ·go_simp
           rfl
          refine hK.out _ _ ⟨((cell_far (p := ⟨gb478, _, none⟩) NB448_478.out _).trans (((cell_far (p := ⟨gb478, _, none⟩) NB448_478.out _).trans (hHeld.1)))), ((cell_far (p := ⟨gb478, _, none⟩) NB448_478.out _).trans (((cell_far (p := ⟨gb478, _, none⟩) NB448_478.out _).trans (hHeld.2.1)))), ((cell_far (p := ⟨gb478, _, none⟩) NB364_478.out _).trans (((cell_far (p := ⟨gb478, _, none⟩) NB364_478.out _).trans (hHeld.2.2.1)))), ((cell_far (p := ⟨gb478, _, none⟩) NB364_478.out _).trans (((cell_far (p := ⟨gb478, _, none⟩) NB364_478.out _).trans (hHeld.2.2.2.1)))), ((cell_far (p := ⟨gb478, _, none⟩) (by first | exact Nat.ne_of_lt (Nat.lt_of_lt_of_le (by have := World.block_lt_of_cell? _ _ hw472_0; first | rwa [add_block] at this | exact this) GW478.out) | (rw [add_block]; exact Nat.ne_of_lt (Nat.lt_of_lt_of_le (by have := World.block_lt_of_cell? _ _ hw472_0; first | rwa [add_block] at this | exact this) GW478.out)) | (show (Addr.add _ _).block ≠ _; rw [add_block]; exact Nat.ne_of_lt (Nat.lt_of_lt_of_le (by have := World.block_lt_of_cell? _ _ hw472_0; first | rwa [add_block] at this | exact this) GW478.out)) | (dsimp only; exact Nat.ne_of_lt (Nat.lt_of_lt_of_le (by have := World.block_lt_of_cell? _ _ hw472_0; first | rwa [add_block] at this | exact this) GW478.out))) _).trans (((cell_far (p := ⟨gb478, _, none⟩) (by first | exact Nat.ne_of_lt (Nat.lt_of_lt_of_le (by have := World.block_lt_of_cell? _ _ hw472_0; first | rwa [add_block] at this | exact this) GW478.out) | (rw [add_block]; exact Nat.ne_of_lt (Nat.lt_of_lt_of_le (by have := World.block_lt_of_cell? _ _ hw472_0; first | rwa [add_block] at this | exact this) GW478.out)) | (show (Addr.add _ _).block ≠ _; rw [add_block]; exact Nat.ne_of_lt (Nat.lt_of_lt_of_le (by have := World.block_lt_of_cell? _ _ hw472_0; first | rwa [add_block] at this | exact this) GW478.out)) | (dsimp only; exact Nat.ne_of_lt (Nat.lt_of_lt_of_le (by have := World.block_lt_of_cell? _ _ hw472_0; first | rwa [add_block] at this | exact this) GW478.out))) _).trans (hHeld.2.2.2.2.1)))), ((cell_far (p := ⟨gb478, _, none⟩) (by first | exact Nat.ne_of_lt (Nat.lt_of_lt_of_le (by have := World.block_lt_of_cell? _ _ hw472_1; first | rwa [add_block] at this | exact this) GW478.out) | (rw [add_block]; exact Nat.ne_of_lt (Nat.lt_of_lt_of_le (by have := World.block_lt_of_cell? _ _ hw472_1; first | rwa [add_block] at this | exact this) GW478.out)) | (show (Addr.add _ _).block ≠ _; rw [add_block]; exact Nat.ne_of_lt (Nat.lt_of_lt_of_le (by have := World.block_lt_of_cell? _ _ hw472_1; first | rwa [add_block] at this | exact this) GW478.out)) | (dsimp only; exact Nat.ne_of_lt (Nat.lt_of_lt_of_le (by have := World.block_lt_of_cell? _ _ hw472_1; first | rwa [add_block] at this | exact this) GW478.out))) _).trans (((cell_far (p := ⟨gb478, _, none⟩) (by first | exact Nat.ne_of_lt (Nat.lt_of_lt_of_le (by have := World.block_lt_of_cell? _ _ hw472_1; first | rwa [add_block] at this | exact this) GW478.out) | (rw [add_block]; exact Nat.ne_of_lt (Nat.lt_of_lt_of_le (by have := World.block_lt_of_cell? _ _ hw472_1; first | rwa [add_block] at this | exact this) GW478.out)) | (show (Addr.add _ _).block ≠ _; rw [add_block]; exact Nat.ne_of_lt (Nat.lt_of_lt_of_le (by have := World.block_lt_of_cell? _ _ hw472_1; first | rwa [add_block] at this | exact this) GW478.out)) | (dsimp only; exact Nat.ne_of_lt (Nat.lt_of_lt_of_le (by have := World.block_lt_of_cell? _ _ hw472_1; first | rwa [add_block] at this | exact this) GW478.out))) _).trans (hHeld.2.2.2.2.2.1)))), ((cell_far (p := ⟨gb478, _, none⟩) (by first | exact Nat.ne_of_lt (Nat.lt_of_lt_of_le (by have := World.block_lt_of_cell? _ _ hw472_2; first | rwa [add_block] at this | exact this) GW478.out) | (rw [add_block]; exact Nat.ne_of_lt (Nat.lt_of_lt_of_le (by have := World.block_lt_of_cell? _ _ hw472_2; first | rwa [add_block] at this | exact this) GW478.out)) | (show (Addr.add _ _).block ≠ _; rw [add_block]; exact Nat.ne_of_lt (Nat.lt_of_lt_of_le (by have := World.block_lt_of_cell? _ _ hw472_2; first | rwa [add_block] at this | exact this) GW478.out)) | (dsimp only; exact Nat.ne_of_lt (Nat.lt_of_lt_of_le (by have := World.block_lt_of_cell? _ _ hw472_2; first | rwa [add_block] at this | exact this) GW478.out))) _).trans (((cell_far (p := ⟨gb478, _, none⟩) (by first | exact Nat.ne_of_lt (Nat.lt_of_lt_of_le (by have := World.block_lt_of_cell? _ _ hw472_2; first | rwa [add_block] at this | exact this) GW478.out) | (rw [add_block]; exact Nat.ne_of_lt (Nat.lt_of_lt_of_le (by have := World.block_lt_of_cell? _ _ hw472_2; first | rwa [add_block] at this | exact this) GW478.out)) | (show (Addr.add _ _).block ≠ _; rw [add_block]; exact Nat.ne_of_lt (Nat.lt_of_lt_of_le (by have := World.block_lt_of_cell? _ _ hw472_2; first | rwa [add_block] at this | exact this) GW478.out)) | (dsimp only; exact Nat.ne_of_lt (Nat.lt_of_lt_of_le (by have := World.block_lt_of_cell? _ _ hw472_2; first | rwa [add_block] at this | exact this) GW478.out))) _).trans (hHeld.2.2.2.2.2.2))))⟩ (fun hHeld => ?_)
          clear hK K
          refine pure_ (i := 12) (N := some 72) (v := ?_) (a' := ?_) #[true, true, true, true, true, true, true, true, true, true, true, true, true] rfl rfl (any_of HT_.out (by kernel_rfl)) (fun _ _ _ h => h) (Or.inl ⟨by rfl, ?_⟩) ?_ ?_
          rotate_left
          ·intro w'
           go_simp
           with_reducible rfl
          rotate_left
          ·simp only [Act.put, List.setIfInBounds_toArray, List.set_cons_zero, List.set_cons_succ, i64_w, i32_w]
           rfl
          refine done_ (done_of HT_.out (by kernel_rfl)) ?_
          have hnb373 := NB478_364.out
          have hnc373 := NB364_478.out
          have hnb374 := NB478_448.out
          have hnc374 := NB448_478.out
          obtain ⟨hcz375_0, hcz375_1, hfz375_0, hfz375_1⟩ := hC2 BK478
          have hnb376 := NB364_448.out
          have hnc376 := NB448_364.out
          obtain ⟨hcz377_0, hcz377_1, hfz377_0, hfz377_1⟩ := hC2 BK364
          try go_wp2_with (first | (go_at_call 50; (with_reducible refine (laws_xPuzzle.calls kj355 t473 _ _ t474 a6_0 _ _ l6_1 t479 _ ?side1 ((Kd.R_reads' HO476.out).2.1) (Kd.C_below HR6_1.out (bel HB)) HC6_1.out A365.out).mono ?_); (case side1 => refine (Kd.R_reads' (e := 59) (base := w.heap.size) (ok := fun k_ => some k_ ≠ (.slice Ao282 t444.length co282 : Value).ownBlock) (n := t474.length) (c := co371) ?_).2.2; exact (rU (Kd.R_mono (Kd.R_far (p := ⟨gb478, 1, none⟩) (Kd.R_far (p := ⟨gb478, 0, none⟩) (Kd.R_types HO476.out BK478.out (by decide)) (fun _ hk => hk.2) (.int .i64 t473)) (fun _ hk => hk.2) (.slice Ao371 t474.length co371)) (fun _ h_ => h_.1)))); rintro e w378 ⟨rfl, hb⟩; replace HO_449001 := aM (Kd.R_below (rU (Kd.R_mono (Kd.R_far (p := ⟨gb478, 1, none⟩) (Kd.R_far (p := ⟨gb478, 0, none⟩) (Kd.R_types HO_449001.out BK478.out (by decide)) (fun _ hk => hk.2) (.int .i64 t473)) (fun _ hk => hk.2) (.slice Ao371 t474.length co371)) (fun _ h_ => h_.1))) hb); replace HO476 := aM (Kd.R_below (rU (Kd.R_mono (Kd.R_far (p := ⟨gb478, 1, none⟩) (Kd.R_far (p := ⟨gb478, 0, none⟩) (Kd.R_types HO476.out BK478.out (by decide)) (fun _ hk => hk.2) (.int .i64 t473)) (fun _ hk => hk.2) (.slice Ao371 t474.length co371)) (fun _ h_ => h_.1))) hb); replace BK364 := aM (blk_below (g := gb364) (o := .cells #[.int .i64 a6_0, .slice (some ad472) l6_1.length c6_1] 57 (0, 0)) (by (with_reducible repeat (first | refine blk_drewN ?_ _ | refine blk_drew ?_ | refine blk_alloc ?_ _)); refine blk_far ?_ NB364_478.out _; (with_reducible repeat (first | refine blk_drewN ?_ _ | refine blk_drew ?_ | refine blk_alloc ?_ _)); refine blk_far ?_ NB364_478.out _; (with_reducible repeat (first | refine blk_drewN ?_ _ | refine blk_drew ?_ | refine blk_alloc ?_ _)); exact BK364.out) hb); replace BK448 := aM (blk_below (g := gb448) (o := .cells #[.int .i64 t443, .slice Ao282 t444.length co282] 57 (0, 0)) (by (with_reducible repeat (first | refine blk_drewN ?_ _ | refine blk_drew ?_ | refine blk_alloc ?_ _)); refine blk_far ?_ NB448_478.out _; (with_reducible repeat (first | refine blk_drewN ?_ _ | refine blk_drew ?_ | refine blk_alloc ?_ _)); refine blk_far ?_ NB448_478.out _; (with_reducible repeat (first | refine blk_drewN ?_ _ | refine blk_drew ?_ | refine blk_alloc ?_ _)); exact BK448.out) hb); replace BK478 := aM (blk_below (g := gb478) (o := .cells #[.int .i64 t473, .slice Ao371 t474.length co371] 57 (0, 0)) (by (with_reducible repeat (first | refine blk_drewN ?_ _ | refine blk_drew ?_ | refine blk_alloc ?_ _)); refine blk_put (cs := #[.int .i64 t473, .slice none 0 0]) ?_ 1 _ rfl; (with_reducible repeat (first | refine blk_drewN ?_ _ | refine blk_drew ?_ | refine blk_alloc ?_ _)); refine blk_put (cs := #[.int .i64 0, .slice none 0 0]) ?_ 0 _ rfl; (with_reducible repeat (first | refine blk_drewN ?_ _ | refine blk_drew ?_ | refine blk_alloc ?_ _)); exact BK478.out) hb); replace HB := hS HB hb; clear hb))
          go_ret
          exact ⟨eW, bel HB⟩
         obtain rfl := Option.some.inj H
         go_wp2
         go_ret
         exact ⟨eW, bel HB⟩

end Go.Proofs.YtcogjabdddikjaaDoor.PHidAll
