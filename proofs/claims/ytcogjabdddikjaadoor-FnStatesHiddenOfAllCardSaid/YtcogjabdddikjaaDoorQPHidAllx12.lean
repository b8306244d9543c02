-- squeezed (sq3.py); PRINTED by drive.py (a program of this session's, over the kit's print.py; wip/tools/drive.py). Lean checks it.
import Derived.Test.YtcogjabdddikjaaDoorQPHidAllx0
import Derived.Test.YtcogjabdddikjaaDoorQPHidAllx9
import Derived.Test.YtcogjabdddikjaaDoorQPHidAllx10
import Derived.Test.YtcogjabdddikjaaDoorQPHidAllx11
import Derived.Test.YtcogjabdddikjaaDoorQSq
namespace Go.Proofs.YtcogjabdddikjaaDoor.PHidAll
open Go.RowKit Go.Proofs.YtcogjabdddikjaaDoorW.PrintWords Go.Proofs.YtcogjabdddikjaaDoorW.PrintLast Go.Proofs.YtcogjabdddikjaaDoorW.PrintMore
attribute [local go_sem] max2_int min2_int max_two min_two max_three min_three max_four min_four   -- for this text's walks alone
set_option linter.unusedVariables false
set_option linter.unusedSimpArgs false

/-! ### spec_pzGood: function 124 -/
mutual
def spec_pzGood.j0 : Nat → Bool → Int → List (S59) → Option (Bool)
 | 0, _, _, _ => none
 | k + 1, x14, x253000, x253001 => if x14 = true then (some false) else (spec_pzGood.l0 k x253001 (x253001.length : Int) 0 x253000 x253001)
def spec_pzGood.l0 : Nat → List (S59) → Int → Int → Int → List (S59) → Option (Bool)
 | 0, _, _, _, _, _ => none
 | k + 1, x16, x17, x18, x253000, x253001 => if x18 < x17 then (if 0 ≤ x18 then (if x18 < (x16.length : Int) then ((spec_pzClue.f k x253000 ((rd_T59 x16 x18).f0) ((rd_T59 x16 x18).f1) ((rd_T59 x16 x18).f2)).bind fun t256 => (if t256 = true then (spec_pzGood.l0 k x16 x17 (wrap64 (x18 + 1)) x253000 x253001) else (some false))) else (none)) else (none)) else (some true)
end
def spec_pzGood.f (k : Nat) (a0_0 : Int) (l0_1 : List (S59)) : Option (Bool) := (spec_pzRings.f a0_0).bind fun t253 => (if t253 = true then (spec_pzGood.j0 k (decide ((l0_1.length : Int) > 6)) a0_0 l0_1) else (spec_pzGood.j0 k true a0_0 l0_1))
theorem spec_pzGood.mono_l : ∀ k, Mo (spec_pzGood.j0 k) (spec_pzGood.j0 (k + 1)) ∧ Mo (spec_pzGood.l0 k) (spec_pzGood.l0 (k + 1))
 | 0 => m0
 | k + 1 => by
  have ⟨ih0, ih1⟩ := spec_pzGood.mono_l k
  refine ⟨?_, ?_⟩ <;> (repeat refine mE fun _ => ?_) <;> first | (unfold spec_pzGood.j0; exact mG) | (unfold spec_pzGood.l0; exact mG)
instance spec_pzGood.mI (k : Nat) : Mo (spec_pzGood.f k) (spec_pzGood.f (k + 1)) := by
 have ⟨ih0, ih1⟩ := spec_pzGood.mono_l k
 (repeat refine mE fun _ => ?_); unfold spec_pzGood.f; exact mG
theorem spec_pzGood.mono : ∀ a0 a1 k, LeO (spec_pzGood.f k a0 a1) (spec_pzGood.f (k + 1) a0 a1) := fun a0 a1 k => (spec_pzGood.mI k).out a0 a1
set_option maxHeartbeats 8000000 in
set_option maxRecDepth 100000 in
theorem spec_pzGood.calls (k : Nat) (a0_0 : Int) (A0_1 : Option Addr) (c0_1 : Nat) (l0_1 : List (S59)) (r : Bool) (w : World) (hr0_1 : Kd.C k59 w A0_1 l0_1.length l0_1) (hc0_1 : l0_1.length ≤ c0_1) (h : spec_pzGood.f k a0_0 l0_1 = some r) :
  Calls Tryd.prog 124 #[.agg #[.int .i64 a0_0, .slice A0_1 l0_1.length c0_1]] w fun e w' => e = .returned (.bool r) ∧ Below w.heap.size w w' := by
 have hu57 := Tryd.underlying57
 have hu59 := Tryd.underlying59
 have HR0_1 := aM hr0_1
 have HC0_1 := aM hc0_1
 clear hr0_1 hc0_1
 have HB := aM (Below.refl w.heap.size w)
 have H := h
 clear h; unfold spec_pzGood.f at H
 have HC2 := aM H
 clear H
 go_enter Tryd.func124, Tryd.ntmps124
 go_upto_region 1 with (first | ((with_reducible refine gate_dst (N := 1) rfl ?_); (try (refine gate_guard (by rfl) ?_; dsimp only)); refine bX (N := 1) rfl (cs := #[.int .i64 a0_0, .slice A0_1 l0_1.length c0_1]) (t := 57) ?_; intro gb252 hg w3 BK252 hb; have GW252 := gE hg HB; have GE252 := gE hg HB; replace HB := hS HB hb; clear hb hg))
 (try simp only [Act.put, List.setIfInBounds_toArray, List.set_cons_zero, List.set_cons_succ])
 go_cut [14] (fun v14 wc => ∃ (kq : Nat) (x14_1 : Bool), v14 = .bool x14_1 ∧ Aside0 (spec_pzGood.j0 kq x14_1 a0_0 l0_1 = some r) ∧ Aside0 (kq ≤ k) ∧ Aside0 (wc.heap[gb252]? = some (.cells #[.int .i64 a0_0, (.slice A0_1 l0_1.length c0_1)] 57 (0, 0))) ∧ Aside0 (Below w.heap.size w wc))
 case first =>
  have H := HC2.out
  clear HC2
  replace H := bC H; obtain ⟨t253, A4, H⟩ := H
  refine iB H ?_ ?_ <;> clear H <;> rintro rfl H
  ·have H' := aM H
   clear H
   obtain ⟨hcz6_0, hcz6_1, hfz6_0, hfz6_1⟩ := hC2 BK252
   go_wp2_with (first | ((with_reducible refine gG 129 (some 7) rfl rfl ?_); refine gL Tryd.func129 #[.int .i64 a0_0] ?_; (with_reducible refine (spec_pzRings.calls a0_0 true _ A4.out).mono ?_); rintro e w' ⟨rfl, ⟨nd, rfl⟩⟩; refine ⟨_, rfl, ?_⟩))
   go_meet
   case rel => exact ⟨_, (decide ((l0_1.length : Int) > 6)), rF, H', kL, ⟨bU BK252.out⟩, hV HB⟩
  have H' := aM H
  clear H
  obtain ⟨hcz7_0, hcz7_1, hfz7_0, hfz7_1⟩ := hC2 BK252
  go_wp2_with (first | ((with_reducible refine gG 129 (some 7) rfl rfl ?_); refine gL Tryd.func129 #[.int .i64 a0_0] ?_; (with_reducible refine (spec_pzRings.calls a0_0 false _ A4.out).mono ?_); rintro e w' ⟨rfl, ⟨nd, rfl⟩⟩; refine ⟨_, rfl, ?_⟩))
  go_meet
  case rel => exact ⟨_, (true), rF, H', kL, ⟨bU BK252.out⟩, hV HB⟩
 case rest =>
  clear HC2
  obtain ⟨kq, x14_1, rfl, HA, HJ1, BK252, HB⟩ := hcut
  obtain rfl | ⟨kj1, rfl⟩ := fz kq
  ·exact zA HA
  have H := HA.out
  clear HA
  simp only [spec_pzGood.j0] at H
  refine iB H ?_ ?_ <;> clear H <;> rintro rfl H
  ·obtain rfl := Option.some.inj H
   go_wp2
   go_ret
   exact ⟨eW, bel HB⟩
  have H' := aM H
  clear H
  obtain ⟨hcz9_0, hcz9_1, hfz9_0, hfz9_1⟩ := hC2 BK252
  go_wp2
  go_loopg [18] kj1 (fun kq v18 w' => ∃ (x18_2 : Int), v18 = .int .i64 x18_2 ∧ Aside0 (spec_pzGood.l0 kq l0_1 (l0_1.length : Int) x18_2 a0_0 l0_1 = some r) ∧ Aside0 (kq ≤ kj1) ∧ Aside0 (w'.heap[gb252]? = some (.cells #[.int .i64 a0_0, (.slice A0_1 l0_1.length c0_1)] 57 (0, 0))) ∧ Aside0 (Below w.heap.size w w'))
  case atStart => exact ⟨(0), rF, H', kR, ⟨bU BK252.out⟩, hV HB⟩
  case round =>
   clear H'
   try clear hcz9_0;try clear hcz9_1;try clear hfz9_0;try clear hfz9_1
   obtain ⟨x18_2, rfl, HA, HK2, BK252, HB⟩ := hrel
   obtain rfl | ⟨k2, rfl⟩ := fz gk
   ·exact zA HA
   have H := HA.out
   clear HA
   simp only [spec_pzGood.l0] at H
   refine iI H ?_ ?_ <;> clear H <;> intro c10 H
   ·have c10b0 := dT c10
    clear c10
    refine iY H ?_; clear H; intro c11 H
    have c11b0 := dT c11
    clear c11
    refine iY H ?_; clear H; intro c12 H
    have c12b0 := dT c12
    clear c12
    replace H := bC H; obtain ⟨t256, A13, H⟩ := H
    refine iB H ?_ ?_ <;> clear H <;> rintro rfl H
    ·have H' := aM H
     clear H
     have p254 : 0 ≤ (x18_2 : Int) := oD
     have q254 : x18_2 < (l0_1.length : Int) := oD
     obtain ⟨ad254, e254, hx254_0, hx254_1, hx254_2⟩ := at_T59 HR0_1.out x18_2 p254 q254
     cases e254
     replace hx254_0 := (HB.out.cell (World.block_lt_of_cell? w _ hx254_0)).trans hx254_0
     replace hx254_1 := (HB.out.cell (World.block_lt_of_cell? w _ hx254_1)).trans hx254_1
     replace hx254_2 := (HB.out.cell (World.block_lt_of_cell? w _ hx254_2)).trans hx254_2
     replace p254 := eq_true p254
     replace q254 := eq_true q254
     go_wp2_with (first | ((with_reducible refine gate_dst (N := 4) rfl ?_); (try (refine gate_guard (by rfl) ?_; dsimp only)); refine bX (N := 4) rfl (cs := #[.int .i64 0, .int .i64 0, .int .i64 0]) (t := 59) ?_; intro gb255 hg w15 BK255 hb; have GW255 := gE hg HB; have GE255 := gE hg HB; have NB252_255 := nbL hg BK252; have NB255_252 := nbR hg BK252; replace BK252 := bB BK252 hb; replace HB := hS HB hb; clear hb hg; have hnb16 := NB255_252.out; have hnc16 := NB252_255.out; obtain ⟨hcz17_0, hcz17_1, hcz17_2, hfz17_0, hfz17_1, hfz17_2⟩ := hC3 BK255; obtain ⟨hcz18_0, hcz18_1, hfz18_0, hfz18_1⟩ := hC2 BK252) | ((with_reducible refine gG 127 (some 25) rfl rfl ?_); refine gC Tryd.func127 (spec_pzClue.calls k2 a0_0 ((rd_T59 l0_1 x18_2).f0) ((rd_T59 l0_1 x18_2).f1) ((rd_T59 l0_1 x18_2).f2) true _ A13.out) ?_; rintro w19 hb; replace BK252 := aM (blk_below (g := gb252) (o := .cells #[.int .i64 a0_0, .slice (some ad254) l0_1.length c0_1] 57 (0, 0)) (by (with_reducible repeat (first | refine blk_drewN ?_ _ | refine blk_drew ?_ | refine blk_alloc ?_ _)); refine blk_far ?_ NB252_255.out _; (with_reducible repeat (first | refine blk_drewN ?_ _ | refine blk_drew ?_ | refine blk_alloc ?_ _)); refine blk_far ?_ NB252_255.out _; (with_reducible repeat (first | refine blk_drewN ?_ _ | refine blk_drew ?_ | refine blk_alloc ?_ _)); refine blk_far ?_ NB252_255.out _; (with_reducible repeat (first | refine blk_drewN ?_ _ | refine blk_drew ?_ | refine blk_alloc ?_ _)); exact BK252.out) hb); replace BK255 := aM (blk_below (g := gb255) (o := .cells #[.int .i64 ((rd_T59 l0_1 x18_2).f0), .int .i64 ((rd_T59 l0_1 x18_2).f1), .int .i64 ((rd_T59 l0_1 x18_2).f2)] 59 (0, 0)) (by (with_reducible repeat (first | refine blk_drewN ?_ _ | refine blk_drew ?_ | refine blk_alloc ?_ _)); refine blk_put (cs := #[.int .i64 ((rd_T59 l0_1 x18_2).f0), .int .i64 ((rd_T59 l0_1 x18_2).f1), .int .i64 0]) ?_ 2 _ rfl; (with_reducible repeat (first | refine blk_drewN ?_ _ | refine blk_drew ?_ | refine blk_alloc ?_ _)); refine blk_put (cs := #[.int .i64 ((rd_T59 l0_1 x18_2).f0), .int .i64 0, .int .i64 0]) ?_ 1 _ rfl; (with_reducible repeat (first | refine blk_drewN ?_ _ | refine blk_drew ?_ | refine blk_alloc ?_ _)); refine blk_put (cs := #[.int .i64 0, .int .i64 0, .int .i64 0]) ?_ 0 _ rfl; (with_reducible repeat (first | refine blk_drewN ?_ _ | refine blk_drew ?_ | refine blk_alloc ?_ _)); exact BK255.out) hb); replace HB := hS HB hb; clear hb))
     go_roundg k2
     case measure => have := HJ1.out; have := HK2.out; omega
     case rel => exact ⟨(wrap64 (x18_2 + 1)), rF, H', ⟨by have := HJ1.out; have := HK2.out; omega⟩, ⟨bU BK252.out⟩, hV HB⟩
    obtain rfl := Option.some.inj H
    have p254 : 0 ≤ (x18_2 : Int) := oD
    have q254 : x18_2 < (l0_1.length : Int) := oD
    obtain ⟨ad254, e254, hx254_0, hx254_1, hx254_2⟩ := at_T59 HR0_1.out x18_2 p254 q254
    cases e254
    replace hx254_0 := (HB.out.cell (World.block_lt_of_cell? w _ hx254_0)).trans hx254_0
    replace hx254_1 := (HB.out.cell (World.block_lt_of_cell? w _ hx254_1)).trans hx254_1
    replace hx254_2 := (HB.out.cell (World.block_lt_of_cell? w _ hx254_2)).trans hx254_2
    replace p254 := eq_true p254
    replace q254 := eq_true q254
    go_wp2_with (first | ((with_reducible refine gate_dst (N := 4) rfl ?_); (try (refine gate_guard (by rfl) ?_; dsimp only)); refine bX (N := 4) rfl (cs := #[.int .i64 0, .int .i64 0, .int .i64 0]) (t := 59) ?_; intro gb255 hg w20 BK255 hb; have GW255 := gE hg HB; have GE255 := gE hg HB; have NB252_255 := nbL hg BK252; have NB255_252 := nbR hg BK252; replace BK252 := bB BK252 hb; replace HB := hS HB hb; clear hb hg; have hnb21 := NB255_252.out; have hnc21 := NB252_255.out; obtain ⟨hcz22_0, hcz22_1, hcz22_2, hfz22_0, hfz22_1, hfz22_2⟩ := hC3 BK255; obtain ⟨hcz23_0, hcz23_1, hfz23_0, hfz23_1⟩ := hC2 BK252) | ((with_reducible refine gG 127 (some 25) rfl rfl ?_); refine gC Tryd.func127 (spec_pzClue.calls k2 a0_0 ((rd_T59 l0_1 x18_2).f0) ((rd_T59 l0_1 x18_2).f1) ((rd_T59 l0_1 x18_2).f2) false _ A13.out) ?_; rintro w24 hb; replace BK252 := aM (blk_below (g := gb252) (o := .cells #[.int .i64 a0_0, .slice (some ad254) l0_1.length c0_1] 57 (0, 0)) (by (with_reducible repeat (first | refine blk_drewN ?_ _ | refine blk_drew ?_ | refine blk_alloc ?_ _)); refine blk_far ?_ NB252_255.out _; (with_reducible repeat (first | refine blk_drewN ?_ _ | refine blk_drew ?_ | refine blk_alloc ?_ _)); refine blk_far ?_ NB252_255.out _; (with_reducible repeat (first | refine blk_drewN ?_ _ | refine blk_drew ?_ | refine blk_alloc ?_ _)); refine blk_far ?_ NB252_255.out _; (with_reducible repeat (first | refine blk_drewN ?_ _ | refine blk_drew ?_ | refine blk_alloc ?_ _)); exact BK252.out) hb); replace BK255 := aM (blk_below (g := gb255) (o := .cells #[.int .i64 ((rd_T59 l0_1 x18_2).f0), .int .i64 ((rd_T59 l0_1 x18_2).f1), .int .i64 ((rd_T59 l0_1 x18_2).f2)] 59 (0, 0)) (by (with_reducible repeat (first | refine blk_drewN ?_ _ | refine blk_drew ?_ | refine blk_alloc ?_ _)); refine blk_put (cs := #[.int .i64 ((rd_T59 l0_1 x18_2).f0), .int .i64 ((rd_T59 l0_1 x18_2).f1), .int .i64 0]) ?_ 2 _ rfl; (with_reducible repeat (first | refine blk_drewN ?_ _ | refine blk_drew ?_ | refine blk_alloc ?_ _)); refine blk_put (cs := #[.int .i64 ((rd_T59 l0_1 x18_2).f0), .int .i64 0, .int .i64 0]) ?_ 1 _ rfl; (with_reducible repeat (first | refine blk_drewN ?_ _ | refine blk_drew ?_ | refine blk_alloc ?_ _)); refine blk_put (cs := #[.int .i64 0, .int .i64 0, .int .i64 0]) ?_ 0 _ rfl; (with_reducible repeat (first | refine blk_drewN ?_ _ | refine blk_drew ?_ | refine blk_alloc ?_ _)); exact BK255.out) hb); replace HB := hS HB hb; clear hb))
    go_ret
    exact ⟨eW, bel HB⟩
   have c10b0 := dF c10
   clear c10
   obtain rfl := Option.some.inj H
   go_wp2
   go_ret
   exact ⟨eW, bel HB⟩

/-! ### spec_pzSolved: function 125 -/
def spec_pzSolved.f (k : Nat) (a0 : Int) (l1 : List (S59)) : Option (Bool) := (spec_pzAll.f k a0 l1).bind fun t257 => (some ((t257.length : Int) == 1))
instance spec_pzSolved.mI (k : Nat) : Mo (spec_pzSolved.f k) (spec_pzSolved.f (k + 1)) := by
 (repeat refine mE fun _ => ?_); unfold spec_pzSolved.f; exact mG
theorem spec_pzSolved.mono : ∀ a0 a1 k, LeO (spec_pzSolved.f k a0 a1) (spec_pzSolved.f (k + 1) a0 a1) := fun a0 a1 k => (spec_pzSolved.mI k).out a0 a1
set_option maxHeartbeats 8000000 in
set_option maxRecDepth 100000 in
theorem spec_pzSolved.calls (k : Nat) (a0 : Int) (A1 : Option Addr) (c1 : Nat) (l1 : List (S59)) (r : Bool) (w : World) (hr1 : Kd.C k59 w A1 l1.length l1) (hc1 : l1.length ≤ c1) (h : spec_pzSolved.f k a0 l1 = some r) :
  Calls Tryd.prog 125 #[.int .i64 a0, .slice A1 l1.length c1] w fun e w' => e = .returned (.bool r) ∧ Below w.heap.size w w' := by
 have HR1 := aM hr1
 have HC1 := aM hc1
 clear hr1 hc1
 have HB := aM (Below.refl w.heap.size w)
 have H := h
 clear h; unfold spec_pzSolved.f at H
 replace H := bC H; obtain ⟨t257, A3, H⟩ := H
 obtain rfl := Option.some.inj H
 go_enter Tryd.func125, Tryd.ntmps125
 go_wp2_with (first | ((with_reducible refine gG 146 (some 7) rfl rfl ?_); refine gD Tryd.func146 (spec_pzAll.calls k a0 _ _ l1 t257 _ (cU HR1.out) HC1.out A3.out) ?_; rintro w4 v258 ⟨ho0, hb⟩; have HO259 := rL ho0 HB; replace HB := hS HB hb; clear hb ho0; obtain ⟨Ao5, co5, eo5⟩ := Kd.R_slice HO259.out; subst eo5))
 go_ret
 exact ⟨eW, bel HB⟩

/-! ### spec_pzWithout: function 126 -/
def spec_pzWithout.f (l0 : List (S59)) (a1 : Int) : Option ((List (S59))) := (some (([] : List (S59)) : List (S59))).bind fun y260 => (if 0 ≤ a1 then (if a1 ≤ (l0.length : Int) then ((some (l0.take (a1 : Int).toNat : List (S59))).bind fun y263 => (if y260.length + y263.length < 5864062014805 then ((some (y260 ++ y263 : List (S59))).bind fun y267 => (if 0 ≤ (wrap64 (a1 + 1)) then (if (wrap64 (a1 + 1)) ≤ (l0.length : Int) then ((some (l0.drop ((wrap64 (a1 + 1)) : Int).toNat : List (S59))).bind fun y270 => (if y267.length + y270.length < 5864062014805 then (some (y267 ++ y270)) else (none))) else (none)) else (none))) else (none))) else (none)) else (none))
def spec_pzWithout.T1 : Bool × List (List Nat × List Nat) := (true, [([], []), ([], []), ([], []), ([1, 2], [1, 2]), ([0, 3], [0, 3]), ([], []), ([], []), ([6], [6]), ([5, 7], [5, 7]), ([4, 8, 4], [4, 8]), ([9, 9, 0, 1, 2, 3, 4, 5, 6, 7, 8, 9], [9])])
def spec_pzWithout.B1 : List Nat := [0, 0, 0, 6, 15, 0, 0, 64, 224, 511, 1023]
theorem spec_pzWithout.tab1 : rtab .any (opsOf Tryd.f126 1) = spec_pzWithout.T1 := by kernel_rfl
theorem spec_pzWithout.bits1 : waitsOk spec_pzWithout.T1.2 spec_pzWithout.B1 = true := by kernel_rfl
set_option maxHeartbeats 8000000 in
set_option maxRecDepth 100000 in
theorem spec_pzWithout.calls (A0 : Option Addr) (c0 : Nat) (l0 : List (S59)) (a1 : Int) (r : List (S59)) (w : World) (hr0 : Kd.C k59 w A0 l0.length l0) (hc0 : l0.length ≤ c0) (h : spec_pzWithout.f l0 a1 = some r) :
  Calls Tryd.prog 126 #[.slice A0 l0.length c0, .int .i64 a1] w fun e w' => ∃ v0_ : Value, e = .returned (v0_) ∧ Kd.R k59 59 w' w.heap.size (fun _ => True) v0_ r ∧ Below w.heap.size w w' := by
 have HR0 := aM hr0
 have HC0 := aM hc0
 clear hr0 hc0
 have HB := aM (Below.refl w.heap.size w)
 have H := h
 clear h; unfold spec_pzWithout.f at H
 replace H := yB H; obtain ⟨y260, Ny260, H⟩ := H
 refine iY H ?_; clear H; intro c3 H
 have c3b0 := eq_true c3
 have c3b1 := dT c3
 clear c3
 refine iY H ?_; clear H; intro c4 H
 have c4b0 := eq_true c4
 have c4b1 := dT c4
 clear c4
 replace H := yB H; obtain ⟨y263, Ny263, H⟩ := H
 refine iY H ?_; clear H; intro c5 H
 have LMc5 := aM c5
 clear c5
 replace H := yB H; obtain ⟨y267, Ny267, H⟩ := H
 obtain ⟨ji6, hji6⟩ := jN (wrap64 (a1 + 1))
 first | rw [hji6] at H | simp only [hji6] at H
 have hji6w : (IntKind.i64.wrap (a1 + 1)) = ji6 := (i64_w _).trans hji6
 refine iY H ?_; clear H; intro c7 H
 have c7b0 := eq_true c7
 have c7b1 := dT c7
 clear c7
 refine iY H ?_; clear H; intro c8 H
 have c8b0 := eq_true c8
 have c8b1 := dT c8
 clear c8
 replace H := yB H; obtain ⟨y270, Ny270, H⟩ := H
 refine iY H ?_; clear H; intro c9 H
 have LMc9 := aM c9
 clear c9
 obtain ⟨y274, Ny274⟩ := yN (y267 ++ y270 : List (S59)); rw [← Ny274.out] at H
 obtain rfl := Option.some.inj H
 go_enter Tryd.func126, Tryd.ntmps126
 try go_wp2
 have n0_ := aM (below_drew1 HB.out)
 clear HB
 have HB := n0_
 clear n0_
 have q11 : (a1 : Int) ≤ ((l0.length : Int) : Int) := oD
 obtain ⟨i011, hi011, _, hsz11, _⟩ := info_parts info59
 have hroom11 : l0.length ≤ c0 := HC0.out
 have hC11 : Kd.C k59 _ A0 l0.length l0 := HR0.out
 have hcut11 := cut_to (P := Tryd.prog) 55 59 .i64 Tryd.underlying55 hi011 A0 l0.length c0 a1 oD q11 hroom11
 have hr11 := Kd.C_take (m := (a1 : Int).toNat) hC11 (by omega)
 have hy11 : y263.length = (a1 : Int).toNat := (by rw [Ny263.out, List.length_take]; omega)
 rw [← Ny263.out] at hr11
 rw [← hy11] at hcut11
 have HR266 := aM hr11
 have HC266 := aM (show y263.length ≤ c0 from by omega)
 clear hr11 hC11 hroom11 hi011 hsz11
 have KY11 := aM hy11
 clear hy11
 replace q11 := eq_true q11
 have q12 : ((ji6) : Int) ≤ ((l0.length : Int) : Int) := oD
 obtain ⟨i012, hi012, _, hsz12, _⟩ := info_parts info59
 have hroom12 : l0.length ≤ c0 := HC0.out
 have hC12 : Kd.C k59 _ A0 l0.length l0 := HR0.out
 have q012 : (0 : Int) ≤ ((ji6) : Int) := oD
 have hcut12 := cut_from (P := Tryd.prog) 55 59 .i64 Tryd.underlying55 hi012 3 hsz12 A0 l0.length c0 (ji6) q012 q12
 have hr12 := Kd.C_drop (m := ((ji6) : Int).toNat) (c := c0) hC12 (by omega) hroom12
 obtain ⟨A12, hA12⟩ : ∃ A1, A1 = (if c0 = ((ji6) : Int).toNat then A0 else (A0 : Option Addr).map (·.add (((ji6) : Int).toNat * 3))) := ⟨_, rfl⟩
 obtain ⟨c12, hc12⟩ : ∃ c1, c1 = c0 - ((ji6) : Int).toNat := ⟨_, rfl⟩
 have hy12 : y270.length = l0.length - ((ji6) : Int).toNat := (by rw [Ny270.out, List.length_drop] <;> omega)
 rw [show (l0).drop ((ji6) : Int).toNat = y270 from Ny270.out.symm] at hr12
 replace hr12 : Kd.C k59 _ A12 y270.length y270 := (by rw [hA12]; exact hr12)
 rw [← hy12, ← hA12, ← hc12] at hcut12
 have HR273 := aM hr12
 have HC273 := aM (show y270.length ≤ c12 from by rw [hy12, hc12]; exact Nat.sub_le_sub_right hroom12 _)
 clear hr12 hC12 hroom12 hi012 hsz12 hc12
 have KY12 := aM hy12
 have KA12 := aM hA12
 clear hy12 hA12
 replace q12 := eq_true q12
 refine start_ (n := 11) (S := fun w' => True) (ds := []) #[false, false, false, false, false, false, false, false, false, false, false] (by kernel_rfl) rfl rfl trivial (fun hHeld => ?_); refine with_tabW spec_pzWithout.tab1 spec_pzWithout.bits1 (fun HT_ HW_ => ?_)
 generalize w.drew = w10 at HB HR266 HR273 hHeld ⊢
 refine pure_ (i := 1) (N := some 6) (v := ?_) (a' := ?_) #[false, true, false, false, false, false, false, false, false, false, false] rfl rfl (any_of HT_.out (by kernel_rfl)) (fun _ _ _ h => h) (Or.inl ⟨by rfl, ?_⟩) ?_ ?_
 rotate_left
 ·intro w'
  go_simp
  with_reducible rfl
 rotate_left
 ·simp only [Act.put, List.setIfInBounds_toArray, List.set_cons_zero, List.set_cons_succ, i64_w, i32_w]
  rfl
 refine pure_ (i := 2) (N := some 7) (v := ?_) (a' := ?_) #[false, true, true, false, false, false, false, false, false, false, false] rfl rfl (any_of HT_.out (by kernel_rfl)) (fun _ _ _ h => h) (Or.inl ⟨by rfl, ?_⟩) ?_ ?_
 rotate_left
 ·intro w'
  go_simp
  with_reducible rfl
 rotate_left
 ·simp only [Act.put, List.setIfInBounds_toArray, List.set_cons_zero, List.set_cons_succ, i64_w, i32_w]
  rfl
 refine pure_ (i := 3) (N := some 8) (v := ?_) (a' := ?_) #[false, true, true, true, false, false, false, false, false, false, false] rfl rfl (any_of HT_.out (by kernel_rfl)) (fun _ _ _ h => h) (Or.inl ⟨by rfl, ?_⟩) ?_ ?_
 rotate_left
 ·intro w'
  go_simp
  with_reducible rfl
 rotate_left
 ·simp only [Act.put, List.setIfInBounds_toArray, List.set_cons_zero, List.set_cons_succ, i64_w, i32_w]
  rfl
 refine pure_ (i := 5) (N := some 10) (v := ?_) (a' := ?_) #[false, true, true, true, false, true, false, false, false, false, false] rfl rfl (any_of HT_.out (by kernel_rfl)) (fun _ _ _ h => h) (Or.inl ⟨by rfl, ?_⟩) ?_ ?_
 rotate_left
 ·intro w'
  go_simp
  with_reducible rfl
 rotate_left
 ·simp only [Act.put, List.setIfInBounds_toArray, List.set_cons_zero, List.set_cons_succ, i64_w, i32_w]
  rfl
 refine pure_ (i := 6) (N := some 11) (v := ?_) (a' := ?_) #[false, true, true, true, false, true, true, false, false, false, false] rfl rfl (any_of HT_.out (by kernel_rfl)) (fun _ _ _ h => h) (Or.inl ⟨by rfl, ?_⟩) ?_ ?_
 rotate_left
 ·intro w'
  go_simp
  with_reducible rfl
 rotate_left
 ·simp only [Act.put, List.setIfInBounds_toArray, List.set_cons_zero, List.set_cons_succ, i64_w, i32_w]
  rfl
 refine pure_ (i := 7) (N := some 12) (v := ?_) (a' := ?_) #[false, true, true, true, false, true, true, true, false, false, false] rfl rfl (any_of HT_.out (by kernel_rfl)) (fun _ _ _ h => h) (Or.inl ⟨by rfl, ?_⟩) ?_ ?_
 rotate_left
 ·intro w'
  go_simp
  with_reducible rfl
 rotate_left
 ·simp only [Act.put, List.setIfInBounds_toArray, List.set_cons_zero, List.set_cons_succ, i64_w, i32_w]
  rfl
 refine pure_ (i := 8) (N := some 13) (v := ?_) (a' := ?_) #[false, true, true, true, false, true, true, true, true, false, false] rfl rfl (any_of HT_.out (by kernel_rfl)) (fun _ _ _ h => h) (Or.inl ⟨by rfl, ?_⟩) ?_ ?_
 rotate_left
 ·intro w'
  go_simp
  with_reducible rfl
 rotate_left
 ·simp only [Act.put, List.setIfInBounds_toArray, List.set_cons_zero, List.set_cons_succ, i64_w, i32_w]
  rfl
 refine one_ (i := 0) (N := some 5) #[true, true, true, true, false, true, true, true, true, false, false] rfl rfl (one_of HT_.out (by kernel_rfl)) (by decide) (fun K hK => ?_)
 refine Kd.R_lit_step k59 _ 59 ?hg (N := 5) ?hd (xs := ([] : List (S59))) (inner := []) (ok := fun _ => True) (okp := fun _ => True) ?hr ?hp (fun _ hk => hk) trivial (Below.refl _ _) (Nat.le_refl _) (by simp) ?_; (case hd => rfl); (case hg => rfl); (case hr => first | (go_simp; done) | (go_simp; rfl)); (case hp => exact (Reps.none _ _))
 intro v261 w13 ho14 hb hg_ hnew_
 clear hg_ hnew_
 (first | rw [← Ny260.out] at ho14 | (simp only [Int.reduceToNat] at ho14; rw [← Ny260.out] at ho14))
 have n0_ := rL ho14 HB
 have n1_ := hS HB hb
 clear HB
 have HO262 := n0_
 have HB := n1_
 clear n0_ n1_
 clear hb ho14
 refine hK.out _ _ trivial (fun hHeld => ?_)
 clear hK K
 refine norm_ (a' := ?_) ?_ ?_
 rotate_left
 ·show Act.put _ (some 5) _ = _
  simp only [Act.put, List.setIfInBounds_toArray, List.set_cons_zero, List.set_cons_succ, i64_w, i32_w]
  rfl
 refine one_ (i := 4) (N := some 9) #[true, true, true, true, true, true, true, true, true, false, false] rfl rfl (one_of HT_.out (by kernel_rfl)) (by decide) (fun K hK => ?_)
 refine Kd.R_append_rows_step k59 (w0 := w) w.heap.size (by rfl) (.tmp 5) (.tmp 8) 55 59 (.agg #[(.int .i64 0), (.int .i64 0), (.int .i64 0)]) 24 rfl Tryd.underlying55 info59 rfl (by decide) (by omega) v261 y260 y263 _ _ _ (fun _ => True) (fun _ => False) rfl rfl ?aO ?aR (fun _ _ h => h) (fun _ h => h.elim) ?aF ?aB ?aS ?aL ?_
 (case aR => exact cU (Kd.C_below HR266.out HB.out))
 (case aB => exact (bel HB))
 (case aF => exact (fun _ _ => trivial))
 (case aO => exact (rU HO262.out))
 (case aS => exact (below_size (bel HB)))
 (case aL => have := LMc5.out; omega)
 intro v268 w15 ho hb hg hat
 rw [← Ny267.out] at ho
 have n0_ := aM (hb)
 have n1_ := aM (ho)
 clear HB
 clear HO262
 have HB := n0_
 have HO269 := n1_
 clear n0_ n1_
 clear ho hb hg hat
 refine hK.out _ _ trivial (fun hHeld => ?_)
 clear hK K
 refine norm_ (a' := ?_) ?_ ?_
 rotate_left
 ·show Act.put _ (some 9) _ = _
  simp only [Act.put, List.setIfInBounds_toArray, List.set_cons_zero, List.set_cons_succ, i64_w, i32_w]
  rfl
 refine one_ (i := 9) (N := some 14) #[true, true, true, true, true, true, true, true, true, true, false] rfl rfl (one_of HT_.out (by kernel_rfl)) (by decide) (fun K hK => ?_)
 refine Kd.R_append_rows_step k59 (w0 := w) w.heap.size (by rfl) (.tmp 9) (.tmp 13) 55 59 (.agg #[(.int .i64 0), (.int .i64 0), (.int .i64 0)]) 24 rfl Tryd.underlying55 info59 rfl (by decide) (by omega) v268 y267 y270 _ _ _ (fun _ => True) (fun _ => False) rfl rfl ?aO ?aR (fun _ _ h => h) (fun _ h => h.elim) ?aF ?aB ?aS ?aL ?_
 (case aR => exact cU (Kd.C_below HR273.out HB.out))
 (case aB => exact (bel HB))
 (case aF => exact (fun _ _ => trivial))
 (case aO => exact (rU HO269.out))
 (case aS => exact (below_size (bel HB)))
 (case aL => have := LMc9.out; omega)
 intro v275 w16 ho hb hg hat
 rw [← Ny274.out] at ho
 have n0_ := aM (hb)
 have n1_ := aM (ho)
 clear HB
 clear HO269
 have HB := n0_
 have HO276 := n1_
 clear n0_ n1_
 clear ho hb hg hat
 refine hK.out _ _ trivial (fun hHeld => ?_)
 clear hK K
 refine norm_ (a' := ?_) ?_ ?_
 rotate_left
 ·show Act.put _ (some 14) _ = _
  simp only [Act.put, List.setIfInBounds_toArray, List.set_cons_zero, List.set_cons_succ, i64_w, i32_w]
  rfl
 refine pure_ (i := 10) (N := some 4) (v := ?_) (a' := ?_) #[true, true, true, true, true, true, true, true, true, true, true] rfl rfl (any_of HT_.out (by kernel_rfl)) (fun _ _ _ h => h) (Or.inl ⟨by rfl, ?_⟩) ?_ ?_
 rotate_left
 ·intro w'
  go_simp
  with_reducible rfl
 rotate_left
 ·simp only [Act.put, List.setIfInBounds_toArray, List.set_cons_zero, List.set_cons_succ, i64_w, i32_w]
  rfl
 refine done_ (done_of HT_.out (by kernel_rfl)) ?_
 try go_wp2
 go_ret
 exact ⟨_, by first | rfl | (simp [errW_none, errW_some] <;> rfl) | (simp only [← hji6]; first | rfl | (simp [errW_none, errW_some] <;> rfl)) | (simp [*, errW_none, errW_some] <;> rfl), rU HO276.out, bel HB⟩

/-! ### spec_HarderPuzzle: function 57 -/
mutual
def spec_HarderPuzzle.j0 : Nat → Bool → Int → List (S59) → Option (Int × (List (S59)) × Bool)
 | 0, _, _, _ => none
 | k + 1, x17, x278000, x278001 => if x17 = true then (some (0, ([] : List (S59)), false)) else ((some (([] : List (S59)) : List (S59))).bind fun y281 => (if y281.length + x278001.length < 5864062014805 then (spec_HarderPuzzle.l0 k (y281 ++ x278001) 0 x278000 x278001) else (none)))
def spec_HarderPuzzle.l0 : Nat → List (S59) → Int → Int → List (S59) → Option (Int × (List (S59)) × Bool)
 | 0, _, _, _, _ => none
 | k + 1, x4, x5, x278000, x278001 => if x5 < (x4.length : Int) then ((spec_pzWithout.f x4 x5).bind fun t287 => ((spec_pzSolved.f k x278000 t287).bind fun t290 => (if t290 = true then (spec_HarderPuzzle.l0 k t287 x5 x278000 x278001) else (spec_HarderPuzzle.l0 k x4 (wrap64 (x5 + 1)) x278000 x278001)))) else (some (x278000, x4, true))
end
def spec_HarderPuzzle.f (k : Nat) (a0_0 : Int) (l0_1 : List (S59)) : Option (Int × (List (S59)) × Bool) := (spec_pzGood.f k a0_0 l0_1).bind fun t279 => (if t279 = true then ((spec_pzSolved.f k a0_0 l0_1).bind fun t280 => (spec_HarderPuzzle.j0 k (!t280) a0_0 l0_1)) else (spec_HarderPuzzle.j0 k true a0_0 l0_1))
theorem spec_HarderPuzzle.mono_l : ∀ k, Mo (spec_HarderPuzzle.j0 k) (spec_HarderPuzzle.j0 (k + 1)) ∧ Mo (spec_HarderPuzzle.l0 k) (spec_HarderPuzzle.l0 (k + 1))
 | 0 => m0
 | k + 1 => by
  have ⟨ih0, ih1⟩ := spec_HarderPuzzle.mono_l k
  refine ⟨?_, ?_⟩ <;> (repeat refine mE fun _ => ?_) <;> first | (unfold spec_HarderPuzzle.j0; exact mG) | (unfold spec_HarderPuzzle.l0; exact mG)
instance spec_HarderPuzzle.mI (k : Nat) : Mo (spec_HarderPuzzle.f k) (spec_HarderPuzzle.f (k + 1)) := by
 have ⟨ih0, ih1⟩ := spec_HarderPuzzle.mono_l k
 (repeat refine mE fun _ => ?_); unfold spec_HarderPuzzle.f; exact mG
theorem spec_HarderPuzzle.mono : ∀ a0 a1 k, LeO (spec_HarderPuzzle.f k a0 a1) (spec_HarderPuzzle.f (k + 1) a0 a1) := fun a0 a1 k => (spec_HarderPuzzle.mI k).out a0 a1
set_option maxHeartbeats 8000000 in
set_option maxRecDepth 100000 in
theorem spec_HarderPuzzle.calls (k : Nat) (a0_0 : Int) (A0_1 : Option Addr) (c0_1 : Nat) (l0_1 : List (S59)) (r1 : Int) (r2 : List (S59)) (r3 : Bool) (w : World) (hr0_1 : Kd.C k59 w A0_1 l0_1.length l0_1) (hc0_1 : l0_1.length ≤ c0_1) (h : spec_HarderPuzzle.f k a0_0 l0_1 = some (r1, r2, r3)) :
  Calls Tryd.prog 57 #[.agg #[.int .i64 a0_0, .slice A0_1 l0_1.length c0_1]] w fun e w' => ∃ v1_ : Value, e = .returned (.tuple #[.agg #[.int .i64 r1, v1_], .bool r3]) ∧ Kd.R k59 59 w' w.heap.size (fun _ => True) v1_ r2 ∧ Below w.heap.size w w' := by
 have hu57 := Tryd.underlying57
 have HR0_1 := aM hr0_1
 have HC0_1 := aM hc0_1
 clear hr0_1 hc0_1
 have HB := aM (Below.refl w.heap.size w)
 have H := h
 clear h; unfold spec_HarderPuzzle.f at H
 have HC2 := aM H
 clear H
 go_enter Tryd.func57, Tryd.ntmps57
 go_upto_region 1 with (first | (refine bX (N := 1) rfl (cs := #[.int .i64 a0_0, .slice A0_1 l0_1.length c0_1]) (t := 57) ?_; intro gb277 hg w3 BK277 hb; have GW277 := gE hg HB; have GE277 := gE hg HB; replace HB := hS HB hb; clear hb hg) | (refine bX (N := 2) rfl (cs := #[.int .i64 0, .slice none 0 0]) (t := 57) ?_; intro gb278 hg w4 BK278 hb; have GW278 := gE hg HB; have GE278 := gE hg HB; have NB277_278 := nbL hg BK277; have NB278_277 := nbR hg BK277; replace BK277 := bB BK277 hb; replace HB := hS HB hb; clear hb hg))
 (try simp only [Act.put, List.setIfInBounds_toArray, List.set_cons_zero, List.set_cons_succ])
 go_cut [17] (fun v17 wc => ∃ (kq : Nat) (x17_1 : Bool), v17 = .bool x17_1 ∧ Aside0 (spec_HarderPuzzle.j0 kq x17_1 a0_0 l0_1 = some (r1, r2, r3)) ∧ Aside0 (kq ≤ k) ∧ Aside0 (wc.heap[gb277]? = some (.cells #[.int .i64 a0_0, (.slice A0_1 l0_1.length c0_1)] 57 (0, 0))) ∧ Aside0 (wc.heap[gb278]? = some (.cells #[.int .i64 0, (.slice none 0 0)] 57 (0, 0))) ∧ Aside0 (Below w.heap.size w wc))
 case first =>
  have H := HC2.out
  clear HC2
  replace H := bC H; obtain ⟨t279, A5, H⟩ := H
  refine iB H ?_ ?_ <;> clear H <;> rintro rfl H
  ·replace H := bC H; obtain ⟨t280, A7, H⟩ := H
   have H' := aM H
   clear H
   have hnb8 := NB277_278.out
   have hnc8 := NB278_277.out
   obtain ⟨hcz9_0, hcz9_1, hfz9_0, hfz9_1⟩ := hC2 BK277
   go_wp2_with (first | ((with_reducible refine gG 124 (some 8) rfl rfl ?_); refine gC Tryd.func124 (spec_pzGood.calls k a0_0 _ _ l0_1 true _ (cU (Kd.C_below HR0_1.out HB.out)) HC0_1.out A5.out) ?_; rintro w10 hb; replace BK277 := bB BK277 hb; replace BK278 := bB BK278 hb; replace HB := hS HB hb; clear hb; obtain ⟨hcz11_0, hcz11_1, hfz11_0, hfz11_1⟩ := hC2 BK277) | (go_at_call 125; (with_reducible refine (spec_pzSolved.calls k a0_0 _ _ l0_1 t280 _ (cU (Kd.C_below HR0_1.out HB.out)) HC0_1.out A7.out).mono ?_); rintro e w12 ⟨rfl, hb⟩; replace BK277 := bB BK277 hb; replace BK278 := bB BK278 hb; replace HB := hS HB hb; clear hb))
   go_meet
   case rel => exact ⟨_, (!t280), rF, H', kL, ⟨bU BK277.out⟩, ⟨bU BK278.out⟩, hV HB⟩
  have H' := aM H
  clear H
  have hnb13 := NB277_278.out
  have hnc13 := NB278_277.out
  obtain ⟨hcz14_0, hcz14_1, hfz14_0, hfz14_1⟩ := hC2 BK277
  go_wp2_with (first | ((with_reducible refine gG 124 (some 8) rfl rfl ?_); refine gC Tryd.func124 (spec_pzGood.calls k a0_0 _ _ l0_1 false _ (cU (Kd.C_below HR0_1.out HB.out)) HC0_1.out A5.out) ?_; rintro w15 hb; replace BK277 := bB BK277 hb; replace BK278 := bB BK278 hb; replace HB := hS HB hb; clear hb))
  go_meet
  case rel => exact ⟨_, (true), rF, H', kL, ⟨bU BK277.out⟩, ⟨bU BK278.out⟩, hV HB⟩
 case rest =>
  clear HC2
  obtain ⟨kq, x17_1, rfl, HA, HJ1, BK277, BK278, HB⟩ := hcut
  obtain rfl | ⟨kj1, rfl⟩ := fz kq
  ·exact zA HA
  have H := HA.out
  clear HA
  simp only [spec_HarderPuzzle.j0] at H
  refine iB H ?_ ?_ <;> clear H <;> rintro rfl H
  ·simp only [Option.some.injEq, Prod.mk.injEq] at H
   obtain ⟨rfl, rfl, rfl⟩ := H
   have hnb17 := NB278_277.out
   have hnc17 := NB277_278.out
   obtain ⟨hcz18_0, hcz18_1, hfz18_0, hfz18_1⟩ := hC2 BK278
   go_wp2
   refine bodyPost_ret (results_ct rfl _ _ gb278 57 #[.int .i64 0, .slice none 0 0] (0, 0) _ rfl (by (with_reducible repeat (first | refine blk_drewN ?_ _ | refine blk_drew ?_ | refine blk_alloc ?_ _)); refine blk_put (cs := #[.int .i64 0, .slice none 0 0]) ?_ 1 _ rfl; (with_reducible repeat (first | refine blk_drewN ?_ _ | refine blk_drew ?_ | refine blk_alloc ?_ _)); refine blk_put (cs := #[.int .i64 0, .slice none 0 0]) ?_ 0 _ rfl; (with_reducible repeat (first | refine blk_drewN ?_ _ | refine blk_drew ?_ | refine blk_alloc ?_ _)); exact BK278.out) Tryd.underlying57 rfl (by kernel_rfl)) rfl ?_
   exact ⟨_, eW, by first | exact Kd.R_nil _ _ _ _ _ | exact Kd.N_nil _ _ _ _ _ | exact Kd.V_nil _ _ _ _ _ | exact Kd.Q_nil _ _ _ _ _ | exact Kd.S_nil _ _ _ _ _, bel HB⟩
  replace H := yB H; obtain ⟨y281, Ny281, H⟩ := H
  refine iY H ?_; clear H; intro c19 H
  have LMc19 := aM c19
  clear c19
  obtain ⟨y284, Ny284⟩ := yN (y281 ++ l0_1 : List (S59)); rw [← Ny284.out] at H
  have H' := aM H
  clear H
  go_wp2_with (first | ((with_reducible refine gate_dst (N := 19) rfl ?_); refine Kd.R_lit k59 _ 59 ?hg (N := 19) ?hd (xs := ([] : List (S59))) (inner := []) (ok := fun _ => True) (okp := fun _ => True) ?hr ?hp (fun _ hk => hk) trivial (Below.refl _ _) (Nat.le_refl _) (by simp) ?_; (case hd => rfl); (case hg => rfl); (case hr => first | (go_simp; done) | (go_simp; rfl)); (case hp => exact (Reps.none _ _)); intro v282 w20 ho21 hb hg_ hnew_; clear hg_ hnew_; (first | rw [← Ny281.out] at ho21 | (simp only [Int.reduceToNat] at ho21; rw [← Ny281.out] at ho21)); have HO283 := rL ho21 HB; replace BK277 := bB BK277 hb; replace BK278 := bB BK278 hb; replace HB := hS HB hb; clear hb ho21; have hnb22 := NB277_278.out; have hnc22 := NB278_277.out; obtain ⟨hcz23_0, hcz23_1, hfz23_0, hfz23_1⟩ := hC2 BK277) | ((with_reducible refine gate_builtin (b := .append) (xs := #[.tmp 19, .tmp 21]) rfl ?_); at_builtin; refine Kd.R_append_rows k59 (w0 := w) w.heap.size rfl (.tmp 19) (.tmp 21) 55 59 (.agg #[(.int .i64 0), (.int .i64 0), (.int .i64 0)]) 24 rfl Tryd.underlying55 info59 rfl (by decide) (by omega) v282 y281 l0_1 _ _ _ (fun _ => True) (fun _ => False) rfl rfl ?aO ?aR (fun _ _ h => h) (fun _ h => h.elim) ?aF ?aB ?aS ?aL ?_; (case aR => exact cU (Kd.C_below HR0_1.out HB.out)); (case aB => exact (bel HB)); (case aF => exact (fun _ _ => trivial)); (case aO => exact (rU HO283.out)); (case aS => exact (below_size (bel HB))); (case aL => have := LMc19.out; omega); intro v285 w24 ho hb hg hat; rw [← Ny284.out] at ho; have HO286 := aM (ho); replace BK277 := aM (blk_grown (g := gb277) (o := .cells #[.int .i64 a0_0, .slice A0_1 l0_1.length c0_1] 57 (0, 0)) (bU BK277.out) hg (Kd.R_ne HO283.out BK277.out (by decide))); replace BK278 := aM (blk_grown (g := gb278) (o := .cells #[.int .i64 0, .slice none 0 0] 57 (0, 0)) (bU BK278.out) hg (Kd.R_ne HO283.out BK278.out (by decide))); replace HB := aM (hb); clear HO283; clear ho hb hg hat))
  go_loopg [4, 5] kj1 (fun kq v4 v5 w' => ∃ (x4_2 : List (S59)) (x5_2 : Int), v5 = .int .i64 x5_2 ∧ Aside0 (spec_HarderPuzzle.l0 kq x4_2 x5_2 a0_0 l0_1 = some (r1, r2, r3)) ∧ Aside0 (kq ≤ kj1) ∧ Aside0 (Kd.R k59 59 w' w.heap.size (fun _ => True) v4 x4_2) ∧ Aside0 (w'.heap[gb277]? = some (.cells #[.int .i64 a0_0, (.slice A0_1 l0_1.length c0_1)] 57 (0, 0))) ∧ Aside0 (w'.heap[gb278]? = some (.cells #[.int .i64 0, (.slice none 0 0)] 57 (0, 0))) ∧ Aside0 (Below w.heap.size w w'))
  case atStart => exact ⟨(y284), (0), rF, H', kR, ⟨rU HO286.out⟩, ⟨bU BK277.out⟩, ⟨bU BK278.out⟩, hV HB⟩
  case round =>
   clear H'
   try clear hcz23_0;try clear hcz23_1;try clear hfz23_0;try clear hfz23_1
   obtain ⟨x4_2, x5_2, rfl, HA, HK2, HO_4, BK277, BK278, HB⟩ := hrel
   obtain rfl | ⟨k2, rfl⟩ := fz gk
   ·exact zA HA
   have H := HA.out
   clear HA
   simp only [spec_HarderPuzzle.l0] at H
   refine iI H ?_ ?_ <;> clear H <;> intro c25 H
   ·have c25b0 := dT c25
    clear c25
    replace H := bC H; obtain ⟨t287, A26, H⟩ := H
    replace H := bC H; obtain ⟨t290, A27, H⟩ := H
    refine iB H ?_ ?_ <;> clear H <;> rintro rfl H
    ·have H' := aM H
     clear H
     obtain ⟨Ao29, co29, eo29⟩ := Kd.R_slice HO_4.out
     subst eo29
     go_wp2_with (first | ((with_reducible refine gG 126 (some 29) rfl rfl ?_); refine gD Tryd.func126 (spec_pzWithout.calls _ _ x4_2 x5_2 t287 _ (cU ((Kd.R_reads' HO_4.out).2.2)) ((Kd.R_reads' HO_4.out).2.1) A26.out) ?_; rintro w30 v288 ⟨ho0, hb⟩; have HO289 := aM (Kd.R_lower (Kd.R_new' ho0 (Kd.R_lt (rU HO_4.out))) (below_size (bel HB))); replace HO_4 := aM (Kd.R_elder' (rU HO_4.out) (Kd.R_base ho0) hb); replace BK277 := bB BK277 hb; replace BK278 := bB BK278 hb; replace HB := hS HB hb; clear hb ho0; have hnb31 := NB277_278.out; have hnc31 := NB278_277.out; obtain ⟨hcz32_0, hcz32_1, hfz32_0, hfz32_1⟩ := hC2 BK277; obtain ⟨Ao33, co33, eo33⟩ := Kd.R_slice HO289.out; subst eo33) | ((with_reducible refine gG 125 (some 33) rfl rfl ?_); refine gC Tryd.func125 (spec_pzSolved.calls k2 a0_0 _ _ t287 true _ (cU ((Kd.R_reads' HO289.out).2.2)) ((Kd.R_reads' HO289.out).2.1) A27.out) ?_; rintro w34 hb; replace HO_4 := rB HO_4 hb; replace HO289 := rB HO289 hb; replace BK277 := bB BK277 hb; replace BK278 := bB BK278 hb; replace HB := hS HB hb; clear hb))
     go_roundg k2
     case measure => have := HJ1.out; have := HK2.out; omega
     case rel => exact ⟨(t287), (x5_2), rF, H', ⟨by have := HJ1.out; have := HK2.out; omega⟩, ⟨rU (Kd.R_mono HO289.out (fun _ hk => trivial))⟩, ⟨bU BK277.out⟩, ⟨bU BK278.out⟩, hV HB⟩
    have H' := aM H
    clear H
    obtain ⟨Ao35, co35, eo35⟩ := Kd.R_slice HO_4.out
    subst eo35
    go_wp2_with (first | ((with_reducible refine gG 126 (some 29) rfl rfl ?_); refine gD Tryd.func126 (spec_pzWithout.calls _ _ x4_2 x5_2 t287 _ (cU ((Kd.R_reads' HO_4.out).2.2)) ((Kd.R_reads' HO_4.out).2.1) A26.out) ?_; rintro w36 v288 ⟨ho0, hb⟩; have HO289 := aM (Kd.R_lower (Kd.R_new' ho0 (Kd.R_lt (rU HO_4.out))) (below_size (bel HB))); replace HO_4 := aM (Kd.R_elder' (rU HO_4.out) (Kd.R_base ho0) hb); replace BK277 := bB BK277 hb; replace BK278 := bB BK278 hb; replace HB := hS HB hb; clear hb ho0; have hnb37 := NB277_278.out; have hnc37 := NB278_277.out; obtain ⟨hcz38_0, hcz38_1, hfz38_0, hfz38_1⟩ := hC2 BK277; obtain ⟨Ao39, co39, eo39⟩ := Kd.R_slice HO289.out; subst eo39) | ((with_reducible refine gG 125 (some 33) rfl rfl ?_); refine gC Tryd.func125 (spec_pzSolved.calls k2 a0_0 _ _ t287 false _ (cU ((Kd.R_reads' HO289.out).2.2)) ((Kd.R_reads' HO289.out).2.1) A27.out) ?_; rintro w40 hb; replace HO_4 := rB HO_4 hb; replace HO289 := rB HO289 hb; replace BK277 := bB BK277 hb; replace BK278 := bB BK278 hb; replace HB := hS HB hb; clear hb))
    go_roundg k2
    case measure => have := HJ1.out; have := HK2.out; omega
    case rel => exact ⟨(x4_2), (wrap64 (x5_2 + 1)), rF, H', ⟨by have := HJ1.out; have := HK2.out; omega⟩, ⟨rU (Kd.R_mono HO_4.out (fun _ hk => trivial))⟩, ⟨bU BK277.out⟩, ⟨bU BK278.out⟩, hV HB⟩
   have c25b0 := dF c25
   clear c25
   simp only [Option.some.injEq, Prod.mk.injEq] at H
   obtain ⟨rfl, rfl, rfl⟩ := H
   obtain ⟨Ao41, co41, eo41⟩ := Kd.R_slice HO_4.out
   subst eo41
   have hnb42 := NB277_278.out
   have hnc42 := NB278_277.out
   obtain ⟨hcz43_0, hcz43_1, hfz43_0, hfz43_1⟩ := hC2 BK277
   obtain ⟨hcz44_0, hcz44_1, hfz44_0, hfz44_1⟩ := hC2 BK278
   go_wp2
   refine bodyPost_ret (results_ct rfl _ _ gb278 57 #[.int .i64 a0_0, .slice Ao41 x4_2.length co41] (0, 0) _ rfl (by (with_reducible repeat (first | refine blk_drewN ?_ _ | refine blk_drew ?_ | refine blk_alloc ?_ _)); refine blk_put (cs := #[.int .i64 a0_0, .slice none 0 0]) ?_ 1 _ rfl; (with_reducible repeat (first | refine blk_drewN ?_ _ | refine blk_drew ?_ | refine blk_alloc ?_ _)); refine blk_put (cs := #[.int .i64 0, .slice none 0 0]) ?_ 0 _ rfl; (with_reducible repeat (first | refine blk_drewN ?_ _ | refine blk_drew ?_ | refine blk_alloc ?_ _)); exact BK278.out) Tryd.underlying57 rfl (by kernel_rfl)) rfl ?_
   exact ⟨_, eW, rU (Kd.R_mono (Kd.R_far (p := ⟨gb278, 1, none⟩) (Kd.R_far (p := ⟨gb278, 0, none⟩) (Kd.R_types HO_4.out BK278.out (by decide)) (fun _ hk => hk.2) (.int .i64 a0_0)) (fun _ hk => hk.2) (.slice Ao41 x4_2.length co41)) (fun _ hk => trivial)), bel HB⟩

end Go.Proofs.YtcogjabdddikjaaDoor.PHidAll
