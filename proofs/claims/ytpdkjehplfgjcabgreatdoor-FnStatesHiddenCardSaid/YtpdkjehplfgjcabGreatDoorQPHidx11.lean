-- squeezed (sq3.py); PRINTED by drive.py (a program of this session's, over the kit's print.py; wip/tools/drive.py). Lean checks it.
import Derived.Test.YtpdkjehplfgjcabGreatDoorQPHidx0
import Derived.Test.YtpdkjehplfgjcabGreatDoorQPHidx2
import Derived.Test.YtpdkjehplfgjcabGreatDoorQPHidx7
import Derived.Test.YtpdkjehplfgjcabGreatDoorQSq
namespace Go.Proofs.YtpdkjehplfgjcabGreatDoor.PHid
open Go.RowKit Go.Proofs.YtpdkjehplfgjcabGreatDoorW.PrintWords Go.Proofs.YtpdkjehplfgjcabGreatDoorW.PrintLast Go.Proofs.YtpdkjehplfgjcabGreatDoorW.PrintMore
attribute [local go_sem] max2_int min2_int max_two min_two max_three min_three max_four min_four   -- for this text's walks alone
set_option linter.unusedVariables false
set_option linter.unusedSimpArgs false

/-! ### laws_xHas: function 16 -/
def laws_xHas.l0 : Nat → Int → List Int → Int → Int → Option (Bool)
 | 0, _, _, _, _ => none
 | k + 1, x1, x7, x8, x9 => if x9 < x8 then (if 0 ≤ x9 then (if x9 < (x7.length : Int) then (if (rd x7 x9) = x1 then (some true) else (laws_xHas.l0 k x1 x7 x8 (wrap64 (x9 + 1)))) else (none)) else (none)) else (some false)
def laws_xHas.f (k : Nat) (l0 : List Int) (a1 : Int) : Option (Bool) := laws_xHas.l0 k a1 l0 (l0.length : Int) 0
theorem laws_xHas.mono_l : ∀ k, Mo (laws_xHas.l0 k) (laws_xHas.l0 (k + 1))
 | 0 => m0
 | k + 1 => by
  have ih0 := laws_xHas.mono_l k
  (repeat refine mE fun _ => ?_) <;> first | (unfold laws_xHas.l0; exact mG)
instance laws_xHas.mI (k : Nat) : Mo (laws_xHas.f k) (laws_xHas.f (k + 1)) := by
 have ih0 := laws_xHas.mono_l k
 (repeat refine mE fun _ => ?_); unfold laws_xHas.f; exact mG
theorem laws_xHas.mono : ∀ a0 a1 k, LeO (laws_xHas.f k a0 a1) (laws_xHas.f (k + 1) a0 a1) := fun a0 a1 k => (laws_xHas.mI k).out a0 a1
set_option maxHeartbeats 8000000 in
set_option maxRecDepth 100000 in
theorem laws_xHas.calls (k : Nat) (A0 : Option Addr) (c0 : Nat) (l0 : List Int) (a1 : Int) (r : Bool) (w : World) (hr0 : Kd.C (Kd.int .i64) w A0 l0.length l0) (hc0 : l0.length ≤ c0) (h : laws_xHas.f k l0 a1 = some r) :
  Calls Tryz.prog 16 #[.slice A0 l0.length c0, .int .i64 a1] w fun e w' => e = .returned (.bool r) ∧ Drawn0 w w' := by
 have HR0 := aM hr0
 have HC0 := aM hc0
 clear hr0 hc0
 have H := h
 clear h; unfold laws_xHas.f at H
 have H' := aM H
 clear H
 go_enter Tryz.func16, Tryz.ntmps16
 go_wp2
 go_loopg [9] k (fun kq v9 w' => ∃ (x9_1 : Int), v9 = .int .i64 x9_1 ∧ Aside0 (laws_xHas.l0 kq a1 l0 (l0.length : Int) x9_1 = some r) ∧ Aside0 (kq ≤ k) ∧ Drawn0 w w')
 case atStart => exact ⟨(0), rF, H', kR, d0⟩
 case round =>
  clear H'
  obtain ⟨x9_1, rfl, HA, HK1, ⟨m1, rfl⟩⟩ := hrel
  obtain rfl | ⟨k1, rfl⟩ := fz gk
  ·exact zA HA
  have H := HA.out
  clear HA
  simp only [laws_xHas.l0] at H
  refine iI H ?_ ?_ <;> clear H <;> intro c3 H
  ·have c3b0 := dT c3
   clear c3
   refine iY H ?_; clear H; intro c4 H
   have c4b0 := dT c4
   clear c4
   refine iY H ?_; clear H; intro c5 H
   have c5b0 := dT c5
   clear c5
   refine iI H ?_ ?_ <;> clear H <;> intro c6 H
   ·have c6b0 := qT c6
    have c6b1 := nF c6
    clear c6
    obtain rfl := Option.some.inj H
    have p277 : 0 ≤ (x9_1 : Int) := oD
    have q277 : x9_1 < (l0.length : Int) := oD
    obtain ⟨ad277, e277, hx277_0⟩ := Kd.at_int HR0.out x9_1 p277 q277
    cases e277
    replace p277 := eq_true p277
    replace q277 := eq_true q277
    go_wp2
    go_ret
    exact ⟨rF, d0⟩
   have c6b0 := qF c6
   have c6b1 := nT c6
   have H' := aM H
   clear H
   have p277 : 0 ≤ (x9_1 : Int) := oD
   have q277 : x9_1 < (l0.length : Int) := oD
   obtain ⟨ad277, e277, hx277_0⟩ := Kd.at_int HR0.out x9_1 p277 q277
   cases e277
   replace p277 := eq_true p277
   replace q277 := eq_true q277
   go_wp2
   go_roundg k1
   case measure => have := HK1.out; omega
   case rel => exact ⟨(wrap64 (x9_1 + 1)), rF, H', ⟨by have := HK1.out; omega⟩, d0⟩
  have c3b0 := dF c3
  clear c3
  obtain rfl := Option.some.inj H
  go_wp2
  go_ret
  exact ⟨rF, d0⟩

/-! ### spec_l1Cur_clue: function 61 -/
def spec_l1Cur_clue.j0 : Nat → Bool → List Int → Int → Int → Int → Int → Int → Option (Int × Int × Int × Int × Int)
 | 0, _, _, _, _, _, _, _ => none
 | k + 1, x23, x1000, x1001, x1002, x292000, x292001, x292002 => if x23 = true then ((spec_l1Cur_pick.f x1000 x1001 x1002 3).bind fun bt295 => ((spec_l1Cur_pick.f x1000 bt295.2.1 bt295.2.2 9).bind fun bt298 => (some (x292000, x292001, wrap64 (bt295.1 - (wrap64 (Int.tdiv bt298.1 8))), bt298.2.1, bt298.2.2)))) else (some (x292000, x292001, x292002, x1001, x1002))
def spec_l1Cur_clue.f (k : Nat) (s0_0 : List Int) (s0_1 : Int) (s0_2 : Int) : Option (Int × Int × Int × Int × Int) := (spec_l1Cur_pick.f s0_0 s0_1 s0_2 5).bind fun bt279 => ((spec_l1Cur_pick.f s0_0 bt279.2.1 bt279.2.2 9).bind fun bt282 => ((spec_l1Cur_pick.f s0_0 bt282.2.1 bt282.2.2 6).bind fun bt285 => ((spec_l1Cur_pick.f s0_0 bt285.2.1 bt285.2.2 9).bind fun bt288 => (if (wrap64 (bt279.1 + (wrap64 (Int.tdiv bt282.1 8)))) = 1 then ((spec_l1Cur_one.f s0_0 bt288.2.1 bt288.2.2 8).bind fun bt292 => (spec_l1Cur_clue.j0 k bt292.1 s0_0 bt292.2.1 bt292.2.2 (wrap64 (bt279.1 + (wrap64 (Int.tdiv bt282.1 8)))) (wrap64 (bt285.1 - (wrap64 (Int.tdiv bt288.1 8)))) 0)) else (spec_l1Cur_clue.j0 k true s0_0 bt288.2.1 bt288.2.2 (wrap64 (bt279.1 + (wrap64 (Int.tdiv bt282.1 8)))) (wrap64 (bt285.1 - (wrap64 (Int.tdiv bt288.1 8)))) 0)))))
theorem spec_l1Cur_clue.mono_l : ∀ k, Mo (spec_l1Cur_clue.j0 k) (spec_l1Cur_clue.j0 (k + 1))
 | 0 => m0
 | k + 1 => by
  have ih0 := spec_l1Cur_clue.mono_l k
  (repeat refine mE fun _ => ?_) <;> first | (unfold spec_l1Cur_clue.j0; exact mG)
instance spec_l1Cur_clue.mI (k : Nat) : Mo (spec_l1Cur_clue.f k) (spec_l1Cur_clue.f (k + 1)) := by
 have ih0 := spec_l1Cur_clue.mono_l k
 (repeat refine mE fun _ => ?_); unfold spec_l1Cur_clue.f; exact mG
theorem spec_l1Cur_clue.mono : ∀ a0 a1 a2 k, LeO (spec_l1Cur_clue.f k a0 a1 a2) (spec_l1Cur_clue.f (k + 1) a0 a1 a2) := fun a0 a1 a2 k => (spec_l1Cur_clue.mI k).out a0 a1 a2
set_option maxHeartbeats 8000000 in
set_option maxRecDepth 100000 in
theorem spec_l1Cur_clue.calls (k : Nat) (g : Nat) (s0_0 : List Int) (s0_1 : Int) (s0_2 : Int) (r1 : Int) (r2 : Int) (r3 : Int) (r4 : Int) (r5 : Int) (w0 w : World) (hI : IsS66 w0 w g s0_0 s0_1 s0_2) (hB : Below w0.heap.size w0 w) (h : spec_l1Cur_clue.f k s0_0 s0_1 s0_2 = some (r1, r2, r3, r4, r5)) :
  Calls Tryz.prog 61 #[.pointer (some ⟨g, 0, none⟩)] w fun e w' => e = .returned (.agg #[.int .i64 r1, .int .i64 r2, .int .i64 r3]) ∧ IsS66 w0 w' g s0_0 r4 r5 ∧ Below w0.heap.size w0 w' ∧ KeepBut w w' g none := by
 have hu40 := Tryz.underlying40
 have HI0 := sS66 hI
 have GI_HI0 := IsS66.geI HI0
 have HK := aM (KeepBut.refl w g none)
 have HL := aM hB.size
 clear hI
 have HW0 := aM hB.size
 have HB := aM hB
 clear hB
 have H := h
 clear h; unfold spec_l1Cur_clue.f at H
 replace H := bC H; obtain ⟨⟨t279, t280, t281⟩, A2, H⟩ := H; try dsimp only at H
 replace H := bC H; obtain ⟨⟨t282, t283, t284⟩, A3, H⟩ := H; try dsimp only at H
 replace H := bC H; obtain ⟨⟨t285, t286, t287⟩, A4, H⟩ := H; try dsimp only at H
 replace H := bC H; obtain ⟨⟨t288, t289, t290⟩, A5, H⟩ := H; try dsimp only at H
 have HC6 := aM H
 clear H
 go_enter Tryz.func61, Tryz.ntmps61
 go_upto_region 2 with (first | (refine bX (N := 2) rfl (cs := #[.int .i64 0, .int .i64 0, .int .i64 0]) (t := 40) ?_; intro gb278 hg w7 BK278 hb; have GW278 := gK hg HK; have GE278 := gW HW0 (gK hg HK); have NB0_278 := (nbI hg : Ap g gb278); have NB278_0 := (nbJ hg : Ap gb278 g); replace HI0 := bS66 g hb; replace HK := kT HK (KeepBut.of_below hb g none); replace HB := hS HB hb; clear hb hg) | ((with_reducible refine gG 38 (some 5) rfl rfl ?_); refine gC Tryz.func38 (spec_l1Cur_pick.calls g s0_0 s0_1 s0_2 5 t279 t280 t281 w0 _ tS66 (bel HB) A2.out) ?_; rintro w8 ⟨hi, hb, hk⟩; replace BK278 := aM (KeepBut.blk hk (g' := gb278) (o := .cells #[.int .i64 0, .int .i64 0, .int .i64 0] 40 (0, 0)) (bU BK278.out) NB278_0.out (by simp)); replace HK := kT HK hk; replace HB := aM (hb); replace HI0 := sS66 (hi); clear hb hk hi) | ((with_reducible refine gG 38 (some 7) rfl rfl ?_); refine gC Tryz.func38 (spec_l1Cur_pick.calls g s0_0 t280 t281 9 t282 t283 t284 w0 _ tS66 (bel HB) A3.out) ?_; rintro w9 ⟨hi, hb, hk⟩; replace BK278 := aM (KeepBut.blk hk (g' := gb278) (o := .cells #[.int .i64 0, .int .i64 0, .int .i64 0] 40 (0, 0)) (bU BK278.out) NB278_0.out (by simp)); replace HK := kT HK hk; replace HB := aM (hb); replace HI0 := sS66 (hi); clear hb hk hi) | ((with_reducible refine gG 38 (some 11) rfl rfl ?_); refine gC Tryz.func38 (spec_l1Cur_pick.calls g s0_0 t283 t284 6 t285 t286 t287 w0 _ tS66 (bel HB) A4.out) ?_; rintro w10 ⟨hi, hb, hk⟩; replace BK278 := aM (KeepBut.blk hk (g' := gb278) (o := .cells #[.int .i64 0, .int .i64 0, .int .i64 0] 40 (0, 0)) (bU BK278.out) NB278_0.out (by simp)); replace HK := kT HK hk; replace HB := aM (hb); replace HI0 := sS66 (hi); clear hb hk hi) | ((with_reducible refine gG 38 (some 13) rfl rfl ?_); refine gC Tryz.func38 (spec_l1Cur_pick.calls g s0_0 t286 t287 9 t288 t289 t290 w0 _ tS66 (bel HB) A5.out) ?_; rintro w11 ⟨hi, hb, hk⟩; replace BK278 := aM (KeepBut.blk hk (g' := gb278) (o := .cells #[.int .i64 0, .int .i64 0, .int .i64 0] 40 (0, 0)) (bU BK278.out) NB278_0.out (by simp)); replace HK := kT HK hk; replace HB := aM (hb); replace HI0 := sS66 (hi); clear hb hk hi) | (refine bX (N := 3) rfl (cs := #[.int .i64 0, .int .i64 0, .int .i64 0]) (t := 40) ?_; intro gb291 hg w12 BK291 hb; have GW291 := gK hg HK; have GE291 := gW HW0 (gK hg HK); have NB278_291 := nbL hg BK278; have NB291_278 := nbR hg BK278; have NB0_291 := (nbI hg : Ap g gb291); have NB291_0 := (nbJ hg : Ap gb291 g); replace HI0 := bS66 g hb; replace BK278 := bB BK278 hb; replace HK := kT HK (KeepBut.of_below hb g none); replace HB := hS HB hb; clear hb hg; have hnb13 := NB291_278.out; have hnc13 := NB278_291.out; have hnb14 := NB291_0.out; have hnc14 := NB0_291.out; obtain ⟨hcz15_0, hcz15_1, hcz15_2, hfz15_0, hfz15_1, hfz15_2⟩ := hC3 BK291))
 (try simp only [Act.put, List.setIfInBounds_toArray, List.set_cons_zero, List.set_cons_succ])
 go_cut [23] (fun v23 wc => ∃ (kq : Nat) (x23_5 : Bool) (x1001_5 : Int) (x1002_5 : Int), v23 = .bool x23_5 ∧ Aside0 (spec_l1Cur_clue.j0 kq x23_5 s0_0 x1001_5 x1002_5 (wrap64 (t279 + (wrap64 (Int.tdiv t282 8)))) (wrap64 (t285 - (wrap64 (Int.tdiv t288 8)))) 0 = some (r1, r2, r3, r4, r5)) ∧ Aside0 (kq ≤ k) ∧ Aside0 (wc.heap[gb278]? = some (.cells #[.int .i64 0, .int .i64 0, .int .i64 0] 40 (0, 0))) ∧ Aside0 (wc.heap[gb291]? = some (.cells #[.int .i64 (wrap64 (t279 + (wrap64 (Int.tdiv t282 8)))), .int .i64 (wrap64 (t285 - (wrap64 (Int.tdiv t288 8)))), .int .i64 0] 40 (0, 0))) ∧ IsC66 w0 wc g s0_0 x1001_5 x1002_5 ∧ Aside0 (KeepBut w wc g none) ∧ Aside0 (Below w0.heap.size w0 wc))
 case first =>
  have H := HC6.out
  clear HC6
  refine iI H ?_ ?_ <;> clear H <;> intro c16 H
  ·have c16b0 := qT c16
   have c16b1 := nF c16
   clear c16
   (first | rw [c16b0] | (simp only [i64_w, i32_w]; rw [c16b0]) | skip)
   replace H := bC H; obtain ⟨⟨t292, t293, t294⟩, A17, H⟩ := H; try dsimp only at H
   have H' := aM H
   clear H
   have hnb18 := NB291_278.out
   have hnc18 := NB278_291.out
   have hnb19 := NB291_0.out
   have hnc19 := NB0_291.out
   obtain ⟨hcz20_0, hcz20_1, hcz20_2, hfz20_0, hfz20_1, hfz20_2⟩ := hC3 BK291
   go_wp2_with (first | (go_at_call 34; (with_reducible refine (spec_l1Cur_one.calls g s0_0 t289 t290 8 t292 t293 t294 w0 _ tS66 (bel HB) A17.out).mono ?_); rintro e w21 ⟨rfl, hi, hb, hk⟩; replace BK278 := aM (KeepBut.blk hk (g' := gb278) (o := .cells #[.int .i64 0, .int .i64 0, .int .i64 0] 40 (0, 0)) (by (with_reducible repeat (first | refine blk_drewN ?_ _ | refine blk_drew ?_ | refine blk_alloc ?_ _)); refine blk_far ?_ NB278_291.out _; (with_reducible repeat (first | refine blk_drewN ?_ _ | refine blk_drew ?_ | refine blk_alloc ?_ _)); refine blk_far ?_ NB278_291.out _; (with_reducible repeat (first | refine blk_drewN ?_ _ | refine blk_drew ?_ | refine blk_alloc ?_ _)); refine blk_far ?_ NB278_291.out _; (with_reducible repeat (first | refine blk_drewN ?_ _ | refine blk_drew ?_ | refine blk_alloc ?_ _)); exact BK278.out) NB278_0.out (by simp)); replace BK291 := aM (KeepBut.blk hk (g' := gb291) (o := .cells #[.int .i64 (wrap64 (t279 + (wrap64 (Int.tdiv t282 8)))), .int .i64 (wrap64 (t285 - (wrap64 (Int.tdiv t288 8)))), .int .i64 0] 40 (0, 0)) (by (with_reducible repeat (first | refine blk_drewN ?_ _ | refine blk_drew ?_ | refine blk_alloc ?_ _)); refine blk_put (cs := #[.int .i64 (wrap64 (t279 + (wrap64 (Int.tdiv t282 8)))), .int .i64 (wrap64 (t285 - (wrap64 (Int.tdiv t288 8)))), .int .i64 0]) ?_ 2 _ rfl; (with_reducible repeat (first | refine blk_drewN ?_ _ | refine blk_drew ?_ | refine blk_alloc ?_ _)); refine blk_put (cs := #[.int .i64 (wrap64 (t279 + (wrap64 (Int.tdiv t282 8)))), .int .i64 0, .int .i64 0]) ?_ 1 _ rfl; (with_reducible repeat (first | refine blk_drewN ?_ _ | refine blk_drew ?_ | refine blk_alloc ?_ _)); refine blk_put (cs := #[.int .i64 0, .int .i64 0, .int .i64 0]) ?_ 0 _ rfl; (with_reducible repeat (first | refine blk_drewN ?_ _ | refine blk_drew ?_ | refine blk_alloc ?_ _)); exact BK291.out) NB291_0.out (by simp)); replace HK := kT HK hk; replace HB := aM (hb); replace HI0 := sS66 (hi); clear hb hk hi))
   go_meet
   case rel => exact ⟨_, (t292), (t293), (t294), rF, H', kL, ⟨bU BK278.out⟩, ⟨bU BK291.out⟩, ⟨tS66⟩, kV HK, hV HB⟩
  have c16b0 := qF c16
  have c16b1 := nT c16
  (first | rw [c16b0] | (simp only [i64_w, i32_w]; rw [c16b0]) | skip)
  have H' := aM H
  clear H
  have hnb22 := NB291_278.out
  have hnc22 := NB278_291.out
  have hnb23 := NB291_0.out
  have hnc23 := NB0_291.out
  obtain ⟨hcz24_0, hcz24_1, hcz24_2, hfz24_0, hfz24_1, hfz24_2⟩ := hC3 BK291
  go_wp2
  go_meet
  case rel => exact ⟨_, (true), (t289), (t290), rF, H', kL, ⟨by (with_reducible repeat (first | refine blk_drewN ?_ _ | refine blk_drew ?_ | refine blk_alloc ?_ _)); refine blk_far ?_ NB278_291.out _; (with_reducible repeat (first | refine blk_drewN ?_ _ | refine blk_drew ?_ | refine blk_alloc ?_ _)); refine blk_far ?_ NB278_291.out _; (with_reducible repeat (first | refine blk_drewN ?_ _ | refine blk_drew ?_ | refine blk_alloc ?_ _)); refine blk_far ?_ NB278_291.out _; (with_reducible repeat (first | refine blk_drewN ?_ _ | refine blk_drew ?_ | refine blk_alloc ?_ _)); exact BK278.out⟩, ⟨by (with_reducible repeat (first | refine blk_drewN ?_ _ | refine blk_drew ?_ | refine blk_alloc ?_ _)); refine blk_put (cs := #[.int .i64 (wrap64 (t279 + (wrap64 (Int.tdiv t282 8)))), .int .i64 (wrap64 (t285 - (wrap64 (Int.tdiv t288 8)))), .int .i64 0]) ?_ 2 _ rfl; (with_reducible repeat (first | refine blk_drewN ?_ _ | refine blk_drew ?_ | refine blk_alloc ?_ _)); refine blk_put (cs := #[.int .i64 (wrap64 (t279 + (wrap64 (Int.tdiv t282 8)))), .int .i64 0, .int .i64 0]) ?_ 1 _ rfl; (with_reducible repeat (first | refine blk_drewN ?_ _ | refine blk_drew ?_ | refine blk_alloc ?_ _)); refine blk_put (cs := #[.int .i64 0, .int .i64 0, .int .i64 0]) ?_ 0 _ rfl; (with_reducible repeat (first | refine blk_drewN ?_ _ | refine blk_drew ?_ | refine blk_alloc ?_ _)); exact BK291.out⟩, ⟨tS66⟩, kV HK, hV HB⟩
 case rest =>
  clear HC6
  try clear hcz15_0;try clear hcz15_1;try clear hcz15_2;try clear hfz15_0;try clear hfz15_1;try clear hfz15_2
  obtain ⟨kq, x23_5, x1001_5, x1002_5, rfl, HA, HJ5, BK278, BK291, HI0, HK, HB⟩ := hcut
  obtain rfl | ⟨kj5, rfl⟩ := fz kq
  ·exact zA HA
  have H := HA.out
  clear HA
  simp only [spec_l1Cur_clue.j0] at H
  refine iB H ?_ ?_ <;> clear H <;> rintro rfl H
  ·replace H := bC H; obtain ⟨⟨t295, t296, t297⟩, A26, H⟩ := H; try dsimp only at H
   replace H := bC H; obtain ⟨⟨t298, t299, t300⟩, A27, H⟩ := H; try dsimp only at H
   simp only [Option.some.injEq, Prod.mk.injEq] at H
   obtain ⟨rfl, rfl, rfl, rfl, rfl⟩ := H
   go_wp2_with (first | ((with_reducible refine gG 38 (some 25) rfl rfl ?_); refine gC Tryz.func38 (spec_l1Cur_pick.calls g s0_0 x1001_5 x1002_5 3 t295 t296 t297 w0 _ tS66 (bel HB) A26.out) ?_; rintro w28 ⟨hi, hb, hk⟩; replace BK278 := aM (KeepBut.blk hk (g' := gb278) (o := .cells #[.int .i64 0, .int .i64 0, .int .i64 0] 40 (0, 0)) (bU BK278.out) NB278_0.out (by simp)); replace BK291 := aM (KeepBut.blk hk (g' := gb291) (o := .cells #[.int .i64 (wrap64 (t279 + (wrap64 (Int.tdiv t282 8)))), .int .i64 (wrap64 (t285 - (wrap64 (Int.tdiv t288 8)))), .int .i64 0] 40 (0, 0)) (bU BK291.out) NB291_0.out (by simp)); replace HK := kT HK hk; replace HB := aM (hb); replace HI0 := sS66 (hi); clear hb hk hi) | ((with_reducible refine gG 38 (some 27) rfl rfl ?_); refine gC Tryz.func38 (spec_l1Cur_pick.calls g s0_0 t296 t297 9 t298 t299 t300 w0 _ tS66 (bel HB) A27.out) ?_; rintro w29 ⟨hi, hb, hk⟩; replace BK278 := aM (KeepBut.blk hk (g' := gb278) (o := .cells #[.int .i64 0, .int .i64 0, .int .i64 0] 40 (0, 0)) (bU BK278.out) NB278_0.out (by simp)); replace BK291 := aM (KeepBut.blk hk (g' := gb291) (o := .cells #[.int .i64 (wrap64 (t279 + (wrap64 (Int.tdiv t282 8)))), .int .i64 (wrap64 (t285 - (wrap64 (Int.tdiv t288 8)))), .int .i64 0] 40 (0, 0)) (bU BK291.out) NB291_0.out (by simp)); replace HK := kT HK hk; replace HB := aM (hb); replace HI0 := sS66 (hi); clear hb hk hi; have hnb30 := NB291_278.out; have hnc30 := NB278_291.out; have hnb31 := NB291_0.out; have hnc31 := NB0_291.out; obtain ⟨hcz32_0, hcz32_1, hcz32_2, hfz32_0, hfz32_1, hfz32_2⟩ := hC3 BK291; have hnb33 := NB278_0.out; have hnc33 := NB0_278.out; obtain ⟨hcz34_0, hcz34_1, hcz34_2, hfz34_0, hfz34_1, hfz34_2⟩ := hC3 BK278))
   refine bodyPost_ret (results_cell_row rfl _ _ gb278 40 #[.int .i64 (wrap64 (t279 + (wrap64 (Int.tdiv t282 8)))), .int .i64 (wrap64 (t285 - (wrap64 (Int.tdiv t288 8)))), .int .i64 (wrap64 (t295 - (wrap64 (Int.tdiv t298 8))))] (0, 0) _ rfl (by (with_reducible repeat (first | refine blk_drewN ?_ _ | refine blk_drew ?_ | refine blk_alloc ?_ _)); refine blk_put (cs := #[.int .i64 (wrap64 (t279 + (wrap64 (Int.tdiv t282 8)))), .int .i64 (wrap64 (t285 - (wrap64 (Int.tdiv t288 8)))), .int .i64 0]) ?_ 2 _ rfl; (with_reducible repeat (first | refine blk_drewN ?_ _ | refine blk_drew ?_ | refine blk_alloc ?_ _)); refine blk_put (cs := #[.int .i64 (wrap64 (t279 + (wrap64 (Int.tdiv t282 8)))), .int .i64 0, .int .i64 0]) ?_ 1 _ rfl; (with_reducible repeat (first | refine blk_drewN ?_ _ | refine blk_drew ?_ | refine blk_alloc ?_ _)); refine blk_put (cs := #[.int .i64 0, .int .i64 0, .int .i64 0]) ?_ 0 _ rfl; (with_reducible repeat (first | refine blk_drewN ?_ _ | refine blk_drew ?_ | refine blk_alloc ?_ _)); refine blk_far ?_ NB278_291.out _; (with_reducible repeat (first | refine blk_drewN ?_ _ | refine blk_drew ?_ | refine blk_alloc ?_ _)); exact BK278.out) Tryz.underlying40 rfl (by kernel_rfl)) rfl ?_
   exact ⟨eW, tS66, bel HB, kp HK⟩
  simp only [Option.some.injEq, Prod.mk.injEq] at H
  obtain ⟨rfl, rfl, rfl, rfl, rfl⟩ := H
  have hnb35 := NB291_278.out
  have hnc35 := NB278_291.out
  have hnb36 := NB291_0.out
  have hnc36 := NB0_291.out
  obtain ⟨hcz37_0, hcz37_1, hcz37_2, hfz37_0, hfz37_1, hfz37_2⟩ := hC3 BK291
  have hnb38 := NB278_0.out
  have hnc38 := NB0_278.out
  obtain ⟨hcz39_0, hcz39_1, hcz39_2, hfz39_0, hfz39_1, hfz39_2⟩ := hC3 BK278
  go_wp2
  refine bodyPost_ret (results_cell_row rfl _ _ gb278 40 #[.int .i64 (wrap64 (t279 + (wrap64 (Int.tdiv t282 8)))), .int .i64 (wrap64 (t285 - (wrap64 (Int.tdiv t288 8)))), .int .i64 0] (0, 0) _ rfl (by (with_reducible repeat (first | refine blk_drewN ?_ _ | refine blk_drew ?_ | refine blk_alloc ?_ _)); refine blk_put (cs := #[.int .i64 (wrap64 (t279 + (wrap64 (Int.tdiv t282 8)))), .int .i64 (wrap64 (t285 - (wrap64 (Int.tdiv t288 8)))), .int .i64 0]) ?_ 2 _ rfl; (with_reducible repeat (first | refine blk_drewN ?_ _ | refine blk_drew ?_ | refine blk_alloc ?_ _)); refine blk_put (cs := #[.int .i64 (wrap64 (t279 + (wrap64 (Int.tdiv t282 8)))), .int .i64 0, .int .i64 0]) ?_ 1 _ rfl; (with_reducible repeat (first | refine blk_drewN ?_ _ | refine blk_drew ?_ | refine blk_alloc ?_ _)); refine blk_put (cs := #[.int .i64 0, .int .i64 0, .int .i64 0]) ?_ 0 _ rfl; (with_reducible repeat (first | refine blk_drewN ?_ _ | refine blk_drew ?_ | refine blk_alloc ?_ _)); exact BK278.out) Tryz.underlying40 rfl (by kernel_rfl)) rfl ?_
  exact ⟨eW, tS66, bel HB, kp HK⟩

/-! ### spec_l1Cur_surePuzzle: function 81 -/
def spec_l1Cur_surePuzzle.f (k : Nat) (s0_0 : List Int) (s0_1 : Int) (s0_2 : Int) (a1 : Int) : Option (Int × (List (S40)) × Int × Int) := (spec_l1Cur_hidden.f k s0_0 s0_1 s0_2).bind fun bt302 => ((spec_l1Cur_pick.f s0_0 bt302.2.1 bt302.2.2 (wrap64 (a1 + 1))).bind fun bt305 => ((spec_l1Cur_pick.f s0_0 bt305.2.1 bt305.2.2 10000).bind fun bt308 => ((spec_MakePuzzle.f k bt302.1 bt305.1 bt308.1).bind fun bt311 => (some (bt311.1, bt311.2.1, bt308.2.1, bt308.2.2)))))
instance spec_l1Cur_surePuzzle.mI (k : Nat) : Mo (spec_l1Cur_surePuzzle.f k) (spec_l1Cur_surePuzzle.f (k + 1)) := by
 (repeat refine mE fun _ => ?_); unfold spec_l1Cur_surePuzzle.f; exact mG
theorem spec_l1Cur_surePuzzle.mono : ∀ a0 a1 a2 a3 k, LeO (spec_l1Cur_surePuzzle.f k a0 a1 a2 a3) (spec_l1Cur_surePuzzle.f (k + 1) a0 a1 a2 a3) := fun a0 a1 a2 a3 k => (spec_l1Cur_surePuzzle.mI k).out a0 a1 a2 a3
set_option maxHeartbeats 8000000 in
set_option maxRecDepth 100000 in
theorem spec_l1Cur_surePuzzle.calls (k : Nat) (g : Nat) (s0_0 : List Int) (s0_1 : Int) (s0_2 : Int) (a1 : Int) (r1 : Int) (r2 : List (S40)) (r3 : Int) (r4 : Int) (w0 w : World) (hI : IsS66 w0 w g s0_0 s0_1 s0_2) (hB : Below w0.heap.size w0 w) (h : spec_l1Cur_surePuzzle.f k s0_0 s0_1 s0_2 a1 = some (r1, r2, r3, r4)) :
  Calls Tryz.prog 81 #[.pointer (some ⟨g, 0, none⟩), .int .i64 a1] w fun e w' => ∃ v1_ : Value, e = .returned (.agg #[.int .i64 r1, v1_]) ∧ Kd.R k40 40 w' w.heap.size (fun _ => True) v1_ r2 ∧ IsS66 w0 w' g s0_0 r3 r4 ∧ Below w0.heap.size w0 w' ∧ KeepBut w w' g none := by
 have hu28 := Tryz.underlying28
 have HI0 := sS66 hI
 have GI_HI0 := IsS66.geI HI0
 have HK := aM (KeepBut.refl w g none)
 have HL := aM hB.size
 clear hI
 have HW0 := aM hB.size
 have HB := aM hB
 clear hB
 have H := h
 clear h; unfold spec_l1Cur_surePuzzle.f at H
 replace H := bC H; obtain ⟨⟨t302, t303, t304⟩, A3, H⟩ := H; try dsimp only at H
 replace H := bC H; obtain ⟨⟨t305, t306, t307⟩, A4, H⟩ := H; try dsimp only at H
 replace H := bC H; obtain ⟨⟨t308, t309, t310⟩, A5, H⟩ := H; try dsimp only at H
 replace H := bC H; obtain ⟨⟨t311, t312, t315⟩, A6, H⟩ := H; try dsimp only at H
 simp only [Option.some.injEq, Prod.mk.injEq] at H
 obtain ⟨rfl, rfl, rfl, rfl⟩ := H
 go_enter Tryz.func81, Tryz.ntmps81
 go_wp2_with (first | (refine bX (N := 4) rfl (cs := #[.int .i64 0, .slice none 0 0]) (t := 28) ?_; intro gb301 hg w7 BK301 hb; have GW301 := gK hg HK; have GE301 := gW HW0 (gK hg HK); have NB0_301 := (nbI hg : Ap g gb301); have NB301_0 := (nbJ hg : Ap gb301 g); replace HI0 := bS66 g hb; replace HK := kT HK (KeepBut.of_below hb g none); replace HB := hS HB hb; clear hb hg) | ((with_reducible refine gG 37 (some 9) rfl rfl ?_); refine gC Tryz.func37 (spec_l1Cur_hidden.calls k g s0_0 s0_1 s0_2 t302 t303 t304 w0 _ tS66 (bel HB) A3.out) ?_; rintro w8 ⟨hi, hb, hk⟩; replace BK301 := aM (KeepBut.blk hk (g' := gb301) (o := .cells #[.int .i64 0, .slice none 0 0] 28 (0, 0)) (bU BK301.out) NB301_0.out (by simp)); replace HK := kT HK hk; replace HB := aM (hb); replace HI0 := sS66 (hi); clear hb hk hi) | ((with_reducible refine gG 38 (some 13) rfl rfl ?_); refine gC Tryz.func38 (spec_l1Cur_pick.calls g s0_0 t303 t304 (wrap64 (a1 + 1)) t305 t306 t307 w0 _ tS66 (bel HB) A4.out) ?_; rintro w9 ⟨hi, hb, hk⟩; replace BK301 := aM (KeepBut.blk hk (g' := gb301) (o := .cells #[.int .i64 0, .slice none 0 0] 28 (0, 0)) (bU BK301.out) NB301_0.out (by simp)); replace HK := kT HK hk; replace HB := aM (hb); replace HI0 := sS66 (hi); clear hb hk hi) | ((with_reducible refine gG 38 (some 15) rfl rfl ?_); refine gC Tryz.func38 (spec_l1Cur_pick.calls g s0_0 t306 t307 10000 t308 t309 t310 w0 _ tS66 (bel HB) A5.out) ?_; rintro w10 ⟨hi, hb, hk⟩; replace BK301 := aM (KeepBut.blk hk (g' := gb301) (o := .cells #[.int .i64 0, .slice none 0 0] 28 (0, 0)) (bU BK301.out) NB301_0.out (by simp)); replace HK := kT HK hk; replace HB := aM (hb); replace HI0 := sS66 (hi); clear hb hk hi) | ((with_reducible refine gG 7 (some 16) rfl rfl ?_); refine gD Tryz.func7 (spec_MakePuzzle.calls k t302 t305 t308 t311 t312 t315 _ A6.out) ?_; rintro w11 v313 ⟨ho0, hb⟩; have HO314 := rK ho0 HK; replace HI0 := bS66 g hb; replace BK301 := bB BK301 hb; replace HK := kT HK (KeepBut.of_below hb g none); replace HB := hS HB hb; clear hb ho0) | (refine bX (N := 5) rfl (cs := #[.int .i64 0, .slice none 0 0]) (t := 28) ?_; intro gb316 hg w12 BK316 hb; have GW316 := gK hg HK; have GE316 := gW HW0 (gK hg HK); have NB301_316 := nbL hg BK301; have NB316_301 := nbR hg BK301; have NB0_316 := (nbI hg : Ap g gb316); have NB316_0 := (nbJ hg : Ap gb316 g); replace HO314 := rB HO314 hb; replace HI0 := bS66 g hb; replace BK301 := bB BK301 hb; replace HK := kT HK (KeepBut.of_below hb g none); replace HB := hS HB hb; clear hb hg; have hnb13 := NB316_301.out; have hnc13 := NB301_316.out; have hnb14 := NB316_0.out; have hnc14 := NB0_316.out; obtain ⟨hcz15_0, hcz15_1, hfz15_0, hfz15_1⟩ := hC2 BK316; obtain ⟨Ao16, co16, eo16⟩ := Kd.R_slice HO314.out; subst eo16; have hnb17 := NB301_0.out; have hnc17 := NB0_301.out; obtain ⟨hcz18_0, hcz18_1, hfz18_0, hfz18_1⟩ := hC2 BK301))
 refine bodyPost_ret (results_cell_row rfl _ _ gb301 28 #[.int .i64 t311, .slice Ao16 t312.length co16] (0, 0) _ rfl (by (with_reducible repeat (first | refine blk_drewN ?_ _ | refine blk_drew ?_ | refine blk_alloc ?_ _)); refine blk_put (cs := #[.int .i64 t311, .slice none 0 0]) ?_ 1 _ rfl; (with_reducible repeat (first | refine blk_drewN ?_ _ | refine blk_drew ?_ | refine blk_alloc ?_ _)); refine blk_put (cs := #[.int .i64 0, .slice none 0 0]) ?_ 0 _ rfl; (with_reducible repeat (first | refine blk_drewN ?_ _ | refine blk_drew ?_ | refine blk_alloc ?_ _)); refine blk_far ?_ NB301_316.out _; (with_reducible repeat (first | refine blk_drewN ?_ _ | refine blk_drew ?_ | refine blk_alloc ?_ _)); refine blk_far ?_ NB301_316.out _; (with_reducible repeat (first | refine blk_drewN ?_ _ | refine blk_drew ?_ | refine blk_alloc ?_ _)); exact BK301.out) Tryz.underlying28 rfl (by kernel_rfl)) rfl ?_
 exact ⟨_, eW, rU (Kd.R_mono (Kd.R_far (p := ⟨gb301, 1, none⟩) (Kd.R_far (p := ⟨gb301, 0, none⟩) (Kd.R_far (p := ⟨gb316, 1, none⟩) (Kd.R_far (p := ⟨gb316, 0, none⟩) (Kd.R_types (Kd.R_types HO314.out BK316.out (by decide)) BK301.out (by decide)) (fun _ hk => hk.1.2) (.int .i64 t311)) (fun _ hk => hk.1.2) (.slice Ao16 t312.length co16)) (fun _ hk => hk.2) (.int .i64 t311)) (fun _ hk => hk.2) (.slice Ao16 t312.length co16)) (fun _ hk => trivial)), tS66, bel HB, kp HK⟩

end Go.Proofs.YtpdkjehplfgjcabGreatDoor.PHid
