-- squeezed (sq3.py); PRINTED by drive.py (a program of this session's, over the kit's print.py; wip/tools/drive.py). Lean checks it.
import Derived.Test.YtpdkjehplfgjcabGreatDoorQPHidx0
import Derived.Test.YtpdkjehplfgjcabGreatDoorQPHidx2
import Derived.Test.YtpdkjehplfgjcabGreatDoorQPHidx6
import Derived.Test.YtpdkjehplfgjcabGreatDoorQPHidx7
import Derived.Test.YtpdkjehplfgjcabGreatDoorQPHidx9
import Derived.Test.YtpdkjehplfgjcabGreatDoorQPHidx11
import Derived.Test.YtpdkjehplfgjcabGreatDoorQPHidx14
import Derived.Test.YtpdkjehplfgjcabGreatDoorQSq
namespace Go.Proofs.YtpdkjehplfgjcabGreatDoor.PHid
open Go.RowKit Go.Proofs.YtpdkjehplfgjcabGreatDoorW.PrintWords Go.Proofs.YtpdkjehplfgjcabGreatDoorW.PrintLast Go.Proofs.YtpdkjehplfgjcabGreatDoorW.PrintMore
attribute [local go_sem] max2_int min2_int max_two min_two max_three min_three max_four min_four   -- for this text's walks alone
set_option linter.unusedVariables false
set_option linter.unusedSimpArgs false

/-! ### spec_DrawDoesFit: function 29 -/
def spec_DrawDoesFit.j0 : Nat → ByteArray → Bool → List Int → Int → Int → Int → List (S40) → Option (Int × Int × Int × ByteArray)
 | 0, _, _, _, _, _, _, _ => none
 | k + 1, x5, x24, x542000, x542001, x542002, x554000, x554001 => if x24 = true then (if 0 < (x554001.length : Int) then (some ((rd_T40 x554001 0).f0, (rd_T40 x554001 0).f1, (rd_T40 x554001 0).f2, x5)) else (none)) else ((spec_l1Cur_one.f x542000 x542001 x542002 10).bind fun bt558 => (if bt558.1 = true then ((spec_l1Cur_of.f x542000 bt558.2.1 bt558.2.2 (([(⟨#[]⟩ : ByteArray), (⟨#[48, 49, 120]⟩ : ByteArray), (⟨#[48, 48, 48, 48, 48, 48, 48, 48]⟩ : ByteArray), (⟨#[49, 49, 49, 49, 49, 49, 49]⟩ : ByteArray)] : List ByteArray))).bind fun bt564 => ((spec_l1Cur_clue.f k x542000 bt564.2.1 bt564.2.2).bind fun bt567 => (some (bt567.1, bt567.2.1, bt567.2.2.1, bt564.1)))) else ((spec_l1Cur_clue.f k x542000 bt558.2.1 bt558.2.2).bind fun bt572 => (some (bt572.1, bt572.2.1, bt572.2.2.1, x5)))))
def spec_DrawDoesFit.f (k : Nat) (l0 : List Int) : Option (Int × Int × Int × ByteArray) := (spec_l1Cur_hidden.f k l0 0 0).bind fun bt542 => ((spec_l1Cur_pick.f l0 bt542.2.1 bt542.2.2 10000).bind fun bt545 => ((spec_MakePuzzle.f k bt542.1 1 bt545.1).bind fun bt548 => (if bt548.2.2 = true then ((spec_l1Cur_one.f l0 bt545.2.1 bt545.2.2 3).bind fun bt554 => (spec_DrawDoesFit.j0 k bt542.1 bt554.1 l0 bt554.2.1 bt554.2.2 bt548.1 bt548.2.1)) else (spec_DrawDoesFit.j0 k bt542.1 false l0 bt545.2.1 bt545.2.2 bt548.1 bt548.2.1))))
theorem spec_DrawDoesFit.mono_l : ∀ k, Mo (spec_DrawDoesFit.j0 k) (spec_DrawDoesFit.j0 (k + 1))
 | 0 => m0
 | k + 1 => by
  have ih0 := spec_DrawDoesFit.mono_l k
  (repeat refine mE fun _ => ?_) <;> first | (unfold spec_DrawDoesFit.j0; exact mG)
instance spec_DrawDoesFit.mI (k : Nat) : Mo (spec_DrawDoesFit.f k) (spec_DrawDoesFit.f (k + 1)) := by
 have ih0 := spec_DrawDoesFit.mono_l k
 (repeat refine mE fun _ => ?_); unfold spec_DrawDoesFit.f; exact mG
theorem spec_DrawDoesFit.mono : ∀ a0 k, LeO (spec_DrawDoesFit.f k a0) (spec_DrawDoesFit.f (k + 1) a0) := fun a0 k => (spec_DrawDoesFit.mI k).out a0
set_option maxHeartbeats 8000000 in
set_option maxRecDepth 100000 in
theorem spec_DrawDoesFit.calls (k : Nat) (A0 : Option Addr) (c0 : Nat) (l0 : List Int) (r1 : Int) (r2 : Int) (r3 : Int) (r4 : ByteArray) (w : World) (hr0 : Kd.C (Kd.int .u8) w A0 l0.length l0) (hc0 : l0.length ≤ c0) (h : spec_DrawDoesFit.f k l0 = some (r1, r2, r3, r4)) :
  Calls Tryz.prog 29 #[.slice A0 l0.length c0] w fun e w' => e = .returned (.tuple #[.agg #[.int .i64 r1, .int .i64 r2, .int .i64 r3], .string r4]) ∧ Below w.heap.size w w' := by
 have hu40 := Tryz.underlying40
 have hu66 := Tryz.underlying66
 have hu28 := Tryz.underlying28
 have HR0 := aM hr0
 have HC0 := aM hc0
 clear hr0 hc0
 have HB := aM (Below.refl w.heap.size w)
 have H := h
 clear h; unfold spec_DrawDoesFit.f at H
 replace H := bC H; obtain ⟨⟨t542, t543, t544⟩, A2, H⟩ := H; try dsimp only at H
 replace H := bC H; obtain ⟨⟨t545, t546, t547⟩, A3, H⟩ := H; try dsimp only at H
 replace H := bC H; obtain ⟨⟨t548, t549, t552⟩, A4, H⟩ := H; try dsimp only at H
 have HC5 := aM H
 clear H
 go_enter Tryz.func29, Tryz.ntmps29
 go_upto_region 4 with (first | (refine bX (N := 2) rfl (cs := #[.int .i64 0, .int .i64 0, .int .i64 0]) (t := 40) ?_; intro gb540 hg w6 BK540 hb; have GW540 := gE hg HB; have GE540 := gE hg HB; replace HB := hS HB hb; clear hb hg) | ((with_reducible refine gate_dst (N := 10) rfl ?_); refine box_event ?hg (N := 10) ?hd (cs := #[.slice A0 l0.length c0, .int .i64 0, .int .u64 0]) (t := 66) ?hr ?_; (case hd => rfl); (case hg => rfl); (case hr => first | (go_simp; done) | (go_simp; rfl)); intro gb541 hg w7 hbox hb; have HI541 := sS66 ((show IsS66 w w7 gb541 l0 0 0 from ⟨_, _, hbox, (by rw [hg]; exact (below_size (bel HB)) : w.heap.size ≤ gb541), HR0.out⟩)); have GI_HI541 := IsS66.geI HI541; have NB541_540 := nbR hg BK540; have NB540_541 := nbL hg BK540; replace BK540 := bB BK540 hb; replace HB := hS HB hb; clear hb hbox hg) | ((with_reducible refine gG 37 (some 12) rfl rfl ?_); refine gC Tryz.func37 (spec_l1Cur_hidden.calls k gb541 l0 0 0 t542 t543 t544 w _ tS66 (bel HB) A2.out) ?_; rintro w8 ⟨hi, hb, hk⟩; replace BK540 := aM (KeepBut.blk hk (g' := gb540) (o := .cells #[.int .i64 0, .int .i64 0, .int .i64 0] 40 (0, 0)) (bU BK540.out) NB540_541.out (by simp)); replace HB := aM (hb); replace HI541 := sS66 (hi); clear hb hk hi) | ((with_reducible refine gG 38 (some 16) rfl rfl ?_); refine gC Tryz.func38 (spec_l1Cur_pick.calls gb541 l0 t543 t544 10000 t545 t546 t547 w _ tS66 (bel HB) A3.out) ?_; rintro w9 ⟨hi, hb, hk⟩; replace BK540 := aM (KeepBut.blk hk (g' := gb540) (o := .cells #[.int .i64 0, .int .i64 0, .int .i64 0] 40 (0, 0)) (bU BK540.out) NB540_541.out (by simp)); replace HB := aM (hb); replace HI541 := sS66 (hi); clear hb hk hi) | ((with_reducible refine gG 7 (some 17) rfl rfl ?_); refine gD Tryz.func7 (spec_MakePuzzle.calls k t542 1 t545 t548 t549 t552 _ A4.out) ?_; rintro w10 v550 ⟨ho0, hb⟩; have HO551 := aM (Kd.R_lower (Kd.R_newB ho0 (g := gb540) (o := .cells #[.int .i64 0, .int .i64 0, .int .i64 0] 40 (0, 0)) (bU BK540.out)) (below_size (bel HB))); replace BK540 := bB BK540 hb; replace HI541 := bS66 gb541 hb; replace HB := hS HB hb; clear hb ho0) | (refine bX (N := 6) rfl (cs := #[.int .i64 0, .slice none 0 0]) (t := 28) ?_; intro gb553 hg w11 BK553 hb; have GW553 := gE hg HB; have GE553 := gE hg HB; have NB540_553 := nbL hg BK540; have NB553_540 := nbR hg BK540; have NB541_553 := (nbI hg : Ap gb541 gb553); have NB553_541 := (nbJ hg : Ap gb553 gb541); replace HO551 := rB HO551 hb; replace BK540 := bB BK540 hb; replace HI541 := bS66 gb541 hb; replace HB := hS HB hb; clear hb hg; have hnb12 := NB553_540.out; have hnc12 := NB540_553.out; have hnb13 := NB553_541.out; have hnc13 := NB541_553.out; obtain ⟨hcz14_0, hcz14_1, hfz14_0, hfz14_1⟩ := hC2 BK553; obtain ⟨Ao15, co15, eo15⟩ := Kd.R_slice HO551.out; subst eo15))
 (try simp only [Act.put, List.setIfInBounds_toArray, List.set_cons_zero, List.set_cons_succ])
 go_cut [24] (fun v24 wc => ∃ (kq : Nat) (x24_4 : Bool) (x542001_4 : Int) (x542002_4 : Int), v24 = .bool x24_4 ∧ Aside0 (spec_DrawDoesFit.j0 kq t542 x24_4 l0 x542001_4 x542002_4 t548 t549 = some (r1, r2, r3, r4)) ∧ Aside0 (kq ≤ k) ∧ Aside0 (Kd.R k40 40 wc w.heap.size (fun k_ => k_ ≠ gb540) (.slice Ao15 t549.length co15) t549) ∧ Aside0 (wc.heap[gb540]? = some (.cells #[.int .i64 0, .int .i64 0, .int .i64 0] 40 (0, 0))) ∧ Aside0 (wc.heap[gb553]? = some (.cells #[.int .i64 t548, (.slice Ao15 t549.length co15)] 28 (0, 0))) ∧ IsC66 w wc gb541 l0 x542001_4 x542002_4 ∧ Aside0 (Below w.heap.size w wc))
 case first =>
  have H := HC5.out
  clear HC5
  refine iB H ?_ ?_ <;> clear H <;> rintro rfl H
  ·replace H := bC H; obtain ⟨⟨t554, t555, t556⟩, A17, H⟩ := H; try dsimp only at H
   have H' := aM H
   clear H
   go_wp2_with (first | (go_at_call 34; (with_reducible refine (spec_l1Cur_one.calls gb541 l0 t546 t547 3 t554 t555 t556 w _ tS66 (bel HB) A17.out).mono ?_); rintro e w18 ⟨rfl, hi, hb, hk⟩; replace BK540 := aM (KeepBut.blk hk (g' := gb540) (o := .cells #[.int .i64 0, .int .i64 0, .int .i64 0] 40 (0, 0)) (kU BK540.out) NB540_541.out (by simp)); replace HO551 := aM (Kd.R_mono (Kd.R_keep (IsS66.apart (show IsS66 w _ gb541 l0 t546 t547 from tS66) (rQ2 HO551 BK553) (by decide)) hk (fun _ h => h.2)) (fun _ h => h.1)); replace BK553 := aM (KeepBut.blk hk (g' := gb553) (o := .cells #[.int .i64 t548, .slice Ao15 t549.length co15] 28 (0, 0)) (bP2 BK553) NB553_541.out (by simp)); replace HB := aM (hb); replace HI541 := sS66 (hi); clear hb hk hi))
   go_meet
   case rel => exact ⟨_, (t554), (t555), (t556), rF, H', kL, ⟨rU (Kd.R_mono HO551.out (fun _ hk => hk.2))⟩, ⟨bU BK540.out⟩, ⟨bU BK553.out⟩, ⟨tS66⟩, hV HB⟩
  have H' := aM H
  clear H
  go_wp2
  go_meet
  case rel => exact ⟨_, (false), (t546), (t547), rF, H', kL, ⟨rU (Kd.R_mono (Kd.R_far (p := ⟨gb553, 1, none⟩) (Kd.R_far (p := ⟨gb553, 0, none⟩) (Kd.R_types HO551.out BK553.out (by decide)) (fun _ hk => hk.2) (.int .i64 t548)) (fun _ hk => hk.2) (.slice Ao15 t549.length co15)) (fun _ hk => hk.1.2))⟩, ⟨kU BK540.out⟩, ⟨bP2 BK553⟩, ⟨tS66⟩, hV HB⟩
 case rest =>
  clear HC5
  try clear hcz14_0;try clear hcz14_1;try clear hfz14_0;try clear hfz14_1
  obtain ⟨kq, x24_4, x542001_4, x542002_4, rfl, HA, HJ4, HO_554001, BK540, BK553, HI541, HB⟩ := hcut
  obtain rfl | ⟨kj4, rfl⟩ := fz kq
  ·exact zA HA
  have H := HA.out
  clear HA
  simp only [spec_DrawDoesFit.j0] at H
  refine iB H ?_ ?_ <;> clear H <;> rintro rfl H
  ·refine iY H ?_; clear H; intro c20 H
   have c20b0 := dT c20
   have c20b1 : decide (0 < t549.length) = true := decide_eq_true (by omega)
   clear c20
   simp only [Option.some.injEq, Prod.mk.injEq] at H
   obtain ⟨rfl, rfl, rfl, rfl⟩ := H
   have hnb21 := NB553_540.out
   have hnc21 := NB540_553.out
   have hnb22 := NB553_541.out
   have hnc22 := NB541_553.out
   obtain ⟨hcz23_0, hcz23_1, hfz23_0, hfz23_1⟩ := hC2 BK553
   have p557 : 0 ≤ (0 : Int) := (by omega)
   have q557 : 0 < (t549.length : Int) := oD
   obtain ⟨ad557, e557, hx557_0, hx557_1, hx557_2⟩ := at_T40 (Kd.R_reads' HO_554001.out).2.2 0 p557 q557
   cases e557
   have qi557 : (0 < t549.length) = True := eq_true (by omega)
   (try rw [show ((0 : Int)).toNat = 0 from rfl] at hx557_0)
   (try rw [show 0 * 3 = 0 from rfl] at hx557_0)
   (try rw [Addr.add_zero'] at hx557_0)
   (try rw [show ((0 : Int)).toNat = 0 from rfl] at hx557_1)
   (try rw [show 0 * 3 = 0 from rfl] at hx557_1)
   (try rw [Addr.add_zero'] at hx557_1)
   (try rw [show ((0 : Int)).toNat = 0 from rfl] at hx557_2)
   (try rw [show 0 * 3 = 0 from rfl] at hx557_2)
   (try rw [Addr.add_zero'] at hx557_2)
   replace p557 := eq_true p557
   replace q557 := eq_true q557
   have hnb24 := NB540_541.out
   have hnc24 := NB541_540.out
   obtain ⟨hcz25_0, hcz25_1, hcz25_2, hfz25_0, hfz25_1, hfz25_2⟩ := hC3 BK540
   go_wp2
   refine bodyPost_ret (results_ct rfl _ _ gb540 40 #[.int .i64 ((rd_T40 t549 0).f0), .int .i64 ((rd_T40 t549 0).f1), .int .i64 ((rd_T40 t549 0).f2)] (0, 0) _ rfl (by (with_reducible repeat (first | refine blk_drewN ?_ _ | refine blk_drew ?_ | refine blk_alloc ?_ _)); refine blk_put (cs := #[.int .i64 ((rd_T40 t549 0).f0), .int .i64 ((rd_T40 t549 0).f1), .int .i64 0]) ?_ 2 _ rfl; (with_reducible repeat (first | refine blk_drewN ?_ _ | refine blk_drew ?_ | refine blk_alloc ?_ _)); refine blk_put (cs := #[.int .i64 ((rd_T40 t549 0).f0), .int .i64 0, .int .i64 0]) ?_ 1 _ rfl; (with_reducible repeat (first | refine blk_drewN ?_ _ | refine blk_drew ?_ | refine blk_alloc ?_ _)); refine blk_put (cs := #[.int .i64 0, .int .i64 0, .int .i64 0]) ?_ 0 _ rfl; (with_reducible repeat (first | refine blk_drewN ?_ _ | refine blk_drew ?_ | refine blk_alloc ?_ _)); exact BK540.out) Tryz.underlying40 rfl (by kernel_rfl)) rfl ?_
   exact ⟨eW, bel HB⟩
  replace H := bC H; obtain ⟨⟨t558, t559, t560⟩, A26, H⟩ := H; try dsimp only at H
  refine iB H ?_ ?_ <;> clear H <;> rintro rfl H
  ·obtain ⟨y561, Ny561⟩ := yN (([(⟨#[]⟩ : ByteArray), (⟨#[48, 49, 120]⟩ : ByteArray), (⟨#[48, 48, 48, 48, 48, 48, 48, 48]⟩ : ByteArray), (⟨#[49, 49, 49, 49, 49, 49, 49]⟩ : ByteArray)] : List ByteArray) : List ByteArray); rw [← Ny561.out] at H
   replace H := bC H; obtain ⟨⟨t564, t565, t566⟩, A28, H⟩ := H; try dsimp only at H
   replace H := bC H; obtain ⟨⟨t567, t568, t569, t570, t571⟩, A29, H⟩ := H; try dsimp only at H
   simp only [Option.some.injEq, Prod.mk.injEq] at H
   obtain ⟨rfl, rfl, rfl, rfl⟩ := H
   go_wp2_with (first | ((with_reducible refine gG 34 (some 31) rfl rfl ?_); refine gC Tryz.func34 (spec_l1Cur_one.calls gb541 l0 x542001_4 x542002_4 10 true t559 t560 w _ tS66 (bel HB) A26.out) ?_; rintro w30 ⟨hi, hb, hk⟩; replace HO_554001 := aM (Kd.R_mono (Kd.R_keep (IsS66.apart (show IsS66 w _ gb541 l0 x542001_4 x542002_4 from tS66) (rU HO_554001.out) (by decide)) hk (fun _ h => h.2)) (fun _ h => h.1)); replace BK540 := aM (KeepBut.blk hk (g' := gb540) (o := .cells #[.int .i64 0, .int .i64 0, .int .i64 0] 40 (0, 0)) (bU BK540.out) NB540_541.out (by simp)); replace BK553 := aM (KeepBut.blk hk (g' := gb553) (o := .cells #[.int .i64 t548, .slice Ao15 t549.length co15] 28 (0, 0)) (bU BK553.out) NB553_541.out (by simp)); replace HB := aM (hb); replace HI541 := sS66 (hi); clear hb hk hi) | ((with_reducible refine gate_dst (N := 33) rfl ?_); refine Kd.R_lit Kd.string _ 9 ?hg (N := 33) ?hd (xs := ([(⟨#[]⟩ : ByteArray), (⟨#[48, 49, 120]⟩ : ByteArray), (⟨#[48, 48, 48, 48, 48, 48, 48, 48]⟩ : ByteArray), (⟨#[49, 49, 49, 49, 49, 49, 49]⟩ : ByteArray)] : List ByteArray)) (inner := [.string (⟨#[]⟩ : ByteArray), .string (⟨#[48, 49, 120]⟩ : ByteArray), .string (⟨#[48, 48, 48, 48, 48, 48, 48, 48]⟩ : ByteArray), .string (⟨#[49, 49, 49, 49, 49, 49, 49]⟩ : ByteArray)]) (ok := fun _ => True) (okp := fun _ => True) ?hr ?hp (fun _ hk => hk) trivial (Below.refl _ _) (Nat.le_refl _) (by simp) ?_; (case hd => rfl); (case hg => rfl); (case hr => first | (go_simp; done) | (go_simp; rfl)); (case hp => exact (Reps.one (show Kd.M Kd.string _ _ _ (⟨#[]⟩ : ByteArray) [.string (⟨#[]⟩ : ByteArray)] from rfl) (Reps.one (show Kd.M Kd.string _ _ _ (⟨#[48, 49, 120]⟩ : ByteArray) [.string (⟨#[48, 49, 120]⟩ : ByteArray)] from rfl) (Reps.one (show Kd.M Kd.string _ _ _ (⟨#[48, 48, 48, 48, 48, 48, 48, 48]⟩ : ByteArray) [.string (⟨#[48, 48, 48, 48, 48, 48, 48, 48]⟩ : ByteArray)] from rfl) (Reps.one (show Kd.M Kd.string _ _ _ (⟨#[49, 49, 49, 49, 49, 49, 49]⟩ : ByteArray) [.string (⟨#[49, 49, 49, 49, 49, 49, 49]⟩ : ByteArray)] from rfl) (Reps.none _ _)))))); intro v562 w31 ho32 hb hg_ hnew_; clear hg_ hnew_; (first | rw [← Ny561.out] at ho32 | (simp only [Int.reduceToNat] at ho32; rw [← Ny561.out] at ho32)); have HO563 := rL ho32 HB; replace HO_554001 := rB HO_554001 hb; replace BK540 := bB BK540 hb; replace BK553 := bB BK553 hb; replace HI541 := bS66 gb541 hb; replace HB := hS HB hb; clear hb ho32; obtain ⟨Ao33, co33, eo33⟩ := Kd.R_slice HO563.out; subst eo33) | ((with_reducible refine gG 35 (some 34) rfl rfl ?_); refine gC Tryz.func35 (spec_l1Cur_of.calls gb541 l0 t559 t560 _ _ y561 t564 t565 t566 w _ tS66 (bel HB) (cU ((Kd.R_reads' HO563.out).2.2)) ((Kd.R_reads' HO563.out).2.1) (far_slice (IsS66.own_ne HI541.out HO563.out (by decide))) A28.out) ?_; rintro w34 ⟨hi, hb, hk⟩; replace HO_554001 := aM (Kd.R_mono (Kd.R_keep (IsS66.apart (show IsS66 w _ gb541 l0 t559 t560 from tS66) (rU HO_554001.out) (by decide)) hk (fun _ h => h.2)) (fun _ h => h.1)); replace BK540 := aM (KeepBut.blk hk (g' := gb540) (o := .cells #[.int .i64 0, .int .i64 0, .int .i64 0] 40 (0, 0)) (bU BK540.out) NB540_541.out (by simp)); replace BK553 := aM (KeepBut.blk hk (g' := gb553) (o := .cells #[.int .i64 t548, .slice Ao15 t549.length co15] 28 (0, 0)) (bU BK553.out) NB553_541.out (by simp)); replace HO563 := aM (Kd.R_mono (Kd.R_keep (IsS66.apart (show IsS66 w _ gb541 l0 t559 t560 from tS66) (rU HO563.out) (by decide)) hk (fun _ h => h.2)) (fun _ h => h.1)); replace HB := aM (hb); replace HI541 := sS66 (hi); clear hb hk hi) | ((with_reducible refine gG 61 (some 36) rfl rfl ?_); refine gC Tryz.func61 (spec_l1Cur_clue.calls kj4 gb541 l0 t565 t566 t567 t568 t569 t570 t571 w _ tS66 (bel HB) A29.out) ?_; rintro w35 ⟨hi, hb, hk⟩; replace HO_554001 := aM (Kd.R_mono (Kd.R_keep (IsS66.apart (show IsS66 w _ gb541 l0 t565 t566 from tS66) (rU HO_554001.out) (by decide)) hk (fun _ h => h.2)) (fun _ h => h.1)); replace BK540 := aM (KeepBut.blk hk (g' := gb540) (o := .cells #[.int .i64 0, .int .i64 0, .int .i64 0] 40 (0, 0)) (bU BK540.out) NB540_541.out (by simp)); replace BK553 := aM (KeepBut.blk hk (g' := gb553) (o := .cells #[.int .i64 t548, .slice Ao15 t549.length co15] 28 (0, 0)) (bU BK553.out) NB553_541.out (by simp)); replace HO563 := aM (Kd.R_mono (Kd.R_keep (IsS66.apart (show IsS66 w _ gb541 l0 t565 t566 from tS66) (rU HO563.out) (by decide)) hk (fun _ h => h.2)) (fun _ h => h.1)); replace HB := aM (hb); replace HI541 := sS66 (hi); clear hb hk hi; have hnb36 := NB540_553.out; have hnc36 := NB553_540.out; have hnb37 := NB540_541.out; have hnc37 := NB541_540.out; obtain ⟨hcz38_0, hcz38_1, hcz38_2, hfz38_0, hfz38_1, hfz38_2⟩ := hC3 BK540))
   refine bodyPost_ret (results_ct rfl _ _ gb540 40 #[.int .i64 t567, .int .i64 t568, .int .i64 t569] (0, 0) _ rfl (by (with_reducible repeat (first | refine blk_drewN ?_ _ | refine blk_drew ?_ | refine blk_alloc ?_ _)); refine blk_put (cs := #[.int .i64 t567, .int .i64 t568, .int .i64 0]) ?_ 2 _ rfl; (with_reducible repeat (first | refine blk_drewN ?_ _ | refine blk_drew ?_ | refine blk_alloc ?_ _)); refine blk_put (cs := #[.int .i64 t567, .int .i64 0, .int .i64 0]) ?_ 1 _ rfl; (with_reducible repeat (first | refine blk_drewN ?_ _ | refine blk_drew ?_ | refine blk_alloc ?_ _)); refine blk_put (cs := #[.int .i64 0, .int .i64 0, .int .i64 0]) ?_ 0 _ rfl; (with_reducible repeat (first | refine blk_drewN ?_ _ | refine blk_drew ?_ | refine blk_alloc ?_ _)); exact BK540.out) Tryz.underlying40 rfl (by kernel_rfl)) rfl ?_
   exact ⟨eW, bel HB⟩
  replace H := bC H; obtain ⟨⟨t572, t573, t574, t575, t576⟩, A39, H⟩ := H; try dsimp only at H
  simp only [Option.some.injEq, Prod.mk.injEq] at H
  obtain ⟨rfl, rfl, rfl, rfl⟩ := H
  go_wp2_with (first | ((with_reducible refine gG 34 (some 31) rfl rfl ?_); refine gC Tryz.func34 (spec_l1Cur_one.calls gb541 l0 x542001_4 x542002_4 10 false t559 t560 w _ tS66 (bel HB) A26.out) ?_; rintro w40 ⟨hi, hb, hk⟩; replace HO_554001 := aM (Kd.R_mono (Kd.R_keep (IsS66.apart (show IsS66 w _ gb541 l0 x542001_4 x542002_4 from tS66) (rU HO_554001.out) (by decide)) hk (fun _ h => h.2)) (fun _ h => h.1)); replace BK540 := aM (KeepBut.blk hk (g' := gb540) (o := .cells #[.int .i64 0, .int .i64 0, .int .i64 0] 40 (0, 0)) (bU BK540.out) NB540_541.out (by simp)); replace BK553 := aM (KeepBut.blk hk (g' := gb553) (o := .cells #[.int .i64 t548, .slice Ao15 t549.length co15] 28 (0, 0)) (bU BK553.out) NB553_541.out (by simp)); replace HB := aM (hb); replace HI541 := sS66 (hi); clear hb hk hi) | ((with_reducible refine gG 61 (some 36) rfl rfl ?_); refine gC Tryz.func61 (spec_l1Cur_clue.calls kj4 gb541 l0 t559 t560 t572 t573 t574 t575 t576 w _ tS66 (bel HB) A39.out) ?_; rintro w41 ⟨hi, hb, hk⟩; replace HO_554001 := aM (Kd.R_mono (Kd.R_keep (IsS66.apart (show IsS66 w _ gb541 l0 t559 t560 from tS66) (rU HO_554001.out) (by decide)) hk (fun _ h => h.2)) (fun _ h => h.1)); replace BK540 := aM (KeepBut.blk hk (g' := gb540) (o := .cells #[.int .i64 0, .int .i64 0, .int .i64 0] 40 (0, 0)) (bU BK540.out) NB540_541.out (by simp)); replace BK553 := aM (KeepBut.blk hk (g' := gb553) (o := .cells #[.int .i64 t548, .slice Ao15 t549.length co15] 28 (0, 0)) (bU BK553.out) NB553_541.out (by simp)); replace HB := aM (hb); replace HI541 := sS66 (hi); clear hb hk hi; have hnb42 := NB540_553.out; have hnc42 := NB553_540.out; have hnb43 := NB540_541.out; have hnc43 := NB541_540.out; obtain ⟨hcz44_0, hcz44_1, hcz44_2, hfz44_0, hfz44_1, hfz44_2⟩ := hC3 BK540))
  refine bodyPost_ret (results_ct rfl _ _ gb540 40 #[.int .i64 t572, .int .i64 t573, .int .i64 t574] (0, 0) _ rfl (by (with_reducible repeat (first | refine blk_drewN ?_ _ | refine blk_drew ?_ | refine blk_alloc ?_ _)); refine blk_put (cs := #[.int .i64 t572, .int .i64 t573, .int .i64 0]) ?_ 2 _ rfl; (with_reducible repeat (first | refine blk_drewN ?_ _ | refine blk_drew ?_ | refine blk_alloc ?_ _)); refine blk_put (cs := #[.int .i64 t572, .int .i64 0, .int .i64 0]) ?_ 1 _ rfl; (with_reducible repeat (first | refine blk_drewN ?_ _ | refine blk_drew ?_ | refine blk_alloc ?_ _)); refine blk_put (cs := #[.int .i64 0, .int .i64 0, .int .i64 0]) ?_ 0 _ rfl; (with_reducible repeat (first | refine blk_drewN ?_ _ | refine blk_drew ?_ | refine blk_alloc ?_ _)); exact BK540.out) Tryz.underlying40 rfl (by kernel_rfl)) rfl ?_
  exact ⟨eW, bel HB⟩

/-! ### spec_DoesFit: function 30 -/
def spec_DoesFit.f (k : Nat) (a0_0 : Int) (a0_1 : Int) (a0_2 : Int) (a1 : ByteArray) : Option (Bool × Bool) := (spec_pzHidden.f k a1).bind fun t578 => (if t578 = true then ((spec_pzClue.f k (a1.size : Int) a0_0 a0_1 a0_2).bind fun t579 => (if t579 = true then ((spec_pzFits.f k a0_0 a0_1 a0_2 a1).bind fun t580 => (some (t580, true))) else (some (false, false)))) else (some (false, false)))
instance spec_DoesFit.mI (k : Nat) : Mo (spec_DoesFit.f k) (spec_DoesFit.f (k + 1)) := by
 (repeat refine mE fun _ => ?_); unfold spec_DoesFit.f; exact mG
theorem spec_DoesFit.mono : ∀ a0 a1 a2 a3 k, LeO (spec_DoesFit.f k a0 a1 a2 a3) (spec_DoesFit.f (k + 1) a0 a1 a2 a3) := fun a0 a1 a2 a3 k => (spec_DoesFit.mI k).out a0 a1 a2 a3
set_option maxHeartbeats 8000000 in
set_option maxRecDepth 100000 in
theorem spec_DoesFit.calls (k : Nat) (a0_0 : Int) (a0_1 : Int) (a0_2 : Int) (a1 : ByteArray) (r1 : Bool) (r2 : Bool) (w : World) (h : spec_DoesFit.f k a0_0 a0_1 a0_2 a1 = some (r1, r2)) :
  Calls Tryz.prog 30 #[.agg #[.int .i64 a0_0, .int .i64 a0_1, .int .i64 a0_2], .string a1] w fun e w' => e = .returned (.tuple #[.bool r1, .bool r2]) ∧ Below w.heap.size w w' := by
 have hu40 := Tryz.underlying40
 have HB := aM (Below.refl w.heap.size w)
 have H := h
 clear h; unfold spec_DoesFit.f at H
 replace H := bC H; obtain ⟨t578, A3, H⟩ := H
 refine iB H ?_ ?_ <;> clear H <;> rintro rfl H
 ·replace H := bC H; obtain ⟨t579, A5, H⟩ := H
  refine iB H ?_ ?_ <;> clear H <;> rintro rfl H
  ·replace H := bC H; obtain ⟨t580, A7, H⟩ := H
   simp only [Option.some.injEq, Prod.mk.injEq] at H
   obtain ⟨rfl, rfl⟩ := H
   go_enter Tryz.func30, Tryz.ntmps30
   go_wp2_with (first | ((with_reducible refine gate_dst (N := 2) rfl ?_); (try (refine gate_guard (by rfl) ?_; dsimp only)); refine bX (N := 2) rfl (cs := #[.int .i64 a0_0, .int .i64 a0_1, .int .i64 a0_2]) (t := 40) ?_; intro gb577 hg w8 BK577 hb; have GW577 := gE hg HB; have GE577 := gE hg HB; replace HB := hS HB hb; clear hb hg) | ((with_reducible refine gG 43 (some 7) rfl rfl ?_); refine gL Tryz.func43 #[.string a1] ?_; (with_reducible refine (spec_pzHidden.calls k a1 true _ A3.out).mono ?_); rintro e w' ⟨rfl, ⟨nd, rfl⟩⟩; refine ⟨_, rfl, ?_⟩; obtain ⟨hcz9_0, hcz9_1, hcz9_2, hfz9_0, hfz9_1, hfz9_2⟩ := hC3 BK577) | (go_at_call 62; (with_reducible refine (spec_pzClue.calls k (a1.size : Int) a0_0 a0_1 a0_2 true _ A5.out).mono ?_); rintro e w10 ⟨rfl, hb⟩; replace BK577 := bB BK577 hb; replace HB := hS HB hb; clear hb; obtain ⟨hcz11_0, hcz11_1, hcz11_2, hfz11_0, hfz11_1, hfz11_2⟩ := hC3 BK577) | ((with_reducible refine gG 63 (some 18) rfl rfl ?_); refine gC Tryz.func63 (spec_pzFits.calls k a0_0 a0_1 a0_2 a1 t580 _ A7.out) ?_; rintro w12 hb; replace BK577 := bB BK577 hb; replace HB := hS HB hb; clear hb))
   go_ret2
   exact ⟨eW, bel HB⟩
  simp only [Option.some.injEq, Prod.mk.injEq] at H
  obtain ⟨rfl, rfl⟩ := H
  go_enter Tryz.func30, Tryz.ntmps30
  go_wp2_with (first | ((with_reducible refine gate_dst (N := 2) rfl ?_); (try (refine gate_guard (by rfl) ?_; dsimp only)); refine bX (N := 2) rfl (cs := #[.int .i64 a0_0, .int .i64 a0_1, .int .i64 a0_2]) (t := 40) ?_; intro gb577 hg w13 BK577 hb; have GW577 := gE hg HB; have GE577 := gE hg HB; replace HB := hS HB hb; clear hb hg) | ((with_reducible refine gG 43 (some 7) rfl rfl ?_); refine gL Tryz.func43 #[.string a1] ?_; (with_reducible refine (spec_pzHidden.calls k a1 true _ A3.out).mono ?_); rintro e w' ⟨rfl, ⟨nd, rfl⟩⟩; refine ⟨_, rfl, ?_⟩; obtain ⟨hcz14_0, hcz14_1, hcz14_2, hfz14_0, hfz14_1, hfz14_2⟩ := hC3 BK577) | (go_at_call 62; (with_reducible refine (spec_pzClue.calls k (a1.size : Int) a0_0 a0_1 a0_2 false _ A5.out).mono ?_); rintro e w15 ⟨rfl, hb⟩; replace BK577 := bB BK577 hb; replace HB := hS HB hb; clear hb))
  go_ret2
  exact ⟨eW, bel HB⟩
 simp only [Option.some.injEq, Prod.mk.injEq] at H
 obtain ⟨rfl, rfl⟩ := H
 go_enter Tryz.func30, Tryz.ntmps30
 go_wp2_with (first | ((with_reducible refine gate_dst (N := 2) rfl ?_); (try (refine gate_guard (by rfl) ?_; dsimp only)); refine bX (N := 2) rfl (cs := #[.int .i64 a0_0, .int .i64 a0_1, .int .i64 a0_2]) (t := 40) ?_; intro gb577 hg w16 BK577 hb; have GW577 := gE hg HB; have GE577 := gE hg HB; replace HB := hS HB hb; clear hb hg) | ((with_reducible refine gG 43 (some 7) rfl rfl ?_); refine gL Tryz.func43 #[.string a1] ?_; (with_reducible refine (spec_pzHidden.calls k a1 false _ A3.out).mono ?_); rintro e w' ⟨rfl, ⟨nd, rfl⟩⟩; refine ⟨_, rfl, ?_⟩))
 go_ret2
 exact ⟨eW, bel HB⟩

/-! ### spec_DrawIsClue: function 31 -/
def spec_DrawIsClue.f (k : Nat) (l0 : List Int) : Option (Int × Int × Int × Int) := (spec_l1Cur_one.f l0 0 0 4).bind fun bt583 => (if bt583.1 = true then ((spec_l1Cur_among.f l0 bt583.2.1 bt583.2.2 (([(-1), 0, 1, 3, 7, 8, 4611686018427387904] : List Int))).bind fun bt589 => ((spec_l1Cur_pick.f l0 bt589.2.1 bt589.2.2 6).bind fun bt592 => ((spec_l1Cur_pick.f l0 bt592.2.1 bt592.2.2 9).bind fun bt595 => ((spec_l1Cur_among.f l0 bt595.2.1 bt595.2.2 (([(-1), 0, 1, 2, 7, 8, 9, 10, 127, 128, 4611686018427387904] : List Int))).bind fun bt601 => ((spec_l1Cur_among.f l0 bt601.2.1 bt601.2.2 (([(-1), 0, 1, 2, 8, 127, 128] : List Int))).bind fun bt607 => (some (bt589.1, wrap64 (bt592.1 - (wrap64 (Int.tdiv bt595.1 8))), bt601.1, bt607.1))))))) else ((spec_l1Cur_pick.f l0 bt583.2.1 bt583.2.2 7).bind fun bt610 => ((spec_l1Cur_clue.f k l0 bt610.2.1 bt610.2.2).bind fun bt613 => (some (wrap64 (1 + bt610.1), bt613.1, bt613.2.1, bt613.2.2.1)))))
instance spec_DrawIsClue.mI (k : Nat) : Mo (spec_DrawIsClue.f k) (spec_DrawIsClue.f (k + 1)) := by
 (repeat refine mE fun _ => ?_); unfold spec_DrawIsClue.f; exact mG
theorem spec_DrawIsClue.mono : ∀ a0 k, LeO (spec_DrawIsClue.f k a0) (spec_DrawIsClue.f (k + 1) a0) := fun a0 k => (spec_DrawIsClue.mI k).out a0
set_option maxHeartbeats 8000000 in
set_option maxRecDepth 100000 in
theorem spec_DrawIsClue.calls (k : Nat) (A0 : Option Addr) (c0 : Nat) (l0 : List Int) (r1 : Int) (r2 : Int) (r3 : Int) (r4 : Int) (w : World) (hr0 : Kd.C (Kd.int .u8) w A0 l0.length l0) (hc0 : l0.length ≤ c0) (h : spec_DrawIsClue.f k l0 = some (r1, r2, r3, r4)) :
  Calls Tryz.prog 31 #[.slice A0 l0.length c0] w fun e w' => e = .returned (.tuple #[.int .i64 r1, .agg #[.int .i64 r2, .int .i64 r3, .int .i64 r4]]) ∧ Below w.heap.size w w' := by
 have hu40 := Tryz.underlying40
 have hu66 := Tryz.underlying66
 have HR0 := aM hr0
 have HC0 := aM hc0
 clear hr0 hc0
 have HB := aM (Below.refl w.heap.size w)
 have H := h
 clear h; unfold spec_DrawIsClue.f at H
 replace H := bC H; obtain ⟨⟨t583, t584, t585⟩, A2, H⟩ := H; try dsimp only at H
 refine iB H ?_ ?_ <;> clear H <;> rintro rfl H
 ·obtain ⟨y586, Ny586⟩ := yN (([(-1), 0, 1, 3, 7, 8, 4611686018427387904] : List Int) : List Int); rw [← Ny586.out] at H
  replace H := bC H; obtain ⟨⟨t589, t590, t591⟩, A4, H⟩ := H; try dsimp only at H
  replace H := bC H; obtain ⟨⟨t592, t593, t594⟩, A5, H⟩ := H; try dsimp only at H
  replace H := bC H; obtain ⟨⟨t595, t596, t597⟩, A6, H⟩ := H; try dsimp only at H
  obtain ⟨y598, Ny598⟩ := yN (([(-1), 0, 1, 2, 7, 8, 9, 10, 127, 128, 4611686018427387904] : List Int) : List Int); rw [← Ny598.out] at H
  replace H := bC H; obtain ⟨⟨t601, t602, t603⟩, A7, H⟩ := H; try dsimp only at H
  obtain ⟨y604, Ny604⟩ := yN (([(-1), 0, 1, 2, 8, 127, 128] : List Int) : List Int); rw [← Ny604.out] at H
  replace H := bC H; obtain ⟨⟨t607, t608, t609⟩, A8, H⟩ := H; try dsimp only at H
  simp only [Option.some.injEq, Prod.mk.injEq] at H
  obtain ⟨rfl, rfl, rfl, rfl⟩ := H
  go_enter Tryz.func31, Tryz.ntmps31
  go_wp2_with (first | (refine bX (N := 3) rfl (cs := #[.int .i64 0, .int .i64 0, .int .i64 0]) (t := 40) ?_; intro gb581 hg w9 BK581 hb; have GW581 := gE hg HB; have GE581 := gE hg HB; replace HB := hS HB hb; clear hb hg) | ((with_reducible refine gate_dst (N := 7) rfl ?_); refine box_event ?hg (N := 7) ?hd (cs := #[.slice A0 l0.length c0, .int .i64 0, .int .u64 0]) (t := 66) ?hr ?_; (case hd => rfl); (case hg => rfl); (case hr => first | (go_simp; done) | (go_simp; rfl)); intro gb582 hg w10 hbox hb; have HI582 := sS66 ((show IsS66 w w10 gb582 l0 0 0 from ⟨_, _, hbox, (by rw [hg]; exact (below_size (bel HB)) : w.heap.size ≤ gb582), HR0.out⟩)); have GI_HI582 := IsS66.geI HI582; have NB582_581 := nbR hg BK581; have NB581_582 := nbL hg BK581; replace BK581 := bB BK581 hb; replace HB := hS HB hb; clear hb hbox hg) | ((with_reducible refine gG 34 (some 9) rfl rfl ?_); refine gC Tryz.func34 (spec_l1Cur_one.calls gb582 l0 0 0 4 true t584 t585 w _ tS66 (bel HB) A2.out) ?_; rintro w11 ⟨hi, hb, hk⟩; replace BK581 := aM (KeepBut.blk hk (g' := gb581) (o := .cells #[.int .i64 0, .int .i64 0, .int .i64 0] 40 (0, 0)) (bU BK581.out) NB581_582.out (by simp)); replace HB := aM (hb); replace HI582 := sS66 (hi); clear hb hk hi) | ((with_reducible refine gate_dst (N := 11) rfl ?_); refine Kd.R_lit (Kd.int .i64) _ 3 ?hg (N := 11) ?hd (xs := ([(-1), 0, 1, 3, 7, 8, 4611686018427387904] : List Int)) (inner := [.int .i64 (-1), .int .i64 0, .int .i64 1, .int .i64 3, .int .i64 7, .int .i64 8, .int .i64 4611686018427387904]) (ok := fun _ => True) (okp := fun _ => True) ?hr ?hp (fun _ hk => hk) trivial (Below.refl _ _) (Nat.le_refl _) (by simp) ?_; (case hd => rfl); (case hg => rfl); (case hr => first | (go_simp; done) | (go_simp; rfl)); (case hp => exact (Reps.one (show Kd.M (Kd.int .i64) _ _ _ (-1) [.int .i64 (-1)] from rfl) (Reps.one (show Kd.M (Kd.int .i64) _ _ _ 0 [.int .i64 0] from rfl) (Reps.one (show Kd.M (Kd.int .i64) _ _ _ 1 [.int .i64 1] from rfl) (Reps.one (show Kd.M (Kd.int .i64) _ _ _ 3 [.int .i64 3] from rfl) (Reps.one (show Kd.M (Kd.int .i64) _ _ _ 7 [.int .i64 7] from rfl) (Reps.one (show Kd.M (Kd.int .i64) _ _ _ 8 [.int .i64 8] from rfl) (Reps.one (show Kd.M (Kd.int .i64) _ _ _ 4611686018427387904 [.int .i64 4611686018427387904] from rfl) (Reps.none _ _))))))))); intro v587 w12 ho13 hb hg_ hnew_; clear hg_ hnew_; (first | rw [← Ny586.out] at ho13 | (simp only [Int.reduceToNat] at ho13; rw [← Ny586.out] at ho13)); have HO588 := rL ho13 HB; replace BK581 := bB BK581 hb; replace HI582 := bS66 gb582 hb; replace HB := hS HB hb; clear hb ho13; obtain ⟨Ao14, co14, eo14⟩ := Kd.R_slice HO588.out; subst eo14) | ((with_reducible refine gG 36 (some 12) rfl rfl ?_); refine gC Tryz.func36 (spec_l1Cur_among.calls gb582 l0 t584 t585 _ _ y586 t589 t590 t591 w _ tS66 (bel HB) (cU ((Kd.R_reads' HO588.out).2.2)) ((Kd.R_reads' HO588.out).2.1) (far_slice (IsS66.own_ne HI582.out HO588.out (by decide))) A4.out) ?_; rintro w15 ⟨hi, hb, hk⟩; replace BK581 := aM (KeepBut.blk hk (g' := gb581) (o := .cells #[.int .i64 0, .int .i64 0, .int .i64 0] 40 (0, 0)) (bU BK581.out) NB581_582.out (by simp)); replace HO588 := aM (Kd.R_mono (Kd.R_keep (IsS66.apart (show IsS66 w _ gb582 l0 t584 t585 from tS66) (rU HO588.out) (by decide)) hk (fun _ h => h.2)) (fun _ h => h.1)); replace HB := aM (hb); replace HI582 := sS66 (hi); clear hb hk hi) | ((with_reducible refine gG 38 (some 14) rfl rfl ?_); refine gC Tryz.func38 (spec_l1Cur_pick.calls gb582 l0 t590 t591 6 t592 t593 t594 w _ tS66 (bel HB) A5.out) ?_; rintro w16 ⟨hi, hb, hk⟩; replace BK581 := aM (KeepBut.blk hk (g' := gb581) (o := .cells #[.int .i64 0, .int .i64 0, .int .i64 0] 40 (0, 0)) (bU BK581.out) NB581_582.out (by simp)); replace HO588 := aM (Kd.R_mono (Kd.R_keep (IsS66.apart (show IsS66 w _ gb582 l0 t590 t591 from tS66) (rU HO588.out) (by decide)) hk (fun _ h => h.2)) (fun _ h => h.1)); replace HB := aM (hb); replace HI582 := sS66 (hi); clear hb hk hi) | ((with_reducible refine gG 38 (some 16) rfl rfl ?_); refine gC Tryz.func38 (spec_l1Cur_pick.calls gb582 l0 t593 t594 9 t595 t596 t597 w _ tS66 (bel HB) A6.out) ?_; rintro w17 ⟨hi, hb, hk⟩; replace BK581 := aM (KeepBut.blk hk (g' := gb581) (o := .cells #[.int .i64 0, .int .i64 0, .int .i64 0] 40 (0, 0)) (bU BK581.out) NB581_582.out (by simp)); replace HO588 := aM (Kd.R_mono (Kd.R_keep (IsS66.apart (show IsS66 w _ gb582 l0 t593 t594 from tS66) (rU HO588.out) (by decide)) hk (fun _ h => h.2)) (fun _ h => h.1)); replace HB := aM (hb); replace HI582 := sS66 (hi); clear hb hk hi) | ((with_reducible refine gate_dst (N := 20) rfl ?_); refine Kd.R_lit (Kd.int .i64) _ 3 ?hg (N := 20) ?hd (xs := ([(-1), 0, 1, 2, 7, 8, 9, 10, 127, 128, 4611686018427387904] : List Int)) (inner := [.int .i64 (-1), .int .i64 0, .int .i64 1, .int .i64 2, .int .i64 7, .int .i64 8, .int .i64 9, .int .i64 10, .int .i64 127, .int .i64 128, .int .i64 4611686018427387904]) (ok := fun _ => True) (okp := fun _ => True) ?hr ?hp (fun _ hk => hk) trivial (Below.refl _ _) (Nat.le_refl _) (by simp) ?_; (case hd => rfl); (case hg => rfl); (case hr => first | (go_simp; done) | (go_simp; rfl)); (case hp => exact (Reps.one (show Kd.M (Kd.int .i64) _ _ _ (-1) [.int .i64 (-1)] from rfl) (Reps.one (show Kd.M (Kd.int .i64) _ _ _ 0 [.int .i64 0] from rfl) (Reps.one (show Kd.M (Kd.int .i64) _ _ _ 1 [.int .i64 1] from rfl) (Reps.one (show Kd.M (Kd.int .i64) _ _ _ 2 [.int .i64 2] from rfl) (Reps.one (show Kd.M (Kd.int .i64) _ _ _ 7 [.int .i64 7] from rfl) (Reps.one (show Kd.M (Kd.int .i64) _ _ _ 8 [.int .i64 8] from rfl) (Reps.one (show Kd.M (Kd.int .i64) _ _ _ 9 [.int .i64 9] from rfl) (Reps.one (show Kd.M (Kd.int .i64) _ _ _ 10 [.int .i64 10] from rfl) (Reps.one (show Kd.M (Kd.int .i64) _ _ _ 127 [.int .i64 127] from rfl) (Reps.one (show Kd.M (Kd.int .i64) _ _ _ 128 [.int .i64 128] from rfl) (Reps.one (show Kd.M (Kd.int .i64) _ _ _ 4611686018427387904 [.int .i64 4611686018427387904] from rfl) (Reps.none _ _))))))))))))); intro v599 w18 ho19 hb hg_ hnew_; clear hg_ hnew_; (first | rw [← Ny598.out] at ho19 | (simp only [Int.reduceToNat] at ho19; rw [← Ny598.out] at ho19)); have HO600 := aM (Kd.R_lower (Kd.R_new' ho19 (Kd.R_lt (rU HO588.out))) (below_size (bel HB))); replace HO588 := aM (Kd.R_elder' (rU HO588.out) (Kd.R_base ho19) hb); replace BK581 := bB BK581 hb; replace HI582 := bS66 gb582 hb; replace HB := hS HB hb; clear hb ho19; obtain ⟨Ao20, co20, eo20⟩ := Kd.R_slice HO600.out; subst eo20) | ((with_reducible refine gG 36 (some 21) rfl rfl ?_); refine gC Tryz.func36 (spec_l1Cur_among.calls gb582 l0 t596 t597 _ _ y598 t601 t602 t603 w _ tS66 (bel HB) (cU ((Kd.R_reads' HO600.out).2.2)) ((Kd.R_reads' HO600.out).2.1) (far_slice (IsS66.own_ne HI582.out HO600.out (by decide))) A7.out) ?_; rintro w21 ⟨hi, hb, hk⟩; replace BK581 := aM (KeepBut.blk hk (g' := gb581) (o := .cells #[.int .i64 0, .int .i64 0, .int .i64 0] 40 (0, 0)) (bU BK581.out) NB581_582.out (by simp)); replace HO588 := aM (Kd.R_mono (Kd.R_keep (IsS66.apart (show IsS66 w _ gb582 l0 t596 t597 from tS66) (rU HO588.out) (by decide)) hk (fun _ h => h.2)) (fun _ h => h.1)); replace HO600 := aM (Kd.R_mono (Kd.R_keep (IsS66.apart (show IsS66 w _ gb582 l0 t596 t597 from tS66) (rU HO600.out) (by decide)) hk (fun _ h => h.2)) (fun _ h => h.1)); replace HB := aM (hb); replace HI582 := sS66 (hi); clear hb hk hi) | ((with_reducible refine gate_dst (N := 23) rfl ?_); refine Kd.R_lit (Kd.int .i64) _ 3 ?hg (N := 23) ?hd (xs := ([(-1), 0, 1, 2, 8, 127, 128] : List Int)) (inner := [.int .i64 (-1), .int .i64 0, .int .i64 1, .int .i64 2, .int .i64 8, .int .i64 127, .int .i64 128]) (ok := fun _ => True) (okp := fun _ => True) ?hr ?hp (fun _ hk => hk) trivial (Below.refl _ _) (Nat.le_refl _) (by simp) ?_; (case hd => rfl); (case hg => rfl); (case hr => first | (go_simp; done) | (go_simp; rfl)); (case hp => exact (Reps.one (show Kd.M (Kd.int .i64) _ _ _ (-1) [.int .i64 (-1)] from rfl) (Reps.one (show Kd.M (Kd.int .i64) _ _ _ 0 [.int .i64 0] from rfl) (Reps.one (show Kd.M (Kd.int .i64) _ _ _ 1 [.int .i64 1] from rfl) (Reps.one (show Kd.M (Kd.int .i64) _ _ _ 2 [.int .i64 2] from rfl) (Reps.one (show Kd.M (Kd.int .i64) _ _ _ 8 [.int .i64 8] from rfl) (Reps.one (show Kd.M (Kd.int .i64) _ _ _ 127 [.int .i64 127] from rfl) (Reps.one (show Kd.M (Kd.int .i64) _ _ _ 128 [.int .i64 128] from rfl) (Reps.none _ _))))))))); intro v605 w22 ho23 hb hg_ hnew_; clear hg_ hnew_; (first | rw [← Ny604.out] at ho23 | (simp only [Int.reduceToNat] at ho23; rw [← Ny604.out] at ho23)); have HO606 := aM (Kd.R_lower (Kd.R_new' (Kd.R_new' ho23 (Kd.R_lt (rU HO588.out))) (Kd.R_lt (rU HO600.out))) (below_size (bel HB))); replace HO588 := aM (Kd.R_elder' (rU HO588.out) (Kd.R_base ho23) hb); replace HO600 := aM (Kd.R_elder' (rU HO600.out) (Kd.R_base ho23) hb); replace BK581 := bB BK581 hb; replace HI582 := bS66 gb582 hb; replace HB := hS HB hb; clear hb ho23; obtain ⟨Ao24, co24, eo24⟩ := Kd.R_slice HO606.out; subst eo24) | ((with_reducible refine gG 36 (some 24) rfl rfl ?_); refine gC Tryz.func36 (spec_l1Cur_among.calls gb582 l0 t602 t603 _ _ y604 t607 t608 t609 w _ tS66 (bel HB) (cU ((Kd.R_reads' HO606.out).2.2)) ((Kd.R_reads' HO606.out).2.1) (far_slice (IsS66.own_ne HI582.out HO606.out (by decide))) A8.out) ?_; rintro w25 ⟨hi, hb, hk⟩; replace BK581 := aM (KeepBut.blk hk (g' := gb581) (o := .cells #[.int .i64 0, .int .i64 0, .int .i64 0] 40 (0, 0)) (bU BK581.out) NB581_582.out (by simp)); replace HO588 := aM (Kd.R_mono (Kd.R_keep (IsS66.apart (show IsS66 w _ gb582 l0 t602 t603 from tS66) (rU HO588.out) (by decide)) hk (fun _ h => h.2)) (fun _ h => h.1)); replace HO600 := aM (Kd.R_mono (Kd.R_keep (IsS66.apart (show IsS66 w _ gb582 l0 t602 t603 from tS66) (rU HO600.out) (by decide)) hk (fun _ h => h.2)) (fun _ h => h.1)); replace HO606 := aM (Kd.R_mono (Kd.R_keep (IsS66.apart (show IsS66 w _ gb582 l0 t602 t603 from tS66) (rU HO606.out) (by decide)) hk (fun _ h => h.2)) (fun _ h => h.1)); replace HB := aM (hb); replace HI582 := sS66 (hi); clear hb hk hi; have hnb26 := NB581_582.out; have hnc26 := NB582_581.out; obtain ⟨hcz27_0, hcz27_1, hcz27_2, hfz27_0, hfz27_1, hfz27_2⟩ := hC3 BK581))
  refine bodyPost_ret (results_tc rfl _ _ gb581 40 #[.int .i64 (wrap64 (t592 - (wrap64 (Int.tdiv t595 8)))), .int .i64 t601, .int .i64 t607] (0, 0) _ rfl (by (with_reducible repeat (first | refine blk_drewN ?_ _ | refine blk_drew ?_ | refine blk_alloc ?_ _)); refine blk_put (cs := #[.int .i64 (wrap64 (t592 - (wrap64 (Int.tdiv t595 8)))), .int .i64 t601, .int .i64 0]) ?_ 2 _ rfl; (with_reducible repeat (first | refine blk_drewN ?_ _ | refine blk_drew ?_ | refine blk_alloc ?_ _)); refine blk_put (cs := #[.int .i64 (wrap64 (t592 - (wrap64 (Int.tdiv t595 8)))), .int .i64 0, .int .i64 0]) ?_ 1 _ rfl; (with_reducible repeat (first | refine blk_drewN ?_ _ | refine blk_drew ?_ | refine blk_alloc ?_ _)); refine blk_put (cs := #[.int .i64 0, .int .i64 0, .int .i64 0]) ?_ 0 _ rfl; (with_reducible repeat (first | refine blk_drewN ?_ _ | refine blk_drew ?_ | refine blk_alloc ?_ _)); exact BK581.out) Tryz.underlying40 rfl (by kernel_rfl)) rfl ?_
  exact ⟨eW, bel HB⟩
 replace H := bC H; obtain ⟨⟨t610, t611, t612⟩, A28, H⟩ := H; try dsimp only at H
 replace H := bC H; obtain ⟨⟨t613, t614, t615, t616, t617⟩, A29, H⟩ := H; try dsimp only at H
 simp only [Option.some.injEq, Prod.mk.injEq] at H
 obtain ⟨rfl, rfl, rfl, rfl⟩ := H
 go_enter Tryz.func31, Tryz.ntmps31
 go_wp2_with (first | (refine bX (N := 3) rfl (cs := #[.int .i64 0, .int .i64 0, .int .i64 0]) (t := 40) ?_; intro gb581 hg w30 BK581 hb; have GW581 := gE hg HB; have GE581 := gE hg HB; replace HB := hS HB hb; clear hb hg) | ((with_reducible refine gate_dst (N := 7) rfl ?_); refine box_event ?hg (N := 7) ?hd (cs := #[.slice A0 l0.length c0, .int .i64 0, .int .u64 0]) (t := 66) ?hr ?_; (case hd => rfl); (case hg => rfl); (case hr => first | (go_simp; done) | (go_simp; rfl)); intro gb582 hg w31 hbox hb; have HI582 := sS66 ((show IsS66 w w31 gb582 l0 0 0 from ⟨_, _, hbox, (by rw [hg]; exact (below_size (bel HB)) : w.heap.size ≤ gb582), HR0.out⟩)); have GI_HI582 := IsS66.geI HI582; have NB582_581 := nbR hg BK581; have NB581_582 := nbL hg BK581; replace BK581 := bB BK581 hb; replace HB := hS HB hb; clear hb hbox hg) | ((with_reducible refine gG 34 (some 9) rfl rfl ?_); refine gC Tryz.func34 (spec_l1Cur_one.calls gb582 l0 0 0 4 false t584 t585 w _ tS66 (bel HB) A2.out) ?_; rintro w32 ⟨hi, hb, hk⟩; replace BK581 := aM (KeepBut.blk hk (g' := gb581) (o := .cells #[.int .i64 0, .int .i64 0, .int .i64 0] 40 (0, 0)) (bU BK581.out) NB581_582.out (by simp)); replace HB := aM (hb); replace HI582 := sS66 (hi); clear hb hk hi) | ((with_reducible refine gG 38 (some 27) rfl rfl ?_); refine gC Tryz.func38 (spec_l1Cur_pick.calls gb582 l0 t584 t585 7 t610 t611 t612 w _ tS66 (bel HB) A28.out) ?_; rintro w33 ⟨hi, hb, hk⟩; replace BK581 := aM (KeepBut.blk hk (g' := gb581) (o := .cells #[.int .i64 0, .int .i64 0, .int .i64 0] 40 (0, 0)) (bU BK581.out) NB581_582.out (by simp)); replace HB := aM (hb); replace HI582 := sS66 (hi); clear hb hk hi) | ((with_reducible refine gG 61 (some 30) rfl rfl ?_); refine gC Tryz.func61 (spec_l1Cur_clue.calls k gb582 l0 t611 t612 t613 t614 t615 t616 t617 w _ tS66 (bel HB) A29.out) ?_; rintro w34 ⟨hi, hb, hk⟩; replace BK581 := aM (KeepBut.blk hk (g' := gb581) (o := .cells #[.int .i64 0, .int .i64 0, .int .i64 0] 40 (0, 0)) (bU BK581.out) NB581_582.out (by simp)); replace HB := aM (hb); replace HI582 := sS66 (hi); clear hb hk hi; have hnb35 := NB581_582.out; have hnc35 := NB582_581.out; obtain ⟨hcz36_0, hcz36_1, hcz36_2, hfz36_0, hfz36_1, hfz36_2⟩ := hC3 BK581))
 refine bodyPost_ret (results_tc rfl _ _ gb581 40 #[.int .i64 t613, .int .i64 t614, .int .i64 t615] (0, 0) _ rfl (by (with_reducible repeat (first | refine blk_drewN ?_ _ | refine blk_drew ?_ | refine blk_alloc ?_ _)); refine blk_put (cs := #[.int .i64 t613, .int .i64 t614, .int .i64 0]) ?_ 2 _ rfl; (with_reducible repeat (first | refine blk_drewN ?_ _ | refine blk_drew ?_ | refine blk_alloc ?_ _)); refine blk_put (cs := #[.int .i64 t613, .int .i64 0, .int .i64 0]) ?_ 1 _ rfl; (with_reducible repeat (first | refine blk_drewN ?_ _ | refine blk_drew ?_ | refine blk_alloc ?_ _)); refine blk_put (cs := #[.int .i64 0, .int .i64 0, .int .i64 0]) ?_ 0 _ rfl; (with_reducible repeat (first | refine blk_drewN ?_ _ | refine blk_drew ?_ | refine blk_alloc ?_ _)); exact BK581.out) Tryz.underlying40 rfl (by kernel_rfl)) rfl ?_
 exact ⟨eW, bel HB⟩

/-! ### spec_IsClue: function 33 -/
def spec_IsClue.f (k : Nat) (a0 : Int) (a1_0 : Int) (a1_1 : Int) (a1_2 : Int) : Option (Bool) := (spec_pzRings.f a0).bind fun t619 => (if t619 = true then ((spec_pzClue.f k a0 a1_0 a1_1 a1_2).bind fun t620 => (some t620)) else (some false))
instance spec_IsClue.mI (k : Nat) : Mo (spec_IsClue.f k) (spec_IsClue.f (k + 1)) := by
 (repeat refine mE fun _ => ?_); unfold spec_IsClue.f; exact mG
theorem spec_IsClue.mono : ∀ a0 a1 a2 a3 k, LeO (spec_IsClue.f k a0 a1 a2 a3) (spec_IsClue.f (k + 1) a0 a1 a2 a3) := fun a0 a1 a2 a3 k => (spec_IsClue.mI k).out a0 a1 a2 a3
set_option maxHeartbeats 8000000 in
set_option maxRecDepth 100000 in
theorem spec_IsClue.calls (k : Nat) (a0 : Int) (a1_0 : Int) (a1_1 : Int) (a1_2 : Int) (r : Bool) (w : World) (h : spec_IsClue.f k a0 a1_0 a1_1 a1_2 = some r) :
  Calls Tryz.prog 33 #[.int .i64 a0, .agg #[.int .i64 a1_0, .int .i64 a1_1, .int .i64 a1_2]] w fun e w' => e = .returned (.bool r) ∧ Below w.heap.size w w' := by
 have hu40 := Tryz.underlying40
 have HB := aM (Below.refl w.heap.size w)
 have H := h
 clear h; unfold spec_IsClue.f at H
 replace H := bC H; obtain ⟨t619, A3, H⟩ := H
 refine iB H ?_ ?_ <;> clear H <;> rintro rfl H
 ·replace H := bC H; obtain ⟨t620, A5, H⟩ := H
  obtain rfl := Option.some.inj H
  go_enter Tryz.func33, Tryz.ntmps33
  go_wp2_with (first | (refine bX (N := 3) rfl (cs := #[.int .i64 a1_0, .int .i64 a1_1, .int .i64 a1_2]) (t := 40) ?_; intro gb618 hg w6 BK618 hb; have GW618 := gE hg HB; have GE618 := gE hg HB; replace HB := hS HB hb; clear hb hg) | ((with_reducible refine gG 64 (some 6) rfl rfl ?_); refine gL Tryz.func64 #[.int .i64 a0] ?_; (with_reducible refine (spec_pzRings.calls a0 true _ A3.out).mono ?_); rintro e w' ⟨rfl, ⟨nd, rfl⟩⟩; refine ⟨_, rfl, ?_⟩; obtain ⟨hcz7_0, hcz7_1, hcz7_2, hfz7_0, hfz7_1, hfz7_2⟩ := hC3 BK618) | (go_at_call 62; (with_reducible refine (spec_pzClue.calls k a0 a1_0 a1_1 a1_2 t620 _ A5.out).mono ?_); rintro e w8 ⟨rfl, hb⟩; replace BK618 := bB BK618 hb; replace HB := hS HB hb; clear hb))
  go_ret
  exact ⟨eW, bel HB⟩
 obtain rfl := Option.some.inj H
 go_enter Tryz.func33, Tryz.ntmps33
 go_wp2_with (first | (refine bX (N := 3) rfl (cs := #[.int .i64 a1_0, .int .i64 a1_1, .int .i64 a1_2]) (t := 40) ?_; intro gb618 hg w9 BK618 hb; have GW618 := gE hg HB; have GE618 := gE hg HB; replace HB := hS HB hb; clear hb hg) | ((with_reducible refine gG 64 (some 6) rfl rfl ?_); refine gL Tryz.func64 #[.int .i64 a0] ?_; (with_reducible refine (spec_pzRings.calls a0 false _ A3.out).mono ?_); rintro e w' ⟨rfl, ⟨nd, rfl⟩⟩; refine ⟨_, rfl, ?_⟩))
 go_ret
 exact ⟨eW, bel HB⟩

end Go.Proofs.YtpdkjehplfgjcabGreatDoor.PHid
