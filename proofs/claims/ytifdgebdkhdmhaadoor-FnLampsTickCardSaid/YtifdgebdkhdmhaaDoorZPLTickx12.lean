-- PRINTED by drive.py (a program of this session's, over the kit's print.py; wip/tools/drive.py). Lean checks it.
import Derived.Test.YtifdgebdkhdmhaaDoorZSq
import Derived.Test.YtifdgebdkhdmhaaDoorZPLTickx0
import Derived.Test.YtifdgebdkhdmhaaDoorZPLTickx7
import Derived.Test.YtifdgebdkhdmhaaDoorZPLTickx8
import Derived.Test.YtifdgebdkhdmhaaDoorZPLTickx10
import Derived.Test.YtifdgebdkhdmhaaDoorZPLTickx11
namespace Go.Proofs.YtifdgebdkhdmhaaDoor.PLTick
open Go.RowKit Go.Proofs.YtifdgebdkhdmhaaDoorW.PrintWords Go.Proofs.YtifdgebdkhdmhaaDoorW.PrintLast Go.Proofs.YtifdgebdkhdmhaaDoorW.PrintMore
attribute [local go_sem] max2_int min2_int max_two min_two max_three min_three max_four min_four   -- for this text's walks alone
set_option linter.unusedVariables false
set_option linter.unusedSimpArgs false

/-! ### spec_DrawFirstTick: function 80 -/
def spec_DrawFirstTick.f (k : Nat) (l0 : List Int) : Option (List ByteArray × ByteArray × Int) := (spec_l1Cur_lamps.f k l0 0 0).bind fun bt390 => ((spec_l1Cur_lit.f k l0 bt390.2.1 bt390.2.2 bt390.1).bind fun bt396 => ((spec_l1Most.f 1 (bt390.1.length : Int)).bind fun t399 => ((spec_l1Least.f 10 t399).bind fun t400 => ((spec_l1Cur_pick.f l0 bt396.2.1 bt396.2.2 (wrap64 (t400 + 1))).bind fun bt401 => ((spec_l1Cur_pick.f l0 bt401.2.1 bt401.2.2 9).bind fun bt404 => (some (bt390.1, bt396.1, wrap64 (bt401.1 - (wrap64 (Int.tdiv bt404.1 8))))))))))
theorem spec_DrawFirstTick.mono : ∀ a0 k, LeO (spec_DrawFirstTick.f k a0) (spec_DrawFirstTick.f (k + 1) a0) := by
 intro a0 k
 unfold spec_DrawFirstTick.f
 repeat' first
   | wE spec_l1Cur_lamps.mono _ _ _ _
   | wE spec_l1Cur_lit.mono _ _ _ _ _
   | wE LeO.refl _
   | wE LeO.none _
   | wR LeO.ite ?_ ?_
   | wR LeO.bind ?_ (fun _ => ?_)
   | exact spec_l1Cur_lamps.mono _ _ _ _
   | exact spec_l1Cur_lit.mono _ _ _ _ _
   | exact LeO.none _
   | refine LeO.ite ?_ ?_
   | refine LeO.bind ?_ (fun _ => ?_)
def spec_DrawFirstTick.T3 : Bool × List (List Nat × List Nat) := (true, [([], []), ([], []), ([], []), ([1, 2], [1, 2]), ([], []), ([], []), ([5], [5]), ([6], [6]), ([7, 3], [7]), ([8, 8], [8]), ([9], [9]), ([4, 10, 9], [4, 10]), ([], []), ([12, 11], [12]), ([13], [13]), ([11, 14], [11, 14]), ([0, 13, 0], [0]), ([3, 16, 0, 1, 2, 3, 16], [3]), ([15, 17, 0, 1, 2, 3, 4, 5, 6, 7, 8, 9, 10, 11, 12, 13, 14, 15, 16, 17], [15])])
def spec_DrawFirstTick.B3 : List Nat := [0, 0, 0, 6, 0, 0, 32, 96, 238, 494, 1006, 2046, 0, 8190, 16382, 32766, 16383, 81919, 262143]
theorem spec_DrawFirstTick.tab3 : rtab .any (opsOf Tryd.f80 3) = spec_DrawFirstTick.T3 := by kernel_rfl
theorem spec_DrawFirstTick.bits3 : waitsOk spec_DrawFirstTick.T3.2 spec_DrawFirstTick.B3 = true := by kernel_rfl
set_option maxHeartbeats 8000000 in
set_option maxRecDepth 100000 in
theorem spec_DrawFirstTick.calls (k : Nat) (A0 : Option Addr) (c0 : Nat) (l0 : List Int) (r1 : List ByteArray) (r2 : ByteArray) (r3 : Int) (w : World) (hr0 : Kd.C (Kd.int .u8) w A0 l0.length l0) (hc0 : l0.length ≤ c0) (h : spec_DrawFirstTick.f k l0 = some (r1, r2, r3)) :
  Calls Tryd.prog 80 #[.slice A0 l0.length c0] w fun e w' => ∃ v0_ : Value, e = .returned (.tuple #[.agg #[v0_], .string r2, .int .i64 r3]) ∧ Kd.R Kd.string 9 w' w.heap.size (fun _ => True) v0_ r1 ∧ Below w.heap.size w w' := by
 have hu29 := Tryd.underlying29
 have hu147 := Tryd.underlying147
 have HR0 := aM hr0
 have HC0 := aM hc0
 clear hr0 hc0
 have HB := aM (Below.refl w.heap.size w)
 have H : ((spec_l1Cur_lamps.f k l0 0 0).bind fun bt390 => ((spec_l1Cur_lit.f k l0 bt390.2.1 bt390.2.2 bt390.1).bind fun bt396 => ((spec_l1Most.f 1 (bt390.1.length : Int)).bind fun t399 => ((spec_l1Least.f 10 t399).bind fun t400 => ((spec_l1Cur_pick.f l0 bt396.2.1 bt396.2.2 (wrap64 (t400 + 1))).bind fun bt401 => ((spec_l1Cur_pick.f l0 bt401.2.1 bt401.2.2 9).bind fun bt404 => (some (bt390.1, bt396.1, wrap64 (bt401.1 - (wrap64 (Int.tdiv bt404.1 8))))))))))) = some (r1, r2, r3) := h
 clear h
 replace H := Option.bind_eq_some_iff.mp H
 obtain ⟨⟨t390, t393, t394⟩, A20, H⟩ := H
 dsimp only at H
 have A2 := aM A20
 clear A20
 replace H := Option.bind_eq_some_iff.mp H
 obtain ⟨⟨t396, t397, t398⟩, A30, H⟩ := H
 dsimp only at H
 have A3 := aM A30
 clear A30
 replace H := Option.bind_eq_some_iff.mp H
 obtain ⟨t399, A40, H⟩ := H
 replace H : ((spec_l1Least.f 10 t399).bind fun t400 => ((spec_l1Cur_pick.f l0 t397 t398 (wrap64 (t400 + 1))).bind fun bt401 => ((spec_l1Cur_pick.f l0 bt401.2.1 bt401.2.2 9).bind fun bt404 => (some (t390, t396, wrap64 (bt401.1 - (wrap64 (Int.tdiv bt404.1 8)))))))) = some (r1, r2, r3) := H
 have A4 := aM A40
 clear A40
 replace H := Option.bind_eq_some_iff.mp H
 obtain ⟨t400, A50, H⟩ := H
 replace H : ((spec_l1Cur_pick.f l0 t397 t398 (wrap64 (t400 + 1))).bind fun bt401 => ((spec_l1Cur_pick.f l0 bt401.2.1 bt401.2.2 9).bind fun bt404 => (some (t390, t396, wrap64 (bt401.1 - (wrap64 (Int.tdiv bt404.1 8))))))) = some (r1, r2, r3) := H
 have A5 := aM A50
 clear A50
 replace H := Option.bind_eq_some_iff.mp H
 obtain ⟨⟨t401, t402, t403⟩, A60, H⟩ := H
 dsimp only at H
 have A6 := aM A60
 clear A60
 replace H := Option.bind_eq_some_iff.mp H
 obtain ⟨⟨t404, t405, t406⟩, A70, H⟩ := H
 dsimp only at H
 have A7 := aM A70
 clear A70
 simp only [Option.some.injEq, Prod.mk.injEq] at H
 obtain ⟨rfl, rfl, rfl⟩ := H
 go_enter Tryd.func80, Tryd.ntmps80
 try go_wp2_with (first | ((with_reducible refine gate_dst (N := 2) rfl ?_); refine box_event ?hg (N := 2) ?hd (cs := #[.slice none 0 0]) (t := 29) ?hr ?_; (case hd => rfl); (case hg => rfl); (case hr => first | (go_simp; done) | (go_simp; rfl)); intro gb388 hg w8 hbox hb; have n0_ := aM (below_step (by bB) hb); have n1_ := aM (hbox); have n2_ := aM ((by rw [hg]; exact (below_size (by bB)) : w.heap.size ≤ gb388)); have n3_ := aM ((by rw [hg]; exact (below_size (by bB)) : w.heap.size ≤ gb388)); clear HB; have HB := n0_; have BK388 := n1_; have GW388 := n2_; have GE388 := n3_; clear n0_ n1_ n2_ n3_; clear hb hbox hg) | ((with_reducible refine gate_dst (N := 9) rfl ?_); refine box_event ?hg (N := 9) ?hd (cs := #[.slice A0 l0.length c0, .int .i64 0, .int .u64 0]) (t := 147) ?hr ?_; (case hd => rfl); (case hg => rfl); (case hr => first | (go_simp; done) | (go_simp; rfl)); intro gb389 hg w9 hbox hb; have n0_ := aM (blk_below (g := gb388) (o := .cells #[.slice none 0 0] 29 (0, 0)) (by (with_reducible repeat (first | refine blk_drewN ?_ _ | refine blk_drew ?_ | refine blk_alloc ?_ _)); exact BK388.out) hb); have n1_ := aM (below_step (by repeat (first | (with_reducible first | exact HB.out | apply below_alloc | apply pw_below_drewN | apply below_drew1 | refine below_set ?_ GE388.out) | exact HB.out)) hb); have n2_ := aM ((show IsS147 w w9 gb389 l0 0 0 from ⟨_, _, hbox, (by rw [hg]; exact (below_size (by repeat (first | (with_reducible first | exact HB.out | apply below_alloc | apply pw_below_drewN | apply below_drew1 | refine below_set ?_ GE388.out) | exact HB.out))) : w.heap.size ≤ gb389), HR0.out⟩)); have n3_ := aM ((by rw [hg]; exact Nat.ne_of_gt (blk_lt (g := gb388) (o := .cells #[.slice none 0 0] 29 (0, 0)) (by (with_reducible repeat (first | refine blk_drewN ?_ _ | refine blk_drew ?_ | refine blk_alloc ?_ _)); exact BK388.out)) : gb389 ≠ gb388)); have n4_ := aM ((by rw [hg]; exact Nat.ne_of_lt (blk_lt (g := gb388) (o := .cells #[.slice none 0 0] 29 (0, 0)) (by (with_reducible repeat (first | refine blk_drewN ?_ _ | refine blk_drew ?_ | refine blk_alloc ?_ _)); exact BK388.out)) : gb388 ≠ gb389)); clear BK388; clear HB; have BK388 := n0_; have HB := n1_; have HI389 := n2_; have NB389_388 := n3_; have NB388_389 := n4_; clear n0_ n1_ n2_ n3_ n4_; clear hb hbox hg) | ((with_reducible refine gate_callee (f := 164) rfl ?_); refine goesL_ (some 11) rfl rfl Tryd.func164 (by kernel_rfl) rfl #[.pointer (some ⟨gb389, 0, none⟩)] rfl (by mA) ?_; (with_reducible refine (spec_l1Cur_lamps.calls k gb389 l0 0 0 t390 t393 t394 w _ ?side1 ?side2 A2.out).mono ?_); (case side1 => repeat (first | (with_reducible first | exact HI389.out | apply IsS147.alloc | apply IsS147.drewN | apply IsS147.drew | apply IsS147.set_1 | apply IsS147.set_2 | refine IsS147.far ?_ NB389_388.out _) | exact HI389.out)); (case side2 => repeat (first | (with_reducible first | exact HB.out | apply below_alloc | apply pw_below_drewN | apply below_drew1 | refine below_set ?_ (IsS147.ge HI389.out) | refine below_set ?_ GE388.out) | exact HB.out)); rintro e w10 ⟨v391, rfl, ho0, hi, hb, hk⟩; refine ⟨_, rfl, ?_⟩; have n0_ := aM (KeepBut.blk hk (g' := gb388) (o := .cells #[.slice none 0 0] 29 (0, 0)) (by (with_reducible repeat (first | refine blk_drewN ?_ _ | refine blk_drew ?_ | refine blk_alloc ?_ _)); exact BK388.out) NB388_389.out (by simp)); have n1_ := aM (Kd.R_lower ho0 (below_size (by repeat (first | (with_reducible first | exact HB.out | apply below_alloc | apply pw_below_drewN | apply below_drew1 | refine below_set ?_ (IsS147.ge HI389.out) | refine below_set ?_ GE388.out) | exact HB.out)))); have n2_ := aM (hb); have n3_ := aM (hi); clear BK388; clear HB; clear HI389; have BK388 := n0_; have HO392 := n1_; have HB := n2_; have HI389 := n3_; clear n0_ n1_ n2_ n3_; cX; (try clear ho0)) | ((with_reducible refine gate_dst (N := 6) rfl ?_); refine box_event ?hg (N := 6) ?hd (cs := #[.slice none 0 0]) (t := 29) ?hr ?_; (case hd => rfl); (case hg => rfl); (case hr => first | (go_simp; done) | (go_simp; rfl)); intro gb395 hg w11 hbox hb; have n0_ := aM (Kd.R_below (by (rX); exact HO392.out) hb); have n1_ := aM (blk_below (g := gb388) (o := .cells #[.slice none 0 0] 29 (0, 0)) (by (with_reducible repeat (first | refine blk_drewN ?_ _ | refine blk_drew ?_ | refine blk_alloc ?_ _)); exact BK388.out) hb); have n2_ := aM (IsS147.below (by repeat (first | (with_reducible first | exact HI389.out | apply IsS147.alloc | apply IsS147.drewN | apply IsS147.drew | apply IsS147.set_1 | apply IsS147.set_2 | refine IsS147.far ?_ NB389_388.out _) | exact HI389.out)) hb); have n3_ := aM (below_step (by repeat (first | (with_reducible first | exact HB.out | apply below_alloc | apply pw_below_drewN | apply below_drew1 | refine below_set ?_ (IsS147.ge HI389.out) | refine below_set ?_ GE388.out) | exact HB.out)) hb); have n4_ := aM (hbox); have n5_ := aM ((by rw [hg]; exact (below_size (by repeat (first | (with_reducible first | exact HB.out | apply below_alloc | apply pw_below_drewN | apply below_drew1 | refine below_set ?_ (IsS147.ge HI389.out) | refine below_set ?_ GE388.out) | exact HB.out))) : w.heap.size ≤ gb395)); have n6_ := aM ((by rw [hg]; exact (below_size (by repeat (first | (with_reducible first | exact HB.out | apply below_alloc | apply pw_below_drewN | apply below_drew1 | refine below_set ?_ (IsS147.ge HI389.out) | refine below_set ?_ GE388.out) | exact HB.out))) : w.heap.size ≤ gb395)); have n7_ := aM ((by rw [hg]; exact Nat.ne_of_lt (blk_lt (g := gb388) (o := .cells #[.slice none 0 0] 29 (0, 0)) (by (with_reducible repeat (first | refine blk_drewN ?_ _ | refine blk_drew ?_ | refine blk_alloc ?_ _)); exact BK388.out)) : gb388 ≠ gb395)); have n8_ := aM ((by rw [hg]; exact Nat.ne_of_gt (blk_lt (g := gb388) (o := .cells #[.slice none 0 0] 29 (0, 0)) (by (with_reducible repeat (first | refine blk_drewN ?_ _ | refine blk_drew ?_ | refine blk_alloc ?_ _)); exact BK388.out)) : gb395 ≠ gb388)); have n9_ := aM ((by rw [hg]; exact Nat.ne_of_lt (IsS147.lt (show IsS147 w _ gb389 l0 t393 t394 from by repeat (first | (with_reducible first | exact HI389.out | apply IsS147.alloc | apply IsS147.drewN | apply IsS147.drew | apply IsS147.set_1 | apply IsS147.set_2 | refine IsS147.far ?_ NB389_388.out _) | exact HI389.out))) : gb389 ≠ gb395)); have n10_ := aM ((by rw [hg]; exact Nat.ne_of_gt (IsS147.lt (show IsS147 w _ gb389 l0 t393 t394 from by repeat (first | (with_reducible first | exact HI389.out | apply IsS147.alloc | apply IsS147.drewN | apply IsS147.drew | apply IsS147.set_1 | apply IsS147.set_2 | refine IsS147.far ?_ NB389_388.out _) | exact HI389.out))) : gb395 ≠ gb389)); clear HO392; clear BK388; clear HI389; clear HB; have HO392 := n0_; have BK388 := n1_; have HI389 := n2_; have HB := n3_; have BK395 := n4_; have GW395 := n5_; have GE395 := n6_; have NB388_395 := n7_; have NB395_388 := n8_; have NB389_395 := n9_; have NB395_389 := n10_; clear n0_ n1_ n2_ n3_ n4_ n5_ n6_ n7_ n8_ n9_ n10_; clear hb hbox hg; obtain ⟨Ao12, co12, eo12⟩ := Kd.R_slice HO392.out; subst eo12; have hnb13 := NB395_388.out; have hnc13 := NB388_395.out; have hnb14 := NB395_389.out; have hnc14 := NB389_395.out; have hcz15_0 : w11.cell? ⟨gb395, 0, none⟩ = some (.slice none 0 0) := (blk_cell BK395.out 0).trans rfl; have hfz15_0 := blk_frozen BK395.out 0))
 have n0_ : Aside0 (Kd.R Kd.string 9 (w11.setCell ⟨gb395, 0, none⟩ (.slice Ao12 t390.length co12)) w.heap.size (fun _ => True) (.slice Ao12 t390.length co12) t390) := ⟨by (rX); exact Kd.R_mono (Kd.R_far (p := ⟨gb395, 0, none⟩) (Kd.R_types HO392.out BK395.out (by decide)) (fun _ hk => hk.2) (.slice Ao12 t390.length co12)) (fun _ hk => trivial)⟩
 have n1_ : Aside0 ((w11.setCell ⟨gb395, 0, none⟩ (.slice Ao12 t390.length co12)).heap[gb388]? = some (.cells #[.slice none 0 0] 29 (0, 0))) := ⟨by (with_reducible repeat (first | refine blk_drewN ?_ _ | refine blk_drew ?_ | refine blk_alloc ?_ _)); refine blk_far ?_ NB388_395.out _; (with_reducible repeat (first | refine blk_drewN ?_ _ | refine blk_drew ?_ | refine blk_alloc ?_ _)); exact BK388.out⟩
 have n2_ : Aside0 ((w11.setCell ⟨gb395, 0, none⟩ (.slice Ao12 t390.length co12)).heap[gb395]? = some (.cells #[.slice Ao12 t390.length co12] 29 (0, 0))) := ⟨by (with_reducible repeat (first | refine blk_drewN ?_ _ | refine blk_drew ?_ | refine blk_alloc ?_ _)); refine blk_put (cs := #[.slice none 0 0]) ?_ 0 _ rfl; (with_reducible repeat (first | refine blk_drewN ?_ _ | refine blk_drew ?_ | refine blk_alloc ?_ _)); exact BK395.out⟩
 have n3_ : Aside0 (IsS147 w (w11.setCell ⟨gb395, 0, none⟩ (.slice Ao12 t390.length co12)) gb389 l0 t393 t394) := ⟨by repeat (first | (with_reducible first | exact HI389.out | apply IsS147.alloc | apply IsS147.drewN | apply IsS147.drew | apply IsS147.set_1 | apply IsS147.set_2 | refine IsS147.far ?_ NB389_388.out _ | refine IsS147.far ?_ NB389_395.out _) | exact HI389.out)⟩
 have n4_ : Aside0 (Below w.heap.size w (w11.setCell ⟨gb395, 0, none⟩ (.slice Ao12 t390.length co12))) := ⟨by repeat (first | (with_reducible first | exact HB.out | apply below_alloc | apply pw_below_drewN | apply below_drew1 | refine below_set ?_ (IsS147.ge HI389.out) | refine below_set ?_ GE388.out | refine below_set ?_ GE395.out) | exact HB.out)⟩
 (try clear HO392)
 (try clear BK388)
 (try clear BK395)
 (try clear HI389)
 (try clear HB)
 generalize (w11.setCell ⟨gb395, 0, none⟩ (.slice Ao12 t390.length co12)) = w16 at n0_ n1_ n2_ n3_ n4_ ⊢
 have HO392 := n0_
 have BK388 := n1_
 have BK395 := n2_
 have HI389 := n3_
 have HB := n4_
 clear n0_ n1_ n2_ n3_ n4_
 have n0_ := aM (Kd.R_drew HO392.out)
 have n1_ := aM (blk_drew BK388.out)
 have n2_ := aM (blk_drew BK395.out)
 have n3_ := aM (IsS147.drew HI389.out)
 have n4_ := aM (below_drew1 HB.out)
 clear HO392
 clear BK388
 clear BK395
 clear HI389
 clear HB
 have HO392 := n0_
 have BK388 := n1_
 have BK395 := n2_
 have HI389 := n3_
 have HB := n4_
 clear n0_ n1_ n2_ n3_ n4_
 refine start_ (n := 19) (S := fun w' => w'.cell? ⟨gb395, 0, none⟩ = some (.slice Ao12 t390.length co12)) (ds := []) #[false, false, false, false, false, false, false, false, false, false, false, false, false, false, false, false, false, false, false] (by kernel_rfl) rfl rfl ((blk_cell BK395.out 0).trans rfl) (fun hHeld => ?_); refine with_tabW spec_DrawFirstTick.tab3 spec_DrawFirstTick.bits3 (fun HT_ HW_ => ?_)
 generalize w16.drew = w17 at HO392 BK388 BK395 HI389 HB hHeld ⊢
 pU 1 (some 13) #[false, true, false, false, false, false, false, false, false, false, false, false, false, false, false, false, false, false, false]
 rotate_left
 ·intro w'
  go_simp
  with_reducible rfl
 rotate_left
 ·simp only [Act.put, List.setIfInBounds_toArray, List.set_cons_zero, List.set_cons_succ, i64_w, i32_w]
  rfl
 pU 4 (some 16) #[false, true, false, false, true, false, false, false, false, false, false, false, false, false, false, false, false, false, false]
 rotate_left
 ·intro w'
  go_simp
  with_reducible rfl
 rotate_left
 ·simp only [Act.put, List.setIfInBounds_toArray, List.set_cons_zero, List.set_cons_succ, i64_w, i32_w]
  rfl
 pU 5 (some 17) #[false, true, false, false, true, true, false, false, false, false, false, false, false, false, false, false, false, false, false]
 rotate_left
 ·intro w'
  go_simp
  with_reducible rfl
 rotate_left
 ·simp only [Act.put, List.setIfInBounds_toArray, List.set_cons_zero, List.set_cons_succ, i64_w, i32_w]
  rfl
 pU 12 (some 24) #[false, true, false, false, true, true, false, false, false, false, false, false, true, false, false, false, false, false, false]
 rotate_left
 ·intro w'
  go_simp
  with_reducible rfl
 rotate_left
 ·simp only [Act.put, List.setIfInBounds_toArray, List.set_cons_zero, List.set_cons_succ, i64_w, i32_w]
  rfl
 refine take_ (i := 0) (N := some 12) (v := ?_) (a' := ?_) #[true, true, false, false, true, true, false, false, false, false, false, false, true, false, false, false, false, false, false] rfl rfl (take_ofW HT_.out HW_.out (by kernel_rfl)) (fun _ _ _ h => h) (Or.inl ⟨by rfl, ?_⟩) hHeld ?_ ?_
 rotate_left
 ·intro w' s0
  go_simp
  with_reducible rfl
 rotate_left
 ·simp only [Act.put, List.setIfInBounds_toArray, List.set_cons_zero, List.set_cons_succ, i64_w, i32_w]
  rfl
 refine take_ (i := 2) (N := some 14) (v := ?_) (a' := ?_) #[true, true, true, false, true, true, false, false, false, false, false, false, true, false, false, false, false, false, false] rfl rfl (take_ofW HT_.out HW_.out (by kernel_rfl)) (fun _ _ _ h => h) (Or.inl ⟨by rfl, ?_⟩) hHeld ?_ ?_
 rotate_left
 ·intro w' s0
  go_simp
  with_reducible rfl
 rotate_left
 ·simp only [Act.put, List.setIfInBounds_toArray, List.set_cons_zero, List.set_cons_succ, i64_w, i32_w]
  rfl
 refine take_ (i := 6) (N := some 18) (v := ?_) (a' := ?_) #[true, true, true, false, true, true, true, false, false, false, false, false, true, false, false, false, false, false, false] rfl rfl (take_ofW HT_.out HW_.out (by kernel_rfl)) (fun _ _ _ h => h) (Or.inl ⟨by rfl, ?_⟩) hHeld ?_ ?_
 rotate_left
 ·intro w' s0
  go_simp
  with_reducible rfl
 rotate_left
 ·simp only [Act.put, List.setIfInBounds_toArray, List.set_cons_zero, List.set_cons_succ, i64_w, i32_w]
  rfl
 pU 7 (some 19) #[true, true, true, false, true, true, true, true, false, false, false, false, true, false, false, false, false, false, false]
 rotate_left
 ·intro w'
  go_simp
  with_reducible rfl
 rotate_left
 ·simp only [Act.put, List.setIfInBounds_toArray, List.set_cons_zero, List.set_cons_succ, i64_w, i32_w]
  rfl
 refine one_ (i := 3) (N := some 15) #[true, true, true, true, true, true, true, true, false, false, false, false, true, false, false, false, false, false, false] rfl rfl (one_of HT_.out (by kernel_rfl)) (by decide) (fun K hK => ?_)
 refine goes_ Tryd.func165 (by kernel_rfl) rfl #[.pointer (some ⟨gb389, 0, none⟩), .agg #[.slice Ao12 t390.length co12]] (by rfl) rfl rfl (by mA) ?_
 with_reducible refine (spec_l1Cur_lit.calls k gb389 l0 t393 t394 _ _ t390 t396 t397 t398 w _ ?side1 ?side2 ?side3 ?side4 ?side5 A3.out).mono ?_
 (case side1 => repeat (first | (with_reducible first | exact HI389.out | apply IsS147.alloc | apply IsS147.drewN | apply IsS147.drew | apply IsS147.set_1 | apply IsS147.set_2 | refine IsS147.far ?_ NB389_388.out _ | refine IsS147.far ?_ NB389_395.out _) | exact HI389.out))
 (case side2 => repeat (first | (with_reducible first | exact HB.out | apply below_alloc | apply pw_below_drewN | apply below_drew1 | refine below_set ?_ (IsS147.ge HI389.out) | refine below_set ?_ GE388.out | refine below_set ?_ GE395.out) | exact HB.out))
 (case side3 => cC ((Kd.R_reads' HO392.out).2.2))
 (case side4 => exact (Kd.R_reads' HO392.out).2.1)
 (case side5 => exact far_slice (IsS147.own_ne HI389.out HO392.out (by decide)))
 rintro e w18 ⟨rfl, hi, hb, hk⟩
 refine ⟨_, rfl, ?_⟩
 have n0_ := aM (KeepBut.blk hk (g' := gb388) (o := .cells #[.slice none 0 0] 29 (0, 0)) (by (with_reducible repeat (first | refine blk_drewN ?_ _ | refine blk_drew ?_ | refine blk_alloc ?_ _)); exact BK388.out) NB388_389.out (by simp))
 have n1_ := aM (Kd.R_mono (Kd.R_keep (IsS147.apart (show IsS147 w _ gb389 l0 t393 t394 from by repeat (first | (with_reducible first | exact HI389.out | apply IsS147.alloc | apply IsS147.drewN | apply IsS147.drew | apply IsS147.set_1 | apply IsS147.set_2 | refine IsS147.far ?_ NB389_388.out _ | refine IsS147.far ?_ NB389_395.out _) | exact HI389.out)) (by (rX); exact HO392.out) (by decide)) hk (fun _ h => h.2)) (fun _ h => h.1))
 have n2_ := aM (KeepBut.blk hk (g' := gb395) (o := .cells #[.slice Ao12 t390.length co12] 29 (0, 0)) (by (with_reducible repeat (first | refine blk_drewN ?_ _ | refine blk_drew ?_ | refine blk_alloc ?_ _)); exact BK395.out) NB395_389.out (by simp))
 have n3_ := aM (hb)
 have n4_ := aM (hi)
 clear BK388
 clear HO392
 clear BK395
 clear HB
 clear HI389
 have BK388 := n0_
 have HO392 := n1_
 have BK395 := n2_
 have HB := n3_
 have HI389 := n4_
 clear n0_ n1_ n2_ n3_ n4_
 (try clear hb)
 (try clear hb2)
 (try clear hk)
 (try clear hi)
 refine hK.out _ _ ((blk_cell BK395.out 0).trans rfl) (fun hHeld => ?_)
 clear hK K
 refine norm_ (a' := ?_) ?_ ?_
 rotate_left
 ·show Act.put _ (some 15) _ = _
  simp only [Act.put, List.setIfInBounds_toArray, List.set_cons_zero, List.set_cons_succ, i64_w, i32_w]
  rfl
 refine one_ (i := 8) (N := some 20) #[true, true, true, true, true, true, true, true, true, false, false, false, true, false, false, false, false, false, false] rfl rfl (one_of HT_.out (by kernel_rfl)) (by decide) (fun K hK => ?_)
 refine goes_ Tryd.func150 (by kernel_rfl) rfl #[.int .i64 1, .int .i64 (t390.length : Int)] (by rfl) rfl rfl (by mA) ?_
 with_reducible refine (spec_l1Most.calls 1 (t390.length : Int) t399 _ A4.out).mono ?_
 rintro e w' ⟨rfl, ⟨nd, rfl⟩⟩
 refine ⟨_, rfl, ?_⟩
 refine hK.out _ _ ((blk_cell BK395.out 0).trans rfl) (fun hHeld => ?_)
 clear hK K
 refine norm_ (a' := ?_) ?_ ?_
 rotate_left
 ·show Act.put _ (some 20) _ = _
  simp only [Act.put, List.setIfInBounds_toArray, List.set_cons_zero, List.set_cons_succ, i64_w, i32_w]
  rfl
 refine one_ (i := 9) (N := some 21) #[true, true, true, true, true, true, true, true, true, true, false, false, true, false, false, false, false, false, false] rfl rfl (one_of HT_.out (by kernel_rfl)) (by decide) (fun K hK => ?_)
 refine goes_ Tryd.func161 (by kernel_rfl) rfl #[.int .i64 10, .int .i64 t399] (by rfl) rfl rfl (by mA) ?_
 with_reducible refine (spec_l1Least.calls 10 t399 t400 _ A5.out).mono ?_
 rintro e w' ⟨rfl, ⟨nd, rfl⟩⟩
 refine ⟨_, rfl, ?_⟩
 refine hK.out _ _ ((blk_cell BK395.out 0).trans rfl) (fun hHeld => ?_)
 clear hK K
 refine norm_ (a' := ?_) ?_ ?_
 rotate_left
 ·show Act.put _ (some 21) _ = _
  simp only [Act.put, List.setIfInBounds_toArray, List.set_cons_zero, List.set_cons_succ, i64_w, i32_w]
  rfl
 pU 10 (some 22) #[true, true, true, true, true, true, true, true, true, true, true, false, true, false, false, false, false, false, false]
 rotate_left
 ·intro w'
  go_simp
  with_reducible rfl
 rotate_left
 ·simp only [Act.put, List.setIfInBounds_toArray, List.set_cons_zero, List.set_cons_succ, i64_w, i32_w]
  rfl
 refine one_ (i := 11) (N := some 23) #[true, true, true, true, true, true, true, true, true, true, true, true, true, false, false, false, false, false, false] rfl rfl (one_of HT_.out (by kernel_rfl)) (by decide) (fun K hK => ?_)
 refine goes_ Tryd.func168 (by kernel_rfl) rfl #[.pointer (some ⟨gb389, 0, none⟩), .int .i64 (wrap64 (t400 + 1))] (by rfl) rfl rfl (by mA) ?_
 with_reducible refine (spec_l1Cur_pick.calls gb389 l0 t397 t398 (wrap64 (t400 + 1)) t401 t402 t403 w _ ?side1 ?side2 A6.out).mono ?_
 (case side1 => repeat (first | (with_reducible first | exact HI389.out | apply IsS147.alloc | apply IsS147.drewN | apply IsS147.drew | apply IsS147.set_1 | apply IsS147.set_2 | refine IsS147.far ?_ NB389_388.out _ | refine IsS147.far ?_ NB389_395.out _) | exact HI389.out))
 (case side2 => repeat (first | (with_reducible first | exact HB.out | apply below_alloc | apply pw_below_drewN | apply below_drew1 | refine below_set ?_ (IsS147.ge HI389.out) | refine below_set ?_ GE388.out | refine below_set ?_ GE395.out) | exact HB.out))
 rintro e w19 ⟨rfl, hi, hb, hk⟩
 refine ⟨_, rfl, ?_⟩
 have n0_ := aM (KeepBut.blk hk (g' := gb388) (o := .cells #[.slice none 0 0] 29 (0, 0)) (by (with_reducible repeat (first | refine blk_drewN ?_ _ | refine blk_drew ?_ | refine blk_alloc ?_ _)); exact BK388.out) NB388_389.out (by simp))
 have n1_ := aM (Kd.R_mono (Kd.R_keep (IsS147.apart (show IsS147 w _ gb389 l0 t397 t398 from by repeat (first | (with_reducible first | exact HI389.out | apply IsS147.alloc | apply IsS147.drewN | apply IsS147.drew | apply IsS147.set_1 | apply IsS147.set_2 | refine IsS147.far ?_ NB389_388.out _ | refine IsS147.far ?_ NB389_395.out _) | exact HI389.out)) (by (rX); exact HO392.out) (by decide)) hk (fun _ h => h.2)) (fun _ h => h.1))
 have n2_ := aM (KeepBut.blk hk (g' := gb395) (o := .cells #[.slice Ao12 t390.length co12] 29 (0, 0)) (by (with_reducible repeat (first | refine blk_drewN ?_ _ | refine blk_drew ?_ | refine blk_alloc ?_ _)); exact BK395.out) NB395_389.out (by simp))
 have n3_ := aM (hb)
 have n4_ := aM (hi)
 clear BK388
 clear HO392
 clear BK395
 clear HB
 clear HI389
 have BK388 := n0_
 have HO392 := n1_
 have BK395 := n2_
 have HB := n3_
 have HI389 := n4_
 clear n0_ n1_ n2_ n3_ n4_
 (try clear hb)
 (try clear hb2)
 (try clear hk)
 (try clear hi)
 refine hK.out _ _ ((blk_cell BK395.out 0).trans rfl) (fun hHeld => ?_)
 clear hK K
 refine norm_ (a' := ?_) ?_ ?_
 rotate_left
 ·show Act.put _ (some 23) _ = _
  simp only [Act.put, List.setIfInBounds_toArray, List.set_cons_zero, List.set_cons_succ, i64_w, i32_w]
  rfl
 refine one_ (i := 13) (N := some 25) #[true, true, true, true, true, true, true, true, true, true, true, true, true, true, false, false, false, false, false] rfl rfl (one_of HT_.out (by kernel_rfl)) (by decide) (fun K hK => ?_)
 refine goes_ Tryd.func168 (by kernel_rfl) rfl #[.pointer (some ⟨gb389, 0, none⟩), .int .i64 9] (by rfl) rfl rfl (by mA) ?_
 with_reducible refine (spec_l1Cur_pick.calls gb389 l0 t402 t403 9 t404 t405 t406 w _ ?side1 ?side2 A7.out).mono ?_
 (case side1 => repeat (first | (with_reducible first | exact HI389.out | apply IsS147.alloc | apply IsS147.drewN | apply IsS147.drew | apply IsS147.set_1 | apply IsS147.set_2 | refine IsS147.far ?_ NB389_388.out _ | refine IsS147.far ?_ NB389_395.out _) | exact HI389.out))
 (case side2 => repeat (first | (with_reducible first | exact HB.out | apply below_alloc | apply pw_below_drewN | apply below_drew1 | refine below_set ?_ (IsS147.ge HI389.out) | refine below_set ?_ GE388.out | refine below_set ?_ GE395.out) | exact HB.out))
 rintro e w20 ⟨rfl, hi, hb, hk⟩
 refine ⟨_, rfl, ?_⟩
 have n0_ := aM (KeepBut.blk hk (g' := gb388) (o := .cells #[.slice none 0 0] 29 (0, 0)) (by (with_reducible repeat (first | refine blk_drewN ?_ _ | refine blk_drew ?_ | refine blk_alloc ?_ _)); exact BK388.out) NB388_389.out (by simp))
 have n1_ := aM (Kd.R_mono (Kd.R_keep (IsS147.apart (show IsS147 w _ gb389 l0 t402 t403 from by repeat (first | (with_reducible first | exact HI389.out | apply IsS147.alloc | apply IsS147.drewN | apply IsS147.drew | apply IsS147.set_1 | apply IsS147.set_2 | refine IsS147.far ?_ NB389_388.out _ | refine IsS147.far ?_ NB389_395.out _) | exact HI389.out)) (by (rX); exact HO392.out) (by decide)) hk (fun _ h => h.2)) (fun _ h => h.1))
 have n2_ := aM (KeepBut.blk hk (g' := gb395) (o := .cells #[.slice Ao12 t390.length co12] 29 (0, 0)) (by (with_reducible repeat (first | refine blk_drewN ?_ _ | refine blk_drew ?_ | refine blk_alloc ?_ _)); exact BK395.out) NB395_389.out (by simp))
 have n3_ := aM (hb)
 have n4_ := aM (hi)
 clear BK388
 clear HO392
 clear BK395
 clear HB
 clear HI389
 have BK388 := n0_
 have HO392 := n1_
 have BK395 := n2_
 have HB := n3_
 have HI389 := n4_
 clear n0_ n1_ n2_ n3_ n4_
 (try clear hb)
 (try clear hb2)
 (try clear hk)
 (try clear hi)
 refine hK.out _ _ ((blk_cell BK395.out 0).trans rfl) (fun hHeld => ?_)
 clear hK K
 refine norm_ (a' := ?_) ?_ ?_
 rotate_left
 ·show Act.put _ (some 25) _ = _
  simp only [Act.put, List.setIfInBounds_toArray, List.set_cons_zero, List.set_cons_succ, i64_w, i32_w]
  rfl
 pU 14 (some 26) #[true, true, true, true, true, true, true, true, true, true, true, true, true, true, true, false, false, false, false]
 rotate_left
 ·intro w'
  go_simp
  with_reducible rfl
 rotate_left
 ·simp only [Act.put, List.setIfInBounds_toArray, List.set_cons_zero, List.set_cons_succ, i64_w, i32_w]
  rfl
 pU 15 (some 27) #[true, true, true, true, true, true, true, true, true, true, true, true, true, true, true, true, false, false, false]
 rotate_left
 ·intro w'
  go_simp
  with_reducible rfl
 rotate_left
 ·simp only [Act.put, List.setIfInBounds_toArray, List.set_cons_zero, List.set_cons_succ, i64_w, i32_w]
  rfl
 refine one_ (i := 16) (N := none) #[true, true, true, true, true, true, true, true, true, true, true, true, true, true, true, true, true, false, false] rfl rfl (one_of HT_.out (by kernel_rfl)) (by decide) (fun K hK => ?_)
 have hs21 : w20.cell? ⟨gb388, 0, none⟩ = some (.slice none 0 0) := (blk_cell BK388.out 0).trans rfl
 have hfs21 := blk_frozen BK388.out 0
 have hns21_1 := NB395_388.out
 have hms21_1 := NB388_395.out
 refine skip_ (w1 := ?_) (by rfl) rfl ?_ ?_
 rotate_left
 ·go_simp
  rfl
 refine hK.out _ _ (((cell_far (p := ⟨gb388, _, none⟩) NB395_388.out _).trans (hHeld))) (fun hHeld => ?_)
 clear hK K
 pU 17 (some 3) #[true, true, true, true, true, true, true, true, true, true, true, true, true, true, true, true, true, true, false]
 rotate_left
 ·intro w'
  go_simp
  with_reducible rfl
 rotate_left
 ·simp only [Act.put, List.setIfInBounds_toArray, List.set_cons_zero, List.set_cons_succ, i64_w, i32_w]
  rfl
 pU 18 (some 4) #[true, true, true, true, true, true, true, true, true, true, true, true, true, true, true, true, true, true, true]
 rotate_left
 ·intro w'
  go_simp
  with_reducible rfl
 rotate_left
 ·simp only [Act.put, List.setIfInBounds_toArray, List.set_cons_zero, List.set_cons_succ, i64_w, i32_w]
  rfl
 refine done_ (done_of HT_.out (by kernel_rfl)) ?_
 try go_wp2
 refine bodyPost_ret (results_ctt rfl _ _ gb388 29 #[.slice Ao12 t390.length co12] (0, 0) _ rfl (by (with_reducible repeat (first | refine blk_drewN ?_ _ | refine blk_drew ?_ | refine blk_alloc ?_ _)); refine blk_put (cs := #[.slice none 0 0]) ?_ 0 _ rfl; (with_reducible repeat (first | refine blk_drewN ?_ _ | refine blk_drew ?_ | refine blk_alloc ?_ _)); exact BK388.out) Tryd.underlying29 rfl (by kernel_rfl)) rfl ?_
 exact ⟨_, by eW, by (rX); exact Kd.R_mono (Kd.R_far (p := ⟨gb388, 0, none⟩) (Kd.R_types HO392.out BK388.out (by decide)) (fun _ hk => hk.2) (.slice Ao12 t390.length co12)) (fun _ hk => trivial), by repeat (first | (with_reducible first | exact HB.out | apply below_alloc | apply pw_below_drewN | apply below_drew1 | refine below_set ?_ (IsS147.ge HI389.out) | refine below_set ?_ GE388.out | refine below_set ?_ GE395.out) | exact HB.out)⟩

end Go.Proofs.YtifdgebdkhdmhaaDoor.PLTick
