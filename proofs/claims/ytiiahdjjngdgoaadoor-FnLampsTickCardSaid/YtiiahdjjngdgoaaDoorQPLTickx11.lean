-- squeezed (sq3.py); PRINTED by drive.py (a program of this session's, over the kit's print.py; wip/tools/drive.py). Lean checks it.
import Derived.Test.YtiiahdjjngdgoaaDoorQPLTickx0
import Derived.Test.YtiiahdjjngdgoaaDoorQPLTickx1
import Derived.Test.YtiiahdjjngdgoaaDoorQPLTickx3
import Derived.Test.YtiiahdjjngdgoaaDoorQPLTickx4
import Derived.Test.YtiiahdjjngdgoaaDoorQPLTickx5
import Derived.Test.YtiiahdjjngdgoaaDoorQPLTickx6
import Derived.Test.YtiiahdjjngdgoaaDoorQPLTickx10
import Derived.Test.YtiiahdjjngdgoaaDoorQSq
namespace Go.Proofs.YtiiahdjjngdgoaaDoor.PLTick
open Go.RowKit Go.Proofs.YtiiahdjjngdgoaaDoorW.PrintWords Go.Proofs.YtiiahdjjngdgoaaDoorW.PrintLast Go.Proofs.YtiiahdjjngdgoaaDoorW.PrintMore
attribute [local go_sem] max2_int min2_int max_two min_two max_three min_three max_four min_four   -- for this text's walks alone
set_option linter.unusedVariables false
set_option linter.unusedSimpArgs false

/-! ### spec_DrawFirstTick: function 22 -/
def spec_DrawFirstTick.f (k : Nat) (l0 : List Int) : Option (List ByteArray × ByteArray × Int) := (spec_l1Cur_lamps.f k l0 0 0).bind fun bt374 => ((spec_l1Cur_lit.f k l0 bt374.2.1 bt374.2.2 bt374.1).bind fun bt380 => ((spec_l1Most.f 1 (bt374.1.length : Int)).bind fun t383 => ((spec_l1Least.f 10 t383).bind fun t384 => ((spec_l1Cur_pick.f l0 bt380.2.1 bt380.2.2 (wrap64 (t384 + 1))).bind fun bt385 => ((spec_l1Cur_pick.f l0 bt385.2.1 bt385.2.2 9).bind fun bt388 => (some (bt374.1, bt380.1, wrap64 (bt385.1 - (wrap64 (Int.tdiv bt388.1 8))))))))))
instance spec_DrawFirstTick.mI (k : Nat) : Mo (spec_DrawFirstTick.f k) (spec_DrawFirstTick.f (k + 1)) := by
 (repeat refine mE fun _ => ?_); unfold spec_DrawFirstTick.f; exact mG
theorem spec_DrawFirstTick.mono : ∀ a0 k, LeO (spec_DrawFirstTick.f k a0) (spec_DrawFirstTick.f (k + 1) a0) := fun a0 k => (spec_DrawFirstTick.mI k).out a0
def spec_DrawFirstTick.T3 : Bool × List (List Nat × List Nat) := (true, [([], []), ([], []), ([], []), ([1, 2], [1, 2]), ([], []), ([], []), ([5], [5]), ([6], [6]), ([7, 3], [7]), ([8, 8], [8]), ([9], [9]), ([4, 10, 9], [4, 10]), ([], []), ([12, 11], [12]), ([13], [13]), ([11, 14], [11, 14]), ([0, 13, 0], [0]), ([3, 16, 0, 1, 2, 3, 16], [3]), ([15, 17, 0, 1, 2, 3, 4, 5, 6, 7, 8, 9, 10, 11, 12, 13, 14, 15, 16, 17], [15])])
def spec_DrawFirstTick.B3 : List Nat := [0, 0, 0, 6, 0, 0, 32, 96, 238, 494, 1006, 2046, 0, 8190, 16382, 32766, 16383, 81919, 262143]
theorem spec_DrawFirstTick.tab3 : rtab .any (opsOf Tryd.f22 3) = spec_DrawFirstTick.T3 := by kernel_rfl
theorem spec_DrawFirstTick.bits3 : waitsOk spec_DrawFirstTick.T3.2 spec_DrawFirstTick.B3 = true := by kernel_rfl
set_option maxHeartbeats 8000000 in
set_option maxRecDepth 100000 in
theorem spec_DrawFirstTick.calls (k : Nat) (A0 : Option Addr) (c0 : Nat) (l0 : List Int) (r1 : List ByteArray) (r2 : ByteArray) (r3 : Int) (w : World) (hr0 : Kd.C (Kd.int .u8) w A0 l0.length l0) (hc0 : l0.length ≤ c0) (h : spec_DrawFirstTick.f k l0 = some (r1, r2, r3)) :
  Calls Tryd.prog 22 #[.slice A0 l0.length c0] w fun e w' => ∃ v0_ : Value, e = .returned (.tuple #[.agg #[v0_], .string r2, .int .i64 r3]) ∧ Kd.R Kd.string 9 w' w.heap.size (fun _ => True) v0_ r1 ∧ Below w.heap.size w w' := by
 have hu26 := Tryd.underlying26
 have hu73 := Tryd.underlying73
 have HR0 := aM hr0
 have HC0 := aM hc0
 clear hr0 hc0
 have HB := aM (Below.refl w.heap.size w)
 have H := h
 clear h; unfold spec_DrawFirstTick.f at H
 replace H := bC H; obtain ⟨⟨t374, t377, t378⟩, A2, H⟩ := H; try dsimp only at H
 replace H := bC H; obtain ⟨⟨t380, t381, t382⟩, A3, H⟩ := H; try dsimp only at H
 replace H := bC H; obtain ⟨t383, A4, H⟩ := H
 replace H := bC H; obtain ⟨t384, A5, H⟩ := H
 replace H := bC H; obtain ⟨⟨t385, t386, t387⟩, A6, H⟩ := H; try dsimp only at H
 replace H := bC H; obtain ⟨⟨t388, t389, t390⟩, A7, H⟩ := H; try dsimp only at H
 simp only [Option.some.injEq, Prod.mk.injEq] at H
 obtain ⟨rfl, rfl, rfl⟩ := H
 go_enter Tryd.func22, Tryd.ntmps22
 try go_wp2_with (first | (refine bX (N := 2) rfl (cs := #[.slice none 0 0]) (t := 26) ?_; intro gb372 hg w8 BK372 hb; have GW372 := gE hg HB; have GE372 := gE hg HB; replace HB := hS HB hb; clear hb hg) | ((with_reducible refine gate_dst (N := 9) rfl ?_); refine box_event ?hg (N := 9) ?hd (cs := #[.slice A0 l0.length c0, .int .i64 0, .int .u64 0]) (t := 73) ?hr ?_; (case hd => rfl); (case hg => rfl); (case hr => first | (go_simp; done) | (go_simp; rfl)); intro gb373 hg w9 hbox hb; have HI373 := sS73 ((show IsS73 w w9 gb373 l0 0 0 from ⟨_, _, hbox, (by rw [hg]; exact (below_size (bel HB)) : w.heap.size ≤ gb373), HR0.out⟩)); have GI_HI373 := IsS73.geI HI373; have NB373_372 := nbR hg BK372; have NB372_373 := nbL hg BK372; replace BK372 := bB BK372 hb; replace HB := hS HB hb; clear hb hbox hg) | ((with_reducible refine gG 68 (some 11) rfl rfl ?_); refine gD Tryd.func68 (spec_l1Cur_lamps.calls k gb373 l0 0 0 t374 t377 t378 w _ tS73 (bel HB) A2.out) ?_; rintro w10 v375 ⟨ho0, hi, hb, hk⟩; have HO376 := rL ho0 HB; replace BK372 := aM (KeepBut.blk hk (g' := gb372) (o := .cells #[.slice none 0 0] 26 (0, 0)) (bU BK372.out) NB372_373.out (by simp)); replace HB := aM (hb); replace HI373 := sS73 (hi); clear hb hk hi ho0) | (refine bX (N := 6) rfl (cs := #[.slice none 0 0]) (t := 26) ?_; intro gb379 hg w11 BK379 hb; have GW379 := gE hg HB; have GE379 := gE hg HB; have NB372_379 := nbL hg BK372; have NB379_372 := nbR hg BK372; have NB373_379 := (nbI hg : Ap gb373 gb379); have NB379_373 := (nbJ hg : Ap gb379 gb373); replace HO376 := rB HO376 hb; replace BK372 := bB BK372 hb; replace HI373 := bS73 gb373 hb; replace HB := hS HB hb; clear hb hg; obtain ⟨Ao12, co12, eo12⟩ := Kd.R_slice HO376.out; subst eo12; have hnb13 := NB379_372.out; have hnc13 := NB372_379.out; have hnb14 := NB379_373.out; have hnc14 := NB373_379.out; obtain ⟨hcz15_0, hfz15_0⟩ := hC1 BK379))
 have n0_ : Aside0 (Kd.R Kd.string 9 (w11.setCell ⟨gb379, 0, none⟩ (.slice Ao12 t374.length co12)) w.heap.size (fun _ => True) (.slice Ao12 t374.length co12) t374) := ⟨rU (Kd.R_mono (Kd.R_far (p := ⟨gb379, 0, none⟩) (Kd.R_types HO376.out BK379.out (by decide)) (fun _ hk => hk.2) (.slice Ao12 t374.length co12)) (fun _ hk => trivial))⟩
 have n1_ : Aside0 ((w11.setCell ⟨gb379, 0, none⟩ (.slice Ao12 t374.length co12)).heap[gb372]? = some (.cells #[.slice none 0 0] 26 (0, 0))) := ⟨by (with_reducible repeat (first | refine blk_drewN ?_ _ | refine blk_drew ?_ | refine blk_alloc ?_ _)); refine blk_far ?_ NB372_379.out _; (with_reducible repeat (first | refine blk_drewN ?_ _ | refine blk_drew ?_ | refine blk_alloc ?_ _)); exact BK372.out⟩
 have n2_ : Aside0 ((w11.setCell ⟨gb379, 0, none⟩ (.slice Ao12 t374.length co12)).heap[gb379]? = some (.cells #[.slice Ao12 t374.length co12] 26 (0, 0))) := ⟨by (with_reducible repeat (first | refine blk_drewN ?_ _ | refine blk_drew ?_ | refine blk_alloc ?_ _)); refine blk_put (cs := #[.slice none 0 0]) ?_ 0 _ rfl; (with_reducible repeat (first | refine blk_drewN ?_ _ | refine blk_drew ?_ | refine blk_alloc ?_ _)); exact BK379.out⟩
 have n3_ : IsC73 w (w11.setCell ⟨gb379, 0, none⟩ (.slice Ao12 t374.length co12)) gb373 l0 t377 t378 := ⟨tS73⟩
 have n4_ : Aside0 (Below w.heap.size w (w11.setCell ⟨gb379, 0, none⟩ (.slice Ao12 t374.length co12))) := hV HB
 (try clear HO376)
 (try clear BK372)
 (try clear BK379)
 (try clear HI373)
 (try clear HB)
 generalize (w11.setCell ⟨gb379, 0, none⟩ (.slice Ao12 t374.length co12)) = w16 at n0_ n1_ n2_ n3_ n4_ ⊢
 have HO376 := n0_
 have BK372 := n1_
 have BK379 := n2_
 have HI373 := n3_
 have HB := n4_
 clear n0_ n1_ n2_ n3_ n4_
 have n0_ := aM (Kd.R_drew HO376.out)
 have n1_ := aM (blk_drew BK372.out)
 have n2_ := aM (blk_drew BK379.out)
 have n3_ := sS73 (IsS73.drew HI373.out)
 have n4_ := aM (below_drew1 HB.out)
 clear HO376
 clear BK372
 clear BK379
 clear HI373
 clear HB
 have HO376 := n0_
 have BK372 := n1_
 have BK379 := n2_
 have HI373 := n3_
 have HB := n4_
 clear n0_ n1_ n2_ n3_ n4_
 refine start_ (n := 19) (S := fun w' => w'.cell? ⟨gb379, 0, none⟩ = some (.slice Ao12 t374.length co12)) (ds := []) #[false, false, false, false, false, false, false, false, false, false, false, false, false, false, false, false, false, false, false] (by kernel_rfl) rfl rfl ((blk_cell BK379.out 0).trans rfl) (fun hHeld => ?_); refine with_tabW spec_DrawFirstTick.tab3 spec_DrawFirstTick.bits3 (fun HT_ HW_ => ?_)
 generalize w16.drew = w17 at HO376 BK372 BK379 HI373 HB hHeld ⊢
 refine pure_ (i := 1) (N := some 13) (v := ?_) (a' := ?_) #[false, true, false, false, false, false, false, false, false, false, false, false, false, false, false, false, false, false, false] rfl rfl (any_of HT_.out (by kernel_rfl)) (fun _ _ _ h => h) (Or.inl ⟨by rfl, ?_⟩) ?_ ?_
 rotate_left
 ·intro w'
  go_simp
  with_reducible rfl
 rotate_left
 ·simp only [Act.put, List.setIfInBounds_toArray, List.set_cons_zero, List.set_cons_succ, i64_w, i32_w]
  rfl
 refine pure_ (i := 4) (N := some 16) (v := ?_) (a' := ?_) #[false, true, false, false, true, false, false, false, false, false, false, false, false, false, false, false, false, false, false] rfl rfl (any_of HT_.out (by kernel_rfl)) (fun _ _ _ h => h) (Or.inl ⟨by rfl, ?_⟩) ?_ ?_
 rotate_left
 ·intro w'
  go_simp
  with_reducible rfl
 rotate_left
 ·simp only [Act.put, List.setIfInBounds_toArray, List.set_cons_zero, List.set_cons_succ, i64_w, i32_w]
  rfl
 refine pure_ (i := 5) (N := some 17) (v := ?_) (a' := ?_) #[false, true, false, false, true, true, false, false, false, false, false, false, false, false, false, false, false, false, false] rfl rfl (any_of HT_.out (by kernel_rfl)) (fun _ _ _ h => h) (Or.inl ⟨by rfl, ?_⟩) ?_ ?_
 rotate_left
 ·intro w'
  go_simp
  with_reducible rfl
 rotate_left
 ·simp only [Act.put, List.setIfInBounds_toArray, List.set_cons_zero, List.set_cons_succ, i64_w, i32_w]
  rfl
 refine pure_ (i := 12) (N := some 24) (v := ?_) (a' := ?_) #[false, true, false, false, true, true, false, false, false, false, false, false, true, false, false, false, false, false, false] rfl rfl (any_of HT_.out (by kernel_rfl)) (fun _ _ _ h => h) (Or.inl ⟨by rfl, ?_⟩) ?_ ?_
 rotate_left
 ·intro w'
  go_simp
  with_reducible rfl
 rotate_left
 ·simp only [Act.put, List.setIfInBounds_toArray, List.set_cons_zero, List.set_cons_succ, i64_w, i32_w]
  rfl
 refine take_ (i := 0) (N := some 12) (v := ?_) (a' := ?_) #[true, true, false, false, true, true, false, false, false, false, false, false, true, false, false, false, false, false, false] rfl rfl (take_ofW HT_.out HW_.out (by kernel_rfl)) (fun _ _ _ h => h) (Or.inl ⟨by rfl, ?_⟩) hHeld ?_ ?_
 rotate_left
 ·intro w' s0
  go_simp
  with_reducible rfl
 rotate_left
 ·simp only [Act.put, List.setIfInBounds_toArray, List.set_cons_zero, List.set_cons_succ, i64_w, i32_w]
  rfl
 refine take_ (i := 2) (N := some 14) (v := ?_) (a' := ?_) #[true, true, true, false, true, true, false, false, false, false, false, false, true, false, false, false, false, false, false] rfl rfl (take_ofW HT_.out HW_.out (by kernel_rfl)) (fun _ _ _ h => h) (Or.inl ⟨by rfl, ?_⟩) hHeld ?_ ?_
 rotate_left
 ·intro w' s0
  go_simp
  with_reducible rfl
 rotate_left
 ·simp only [Act.put, List.setIfInBounds_toArray, List.set_cons_zero, List.set_cons_succ, i64_w, i32_w]
  rfl
 refine take_ (i := 6) (N := some 18) (v := ?_) (a' := ?_) #[true, true, true, false, true, true, true, false, false, false, false, false, true, false, false, false, false, false, false] rfl rfl (take_ofW HT_.out HW_.out (by kernel_rfl)) (fun _ _ _ h => h) (Or.inl ⟨by rfl, ?_⟩) hHeld ?_ ?_
 rotate_left
 ·intro w' s0
  go_simp
  with_reducible rfl
 rotate_left
 ·simp only [Act.put, List.setIfInBounds_toArray, List.set_cons_zero, List.set_cons_succ, i64_w, i32_w]
  rfl
 refine pure_ (i := 7) (N := some 19) (v := ?_) (a' := ?_) #[true, true, true, false, true, true, true, true, false, false, false, false, true, false, false, false, false, false, false] rfl rfl (any_of HT_.out (by kernel_rfl)) (fun _ _ _ h => h) (Or.inl ⟨by rfl, ?_⟩) ?_ ?_
 rotate_left
 ·intro w'
  go_simp
  with_reducible rfl
 rotate_left
 ·simp only [Act.put, List.setIfInBounds_toArray, List.set_cons_zero, List.set_cons_succ, i64_w, i32_w]
  rfl
 refine one_ (i := 3) (N := some 15) #[true, true, true, true, true, true, true, true, false, false, false, false, true, false, false, false, false, false, false] rfl rfl (one_of HT_.out (by kernel_rfl)) (by decide) (fun K hK => ?_)
 refine goes_ Tryd.func69 (by kernel_rfl) rfl #[.pointer (some ⟨gb373, 0, none⟩), .agg #[.slice Ao12 t374.length co12]] (by rfl) rfl rfl (by (try simp only [List.map_toArray, List.map_cons, List.map_nil]); first | done | rfl | (simp only [List.length_drop, List.length_take]; rfl)) ?_
 with_reducible refine (spec_l1Cur_lit.calls k gb373 l0 t377 t378 _ _ t374 t380 t381 t382 w _ ?side1 ?side2 ?side3 ?side4 ?side5 A3.out).mono ?_
 (case side1 => exact tS73)
 (case side2 => exact bel HB)
 (case side3 => exact cU ((Kd.R_reads' HO376.out).2.2))
 (case side4 => exact (Kd.R_reads' HO376.out).2.1)
 (case side5 => exact far_slice (IsS73.own_ne HI373.out HO376.out (by decide)))
 rintro e w18 ⟨rfl, hi, hb, hk⟩
 refine ⟨_, rfl, ?_⟩
 have n0_ := aM (KeepBut.blk hk (g' := gb372) (o := .cells #[.slice none 0 0] 26 (0, 0)) (bU BK372.out) NB372_373.out (by simp))
 have n1_ := aM (Kd.R_mono (Kd.R_keep (IsS73.apart (show IsS73 w _ gb373 l0 t377 t378 from tS73) (rU HO376.out) (by decide)) hk (fun _ h => h.2)) (fun _ h => h.1))
 have n2_ := aM (KeepBut.blk hk (g' := gb379) (o := .cells #[.slice Ao12 t374.length co12] 26 (0, 0)) (bU BK379.out) NB379_373.out (by simp))
 have n3_ := aM (hb)
 have n4_ := sS73 (hi)
 clear BK372
 clear HO376
 clear BK379
 clear HB
 clear HI373
 have BK372 := n0_
 have HO376 := n1_
 have BK379 := n2_
 have HB := n3_
 have HI373 := n4_
 clear n0_ n1_ n2_ n3_ n4_
 (try clear hb)
 (try clear hb2)
 (try clear hk)
 (try clear hi)
 refine hK.out _ _ ((blk_cell BK379.out 0).trans rfl) (fun hHeld => ?_)
 clear hK K
 refine norm_ (a' := ?_) ?_ ?_
 rotate_left
 ·show Act.put _ (some 15) _ = _
  simp only [Act.put, List.setIfInBounds_toArray, List.set_cons_zero, List.set_cons_succ, i64_w, i32_w]
  rfl
 refine one_ (i := 8) (N := some 20) #[true, true, true, true, true, true, true, true, true, false, false, false, true, false, false, false, false, false, false] rfl rfl (one_of HT_.out (by kernel_rfl)) (by decide) (fun K hK => ?_)
 refine goes_ Tryd.func93 (by kernel_rfl) rfl #[.int .i64 1, .int .i64 (t374.length : Int)] (by rfl) rfl rfl (by (try simp only [List.map_toArray, List.map_cons, List.map_nil]); first | done | rfl | (simp only [List.length_drop, List.length_take]; rfl)) ?_
 with_reducible refine (spec_l1Most.calls 1 (t374.length : Int) t383 _ A4.out).mono ?_
 rintro e w' ⟨rfl, ⟨nd, rfl⟩⟩
 refine ⟨_, rfl, ?_⟩
 refine hK.out _ _ ((blk_cell BK379.out 0).trans rfl) (fun hHeld => ?_)
 clear hK K
 refine norm_ (a' := ?_) ?_ ?_
 rotate_left
 ·show Act.put _ (some 20) _ = _
  simp only [Act.put, List.setIfInBounds_toArray, List.set_cons_zero, List.set_cons_succ, i64_w, i32_w]
  rfl
 refine one_ (i := 9) (N := some 21) #[true, true, true, true, true, true, true, true, true, true, false, false, true, false, false, false, false, false, false] rfl rfl (one_of HT_.out (by kernel_rfl)) (by decide) (fun K hK => ?_)
 refine goes_ Tryd.func92 (by kernel_rfl) rfl #[.int .i64 10, .int .i64 t383] (by rfl) rfl rfl (by (try simp only [List.map_toArray, List.map_cons, List.map_nil]); first | done | rfl | (simp only [List.length_drop, List.length_take]; rfl)) ?_
 with_reducible refine (spec_l1Least.calls 10 t383 t384 _ A5.out).mono ?_
 rintro e w' ⟨rfl, ⟨nd, rfl⟩⟩
 refine ⟨_, rfl, ?_⟩
 refine hK.out _ _ ((blk_cell BK379.out 0).trans rfl) (fun hHeld => ?_)
 clear hK K
 refine norm_ (a' := ?_) ?_ ?_
 rotate_left
 ·show Act.put _ (some 21) _ = _
  simp only [Act.put, List.setIfInBounds_toArray, List.set_cons_zero, List.set_cons_succ, i64_w, i32_w]
  rfl
 refine pure_ (i := 10) (N := some 22) (v := ?_) (a' := ?_) #[true, true, true, true, true, true, true, true, true, true, true, false, true, false, false, false, false, false, false] rfl rfl (any_of HT_.out (by kernel_rfl)) (fun _ _ _ h => h) (Or.inl ⟨by rfl, ?_⟩) ?_ ?_
 rotate_left
 ·intro w'
  go_simp
  with_reducible rfl
 rotate_left
 ·simp only [Act.put, List.setIfInBounds_toArray, List.set_cons_zero, List.set_cons_succ, i64_w, i32_w]
  rfl
 refine one_ (i := 11) (N := some 23) #[true, true, true, true, true, true, true, true, true, true, true, true, true, false, false, false, false, false, false] rfl rfl (one_of HT_.out (by kernel_rfl)) (by decide) (fun K hK => ?_)
 refine goes_ Tryd.func91 (by kernel_rfl) rfl #[.pointer (some ⟨gb373, 0, none⟩), .int .i64 (wrap64 (t384 + 1))] (by rfl) rfl rfl (by (try simp only [List.map_toArray, List.map_cons, List.map_nil]); first | done | rfl | (simp only [List.length_drop, List.length_take]; rfl)) ?_
 with_reducible refine (spec_l1Cur_pick.calls gb373 l0 t381 t382 (wrap64 (t384 + 1)) t385 t386 t387 w _ ?side1 ?side2 A6.out).mono ?_
 (case side1 => exact tS73)
 (case side2 => exact bel HB)
 rintro e w19 ⟨rfl, hi, hb, hk⟩
 refine ⟨_, rfl, ?_⟩
 have n0_ := aM (KeepBut.blk hk (g' := gb372) (o := .cells #[.slice none 0 0] 26 (0, 0)) (bU BK372.out) NB372_373.out (by simp))
 have n1_ := aM (Kd.R_mono (Kd.R_keep (IsS73.apart (show IsS73 w _ gb373 l0 t381 t382 from tS73) (rU HO376.out) (by decide)) hk (fun _ h => h.2)) (fun _ h => h.1))
 have n2_ := aM (KeepBut.blk hk (g' := gb379) (o := .cells #[.slice Ao12 t374.length co12] 26 (0, 0)) (bU BK379.out) NB379_373.out (by simp))
 have n3_ := aM (hb)
 have n4_ := sS73 (hi)
 clear BK372
 clear HO376
 clear BK379
 clear HB
 clear HI373
 have BK372 := n0_
 have HO376 := n1_
 have BK379 := n2_
 have HB := n3_
 have HI373 := n4_
 clear n0_ n1_ n2_ n3_ n4_
 (try clear hb)
 (try clear hb2)
 (try clear hk)
 (try clear hi)
 refine hK.out _ _ ((blk_cell BK379.out 0).trans rfl) (fun hHeld => ?_)
 clear hK K
 refine norm_ (a' := ?_) ?_ ?_
 rotate_left
 ·show Act.put _ (some 23) _ = _
  simp only [Act.put, List.setIfInBounds_toArray, List.set_cons_zero, List.set_cons_succ, i64_w, i32_w]
  rfl
 refine one_ (i := 13) (N := some 25) #[true, true, true, true, true, true, true, true, true, true, true, true, true, true, false, false, false, false, false] rfl rfl (one_of HT_.out (by kernel_rfl)) (by decide) (fun K hK => ?_)
 refine goes_ Tryd.func91 (by kernel_rfl) rfl #[.pointer (some ⟨gb373, 0, none⟩), .int .i64 9] (by rfl) rfl rfl (by (try simp only [List.map_toArray, List.map_cons, List.map_nil]); first | done | rfl | (simp only [List.length_drop, List.length_take]; rfl)) ?_
 with_reducible refine (spec_l1Cur_pick.calls gb373 l0 t386 t387 9 t388 t389 t390 w _ ?side1 ?side2 A7.out).mono ?_
 (case side1 => exact tS73)
 (case side2 => exact bel HB)
 rintro e w20 ⟨rfl, hi, hb, hk⟩
 refine ⟨_, rfl, ?_⟩
 have n0_ := aM (KeepBut.blk hk (g' := gb372) (o := .cells #[.slice none 0 0] 26 (0, 0)) (bU BK372.out) NB372_373.out (by simp))
 have n1_ := aM (Kd.R_mono (Kd.R_keep (IsS73.apart (show IsS73 w _ gb373 l0 t386 t387 from tS73) (rU HO376.out) (by decide)) hk (fun _ h => h.2)) (fun _ h => h.1))
 have n2_ := aM (KeepBut.blk hk (g' := gb379) (o := .cells #[.slice Ao12 t374.length co12] 26 (0, 0)) (bU BK379.out) NB379_373.out (by simp))
 have n3_ := aM (hb)
 have n4_ := sS73 (hi)
 clear BK372
 clear HO376
 clear BK379
 clear HB
 clear HI373
 have BK372 := n0_
 have HO376 := n1_
 have BK379 := n2_
 have HB := n3_
 have HI373 := n4_
 clear n0_ n1_ n2_ n3_ n4_
 (try clear hb)
 (try clear hb2)
 (try clear hk)
 (try clear hi)
 refine hK.out _ _ ((blk_cell BK379.out 0).trans rfl) (fun hHeld => ?_)
 clear hK K
 refine norm_ (a' := ?_) ?_ ?_
 rotate_left
 ·show Act.put _ (some 25) _ = _
  simp only [Act.put, List.setIfInBounds_toArray, List.set_cons_zero, List.set_cons_succ, i64_w, i32_w]
  rfl
 refine pure_ (i := 14) (N := some 26) (v := ?_) (a' := ?_) #[true, true, true, true, true, true, true, true, true, true, true, true, true, true, true, false, false, false, false] rfl rfl (any_of HT_.out (by kernel_rfl)) (fun _ _ _ h => h) (Or.inl ⟨by rfl, ?_⟩) ?_ ?_
 rotate_left
 ·intro w'
  go_simp
  with_reducible rfl
 rotate_left
 ·simp only [Act.put, List.setIfInBounds_toArray, List.set_cons_zero, List.set_cons_succ, i64_w, i32_w]
  rfl
 refine pure_ (i := 15) (N := some 27) (v := ?_) (a' := ?_) #[true, true, true, true, true, true, true, true, true, true, true, true, true, true, true, true, false, false, false] rfl rfl (any_of HT_.out (by kernel_rfl)) (fun _ _ _ h => h) (Or.inl ⟨by rfl, ?_⟩) ?_ ?_
 rotate_left
 ·intro w'
  go_simp
  with_reducible rfl
 rotate_left
 ·simp only [Act.put, List.setIfInBounds_toArray, List.set_cons_zero, List.set_cons_succ, i64_w, i32_w]
  rfl
 refine one_ (i := 16) (N := none) #[true, true, true, true, true, true, true, true, true, true, true, true, true, true, true, true, true, false, false] rfl rfl (one_of HT_.out (by kernel_rfl)) (by decide) (fun K hK => ?_)
 have hs21 : w20.cell? ⟨gb372, 0, none⟩ = some (.slice none 0 0) := (blk_cell BK372.out 0).trans rfl
 have hfs21 := blk_frozen BK372.out 0
 have hns21_1 := NB379_372.out
 have hms21_1 := NB372_379.out
 refine skip_ (w1 := ?_) (by rfl) rfl ?_ ?_
 rotate_left
 ·go_simp
  rfl
 refine hK.out _ _ (((cell_far (p := ⟨gb372, _, none⟩) NB379_372.out _).trans (hHeld))) (fun hHeld => ?_)
 clear hK K
 refine pure_ (i := 17) (N := some 3) (v := ?_) (a' := ?_) #[true, true, true, true, true, true, true, true, true, true, true, true, true, true, true, true, true, true, false] rfl rfl (any_of HT_.out (by kernel_rfl)) (fun _ _ _ h => h) (Or.inl ⟨by rfl, ?_⟩) ?_ ?_
 rotate_left
 ·intro w'
  go_simp
  with_reducible rfl
 rotate_left
 ·simp only [Act.put, List.setIfInBounds_toArray, List.set_cons_zero, List.set_cons_succ, i64_w, i32_w]
  rfl
 refine pure_ (i := 18) (N := some 4) (v := ?_) (a' := ?_) #[true, true, true, true, true, true, true, true, true, true, true, true, true, true, true, true, true, true, true] rfl rfl (any_of HT_.out (by kernel_rfl)) (fun _ _ _ h => h) (Or.inl ⟨by rfl, ?_⟩) ?_ ?_
 rotate_left
 ·intro w'
  go_simp
  with_reducible rfl
 rotate_left
 ·simp only [Act.put, List.setIfInBounds_toArray, List.set_cons_zero, List.set_cons_succ, i64_w, i32_w]
  rfl
 refine done_ (done_of HT_.out (by kernel_rfl)) ?_
 try go_wp2
 refine bodyPost_ret (results_ctt rfl _ _ gb372 26 #[.slice Ao12 t374.length co12] (0, 0) _ rfl (by (with_reducible repeat (first | refine blk_drewN ?_ _ | refine blk_drew ?_ | refine blk_alloc ?_ _)); refine blk_put (cs := #[.slice none 0 0]) ?_ 0 _ rfl; (with_reducible repeat (first | refine blk_drewN ?_ _ | refine blk_drew ?_ | refine blk_alloc ?_ _)); exact BK372.out) Tryd.underlying26 rfl (by kernel_rfl)) rfl ?_
 exact ⟨_, eW, rU (Kd.R_mono (Kd.R_far (p := ⟨gb372, 0, none⟩) (Kd.R_types HO376.out BK372.out (by decide)) (fun _ hk => hk.2) (.slice Ao12 t374.length co12)) (fun _ hk => trivial)), bel HB⟩

/-! ### impl_FirstTick: function 23 -/
-- by hand (wip/ext/FirstTick.tpl)
theorem impl_FirstTick.f1 : Tryd.prog.funcs[95]? = some Tryd.f95 ∧ (Tryd.f95.name == "runtime.NumGoroutine") = false ∧ Tryd.f95.body.isSome = true := ⟨Tryd.func95, by kernel_rfl, by kernel_rfl⟩
set_option maxHeartbeats 400000 in
theorem impl_FirstTick.c1 (g : Nat) (i : Int) (s : ByteArray) (w : World) (hg : w.cell? ⟨g, 0, none⟩ = some (.int .i64 i)) (h0 : 0 ≤ i) (h1 : i < s.size) :
    Calls Tryd.prog 95 #[.string s, .pointer (some ⟨g, 0, none⟩)] w fun e w' => e = .returned (.bool (bt s i == 49)) ∧ Below w.heap.size w w' := by
  have p6 : 0 ≤ i := h0
  have q6 : i < (s.size : Int) := h1
  have hx6 := bt_at s i
  replace p6 := eq_true p6
  replace q6 := eq_true q6
  clear h0 h1
  go_enter Tryd.func95, Tryd.ntmps95
  go_wp2
  go_ret
  exact ⟨rfl, Below.refl _ _⟩
def impl_FirstTick.f (l0_0 : List ByteArray) (a1 : ByteArray) (a2 : Int) : Option (Int × Bool) := (impl_Lamps_lit.f l0_0 a1).bind fun b => if b = true then (if inB a2 0 (wrap64 ((a1.size : Int) - 1)) = true then (impl_Lamps_course.f l0_0 a1).bind fun r => (if (r.1.all fun x => decide (a2 < x.size)) = true then some (if idxI (fun x => bt x a2 == 49) r.1 < 0 then (0, false) else (idxI (fun x => bt x a2 == 49) r.1, true)) else none) else some (0, false)) else some (0, false)
set_option maxHeartbeats 1000000 in
set_option maxRecDepth 100000 in
theorem impl_FirstTick.calls (A0_0 : Option Addr) (c0_0 : Nat) (l0_0 : List ByteArray) (a1 : ByteArray) (a2 : Int) (r1 : Int) (r2 : Bool) (w : World) (hr0_0 : Kd.C Kd.string w A0_0 l0_0.length l0_0) (hc0_0 : l0_0.length ≤ c0_0) (h : impl_FirstTick.f l0_0 a1 a2 = some (r1, r2)) :
    Calls Tryd.prog 23 #[.agg #[.slice A0_0 l0_0.length c0_0], .string a1, .int .i64 a2] w fun e w' => e = .returned (.tuple #[.int .i64 r1, .bool r2]) ∧ Below w.heap.size w w' := by
 unfold impl_FirstTick.f at h
 obtain ⟨b, hlit, h⟩ := Option.bind_eq_some_iff.mp h
 have hu := Tryd.underlying26
 have HB0 := aM (show Below w.heap.size w ((w.alloc (.cells #[.slice A0_0 l0_0.length c0_0] 26)).alloc (.cells #[.int .i64 a2] 3)) from ((Below.refl _ w).alloc (Nat.le_refl _) _).alloc (by simp) _)
 have HCL0 := aM (show ((w.alloc (.cells #[.slice A0_0 l0_0.length c0_0] 26)).alloc (.cells #[.int .i64 a2] 3)).cell? ⟨w.heap.size, 0, none⟩ = some (.slice A0_0 l0_0.length c0_0) from (World.cell?_alloc_past _ _ _ (by simp)).trans (by go_simp))
 have HCN0 := aM (show ((w.alloc (.cells #[.slice A0_0 l0_0.length c0_0] 26)).alloc (.cells #[.int .i64 a2] 3)).cell? ⟨w.heap.size + 1, 0, none⟩ = some (.int .i64 a2) from by go_simp)
 have HLI := aM (fun W (hb : Below w.heap.size w W) => impl_Lamps_lit.calls A0_0 c0_0 l0_0 a1 b W (Kd.C_below hr0_0 hb) hc0_0 hlit)
 have HI := aM (fun w1 => impl_in.calls a2 0 (wrap64 ((a1.size : Int) - 1)) _ w1 (inB_ite a2 0 (wrap64 ((a1.size : Int) - 1))))
 have HRR := aM hr0_0
 clear hlit hr0_0
 cases b with
 | false =>
  simp only [Bool.false_eq_true, if_false, Option.some.injEq, Prod.mk.injEq] at h
  obtain ⟨rfl, rfl⟩ := h
  go_enter Tryd.func23, Tryd.ntmps23
  go_wp2_with (go_at_call 71; refine (HLI.out _ HB0.out).mono ?_; rintro e w1 ⟨rfl, hb⟩; have HB1 := aM (below_step HB0.out hb); clear hb)
  go_ret2
  exact ⟨rfl, HB1.out⟩
 | true =>
  simp only [if_true] at h
  obtain ⟨B, hB⟩ : ∃ B, B = inB a2 0 (wrap64 ((a1.size : Int) - 1)) := ⟨_, rfl⟩
  rw [← hB] at h HI
  cases B with
  | false =>
   simp only [Bool.false_eq_true, if_false, Option.some.injEq, Prod.mk.injEq] at h
   obtain ⟨rfl, rfl⟩ := h
   clear hB
   go_enter Tryd.func23, Tryd.ntmps23
   go_wp2_with (first
    | (go_at_call 71; refine (HLI.out _ HB0.out).mono ?_; rintro e w1 ⟨rfl, hb⟩; have HB1 := aM (below_step HB0.out hb); have hcn1 := (hb.cell (World.block_lt_of_cell? _ _ HCN0.out)).trans HCN0.out; clear hb)
    | (go_at_call 81; refine (HI.out _).mono ?_; rintro e w' ⟨rfl, ⟨n, rfl⟩⟩))
   go_ret2
   exact ⟨rfl, below_step HB1.out (pw_below_drewN (Below.refl _ _) _)⟩
  | true =>
   have hlo := inB_lo hB.symm
   clear hB
   simp only [if_true] at h
   obtain ⟨⟨R1, R2⟩, hcr, h⟩ := Option.bind_eq_some_iff.mp h
   simp only at h
   split at h
   case isFalse => cases h
   case isTrue hall =>
   have hall' : ∀ x ∈ R1, a2 < x.size := fun x hx => by have := List.all_eq_true.1 hall x hx; simpa using this
   have h := Option.some.inj h
   have HCO := aM (fun W (hb : Below w.heap.size w W) => impl_Lamps_course.calls A0_0 c0_0 l0_0 a1 R1 R2 W (Kd.C_below HRR.out hb) hc0_0 hcr)
   have HIX := aM (fun (W : World) (A : Option Addr) (c : Nat) (hr : Kd.C Kd.string W A R1.length R1) (hg : W.cell? ⟨w.heap.size + 1, 0, none⟩ = some (.int .i64 a2)) =>
    slices_ContainsFunc_string_string.index 95 Tryd.f95 impl_FirstTick.f1 #[.pointer (some ⟨w.heap.size + 1, 0, none⟩)] (fun x => bt x a2 == 49) A c R1 W hr
     (fun w3 x hx hb3 => impl_FirstTick.c1 (w.heap.size + 1) a2 x w3 ((hb3.cell (World.block_lt_of_cell? W _ hg)).trans hg) hlo (hall' x hx)))
   have hmf : ∀ (fn : Fn) (first cap : Array Value) (w : World), (Instr.makeFunc fn first cap).run Tryd.prog w = .ok (.func fn first cap) w := fun _ _ _ _ => rfl
   clear hcr hall hall' hlo
   obtain ⟨I, hI⟩ : ∃ I, I = idxI (fun x => bt x a2 == 49) R1 := ⟨_, rfl⟩
   rw [← hI] at h
   simp only [← hI] at HIX
   clear hI
   by_cases hneg : I < 0
   ·rw [if_pos hneg] at h
    simp only [Prod.mk.injEq] at h
    obtain ⟨rfl, rfl⟩ := h
    have hnb : decide (I < 0) = true := decide_eq_true hneg
    clear hneg
    go_enter Tryd.func23, Tryd.ntmps23
    go_wp2_with (first
     | (go_at_call 71; refine (HLI.out _ HB0.out).mono ?_; rintro e w1 ⟨rfl, hb⟩; have HB1 := aM (below_step HB0.out hb); have hcn1 := (hb.cell (World.block_lt_of_cell? _ _ HCN0.out)).trans HCN0.out; have hcl1 := (hb.cell (World.block_lt_of_cell? _ _ HCL0.out)).trans HCL0.out; clear hb)
     | (go_at_call 81; refine (HI.out _).mono ?_; rintro e w' ⟨rfl, ⟨n, rfl⟩⟩; have HB1n := aM (below_step HB1.out (pw_below_drewN (Below.refl _ _) n)); have HCN1n := aM (show (w1.drewN n).cell? ⟨w.heap.size + 1, 0, none⟩ = some (.int .i64 a2) from hcn1))
     | (go_at_call 73; refine (HCO.out _ HB1n.out).mono ?_; rintro e w2 ⟨v0, rfl, ho, hb⟩; have HB2 := aM (below_step HB1n.out hb); have HCN2 := aM ((hb.cell (World.block_lt_of_cell? _ _ HCN1n.out)).trans HCN1n.out); obtain ⟨Ao, co, rfl⟩ := Kd.R_slice ho; have HO := aM ho; clear hb ho)
     | (go_at_call 94; refine (HIX.out _ Ao co (Kd.R_reads' HO.out).2.2 HCN2.out).mono ?_; rintro e w3 ⟨rfl, hb⟩; have HB3 := aM (below_step HB2.out hb); clear hb))
    go_ret2
    exact ⟨rfl, HB3.out⟩
   rw [if_neg hneg] at h
   simp only [Prod.mk.injEq] at h
   obtain ⟨rfl, rfl⟩ := h
   have hnb : decide (I < 0) = false := decide_eq_false hneg
   clear hneg
   go_enter Tryd.func23, Tryd.ntmps23
   go_wp2_with (first
    | (go_at_call 71; refine (HLI.out _ HB0.out).mono ?_; rintro e w1 ⟨rfl, hb⟩; have HB1 := aM (below_step HB0.out hb); have hcn1 := (hb.cell (World.block_lt_of_cell? _ _ HCN0.out)).trans HCN0.out; have hcl1 := (hb.cell (World.block_lt_of_cell? _ _ HCL0.out)).trans HCL0.out; clear hb)
    | (go_at_call 81; refine (HI.out _).mono ?_; rintro e w' ⟨rfl, ⟨n, rfl⟩⟩; have HB1n := aM (below_step HB1.out (pw_below_drewN (Below.refl _ _) n)); have HCN1n := aM (show (w1.drewN n).cell? ⟨w.heap.size + 1, 0, none⟩ = some (.int .i64 a2) from hcn1))
    | (go_at_call 73; refine (HCO.out _ HB1n.out).mono ?_; rintro e w2 ⟨v0, rfl, ho, hb⟩; have HB2 := aM (below_step HB1n.out hb); have HCN2 := aM ((hb.cell (World.block_lt_of_cell? _ _ HCN1n.out)).trans HCN1n.out); obtain ⟨Ao, co, rfl⟩ := Kd.R_slice ho; have HO := aM ho; clear hb ho)
    | (go_at_call 94; refine (HIX.out _ Ao co (Kd.R_reads' HO.out).2.2 HCN2.out).mono ?_; rintro e w3 ⟨rfl, hb⟩; have HB3 := aM (below_step HB2.out hb); clear hb))
   go_ret2
   exact ⟨rfl, HB3.out⟩

/-! ### spec_FirstTick: function 24 -/
mutual
def spec_FirstTick.j0 : Nat → ByteArray → Int → Bool → List ByteArray → Option (Int × Bool)
 | 0, _, _, _, _ => none
 | k + 1, x1, x2, x23, x392000 => if x23 = true then (some (0, false)) else ((spec_laPath.f k x392000 x1).bind fun bt394 => (spec_FirstTick.l0 k x2 bt394.1 (bt394.1.length : Int) 0))
def spec_FirstTick.l0 : Nat → Int → List ByteArray → Int → Int → Option (Int × Bool)
 | 0, _, _, _, _ => none
 | k + 1, x2, x30, x31, x32 => if x32 < x31 then (if 0 ≤ x32 then (if x32 < (x30.length : Int) then (if 0 ≤ x2 then (if x2 < ((rdOf ByteArray.empty x30 x32).size : Int) then (if (bt (rdOf ByteArray.empty x30 x32) x2) = 49 then (some (x32, true)) else (spec_FirstTick.l0 k x2 x30 x31 (wrap64 (x32 + 1)))) else (none)) else (none)) else (none)) else (none)) else (some (0, false))
end
def spec_FirstTick.f (k : Nat) (l0_0 : List ByteArray) (a1 : ByteArray) (a2 : Int) : Option (Int × Bool) := (spec_laAsked.f l0_0 a1).bind fun t392 => (if t392 = true then ((spec_l1In.f a2 0 (wrap64 ((a1.size : Int) - 1))).bind fun t393 => (spec_FirstTick.j0 k a1 a2 (!t393) l0_0)) else (spec_FirstTick.j0 k a1 a2 true l0_0))
theorem spec_FirstTick.mono_l : ∀ k, Mo (spec_FirstTick.j0 k) (spec_FirstTick.j0 (k + 1)) ∧ Mo (spec_FirstTick.l0 k) (spec_FirstTick.l0 (k + 1))
 | 0 => m0
 | k + 1 => by
  have ⟨ih0, ih1⟩ := spec_FirstTick.mono_l k
  refine ⟨?_, ?_⟩ <;> (repeat refine mE fun _ => ?_) <;> first | (unfold spec_FirstTick.j0; exact mG) | (unfold spec_FirstTick.l0; exact mG)
instance spec_FirstTick.mI (k : Nat) : Mo (spec_FirstTick.f k) (spec_FirstTick.f (k + 1)) := by
 have ⟨ih0, ih1⟩ := spec_FirstTick.mono_l k
 (repeat refine mE fun _ => ?_); unfold spec_FirstTick.f; exact mG
theorem spec_FirstTick.mono : ∀ a0 a1 a2 k, LeO (spec_FirstTick.f k a0 a1 a2) (spec_FirstTick.f (k + 1) a0 a1 a2) := fun a0 a1 a2 k => (spec_FirstTick.mI k).out a0 a1 a2
set_option maxHeartbeats 8000000 in
set_option maxRecDepth 100000 in
theorem spec_FirstTick.calls (k : Nat) (A0_0 : Option Addr) (c0_0 : Nat) (l0_0 : List ByteArray) (a1 : ByteArray) (a2 : Int) (r1 : Int) (r2 : Bool) (w : World) (hr0_0 : Kd.C Kd.string w A0_0 l0_0.length l0_0) (hc0_0 : l0_0.length ≤ c0_0) (h : spec_FirstTick.f k l0_0 a1 a2 = some (r1, r2)) :
  Calls Tryd.prog 24 #[.agg #[.slice A0_0 l0_0.length c0_0], .string a1, .int .i64 a2] w fun e w' => e = .returned (.tuple #[.int .i64 r1, .bool r2]) ∧ Below w.heap.size w w' := by
 have hu26 := Tryd.underlying26
 have HR0_0 := aM hr0_0
 have HC0_0 := aM hc0_0
 clear hr0_0 hc0_0
 have HB := aM (Below.refl w.heap.size w)
 have H := h
 clear h; unfold spec_FirstTick.f at H
 have HC4 := aM H
 clear H
 go_enter Tryd.func24, Tryd.ntmps24
 go_upto_region 1 with (first | ((with_reducible refine gate_dst (N := 3) rfl ?_); (try (refine gate_guard (by rfl) ?_; dsimp only)); refine bX (N := 3) rfl (cs := #[.slice A0_0 l0_0.length c0_0]) (t := 26) ?_; intro gb391 hg w5 BK391 hb; have GW391 := gE hg HB; have GE391 := gE hg HB; replace HB := hS HB hb; clear hb hg))
 (try simp only [Act.put, List.setIfInBounds_toArray, List.set_cons_zero, List.set_cons_succ])
 go_cut [23] (fun v23 wc => ∃ (kq : Nat) (x23_3 : Bool), v23 = .bool x23_3 ∧ Aside0 (spec_FirstTick.j0 kq a1 a2 x23_3 l0_0 = some (r1, r2)) ∧ Aside0 (kq ≤ k) ∧ Aside0 (wc.heap[gb391]? = some (.cells #[(.slice A0_0 l0_0.length c0_0)] 26 (0, 0))) ∧ Aside0 (Below w.heap.size w wc))
 case first =>
  have H := HC4.out
  clear HC4
  replace H := bC H; obtain ⟨t392, A6, H⟩ := H
  refine iB H ?_ ?_ <;> clear H <;> rintro rfl H
  ·replace H := bC H; obtain ⟨t393, A8, H⟩ := H
   have H' := aM H
   clear H
   obtain ⟨hcz9_0, hfz9_0⟩ := hC1 BK391
   go_wp2_with (first | ((with_reducible refine gG 75 (some 14) rfl rfl ?_); refine gC Tryd.func75 (spec_laAsked.calls _ _ l0_0 a1 true _ (cU (Kd.C_below HR0_0.out HB.out)) HC0_0.out A6.out) ?_; rintro w10 hb; replace BK391 := bB BK391 hb; replace HB := hS HB hb; clear hb) | (go_at_call 96; (with_reducible refine (spec_l1In.calls a2 0 (wrap64 ((a1.size : Int) - 1)) t393 _ A8.out).mono ?_); rintro e w' ⟨rfl, ⟨nd, rfl⟩⟩))
   go_meet
   case rel => exact ⟨_, (!t393), rF, H', kL, ⟨bU BK391.out⟩, hV HB⟩
  have H' := aM H
  clear H
  obtain ⟨hcz11_0, hfz11_0⟩ := hC1 BK391
  go_wp2_with (first | ((with_reducible refine gG 75 (some 14) rfl rfl ?_); refine gC Tryd.func75 (spec_laAsked.calls _ _ l0_0 a1 false _ (cU (Kd.C_below HR0_0.out HB.out)) HC0_0.out A6.out) ?_; rintro w12 hb; replace BK391 := bB BK391 hb; replace HB := hS HB hb; clear hb))
  go_meet
  case rel => exact ⟨_, (true), rF, H', kL, ⟨bU BK391.out⟩, hV HB⟩
 case rest =>
  clear HC4
  obtain ⟨kq, x23_3, rfl, HA, HJ3, BK391, HB⟩ := hcut
  obtain rfl | ⟨kj3, rfl⟩ := fz kq
  ·exact zA HA
  have H := HA.out
  clear HA
  simp only [spec_FirstTick.j0] at H
  refine iB H ?_ ?_ <;> clear H <;> rintro rfl H
  ·simp only [Option.some.injEq, Prod.mk.injEq] at H
   obtain ⟨rfl, rfl⟩ := H
   go_wp2
   go_ret2
   exact ⟨eW, bel HB⟩
  replace H := bC H; obtain ⟨⟨t394, t397⟩, A14, H⟩ := H; try dsimp only at H
  have H' := aM H
  clear H
  obtain ⟨hcz15_0, hfz15_0⟩ := hC1 BK391
  go_wp2_with (first | ((with_reducible refine gG 77 (some 27) rfl rfl ?_); refine gD Tryd.func77 (spec_laPath.calls kj3 _ _ l0_0 a1 t394 t397 _ (cU (Kd.C_below HR0_0.out HB.out)) HC0_0.out A14.out) ?_; rintro w16 v395 ⟨ho0, hb⟩; have HO396 := rL ho0 HB; replace BK391 := bB BK391 hb; replace HB := hS HB hb; clear hb ho0; obtain ⟨Ao17, co17, eo17⟩ := Kd.R_slice HO396.out; subst eo17))
  go_loopg [32] kj3 (fun kq v32 w' => ∃ (x32_2 : Int), v32 = .int .i64 x32_2 ∧ Aside0 (spec_FirstTick.l0 kq a2 t394 (t394.length : Int) x32_2 = some (r1, r2)) ∧ Aside0 (kq ≤ kj3) ∧ Aside0 (Kd.R Kd.string 9 w' w.heap.size (fun _ => True) (.slice Ao17 t394.length co17) t394) ∧ Aside0 (w'.heap[gb391]? = some (.cells #[(.slice A0_0 l0_0.length c0_0)] 26 (0, 0))) ∧ Aside0 (Below w.heap.size w w'))
  case atStart => exact ⟨(0), rF, H', kR, ⟨rU HO396.out⟩, ⟨bU BK391.out⟩, hV HB⟩
  case round =>
   clear H'
   try clear hcz15_0;try clear hfz15_0
   obtain ⟨x32_2, rfl, HA, HK2, HO_30, BK391, HB⟩ := hrel
   obtain rfl | ⟨k2, rfl⟩ := fz gk
   ·exact zA HA
   have H := HA.out
   clear HA
   simp only [spec_FirstTick.l0] at H
   refine iI H ?_ ?_ <;> clear H <;> intro c18 H
   ·have c18b0 := dT c18
    clear c18
    refine iY H ?_; clear H; intro c19 H
    have c19b0 := dT c19
    clear c19
    refine iY H ?_; clear H; intro c20 H
    have c20b0 := dT c20
    clear c20
    refine iY H ?_; clear H; intro c21 H
    have c21b0 := dT c21
    clear c21
    refine iY H ?_; clear H; intro c22 H
    have c22b0 := dT c22
    clear c22
    refine iI H ?_ ?_ <;> clear H <;> intro c24 H
    ·have c24b0 := qT c24
     have c24b1 := nF c24
     clear c24
     simp only [Option.some.injEq, Prod.mk.injEq] at H
     obtain ⟨rfl, rfl⟩ := H
     have p398 : 0 ≤ (x32_2 : Int) := oD
     have q398 : x32_2 < (t394.length : Int) := oD
     obtain ⟨ad398, e398, hx398_0⟩ := Kd.at_string (Kd.R_reads' HO_30.out).2.2 x32_2 p398 q398
     cases e398
     replace p398 := eq_true p398
     replace q398 := eq_true q398
     have p23 : 0 ≤ (a2 : Int) := oD
     have q23 : a2 < ((rdOf ByteArray.empty t394 x32_2).size : Int) := oD
     have hx23 := bt_at (rdOf ByteArray.empty t394 x32_2) a2
     replace p23 := eq_true p23
     replace q23 := eq_true q23
     go_wp2
     go_ret2
     exact ⟨eW, bel HB⟩
    have c24b0 := qF c24
    have c24b1 := nT c24
    have H' := aM H
    clear H
    have p398 : 0 ≤ (x32_2 : Int) := oD
    have q398 : x32_2 < (t394.length : Int) := oD
    obtain ⟨ad398, e398, hx398_0⟩ := Kd.at_string (Kd.R_reads' HO_30.out).2.2 x32_2 p398 q398
    cases e398
    replace p398 := eq_true p398
    replace q398 := eq_true q398
    have p23 : 0 ≤ (a2 : Int) := oD
    have q23 : a2 < ((rdOf ByteArray.empty t394 x32_2).size : Int) := oD
    have hx23 := bt_at (rdOf ByteArray.empty t394 x32_2) a2
    replace p23 := eq_true p23
    replace q23 := eq_true q23
    go_wp2
    go_roundg k2
    case measure => have := HJ3.out; have := HK2.out; omega
    case rel => exact ⟨(wrap64 (x32_2 + 1)), rF, H', ⟨by have := HJ3.out; have := HK2.out; omega⟩, ⟨rU HO_30.out⟩, ⟨bU BK391.out⟩, hV HB⟩
   have c18b0 := dF c18
   clear c18
   simp only [Option.some.injEq, Prod.mk.injEq] at H
   obtain ⟨rfl, rfl⟩ := H
   go_wp2
   go_ret2
   exact ⟨eW, bel HB⟩

/-! ### laws_xTexts: function 25 -/
def laws_xTexts.l0 : Nat → List ByteArray → List ByteArray → Int → Int → Option (Bool)
 | 0, _, _, _, _ => none
 | k + 1, x0, x1, x12, x13 => if x13 < x12 then (if 0 ≤ x13 then (if x13 < (x0.length : Int) then (if x13 < (x1.length : Int) then (if (rdOf ByteArray.empty x0 x13).toList = (rdOf ByteArray.empty x1 x13).toList then (laws_xTexts.l0 k x0 x1 x12 (wrap64 (x13 + 1))) else (some false)) else (none)) else (none)) else (none)) else (some true)
def laws_xTexts.f (k : Nat) (l0 : List ByteArray) (l1 : List ByteArray) : Option (Bool) := if (l0.length : Int) = (l1.length : Int) then (laws_xTexts.l0 k l0 l1 (l0.length : Int) 0) else (some false)
theorem laws_xTexts.mono_l : ∀ k, Mo (laws_xTexts.l0 k) (laws_xTexts.l0 (k + 1))
 | 0 => m0
 | k + 1 => by
  have ih0 := laws_xTexts.mono_l k
  (repeat refine mE fun _ => ?_) <;> first | (unfold laws_xTexts.l0; exact mG)
instance laws_xTexts.mI (k : Nat) : Mo (laws_xTexts.f k) (laws_xTexts.f (k + 1)) := by
 have ih0 := laws_xTexts.mono_l k
 (repeat refine mE fun _ => ?_); unfold laws_xTexts.f; exact mG
theorem laws_xTexts.mono : ∀ a0 a1 k, LeO (laws_xTexts.f k a0 a1) (laws_xTexts.f (k + 1) a0 a1) := fun a0 a1 k => (laws_xTexts.mI k).out a0 a1
set_option maxHeartbeats 8000000 in
set_option maxRecDepth 100000 in
theorem laws_xTexts.calls (k : Nat) (A0 : Option Addr) (c0 : Nat) (l0 : List ByteArray) (A1 : Option Addr) (c1 : Nat) (l1 : List ByteArray) (r : Bool) (w : World) (hr0 : Kd.C Kd.string w A0 l0.length l0) (hc0 : l0.length ≤ c0) (hr1 : Kd.C Kd.string w A1 l1.length l1) (hc1 : l1.length ≤ c1) (h : laws_xTexts.f k l0 l1 = some r) :
  Calls Tryd.prog 25 #[.slice A0 l0.length c0, .slice A1 l1.length c1] w fun e w' => e = .returned (.bool r) ∧ Drawn0 w w' := by
 have HR0 := aM hr0
 have HC0 := aM hc0
 clear hr0 hc0
 have HR1 := aM hr1
 have HC1 := aM hc1
 clear hr1 hc1
 have H := h
 clear h; unfold laws_xTexts.f at H
 refine iI H ?_ ?_ <;> clear H <;> intro c3 H
 ·have c3b0 := qT c3
  have c3b1 := nF c3
  have c3b2 : (l0.length == l1.length) = true := by first | simpa using c3 | (simp at c3 ⊢; omega)
  clear c3
  have H' := aM H
  clear H
  go_enter Tryd.func25, Tryd.ntmps25
  go_wp2
  repeat (go_quiet (fail); try go_wp2)
  go_loopg [13] k (fun kq v13 w' => ∃ (x13_1 : Int), v13 = .int .i64 x13_1 ∧ Aside0 (laws_xTexts.l0 kq l0 l1 (l0.length : Int) x13_1 = some r) ∧ Aside0 (kq ≤ k) ∧ Drawn0 w w')
  case atStart => exact ⟨(0), rF, H', kR, d0⟩
  case round =>
   clear H'
   try clear c1;try clear c3b0;try clear c3b1;try clear c3b2
   obtain ⟨x13_1, rfl, HA, HK1, ⟨m1, rfl⟩⟩ := hrel
   obtain rfl | ⟨k1, rfl⟩ := fz gk
   ·exact zA HA
   have H := HA.out
   clear HA
   simp only [laws_xTexts.l0] at H
   refine iI H ?_ ?_ <;> clear H <;> intro c4 H
   ·have c4b0 := dT c4
    clear c4
    refine iY H ?_; clear H; intro c5 H
    have c5b0 := dT c5
    clear c5
    refine iY H ?_; clear H; intro c6 H
    have c6b0 := dT c6
    clear c6
    refine iY H ?_; clear H; intro c7 H
    have c7b0 := dT c7
    clear c7
    refine iI H ?_ ?_ <;> clear H <;> intro c8 H
    ·have c8b0 := qT c8
     have c8b1 := nF c8
     clear c8
     have H' := aM H
     clear H
     have p399 : 0 ≤ (x13_1 : Int) := oD
     have q399 : x13_1 < (l0.length : Int) := oD
     obtain ⟨ad399, e399, hx399_0⟩ := Kd.at_string HR0.out x13_1 p399 q399
     cases e399
     replace p399 := eq_true p399
     replace q399 := eq_true q399
     have p400 : 0 ≤ (x13_1 : Int) := oD
     have q400 : x13_1 < (l1.length : Int) := oD
     obtain ⟨ad400, e400, hx400_0⟩ := Kd.at_string HR1.out x13_1 p400 q400
     cases e400
     replace p400 := eq_true p400
     replace q400 := eq_true q400
     go_wp2
     repeat (go_quiet (fail); try go_wp2)
     go_roundg k1
     case measure => have := HK1.out; omega
     case rel => exact ⟨(wrap64 (x13_1 + 1)), rF, H', ⟨by have := HK1.out; omega⟩, d0⟩
    have c8b0 := qF c8
    have c8b1 := nT c8
    obtain rfl := Option.some.inj H
    have p399 : 0 ≤ (x13_1 : Int) := oD
    have q399 : x13_1 < (l0.length : Int) := oD
    obtain ⟨ad399, e399, hx399_0⟩ := Kd.at_string HR0.out x13_1 p399 q399
    cases e399
    replace p399 := eq_true p399
    replace q399 := eq_true q399
    have p400 : 0 ≤ (x13_1 : Int) := oD
    have q400 : x13_1 < (l1.length : Int) := oD
    obtain ⟨ad400, e400, hx400_0⟩ := Kd.at_string HR1.out x13_1 p400 q400
    cases e400
    replace p400 := eq_true p400
    replace q400 := eq_true q400
    go_wp2
    repeat (go_quiet (fail); try go_wp2)
    go_ret
    exact ⟨rF, d0⟩
   have c4b0 := dF c4
   clear c4
   obtain rfl := Option.some.inj H
   go_wp2
   repeat (go_quiet (fail); try go_wp2)
   go_ret
   exact ⟨rF, d0⟩
 have c3b0 := qF c3
 have c3b1 := nT c3
 have c3b2 : (l0.length == l1.length) = false := by first | simpa using c3 | (simp at c3 ⊢; omega)
 obtain rfl := Option.some.inj H
 go_enter Tryd.func25, Tryd.ntmps25
 go_wp2
 repeat (go_quiet (fail); try go_wp2)
 go_ret
 exact ⟨rF, d0⟩

end Go.Proofs.YtiiahdjjngdgoaaDoor.PLTick
