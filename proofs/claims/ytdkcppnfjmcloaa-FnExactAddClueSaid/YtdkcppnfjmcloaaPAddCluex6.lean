-- PRINTED by drive.py (a program of this session's, over the kit's print.py; wip/tools/drive.py). Lean checks it.
import Derived.Test.YtdkcppnfjmcloaaPAddCluex0
import Derived.Test.YtdkcppnfjmcloaaPAddCluex1
import Derived.Test.YtdkcppnfjmcloaaPAddCluex3
import Derived.Test.YtdkcppnfjmcloaaPAddCluex5
namespace Go.Proofs.Ytdkcppnfjmcloaa.PAddClue
open Go.RowKit Go.Proofs.YtdkcppnfjmcloaaW.PrintWords Go.Proofs.YtdkcppnfjmcloaaW.PrintLast Go.Proofs.YtdkcppnfjmcloaaW.PrintMore
attribute [local go_sem] max2_int min2_int max_two min_two max_three min_three max_four min_four   -- for this text's walks alone
set_option linter.unusedVariables false
set_option linter.unusedSimpArgs false

/-! ### laws_FnExactAddClue: function 5 -/
def laws_FnExactAddClue.f (k : Nat) (a0_0 : Int) (l0_1 : List (S23)) (a1_0 : Int) (a1_1 : Int) (a1_2 : Int) : Option (Bool) := (laws_szPuzzle.f a0_0 l0_1 1048576).bind fun t195 => (if t195 < 0 then (some true) else ((laws_toPuzzle.f k a0_0 l0_1).bind fun bt196 => ((laws_toClue.f a1_0 a1_1 a1_2).bind fun bt200 => ((spec_AddClue.f k bt196.1 bt196.2 bt200.1 bt200.2.1 bt200.2.2).bind fun bt203 => ((laws_toPuzzle.f k a0_0 l0_1).bind fun bt209 => ((laws_toClue.f a1_0 a1_1 a1_2).bind fun bt214 => ((impl_AddClue.f k bt209.1 bt209.2 bt214.1 bt214.2.1 bt214.2.2).bind fun bt217 => ((laws_eqPuzzle.f k bt217.1 bt217.2.1 bt203.1 bt203.2.1).bind fun t223 => (if t223 = true then (if (bt217.2.2 != bt203.2.2) = true then (none) else ((laws_toPuzzle.f k a0_0 l0_1).bind fun bt224 => ((laws_eqPuzzle.f k bt209.1 bt209.2 bt224.1 bt224.2).bind fun t228 => (if t228 = true then ((laws_markPuzzle.f k bt209.1 bt209.2 1).bind fun bt229 => (if bt229.1 < 0 then (none) else ((laws_eqPuzzle.f k bt217.1 bt217.2.1 bt203.1 bt203.2.1).bind fun t231 => (if t231 = true then ((laws_markPuzzle.f k bt217.1 bt217.2.1 1).bind fun bt232 => ((laws_heldPuzzle.f k bt217.1 bt232.2 1).bind fun t234 => (if t234 < 0 then (none) else (if t234 = bt232.1 then ((laws_toPuzzle.f k a0_0 l0_1).bind fun bt235 => ((laws_toClue.f a1_0 a1_1 a1_2).bind fun bt239 => ((impl_AddClue.f k bt235.1 bt235.2 bt239.1 bt239.2.1 bt239.2.2).bind fun bt242 => ((laws_eqPuzzle.f k bt242.1 bt242.2.1 bt203.1 bt203.2.1).bind fun t248 => (if t248 = true then (if (bt242.2.2 != bt203.2.2) = true then (none) else ((laws_heldPuzzle.f k bt217.1 bt232.2 1).bind fun t249 => (if t249 < 0 then (none) else (if t249 = bt232.1 then (some true) else (none))))) else (none)))))) else (none))))) else (none))))) else (none))))) else (none))))))))))
theorem laws_FnExactAddClue.mono : ∀ a0 a1 a2 a3 a4 k, LeO (laws_FnExactAddClue.f k a0 a1 a2 a3 a4) (laws_FnExactAddClue.f (k + 1) a0 a1 a2 a3 a4) := by
 intro a0 a1 a2 a3 a4 k
 unfold laws_FnExactAddClue.f
 repeat' first
   | (with_reducible exact impl_AddClue.mono _ _ _ _ _ _)
   | (with_reducible exact laws_eqPuzzle.mono _ _ _ _ _)
   | (with_reducible exact laws_heldPuzzle.mono _ _ _ _)
   | (with_reducible exact laws_markPuzzle.mono _ _ _ _)
   | (with_reducible exact laws_toPuzzle.mono _ _ _)
   | (with_reducible exact spec_AddClue.mono _ _ _ _ _ _)
   | (with_reducible exact LeO.refl _)
   | (with_reducible exact LeO.none _)
   | (with_reducible refine LeO.ite ?_ ?_)
   | (with_reducible refine LeO.bind ?_ (fun _ => ?_))
   | exact impl_AddClue.mono _ _ _ _ _ _
   | exact laws_eqPuzzle.mono _ _ _ _ _
   | exact laws_heldPuzzle.mono _ _ _ _
   | exact laws_markPuzzle.mono _ _ _ _
   | exact laws_toPuzzle.mono _ _ _
   | exact spec_AddClue.mono _ _ _ _ _ _
   | exact LeO.none _
   | refine LeO.ite ?_ ?_
   | refine LeO.bind ?_ (fun _ => ?_)
def laws_FnExactAddClue.T5 : Bool × List (List Nat × List Nat) := (true, [([], []), ([0], [0]), ([], []), ([2, 1], [2]), ([1, 3, 3], [1, 3]), ([4], [4]), ([5], [5]), ([5], [5]), ([], []), ([8, 6, 4, 0, 1, 2, 3, 4, 5, 6, 8], [6, 8]), ([7, 9, 0, 1, 2, 3, 4, 5, 6, 7, 8, 9], [7])])
def laws_FnExactAddClue.B5 : List Nat := [0, 1, 0, 7, 15, 31, 63, 63, 0, 383, 1023]
theorem laws_FnExactAddClue.tab5 : rtab .any (opsOf Try.f5 5) = laws_FnExactAddClue.T5 := by kernel_rfl
theorem laws_FnExactAddClue.bits5 : waitsOk laws_FnExactAddClue.T5.2 laws_FnExactAddClue.B5 = true := by kernel_rfl
def laws_FnExactAddClue.T7 : Bool × List (List Nat × List Nat) := (true, [([], []), ([], []), ([1], [1]), ([0, 2, 2], [0, 2]), ([3], [3]), ([4], [4]), ([4], [4]), ([], []), ([7, 5, 3, 0, 1, 2, 3, 4, 5, 7], [5, 7]), ([6, 8, 0, 1, 2, 3, 4, 5, 6, 7, 8], [6])])
def laws_FnExactAddClue.B7 : List Nat := [0, 0, 2, 7, 15, 31, 31, 0, 191, 511]
theorem laws_FnExactAddClue.tab7 : rtab .any (opsOf Try.f5 7) = laws_FnExactAddClue.T7 := by kernel_rfl
theorem laws_FnExactAddClue.bits7 : waitsOk laws_FnExactAddClue.T7.2 laws_FnExactAddClue.B7 = true := by kernel_rfl
def laws_FnExactAddClue.T24 : Bool × List (List Nat × List Nat) := (true, [([], []), ([0], [0]), ([], []), ([2, 1], [2]), ([1, 3, 3], [1, 3]), ([4], [4]), ([5], [5]), ([5], [5]), ([], []), ([8, 6, 4, 0, 1, 2, 3, 4, 5, 6, 8], [6, 8]), ([7, 9, 0, 1, 2, 3, 4, 5, 6, 7, 8, 9], [7])])
def laws_FnExactAddClue.B24 : List Nat := [0, 1, 0, 7, 15, 31, 63, 63, 0, 383, 1023]
theorem laws_FnExactAddClue.tab24 : rtab .any (opsOf Try.f5 24) = laws_FnExactAddClue.T24 := by kernel_rfl
theorem laws_FnExactAddClue.bits24 : waitsOk laws_FnExactAddClue.T24.2 laws_FnExactAddClue.B24 = true := by kernel_rfl
set_option maxHeartbeats 8000000 in
set_option maxRecDepth 100000 in
theorem laws_FnExactAddClue.calls (k : Nat) (a0_0 : Int) (A0_1 : Option Addr) (c0_1 : Nat) (l0_1 : List (S23)) (a1_0 : Int) (a1_1 : Int) (a1_2 : Int) (r : Bool) (w : World) (hr0_1 : Kd.C k23 w A0_1 l0_1.length l0_1) (hc0_1 : l0_1.length ≤ c0_1) (h : laws_FnExactAddClue.f k a0_0 l0_1 a1_0 a1_1 a1_2 = some r) :
  Calls Try.prog 5 #[.agg #[.int .i64 a0_0, .slice A0_1 l0_1.length c0_1], .agg #[.int .i64 a1_0, .int .i64 a1_1, .int .i64 a1_2]] w fun e w' => e = .returned (.bool r) ∧ Below w.heap.size w w' := by
 have hu30 := Try.underlying30
 have hu23 := Try.underlying23
 have hu35 := Try.underlying35
 have HR0_1 := Aside0.mk hr0_1
 have HC0_1 := Aside0.mk hc0_1
 clear hr0_1 hc0_1
 have HB := Aside0.mk (Below.refl w.heap.size w)
 have H : ((laws_szPuzzle.f a0_0 l0_1 1048576).bind fun t195 => (if t195 < 0 then (some true) else ((laws_toPuzzle.f k a0_0 l0_1).bind fun bt196 => ((laws_toClue.f a1_0 a1_1 a1_2).bind fun bt200 => ((spec_AddClue.f k bt196.1 bt196.2 bt200.1 bt200.2.1 bt200.2.2).bind fun bt203 => ((laws_toPuzzle.f k a0_0 l0_1).bind fun bt209 => ((laws_toClue.f a1_0 a1_1 a1_2).bind fun bt214 => ((impl_AddClue.f k bt209.1 bt209.2 bt214.1 bt214.2.1 bt214.2.2).bind fun bt217 => ((laws_eqPuzzle.f k bt217.1 bt217.2.1 bt203.1 bt203.2.1).bind fun t223 => (if t223 = true then (if (bt217.2.2 != bt203.2.2) = true then (none) else ((laws_toPuzzle.f k a0_0 l0_1).bind fun bt224 => ((laws_eqPuzzle.f k bt209.1 bt209.2 bt224.1 bt224.2).bind fun t228 => (if t228 = true then ((laws_markPuzzle.f k bt209.1 bt209.2 1).bind fun bt229 => (if bt229.1 < 0 then (none) else ((laws_eqPuzzle.f k bt217.1 bt217.2.1 bt203.1 bt203.2.1).bind fun t231 => (if t231 = true then ((laws_markPuzzle.f k bt217.1 bt217.2.1 1).bind fun bt232 => ((laws_heldPuzzle.f k bt217.1 bt232.2 1).bind fun t234 => (if t234 < 0 then (none) else (if t234 = bt232.1 then ((laws_toPuzzle.f k a0_0 l0_1).bind fun bt235 => ((laws_toClue.f a1_0 a1_1 a1_2).bind fun bt239 => ((impl_AddClue.f k bt235.1 bt235.2 bt239.1 bt239.2.1 bt239.2.2).bind fun bt242 => ((laws_eqPuzzle.f k bt242.1 bt242.2.1 bt203.1 bt203.2.1).bind fun t248 => (if t248 = true then (if (bt242.2.2 != bt203.2.2) = true then (none) else ((laws_heldPuzzle.f k bt217.1 bt232.2 1).bind fun t249 => (if t249 < 0 then (none) else (if t249 = bt232.1 then (some true) else (none))))) else (none)))))) else (none))))) else (none))))) else (none))))) else (none))))))))))) = some r := h
 clear h
 replace H := Option.bind_eq_some_iff.mp H
 obtain ⟨t195, A30, H⟩ := H
 replace H : (if t195 < 0 then (some true) else ((laws_toPuzzle.f k a0_0 l0_1).bind fun bt196 => ((laws_toClue.f a1_0 a1_1 a1_2).bind fun bt200 => ((spec_AddClue.f k bt196.1 bt196.2 bt200.1 bt200.2.1 bt200.2.2).bind fun bt203 => ((laws_toPuzzle.f k a0_0 l0_1).bind fun bt209 => ((laws_toClue.f a1_0 a1_1 a1_2).bind fun bt214 => ((impl_AddClue.f k bt209.1 bt209.2 bt214.1 bt214.2.1 bt214.2.2).bind fun bt217 => ((laws_eqPuzzle.f k bt217.1 bt217.2.1 bt203.1 bt203.2.1).bind fun t223 => (if t223 = true then (if (bt217.2.2 != bt203.2.2) = true then (none) else ((laws_toPuzzle.f k a0_0 l0_1).bind fun bt224 => ((laws_eqPuzzle.f k bt209.1 bt209.2 bt224.1 bt224.2).bind fun t228 => (if t228 = true then ((laws_markPuzzle.f k bt209.1 bt209.2 1).bind fun bt229 => (if bt229.1 < 0 then (none) else ((laws_eqPuzzle.f k bt217.1 bt217.2.1 bt203.1 bt203.2.1).bind fun t231 => (if t231 = true then ((laws_markPuzzle.f k bt217.1 bt217.2.1 1).bind fun bt232 => ((laws_heldPuzzle.f k bt217.1 bt232.2 1).bind fun t234 => (if t234 < 0 then (none) else (if t234 = bt232.1 then ((laws_toPuzzle.f k a0_0 l0_1).bind fun bt235 => ((laws_toClue.f a1_0 a1_1 a1_2).bind fun bt239 => ((impl_AddClue.f k bt235.1 bt235.2 bt239.1 bt239.2.1 bt239.2.2).bind fun bt242 => ((laws_eqPuzzle.f k bt242.1 bt242.2.1 bt203.1 bt203.2.1).bind fun t248 => (if t248 = true then (if (bt242.2.2 != bt203.2.2) = true then (none) else ((laws_heldPuzzle.f k bt217.1 bt232.2 1).bind fun t249 => (if t249 < 0 then (none) else (if t249 = bt232.1 then (some true) else (none))))) else (none)))))) else (none))))) else (none))))) else (none))))) else (none)))))))))) = some r := H
 have A3 := Aside0.mk A30
 clear A30
 by_cases c4 : t195 < 0
 ·rw [if_pos c4] at H
  have c4b0 : decide (t195 < 0) = true := decide_eq_true c4
  clear c4
  obtain rfl := Option.some.inj H
  go_enter Try.func5, Try.ntmps5
  go_wp2_with (first | ((with_reducible refine gate_dst (N := 2) rfl ?_); refine box_event ?hg (N := 2) ?hd (cs := #[.int .i64 a0_0, .slice A0_1 l0_1.length c0_1]) (t := 30) ?hr ?_; (case hd => rfl); (case hg => rfl); (case hr => first | (go_simp; done) | (go_simp; rfl)); intro gb193 hg w5 hbox hb; have n0_ := Aside0.mk (below_step (by repeat (first | (with_reducible first | exact HB.out | apply below_alloc | apply pw_below_drewN | apply below_drew1) | exact HB.out)) hb); have n1_ := Aside0.mk (hbox); have n2_ := Aside0.mk ((by rw [hg]; exact (below_size (by repeat (first | (with_reducible first | exact HB.out | apply below_alloc | apply pw_below_drewN | apply below_drew1) | exact HB.out))) : w.heap.size ≤ gb193)); have n3_ := Aside0.mk ((by rw [hg]; exact (below_size (by repeat (first | (with_reducible first | exact HB.out | apply below_alloc | apply pw_below_drewN | apply below_drew1) | exact HB.out))) : w.heap.size ≤ gb193)); clear HB; have HB := n0_; have BK193 := n1_; have GW193 := n2_; have GE193 := n3_; clear n0_ n1_ n2_ n3_; clear hb hbox hg) | ((with_reducible refine gate_dst (N := 3) rfl ?_); refine box_event ?hg (N := 3) ?hd (cs := #[.int .i64 a1_0, .int .i64 a1_1, .int .i64 a1_2]) (t := 23) ?hr ?_; (case hd => rfl); (case hg => rfl); (case hr => first | (go_simp; done) | (go_simp; rfl)); intro gb194 hg w6 hbox hb; have n0_ := Aside0.mk (blk_below (g := gb193) (o := .cells #[.int .i64 a0_0, .slice A0_1 l0_1.length c0_1] 30 (0, 0)) (by (with_reducible repeat (first | refine blk_drewN ?_ _ | refine blk_drew ?_ | refine blk_alloc ?_ _)); exact BK193.out) hb); have n1_ := Aside0.mk (below_step (by repeat (first | (with_reducible first | exact HB.out | apply below_alloc | apply pw_below_drewN | apply below_drew1 | refine below_set ?_ GE193.out) | exact HB.out)) hb); have n2_ := Aside0.mk (hbox); have n3_ := Aside0.mk ((by rw [hg]; exact (below_size (by repeat (first | (with_reducible first | exact HB.out | apply below_alloc | apply pw_below_drewN | apply below_drew1 | refine below_set ?_ GE193.out) | exact HB.out))) : w.heap.size ≤ gb194)); have n4_ := Aside0.mk ((by rw [hg]; exact (below_size (by repeat (first | (with_reducible first | exact HB.out | apply below_alloc | apply pw_below_drewN | apply below_drew1 | refine below_set ?_ GE193.out) | exact HB.out))) : w.heap.size ≤ gb194)); have n5_ := Aside0.mk ((by rw [hg]; exact Nat.ne_of_lt (blk_lt (g := gb193) (o := .cells #[.int .i64 a0_0, .slice A0_1 l0_1.length c0_1] 30 (0, 0)) (by (with_reducible repeat (first | refine blk_drewN ?_ _ | refine blk_drew ?_ | refine blk_alloc ?_ _)); exact BK193.out)) : gb193 ≠ gb194)); have n6_ := Aside0.mk ((by rw [hg]; exact Nat.ne_of_gt (blk_lt (g := gb193) (o := .cells #[.int .i64 a0_0, .slice A0_1 l0_1.length c0_1] 30 (0, 0)) (by (with_reducible repeat (first | refine blk_drewN ?_ _ | refine blk_drew ?_ | refine blk_alloc ?_ _)); exact BK193.out)) : gb194 ≠ gb193)); clear BK193; clear HB; have BK193 := n0_; have HB := n1_; have BK194 := n2_; have GW194 := n3_; have GE194 := n4_; have NB193_194 := n5_; have NB194_193 := n6_; clear n0_ n1_ n2_ n3_ n4_ n5_ n6_; clear hb hbox hg; have hnb7 := NB193_194.out; have hnc7 := NB194_193.out; have hcz8_0 : w6.cell? ⟨gb193, 0, none⟩ = some (.int .i64 a0_0) := (blk_cell BK193.out 0).trans rfl; have hcz8_1 : w6.cell? ⟨gb193, 1, none⟩ = some (.slice A0_1 l0_1.length c0_1) := (blk_cell BK193.out 1).trans rfl; have hfz8_0 := blk_frozen BK193.out 0; have hfz8_1 := blk_frozen BK193.out 1) | ((with_reducible refine gate_callee (f := 15) rfl ?_); refine goesL_ (some 18) rfl rfl Try.func15 (by kernel_rfl) rfl #[.agg #[.int .i64 a0_0, .slice A0_1 l0_1.length c0_1], .int .i64 1048576] rfl (by (try simp only [List.map_toArray, List.map_cons, List.map_nil]); first | done | rfl | (simp only [List.length_drop, List.length_take]; rfl)) ?_; (with_reducible refine (laws_szPuzzle.calls a0_0 _ _ l0_1 1048576 t195 _ ?side1 ?side2 A3.out).mono ?_); (case side1 => repeat (first | exact (Kd.C_below HR0_1.out HB.out) | (with_reducible refine Kd.C_alloc ?_ _) | (with_reducible refine Kd.C_drewN ?_ _) | (with_reducible refine Kd.C_drew ?_))); (case side2 => exact HC0_1.out); rintro e w9 ⟨rfl, hb⟩; refine ⟨_, rfl, ?_⟩; have n0_ := Aside0.mk (blk_below (g := gb193) (o := .cells #[.int .i64 a0_0, .slice A0_1 l0_1.length c0_1] 30 (0, 0)) (by (with_reducible repeat (first | refine blk_drewN ?_ _ | refine blk_drew ?_ | refine blk_alloc ?_ _)); exact BK193.out) hb); have n1_ := Aside0.mk (blk_below (g := gb194) (o := .cells #[.int .i64 a1_0, .int .i64 a1_1, .int .i64 a1_2] 23 (0, 0)) (by (with_reducible repeat (first | refine blk_drewN ?_ _ | refine blk_drew ?_ | refine blk_alloc ?_ _)); exact BK194.out) hb); have n2_ := Aside0.mk (below_step (by repeat (first | (with_reducible first | exact HB.out | apply below_alloc | apply pw_below_drewN | apply below_drew1 | refine below_set ?_ GE193.out | refine below_set ?_ GE194.out) | exact HB.out)) hb); clear BK193; clear BK194; clear HB; have BK193 := n0_; have BK194 := n1_; have HB := n2_; clear n0_ n1_ n2_; (try clear hb); (try clear hb2); (try clear hk); (try clear hi)))
  go_ret
  exact ⟨by first | rfl | (simp [errW_none, errW_some] <;> rfl) | (simp [*, errW_none, errW_some] <;> rfl), by repeat (first | (with_reducible first | exact HB.out | apply below_alloc | apply pw_below_drewN | apply below_drew1 | refine below_set ?_ GE193.out | refine below_set ?_ GE194.out) | exact HB.out)⟩
 ·rw [if_neg c4] at H
  have c4b0 : decide (t195 < 0) = false := decide_eq_false c4
  clear c4
  replace H := Option.bind_eq_some_iff.mp H
  obtain ⟨⟨t196, t197⟩, A100, H⟩ := H
  replace H : ((laws_toClue.f a1_0 a1_1 a1_2).bind fun bt200 => ((spec_AddClue.f k t196 t197 bt200.1 bt200.2.1 bt200.2.2).bind fun bt203 => ((laws_toPuzzle.f k a0_0 l0_1).bind fun bt209 => ((laws_toClue.f a1_0 a1_1 a1_2).bind fun bt214 => ((impl_AddClue.f k bt209.1 bt209.2 bt214.1 bt214.2.1 bt214.2.2).bind fun bt217 => ((laws_eqPuzzle.f k bt217.1 bt217.2.1 bt203.1 bt203.2.1).bind fun t223 => (if t223 = true then (if (bt217.2.2 != bt203.2.2) = true then (none) else ((laws_toPuzzle.f k a0_0 l0_1).bind fun bt224 => ((laws_eqPuzzle.f k bt209.1 bt209.2 bt224.1 bt224.2).bind fun t228 => (if t228 = true then ((laws_markPuzzle.f k bt209.1 bt209.2 1).bind fun bt229 => (if bt229.1 < 0 then (none) else ((laws_eqPuzzle.f k bt217.1 bt217.2.1 bt203.1 bt203.2.1).bind fun t231 => (if t231 = true then ((laws_markPuzzle.f k bt217.1 bt217.2.1 1).bind fun bt232 => ((laws_heldPuzzle.f k bt217.1 bt232.2 1).bind fun t234 => (if t234 < 0 then (none) else (if t234 = bt232.1 then ((laws_toPuzzle.f k a0_0 l0_1).bind fun bt235 => ((laws_toClue.f a1_0 a1_1 a1_2).bind fun bt239 => ((impl_AddClue.f k bt235.1 bt235.2 bt239.1 bt239.2.1 bt239.2.2).bind fun bt242 => ((laws_eqPuzzle.f k bt242.1 bt242.2.1 bt203.1 bt203.2.1).bind fun t248 => (if t248 = true then (if (bt242.2.2 != bt203.2.2) = true then (none) else ((laws_heldPuzzle.f k bt217.1 bt232.2 1).bind fun t249 => (if t249 < 0 then (none) else (if t249 = bt232.1 then (some true) else (none))))) else (none)))))) else (none))))) else (none))))) else (none))))) else (none)))))))) = some r := H
  have A10 := Aside0.mk A100
  clear A100
  replace H := Option.bind_eq_some_iff.mp H
  obtain ⟨⟨t200, t201, t202⟩, A110, H⟩ := H
  replace H : ((spec_AddClue.f k t196 t197 t200 t201 t202).bind fun bt203 => ((laws_toPuzzle.f k a0_0 l0_1).bind fun bt209 => ((laws_toClue.f a1_0 a1_1 a1_2).bind fun bt214 => ((impl_AddClue.f k bt209.1 bt209.2 bt214.1 bt214.2.1 bt214.2.2).bind fun bt217 => ((laws_eqPuzzle.f k bt217.1 bt217.2.1 bt203.1 bt203.2.1).bind fun t223 => (if t223 = true then (if (bt217.2.2 != bt203.2.2) = true then (none) else ((laws_toPuzzle.f k a0_0 l0_1).bind fun bt224 => ((laws_eqPuzzle.f k bt209.1 bt209.2 bt224.1 bt224.2).bind fun t228 => (if t228 = true then ((laws_markPuzzle.f k bt209.1 bt209.2 1).bind fun bt229 => (if bt229.1 < 0 then (none) else ((laws_eqPuzzle.f k bt217.1 bt217.2.1 bt203.1 bt203.2.1).bind fun t231 => (if t231 = true then ((laws_markPuzzle.f k bt217.1 bt217.2.1 1).bind fun bt232 => ((laws_heldPuzzle.f k bt217.1 bt232.2 1).bind fun t234 => (if t234 < 0 then (none) else (if t234 = bt232.1 then ((laws_toPuzzle.f k a0_0 l0_1).bind fun bt235 => ((laws_toClue.f a1_0 a1_1 a1_2).bind fun bt239 => ((impl_AddClue.f k bt235.1 bt235.2 bt239.1 bt239.2.1 bt239.2.2).bind fun bt242 => ((laws_eqPuzzle.f k bt242.1 bt242.2.1 bt203.1 bt203.2.1).bind fun t248 => (if t248 = true then (if (bt242.2.2 != bt203.2.2) = true then (none) else ((laws_heldPuzzle.f k bt217.1 bt232.2 1).bind fun t249 => (if t249 < 0 then (none) else (if t249 = bt232.1 then (some true) else (none))))) else (none)))))) else (none))))) else (none))))) else (none))))) else (none))))))) = some r := H
  have A11 := Aside0.mk A110
  clear A110
  replace H := Option.bind_eq_some_iff.mp H
  obtain ⟨⟨t203, t204, t207⟩, A120, H⟩ := H
  replace H : ((laws_toPuzzle.f k a0_0 l0_1).bind fun bt209 => ((laws_toClue.f a1_0 a1_1 a1_2).bind fun bt214 => ((impl_AddClue.f k bt209.1 bt209.2 bt214.1 bt214.2.1 bt214.2.2).bind fun bt217 => ((laws_eqPuzzle.f k bt217.1 bt217.2.1 t203 t204).bind fun t223 => (if t223 = true then (if (bt217.2.2 != t207) = true then (none) else ((laws_toPuzzle.f k a0_0 l0_1).bind fun bt224 => ((laws_eqPuzzle.f k bt209.1 bt209.2 bt224.1 bt224.2).bind fun t228 => (if t228 = true then ((laws_markPuzzle.f k bt209.1 bt209.2 1).bind fun bt229 => (if bt229.1 < 0 then (none) else ((laws_eqPuzzle.f k bt217.1 bt217.2.1 t203 t204).bind fun t231 => (if t231 = true then ((laws_markPuzzle.f k bt217.1 bt217.2.1 1).bind fun bt232 => ((laws_heldPuzzle.f k bt217.1 bt232.2 1).bind fun t234 => (if t234 < 0 then (none) else (if t234 = bt232.1 then ((laws_toPuzzle.f k a0_0 l0_1).bind fun bt235 => ((laws_toClue.f a1_0 a1_1 a1_2).bind fun bt239 => ((impl_AddClue.f k bt235.1 bt235.2 bt239.1 bt239.2.1 bt239.2.2).bind fun bt242 => ((laws_eqPuzzle.f k bt242.1 bt242.2.1 t203 t204).bind fun t248 => (if t248 = true then (if (bt242.2.2 != t207) = true then (none) else ((laws_heldPuzzle.f k bt217.1 bt232.2 1).bind fun t249 => (if t249 < 0 then (none) else (if t249 = bt232.1 then (some true) else (none))))) else (none)))))) else (none))))) else (none))))) else (none))))) else (none)))))) = some r := H
  have A12 := Aside0.mk A120
  clear A120
  replace H := Option.bind_eq_some_iff.mp H
  obtain ⟨⟨t209, t210⟩, A130, H⟩ := H
  replace H : ((laws_toClue.f a1_0 a1_1 a1_2).bind fun bt214 => ((impl_AddClue.f k t209 t210 bt214.1 bt214.2.1 bt214.2.2).bind fun bt217 => ((laws_eqPuzzle.f k bt217.1 bt217.2.1 t203 t204).bind fun t223 => (if t223 = true then (if (bt217.2.2 != t207) = true then (none) else ((laws_toPuzzle.f k a0_0 l0_1).bind fun bt224 => ((laws_eqPuzzle.f k t209 t210 bt224.1 bt224.2).bind fun t228 => (if t228 = true then ((laws_markPuzzle.f k t209 t210 1).bind fun bt229 => (if bt229.1 < 0 then (none) else ((laws_eqPuzzle.f k bt217.1 bt217.2.1 t203 t204).bind fun t231 => (if t231 = true then ((laws_markPuzzle.f k bt217.1 bt217.2.1 1).bind fun bt232 => ((laws_heldPuzzle.f k bt217.1 bt232.2 1).bind fun t234 => (if t234 < 0 then (none) else (if t234 = bt232.1 then ((laws_toPuzzle.f k a0_0 l0_1).bind fun bt235 => ((laws_toClue.f a1_0 a1_1 a1_2).bind fun bt239 => ((impl_AddClue.f k bt235.1 bt235.2 bt239.1 bt239.2.1 bt239.2.2).bind fun bt242 => ((laws_eqPuzzle.f k bt242.1 bt242.2.1 t203 t204).bind fun t248 => (if t248 = true then (if (bt242.2.2 != t207) = true then (none) else ((laws_heldPuzzle.f k bt217.1 bt232.2 1).bind fun t249 => (if t249 < 0 then (none) else (if t249 = bt232.1 then (some true) else (none))))) else (none)))))) else (none))))) else (none))))) else (none))))) else (none))))) = some r := H
  have A13 := Aside0.mk A130
  clear A130
  replace H := Option.bind_eq_some_iff.mp H
  obtain ⟨⟨t214, t215, t216⟩, A140, H⟩ := H
  replace H : ((impl_AddClue.f k t209 t210 t214 t215 t216).bind fun bt217 => ((laws_eqPuzzle.f k bt217.1 bt217.2.1 t203 t204).bind fun t223 => (if t223 = true then (if (bt217.2.2 != t207) = true then (none) else ((laws_toPuzzle.f k a0_0 l0_1).bind fun bt224 => ((laws_eqPuzzle.f k t209 t210 bt224.1 bt224.2).bind fun t228 => (if t228 = true then ((laws_markPuzzle.f k t209 t210 1).bind fun bt229 => (if bt229.1 < 0 then (none) else ((laws_eqPuzzle.f k bt217.1 bt217.2.1 t203 t204).bind fun t231 => (if t231 = true then ((laws_markPuzzle.f k bt217.1 bt217.2.1 1).bind fun bt232 => ((laws_heldPuzzle.f k bt217.1 bt232.2 1).bind fun t234 => (if t234 < 0 then (none) else (if t234 = bt232.1 then ((laws_toPuzzle.f k a0_0 l0_1).bind fun bt235 => ((laws_toClue.f a1_0 a1_1 a1_2).bind fun bt239 => ((impl_AddClue.f k bt235.1 bt235.2 bt239.1 bt239.2.1 bt239.2.2).bind fun bt242 => ((laws_eqPuzzle.f k bt242.1 bt242.2.1 t203 t204).bind fun t248 => (if t248 = true then (if (bt242.2.2 != t207) = true then (none) else ((laws_heldPuzzle.f k bt217.1 bt232.2 1).bind fun t249 => (if t249 < 0 then (none) else (if t249 = bt232.1 then (some true) else (none))))) else (none)))))) else (none))))) else (none))))) else (none))))) else (none)))) = some r := H
  have A14 := Aside0.mk A140
  clear A140
  replace H := Option.bind_eq_some_iff.mp H
  obtain ⟨⟨t217, t218, t221⟩, A150, H⟩ := H
  replace H : ((laws_eqPuzzle.f k t217 t218 t203 t204).bind fun t223 => (if t223 = true then (if (t221 != t207) = true then (none) else ((laws_toPuzzle.f k a0_0 l0_1).bind fun bt224 => ((laws_eqPuzzle.f k t209 t210 bt224.1 bt224.2).bind fun t228 => (if t228 = true then ((laws_markPuzzle.f k t209 t210 1).bind fun bt229 => (if bt229.1 < 0 then (none) else ((laws_eqPuzzle.f k t217 t218 t203 t204).bind fun t231 => (if t231 = true then ((laws_markPuzzle.f k t217 t218 1).bind fun bt232 => ((laws_heldPuzzle.f k t217 bt232.2 1).bind fun t234 => (if t234 < 0 then (none) else (if t234 = bt232.1 then ((laws_toPuzzle.f k a0_0 l0_1).bind fun bt235 => ((laws_toClue.f a1_0 a1_1 a1_2).bind fun bt239 => ((impl_AddClue.f k bt235.1 bt235.2 bt239.1 bt239.2.1 bt239.2.2).bind fun bt242 => ((laws_eqPuzzle.f k bt242.1 bt242.2.1 t203 t204).bind fun t248 => (if t248 = true then (if (bt242.2.2 != t207) = true then (none) else ((laws_heldPuzzle.f k t217 bt232.2 1).bind fun t249 => (if t249 < 0 then (none) else (if t249 = bt232.1 then (some true) else (none))))) else (none)))))) else (none))))) else (none))))) else (none))))) else (none))) = some r := H
  have A15 := Aside0.mk A150
  clear A150
  replace H := Option.bind_eq_some_iff.mp H
  obtain ⟨t223, A160, H⟩ := H
  replace H : (if t223 = true then (if (t221 != t207) = true then (none) else ((laws_toPuzzle.f k a0_0 l0_1).bind fun bt224 => ((laws_eqPuzzle.f k t209 t210 bt224.1 bt224.2).bind fun t228 => (if t228 = true then ((laws_markPuzzle.f k t209 t210 1).bind fun bt229 => (if bt229.1 < 0 then (none) else ((laws_eqPuzzle.f k t217 t218 t203 t204).bind fun t231 => (if t231 = true then ((laws_markPuzzle.f k t217 t218 1).bind fun bt232 => ((laws_heldPuzzle.f k t217 bt232.2 1).bind fun t234 => (if t234 < 0 then (none) else (if t234 = bt232.1 then ((laws_toPuzzle.f k a0_0 l0_1).bind fun bt235 => ((laws_toClue.f a1_0 a1_1 a1_2).bind fun bt239 => ((impl_AddClue.f k bt235.1 bt235.2 bt239.1 bt239.2.1 bt239.2.2).bind fun bt242 => ((laws_eqPuzzle.f k bt242.1 bt242.2.1 t203 t204).bind fun t248 => (if t248 = true then (if (bt242.2.2 != t207) = true then (none) else ((laws_heldPuzzle.f k t217 bt232.2 1).bind fun t249 => (if t249 < 0 then (none) else (if t249 = bt232.1 then (some true) else (none))))) else (none)))))) else (none))))) else (none))))) else (none))))) else (none)) = some r := H
  have A16 := Aside0.mk A160
  clear A160
  by_cases c17 : t223 = true
  ·subst c17
   have H1 : (if (t221 != t207) = true then (none) else ((laws_toPuzzle.f k a0_0 l0_1).bind fun bt224 => ((laws_eqPuzzle.f k t209 t210 bt224.1 bt224.2).bind fun t228 => (if t228 = true then ((laws_markPuzzle.f k t209 t210 1).bind fun bt229 => (if bt229.1 < 0 then (none) else ((laws_eqPuzzle.f k t217 t218 t203 t204).bind fun t231 => (if t231 = true then ((laws_markPuzzle.f k t217 t218 1).bind fun bt232 => ((laws_heldPuzzle.f k t217 bt232.2 1).bind fun t234 => (if t234 < 0 then (none) else (if t234 = bt232.1 then ((laws_toPuzzle.f k a0_0 l0_1).bind fun bt235 => ((laws_toClue.f a1_0 a1_1 a1_2).bind fun bt239 => ((impl_AddClue.f k bt235.1 bt235.2 bt239.1 bt239.2.1 bt239.2.2).bind fun bt242 => ((laws_eqPuzzle.f k bt242.1 bt242.2.1 t203 t204).bind fun t248 => (if t248 = true then (if (bt242.2.2 != t207) = true then (none) else ((laws_heldPuzzle.f k t217 bt232.2 1).bind fun t249 => (if t249 < 0 then (none) else (if t249 = bt232.1 then (some true) else (none))))) else (none)))))) else (none))))) else (none))))) else (none))))) = some r := by rw [if_pos rfl] at H; exact H
   clear H
   have H := H1
   clear H1
   by_cases c18 : (t221 != t207) = true
   ·rw [if_pos c18] at H
    exact absurd H (by simp)
   ·rw [if_neg c18] at H
    have c18b0 : (t221 != t207) = false := by simpa using c18
    (try (have c18b1 : decide (t221 = t207) = true := by simpa using c18))
    (try (have c18b2 : (t221 == t207) = true := by simpa using c18))
    clear c18
    replace H := Option.bind_eq_some_iff.mp H
    obtain ⟨⟨t224, t225⟩, A190, H⟩ := H
    replace H : ((laws_eqPuzzle.f k t209 t210 t224 t225).bind fun t228 => (if t228 = true then ((laws_markPuzzle.f k t209 t210 1).bind fun bt229 => (if bt229.1 < 0 then (none) else ((laws_eqPuzzle.f k t217 t218 t203 t204).bind fun t231 => (if t231 = true then ((laws_markPuzzle.f k t217 t218 1).bind fun bt232 => ((laws_heldPuzzle.f k t217 bt232.2 1).bind fun t234 => (if t234 < 0 then (none) else (if t234 = bt232.1 then ((laws_toPuzzle.f k a0_0 l0_1).bind fun bt235 => ((laws_toClue.f a1_0 a1_1 a1_2).bind fun bt239 => ((impl_AddClue.f k bt235.1 bt235.2 bt239.1 bt239.2.1 bt239.2.2).bind fun bt242 => ((laws_eqPuzzle.f k bt242.1 bt242.2.1 t203 t204).bind fun t248 => (if t248 = true then (if (bt242.2.2 != t207) = true then (none) else ((laws_heldPuzzle.f k t217 bt232.2 1).bind fun t249 => (if t249 < 0 then (none) else (if t249 = bt232.1 then (some true) else (none))))) else (none)))))) else (none))))) else (none))))) else (none))) = some r := H
    have A19 := Aside0.mk A190
    clear A190
    replace H := Option.bind_eq_some_iff.mp H
    obtain ⟨t228, A200, H⟩ := H
    replace H : (if t228 = true then ((laws_markPuzzle.f k t209 t210 1).bind fun bt229 => (if bt229.1 < 0 then (none) else ((laws_eqPuzzle.f k t217 t218 t203 t204).bind fun t231 => (if t231 = true then ((laws_markPuzzle.f k t217 t218 1).bind fun bt232 => ((laws_heldPuzzle.f k t217 bt232.2 1).bind fun t234 => (if t234 < 0 then (none) else (if t234 = bt232.1 then ((laws_toPuzzle.f k a0_0 l0_1).bind fun bt235 => ((laws_toClue.f a1_0 a1_1 a1_2).bind fun bt239 => ((impl_AddClue.f k bt235.1 bt235.2 bt239.1 bt239.2.1 bt239.2.2).bind fun bt242 => ((laws_eqPuzzle.f k bt242.1 bt242.2.1 t203 t204).bind fun t248 => (if t248 = true then (if (bt242.2.2 != t207) = true then (none) else ((laws_heldPuzzle.f k t217 bt232.2 1).bind fun t249 => (if t249 < 0 then (none) else (if t249 = bt232.1 then (some true) else (none))))) else (none)))))) else (none))))) else (none))))) else (none)) = some r := H
    have A20 := Aside0.mk A200
    clear A200
    by_cases c21 : t228 = true
    ·subst c21
     have H1 : ((laws_markPuzzle.f k t209 t210 1).bind fun bt229 => (if bt229.1 < 0 then (none) else ((laws_eqPuzzle.f k t217 t218 t203 t204).bind fun t231 => (if t231 = true then ((laws_markPuzzle.f k t217 t218 1).bind fun bt232 => ((laws_heldPuzzle.f k t217 bt232.2 1).bind fun t234 => (if t234 < 0 then (none) else (if t234 = bt232.1 then ((laws_toPuzzle.f k a0_0 l0_1).bind fun bt235 => ((laws_toClue.f a1_0 a1_1 a1_2).bind fun bt239 => ((impl_AddClue.f k bt235.1 bt235.2 bt239.1 bt239.2.1 bt239.2.2).bind fun bt242 => ((laws_eqPuzzle.f k bt242.1 bt242.2.1 t203 t204).bind fun t248 => (if t248 = true then (if (bt242.2.2 != t207) = true then (none) else ((laws_heldPuzzle.f k t217 bt232.2 1).bind fun t249 => (if t249 < 0 then (none) else (if t249 = bt232.1 then (some true) else (none))))) else (none)))))) else (none))))) else (none))))) = some r := by rw [if_pos rfl] at H; exact H
     clear H
     have H := H1
     clear H1
     replace H := Option.bind_eq_some_iff.mp H
     obtain ⟨⟨t229, t230⟩, A220, H⟩ := H
     replace H : (if t229 < 0 then (none) else ((laws_eqPuzzle.f k t217 t218 t203 t204).bind fun t231 => (if t231 = true then ((laws_markPuzzle.f k t217 t218 1).bind fun bt232 => ((laws_heldPuzzle.f k t217 bt232.2 1).bind fun t234 => (if t234 < 0 then (none) else (if t234 = bt232.1 then ((laws_toPuzzle.f k a0_0 l0_1).bind fun bt235 => ((laws_toClue.f a1_0 a1_1 a1_2).bind fun bt239 => ((impl_AddClue.f k bt235.1 bt235.2 bt239.1 bt239.2.1 bt239.2.2).bind fun bt242 => ((laws_eqPuzzle.f k bt242.1 bt242.2.1 t203 t204).bind fun t248 => (if t248 = true then (if (bt242.2.2 != t207) = true then (none) else ((laws_heldPuzzle.f k t217 bt232.2 1).bind fun t249 => (if t249 < 0 then (none) else (if t249 = bt232.1 then (some true) else (none))))) else (none)))))) else (none))))) else (none)))) = some r := H
     have A22 := Aside0.mk A220
     clear A220
     by_cases c23 : t229 < 0
     ·rw [if_pos c23] at H
      exact absurd H (by simp)
     ·rw [if_neg c23] at H
      have c23b0 : decide (t229 < 0) = false := decide_eq_false c23
      clear c23
      replace H := Option.bind_eq_some_iff.mp H
      obtain ⟨t231, A240, H⟩ := H
      replace H : (if t231 = true then ((laws_markPuzzle.f k t217 t218 1).bind fun bt232 => ((laws_heldPuzzle.f k t217 bt232.2 1).bind fun t234 => (if t234 < 0 then (none) else (if t234 = bt232.1 then ((laws_toPuzzle.f k a0_0 l0_1).bind fun bt235 => ((laws_toClue.f a1_0 a1_1 a1_2).bind fun bt239 => ((impl_AddClue.f k bt235.1 bt235.2 bt239.1 bt239.2.1 bt239.2.2).bind fun bt242 => ((laws_eqPuzzle.f k bt242.1 bt242.2.1 t203 t204).bind fun t248 => (if t248 = true then (if (bt242.2.2 != t207) = true then (none) else ((laws_heldPuzzle.f k t217 bt232.2 1).bind fun t249 => (if t249 < 0 then (none) else (if t249 = bt232.1 then (some true) else (none))))) else (none)))))) else (none))))) else (none)) = some r := H
      have A24 := Aside0.mk A240
      clear A240
      by_cases c25 : t231 = true
      ·subst c25
       have H1 : ((laws_markPuzzle.f k t217 t218 1).bind fun bt232 => ((laws_heldPuzzle.f k t217 bt232.2 1).bind fun t234 => (if t234 < 0 then (none) else (if t234 = bt232.1 then ((laws_toPuzzle.f k a0_0 l0_1).bind fun bt235 => ((laws_toClue.f a1_0 a1_1 a1_2).bind fun bt239 => ((impl_AddClue.f k bt235.1 bt235.2 bt239.1 bt239.2.1 bt239.2.2).bind fun bt242 => ((laws_eqPuzzle.f k bt242.1 bt242.2.1 t203 t204).bind fun t248 => (if t248 = true then (if (bt242.2.2 != t207) = true then (none) else ((laws_heldPuzzle.f k t217 bt232.2 1).bind fun t249 => (if t249 < 0 then (none) else (if t249 = bt232.1 then (some true) else (none))))) else (none)))))) else (none))))) = some r := by rw [if_pos rfl] at H; exact H
       clear H
       have H := H1
       clear H1
       replace H := Option.bind_eq_some_iff.mp H
       obtain ⟨⟨t232, t233⟩, A260, H⟩ := H
       replace H : ((laws_heldPuzzle.f k t217 t233 1).bind fun t234 => (if t234 < 0 then (none) else (if t234 = t232 then ((laws_toPuzzle.f k a0_0 l0_1).bind fun bt235 => ((laws_toClue.f a1_0 a1_1 a1_2).bind fun bt239 => ((impl_AddClue.f k bt235.1 bt235.2 bt239.1 bt239.2.1 bt239.2.2).bind fun bt242 => ((laws_eqPuzzle.f k bt242.1 bt242.2.1 t203 t204).bind fun t248 => (if t248 = true then (if (bt242.2.2 != t207) = true then (none) else ((laws_heldPuzzle.f k t217 t233 1).bind fun t249 => (if t249 < 0 then (none) else (if t249 = t232 then (some true) else (none))))) else (none)))))) else (none)))) = some r := H
       have A26 := Aside0.mk A260
       clear A260
       replace H := Option.bind_eq_some_iff.mp H
       obtain ⟨t234, A270, H⟩ := H
       replace H : (if t234 < 0 then (none) else (if t234 = t232 then ((laws_toPuzzle.f k a0_0 l0_1).bind fun bt235 => ((laws_toClue.f a1_0 a1_1 a1_2).bind fun bt239 => ((impl_AddClue.f k bt235.1 bt235.2 bt239.1 bt239.2.1 bt239.2.2).bind fun bt242 => ((laws_eqPuzzle.f k bt242.1 bt242.2.1 t203 t204).bind fun t248 => (if t248 = true then (if (bt242.2.2 != t207) = true then (none) else ((laws_heldPuzzle.f k t217 t233 1).bind fun t249 => (if t249 < 0 then (none) else (if t249 = t232 then (some true) else (none))))) else (none)))))) else (none))) = some r := H
       have A27 := Aside0.mk A270
       clear A270
       by_cases c28 : t234 < 0
       ·rw [if_pos c28] at H
        exact absurd H (by simp)
       ·rw [if_neg c28] at H
        have c28b0 : decide (t234 < 0) = false := decide_eq_false c28
        clear c28
        by_cases c29 : t234 = t232
        ·rw [if_pos c29] at H
         have c29b0 : (t234 == t232) = true := beq_iff_eq.mpr c29
         have c29b1 : (t234 != t232) = false := bne_eq_false_iff_eq.mpr c29
         clear c29
         replace H := Option.bind_eq_some_iff.mp H
         obtain ⟨⟨t235, t236⟩, A300, H⟩ := H
         replace H : ((laws_toClue.f a1_0 a1_1 a1_2).bind fun bt239 => ((impl_AddClue.f k t235 t236 bt239.1 bt239.2.1 bt239.2.2).bind fun bt242 => ((laws_eqPuzzle.f k bt242.1 bt242.2.1 t203 t204).bind fun t248 => (if t248 = true then (if (bt242.2.2 != t207) = true then (none) else ((laws_heldPuzzle.f k t217 t233 1).bind fun t249 => (if t249 < 0 then (none) else (if t249 = t232 then (some true) else (none))))) else (none))))) = some r := H
         have A30 := Aside0.mk A300
         clear A300
         replace H := Option.bind_eq_some_iff.mp H
         obtain ⟨⟨t239, t240, t241⟩, A310, H⟩ := H
         replace H : ((impl_AddClue.f k t235 t236 t239 t240 t241).bind fun bt242 => ((laws_eqPuzzle.f k bt242.1 bt242.2.1 t203 t204).bind fun t248 => (if t248 = true then (if (bt242.2.2 != t207) = true then (none) else ((laws_heldPuzzle.f k t217 t233 1).bind fun t249 => (if t249 < 0 then (none) else (if t249 = t232 then (some true) else (none))))) else (none)))) = some r := H
         have A31 := Aside0.mk A310
         clear A310
         replace H := Option.bind_eq_some_iff.mp H
         obtain ⟨⟨t242, t243, t246⟩, A320, H⟩ := H
         replace H : ((laws_eqPuzzle.f k t242 t243 t203 t204).bind fun t248 => (if t248 = true then (if (t246 != t207) = true then (none) else ((laws_heldPuzzle.f k t217 t233 1).bind fun t249 => (if t249 < 0 then (none) else (if t249 = t232 then (some true) else (none))))) else (none))) = some r := H
         have A32 := Aside0.mk A320
         clear A320
         replace H := Option.bind_eq_some_iff.mp H
         obtain ⟨t248, A330, H⟩ := H
         replace H : (if t248 = true then (if (t246 != t207) = true then (none) else ((laws_heldPuzzle.f k t217 t233 1).bind fun t249 => (if t249 < 0 then (none) else (if t249 = t232 then (some true) else (none))))) else (none)) = some r := H
         have A33 := Aside0.mk A330
         clear A330
         by_cases c34 : t248 = true
         ·subst c34
          have H1 : (if (t246 != t207) = true then (none) else ((laws_heldPuzzle.f k t217 t233 1).bind fun t249 => (if t249 < 0 then (none) else (if t249 = t232 then (some true) else (none))))) = some r := by rw [if_pos rfl] at H; exact H
          clear H
          have H := H1
          clear H1
          by_cases c35 : (t246 != t207) = true
          ·rw [if_pos c35] at H
           exact absurd H (by simp)
          ·rw [if_neg c35] at H
           have c35b0 : (t246 != t207) = false := by simpa using c35
           (try (have c35b1 : decide (t246 = t207) = true := by simpa using c35))
           (try (have c35b2 : (t246 == t207) = true := by simpa using c35))
           clear c35
           replace H := Option.bind_eq_some_iff.mp H
           obtain ⟨t249, A360, H⟩ := H
           replace H : (if t249 < 0 then (none) else (if t249 = t232 then (some true) else (none))) = some r := H
           have A36 := Aside0.mk A360
           clear A360
           by_cases c37 : t249 < 0
           ·rw [if_pos c37] at H
            exact absurd H (by simp)
           ·rw [if_neg c37] at H
            have c37b0 : decide (t249 < 0) = false := decide_eq_false c37
            clear c37
            by_cases c38 : t249 = t232
            ·rw [if_pos c38] at H
             have c38b0 : (t249 == t232) = true := beq_iff_eq.mpr c38
             have c38b1 : (t249 != t232) = false := bne_eq_false_iff_eq.mpr c38
             clear c38
             obtain rfl := Option.some.inj H
             go_enter Try.func5, Try.ntmps5
             try go_wp2_with (first | ((with_reducible refine gate_dst (N := 2) rfl ?_); refine box_event ?hg (N := 2) ?hd (cs := #[.int .i64 a0_0, .slice A0_1 l0_1.length c0_1]) (t := 30) ?hr ?_; (case hd => rfl); (case hg => rfl); (case hr => first | (go_simp; done) | (go_simp; rfl)); intro gb193 hg w39 hbox hb; have n0_ := Aside0.mk (below_step (by repeat (first | (with_reducible first | exact HB.out | apply below_alloc | apply pw_below_drewN | apply below_drew1) | exact HB.out)) hb); have n1_ := Aside0.mk (hbox); have n2_ := Aside0.mk ((by rw [hg]; exact (below_size (by repeat (first | (with_reducible first | exact HB.out | apply below_alloc | apply pw_below_drewN | apply below_drew1) | exact HB.out))) : w.heap.size ≤ gb193)); have n3_ := Aside0.mk ((by rw [hg]; exact (below_size (by repeat (first | (with_reducible first | exact HB.out | apply below_alloc | apply pw_below_drewN | apply below_drew1) | exact HB.out))) : w.heap.size ≤ gb193)); clear HB; have HB := n0_; have BK193 := n1_; have GW193 := n2_; have GE193 := n3_; clear n0_ n1_ n2_ n3_; clear hb hbox hg) | ((with_reducible refine gate_dst (N := 3) rfl ?_); refine box_event ?hg (N := 3) ?hd (cs := #[.int .i64 a1_0, .int .i64 a1_1, .int .i64 a1_2]) (t := 23) ?hr ?_; (case hd => rfl); (case hg => rfl); (case hr => first | (go_simp; done) | (go_simp; rfl)); intro gb194 hg w40 hbox hb; have n0_ := Aside0.mk (blk_below (g := gb193) (o := .cells #[.int .i64 a0_0, .slice A0_1 l0_1.length c0_1] 30 (0, 0)) (by (with_reducible repeat (first | refine blk_drewN ?_ _ | refine blk_drew ?_ | refine blk_alloc ?_ _)); exact BK193.out) hb); have n1_ := Aside0.mk (below_step (by repeat (first | (with_reducible first | exact HB.out | apply below_alloc | apply pw_below_drewN | apply below_drew1 | refine below_set ?_ GE193.out) | exact HB.out)) hb); have n2_ := Aside0.mk (hbox); have n3_ := Aside0.mk ((by rw [hg]; exact (below_size (by repeat (first | (with_reducible first | exact HB.out | apply below_alloc | apply pw_below_drewN | apply below_drew1 | refine below_set ?_ GE193.out) | exact HB.out))) : w.heap.size ≤ gb194)); have n4_ := Aside0.mk ((by rw [hg]; exact (below_size (by repeat (first | (with_reducible first | exact HB.out | apply below_alloc | apply pw_below_drewN | apply below_drew1 | refine below_set ?_ GE193.out) | exact HB.out))) : w.heap.size ≤ gb194)); have n5_ := Aside0.mk ((by rw [hg]; exact Nat.ne_of_lt (blk_lt (g := gb193) (o := .cells #[.int .i64 a0_0, .slice A0_1 l0_1.length c0_1] 30 (0, 0)) (by (with_reducible repeat (first | refine blk_drewN ?_ _ | refine blk_drew ?_ | refine blk_alloc ?_ _)); exact BK193.out)) : gb193 ≠ gb194)); have n6_ := Aside0.mk ((by rw [hg]; exact Nat.ne_of_gt (blk_lt (g := gb193) (o := .cells #[.int .i64 a0_0, .slice A0_1 l0_1.length c0_1] 30 (0, 0)) (by (with_reducible repeat (first | refine blk_drewN ?_ _ | refine blk_drew ?_ | refine blk_alloc ?_ _)); exact BK193.out)) : gb194 ≠ gb193)); clear BK193; clear HB; have BK193 := n0_; have HB := n1_; have BK194 := n2_; have GW194 := n3_; have GE194 := n4_; have NB193_194 := n5_; have NB194_193 := n6_; clear n0_ n1_ n2_ n3_ n4_ n5_ n6_; clear hb hbox hg; have hnb41 := NB193_194.out; have hnc41 := NB194_193.out; have hcz42_0 : w40.cell? ⟨gb193, 0, none⟩ = some (.int .i64 a0_0) := (blk_cell BK193.out 0).trans rfl; have hcz42_1 : w40.cell? ⟨gb193, 1, none⟩ = some (.slice A0_1 l0_1.length c0_1) := (blk_cell BK193.out 1).trans rfl; have hfz42_0 := blk_frozen BK193.out 0; have hfz42_1 := blk_frozen BK193.out 1) | ((with_reducible refine gate_callee (f := 15) rfl ?_); refine goesL_ (some 18) rfl rfl Try.func15 (by kernel_rfl) rfl #[.agg #[.int .i64 a0_0, .slice A0_1 l0_1.length c0_1], .int .i64 1048576] rfl (by (try simp only [List.map_toArray, List.map_cons, List.map_nil]); first | done | rfl | (simp only [List.length_drop, List.length_take]; rfl)) ?_; (with_reducible refine (laws_szPuzzle.calls a0_0 _ _ l0_1 1048576 t195 _ ?side1 ?side2 A3.out).mono ?_); (case side1 => repeat (first | exact (Kd.C_below HR0_1.out HB.out) | (with_reducible refine Kd.C_alloc ?_ _) | (with_reducible refine Kd.C_drewN ?_ _) | (with_reducible refine Kd.C_drew ?_))); (case side2 => exact HC0_1.out); rintro e w43 ⟨rfl, hb⟩; refine ⟨_, rfl, ?_⟩; have n0_ := Aside0.mk (blk_below (g := gb193) (o := .cells #[.int .i64 a0_0, .slice A0_1 l0_1.length c0_1] 30 (0, 0)) (by (with_reducible repeat (first | refine blk_drewN ?_ _ | refine blk_drew ?_ | refine blk_alloc ?_ _)); exact BK193.out) hb); have n1_ := Aside0.mk (blk_below (g := gb194) (o := .cells #[.int .i64 a1_0, .int .i64 a1_1, .int .i64 a1_2] 23 (0, 0)) (by (with_reducible repeat (first | refine blk_drewN ?_ _ | refine blk_drew ?_ | refine blk_alloc ?_ _)); exact BK194.out) hb); have n2_ := Aside0.mk (below_step (by repeat (first | (with_reducible first | exact HB.out | apply below_alloc | apply pw_below_drewN | apply below_drew1 | refine below_set ?_ GE193.out | refine below_set ?_ GE194.out) | exact HB.out)) hb); clear BK193; clear BK194; clear HB; have BK193 := n0_; have BK194 := n1_; have HB := n2_; clear n0_ n1_ n2_; (try clear hb); (try clear hb2); (try clear hk); (try clear hi)))
             have n0_ := Aside0.mk (blk_drew BK193.out)
             have n1_ := Aside0.mk (blk_drew BK194.out)
             have n2_ := Aside0.mk (below_drew1 HB.out)
             clear BK193
             clear BK194
             clear HB
             have BK193 := n0_
             have BK194 := n1_
             have HB := n2_
             clear n0_ n1_ n2_
             refine start_ (n := 11) (S := fun w' => True) (ds := []) #[false, false, false, false, false, false, false, false, false, false, false] (by kernel_rfl) rfl rfl trivial (fun hHeld => ?_); refine with_tabW laws_FnExactAddClue.tab5 laws_FnExactAddClue.bits5 (fun HT_ HW_ => ?_)
             generalize w43.drew = w44 at BK193 BK194 HB hHeld ⊢
             refine inv_at [0, 1, 2, 3, 4, 5, 6, 7, 8, 9, 10] (fun a0_ b a w' => ∃ (v198 : Value) (v205 : Value) (gb208 : Nat) (m1_ : Value) (m4_ : Value) (m5_ : Value) (m6_ : Value) (m8_ : Value), a = putSel a0_ b [(0, 22, .agg #[.int .i64 a0_0, .slice A0_1 l0_1.length c0_1]), (1, 23, m1_), (2, 24, .agg #[.int .i64 a1_0, .int .i64 a1_1, .int .i64 a1_2]), (3, 25, .agg #[.int .i64 t200, .int .i64 t201, .int .i64 t202]), (4, 26, m4_), (5, 21, m5_), (6, 27, m6_), (7, 28, .bool t207), (8, 6, m8_), (10, 7, .bool t207)] ∧ (w'.heap[gb193]? = some (.cells #[.int .i64 a0_0, .slice A0_1 l0_1.length c0_1] 30 (0, 0))) ∧ (w'.heap[gb194]? = some (.cells #[.int .i64 a1_0, .int .i64 a1_1, .int .i64 a1_2] 23 (0, 0))) ∧ (Below w.heap.size w w') ∧ (b 1 = true → Kd.R k25 25 w' w.heap.size (fun k_ => some k_ ≠ (v205 : Value).ownBlock) v198 t197) ∧ (b 4 = true → Kd.R k25 25 w' w.heap.size (fun k_ => some k_ ≠ (v198 : Value).ownBlock) v205 t204) ∧ (b 8 = true → b 9 = false → w'.heap[gb208]? = some (.cells #[.int .i64 0, .slice none 0 0] 35 (0, 0))) ∧ (b 8 = true → w.heap.size ≤ gb208) ∧ (b 8 = true → w.heap.size ≤ gb208) ∧ (b 8 = true → gb193 ≠ gb208) ∧ (b 8 = true → gb208 ≠ gb193) ∧ (b 8 = true → gb194 ≠ gb208) ∧ (b 8 = true → gb208 ≠ gb194) ∧ (b 9 = true → w'.heap[gb208]? = some (.cells #[.int .i64 t203, v205] 35 (0, 0))) ∧ (b 1 = true → (m1_ : Value) = .agg #[.int .i64 t196, v198]) ∧ (b 4 = true → (m4_ : Value) = .tuple #[.agg #[.int .i64 t203, v205], .bool t207]) ∧ (b 5 = true → (m5_ : Value) = .tuple #[.agg #[.int .i64 t203, v205], .bool t207]) ∧ (b 6 = true → (m6_ : Value) = .agg #[.int .i64 t203, v205]) ∧ (b 8 = true → (m8_ : Value) = .pointer (some ⟨gb208, 0, none⟩))) HT_.out HW_.out (by kernel_rfl) (by kernel_rfl) ?_ ?_ ?_
             ·exact ⟨.bool false, .bool false, 0, .bool false, .bool false, .bool false, .bool false, .bool false, by simp only [putSel, Bool.false_eq_true, if_false], BK193.out, BK194.out, HB.out, fun h_ => absurd h_ (by decide), fun h_ => absurd h_ (by decide), fun h_ => absurd h_ (by decide), fun h_ => absurd h_ (by decide), fun h_ => absurd h_ (by decide), fun h_ => absurd h_ (by decide), fun h_ => absurd h_ (by decide), fun h_ => absurd h_ (by decide), fun h_ => absurd h_ (by decide), fun h_ => absurd h_ (by decide), fun h_ => absurd h_ (by decide), fun h_ => absurd h_ (by decide), fun h_ => absurd h_ (by decide), fun h_ => absurd h_ (by decide), fun h_ => absurd h_ (by decide)⟩
             ·skip
              clear BK193 BK194 HB
              refine steps_cons ?_ ?_
              ·rintro b a w' ⟨v198, v205, gb208, m1_, m4_, m5_, m6_, m8_, ha, Q_BK193, Q_BK194, Q_HB, Q_HO199, Q_HO206, Q_BK208, Q_GW208, Q_GE208, Q_NB193_208, Q_NB208_193, Q_NB194_208, Q_NB208_194, Q_BK208_e9, Q_X1_, Q_X4_, Q_X5_, Q_X6_, Q_X8_⟩ hb_ hon hoff
               refine ⟨_, rfl, fun K hK => ?_⟩
               have e2 : a.tmps[2]? = some (.pointer (some ⟨gb193, 0, none⟩)) := by rw [ha]; exact (putSel_off rfl).trans rfl
               replace ha := Aside0.mk ha
               have BK193 := Aside0.mk Q_BK193
               have BK194 := Aside0.mk Q_BK194
               have HB := Aside0.mk Q_HB
               have hc0_ : w'.cell? ⟨gb193, 0, none⟩ = some (.int .i64 a0_0) := (blk_cell BK193.out 0).trans rfl
               have hc1_ : w'.cell? ⟨gb193, 1, none⟩ = some (.slice A0_1 l0_1.length c0_1) := (blk_cell BK193.out 1).trans rfl
               refine value_ (w1 := w') (v := .agg #[.int .i64 a0_0, .slice A0_1 l0_1.length c0_1]) (by rfl) rfl ?_ ?_
               ·go_simp
                (try simp only [i64_w])
                try rfl
               refine hK.out _ _ ⟨v198, v205, gb208, m1_, m4_, m5_, m6_, m8_, (by rw [ha.out]; exact putSel_upk 0 hb_ rfl rfl rfl), Q_BK193, Q_BK194, Q_HB, fun h0_ => absurd ((hoff 1 (by kernel_rfl)).symm.trans h0_) (by decide), fun h0_ => absurd ((hoff 4 (by kernel_rfl)).symm.trans h0_) (by decide), Q_BK208, Q_GW208, Q_GE208, Q_NB193_208, Q_NB208_193, Q_NB194_208, Q_NB208_194, fun h0_ => absurd ((hoff 9 (by kernel_rfl)).symm.trans h0_) (by decide), fun h0_ => absurd ((hoff 1 (by kernel_rfl)).symm.trans h0_) (by decide), fun h0_ => absurd ((hoff 4 (by kernel_rfl)).symm.trans h0_) (by decide), fun h0_ => absurd ((hoff 5 (by kernel_rfl)).symm.trans h0_) (by decide), fun h0_ => absurd ((hoff 6 (by kernel_rfl)).symm.trans h0_) (by decide), Q_X8_⟩
              refine steps_cons ?_ ?_
              ·rintro b a w' ⟨v198, v205, gb208, m1_, m4_, m5_, m6_, m8_, ha, Q_BK193, Q_BK194, Q_HB, Q_HO199, Q_HO206, Q_BK208, Q_GW208, Q_GE208, Q_NB193_208, Q_NB208_193, Q_NB194_208, Q_NB208_194, Q_BK208_e9, Q_X1_, Q_X4_, Q_X5_, Q_X6_, Q_X8_⟩ hb_ hon hoff
               refine ⟨_, rfl, fun K hK => ?_⟩
               have e22 : a.tmps[22]? = some (.agg #[.int .i64 a0_0, .slice A0_1 l0_1.length c0_1]) := by rw [ha]; exact putSel_on (e := (0, 22, .agg #[.int .i64 a0_0, .slice A0_1 l0_1.length c0_1])) 0 rfl rfl (hon 0 (by kernel_rfl)) rfl
               replace ha := Aside0.mk ha
               have BK193 := Aside0.mk Q_BK193
               have BK194 := Aside0.mk Q_BK194
               have HB := Aside0.mk Q_HB
               refine goes_ Try.func17 (by kernel_rfl) rfl #[.agg #[.int .i64 a0_0, .slice A0_1 l0_1.length c0_1]] (by rfl) rfl rfl (by first | (simp only [List.map_toArray, List.map_cons, List.map_nil, Act.eval, Array.getD_eq_getD_getElem?, Option.getD_some, e22]; done) | (simp only [List.map_toArray, List.map_cons, List.map_nil, Act.eval, Array.getD_eq_getD_getElem?, Option.getD_some, e22]; rfl)) ?_
               with_reducible refine (laws_toPuzzle.calls k a0_0 _ _ l0_1 t196 t197 _ ?side1 ?side2 A10.out).mono ?_
               (case side1 => repeat (first | exact (Kd.C_below HR0_1.out HB.out) | (with_reducible refine Kd.C_alloc ?_ _) | (with_reducible refine Kd.C_drewN ?_ _) | (with_reducible refine Kd.C_drew ?_)))
               (case side2 => exact HC0_1.out)
               rintro e w45 ⟨v198, rfl, ho0, hb⟩
               refine ⟨_, rfl, ?_⟩
               have n0_ := Aside0.mk (Kd.R_lower ho0 (below_size (by repeat (first | (with_reducible first | exact HB.out | apply below_alloc | apply pw_below_drewN | apply below_drew1 | refine below_set ?_ GE193.out | refine below_set ?_ GE194.out) | exact HB.out))))
               have n1_ := Aside0.mk (blk_below (g := gb193) (o := .cells #[.int .i64 a0_0, .slice A0_1 l0_1.length c0_1] 30 (0, 0)) (by (with_reducible repeat (first | refine blk_drewN ?_ _ | refine blk_drew ?_ | refine blk_alloc ?_ _)); exact BK193.out) hb)
               have n2_ := Aside0.mk (blk_below (g := gb194) (o := .cells #[.int .i64 a1_0, .int .i64 a1_1, .int .i64 a1_2] 23 (0, 0)) (by (with_reducible repeat (first | refine blk_drewN ?_ _ | refine blk_drew ?_ | refine blk_alloc ?_ _)); exact BK194.out) hb)
               have n3_ := Aside0.mk (below_step (by repeat (first | (with_reducible first | exact HB.out | apply below_alloc | apply pw_below_drewN | apply below_drew1 | refine below_set ?_ GE193.out | refine below_set ?_ GE194.out) | exact HB.out)) hb)
               have z_BK208 := fun (h0_ : b 8 = true) (h1_ : b 9 = false) => (show w45.heap[gb208]? = some (.cells #[.int .i64 0, .slice none 0 0] 35 (0, 0)) from by first | exact (blk_below (g := gb208) (o := .cells #[.int .i64 0, .slice none 0 0] 35 (0, 0)) (by (with_reducible repeat (first | refine blk_drewN ?_ _ | refine blk_drew ?_ | refine blk_alloc ?_ _)); exact (Q_BK208 h0_ h1_)) hb))
               clear BK193
               clear BK194
               clear HB
               have HO199 := n0_
               have BK193 := n1_
               have BK194 := n2_
               have HB := n3_
               clear n0_ n1_ n2_ n3_
               (try clear hb)
               (try clear hb2)
               (try clear hk)
               (try clear hi)
               (try clear ho0)
               refine hK.out _ _ ⟨v198, .bool false, gb208, (.agg #[.int .i64 t196, v198]), m4_, m5_, m6_, m8_, (by rw [ha.out]; exact putSel_upk 1 hb_ rfl rfl rfl), (by (with_reducible repeat (first | refine blk_drewN ?_ _ | refine blk_drew ?_ | refine blk_alloc ?_ _)); exact BK193.out), (by (with_reducible repeat (first | refine blk_drewN ?_ _ | refine blk_drew ?_ | refine blk_alloc ?_ _)); exact BK194.out), (by repeat (first | (with_reducible first | exact HB.out | apply below_alloc | apply pw_below_drewN | apply below_drew1 | refine below_set ?_ GE193.out | refine below_set ?_ GE194.out) | exact HB.out)), fun _ => (by (with_reducible repeat (first | apply Kd.R_alloc | apply Kd.R_drewN | apply Kd.R_drew)); exact Kd.R_mono HO199.out (fun _ _ => by simp [Value.ownBlock])), fun h0_ => absurd ((hoff 4 (by kernel_rfl)).symm.trans h0_) (by decide), z_BK208, Q_GW208, Q_GE208, Q_NB193_208, Q_NB208_193, Q_NB194_208, Q_NB208_194, fun h0_ => absurd ((hoff 9 (by kernel_rfl)).symm.trans h0_) (by decide), fun _ => rfl, fun h0_ => absurd ((hoff 4 (by kernel_rfl)).symm.trans h0_) (by decide), fun h0_ => absurd ((hoff 5 (by kernel_rfl)).symm.trans h0_) (by decide), fun h0_ => absurd ((hoff 6 (by kernel_rfl)).symm.trans h0_) (by decide), Q_X8_⟩
              refine steps_cons ?_ ?_
              ·rintro b a w' ⟨v198, v205, gb208, m1_, m4_, m5_, m6_, m8_, ha, Q_BK193, Q_BK194, Q_HB, Q_HO199, Q_HO206, Q_BK208, Q_GW208, Q_GE208, Q_NB193_208, Q_NB208_193, Q_NB194_208, Q_NB208_194, Q_BK208_e9, Q_X1_, Q_X4_, Q_X5_, Q_X6_, Q_X8_⟩ hb_ hon hoff
               refine ⟨_, rfl, fun K hK => ?_⟩
               have e3 : a.tmps[3]? = some (.pointer (some ⟨gb194, 0, none⟩)) := by rw [ha]; exact (putSel_off rfl).trans rfl
               replace ha := Aside0.mk ha
               have BK193 := Aside0.mk Q_BK193
               have BK194 := Aside0.mk Q_BK194
               have HB := Aside0.mk Q_HB
               have hc0_ : w'.cell? ⟨gb194, 0, none⟩ = some (.int .i64 a1_0) := (blk_cell BK194.out 0).trans rfl
               have hc1_ : w'.cell? ⟨gb194, 1, none⟩ = some (.int .i64 a1_1) := (blk_cell BK194.out 1).trans rfl
               have hc2_ : w'.cell? ⟨gb194, 2, none⟩ = some (.int .i64 a1_2) := (blk_cell BK194.out 2).trans rfl
               refine value_ (w1 := w') (v := .agg #[.int .i64 a1_0, .int .i64 a1_1, .int .i64 a1_2]) (by rfl) rfl ?_ ?_
               ·go_simp
                (try simp only [i64_w])
                try rfl
               refine hK.out _ _ ⟨v198, v205, gb208, m1_, m4_, m5_, m6_, m8_, (by rw [ha.out]; exact putSel_upk 2 hb_ rfl rfl rfl), Q_BK193, Q_BK194, Q_HB, Q_HO199, fun h0_ => absurd ((hoff 4 (by kernel_rfl)).symm.trans h0_) (by decide), Q_BK208, Q_GW208, Q_GE208, Q_NB193_208, Q_NB208_193, Q_NB194_208, Q_NB208_194, fun h0_ => absurd ((hoff 9 (by kernel_rfl)).symm.trans h0_) (by decide), Q_X1_, fun h0_ => absurd ((hoff 4 (by kernel_rfl)).symm.trans h0_) (by decide), fun h0_ => absurd ((hoff 5 (by kernel_rfl)).symm.trans h0_) (by decide), fun h0_ => absurd ((hoff 6 (by kernel_rfl)).symm.trans h0_) (by decide), Q_X8_⟩
              refine steps_cons ?_ ?_
              ·rintro b a w' ⟨v198, v205, gb208, m1_, m4_, m5_, m6_, m8_, ha, Q_BK193, Q_BK194, Q_HB, Q_HO199, Q_HO206, Q_BK208, Q_GW208, Q_GE208, Q_NB193_208, Q_NB208_193, Q_NB194_208, Q_NB208_194, Q_BK208_e9, Q_X1_, Q_X4_, Q_X5_, Q_X6_, Q_X8_⟩ hb_ hon hoff
               refine ⟨_, rfl, fun K hK => ?_⟩
               have e24 : a.tmps[24]? = some (.agg #[.int .i64 a1_0, .int .i64 a1_1, .int .i64 a1_2]) := by rw [ha]; exact putSel_on (e := (2, 24, .agg #[.int .i64 a1_0, .int .i64 a1_1, .int .i64 a1_2])) 2 rfl rfl (hon 2 (by kernel_rfl)) rfl
               replace ha := Aside0.mk ha
               have BK193 := Aside0.mk Q_BK193
               have BK194 := Aside0.mk Q_BK194
               have HB := Aside0.mk Q_HB
               have HO199 := Aside0.mk (Q_HO199 (hon 1 (by kernel_rfl)))
               refine goes_ Try.func13 (by kernel_rfl) rfl #[.agg #[.int .i64 a1_0, .int .i64 a1_1, .int .i64 a1_2]] (by rfl) rfl rfl (by first | (simp only [List.map_toArray, List.map_cons, List.map_nil, Act.eval, Array.getD_eq_getD_getElem?, Option.getD_some, e24]; done) | (simp only [List.map_toArray, List.map_cons, List.map_nil, Act.eval, Array.getD_eq_getD_getElem?, Option.getD_some, e24]; rfl)) ?_
               with_reducible refine (laws_toClue.calls a1_0 a1_1 a1_2 t200 t201 t202 _ A11.out).mono ?_
               rintro e w47 ⟨rfl, hb⟩
               refine ⟨_, rfl, ?_⟩
               have n0_ := Aside0.mk (Kd.R_below (by (with_reducible repeat (first | apply Kd.R_alloc | apply Kd.R_drewN | apply Kd.R_drew)); exact HO199.out) hb)
               have n1_ := Aside0.mk (blk_below (g := gb193) (o := .cells #[.int .i64 a0_0, .slice A0_1 l0_1.length c0_1] 30 (0, 0)) (by (with_reducible repeat (first | refine blk_drewN ?_ _ | refine blk_drew ?_ | refine blk_alloc ?_ _)); exact BK193.out) hb)
               have n2_ := Aside0.mk (blk_below (g := gb194) (o := .cells #[.int .i64 a1_0, .int .i64 a1_1, .int .i64 a1_2] 23 (0, 0)) (by (with_reducible repeat (first | refine blk_drewN ?_ _ | refine blk_drew ?_ | refine blk_alloc ?_ _)); exact BK194.out) hb)
               have n3_ := Aside0.mk (below_step (by repeat (first | (with_reducible first | exact HB.out | apply below_alloc | apply pw_below_drewN | apply below_drew1 | refine below_set ?_ GE193.out | refine below_set ?_ GE194.out) | exact HB.out)) hb)
               have z_BK208 := fun (h0_ : b 8 = true) (h1_ : b 9 = false) => (show w47.heap[gb208]? = some (.cells #[.int .i64 0, .slice none 0 0] 35 (0, 0)) from by first | exact (blk_below (g := gb208) (o := .cells #[.int .i64 0, .slice none 0 0] 35 (0, 0)) (by (with_reducible repeat (first | refine blk_drewN ?_ _ | refine blk_drew ?_ | refine blk_alloc ?_ _)); exact (Q_BK208 h0_ h1_)) hb))
               clear HO199
               clear BK193
               clear BK194
               clear HB
               have HO199 := n0_
               have BK193 := n1_
               have BK194 := n2_
               have HB := n3_
               clear n0_ n1_ n2_ n3_
               (try clear hb)
               (try clear hb2)
               (try clear hk)
               (try clear hi)
               refine hK.out _ _ ⟨v198, v205, gb208, m1_, m4_, m5_, m6_, m8_, (by rw [ha.out]; exact putSel_upk 3 hb_ rfl rfl rfl), (by (with_reducible repeat (first | refine blk_drewN ?_ _ | refine blk_drew ?_ | refine blk_alloc ?_ _)); exact BK193.out), (by (with_reducible repeat (first | refine blk_drewN ?_ _ | refine blk_drew ?_ | refine blk_alloc ?_ _)); exact BK194.out), (by repeat (first | (with_reducible first | exact HB.out | apply below_alloc | apply pw_below_drewN | apply below_drew1 | refine below_set ?_ GE193.out | refine below_set ?_ GE194.out) | exact HB.out)), fun _ => (by (with_reducible repeat (first | apply Kd.R_alloc | apply Kd.R_drewN | apply Kd.R_drew)); exact HO199.out), fun h0_ => absurd ((hoff 4 (by kernel_rfl)).symm.trans h0_) (by decide), z_BK208, Q_GW208, Q_GE208, Q_NB193_208, Q_NB208_193, Q_NB194_208, Q_NB208_194, fun h0_ => absurd ((hoff 9 (by kernel_rfl)).symm.trans h0_) (by decide), Q_X1_, fun h0_ => absurd ((hoff 4 (by kernel_rfl)).symm.trans h0_) (by decide), fun h0_ => absurd ((hoff 5 (by kernel_rfl)).symm.trans h0_) (by decide), fun h0_ => absurd ((hoff 6 (by kernel_rfl)).symm.trans h0_) (by decide), Q_X8_⟩
              refine steps_cons ?_ ?_
              ·rintro b a w' ⟨v198, v205, gb208, m1_, m4_, m5_, m6_, m8_, ha, Q_BK193, Q_BK194, Q_HB, Q_HO199, Q_HO206, Q_BK208, Q_GW208, Q_GE208, Q_NB193_208, Q_NB208_193, Q_NB194_208, Q_NB208_194, Q_BK208_e9, Q_X1_, Q_X4_, Q_X5_, Q_X6_, Q_X8_⟩ hb_ hon hoff
               refine ⟨_, rfl, fun K hK => ?_⟩
               have e23 : a.tmps[23]? = some (m1_) := by rw [ha]; exact putSel_on (e := (1, 23, m1_)) 1 rfl rfl (hon 1 (by kernel_rfl)) rfl
               rw [Q_X1_ (hon 1 (by kernel_rfl))] at e23
               have e25 : a.tmps[25]? = some (.agg #[.int .i64 t200, .int .i64 t201, .int .i64 t202]) := by rw [ha]; exact putSel_on (e := (3, 25, .agg #[.int .i64 t200, .int .i64 t201, .int .i64 t202])) 3 rfl rfl (hon 3 (by kernel_rfl)) rfl
               replace ha := Aside0.mk ha
               have BK193 := Aside0.mk Q_BK193
               have BK194 := Aside0.mk Q_BK194
               have HB := Aside0.mk Q_HB
               have HO199 := Aside0.mk (Q_HO199 (hon 1 (by kernel_rfl)))
               obtain ⟨Ao48, co48, eo48⟩ := Kd.R_slice HO199.out
               (first | subst eo48 | (injection eo48 with f1_ f2_ f3_; have f4_ := f1_.symm; have f5_ := f3_.symm; clear f1_ f2_ f3_; subst f4_; subst f5_))
               refine goes_ Try.func20 (by kernel_rfl) rfl #[.agg #[.int .i64 t196, .slice Ao48 t197.length co48], .agg #[.int .i64 t200, .int .i64 t201, .int .i64 t202]] (by rfl) rfl rfl (by first | (simp only [List.map_toArray, List.map_cons, List.map_nil, Act.eval, Array.getD_eq_getD_getElem?, Option.getD_some, e23, e25]; done) | (simp only [List.map_toArray, List.map_cons, List.map_nil, Act.eval, Array.getD_eq_getD_getElem?, Option.getD_some, e23, e25]; rfl)) ?_
               with_reducible refine (spec_AddClue.calls k t196 _ _ t197 t200 t201 t202 t203 t204 t207 _ ?side1 ?side2 A12.out).mono ?_
               (case side1 => repeat (first | exact (Kd.R_reads' HO199.out).2.2 | (with_reducible refine Kd.C_alloc ?_ _) | (with_reducible refine Kd.C_drewN ?_ _) | (with_reducible refine Kd.C_drew ?_)))
               (case side2 => exact (Kd.R_reads' HO199.out).2.1)
               rintro e w49 ⟨v205, rfl, ho0, hb⟩
               refine ⟨_, rfl, ?_⟩
               have n0_ := Aside0.mk (Kd.R_elder' (by (with_reducible repeat (first | apply Kd.R_alloc | apply Kd.R_drewN | apply Kd.R_drew)); exact HO199.out) (Kd.R_base ho0) hb)
               have n1_ := Aside0.mk (Kd.R_lower (Kd.R_new' ho0 (Kd.R_lt (by (with_reducible repeat (first | apply Kd.R_alloc | apply Kd.R_drewN | apply Kd.R_drew)); exact HO199.out))) (below_size (by repeat (first | (with_reducible first | exact HB.out | apply below_alloc | apply pw_below_drewN | apply below_drew1 | refine below_set ?_ GE193.out | refine below_set ?_ GE194.out) | exact HB.out))))
               have n2_ := Aside0.mk (blk_below (g := gb193) (o := .cells #[.int .i64 a0_0, .slice A0_1 l0_1.length c0_1] 30 (0, 0)) (by (with_reducible repeat (first | refine blk_drewN ?_ _ | refine blk_drew ?_ | refine blk_alloc ?_ _)); exact BK193.out) hb)
               have n3_ := Aside0.mk (blk_below (g := gb194) (o := .cells #[.int .i64 a1_0, .int .i64 a1_1, .int .i64 a1_2] 23 (0, 0)) (by (with_reducible repeat (first | refine blk_drewN ?_ _ | refine blk_drew ?_ | refine blk_alloc ?_ _)); exact BK194.out) hb)
               have n4_ := Aside0.mk (below_step (by repeat (first | (with_reducible first | exact HB.out | apply below_alloc | apply pw_below_drewN | apply below_drew1 | refine below_set ?_ GE193.out | refine below_set ?_ GE194.out) | exact HB.out)) hb)
               have z_BK208 := fun (h0_ : b 8 = true) (h1_ : b 9 = false) => (show w49.heap[gb208]? = some (.cells #[.int .i64 0, .slice none 0 0] 35 (0, 0)) from by first | exact (blk_below (g := gb208) (o := .cells #[.int .i64 0, .slice none 0 0] 35 (0, 0)) (by (with_reducible repeat (first | refine blk_drewN ?_ _ | refine blk_drew ?_ | refine blk_alloc ?_ _)); exact (Q_BK208 h0_ h1_)) hb))
               clear HO199
               clear BK193
               clear BK194
               clear HB
               have HO199 := n0_
               have HO206 := n1_
               have BK193 := n2_
               have BK194 := n3_
               have HB := n4_
               clear n0_ n1_ n2_ n3_ n4_
               (try clear hb)
               (try clear hb2)
               (try clear hk)
               (try clear hi)
               (try clear ho0)
               refine hK.out _ _ ⟨.slice Ao48 t197.length co48, v205, gb208, m1_, (.tuple #[.agg #[.int .i64 t203, v205], .bool t207]), m5_, m6_, m8_, (by rw [ha.out]; exact putSel_upk 4 hb_ rfl rfl rfl), (by (with_reducible repeat (first | refine blk_drewN ?_ _ | refine blk_drew ?_ | refine blk_alloc ?_ _)); exact BK193.out), (by (with_reducible repeat (first | refine blk_drewN ?_ _ | refine blk_drew ?_ | refine blk_alloc ?_ _)); exact BK194.out), (by repeat (first | (with_reducible first | exact HB.out | apply below_alloc | apply pw_below_drewN | apply below_drew1 | refine below_set ?_ GE193.out | refine below_set ?_ GE194.out) | exact HB.out)), fun _ => (by (with_reducible repeat (first | apply Kd.R_alloc | apply Kd.R_drewN | apply Kd.R_drew)); exact Kd.R_mono HO199.out (by first | exact fun _ hk => hk.2 | grind)), fun _ => (by (with_reducible repeat (first | apply Kd.R_alloc | apply Kd.R_drewN | apply Kd.R_drew)); exact Kd.R_mono HO206.out (by first | exact fun _ hk => hk.2 | grind)), z_BK208, Q_GW208, Q_GE208, Q_NB193_208, Q_NB208_193, Q_NB194_208, Q_NB208_194, fun h0_ => absurd ((hoff 9 (by kernel_rfl)).symm.trans h0_) (by decide), Q_X1_, fun _ => rfl, fun h0_ => absurd ((hoff 5 (by kernel_rfl)).symm.trans h0_) (by decide), fun h0_ => absurd ((hoff 6 (by kernel_rfl)).symm.trans h0_) (by decide), Q_X8_⟩
              refine steps_cons ?_ ?_
              ·rintro b a w' ⟨v198, v205, gb208, m1_, m4_, m5_, m6_, m8_, ha, Q_BK193, Q_BK194, Q_HB, Q_HO199, Q_HO206, Q_BK208, Q_GW208, Q_GE208, Q_NB193_208, Q_NB208_193, Q_NB194_208, Q_NB208_194, Q_BK208_e9, Q_X1_, Q_X4_, Q_X5_, Q_X6_, Q_X8_⟩ hb_ hon hoff
               refine ⟨_, rfl, fun K hK => ?_⟩
               have e26 : a.tmps[26]? = some (m4_) := by rw [ha]; exact putSel_on (e := (4, 26, m4_)) 4 rfl rfl (hon 4 (by kernel_rfl)) rfl
               rw [Q_X4_ (hon 4 (by kernel_rfl))] at e26
               replace ha := Aside0.mk ha
               have BK193 := Aside0.mk Q_BK193
               have BK194 := Aside0.mk Q_BK194
               have HB := Aside0.mk Q_HB
               have HO199 := Aside0.mk (Q_HO199 (hon 1 (by kernel_rfl)))
               have HO206 := Aside0.mk (Q_HO206 (hon 4 (by kernel_rfl)))
               refine value_ (w1 := w') (v := .tuple #[.agg #[.int .i64 t203, v205], .bool t207]) (by rfl) rfl ?_ ?_
               ·go_simp
                (try simp only [i64_w])
                try rfl
               refine hK.out _ _ ⟨v198, v205, gb208, m1_, m4_, (.tuple #[.agg #[.int .i64 t203, v205], .bool t207]), m6_, m8_, (by rw [ha.out]; exact putSel_upk 5 hb_ rfl rfl rfl), Q_BK193, Q_BK194, Q_HB, Q_HO199, Q_HO206, Q_BK208, Q_GW208, Q_GE208, Q_NB193_208, Q_NB208_193, Q_NB194_208, Q_NB208_194, fun h0_ => absurd ((hoff 9 (by kernel_rfl)).symm.trans h0_) (by decide), Q_X1_, Q_X4_, fun _ => rfl, fun h0_ => absurd ((hoff 6 (by kernel_rfl)).symm.trans h0_) (by decide), Q_X8_⟩
              refine steps_cons ?_ ?_
              ·rintro b a w' ⟨v198, v205, gb208, m1_, m4_, m5_, m6_, m8_, ha, Q_BK193, Q_BK194, Q_HB, Q_HO199, Q_HO206, Q_BK208, Q_GW208, Q_GE208, Q_NB193_208, Q_NB208_193, Q_NB194_208, Q_NB208_194, Q_BK208_e9, Q_X1_, Q_X4_, Q_X5_, Q_X6_, Q_X8_⟩ hb_ hon hoff
               refine ⟨_, rfl, fun K hK => ?_⟩
               have e21 : a.tmps[21]? = some (m5_) := by rw [ha]; exact putSel_on (e := (5, 21, m5_)) 5 rfl rfl (hon 5 (by kernel_rfl)) rfl
               rw [Q_X5_ (hon 5 (by kernel_rfl))] at e21
               replace ha := Aside0.mk ha
               have BK193 := Aside0.mk Q_BK193
               have BK194 := Aside0.mk Q_BK194
               have HB := Aside0.mk Q_HB
               have HO199 := Aside0.mk (Q_HO199 (hon 1 (by kernel_rfl)))
               have HO206 := Aside0.mk (Q_HO206 (hon 4 (by kernel_rfl)))
               refine value_ (w1 := w') (v := .agg #[.int .i64 t203, v205]) (by rfl) rfl ?_ ?_
               ·go_simp
                (try simp only [i64_w])
                try rfl
               refine hK.out _ _ ⟨v198, v205, gb208, m1_, m4_, m5_, (.agg #[.int .i64 t203, v205]), m8_, (by rw [ha.out]; exact putSel_upk 6 hb_ rfl rfl rfl), Q_BK193, Q_BK194, Q_HB, Q_HO199, Q_HO206, Q_BK208, Q_GW208, Q_GE208, Q_NB193_208, Q_NB208_193, Q_NB194_208, Q_NB208_194, fun h0_ => absurd ((hoff 9 (by kernel_rfl)).symm.trans h0_) (by decide), Q_X1_, Q_X4_, Q_X5_, fun _ => rfl, Q_X8_⟩
              refine steps_cons ?_ ?_
              ·rintro b a w' ⟨v198, v205, gb208, m1_, m4_, m5_, m6_, m8_, ha, Q_BK193, Q_BK194, Q_HB, Q_HO199, Q_HO206, Q_BK208, Q_GW208, Q_GE208, Q_NB193_208, Q_NB208_193, Q_NB194_208, Q_NB208_194, Q_BK208_e9, Q_X1_, Q_X4_, Q_X5_, Q_X6_, Q_X8_⟩ hb_ hon hoff
               refine ⟨_, rfl, fun K hK => ?_⟩
               have e21 : a.tmps[21]? = some (m5_) := by rw [ha]; exact putSel_on (e := (5, 21, m5_)) 5 rfl rfl (hon 5 (by kernel_rfl)) rfl
               rw [Q_X5_ (hon 5 (by kernel_rfl))] at e21
               replace ha := Aside0.mk ha
               have BK193 := Aside0.mk Q_BK193
               have BK194 := Aside0.mk Q_BK194
               have HB := Aside0.mk Q_HB
               have HO199 := Aside0.mk (Q_HO199 (hon 1 (by kernel_rfl)))
               have HO206 := Aside0.mk (Q_HO206 (hon 4 (by kernel_rfl)))
               refine value_ (w1 := w') (v := .bool t207) (by rfl) rfl ?_ ?_
               ·go_simp
                (try simp only [i64_w])
                try rfl
               refine hK.out _ _ ⟨v198, v205, gb208, m1_, m4_, m5_, m6_, m8_, (by rw [ha.out]; exact putSel_upk 7 hb_ rfl rfl rfl), Q_BK193, Q_BK194, Q_HB, Q_HO199, Q_HO206, Q_BK208, Q_GW208, Q_GE208, Q_NB193_208, Q_NB208_193, Q_NB194_208, Q_NB208_194, Q_BK208_e9, Q_X1_, Q_X4_, Q_X5_, Q_X6_, Q_X8_⟩
              refine steps_cons ?_ ?_
              ·rintro b a w' ⟨v198, v205, gb208, m1_, m4_, m5_, m6_, m8_, ha, Q_BK193, Q_BK194, Q_HB, Q_HO199, Q_HO206, Q_BK208, Q_GW208, Q_GE208, Q_NB193_208, Q_NB208_193, Q_NB194_208, Q_NB208_194, Q_BK208_e9, Q_X1_, Q_X4_, Q_X5_, Q_X6_, Q_X8_⟩ hb_ hon hoff
               refine ⟨_, rfl, fun K hK => ?_⟩
               replace ha := Aside0.mk ha
               have BK193 := Aside0.mk Q_BK193
               have BK194 := Aside0.mk Q_BK194
               have HB := Aside0.mk Q_HB
               refine box_step ?hg (N := 6) ?hd (cs := #[.int .i64 0, .slice none 0 0]) (t := 35) ?hr ?_; (case hd => rfl); (case hg => rfl); (case hr => first | (go_simp; done) | (go_simp; rfl))
               intro gb208 hg w45 hbox hb
               have n0_ := Aside0.mk (blk_below (g := gb193) (o := .cells #[.int .i64 a0_0, .slice A0_1 l0_1.length c0_1] 30 (0, 0)) (by (with_reducible repeat (first | refine blk_drewN ?_ _ | refine blk_drew ?_ | refine blk_alloc ?_ _)); exact BK193.out) hb)
               have n1_ := Aside0.mk (blk_below (g := gb194) (o := .cells #[.int .i64 a1_0, .int .i64 a1_1, .int .i64 a1_2] 23 (0, 0)) (by (with_reducible repeat (first | refine blk_drewN ?_ _ | refine blk_drew ?_ | refine blk_alloc ?_ _)); exact BK194.out) hb)
               have n2_ := Aside0.mk (below_step (by repeat (first | (with_reducible first | exact HB.out | apply below_alloc | apply pw_below_drewN | apply below_drew1 | refine below_set ?_ GE193.out | refine below_set ?_ GE194.out) | exact HB.out)) hb)
               have n3_ := Aside0.mk (hbox)
               have n4_ := Aside0.mk ((by rw [hg]; exact (below_size (by repeat (first | (with_reducible first | exact HB.out | apply below_alloc | apply pw_below_drewN | apply below_drew1 | refine below_set ?_ GE193.out | refine below_set ?_ GE194.out) | exact HB.out))) : w.heap.size ≤ gb208))
               have n5_ := Aside0.mk ((by rw [hg]; exact (below_size (by repeat (first | (with_reducible first | exact HB.out | apply below_alloc | apply pw_below_drewN | apply below_drew1 | refine below_set ?_ GE193.out | refine below_set ?_ GE194.out) | exact HB.out))) : w.heap.size ≤ gb208))
               have n6_ := Aside0.mk ((by rw [hg]; exact Nat.ne_of_lt (blk_lt (g := gb193) (o := .cells #[.int .i64 a0_0, .slice A0_1 l0_1.length c0_1] 30 (0, 0)) (by (with_reducible repeat (first | refine blk_drewN ?_ _ | refine blk_drew ?_ | refine blk_alloc ?_ _)); exact BK193.out)) : gb193 ≠ gb208))
               have n7_ := Aside0.mk ((by rw [hg]; exact Nat.ne_of_gt (blk_lt (g := gb193) (o := .cells #[.int .i64 a0_0, .slice A0_1 l0_1.length c0_1] 30 (0, 0)) (by (with_reducible repeat (first | refine blk_drewN ?_ _ | refine blk_drew ?_ | refine blk_alloc ?_ _)); exact BK193.out)) : gb208 ≠ gb193))
               have n8_ := Aside0.mk ((by rw [hg]; exact Nat.ne_of_lt (blk_lt (g := gb194) (o := .cells #[.int .i64 a1_0, .int .i64 a1_1, .int .i64 a1_2] 23 (0, 0)) (by (with_reducible repeat (first | refine blk_drewN ?_ _ | refine blk_drew ?_ | refine blk_alloc ?_ _)); exact BK194.out)) : gb194 ≠ gb208))
               have n9_ := Aside0.mk ((by rw [hg]; exact Nat.ne_of_gt (blk_lt (g := gb194) (o := .cells #[.int .i64 a1_0, .int .i64 a1_1, .int .i64 a1_2] 23 (0, 0)) (by (with_reducible repeat (first | refine blk_drewN ?_ _ | refine blk_drew ?_ | refine blk_alloc ?_ _)); exact BK194.out)) : gb208 ≠ gb194))
               have z_HO199 := fun (h0_ : b 1 = true) => (show Kd.R k25 25 w45 w.heap.size (fun k_ => some k_ ≠ (v205 : Value).ownBlock) v198 t197 from by first | exact (Kd.R_below (by (with_reducible repeat (first | apply Kd.R_alloc | apply Kd.R_drewN | apply Kd.R_drew)); exact (Q_HO199 h0_)) hb) | exact Kd.R_mono (Kd.R_below (by (with_reducible repeat (first | apply Kd.R_alloc | apply Kd.R_drewN | apply Kd.R_drew)); exact (Q_HO199 h0_)) hb) (fun _ h_ => by first | trivial | exact h_ | exact h_.1))
               have z_HO206 := fun (h0_ : b 4 = true) => (show Kd.R k25 25 w45 w.heap.size (fun k_ => some k_ ≠ (v198 : Value).ownBlock) v205 t204 from by first | exact (Kd.R_below (by (with_reducible repeat (first | apply Kd.R_alloc | apply Kd.R_drewN | apply Kd.R_drew)); exact (Q_HO206 h0_)) hb) | exact Kd.R_mono (Kd.R_below (by (with_reducible repeat (first | apply Kd.R_alloc | apply Kd.R_drewN | apply Kd.R_drew)); exact (Q_HO206 h0_)) hb) (fun _ h_ => by first | trivial | exact h_ | exact h_.1))
               clear BK193
               clear BK194
               clear HB
               have BK193 := n0_
               have BK194 := n1_
               have HB := n2_
               have BK208 := n3_
               have GW208 := n4_
               have GE208 := n5_
               have NB193_208 := n6_
               have NB208_193 := n7_
               have NB194_208 := n8_
               have NB208_194 := n9_
               clear n0_ n1_ n2_ n3_ n4_ n5_ n6_ n7_ n8_ n9_
               clear hb hbox hg
               refine hK.out _ _ ⟨v198, v205, gb208, m1_, m4_, m5_, m6_, (.pointer (some ⟨gb208, 0, none⟩)), (by rw [ha.out]; exact putSel_upk 8 hb_ rfl rfl rfl), (by (with_reducible repeat (first | refine blk_drewN ?_ _ | refine blk_drew ?_ | refine blk_alloc ?_ _)); exact BK193.out), (by (with_reducible repeat (first | refine blk_drewN ?_ _ | refine blk_drew ?_ | refine blk_alloc ?_ _)); exact BK194.out), (by repeat (first | (with_reducible first | exact HB.out | apply below_alloc | apply pw_below_drewN | apply below_drew1 | refine below_set ?_ GE193.out | refine below_set ?_ GE194.out | refine below_set ?_ GE208.out) | exact HB.out)), z_HO199, z_HO206, fun _ _ => (by (with_reducible repeat (first | refine blk_drewN ?_ _ | refine blk_drew ?_ | refine blk_alloc ?_ _)); exact BK208.out), fun _ => GW208.out, fun _ => GE208.out, fun _ => NB193_208.out, fun _ => NB208_193.out, fun _ => NB194_208.out, fun _ => NB208_194.out, fun h0_ => absurd ((hoff 9 (by kernel_rfl)).symm.trans h0_) (by decide), Q_X1_, Q_X4_, Q_X5_, Q_X6_, fun _ => rfl⟩
              refine steps_cons ?_ ?_
              ·rintro b a w' ⟨v198, v205, gb208, m1_, m4_, m5_, m6_, m8_, ha, Q_BK193, Q_BK194, Q_HB, Q_HO199, Q_HO206, Q_BK208, Q_GW208, Q_GE208, Q_NB193_208, Q_NB208_193, Q_NB194_208, Q_NB208_194, Q_BK208_e9, Q_X1_, Q_X4_, Q_X5_, Q_X6_, Q_X8_⟩ hb_ hon hoff
               refine ⟨_, rfl, fun K hK => ?_⟩
               have e6 : a.tmps[6]? = some (m8_) := by rw [ha]; exact putSel_on (e := (8, 6, m8_)) 8 rfl rfl (hon 8 (by kernel_rfl)) rfl
               rw [Q_X8_ (hon 8 (by kernel_rfl))] at e6
               have e27 : a.tmps[27]? = some (m6_) := by rw [ha]; exact putSel_on (e := (6, 27, m6_)) 6 rfl rfl (hon 6 (by kernel_rfl)) rfl
               rw [Q_X6_ (hon 6 (by kernel_rfl))] at e27
               replace ha := Aside0.mk ha
               have BK193 := Aside0.mk Q_BK193
               have BK194 := Aside0.mk Q_BK194
               have HB := Aside0.mk Q_HB
               have HO199 := Aside0.mk (Q_HO199 (hon 1 (by kernel_rfl)))
               have HO206 := Aside0.mk (Q_HO206 (hon 4 (by kernel_rfl)))
               have BK208 := Aside0.mk (Q_BK208 (hon 8 (by kernel_rfl)) hb_)
               have GW208 := Aside0.mk (Q_GW208 (hon 8 (by kernel_rfl)))
               have GE208 := Aside0.mk (Q_GE208 (hon 8 (by kernel_rfl)))
               have NB193_208 := Aside0.mk (Q_NB193_208 (hon 8 (by kernel_rfl)))
               have NB208_193 := Aside0.mk (Q_NB208_193 (hon 8 (by kernel_rfl)))
               have NB194_208 := Aside0.mk (Q_NB194_208 (hon 8 (by kernel_rfl)))
               have NB208_194 := Aside0.mk (Q_NB208_194 (hon 8 (by kernel_rfl)))
               obtain ⟨Ao52, co52, eo52⟩ := Kd.R_slice HO206.out
               (first | subst eo52 | (injection eo52 with f1_ f2_ f3_; have f4_ := f1_.symm; have f5_ := f3_.symm; clear f1_ f2_ f3_; subst f4_; subst f5_))
               have hs51 : w'.cell? ⟨gb208, 0, none⟩ = some (.int .i64 0) := (blk_cell BK208.out 0).trans rfl
               have hfs51 := blk_frozen BK208.out 0
               have hns51_0 := NB193_208.out
               have hns51_1 := NB194_208.out
               have hms51_0 := NB208_193.out
               have hms51_1 := NB208_194.out
               have hs53 : w'.cell? ⟨gb208, 1, none⟩ = some (.slice none 0 0) := (blk_cell BK208.out 1).trans rfl
               have hfs53 := blk_frozen BK208.out 1
               have hns53_0 := NB193_208.out
               have hns53_1 := NB194_208.out
               have hms53_0 := NB208_193.out
               have hms53_1 := NB208_194.out
               refine skip_ (w1 := ?_) (by rfl) rfl ?_ ?_
               rotate_left
               ·go_simp
                rfl
               refine hK.out _ _ ⟨v198, .slice Ao52 t204.length co52, gb208, m1_, m4_, m5_, m6_, m8_, (by rw [ha.out]; exact putSel_none (v := undef) rfl), (by (with_reducible repeat (first | refine blk_drewN ?_ _ | refine blk_drew ?_ | refine blk_alloc ?_ _)); refine blk_far ?_ NB193_208.out _; (with_reducible repeat (first | refine blk_drewN ?_ _ | refine blk_drew ?_ | refine blk_alloc ?_ _)); refine blk_far ?_ NB193_208.out _; (with_reducible repeat (first | refine blk_drewN ?_ _ | refine blk_drew ?_ | refine blk_alloc ?_ _)); exact BK193.out), (by (with_reducible repeat (first | refine blk_drewN ?_ _ | refine blk_drew ?_ | refine blk_alloc ?_ _)); refine blk_far ?_ NB194_208.out _; (with_reducible repeat (first | refine blk_drewN ?_ _ | refine blk_drew ?_ | refine blk_alloc ?_ _)); refine blk_far ?_ NB194_208.out _; (with_reducible repeat (first | refine blk_drewN ?_ _ | refine blk_drew ?_ | refine blk_alloc ?_ _)); exact BK194.out), (by repeat (first | (with_reducible first | exact HB.out | apply below_alloc | apply pw_below_drewN | apply below_drew1 | refine below_set ?_ GE193.out | refine below_set ?_ GE194.out | refine below_set ?_ GE208.out) | exact HB.out)), fun _ => (by (with_reducible repeat (first | apply Kd.R_alloc | apply Kd.R_drewN | apply Kd.R_drew)); exact Kd.R_mono (Kd.R_far (p := ⟨gb208, 1, none⟩) (Kd.R_far (p := ⟨gb208, 0, none⟩) (Kd.R_types HO199.out BK208.out (by decide)) (by first | exact fun _ hk => hk.2 | grind) (.int .i64 t203)) (by first | exact fun _ hk => hk.2 | grind) (.slice Ao52 t204.length co52)) (by first | exact fun _ hk => hk.1 | grind)), fun _ => (by (with_reducible repeat (first | apply Kd.R_alloc | apply Kd.R_drewN | apply Kd.R_drew)); exact Kd.R_mono (Kd.R_far (p := ⟨gb208, 1, none⟩) (Kd.R_far (p := ⟨gb208, 0, none⟩) (Kd.R_types HO206.out BK208.out (by decide)) (by first | exact fun _ hk => hk.2 | grind) (.int .i64 t203)) (by first | exact fun _ hk => hk.2 | grind) (.slice Ao52 t204.length co52)) (by first | exact fun _ hk => hk.1 | grind)), fun _ h1_ => absurd ((up_self b 9).symm.trans h1_) (by decide), fun _ => GW208.out, fun _ => GE208.out, fun _ => NB193_208.out, fun _ => NB208_193.out, fun _ => NB194_208.out, fun _ => NB208_194.out, fun _ => (by (with_reducible repeat (first | refine blk_drewN ?_ _ | refine blk_drew ?_ | refine blk_alloc ?_ _)); refine blk_put (cs := #[.int .i64 t203, .slice none 0 0]) ?_ 1 _ rfl; (with_reducible repeat (first | refine blk_drewN ?_ _ | refine blk_drew ?_ | refine blk_alloc ?_ _)); refine blk_put (cs := #[.int .i64 0, .slice none 0 0]) ?_ 0 _ rfl; (with_reducible repeat (first | refine blk_drewN ?_ _ | refine blk_drew ?_ | refine blk_alloc ?_ _)); exact BK208.out), Q_X1_, Q_X4_, Q_X5_, Q_X6_, Q_X8_⟩
              refine steps_cons ?_ ?_
              ·rintro b a w' ⟨v198, v205, gb208, m1_, m4_, m5_, m6_, m8_, ha, Q_BK193, Q_BK194, Q_HB, Q_HO199, Q_HO206, Q_BK208, Q_GW208, Q_GE208, Q_NB193_208, Q_NB208_193, Q_NB194_208, Q_NB208_194, Q_BK208_e9, Q_X1_, Q_X4_, Q_X5_, Q_X6_, Q_X8_⟩ hb_ hon hoff
               refine ⟨_, rfl, fun K hK => ?_⟩
               have e28 : a.tmps[28]? = some (.bool t207) := by rw [ha]; exact putSel_on (e := (7, 28, .bool t207)) 7 rfl rfl (hon 7 (by kernel_rfl)) rfl
               replace ha := Aside0.mk ha
               have BK193 := Aside0.mk Q_BK193
               have BK194 := Aside0.mk Q_BK194
               have HB := Aside0.mk Q_HB
               have HO199 := Aside0.mk (Q_HO199 (hon 1 (by kernel_rfl)))
               have HO206 := Aside0.mk (Q_HO206 (hon 4 (by kernel_rfl)))
               have GW208 := Aside0.mk (Q_GW208 (hon 8 (by kernel_rfl)))
               have GE208 := Aside0.mk (Q_GE208 (hon 8 (by kernel_rfl)))
               have NB193_208 := Aside0.mk (Q_NB193_208 (hon 8 (by kernel_rfl)))
               have NB208_193 := Aside0.mk (Q_NB208_193 (hon 8 (by kernel_rfl)))
               have NB194_208 := Aside0.mk (Q_NB194_208 (hon 8 (by kernel_rfl)))
               have NB208_194 := Aside0.mk (Q_NB208_194 (hon 8 (by kernel_rfl)))
               have BK208 := Aside0.mk (Q_BK208_e9 (hon 9 (by kernel_rfl)))
               refine value_ (w1 := w') (v := .bool t207) (by rfl) rfl ?_ ?_
               ·go_simp
                (try simp only [i64_w])
                try rfl
               refine hK.out _ _ ⟨v198, v205, gb208, m1_, m4_, m5_, m6_, m8_, (by rw [ha.out]; exact putSel_upk 9 hb_ rfl rfl rfl), Q_BK193, Q_BK194, Q_HB, Q_HO199, Q_HO206, fun _ h1_ => absurd ((hon 9 (by kernel_rfl)).symm.trans h1_) (by decide), Q_GW208, Q_GE208, Q_NB193_208, Q_NB208_193, Q_NB194_208, Q_NB208_194, Q_BK208_e9, Q_X1_, Q_X4_, Q_X5_, Q_X6_, Q_X8_⟩
              exact steps_nil
             rintro b a w53 hall ⟨v198, v205, gb208, m1_, m4_, m5_, m6_, m8_, ha, Q_BK193, Q_BK194, Q_HB, Q_HO199, Q_HO206, Q_BK208, Q_GW208, Q_GE208, Q_NB193_208, Q_NB208_193, Q_NB194_208, Q_NB208_194, Q_BK208_e9, Q_X1_, Q_X4_, Q_X5_, Q_X6_, Q_X8_⟩
             clear BK193 BK194 HB
             have hb0_ := hall 0 (by kernel_rfl)
             have hb1_ := hall 1 (by kernel_rfl)
             have hb2_ := hall 2 (by kernel_rfl)
             have hb3_ := hall 3 (by kernel_rfl)
             have hb4_ := hall 4 (by kernel_rfl)
             have hb5_ := hall 5 (by kernel_rfl)
             have hb6_ := hall 6 (by kernel_rfl)
             have hb7_ := hall 7 (by kernel_rfl)
             have hb8_ := hall 8 (by kernel_rfl)
             have hb9_ := hall 9 (by kernel_rfl)
             have hb10_ := hall 10 (by kernel_rfl)
             subst ha
             obtain rfl := Q_X1_ hb1_
             obtain rfl := Q_X4_ hb4_
             obtain rfl := Q_X5_ hb5_
             obtain rfl := Q_X6_ hb6_
             obtain rfl := Q_X8_ hb8_
             simp only [putSel, hb0_, hb1_, hb2_, hb3_, hb4_, hb5_, hb6_, hb7_, hb8_, hb9_, hb10_, if_true, Act.put, List.setIfInBounds_toArray, List.set_cons_zero, List.set_cons_succ]
             have BK193 := Aside0.mk Q_BK193
             clear Q_BK193
             have BK194 := Aside0.mk Q_BK194
             clear Q_BK194
             have HB := Aside0.mk Q_HB
             clear Q_HB
             have HO199 := Aside0.mk (Q_HO199 hb1_)
             clear Q_HO199
             have HO206 := Aside0.mk (Q_HO206 hb4_)
             clear Q_HO206
             clear Q_BK208
             have GW208 := Aside0.mk (Q_GW208 hb8_)
             clear Q_GW208
             have GE208 := Aside0.mk (Q_GE208 hb8_)
             clear Q_GE208
             have NB193_208 := Aside0.mk (Q_NB193_208 hb8_)
             clear Q_NB193_208
             have NB208_193 := Aside0.mk (Q_NB208_193 hb8_)
             clear Q_NB208_193
             have NB194_208 := Aside0.mk (Q_NB194_208 hb8_)
             clear Q_NB194_208
             have NB208_194 := Aside0.mk (Q_NB208_194 hb8_)
             clear Q_NB208_194
             have BK208 := Aside0.mk (Q_BK208_e9 hb9_)
             clear Q_BK208_e9
             clear hall hb0_ hb1_ hb2_ hb3_ hb4_ hb5_ hb6_ hb7_ hb8_ hb9_ hb10_
             have hnb54 := NB193_208.out
             have hnc54 := NB208_193.out
             have hcz55_0 : w53.cell? ⟨gb193, 0, none⟩ = some (.int .i64 a0_0) := (blk_cell BK193.out 0).trans rfl
             have hcz55_1 : w53.cell? ⟨gb193, 1, none⟩ = some (.slice A0_1 l0_1.length c0_1) := (blk_cell BK193.out 1).trans rfl
             have hfz55_0 := blk_frozen BK193.out 0
             have hfz55_1 := blk_frozen BK193.out 1
             try go_wp2_with (first | ((with_reducible refine gate_callee (f := 17) rfl ?_); refine goesL_ (some 30) rfl rfl Try.func17 (by kernel_rfl) rfl #[.agg #[.int .i64 a0_0, .slice A0_1 l0_1.length c0_1]] rfl (by (try simp only [List.map_toArray, List.map_cons, List.map_nil]); first | done | rfl | (simp only [List.length_drop, List.length_take]; rfl)) ?_; (with_reducible refine (laws_toPuzzle.calls k a0_0 _ _ l0_1 t209 t210 _ ?side1 ?side2 A13.out).mono ?_); (case side1 => repeat (first | exact (Kd.C_below HR0_1.out HB.out) | (with_reducible refine Kd.C_alloc ?_ _) | (with_reducible refine Kd.C_drewN ?_ _) | (with_reducible refine Kd.C_drew ?_))); (case side2 => exact HC0_1.out); rintro e w56 ⟨v211, rfl, ho0, hb⟩; refine ⟨_, rfl, ?_⟩; have n0_ := Aside0.mk (Kd.R_elder' (by (with_reducible repeat (first | apply Kd.R_alloc | apply Kd.R_drewN | apply Kd.R_drew)); exact HO199.out) (Kd.R_base ho0) hb); have n1_ := Aside0.mk (Kd.R_elder' (by (with_reducible repeat (first | apply Kd.R_alloc | apply Kd.R_drewN | apply Kd.R_drew)); exact HO206.out) (Kd.R_base ho0) hb); have n2_ := Aside0.mk (Kd.R_lower (Kd.R_new' (Kd.R_new' ho0 (Kd.R_lt (by (with_reducible repeat (first | apply Kd.R_alloc | apply Kd.R_drewN | apply Kd.R_drew)); exact HO199.out))) (Kd.R_lt (by (with_reducible repeat (first | apply Kd.R_alloc | apply Kd.R_drewN | apply Kd.R_drew)); exact HO206.out))) (below_size (by repeat (first | (with_reducible first | exact HB.out | apply below_alloc | apply pw_below_drewN | apply below_drew1 | refine below_set ?_ GE193.out | refine below_set ?_ GE194.out | refine below_set ?_ GE208.out) | exact HB.out)))); have n3_ := Aside0.mk (blk_below (g := gb193) (o := .cells #[.int .i64 a0_0, .slice A0_1 l0_1.length c0_1] 30 (0, 0)) (by (with_reducible repeat (first | refine blk_drewN ?_ _ | refine blk_drew ?_ | refine blk_alloc ?_ _)); exact BK193.out) hb); have n4_ := Aside0.mk (blk_below (g := gb194) (o := .cells #[.int .i64 a1_0, .int .i64 a1_1, .int .i64 a1_2] 23 (0, 0)) (by (with_reducible repeat (first | refine blk_drewN ?_ _ | refine blk_drew ?_ | refine blk_alloc ?_ _)); exact BK194.out) hb); have n5_ := Aside0.mk (blk_below (g := gb208) (o := .cells #[.int .i64 t203, v205] 35 (0, 0)) (by (with_reducible repeat (first | refine blk_drewN ?_ _ | refine blk_drew ?_ | refine blk_alloc ?_ _)); exact BK208.out) hb); have n6_ := Aside0.mk (below_step (by repeat (first | (with_reducible first | exact HB.out | apply below_alloc | apply pw_below_drewN | apply below_drew1 | refine below_set ?_ GE193.out | refine below_set ?_ GE194.out | refine below_set ?_ GE208.out) | exact HB.out)) hb); clear HO199; clear HO206; clear BK193; clear BK194; clear BK208; clear HB; have HO199 := n0_; have HO206 := n1_; have HO212 := n2_; have BK193 := n3_; have BK194 := n4_; have BK208 := n5_; have HB := n6_; clear n0_ n1_ n2_ n3_ n4_ n5_ n6_; (try clear hb); (try clear hb2); (try clear hk); (try clear hi); (try clear ho0)) | ((with_reducible refine gate_dst (N := 8) rfl ?_); refine box_event ?hg (N := 8) ?hd (cs := #[.int .i64 0, .slice none 0 0]) (t := 35) ?hr ?_; (case hd => rfl); (case hg => rfl); (case hr => first | (go_simp; done) | (go_simp; rfl)); intro gb213 hg w57 hbox hb; have n0_ := Aside0.mk (Kd.R_below (by (with_reducible repeat (first | apply Kd.R_alloc | apply Kd.R_drewN | apply Kd.R_drew)); exact HO199.out) hb); have n1_ := Aside0.mk (Kd.R_below (by (with_reducible repeat (first | apply Kd.R_alloc | apply Kd.R_drewN | apply Kd.R_drew)); exact HO206.out) hb); have n2_ := Aside0.mk (Kd.R_below (by (with_reducible repeat (first | apply Kd.R_alloc | apply Kd.R_drewN | apply Kd.R_drew)); exact HO212.out) hb); have n3_ := Aside0.mk (blk_below (g := gb193) (o := .cells #[.int .i64 a0_0, .slice A0_1 l0_1.length c0_1] 30 (0, 0)) (by (with_reducible repeat (first | refine blk_drewN ?_ _ | refine blk_drew ?_ | refine blk_alloc ?_ _)); exact BK193.out) hb); have n4_ := Aside0.mk (blk_below (g := gb194) (o := .cells #[.int .i64 a1_0, .int .i64 a1_1, .int .i64 a1_2] 23 (0, 0)) (by (with_reducible repeat (first | refine blk_drewN ?_ _ | refine blk_drew ?_ | refine blk_alloc ?_ _)); exact BK194.out) hb); have n5_ := Aside0.mk (blk_below (g := gb208) (o := .cells #[.int .i64 t203, v205] 35 (0, 0)) (by (with_reducible repeat (first | refine blk_drewN ?_ _ | refine blk_drew ?_ | refine blk_alloc ?_ _)); exact BK208.out) hb); have n6_ := Aside0.mk (below_step (by repeat (first | (with_reducible first | exact HB.out | apply below_alloc | apply pw_below_drewN | apply below_drew1 | refine below_set ?_ GE193.out | refine below_set ?_ GE194.out | refine below_set ?_ GE208.out) | exact HB.out)) hb); have n7_ := Aside0.mk (hbox); have n8_ := Aside0.mk ((by rw [hg]; exact (below_size (by repeat (first | (with_reducible first | exact HB.out | apply below_alloc | apply pw_below_drewN | apply below_drew1 | refine below_set ?_ GE193.out | refine below_set ?_ GE194.out | refine below_set ?_ GE208.out) | exact HB.out))) : w.heap.size ≤ gb213)); have n9_ := Aside0.mk ((by rw [hg]; exact (below_size (by repeat (first | (with_reducible first | exact HB.out | apply below_alloc | apply pw_below_drewN | apply below_drew1 | refine below_set ?_ GE193.out | refine below_set ?_ GE194.out | refine below_set ?_ GE208.out) | exact HB.out))) : w.heap.size ≤ gb213)); have n10_ := Aside0.mk ((by rw [hg]; exact Nat.ne_of_lt (blk_lt (g := gb193) (o := .cells #[.int .i64 a0_0, .slice A0_1 l0_1.length c0_1] 30 (0, 0)) (by (with_reducible repeat (first | refine blk_drewN ?_ _ | refine blk_drew ?_ | refine blk_alloc ?_ _)); exact BK193.out)) : gb193 ≠ gb213)); have n11_ := Aside0.mk ((by rw [hg]; exact Nat.ne_of_gt (blk_lt (g := gb193) (o := .cells #[.int .i64 a0_0, .slice A0_1 l0_1.length c0_1] 30 (0, 0)) (by (with_reducible repeat (first | refine blk_drewN ?_ _ | refine blk_drew ?_ | refine blk_alloc ?_ _)); exact BK193.out)) : gb213 ≠ gb193)); have n12_ := Aside0.mk ((by rw [hg]; exact Nat.ne_of_lt (blk_lt (g := gb194) (o := .cells #[.int .i64 a1_0, .int .i64 a1_1, .int .i64 a1_2] 23 (0, 0)) (by (with_reducible repeat (first | refine blk_drewN ?_ _ | refine blk_drew ?_ | refine blk_alloc ?_ _)); exact BK194.out)) : gb194 ≠ gb213)); have n13_ := Aside0.mk ((by rw [hg]; exact Nat.ne_of_gt (blk_lt (g := gb194) (o := .cells #[.int .i64 a1_0, .int .i64 a1_1, .int .i64 a1_2] 23 (0, 0)) (by (with_reducible repeat (first | refine blk_drewN ?_ _ | refine blk_drew ?_ | refine blk_alloc ?_ _)); exact BK194.out)) : gb213 ≠ gb194)); have n14_ := Aside0.mk ((by rw [hg]; exact Nat.ne_of_lt (blk_lt (g := gb208) (o := .cells #[.int .i64 t203, v205] 35 (0, 0)) (by (with_reducible repeat (first | refine blk_drewN ?_ _ | refine blk_drew ?_ | refine blk_alloc ?_ _)); exact BK208.out)) : gb208 ≠ gb213)); have n15_ := Aside0.mk ((by rw [hg]; exact Nat.ne_of_gt (blk_lt (g := gb208) (o := .cells #[.int .i64 t203, v205] 35 (0, 0)) (by (with_reducible repeat (first | refine blk_drewN ?_ _ | refine blk_drew ?_ | refine blk_alloc ?_ _)); exact BK208.out)) : gb213 ≠ gb208)); clear HO199; clear HO206; clear HO212; clear BK193; clear BK194; clear BK208; clear HB; have HO199 := n0_; have HO206 := n1_; have HO212 := n2_; have BK193 := n3_; have BK194 := n4_; have BK208 := n5_; have HB := n6_; have BK213 := n7_; have GW213 := n8_; have GE213 := n9_; have NB193_213 := n10_; have NB213_193 := n11_; have NB194_213 := n12_; have NB213_194 := n13_; have NB208_213 := n14_; have NB213_208 := n15_; clear n0_ n1_ n2_ n3_ n4_ n5_ n6_ n7_ n8_ n9_ n10_ n11_ n12_ n13_ n14_ n15_; clear hb hbox hg; have hnb58 := NB213_193.out; have hnc58 := NB193_213.out; have hnb59 := NB213_194.out; have hnc59 := NB194_213.out; have hnb60 := NB213_208.out; have hnc60 := NB208_213.out; have hcz61_0 : w57.cell? ⟨gb213, 0, none⟩ = some (.int .i64 0) := (blk_cell BK213.out 0).trans rfl; have hcz61_1 : w57.cell? ⟨gb213, 1, none⟩ = some (.slice none 0 0) := (blk_cell BK213.out 1).trans rfl; have hfz61_0 := blk_frozen BK213.out 0; have hfz61_1 := blk_frozen BK213.out 1; obtain ⟨Ao62, co62, eo62⟩ := Kd.R_slice HO212.out; subst eo62))
             have n0_ : Aside0 (Kd.R k25 25 ((w57.setCell ⟨gb213, 0, none⟩ (.int .i64 t209)).setCell ⟨gb213, 1, none⟩ (.slice Ao62 t210.length co62)) w.heap.size (fun k_ => some k_ ≠ (v205 : Value).ownBlock ∧ some k_ ≠ (.slice Ao62 t210.length co62 : Value).ownBlock) v198 t197) := ⟨by (with_reducible repeat (first | apply Kd.R_alloc | apply Kd.R_drewN | apply Kd.R_drew)); exact Kd.R_mono (Kd.R_far (p := ⟨gb213, 1, none⟩) (Kd.R_far (p := ⟨gb213, 0, none⟩) (Kd.R_types HO199.out BK213.out (by decide)) (by first | exact fun _ hk => hk.2 | grind) (.int .i64 t209)) (by first | exact fun _ hk => hk.2 | grind) (.slice Ao62 t210.length co62)) (by first | exact fun _ hk => ⟨hk.1.1, hk.1.2⟩ | grind)⟩
             have n1_ : Aside0 (Kd.R k25 25 ((w57.setCell ⟨gb213, 0, none⟩ (.int .i64 t209)).setCell ⟨gb213, 1, none⟩ (.slice Ao62 t210.length co62)) w.heap.size (fun k_ => some k_ ≠ (v198 : Value).ownBlock ∧ some k_ ≠ (.slice Ao62 t210.length co62 : Value).ownBlock) v205 t204) := ⟨by (with_reducible repeat (first | apply Kd.R_alloc | apply Kd.R_drewN | apply Kd.R_drew)); exact Kd.R_mono (Kd.R_far (p := ⟨gb213, 1, none⟩) (Kd.R_far (p := ⟨gb213, 0, none⟩) (Kd.R_types HO206.out BK213.out (by decide)) (by first | exact fun _ hk => hk.2 | grind) (.int .i64 t209)) (by first | exact fun _ hk => hk.2 | grind) (.slice Ao62 t210.length co62)) (by first | exact fun _ hk => ⟨hk.1.1, hk.1.2⟩ | grind)⟩
             have n2_ : Aside0 (Kd.R k25 25 ((w57.setCell ⟨gb213, 0, none⟩ (.int .i64 t209)).setCell ⟨gb213, 1, none⟩ (.slice Ao62 t210.length co62)) w.heap.size (fun k_ => some k_ ≠ (v198 : Value).ownBlock ∧ some k_ ≠ (v205 : Value).ownBlock) (.slice Ao62 t210.length co62) t210) := ⟨by (with_reducible repeat (first | apply Kd.R_alloc | apply Kd.R_drewN | apply Kd.R_drew)); exact Kd.R_mono (Kd.R_far (p := ⟨gb213, 1, none⟩) (Kd.R_far (p := ⟨gb213, 0, none⟩) (Kd.R_types HO212.out BK213.out (by decide)) (by first | exact fun _ hk => hk.2 | grind) (.int .i64 t209)) (by first | exact fun _ hk => hk.2 | grind) (.slice Ao62 t210.length co62)) (by first | exact fun _ hk => ⟨hk.1.1.2, hk.1.2⟩ | grind)⟩
             have n3_ : Aside0 (((w57.setCell ⟨gb213, 0, none⟩ (.int .i64 t209)).setCell ⟨gb213, 1, none⟩ (.slice Ao62 t210.length co62)).heap[gb193]? = some (.cells #[.int .i64 a0_0, .slice A0_1 l0_1.length c0_1] 30 (0, 0))) := ⟨by (with_reducible repeat (first | refine blk_drewN ?_ _ | refine blk_drew ?_ | refine blk_alloc ?_ _)); refine blk_far ?_ NB193_213.out _; (with_reducible repeat (first | refine blk_drewN ?_ _ | refine blk_drew ?_ | refine blk_alloc ?_ _)); refine blk_far ?_ NB193_213.out _; (with_reducible repeat (first | refine blk_drewN ?_ _ | refine blk_drew ?_ | refine blk_alloc ?_ _)); exact BK193.out⟩
             have n4_ : Aside0 (((w57.setCell ⟨gb213, 0, none⟩ (.int .i64 t209)).setCell ⟨gb213, 1, none⟩ (.slice Ao62 t210.length co62)).heap[gb194]? = some (.cells #[.int .i64 a1_0, .int .i64 a1_1, .int .i64 a1_2] 23 (0, 0))) := ⟨by (with_reducible repeat (first | refine blk_drewN ?_ _ | refine blk_drew ?_ | refine blk_alloc ?_ _)); refine blk_far ?_ NB194_213.out _; (with_reducible repeat (first | refine blk_drewN ?_ _ | refine blk_drew ?_ | refine blk_alloc ?_ _)); refine blk_far ?_ NB194_213.out _; (with_reducible repeat (first | refine blk_drewN ?_ _ | refine blk_drew ?_ | refine blk_alloc ?_ _)); exact BK194.out⟩
             have n5_ : Aside0 (((w57.setCell ⟨gb213, 0, none⟩ (.int .i64 t209)).setCell ⟨gb213, 1, none⟩ (.slice Ao62 t210.length co62)).heap[gb208]? = some (.cells #[.int .i64 t203, v205] 35 (0, 0))) := ⟨by (with_reducible repeat (first | refine blk_drewN ?_ _ | refine blk_drew ?_ | refine blk_alloc ?_ _)); refine blk_far ?_ NB208_213.out _; (with_reducible repeat (first | refine blk_drewN ?_ _ | refine blk_drew ?_ | refine blk_alloc ?_ _)); refine blk_far ?_ NB208_213.out _; (with_reducible repeat (first | refine blk_drewN ?_ _ | refine blk_drew ?_ | refine blk_alloc ?_ _)); exact BK208.out⟩
             have n6_ : Aside0 (((w57.setCell ⟨gb213, 0, none⟩ (.int .i64 t209)).setCell ⟨gb213, 1, none⟩ (.slice Ao62 t210.length co62)).heap[gb213]? = some (.cells #[.int .i64 t209, .slice Ao62 t210.length co62] 35 (0, 0))) := ⟨by (with_reducible repeat (first | refine blk_drewN ?_ _ | refine blk_drew ?_ | refine blk_alloc ?_ _)); refine blk_put (cs := #[.int .i64 t209, .slice none 0 0]) ?_ 1 _ rfl; (with_reducible repeat (first | refine blk_drewN ?_ _ | refine blk_drew ?_ | refine blk_alloc ?_ _)); refine blk_put (cs := #[.int .i64 0, .slice none 0 0]) ?_ 0 _ rfl; (with_reducible repeat (first | refine blk_drewN ?_ _ | refine blk_drew ?_ | refine blk_alloc ?_ _)); exact BK213.out⟩
             have n7_ : Aside0 (Below w.heap.size w ((w57.setCell ⟨gb213, 0, none⟩ (.int .i64 t209)).setCell ⟨gb213, 1, none⟩ (.slice Ao62 t210.length co62))) := ⟨by repeat (first | (with_reducible first | exact HB.out | apply below_alloc | apply pw_below_drewN | apply below_drew1 | refine below_set ?_ GE193.out | refine below_set ?_ GE194.out | refine below_set ?_ GE208.out | refine below_set ?_ GE213.out) | exact HB.out)⟩
             (try clear HO199)
             (try clear HO206)
             (try clear HO212)
             (try clear BK193)
             (try clear BK194)
             (try clear BK208)
             (try clear BK213)
             (try clear HB)
             generalize ((w57.setCell ⟨gb213, 0, none⟩ (.int .i64 t209)).setCell ⟨gb213, 1, none⟩ (.slice Ao62 t210.length co62)) = w63 at n0_ n1_ n2_ n3_ n4_ n5_ n6_ n7_ ⊢
             have HO199 := n0_
             have HO206 := n1_
             have HO212 := n2_
             have BK193 := n3_
             have BK194 := n4_
             have BK208 := n5_
             have BK213 := n6_
             have HB := n7_
             clear n0_ n1_ n2_ n3_ n4_ n5_ n6_ n7_
             have n0_ := Aside0.mk (Kd.R_drew HO199.out)
             have n1_ := Aside0.mk (Kd.R_drew HO206.out)
             have n2_ := Aside0.mk (Kd.R_drew HO212.out)
             have n3_ := Aside0.mk (blk_drew BK193.out)
             have n4_ := Aside0.mk (blk_drew BK194.out)
             have n5_ := Aside0.mk (blk_drew BK208.out)
             have n6_ := Aside0.mk (blk_drew BK213.out)
             have n7_ := Aside0.mk (below_drew1 HB.out)
             clear HO199
             clear HO206
             clear HO212
             clear BK193
             clear BK194
             clear BK208
             clear BK213
             clear HB
             have HO199 := n0_
             have HO206 := n1_
             have HO212 := n2_
             have BK193 := n3_
             have BK194 := n4_
             have BK208 := n5_
             have BK213 := n6_
             have HB := n7_
             clear n0_ n1_ n2_ n3_ n4_ n5_ n6_ n7_
             refine start_ (n := 10) (S := fun w' => True) (ds := []) #[false, false, false, false, false, false, false, false, false, false] (by kernel_rfl) rfl rfl trivial (fun hHeld => ?_); refine with_tabW laws_FnExactAddClue.tab7 laws_FnExactAddClue.bits7 (fun HT_ HW_ => ?_)
             generalize w63.drew = w64 at HO199 HO206 HO212 BK193 BK194 BK208 BK213 HB hHeld ⊢
             refine inv_at [0, 1, 2, 3, 4, 5, 6, 7, 8, 9] (fun a0_ b a w' => ∃ (v219 : Value) (gb222 : Nat) (m3_ : Value) (m4_ : Value) (m5_ : Value) (m7_ : Value), a = putSel a0_ b [(0, 32, .agg #[.int .i64 t209, .slice Ao62 t210.length co62]), (1, 33, .agg #[.int .i64 a1_0, .int .i64 a1_1, .int .i64 a1_2]), (2, 34, .agg #[.int .i64 t214, .int .i64 t215, .int .i64 t216]), (3, 35, m3_), (4, 31, m4_), (5, 36, m5_), (6, 37, .bool t221), (7, 9, m7_), (9, 10, .bool t221)] ∧ (Kd.R k25 25 w' w.heap.size (fun k_ => some k_ ≠ (v205 : Value).ownBlock ∧ some k_ ≠ (.slice Ao62 t210.length co62 : Value).ownBlock ∧ some k_ ≠ (v219 : Value).ownBlock) v198 t197) ∧ (Kd.R k25 25 w' w.heap.size (fun k_ => some k_ ≠ (v198 : Value).ownBlock ∧ some k_ ≠ (.slice Ao62 t210.length co62 : Value).ownBlock ∧ some k_ ≠ (v219 : Value).ownBlock) v205 t204) ∧ (Kd.R k25 25 w' w.heap.size (fun k_ => some k_ ≠ (v198 : Value).ownBlock ∧ some k_ ≠ (v205 : Value).ownBlock ∧ some k_ ≠ (v219 : Value).ownBlock) (.slice Ao62 t210.length co62) t210) ∧ (w'.heap[gb193]? = some (.cells #[.int .i64 a0_0, .slice A0_1 l0_1.length c0_1] 30 (0, 0))) ∧ (w'.heap[gb194]? = some (.cells #[.int .i64 a1_0, .int .i64 a1_1, .int .i64 a1_2] 23 (0, 0))) ∧ (w'.heap[gb208]? = some (.cells #[.int .i64 t203, v205] 35 (0, 0))) ∧ (w'.heap[gb213]? = some (.cells #[.int .i64 t209, .slice Ao62 t210.length co62] 35 (0, 0))) ∧ (Below w.heap.size w w') ∧ (b 3 = true → Kd.R k25 25 w' w.heap.size (fun k_ => some k_ ≠ (v198 : Value).ownBlock ∧ some k_ ≠ (v205 : Value).ownBlock ∧ some k_ ≠ (.slice Ao62 t210.length co62 : Value).ownBlock) v219 t218) ∧ (b 7 = true → b 8 = false → w'.heap[gb222]? = some (.cells #[.int .i64 0, .slice none 0 0] 35 (0, 0))) ∧ (b 7 = true → w.heap.size ≤ gb222) ∧ (b 7 = true → w.heap.size ≤ gb222) ∧ (b 7 = true → gb193 ≠ gb222) ∧ (b 7 = true → gb222 ≠ gb193) ∧ (b 7 = true → gb194 ≠ gb222) ∧ (b 7 = true → gb222 ≠ gb194) ∧ (b 7 = true → gb208 ≠ gb222) ∧ (b 7 = true → gb222 ≠ gb208) ∧ (b 7 = true → gb213 ≠ gb222) ∧ (b 7 = true → gb222 ≠ gb213) ∧ (b 8 = true → w'.heap[gb222]? = some (.cells #[.int .i64 t217, v219] 35 (0, 0))) ∧ (b 3 = true → (m3_ : Value) = .tuple #[.agg #[.int .i64 t217, v219], .bool t221]) ∧ (b 4 = true → (m4_ : Value) = .tuple #[.agg #[.int .i64 t217, v219], .bool t221]) ∧ (b 5 = true → (m5_ : Value) = .agg #[.int .i64 t217, v219]) ∧ (b 7 = true → (m7_ : Value) = .pointer (some ⟨gb222, 0, none⟩))) HT_.out HW_.out (by kernel_rfl) (by kernel_rfl) ?_ ?_ ?_
             ·exact ⟨.bool false, 0, .bool false, .bool false, .bool false, .bool false, by simp only [putSel, Bool.false_eq_true, if_false], Kd.R_mono HO199.out (fun _ hk => ⟨hk.1, hk.2, by simp [Value.ownBlock]⟩), Kd.R_mono HO206.out (fun _ hk => ⟨hk.1, hk.2, by simp [Value.ownBlock]⟩), Kd.R_mono HO212.out (fun _ hk => ⟨hk.1, hk.2, by simp [Value.ownBlock]⟩), BK193.out, BK194.out, BK208.out, BK213.out, HB.out, fun h_ => absurd h_ (by decide), fun h_ => absurd h_ (by decide), fun h_ => absurd h_ (by decide), fun h_ => absurd h_ (by decide), fun h_ => absurd h_ (by decide), fun h_ => absurd h_ (by decide), fun h_ => absurd h_ (by decide), fun h_ => absurd h_ (by decide), fun h_ => absurd h_ (by decide), fun h_ => absurd h_ (by decide), fun h_ => absurd h_ (by decide), fun h_ => absurd h_ (by decide), fun h_ => absurd h_ (by decide), fun h_ => absurd h_ (by decide), fun h_ => absurd h_ (by decide), fun h_ => absurd h_ (by decide), fun h_ => absurd h_ (by decide)⟩
             ·skip
              clear BK193 BK194 BK208 BK213 HB HO199 HO206 HO212
              refine steps_cons ?_ ?_
              ·rintro b a w' ⟨v219, gb222, m3_, m4_, m5_, m7_, ha, Q_HO199, Q_HO206, Q_HO212, Q_BK193, Q_BK194, Q_BK208, Q_BK213, Q_HB, Q_HO220, Q_BK222, Q_GW222, Q_GE222, Q_NB193_222, Q_NB222_193, Q_NB194_222, Q_NB222_194, Q_NB208_222, Q_NB222_208, Q_NB213_222, Q_NB222_213, Q_BK222_e8, Q_X3_, Q_X4_, Q_X5_, Q_X7_⟩ hb_ hon hoff
               refine ⟨_, rfl, fun K hK => ?_⟩
               have e8 : a.tmps[8]? = some (.pointer (some ⟨gb213, 0, none⟩)) := by rw [ha]; exact (putSel_off rfl).trans rfl
               replace ha := Aside0.mk ha
               have HO199 := Aside0.mk Q_HO199
               have HO206 := Aside0.mk Q_HO206
               have HO212 := Aside0.mk Q_HO212
               have BK193 := Aside0.mk Q_BK193
               have BK194 := Aside0.mk Q_BK194
               have BK208 := Aside0.mk Q_BK208
               have BK213 := Aside0.mk Q_BK213
               have HB := Aside0.mk Q_HB
               have hc0_ : w'.cell? ⟨gb213, 0, none⟩ = some (.int .i64 t209) := (blk_cell BK213.out 0).trans rfl
               have hc1_ : w'.cell? ⟨gb213, 1, none⟩ = some (.slice Ao62 t210.length co62) := (blk_cell BK213.out 1).trans rfl
               refine value_ (w1 := w') (v := .agg #[.int .i64 t209, .slice Ao62 t210.length co62]) (by rfl) rfl ?_ ?_
               ·go_simp
                (try simp only [i64_w])
                try rfl
               refine hK.out _ _ ⟨v219, gb222, m3_, m4_, m5_, m7_, (by rw [ha.out]; exact putSel_upk 0 hb_ rfl rfl rfl), Q_HO199, Q_HO206, Q_HO212, Q_BK193, Q_BK194, Q_BK208, Q_BK213, Q_HB, fun h0_ => absurd ((hoff 3 (by kernel_rfl)).symm.trans h0_) (by decide), Q_BK222, Q_GW222, Q_GE222, Q_NB193_222, Q_NB222_193, Q_NB194_222, Q_NB222_194, Q_NB208_222, Q_NB222_208, Q_NB213_222, Q_NB222_213, fun h0_ => absurd ((hoff 8 (by kernel_rfl)).symm.trans h0_) (by decide), fun h0_ => absurd ((hoff 3 (by kernel_rfl)).symm.trans h0_) (by decide), fun h0_ => absurd ((hoff 4 (by kernel_rfl)).symm.trans h0_) (by decide), fun h0_ => absurd ((hoff 5 (by kernel_rfl)).symm.trans h0_) (by decide), Q_X7_⟩
              refine steps_cons ?_ ?_
              ·rintro b a w' ⟨v219, gb222, m3_, m4_, m5_, m7_, ha, Q_HO199, Q_HO206, Q_HO212, Q_BK193, Q_BK194, Q_BK208, Q_BK213, Q_HB, Q_HO220, Q_BK222, Q_GW222, Q_GE222, Q_NB193_222, Q_NB222_193, Q_NB194_222, Q_NB222_194, Q_NB208_222, Q_NB222_208, Q_NB213_222, Q_NB222_213, Q_BK222_e8, Q_X3_, Q_X4_, Q_X5_, Q_X7_⟩ hb_ hon hoff
               refine ⟨_, rfl, fun K hK => ?_⟩
               have e3 : a.tmps[3]? = some (.pointer (some ⟨gb194, 0, none⟩)) := by rw [ha]; exact (putSel_off rfl).trans rfl
               replace ha := Aside0.mk ha
               have HO199 := Aside0.mk Q_HO199
               have HO206 := Aside0.mk Q_HO206
               have HO212 := Aside0.mk Q_HO212
               have BK193 := Aside0.mk Q_BK193
               have BK194 := Aside0.mk Q_BK194
               have BK208 := Aside0.mk Q_BK208
               have BK213 := Aside0.mk Q_BK213
               have HB := Aside0.mk Q_HB
               have hc0_ : w'.cell? ⟨gb194, 0, none⟩ = some (.int .i64 a1_0) := (blk_cell BK194.out 0).trans rfl
               have hc1_ : w'.cell? ⟨gb194, 1, none⟩ = some (.int .i64 a1_1) := (blk_cell BK194.out 1).trans rfl
               have hc2_ : w'.cell? ⟨gb194, 2, none⟩ = some (.int .i64 a1_2) := (blk_cell BK194.out 2).trans rfl
               refine value_ (w1 := w') (v := .agg #[.int .i64 a1_0, .int .i64 a1_1, .int .i64 a1_2]) (by rfl) rfl ?_ ?_
               ·go_simp
                (try simp only [i64_w])
                try rfl
               refine hK.out _ _ ⟨v219, gb222, m3_, m4_, m5_, m7_, (by rw [ha.out]; exact putSel_upk 1 hb_ rfl rfl rfl), Q_HO199, Q_HO206, Q_HO212, Q_BK193, Q_BK194, Q_BK208, Q_BK213, Q_HB, fun h0_ => absurd ((hoff 3 (by kernel_rfl)).symm.trans h0_) (by decide), Q_BK222, Q_GW222, Q_GE222, Q_NB193_222, Q_NB222_193, Q_NB194_222, Q_NB222_194, Q_NB208_222, Q_NB222_208, Q_NB213_222, Q_NB222_213, fun h0_ => absurd ((hoff 8 (by kernel_rfl)).symm.trans h0_) (by decide), fun h0_ => absurd ((hoff 3 (by kernel_rfl)).symm.trans h0_) (by decide), fun h0_ => absurd ((hoff 4 (by kernel_rfl)).symm.trans h0_) (by decide), fun h0_ => absurd ((hoff 5 (by kernel_rfl)).symm.trans h0_) (by decide), Q_X7_⟩
              refine steps_cons ?_ ?_
              ·rintro b a w' ⟨v219, gb222, m3_, m4_, m5_, m7_, ha, Q_HO199, Q_HO206, Q_HO212, Q_BK193, Q_BK194, Q_BK208, Q_BK213, Q_HB, Q_HO220, Q_BK222, Q_GW222, Q_GE222, Q_NB193_222, Q_NB222_193, Q_NB194_222, Q_NB222_194, Q_NB208_222, Q_NB222_208, Q_NB213_222, Q_NB222_213, Q_BK222_e8, Q_X3_, Q_X4_, Q_X5_, Q_X7_⟩ hb_ hon hoff
               refine ⟨_, rfl, fun K hK => ?_⟩
               have e33 : a.tmps[33]? = some (.agg #[.int .i64 a1_0, .int .i64 a1_1, .int .i64 a1_2]) := by rw [ha]; exact putSel_on (e := (1, 33, .agg #[.int .i64 a1_0, .int .i64 a1_1, .int .i64 a1_2])) 1 rfl rfl (hon 1 (by kernel_rfl)) rfl
               replace ha := Aside0.mk ha
               have HO199 := Aside0.mk Q_HO199
               have HO206 := Aside0.mk Q_HO206
               have HO212 := Aside0.mk Q_HO212
               have BK193 := Aside0.mk Q_BK193
               have BK194 := Aside0.mk Q_BK194
               have BK208 := Aside0.mk Q_BK208
               have BK213 := Aside0.mk Q_BK213
               have HB := Aside0.mk Q_HB
               refine goes_ Try.func13 (by kernel_rfl) rfl #[.agg #[.int .i64 a1_0, .int .i64 a1_1, .int .i64 a1_2]] (by rfl) rfl rfl (by first | (simp only [List.map_toArray, List.map_cons, List.map_nil, Act.eval, Array.getD_eq_getD_getElem?, Option.getD_some, e33]; done) | (simp only [List.map_toArray, List.map_cons, List.map_nil, Act.eval, Array.getD_eq_getD_getElem?, Option.getD_some, e33]; rfl)) ?_
               with_reducible refine (laws_toClue.calls a1_0 a1_1 a1_2 t214 t215 t216 _ A14.out).mono ?_
               rintro e w65 ⟨rfl, hb⟩
               refine ⟨_, rfl, ?_⟩
               have n0_ := Aside0.mk (Kd.R_below (by (with_reducible repeat (first | apply Kd.R_alloc | apply Kd.R_drewN | apply Kd.R_drew)); exact HO199.out) hb)
               have n1_ := Aside0.mk (Kd.R_below (by (with_reducible repeat (first | apply Kd.R_alloc | apply Kd.R_drewN | apply Kd.R_drew)); exact HO206.out) hb)
               have n2_ := Aside0.mk (Kd.R_below (by (with_reducible repeat (first | apply Kd.R_alloc | apply Kd.R_drewN | apply Kd.R_drew)); exact HO212.out) hb)
               have n3_ := Aside0.mk (blk_below (g := gb193) (o := .cells #[.int .i64 a0_0, .slice A0_1 l0_1.length c0_1] 30 (0, 0)) (by (with_reducible repeat (first | refine blk_drewN ?_ _ | refine blk_drew ?_ | refine blk_alloc ?_ _)); exact BK193.out) hb)
               have n4_ := Aside0.mk (blk_below (g := gb194) (o := .cells #[.int .i64 a1_0, .int .i64 a1_1, .int .i64 a1_2] 23 (0, 0)) (by (with_reducible repeat (first | refine blk_drewN ?_ _ | refine blk_drew ?_ | refine blk_alloc ?_ _)); exact BK194.out) hb)
               have n5_ := Aside0.mk (blk_below (g := gb208) (o := .cells #[.int .i64 t203, v205] 35 (0, 0)) (by (with_reducible repeat (first | refine blk_drewN ?_ _ | refine blk_drew ?_ | refine blk_alloc ?_ _)); exact BK208.out) hb)
               have n6_ := Aside0.mk (blk_below (g := gb213) (o := .cells #[.int .i64 t209, .slice Ao62 t210.length co62] 35 (0, 0)) (by (with_reducible repeat (first | refine blk_drewN ?_ _ | refine blk_drew ?_ | refine blk_alloc ?_ _)); exact BK213.out) hb)
               have n7_ := Aside0.mk (below_step (by repeat (first | (with_reducible first | exact HB.out | apply below_alloc | apply pw_below_drewN | apply below_drew1 | refine below_set ?_ GE193.out | refine below_set ?_ GE194.out | refine below_set ?_ GE208.out | refine below_set ?_ GE213.out) | exact HB.out)) hb)
               have z_BK222 := fun (h0_ : b 7 = true) (h1_ : b 8 = false) => (show w65.heap[gb222]? = some (.cells #[.int .i64 0, .slice none 0 0] 35 (0, 0)) from by first | exact (blk_below (g := gb222) (o := .cells #[.int .i64 0, .slice none 0 0] 35 (0, 0)) (by (with_reducible repeat (first | refine blk_drewN ?_ _ | refine blk_drew ?_ | refine blk_alloc ?_ _)); exact (Q_BK222 h0_ h1_)) hb))
               clear HO199
               clear HO206
               clear HO212
               clear BK193
               clear BK194
               clear BK208
               clear BK213
               clear HB
               have HO199 := n0_
               have HO206 := n1_
               have HO212 := n2_
               have BK193 := n3_
               have BK194 := n4_
               have BK208 := n5_
               have BK213 := n6_
               have HB := n7_
               clear n0_ n1_ n2_ n3_ n4_ n5_ n6_ n7_
               (try clear hb)
               (try clear hb2)
               (try clear hk)
               (try clear hi)
               refine hK.out _ _ ⟨v219, gb222, m3_, m4_, m5_, m7_, (by rw [ha.out]; exact putSel_upk 2 hb_ rfl rfl rfl), (by (with_reducible repeat (first | apply Kd.R_alloc | apply Kd.R_drewN | apply Kd.R_drew)); exact HO199.out), (by (with_reducible repeat (first | apply Kd.R_alloc | apply Kd.R_drewN | apply Kd.R_drew)); exact HO206.out), (by (with_reducible repeat (first | apply Kd.R_alloc | apply Kd.R_drewN | apply Kd.R_drew)); exact HO212.out), (by (with_reducible repeat (first | refine blk_drewN ?_ _ | refine blk_drew ?_ | refine blk_alloc ?_ _)); exact BK193.out), (by (with_reducible repeat (first | refine blk_drewN ?_ _ | refine blk_drew ?_ | refine blk_alloc ?_ _)); exact BK194.out), (by (with_reducible repeat (first | refine blk_drewN ?_ _ | refine blk_drew ?_ | refine blk_alloc ?_ _)); exact BK208.out), (by (with_reducible repeat (first | refine blk_drewN ?_ _ | refine blk_drew ?_ | refine blk_alloc ?_ _)); exact BK213.out), (by repeat (first | (with_reducible first | exact HB.out | apply below_alloc | apply pw_below_drewN | apply below_drew1 | refine below_set ?_ GE193.out | refine below_set ?_ GE194.out | refine below_set ?_ GE208.out | refine below_set ?_ GE213.out) | exact HB.out)), fun h0_ => absurd ((hoff 3 (by kernel_rfl)).symm.trans h0_) (by decide), z_BK222, Q_GW222, Q_GE222, Q_NB193_222, Q_NB222_193, Q_NB194_222, Q_NB222_194, Q_NB208_222, Q_NB222_208, Q_NB213_222, Q_NB222_213, fun h0_ => absurd ((hoff 8 (by kernel_rfl)).symm.trans h0_) (by decide), fun h0_ => absurd ((hoff 3 (by kernel_rfl)).symm.trans h0_) (by decide), fun h0_ => absurd ((hoff 4 (by kernel_rfl)).symm.trans h0_) (by decide), fun h0_ => absurd ((hoff 5 (by kernel_rfl)).symm.trans h0_) (by decide), Q_X7_⟩
              refine steps_cons ?_ ?_
              ·rintro b a w' ⟨v219, gb222, m3_, m4_, m5_, m7_, ha, Q_HO199, Q_HO206, Q_HO212, Q_BK193, Q_BK194, Q_BK208, Q_BK213, Q_HB, Q_HO220, Q_BK222, Q_GW222, Q_GE222, Q_NB193_222, Q_NB222_193, Q_NB194_222, Q_NB222_194, Q_NB208_222, Q_NB222_208, Q_NB213_222, Q_NB222_213, Q_BK222_e8, Q_X3_, Q_X4_, Q_X5_, Q_X7_⟩ hb_ hon hoff
               refine ⟨_, rfl, fun K hK => ?_⟩
               have e32 : a.tmps[32]? = some (.agg #[.int .i64 t209, .slice Ao62 t210.length co62]) := by rw [ha]; exact putSel_on (e := (0, 32, .agg #[.int .i64 t209, .slice Ao62 t210.length co62])) 0 rfl rfl (hon 0 (by kernel_rfl)) rfl
               have e34 : a.tmps[34]? = some (.agg #[.int .i64 t214, .int .i64 t215, .int .i64 t216]) := by rw [ha]; exact putSel_on (e := (2, 34, .agg #[.int .i64 t214, .int .i64 t215, .int .i64 t216])) 2 rfl rfl (hon 2 (by kernel_rfl)) rfl
               replace ha := Aside0.mk ha
               have HO199 := Aside0.mk Q_HO199
               have HO206 := Aside0.mk Q_HO206
               have HO212 := Aside0.mk Q_HO212
               have BK193 := Aside0.mk Q_BK193
               have BK194 := Aside0.mk Q_BK194
               have BK208 := Aside0.mk Q_BK208
               have BK213 := Aside0.mk Q_BK213
               have HB := Aside0.mk Q_HB
               refine goes_ Try.func21 (by kernel_rfl) rfl #[.agg #[.int .i64 t209, .slice Ao62 t210.length co62], .agg #[.int .i64 t214, .int .i64 t215, .int .i64 t216]] (by rfl) rfl rfl (by first | (simp only [List.map_toArray, List.map_cons, List.map_nil, Act.eval, Array.getD_eq_getD_getElem?, Option.getD_some, e32, e34]; done) | (simp only [List.map_toArray, List.map_cons, List.map_nil, Act.eval, Array.getD_eq_getD_getElem?, Option.getD_some, e32, e34]; rfl)) ?_
               with_reducible refine (impl_AddClue.calls k t209 _ _ t210 t214 t215 t216 t217 t218 t221 _ ?side1 ?side2 A15.out).mono ?_
               (case side1 => repeat (first | exact (Kd.R_reads' HO212.out).2.2 | (with_reducible refine Kd.C_alloc ?_ _) | (with_reducible refine Kd.C_drewN ?_ _) | (with_reducible refine Kd.C_drew ?_)))
               (case side2 => exact (Kd.R_reads' HO212.out).2.1)
               rintro e w67 ⟨v219, rfl, ho0, hb⟩
               refine ⟨_, rfl, ?_⟩
               have n0_ := Aside0.mk (Kd.R_elder' (by (with_reducible repeat (first | apply Kd.R_alloc | apply Kd.R_drewN | apply Kd.R_drew)); exact HO199.out) (Kd.R_base ho0) hb)
               have n1_ := Aside0.mk (Kd.R_elder' (by (with_reducible repeat (first | apply Kd.R_alloc | apply Kd.R_drewN | apply Kd.R_drew)); exact HO206.out) (Kd.R_base ho0) hb)
               have n2_ := Aside0.mk (Kd.R_elder' (by (with_reducible repeat (first | apply Kd.R_alloc | apply Kd.R_drewN | apply Kd.R_drew)); exact HO212.out) (Kd.R_base ho0) hb)
               have n3_ := Aside0.mk (Kd.R_lower (Kd.R_new' (Kd.R_new' (Kd.R_new' ho0 (Kd.R_lt (by (with_reducible repeat (first | apply Kd.R_alloc | apply Kd.R_drewN | apply Kd.R_drew)); exact HO199.out))) (Kd.R_lt (by (with_reducible repeat (first | apply Kd.R_alloc | apply Kd.R_drewN | apply Kd.R_drew)); exact HO206.out))) (Kd.R_lt (by (with_reducible repeat (first | apply Kd.R_alloc | apply Kd.R_drewN | apply Kd.R_drew)); exact HO212.out))) (below_size (by repeat (first | (with_reducible first | exact HB.out | apply below_alloc | apply pw_below_drewN | apply below_drew1 | refine below_set ?_ GE193.out | refine below_set ?_ GE194.out | refine below_set ?_ GE208.out | refine below_set ?_ GE213.out) | exact HB.out))))
               have n4_ := Aside0.mk (blk_below (g := gb193) (o := .cells #[.int .i64 a0_0, .slice A0_1 l0_1.length c0_1] 30 (0, 0)) (by (with_reducible repeat (first | refine blk_drewN ?_ _ | refine blk_drew ?_ | refine blk_alloc ?_ _)); exact BK193.out) hb)
               have n5_ := Aside0.mk (blk_below (g := gb194) (o := .cells #[.int .i64 a1_0, .int .i64 a1_1, .int .i64 a1_2] 23 (0, 0)) (by (with_reducible repeat (first | refine blk_drewN ?_ _ | refine blk_drew ?_ | refine blk_alloc ?_ _)); exact BK194.out) hb)
               have n6_ := Aside0.mk (blk_below (g := gb208) (o := .cells #[.int .i64 t203, v205] 35 (0, 0)) (by (with_reducible repeat (first | refine blk_drewN ?_ _ | refine blk_drew ?_ | refine blk_alloc ?_ _)); exact BK208.out) hb)
               have n7_ := Aside0.mk (blk_below (g := gb213) (o := .cells #[.int .i64 t209, .slice Ao62 t210.length co62] 35 (0, 0)) (by (with_reducible repeat (first | refine blk_drewN ?_ _ | refine blk_drew ?_ | refine blk_alloc ?_ _)); exact BK213.out) hb)
               have n8_ := Aside0.mk (below_step (by repeat (first | (with_reducible first | exact HB.out | apply below_alloc | apply pw_below_drewN | apply below_drew1 | refine below_set ?_ GE193.out | refine below_set ?_ GE194.out | refine below_set ?_ GE208.out | refine below_set ?_ GE213.out) | exact HB.out)) hb)
               have z_BK222 := fun (h0_ : b 7 = true) (h1_ : b 8 = false) => (show w67.heap[gb222]? = some (.cells #[.int .i64 0, .slice none 0 0] 35 (0, 0)) from by first | exact (blk_below (g := gb222) (o := .cells #[.int .i64 0, .slice none 0 0] 35 (0, 0)) (by (with_reducible repeat (first | refine blk_drewN ?_ _ | refine blk_drew ?_ | refine blk_alloc ?_ _)); exact (Q_BK222 h0_ h1_)) hb))
               clear HO199
               clear HO206
               clear HO212
               clear BK193
               clear BK194
               clear BK208
               clear BK213
               clear HB
               have HO199 := n0_
               have HO206 := n1_
               have HO212 := n2_
               have HO220 := n3_
               have BK193 := n4_
               have BK194 := n5_
               have BK208 := n6_
               have BK213 := n7_
               have HB := n8_
               clear n0_ n1_ n2_ n3_ n4_ n5_ n6_ n7_ n8_
               (try clear hb)
               (try clear hb2)
               (try clear hk)
               (try clear hi)
               (try clear ho0)
               refine hK.out _ _ ⟨v219, gb222, (.tuple #[.agg #[.int .i64 t217, v219], .bool t221]), m4_, m5_, m7_, (by rw [ha.out]; exact putSel_upk 3 hb_ rfl rfl rfl), (by (with_reducible repeat (first | apply Kd.R_alloc | apply Kd.R_drewN | apply Kd.R_drew)); exact Kd.R_mono HO199.out (by first | exact fun _ hk => ⟨hk.1.1, ⟨hk.1.2, hk.2⟩⟩ | grind)), (by (with_reducible repeat (first | apply Kd.R_alloc | apply Kd.R_drewN | apply Kd.R_drew)); exact Kd.R_mono HO206.out (by first | exact fun _ hk => ⟨hk.1.1, ⟨hk.1.2, hk.2⟩⟩ | grind)), (by (with_reducible repeat (first | apply Kd.R_alloc | apply Kd.R_drewN | apply Kd.R_drew)); exact Kd.R_mono HO212.out (by first | exact fun _ hk => ⟨hk.1.1, ⟨hk.1.2, hk.2⟩⟩ | grind)), (by (with_reducible repeat (first | refine blk_drewN ?_ _ | refine blk_drew ?_ | refine blk_alloc ?_ _)); exact BK193.out), (by (with_reducible repeat (first | refine blk_drewN ?_ _ | refine blk_drew ?_ | refine blk_alloc ?_ _)); exact BK194.out), (by (with_reducible repeat (first | refine blk_drewN ?_ _ | refine blk_drew ?_ | refine blk_alloc ?_ _)); exact BK208.out), (by (with_reducible repeat (first | refine blk_drewN ?_ _ | refine blk_drew ?_ | refine blk_alloc ?_ _)); exact BK213.out), (by repeat (first | (with_reducible first | exact HB.out | apply below_alloc | apply pw_below_drewN | apply below_drew1 | refine below_set ?_ GE193.out | refine below_set ?_ GE194.out | refine below_set ?_ GE208.out | refine below_set ?_ GE213.out) | exact HB.out)), fun _ => (by (with_reducible repeat (first | apply Kd.R_alloc | apply Kd.R_drewN | apply Kd.R_drew)); exact Kd.R_mono HO220.out (by first | exact fun _ hk => ⟨hk.1.1.2, ⟨hk.1.2, hk.2⟩⟩ | grind)), z_BK222, Q_GW222, Q_GE222, Q_NB193_222, Q_NB222_193, Q_NB194_222, Q_NB222_194, Q_NB208_222, Q_NB222_208, Q_NB213_222, Q_NB222_213, fun h0_ => absurd ((hoff 8 (by kernel_rfl)).symm.trans h0_) (by decide), fun _ => rfl, fun h0_ => absurd ((hoff 4 (by kernel_rfl)).symm.trans h0_) (by decide), fun h0_ => absurd ((hoff 5 (by kernel_rfl)).symm.trans h0_) (by decide), Q_X7_⟩
              refine steps_cons ?_ ?_
              ·rintro b a w' ⟨v219, gb222, m3_, m4_, m5_, m7_, ha, Q_HO199, Q_HO206, Q_HO212, Q_BK193, Q_BK194, Q_BK208, Q_BK213, Q_HB, Q_HO220, Q_BK222, Q_GW222, Q_GE222, Q_NB193_222, Q_NB222_193, Q_NB194_222, Q_NB222_194, Q_NB208_222, Q_NB222_208, Q_NB213_222, Q_NB222_213, Q_BK222_e8, Q_X3_, Q_X4_, Q_X5_, Q_X7_⟩ hb_ hon hoff
               refine ⟨_, rfl, fun K hK => ?_⟩
               have e35 : a.tmps[35]? = some (m3_) := by rw [ha]; exact putSel_on (e := (3, 35, m3_)) 3 rfl rfl (hon 3 (by kernel_rfl)) rfl
               rw [Q_X3_ (hon 3 (by kernel_rfl))] at e35
               replace ha := Aside0.mk ha
               have HO199 := Aside0.mk Q_HO199
               have HO206 := Aside0.mk Q_HO206
               have HO212 := Aside0.mk Q_HO212
               have BK193 := Aside0.mk Q_BK193
               have BK194 := Aside0.mk Q_BK194
               have BK208 := Aside0.mk Q_BK208
               have BK213 := Aside0.mk Q_BK213
               have HB := Aside0.mk Q_HB
               have HO220 := Aside0.mk (Q_HO220 (hon 3 (by kernel_rfl)))
               refine value_ (w1 := w') (v := .tuple #[.agg #[.int .i64 t217, v219], .bool t221]) (by rfl) rfl ?_ ?_
               ·go_simp
                (try simp only [i64_w])
                try rfl
               refine hK.out _ _ ⟨v219, gb222, m3_, (.tuple #[.agg #[.int .i64 t217, v219], .bool t221]), m5_, m7_, (by rw [ha.out]; exact putSel_upk 4 hb_ rfl rfl rfl), Q_HO199, Q_HO206, Q_HO212, Q_BK193, Q_BK194, Q_BK208, Q_BK213, Q_HB, Q_HO220, Q_BK222, Q_GW222, Q_GE222, Q_NB193_222, Q_NB222_193, Q_NB194_222, Q_NB222_194, Q_NB208_222, Q_NB222_208, Q_NB213_222, Q_NB222_213, fun h0_ => absurd ((hoff 8 (by kernel_rfl)).symm.trans h0_) (by decide), Q_X3_, fun _ => rfl, fun h0_ => absurd ((hoff 5 (by kernel_rfl)).symm.trans h0_) (by decide), Q_X7_⟩
              refine steps_cons ?_ ?_
              ·rintro b a w' ⟨v219, gb222, m3_, m4_, m5_, m7_, ha, Q_HO199, Q_HO206, Q_HO212, Q_BK193, Q_BK194, Q_BK208, Q_BK213, Q_HB, Q_HO220, Q_BK222, Q_GW222, Q_GE222, Q_NB193_222, Q_NB222_193, Q_NB194_222, Q_NB222_194, Q_NB208_222, Q_NB222_208, Q_NB213_222, Q_NB222_213, Q_BK222_e8, Q_X3_, Q_X4_, Q_X5_, Q_X7_⟩ hb_ hon hoff
               refine ⟨_, rfl, fun K hK => ?_⟩
               have e31 : a.tmps[31]? = some (m4_) := by rw [ha]; exact putSel_on (e := (4, 31, m4_)) 4 rfl rfl (hon 4 (by kernel_rfl)) rfl
               rw [Q_X4_ (hon 4 (by kernel_rfl))] at e31
               replace ha := Aside0.mk ha
               have HO199 := Aside0.mk Q_HO199
               have HO206 := Aside0.mk Q_HO206
               have HO212 := Aside0.mk Q_HO212
               have BK193 := Aside0.mk Q_BK193
               have BK194 := Aside0.mk Q_BK194
               have BK208 := Aside0.mk Q_BK208
               have BK213 := Aside0.mk Q_BK213
               have HB := Aside0.mk Q_HB
               have HO220 := Aside0.mk (Q_HO220 (hon 3 (by kernel_rfl)))
               refine value_ (w1 := w') (v := .agg #[.int .i64 t217, v219]) (by rfl) rfl ?_ ?_
               ·go_simp
                (try simp only [i64_w])
                try rfl
               refine hK.out _ _ ⟨v219, gb222, m3_, m4_, (.agg #[.int .i64 t217, v219]), m7_, (by rw [ha.out]; exact putSel_upk 5 hb_ rfl rfl rfl), Q_HO199, Q_HO206, Q_HO212, Q_BK193, Q_BK194, Q_BK208, Q_BK213, Q_HB, Q_HO220, Q_BK222, Q_GW222, Q_GE222, Q_NB193_222, Q_NB222_193, Q_NB194_222, Q_NB222_194, Q_NB208_222, Q_NB222_208, Q_NB213_222, Q_NB222_213, fun h0_ => absurd ((hoff 8 (by kernel_rfl)).symm.trans h0_) (by decide), Q_X3_, Q_X4_, fun _ => rfl, Q_X7_⟩
              refine steps_cons ?_ ?_
              ·rintro b a w' ⟨v219, gb222, m3_, m4_, m5_, m7_, ha, Q_HO199, Q_HO206, Q_HO212, Q_BK193, Q_BK194, Q_BK208, Q_BK213, Q_HB, Q_HO220, Q_BK222, Q_GW222, Q_GE222, Q_NB193_222, Q_NB222_193, Q_NB194_222, Q_NB222_194, Q_NB208_222, Q_NB222_208, Q_NB213_222, Q_NB222_213, Q_BK222_e8, Q_X3_, Q_X4_, Q_X5_, Q_X7_⟩ hb_ hon hoff
               refine ⟨_, rfl, fun K hK => ?_⟩
               have e31 : a.tmps[31]? = some (m4_) := by rw [ha]; exact putSel_on (e := (4, 31, m4_)) 4 rfl rfl (hon 4 (by kernel_rfl)) rfl
               rw [Q_X4_ (hon 4 (by kernel_rfl))] at e31
               replace ha := Aside0.mk ha
               have HO199 := Aside0.mk Q_HO199
               have HO206 := Aside0.mk Q_HO206
               have HO212 := Aside0.mk Q_HO212
               have BK193 := Aside0.mk Q_BK193
               have BK194 := Aside0.mk Q_BK194
               have BK208 := Aside0.mk Q_BK208
               have BK213 := Aside0.mk Q_BK213
               have HB := Aside0.mk Q_HB
               have HO220 := Aside0.mk (Q_HO220 (hon 3 (by kernel_rfl)))
               refine value_ (w1 := w') (v := .bool t221) (by rfl) rfl ?_ ?_
               ·go_simp
                (try simp only [i64_w])
                try rfl
               refine hK.out _ _ ⟨v219, gb222, m3_, m4_, m5_, m7_, (by rw [ha.out]; exact putSel_upk 6 hb_ rfl rfl rfl), Q_HO199, Q_HO206, Q_HO212, Q_BK193, Q_BK194, Q_BK208, Q_BK213, Q_HB, Q_HO220, Q_BK222, Q_GW222, Q_GE222, Q_NB193_222, Q_NB222_193, Q_NB194_222, Q_NB222_194, Q_NB208_222, Q_NB222_208, Q_NB213_222, Q_NB222_213, Q_BK222_e8, Q_X3_, Q_X4_, Q_X5_, Q_X7_⟩
              refine steps_cons ?_ ?_
              ·rintro b a w' ⟨v219, gb222, m3_, m4_, m5_, m7_, ha, Q_HO199, Q_HO206, Q_HO212, Q_BK193, Q_BK194, Q_BK208, Q_BK213, Q_HB, Q_HO220, Q_BK222, Q_GW222, Q_GE222, Q_NB193_222, Q_NB222_193, Q_NB194_222, Q_NB222_194, Q_NB208_222, Q_NB222_208, Q_NB213_222, Q_NB222_213, Q_BK222_e8, Q_X3_, Q_X4_, Q_X5_, Q_X7_⟩ hb_ hon hoff
               refine ⟨_, rfl, fun K hK => ?_⟩
               replace ha := Aside0.mk ha
               have HO199 := Aside0.mk Q_HO199
               have HO206 := Aside0.mk Q_HO206
               have HO212 := Aside0.mk Q_HO212
               have BK193 := Aside0.mk Q_BK193
               have BK194 := Aside0.mk Q_BK194
               have BK208 := Aside0.mk Q_BK208
               have BK213 := Aside0.mk Q_BK213
               have HB := Aside0.mk Q_HB
               refine box_step ?hg (N := 9) ?hd (cs := #[.int .i64 0, .slice none 0 0]) (t := 35) ?hr ?_; (case hd => rfl); (case hg => rfl); (case hr => first | (go_simp; done) | (go_simp; rfl))
               intro gb222 hg w65 hbox hb
               have n0_ := Aside0.mk (Kd.R_below (by (with_reducible repeat (first | apply Kd.R_alloc | apply Kd.R_drewN | apply Kd.R_drew)); exact HO199.out) hb)
               have n1_ := Aside0.mk (Kd.R_below (by (with_reducible repeat (first | apply Kd.R_alloc | apply Kd.R_drewN | apply Kd.R_drew)); exact HO206.out) hb)
               have n2_ := Aside0.mk (Kd.R_below (by (with_reducible repeat (first | apply Kd.R_alloc | apply Kd.R_drewN | apply Kd.R_drew)); exact HO212.out) hb)
               have n3_ := Aside0.mk (blk_below (g := gb193) (o := .cells #[.int .i64 a0_0, .slice A0_1 l0_1.length c0_1] 30 (0, 0)) (by (with_reducible repeat (first | refine blk_drewN ?_ _ | refine blk_drew ?_ | refine blk_alloc ?_ _)); exact BK193.out) hb)
               have n4_ := Aside0.mk (blk_below (g := gb194) (o := .cells #[.int .i64 a1_0, .int .i64 a1_1, .int .i64 a1_2] 23 (0, 0)) (by (with_reducible repeat (first | refine blk_drewN ?_ _ | refine blk_drew ?_ | refine blk_alloc ?_ _)); exact BK194.out) hb)
               have n5_ := Aside0.mk (blk_below (g := gb208) (o := .cells #[.int .i64 t203, v205] 35 (0, 0)) (by (with_reducible repeat (first | refine blk_drewN ?_ _ | refine blk_drew ?_ | refine blk_alloc ?_ _)); exact BK208.out) hb)
               have n6_ := Aside0.mk (blk_below (g := gb213) (o := .cells #[.int .i64 t209, .slice Ao62 t210.length co62] 35 (0, 0)) (by (with_reducible repeat (first | refine blk_drewN ?_ _ | refine blk_drew ?_ | refine blk_alloc ?_ _)); exact BK213.out) hb)
               have n7_ := Aside0.mk (below_step (by repeat (first | (with_reducible first | exact HB.out | apply below_alloc | apply pw_below_drewN | apply below_drew1 | refine below_set ?_ GE193.out | refine below_set ?_ GE194.out | refine below_set ?_ GE208.out | refine below_set ?_ GE213.out) | exact HB.out)) hb)
               have n8_ := Aside0.mk (hbox)
               have n9_ := Aside0.mk ((by rw [hg]; exact (below_size (by repeat (first | (with_reducible first | exact HB.out | apply below_alloc | apply pw_below_drewN | apply below_drew1 | refine below_set ?_ GE193.out | refine below_set ?_ GE194.out | refine below_set ?_ GE208.out | refine below_set ?_ GE213.out) | exact HB.out))) : w.heap.size ≤ gb222))
               have n10_ := Aside0.mk ((by rw [hg]; exact (below_size (by repeat (first | (with_reducible first | exact HB.out | apply below_alloc | apply pw_below_drewN | apply below_drew1 | refine below_set ?_ GE193.out | refine below_set ?_ GE194.out | refine below_set ?_ GE208.out | refine below_set ?_ GE213.out) | exact HB.out))) : w.heap.size ≤ gb222))
               have n11_ := Aside0.mk ((by rw [hg]; exact Nat.ne_of_lt (blk_lt (g := gb193) (o := .cells #[.int .i64 a0_0, .slice A0_1 l0_1.length c0_1] 30 (0, 0)) (by (with_reducible repeat (first | refine blk_drewN ?_ _ | refine blk_drew ?_ | refine blk_alloc ?_ _)); exact BK193.out)) : gb193 ≠ gb222))
               have n12_ := Aside0.mk ((by rw [hg]; exact Nat.ne_of_gt (blk_lt (g := gb193) (o := .cells #[.int .i64 a0_0, .slice A0_1 l0_1.length c0_1] 30 (0, 0)) (by (with_reducible repeat (first | refine blk_drewN ?_ _ | refine blk_drew ?_ | refine blk_alloc ?_ _)); exact BK193.out)) : gb222 ≠ gb193))
               have n13_ := Aside0.mk ((by rw [hg]; exact Nat.ne_of_lt (blk_lt (g := gb194) (o := .cells #[.int .i64 a1_0, .int .i64 a1_1, .int .i64 a1_2] 23 (0, 0)) (by (with_reducible repeat (first | refine blk_drewN ?_ _ | refine blk_drew ?_ | refine blk_alloc ?_ _)); exact BK194.out)) : gb194 ≠ gb222))
               have n14_ := Aside0.mk ((by rw [hg]; exact Nat.ne_of_gt (blk_lt (g := gb194) (o := .cells #[.int .i64 a1_0, .int .i64 a1_1, .int .i64 a1_2] 23 (0, 0)) (by (with_reducible repeat (first | refine blk_drewN ?_ _ | refine blk_drew ?_ | refine blk_alloc ?_ _)); exact BK194.out)) : gb222 ≠ gb194))
               have n15_ := Aside0.mk ((by rw [hg]; exact Nat.ne_of_lt (blk_lt (g := gb208) (o := .cells #[.int .i64 t203, v205] 35 (0, 0)) (by (with_reducible repeat (first | refine blk_drewN ?_ _ | refine blk_drew ?_ | refine blk_alloc ?_ _)); exact BK208.out)) : gb208 ≠ gb222))
               have n16_ := Aside0.mk ((by rw [hg]; exact Nat.ne_of_gt (blk_lt (g := gb208) (o := .cells #[.int .i64 t203, v205] 35 (0, 0)) (by (with_reducible repeat (first | refine blk_drewN ?_ _ | refine blk_drew ?_ | refine blk_alloc ?_ _)); exact BK208.out)) : gb222 ≠ gb208))
               have n17_ := Aside0.mk ((by rw [hg]; exact Nat.ne_of_lt (blk_lt (g := gb213) (o := .cells #[.int .i64 t209, .slice Ao62 t210.length co62] 35 (0, 0)) (by (with_reducible repeat (first | refine blk_drewN ?_ _ | refine blk_drew ?_ | refine blk_alloc ?_ _)); exact BK213.out)) : gb213 ≠ gb222))
               have n18_ := Aside0.mk ((by rw [hg]; exact Nat.ne_of_gt (blk_lt (g := gb213) (o := .cells #[.int .i64 t209, .slice Ao62 t210.length co62] 35 (0, 0)) (by (with_reducible repeat (first | refine blk_drewN ?_ _ | refine blk_drew ?_ | refine blk_alloc ?_ _)); exact BK213.out)) : gb222 ≠ gb213))
               have z_HO220 := fun (h0_ : b 3 = true) => (show Kd.R k25 25 w65 w.heap.size (fun k_ => some k_ ≠ (v198 : Value).ownBlock ∧ some k_ ≠ (v205 : Value).ownBlock ∧ some k_ ≠ (.slice Ao62 t210.length co62 : Value).ownBlock) v219 t218 from by first | exact (Kd.R_below (by (with_reducible repeat (first | apply Kd.R_alloc | apply Kd.R_drewN | apply Kd.R_drew)); exact (Q_HO220 h0_)) hb) | exact Kd.R_mono (Kd.R_below (by (with_reducible repeat (first | apply Kd.R_alloc | apply Kd.R_drewN | apply Kd.R_drew)); exact (Q_HO220 h0_)) hb) (fun _ h_ => by first | trivial | exact h_ | exact h_.1))
               clear HO199
               clear HO206
               clear HO212
               clear BK193
               clear BK194
               clear BK208
               clear BK213
               clear HB
               have HO199 := n0_
               have HO206 := n1_
               have HO212 := n2_
               have BK193 := n3_
               have BK194 := n4_
               have BK208 := n5_
               have BK213 := n6_
               have HB := n7_
               have BK222 := n8_
               have GW222 := n9_
               have GE222 := n10_
               have NB193_222 := n11_
               have NB222_193 := n12_
               have NB194_222 := n13_
               have NB222_194 := n14_
               have NB208_222 := n15_
               have NB222_208 := n16_
               have NB213_222 := n17_
               have NB222_213 := n18_
               clear n0_ n1_ n2_ n3_ n4_ n5_ n6_ n7_ n8_ n9_ n10_ n11_ n12_ n13_ n14_ n15_ n16_ n17_ n18_
               clear hb hbox hg
               refine hK.out _ _ ⟨v219, gb222, m3_, m4_, m5_, (.pointer (some ⟨gb222, 0, none⟩)), (by rw [ha.out]; exact putSel_upk 7 hb_ rfl rfl rfl), (by (with_reducible repeat (first | apply Kd.R_alloc | apply Kd.R_drewN | apply Kd.R_drew)); exact HO199.out), (by (with_reducible repeat (first | apply Kd.R_alloc | apply Kd.R_drewN | apply Kd.R_drew)); exact HO206.out), (by (with_reducible repeat (first | apply Kd.R_alloc | apply Kd.R_drewN | apply Kd.R_drew)); exact HO212.out), (by (with_reducible repeat (first | refine blk_drewN ?_ _ | refine blk_drew ?_ | refine blk_alloc ?_ _)); exact BK193.out), (by (with_reducible repeat (first | refine blk_drewN ?_ _ | refine blk_drew ?_ | refine blk_alloc ?_ _)); exact BK194.out), (by (with_reducible repeat (first | refine blk_drewN ?_ _ | refine blk_drew ?_ | refine blk_alloc ?_ _)); exact BK208.out), (by (with_reducible repeat (first | refine blk_drewN ?_ _ | refine blk_drew ?_ | refine blk_alloc ?_ _)); exact BK213.out), (by repeat (first | (with_reducible first | exact HB.out | apply below_alloc | apply pw_below_drewN | apply below_drew1 | refine below_set ?_ GE193.out | refine below_set ?_ GE194.out | refine below_set ?_ GE208.out | refine below_set ?_ GE213.out | refine below_set ?_ GE222.out) | exact HB.out)), z_HO220, fun _ _ => (by (with_reducible repeat (first | refine blk_drewN ?_ _ | refine blk_drew ?_ | refine blk_alloc ?_ _)); exact BK222.out), fun _ => GW222.out, fun _ => GE222.out, fun _ => NB193_222.out, fun _ => NB222_193.out, fun _ => NB194_222.out, fun _ => NB222_194.out, fun _ => NB208_222.out, fun _ => NB222_208.out, fun _ => NB213_222.out, fun _ => NB222_213.out, fun h0_ => absurd ((hoff 8 (by kernel_rfl)).symm.trans h0_) (by decide), Q_X3_, Q_X4_, Q_X5_, fun _ => rfl⟩
              refine steps_cons ?_ ?_
              ·rintro b a w' ⟨v219, gb222, m3_, m4_, m5_, m7_, ha, Q_HO199, Q_HO206, Q_HO212, Q_BK193, Q_BK194, Q_BK208, Q_BK213, Q_HB, Q_HO220, Q_BK222, Q_GW222, Q_GE222, Q_NB193_222, Q_NB222_193, Q_NB194_222, Q_NB222_194, Q_NB208_222, Q_NB222_208, Q_NB213_222, Q_NB222_213, Q_BK222_e8, Q_X3_, Q_X4_, Q_X5_, Q_X7_⟩ hb_ hon hoff
               refine ⟨_, rfl, fun K hK => ?_⟩
               have e9 : a.tmps[9]? = some (m7_) := by rw [ha]; exact putSel_on (e := (7, 9, m7_)) 7 rfl rfl (hon 7 (by kernel_rfl)) rfl
               rw [Q_X7_ (hon 7 (by kernel_rfl))] at e9
               have e36 : a.tmps[36]? = some (m5_) := by rw [ha]; exact putSel_on (e := (5, 36, m5_)) 5 rfl rfl (hon 5 (by kernel_rfl)) rfl
               rw [Q_X5_ (hon 5 (by kernel_rfl))] at e36
               replace ha := Aside0.mk ha
               have HO199 := Aside0.mk Q_HO199
               have HO206 := Aside0.mk Q_HO206
               have HO212 := Aside0.mk Q_HO212
               have BK193 := Aside0.mk Q_BK193
               have BK194 := Aside0.mk Q_BK194
               have BK208 := Aside0.mk Q_BK208
               have BK213 := Aside0.mk Q_BK213
               have HB := Aside0.mk Q_HB
               have HO220 := Aside0.mk (Q_HO220 (hon 3 (by kernel_rfl)))
               have BK222 := Aside0.mk (Q_BK222 (hon 7 (by kernel_rfl)) hb_)
               have GW222 := Aside0.mk (Q_GW222 (hon 7 (by kernel_rfl)))
               have GE222 := Aside0.mk (Q_GE222 (hon 7 (by kernel_rfl)))
               have NB193_222 := Aside0.mk (Q_NB193_222 (hon 7 (by kernel_rfl)))
               have NB222_193 := Aside0.mk (Q_NB222_193 (hon 7 (by kernel_rfl)))
               have NB194_222 := Aside0.mk (Q_NB194_222 (hon 7 (by kernel_rfl)))
               have NB222_194 := Aside0.mk (Q_NB222_194 (hon 7 (by kernel_rfl)))
               have NB208_222 := Aside0.mk (Q_NB208_222 (hon 7 (by kernel_rfl)))
               have NB222_208 := Aside0.mk (Q_NB222_208 (hon 7 (by kernel_rfl)))
               have NB213_222 := Aside0.mk (Q_NB213_222 (hon 7 (by kernel_rfl)))
               have NB222_213 := Aside0.mk (Q_NB222_213 (hon 7 (by kernel_rfl)))
               obtain ⟨Ao70, co70, eo70⟩ := Kd.R_slice HO220.out
               (first | subst eo70 | (injection eo70 with f1_ f2_ f3_; have f4_ := f1_.symm; have f5_ := f3_.symm; clear f1_ f2_ f3_; subst f4_; subst f5_))
               have hs69 : w'.cell? ⟨gb222, 0, none⟩ = some (.int .i64 0) := (blk_cell BK222.out 0).trans rfl
               have hfs69 := blk_frozen BK222.out 0
               have hns69_0 := NB193_222.out
               have hns69_1 := NB194_222.out
               have hns69_2 := NB208_222.out
               have hns69_3 := NB213_222.out
               have hms69_0 := NB222_193.out
               have hms69_1 := NB222_194.out
               have hms69_2 := NB222_208.out
               have hms69_3 := NB222_213.out
               have hs71 : w'.cell? ⟨gb222, 1, none⟩ = some (.slice none 0 0) := (blk_cell BK222.out 1).trans rfl
               have hfs71 := blk_frozen BK222.out 1
               have hns71_0 := NB193_222.out
               have hns71_1 := NB194_222.out
               have hns71_2 := NB208_222.out
               have hns71_3 := NB213_222.out
               have hms71_0 := NB222_193.out
               have hms71_1 := NB222_194.out
               have hms71_2 := NB222_208.out
               have hms71_3 := NB222_213.out
               refine skip_ (w1 := ?_) (by rfl) rfl ?_ ?_
               rotate_left
               ·go_simp
                rfl
               refine hK.out _ _ ⟨.slice Ao70 t218.length co70, gb222, m3_, m4_, m5_, m7_, (by rw [ha.out]; exact putSel_none (v := undef) rfl), (by (with_reducible repeat (first | apply Kd.R_alloc | apply Kd.R_drewN | apply Kd.R_drew)); exact Kd.R_mono (Kd.R_far (p := ⟨gb222, 1, none⟩) (Kd.R_far (p := ⟨gb222, 0, none⟩) (Kd.R_types HO199.out BK222.out (by decide)) (by first | exact fun _ hk => hk.2 | grind) (.int .i64 t217)) (by first | exact fun _ hk => hk.2 | grind) (.slice Ao70 t218.length co70)) (by first | exact fun _ hk => ⟨hk.1.1, ⟨hk.1.2.1, hk.1.2.2⟩⟩ | grind)), (by (with_reducible repeat (first | apply Kd.R_alloc | apply Kd.R_drewN | apply Kd.R_drew)); exact Kd.R_mono (Kd.R_far (p := ⟨gb222, 1, none⟩) (Kd.R_far (p := ⟨gb222, 0, none⟩) (Kd.R_types HO206.out BK222.out (by decide)) (by first | exact fun _ hk => hk.2 | grind) (.int .i64 t217)) (by first | exact fun _ hk => hk.2 | grind) (.slice Ao70 t218.length co70)) (by first | exact fun _ hk => ⟨hk.1.1, ⟨hk.1.2.1, hk.1.2.2⟩⟩ | grind)), (by (with_reducible repeat (first | apply Kd.R_alloc | apply Kd.R_drewN | apply Kd.R_drew)); exact Kd.R_mono (Kd.R_far (p := ⟨gb222, 1, none⟩) (Kd.R_far (p := ⟨gb222, 0, none⟩) (Kd.R_types HO212.out BK222.out (by decide)) (by first | exact fun _ hk => hk.2 | grind) (.int .i64 t217)) (by first | exact fun _ hk => hk.2 | grind) (.slice Ao70 t218.length co70)) (by first | exact fun _ hk => ⟨hk.1.1, ⟨hk.1.2.1, hk.1.2.2⟩⟩ | grind)), (by (with_reducible repeat (first | refine blk_drewN ?_ _ | refine blk_drew ?_ | refine blk_alloc ?_ _)); refine blk_far ?_ NB193_222.out _; (with_reducible repeat (first | refine blk_drewN ?_ _ | refine blk_drew ?_ | refine blk_alloc ?_ _)); refine blk_far ?_ NB193_222.out _; (with_reducible repeat (first | refine blk_drewN ?_ _ | refine blk_drew ?_ | refine blk_alloc ?_ _)); exact BK193.out), (by (with_reducible repeat (first | refine blk_drewN ?_ _ | refine blk_drew ?_ | refine blk_alloc ?_ _)); refine blk_far ?_ NB194_222.out _; (with_reducible repeat (first | refine blk_drewN ?_ _ | refine blk_drew ?_ | refine blk_alloc ?_ _)); refine blk_far ?_ NB194_222.out _; (with_reducible repeat (first | refine blk_drewN ?_ _ | refine blk_drew ?_ | refine blk_alloc ?_ _)); exact BK194.out), (by (with_reducible repeat (first | refine blk_drewN ?_ _ | refine blk_drew ?_ | refine blk_alloc ?_ _)); refine blk_far ?_ NB208_222.out _; (with_reducible repeat (first | refine blk_drewN ?_ _ | refine blk_drew ?_ | refine blk_alloc ?_ _)); refine blk_far ?_ NB208_222.out _; (with_reducible repeat (first | refine blk_drewN ?_ _ | refine blk_drew ?_ | refine blk_alloc ?_ _)); exact BK208.out), (by (with_reducible repeat (first | refine blk_drewN ?_ _ | refine blk_drew ?_ | refine blk_alloc ?_ _)); refine blk_far ?_ NB213_222.out _; (with_reducible repeat (first | refine blk_drewN ?_ _ | refine blk_drew ?_ | refine blk_alloc ?_ _)); refine blk_far ?_ NB213_222.out _; (with_reducible repeat (first | refine blk_drewN ?_ _ | refine blk_drew ?_ | refine blk_alloc ?_ _)); exact BK213.out), (by repeat (first | (with_reducible first | exact HB.out | apply below_alloc | apply pw_below_drewN | apply below_drew1 | refine below_set ?_ GE193.out | refine below_set ?_ GE194.out | refine below_set ?_ GE208.out | refine below_set ?_ GE213.out | refine below_set ?_ GE222.out) | exact HB.out)), fun _ => (by (with_reducible repeat (first | apply Kd.R_alloc | apply Kd.R_drewN | apply Kd.R_drew)); exact Kd.R_mono (Kd.R_far (p := ⟨gb222, 1, none⟩) (Kd.R_far (p := ⟨gb222, 0, none⟩) (Kd.R_types HO220.out BK222.out (by decide)) (by first | exact fun _ hk => hk.2 | grind) (.int .i64 t217)) (by first | exact fun _ hk => hk.2 | grind) (.slice Ao70 t218.length co70)) (by first | exact fun _ hk => ⟨hk.1.1, ⟨hk.1.2.1, hk.1.2.2⟩⟩ | grind)), fun _ h1_ => absurd ((up_self b 8).symm.trans h1_) (by decide), fun _ => GW222.out, fun _ => GE222.out, fun _ => NB193_222.out, fun _ => NB222_193.out, fun _ => NB194_222.out, fun _ => NB222_194.out, fun _ => NB208_222.out, fun _ => NB222_208.out, fun _ => NB213_222.out, fun _ => NB222_213.out, fun _ => (by (with_reducible repeat (first | refine blk_drewN ?_ _ | refine blk_drew ?_ | refine blk_alloc ?_ _)); refine blk_put (cs := #[.int .i64 t217, .slice none 0 0]) ?_ 1 _ rfl; (with_reducible repeat (first | refine blk_drewN ?_ _ | refine blk_drew ?_ | refine blk_alloc ?_ _)); refine blk_put (cs := #[.int .i64 0, .slice none 0 0]) ?_ 0 _ rfl; (with_reducible repeat (first | refine blk_drewN ?_ _ | refine blk_drew ?_ | refine blk_alloc ?_ _)); exact BK222.out), Q_X3_, Q_X4_, Q_X5_, Q_X7_⟩
              refine steps_cons ?_ ?_
              ·rintro b a w' ⟨v219, gb222, m3_, m4_, m5_, m7_, ha, Q_HO199, Q_HO206, Q_HO212, Q_BK193, Q_BK194, Q_BK208, Q_BK213, Q_HB, Q_HO220, Q_BK222, Q_GW222, Q_GE222, Q_NB193_222, Q_NB222_193, Q_NB194_222, Q_NB222_194, Q_NB208_222, Q_NB222_208, Q_NB213_222, Q_NB222_213, Q_BK222_e8, Q_X3_, Q_X4_, Q_X5_, Q_X7_⟩ hb_ hon hoff
               refine ⟨_, rfl, fun K hK => ?_⟩
               have e37 : a.tmps[37]? = some (.bool t221) := by rw [ha]; exact putSel_on (e := (6, 37, .bool t221)) 6 rfl rfl (hon 6 (by kernel_rfl)) rfl
               replace ha := Aside0.mk ha
               have HO199 := Aside0.mk Q_HO199
               have HO206 := Aside0.mk Q_HO206
               have HO212 := Aside0.mk Q_HO212
               have BK193 := Aside0.mk Q_BK193
               have BK194 := Aside0.mk Q_BK194
               have BK208 := Aside0.mk Q_BK208
               have BK213 := Aside0.mk Q_BK213
               have HB := Aside0.mk Q_HB
               have HO220 := Aside0.mk (Q_HO220 (hon 3 (by kernel_rfl)))
               have GW222 := Aside0.mk (Q_GW222 (hon 7 (by kernel_rfl)))
               have GE222 := Aside0.mk (Q_GE222 (hon 7 (by kernel_rfl)))
               have NB193_222 := Aside0.mk (Q_NB193_222 (hon 7 (by kernel_rfl)))
               have NB222_193 := Aside0.mk (Q_NB222_193 (hon 7 (by kernel_rfl)))
               have NB194_222 := Aside0.mk (Q_NB194_222 (hon 7 (by kernel_rfl)))
               have NB222_194 := Aside0.mk (Q_NB222_194 (hon 7 (by kernel_rfl)))
               have NB208_222 := Aside0.mk (Q_NB208_222 (hon 7 (by kernel_rfl)))
               have NB222_208 := Aside0.mk (Q_NB222_208 (hon 7 (by kernel_rfl)))
               have NB213_222 := Aside0.mk (Q_NB213_222 (hon 7 (by kernel_rfl)))
               have NB222_213 := Aside0.mk (Q_NB222_213 (hon 7 (by kernel_rfl)))
               have BK222 := Aside0.mk (Q_BK222_e8 (hon 8 (by kernel_rfl)))
               refine value_ (w1 := w') (v := .bool t221) (by rfl) rfl ?_ ?_
               ·go_simp
                (try simp only [i64_w])
                try rfl
               refine hK.out _ _ ⟨v219, gb222, m3_, m4_, m5_, m7_, (by rw [ha.out]; exact putSel_upk 8 hb_ rfl rfl rfl), Q_HO199, Q_HO206, Q_HO212, Q_BK193, Q_BK194, Q_BK208, Q_BK213, Q_HB, Q_HO220, fun _ h1_ => absurd ((hon 8 (by kernel_rfl)).symm.trans h1_) (by decide), Q_GW222, Q_GE222, Q_NB193_222, Q_NB222_193, Q_NB194_222, Q_NB222_194, Q_NB208_222, Q_NB222_208, Q_NB213_222, Q_NB222_213, Q_BK222_e8, Q_X3_, Q_X4_, Q_X5_, Q_X7_⟩
              exact steps_nil
             rintro b a w71 hall ⟨v219, gb222, m3_, m4_, m5_, m7_, ha, Q_HO199, Q_HO206, Q_HO212, Q_BK193, Q_BK194, Q_BK208, Q_BK213, Q_HB, Q_HO220, Q_BK222, Q_GW222, Q_GE222, Q_NB193_222, Q_NB222_193, Q_NB194_222, Q_NB222_194, Q_NB208_222, Q_NB222_208, Q_NB213_222, Q_NB222_213, Q_BK222_e8, Q_X3_, Q_X4_, Q_X5_, Q_X7_⟩
             clear BK193 BK194 BK208 BK213 HB HO199 HO206 HO212
             have hb0_ := hall 0 (by kernel_rfl)
             have hb1_ := hall 1 (by kernel_rfl)
             have hb2_ := hall 2 (by kernel_rfl)
             have hb3_ := hall 3 (by kernel_rfl)
             have hb4_ := hall 4 (by kernel_rfl)
             have hb5_ := hall 5 (by kernel_rfl)
             have hb6_ := hall 6 (by kernel_rfl)
             have hb7_ := hall 7 (by kernel_rfl)
             have hb8_ := hall 8 (by kernel_rfl)
             have hb9_ := hall 9 (by kernel_rfl)
             subst ha
             obtain rfl := Q_X3_ hb3_
             obtain rfl := Q_X4_ hb4_
             obtain rfl := Q_X5_ hb5_
             obtain rfl := Q_X7_ hb7_
             simp only [putSel, hb0_, hb1_, hb2_, hb3_, hb4_, hb5_, hb6_, hb7_, hb8_, hb9_, if_true, Act.put, List.setIfInBounds_toArray, List.set_cons_zero, List.set_cons_succ]
             have HO199 := Aside0.mk Q_HO199
             clear Q_HO199
             have HO206 := Aside0.mk Q_HO206
             clear Q_HO206
             have HO212 := Aside0.mk Q_HO212
             clear Q_HO212
             have BK193 := Aside0.mk Q_BK193
             clear Q_BK193
             have BK194 := Aside0.mk Q_BK194
             clear Q_BK194
             have BK208 := Aside0.mk Q_BK208
             clear Q_BK208
             have BK213 := Aside0.mk Q_BK213
             clear Q_BK213
             have HB := Aside0.mk Q_HB
             clear Q_HB
             have HO220 := Aside0.mk (Q_HO220 hb3_)
             clear Q_HO220
             clear Q_BK222
             have GW222 := Aside0.mk (Q_GW222 hb7_)
             clear Q_GW222
             have GE222 := Aside0.mk (Q_GE222 hb7_)
             clear Q_GE222
             have NB193_222 := Aside0.mk (Q_NB193_222 hb7_)
             clear Q_NB193_222
             have NB222_193 := Aside0.mk (Q_NB222_193 hb7_)
             clear Q_NB222_193
             have NB194_222 := Aside0.mk (Q_NB194_222 hb7_)
             clear Q_NB194_222
             have NB222_194 := Aside0.mk (Q_NB222_194 hb7_)
             clear Q_NB222_194
             have NB208_222 := Aside0.mk (Q_NB208_222 hb7_)
             clear Q_NB208_222
             have NB222_208 := Aside0.mk (Q_NB222_208 hb7_)
             clear Q_NB222_208
             have NB213_222 := Aside0.mk (Q_NB213_222 hb7_)
             clear Q_NB213_222
             have NB222_213 := Aside0.mk (Q_NB222_213 hb7_)
             clear Q_NB222_213
             have BK222 := Aside0.mk (Q_BK222_e8 hb8_)
             clear Q_BK222_e8
             clear hall hb0_ hb1_ hb2_ hb3_ hb4_ hb5_ hb6_ hb7_ hb8_ hb9_
             have hnb72 := NB222_193.out
             have hnc72 := NB193_222.out
             have hnb73 := NB222_194.out
             have hnc73 := NB194_222.out
             have hnb74 := NB222_208.out
             have hnc74 := NB208_222.out
             have hnb75 := NB222_213.out
             have hnc75 := NB213_222.out
             have hcz76_0 : w71.cell? ⟨gb222, 0, none⟩ = some (.int .i64 t217) := (blk_cell BK222.out 0).trans rfl
             have hcz76_1 : w71.cell? ⟨gb222, 1, none⟩ = some (v219) := (blk_cell BK222.out 1).trans rfl
             have hfz76_0 := blk_frozen BK222.out 0
             have hfz76_1 := blk_frozen BK222.out 1
             have hnb77 := NB208_194.out
             have hnc77 := NB194_208.out
             have hcz78_0 : w71.cell? ⟨gb208, 0, none⟩ = some (.int .i64 t203) := (blk_cell BK208.out 0).trans rfl
             have hcz78_1 : w71.cell? ⟨gb208, 1, none⟩ = some (v205) := (blk_cell BK208.out 1).trans rfl
             have hfz78_0 := blk_frozen BK208.out 0
             have hfz78_1 := blk_frozen BK208.out 1
             obtain ⟨Ao79, co79, eo79⟩ := Kd.R_slice HO220.out
             subst eo79
             obtain ⟨Ao80, co80, eo80⟩ := Kd.R_slice HO206.out
             subst eo80
             try go_wp2_with (first | ((with_reducible refine gate_callee (f := 19) rfl ?_); refine goesL_ (some 40) rfl rfl Try.func19 (by kernel_rfl) rfl #[.agg #[.int .i64 t217, .slice Ao79 t218.length co79], .agg #[.int .i64 t203, .slice Ao80 t204.length co80]] rfl (by (try simp only [List.map_toArray, List.map_cons, List.map_nil]); first | done | rfl | (simp only [List.length_drop, List.length_take]; rfl)) ?_; (with_reducible refine (laws_eqPuzzle.calls k t217 _ _ t218 t203 _ _ t204 true _ ?side1 ?side2 ?side3 ?side4 A16.out).mono ?_); (case side1 => repeat (first | exact (Kd.R_reads' HO220.out).2.2 | (with_reducible refine Kd.C_alloc ?_ _) | (with_reducible refine Kd.C_drewN ?_ _) | (with_reducible refine Kd.C_drew ?_))); (case side2 => exact (Kd.R_reads' HO220.out).2.1); (case side3 => repeat (first | exact (Kd.R_reads' HO206.out).2.2 | (with_reducible refine Kd.C_alloc ?_ _) | (with_reducible refine Kd.C_drewN ?_ _) | (with_reducible refine Kd.C_drew ?_))); (case side4 => exact (Kd.R_reads' HO206.out).2.1); rintro e w81 ⟨rfl, hb⟩; refine ⟨_, rfl, ?_⟩; have n0_ := Aside0.mk (Kd.R_below (by (with_reducible repeat (first | apply Kd.R_alloc | apply Kd.R_drewN | apply Kd.R_drew)); exact HO199.out) hb); have n1_ := Aside0.mk (Kd.R_below (by (with_reducible repeat (first | apply Kd.R_alloc | apply Kd.R_drewN | apply Kd.R_drew)); exact HO206.out) hb); have n2_ := Aside0.mk (Kd.R_below (by (with_reducible repeat (first | apply Kd.R_alloc | apply Kd.R_drewN | apply Kd.R_drew)); exact HO212.out) hb); have n3_ := Aside0.mk (Kd.R_below (by (with_reducible repeat (first | apply Kd.R_alloc | apply Kd.R_drewN | apply Kd.R_drew)); exact HO220.out) hb); have n4_ := Aside0.mk (blk_below (g := gb193) (o := .cells #[.int .i64 a0_0, .slice A0_1 l0_1.length c0_1] 30 (0, 0)) (by (with_reducible repeat (first | refine blk_drewN ?_ _ | refine blk_drew ?_ | refine blk_alloc ?_ _)); exact BK193.out) hb); have n5_ := Aside0.mk (blk_below (g := gb194) (o := .cells #[.int .i64 a1_0, .int .i64 a1_1, .int .i64 a1_2] 23 (0, 0)) (by (with_reducible repeat (first | refine blk_drewN ?_ _ | refine blk_drew ?_ | refine blk_alloc ?_ _)); exact BK194.out) hb); have n6_ := Aside0.mk (blk_below (g := gb208) (o := .cells #[.int .i64 t203, .slice Ao80 t204.length co80] 35 (0, 0)) (by (with_reducible repeat (first | refine blk_drewN ?_ _ | refine blk_drew ?_ | refine blk_alloc ?_ _)); exact BK208.out) hb); have n7_ := Aside0.mk (blk_below (g := gb213) (o := .cells #[.int .i64 t209, .slice Ao62 t210.length co62] 35 (0, 0)) (by (with_reducible repeat (first | refine blk_drewN ?_ _ | refine blk_drew ?_ | refine blk_alloc ?_ _)); exact BK213.out) hb); have n8_ := Aside0.mk (blk_below (g := gb222) (o := .cells #[.int .i64 t217, .slice Ao79 t218.length co79] 35 (0, 0)) (by (with_reducible repeat (first | refine blk_drewN ?_ _ | refine blk_drew ?_ | refine blk_alloc ?_ _)); exact BK222.out) hb); have n9_ := Aside0.mk (below_step (by repeat (first | (with_reducible first | exact HB.out | apply below_alloc | apply pw_below_drewN | apply below_drew1 | refine below_set ?_ GE193.out | refine below_set ?_ GE194.out | refine below_set ?_ GE208.out | refine below_set ?_ GE213.out | refine below_set ?_ GE222.out) | exact HB.out)) hb); clear HO199; clear HO206; clear HO212; clear HO220; clear BK193; clear BK194; clear BK208; clear BK213; clear BK222; clear HB; have HO199 := n0_; have HO206 := n1_; have HO212 := n2_; have HO220 := n3_; have BK193 := n4_; have BK194 := n5_; have BK208 := n6_; have BK213 := n7_; have BK222 := n8_; have HB := n9_; clear n0_ n1_ n2_ n3_ n4_ n5_ n6_ n7_ n8_ n9_; (try clear hb); (try clear hb2); (try clear hk); (try clear hi)))
             have n0_ := Aside0.mk (Kd.R_drew HO199.out)
             have n1_ := Aside0.mk (Kd.R_drew HO206.out)
             have n2_ := Aside0.mk (Kd.R_drew HO212.out)
             have n3_ := Aside0.mk (Kd.R_drew HO220.out)
             have n4_ := Aside0.mk (blk_drew BK193.out)
             have n5_ := Aside0.mk (blk_drew BK194.out)
             have n6_ := Aside0.mk (blk_drew BK208.out)
             have n7_ := Aside0.mk (blk_drew BK213.out)
             have n8_ := Aside0.mk (blk_drew BK222.out)
             have n9_ := Aside0.mk (below_drew1 HB.out)
             clear HO199
             clear HO206
             clear HO212
             clear HO220
             clear BK193
             clear BK194
             clear BK208
             clear BK213
             clear BK222
             clear HB
             have HO199 := n0_
             have HO206 := n1_
             have HO212 := n2_
             have HO220 := n3_
             have BK193 := n4_
             have BK194 := n5_
             have BK208 := n6_
             have BK213 := n7_
             have BK222 := n8_
             have HB := n9_
             clear n0_ n1_ n2_ n3_ n4_ n5_ n6_ n7_ n8_ n9_
             refine start_ (n := 5) (S := fun w' => w'.cell? ⟨gb213, 0, none⟩ = some (.int .i64 t209) ∧ w'.cell? ⟨gb213, 1, none⟩ = some (.slice Ao62 t210.length co62) ∧ w'.cell? ⟨gb193, 0, none⟩ = some (.int .i64 a0_0) ∧ w'.cell? ⟨gb193, 1, none⟩ = some (.slice A0_1 l0_1.length c0_1)) (ds := []) #[false, false, false, false, false] (by kernel_rfl) rfl rfl ⟨(blk_cell BK213.out 0).trans rfl, (blk_cell BK213.out 1).trans rfl, (blk_cell BK193.out 0).trans rfl, (blk_cell BK193.out 1).trans rfl⟩ (fun hHeld => ?_)
             generalize w81.drew = w82 at HO199 HO206 HO212 HO220 BK193 BK194 BK208 BK213 BK222 HB hHeld ⊢
             refine take_ (i := 0) (N := some 47) (v := ?_) (a' := ?_) #[true, false, false, false, false] rfl rfl (by kernel_rfl) (fun _ _ _ h => h) (Or.inl ⟨by rfl, ?_⟩) hHeld ?_ ?_
             rotate_left
             ·rintro w' ⟨s0, s1, s2, s3⟩
              go_simp
              with_reducible rfl
             rotate_left
             ·simp only [Act.put, List.setIfInBounds_toArray, List.set_cons_zero, List.set_cons_succ, i64_w, i32_w]
              rfl
             refine take_ (i := 1) (N := some 48) (v := ?_) (a' := ?_) #[true, true, false, false, false] rfl rfl (by kernel_rfl) (fun _ _ _ h => h) (Or.inl ⟨by rfl, ?_⟩) hHeld ?_ ?_
             rotate_left
             ·rintro w' ⟨s0, s1, s2, s3⟩
              go_simp
              with_reducible rfl
             rotate_left
             ·simp only [Act.put, List.setIfInBounds_toArray, List.set_cons_zero, List.set_cons_succ, i64_w, i32_w]
              rfl
             refine one_ (i := 2) (N := some 49) #[true, true, true, false, false] rfl rfl (by kernel_rfl) (by decide) (fun K hK => ?_)
             refine goes_ Try.func17 (by kernel_rfl) rfl #[.agg #[.int .i64 a0_0, .slice A0_1 l0_1.length c0_1]] (by rfl) rfl rfl (by (try simp only [List.map_toArray, List.map_cons, List.map_nil]); first | done | rfl | (simp only [List.length_drop, List.length_take]; rfl)) ?_
             with_reducible refine (laws_toPuzzle.calls k a0_0 _ _ l0_1 t224 t225 _ ?side1 ?side2 A19.out).mono ?_
             (case side1 => repeat (first | exact (Kd.C_below HR0_1.out HB.out) | (with_reducible refine Kd.C_alloc ?_ _) | (with_reducible refine Kd.C_drewN ?_ _) | (with_reducible refine Kd.C_drew ?_)))
             (case side2 => exact HC0_1.out)
             rintro e w83 ⟨v226, rfl, ho0, hb⟩
             refine ⟨_, rfl, ?_⟩
             have n0_ := Aside0.mk (Kd.R_elder' (by (with_reducible repeat (first | apply Kd.R_alloc | apply Kd.R_drewN | apply Kd.R_drew)); exact HO199.out) (Kd.R_base ho0) hb)
             have n1_ := Aside0.mk (Kd.R_elder' (by (with_reducible repeat (first | apply Kd.R_alloc | apply Kd.R_drewN | apply Kd.R_drew)); exact HO206.out) (Kd.R_base ho0) hb)
             have n2_ := Aside0.mk (Kd.R_elder' (by (with_reducible repeat (first | apply Kd.R_alloc | apply Kd.R_drewN | apply Kd.R_drew)); exact HO212.out) (Kd.R_base ho0) hb)
             have n3_ := Aside0.mk (Kd.R_elder' (by (with_reducible repeat (first | apply Kd.R_alloc | apply Kd.R_drewN | apply Kd.R_drew)); exact HO220.out) (Kd.R_base ho0) hb)
             have n4_ := Aside0.mk (Kd.R_lower (Kd.R_new' (Kd.R_new' (Kd.R_new' (Kd.R_new' ho0 (Kd.R_lt (by (with_reducible repeat (first | apply Kd.R_alloc | apply Kd.R_drewN | apply Kd.R_drew)); exact HO199.out))) (Kd.R_lt (by (with_reducible repeat (first | apply Kd.R_alloc | apply Kd.R_drewN | apply Kd.R_drew)); exact HO206.out))) (Kd.R_lt (by (with_reducible repeat (first | apply Kd.R_alloc | apply Kd.R_drewN | apply Kd.R_drew)); exact HO212.out))) (Kd.R_lt (by (with_reducible repeat (first | apply Kd.R_alloc | apply Kd.R_drewN | apply Kd.R_drew)); exact HO220.out))) (below_size (by repeat (first | (with_reducible first | exact HB.out | apply below_alloc | apply pw_below_drewN | apply below_drew1 | refine below_set ?_ GE193.out | refine below_set ?_ GE194.out | refine below_set ?_ GE208.out | refine below_set ?_ GE213.out | refine below_set ?_ GE222.out) | exact HB.out))))
             have n5_ := Aside0.mk (blk_below (g := gb193) (o := .cells #[.int .i64 a0_0, .slice A0_1 l0_1.length c0_1] 30 (0, 0)) (by (with_reducible repeat (first | refine blk_drewN ?_ _ | refine blk_drew ?_ | refine blk_alloc ?_ _)); exact BK193.out) hb)
             have n6_ := Aside0.mk (blk_below (g := gb194) (o := .cells #[.int .i64 a1_0, .int .i64 a1_1, .int .i64 a1_2] 23 (0, 0)) (by (with_reducible repeat (first | refine blk_drewN ?_ _ | refine blk_drew ?_ | refine blk_alloc ?_ _)); exact BK194.out) hb)
             have n7_ := Aside0.mk (blk_below (g := gb208) (o := .cells #[.int .i64 t203, .slice Ao80 t204.length co80] 35 (0, 0)) (by (with_reducible repeat (first | refine blk_drewN ?_ _ | refine blk_drew ?_ | refine blk_alloc ?_ _)); exact BK208.out) hb)
             have n8_ := Aside0.mk (blk_below (g := gb213) (o := .cells #[.int .i64 t209, .slice Ao62 t210.length co62] 35 (0, 0)) (by (with_reducible repeat (first | refine blk_drewN ?_ _ | refine blk_drew ?_ | refine blk_alloc ?_ _)); exact BK213.out) hb)
             have n9_ := Aside0.mk (blk_below (g := gb222) (o := .cells #[.int .i64 t217, .slice Ao79 t218.length co79] 35 (0, 0)) (by (with_reducible repeat (first | refine blk_drewN ?_ _ | refine blk_drew ?_ | refine blk_alloc ?_ _)); exact BK222.out) hb)
             have n10_ := Aside0.mk (below_step (by repeat (first | (with_reducible first | exact HB.out | apply below_alloc | apply pw_below_drewN | apply below_drew1 | refine below_set ?_ GE193.out | refine below_set ?_ GE194.out | refine below_set ?_ GE208.out | refine below_set ?_ GE213.out | refine below_set ?_ GE222.out) | exact HB.out)) hb)
             clear HO199
             clear HO206
             clear HO212
             clear HO220
             clear BK193
             clear BK194
             clear BK208
             clear BK213
             clear BK222
             clear HB
             have HO199 := n0_
             have HO206 := n1_
             have HO212 := n2_
             have HO220 := n3_
             have HO227 := n4_
             have BK193 := n5_
             have BK194 := n6_
             have BK208 := n7_
             have BK213 := n8_
             have BK222 := n9_
             have HB := n10_
             clear n0_ n1_ n2_ n3_ n4_ n5_ n6_ n7_ n8_ n9_ n10_
             (try clear hb)
             (try clear hb2)
             (try clear hk)
             (try clear hi)
             (try clear ho0)
             obtain ⟨Ao84, co84, eo84⟩ := Kd.R_slice HO227.out
             (first | subst eo84 | (injection eo84 with f1_ f2_ f3_; have f4_ := f1_.symm; have f5_ := f3_.symm; clear f1_ f2_ f3_; subst f4_; subst f5_))
             refine hK.out _ _ ⟨(blk_cell BK213.out 0).trans rfl, (blk_cell BK213.out 1).trans rfl, (blk_cell BK193.out 0).trans rfl, (blk_cell BK193.out 1).trans rfl⟩ (fun hHeld => ?_)
             clear hK K
             refine norm_ (a' := ?_) ?_ ?_
             rotate_left
             ·show Act.put _ (some 49) _ = _
              simp only [Act.put, List.setIfInBounds_toArray, List.set_cons_zero, List.set_cons_succ, i64_w, i32_w]
              rfl
             refine one_ (i := 3) (N := some 50) #[true, true, true, true, false] rfl rfl (by kernel_rfl) (by decide) (fun K hK => ?_)
             refine goes_ Try.func19 (by kernel_rfl) rfl #[.agg #[.int .i64 t209, .slice Ao62 t210.length co62], .agg #[.int .i64 t224, .slice Ao84 t225.length co84]] (by rfl) rfl rfl (by (try simp only [List.map_toArray, List.map_cons, List.map_nil]); first | done | rfl | (simp only [List.length_drop, List.length_take]; rfl)) ?_
             with_reducible refine (laws_eqPuzzle.calls k t209 _ _ t210 t224 _ _ t225 true _ ?side1 ?side2 ?side3 ?side4 A20.out).mono ?_
             (case side1 => repeat (first | exact (Kd.R_reads' HO212.out).2.2 | (with_reducible refine Kd.C_alloc ?_ _) | (with_reducible refine Kd.C_drewN ?_ _) | (with_reducible refine Kd.C_drew ?_)))
             (case side2 => exact (Kd.R_reads' HO212.out).2.1)
             (case side3 => repeat (first | exact (Kd.R_reads' HO227.out).2.2 | (with_reducible refine Kd.C_alloc ?_ _) | (with_reducible refine Kd.C_drewN ?_ _) | (with_reducible refine Kd.C_drew ?_)))
             (case side4 => exact (Kd.R_reads' HO227.out).2.1)
             rintro e w85 ⟨rfl, hb⟩
             refine ⟨_, rfl, ?_⟩
             have n0_ := Aside0.mk (Kd.R_below (by (with_reducible repeat (first | apply Kd.R_alloc | apply Kd.R_drewN | apply Kd.R_drew)); exact HO199.out) hb)
             have n1_ := Aside0.mk (Kd.R_below (by (with_reducible repeat (first | apply Kd.R_alloc | apply Kd.R_drewN | apply Kd.R_drew)); exact HO206.out) hb)
             have n2_ := Aside0.mk (Kd.R_below (by (with_reducible repeat (first | apply Kd.R_alloc | apply Kd.R_drewN | apply Kd.R_drew)); exact HO212.out) hb)
             have n3_ := Aside0.mk (Kd.R_below (by (with_reducible repeat (first | apply Kd.R_alloc | apply Kd.R_drewN | apply Kd.R_drew)); exact HO220.out) hb)
             have n4_ := Aside0.mk (Kd.R_below (by (with_reducible repeat (first | apply Kd.R_alloc | apply Kd.R_drewN | apply Kd.R_drew)); exact HO227.out) hb)
             have n5_ := Aside0.mk (blk_below (g := gb193) (o := .cells #[.int .i64 a0_0, .slice A0_1 l0_1.length c0_1] 30 (0, 0)) (by (with_reducible repeat (first | refine blk_drewN ?_ _ | refine blk_drew ?_ | refine blk_alloc ?_ _)); exact BK193.out) hb)
             have n6_ := Aside0.mk (blk_below (g := gb194) (o := .cells #[.int .i64 a1_0, .int .i64 a1_1, .int .i64 a1_2] 23 (0, 0)) (by (with_reducible repeat (first | refine blk_drewN ?_ _ | refine blk_drew ?_ | refine blk_alloc ?_ _)); exact BK194.out) hb)
             have n7_ := Aside0.mk (blk_below (g := gb208) (o := .cells #[.int .i64 t203, .slice Ao80 t204.length co80] 35 (0, 0)) (by (with_reducible repeat (first | refine blk_drewN ?_ _ | refine blk_drew ?_ | refine blk_alloc ?_ _)); exact BK208.out) hb)
             have n8_ := Aside0.mk (blk_below (g := gb213) (o := .cells #[.int .i64 t209, .slice Ao62 t210.length co62] 35 (0, 0)) (by (with_reducible repeat (first | refine blk_drewN ?_ _ | refine blk_drew ?_ | refine blk_alloc ?_ _)); exact BK213.out) hb)
             have n9_ := Aside0.mk (blk_below (g := gb222) (o := .cells #[.int .i64 t217, .slice Ao79 t218.length co79] 35 (0, 0)) (by (with_reducible repeat (first | refine blk_drewN ?_ _ | refine blk_drew ?_ | refine blk_alloc ?_ _)); exact BK222.out) hb)
             have n10_ := Aside0.mk (below_step (by repeat (first | (with_reducible first | exact HB.out | apply below_alloc | apply pw_below_drewN | apply below_drew1 | refine below_set ?_ GE193.out | refine below_set ?_ GE194.out | refine below_set ?_ GE208.out | refine below_set ?_ GE213.out | refine below_set ?_ GE222.out) | exact HB.out)) hb)
             clear HO199
             clear HO206
             clear HO212
             clear HO220
             clear HO227
             clear BK193
             clear BK194
             clear BK208
             clear BK213
             clear BK222
             clear HB
             have HO199 := n0_
             have HO206 := n1_
             have HO212 := n2_
             have HO220 := n3_
             have HO227 := n4_
             have BK193 := n5_
             have BK194 := n6_
             have BK208 := n7_
             have BK213 := n8_
             have BK222 := n9_
             have HB := n10_
             clear n0_ n1_ n2_ n3_ n4_ n5_ n6_ n7_ n8_ n9_ n10_
             (try clear hb)
             (try clear hb2)
             (try clear hk)
             (try clear hi)
             refine hK.out _ _ ⟨(blk_cell BK213.out 0).trans rfl, (blk_cell BK213.out 1).trans rfl, (blk_cell BK193.out 0).trans rfl, (blk_cell BK193.out 1).trans rfl⟩ (fun hHeld => ?_)
             clear hK K
             refine norm_ (a' := ?_) ?_ ?_
             rotate_left
             ·show Act.put _ (some 50) _ = _
              simp only [Act.put, List.setIfInBounds_toArray, List.set_cons_zero, List.set_cons_succ, i64_w, i32_w]
              rfl
             refine pure_ (i := 4) (N := some 51) (v := ?_) (a' := ?_) #[true, true, true, true, true] rfl rfl (by kernel_rfl) (fun _ _ _ h => h) (Or.inl ⟨by rfl, ?_⟩) ?_ ?_
             rotate_left
             ·intro w'
              go_simp
              with_reducible rfl
             rotate_left
             ·simp only [Act.put, List.setIfInBounds_toArray, List.set_cons_zero, List.set_cons_succ, i64_w, i32_w]
              rfl
             refine done_ (by kernel_rfl) ?_
             have hcz86_0 : w85.cell? ⟨gb213, 0, none⟩ = some (.int .i64 t209) := (blk_cell BK213.out 0).trans rfl
             have hcz86_1 : w85.cell? ⟨gb213, 1, none⟩ = some (.slice Ao62 t210.length co62) := (blk_cell BK213.out 1).trans rfl
             have hfz86_0 := blk_frozen BK213.out 0
             have hfz86_1 := blk_frozen BK213.out 1
             try go_wp2_with (first | ((with_reducible refine gate_callee (f := 22) rfl ?_); refine goesL_ (some 54) rfl rfl Try.func22 (by kernel_rfl) rfl #[.agg #[.int .i64 t209, .slice Ao62 t210.length co62], .int .i64 1] rfl (by (try simp only [List.map_toArray, List.map_cons, List.map_nil]); first | done | rfl | (simp only [List.length_drop, List.length_take]; rfl)) ?_; (with_reducible refine (laws_markPuzzle.calls k t209 (fun k_ => some k_ = (.slice Ao62 t210.length co62 : Value).ownBlock) (.slice Ao62 t210.length co62) t210 1 t229 t230 w _ ?side1 ?side2 A22.out).mono ?_); (case side1 => repeat (first | (with_reducible first | exact HB.out | apply below_alloc | apply pw_below_drewN | apply below_drew1 | refine below_set ?_ GE193.out | refine below_set ?_ GE194.out | refine below_set ?_ GE208.out | refine below_set ?_ GE213.out | refine below_set ?_ GE222.out) | exact HB.out)); (case side2 => exact Kd.R_tight rfl HO212.out); rintro e w87 ⟨rfl, hy0, hb, hkp⟩; refine ⟨_, rfl, ?_⟩; have n0_ := Aside0.mk (blk_kept (by (with_reducible repeat (first | refine blk_drewN ?_ _ | refine blk_drew ?_ | refine blk_alloc ?_ _)); exact BK193.out) hkp (fun hs_ => (fun e_ => (Kd.R_ne HO212.out BK193.out (by decide)) e_) hs_)); have n1_ := Aside0.mk (blk_kept (by (with_reducible repeat (first | refine blk_drewN ?_ _ | refine blk_drew ?_ | refine blk_alloc ?_ _)); exact BK194.out) hkp (fun hs_ => (fun e_ => (Kd.R_ne HO212.out BK194.out (by decide)) e_) hs_)); have n2_ := Aside0.mk (Kd.R_mono (ok' := fun k_ => some k_ ≠ (.slice Ao80 t204.length co80 : Value).ownBlock ∧ some k_ ≠ (.slice Ao62 t210.length co62 : Value).ownBlock ∧ some k_ ≠ (.slice Ao79 t218.length co79 : Value).ownBlock ∧ some k_ ≠ (.slice Ao84 t225.length co84 : Value).ownBlock) (Kd.R_keptB (HO199.out) hkp (by first | exact fun k_ hk_ hs_ => (hk_.1.2.1) hs_ | grind)) (by first | exact fun k_ hk_ => ⟨hk_.1.1.1, hk_.1.1.2.1, hk_.1.1.2.2, hk_.1.2⟩ | grind)); have n3_ := Aside0.mk (Kd.R_mono (ok' := fun k_ => some k_ ≠ (v198 : Value).ownBlock ∧ some k_ ≠ (.slice Ao62 t210.length co62 : Value).ownBlock ∧ some k_ ≠ (.slice Ao79 t218.length co79 : Value).ownBlock ∧ some k_ ≠ (.slice Ao84 t225.length co84 : Value).ownBlock) (Kd.R_keptB (HO206.out) hkp (by first | exact fun k_ hk_ hs_ => (hk_.1.2.1) hs_ | grind)) (by first | exact fun k_ hk_ => ⟨hk_.1.1.1, hk_.1.1.2.1, hk_.1.1.2.2, hk_.1.2⟩ | grind)); have n4_ := Aside0.mk (blk_kept (by (with_reducible repeat (first | refine blk_drewN ?_ _ | refine blk_drew ?_ | refine blk_alloc ?_ _)); exact BK208.out) hkp (fun hs_ => (fun e_ => (Kd.R_ne HO212.out BK208.out (by decide)) e_) hs_)); have n5_ := Aside0.mk (Kd.R_reok rfl hy0 (fun k_ e_ => HO212.out.1 k_ e_)); have n6_ := Aside0.mk (blk_kept (by (with_reducible repeat (first | refine blk_drewN ?_ _ | refine blk_drew ?_ | refine blk_alloc ?_ _)); exact BK213.out) hkp (fun hs_ => (fun e_ => (Kd.R_ne HO212.out BK213.out (by decide)) e_) hs_)); have n7_ := Aside0.mk (Kd.R_mono (ok' := fun k_ => some k_ ≠ (v198 : Value).ownBlock ∧ some k_ ≠ (.slice Ao80 t204.length co80 : Value).ownBlock ∧ some k_ ≠ (.slice Ao62 t210.length co62 : Value).ownBlock ∧ some k_ ≠ (.slice Ao84 t225.length co84 : Value).ownBlock) (Kd.R_keptB (HO220.out) hkp (by first | exact fun k_ hk_ hs_ => (hk_.1.2.2) hs_ | grind)) (by first | exact fun k_ hk_ => ⟨hk_.1.1.1, hk_.1.1.2.1, hk_.1.1.2.2, hk_.1.2⟩ | grind)); have n8_ := Aside0.mk (blk_kept (by (with_reducible repeat (first | refine blk_drewN ?_ _ | refine blk_drew ?_ | refine blk_alloc ?_ _)); exact BK222.out) hkp (fun hs_ => (fun e_ => (Kd.R_ne HO212.out BK222.out (by decide)) e_) hs_)); have n9_ := Aside0.mk (Kd.R_mono (ok' := fun k_ => some k_ ≠ (v198 : Value).ownBlock ∧ some k_ ≠ (.slice Ao80 t204.length co80 : Value).ownBlock ∧ some k_ ≠ (.slice Ao62 t210.length co62 : Value).ownBlock ∧ some k_ ≠ (.slice Ao79 t218.length co79 : Value).ownBlock) (Kd.R_keptB (HO227.out) hkp (by first | exact fun k_ hk_ hs_ => (hk_.1.2) hs_ | grind)) (by first | exact fun k_ hk_ => ⟨hk_.1.1.1.1.2, hk_.1.1.1.2, hk_.1.1.2, hk_.1.2⟩ | grind)); have n10_ := Aside0.mk (hb); clear BK193; clear BK194; clear HO199; clear HO206; clear BK208; clear HO212; clear BK213; clear HO220; clear BK222; clear HO227; clear HB; have BK193 := n0_; have BK194 := n1_; have HO199 := n2_; have HO206 := n3_; have BK208 := n4_; have HO212 := n5_; have BK213 := n6_; have HO220 := n7_; have BK222 := n8_; have HO227 := n9_; have HB := n10_; clear n0_ n1_ n2_ n3_ n4_ n5_ n6_ n7_ n8_ n9_ n10_; (try clear hb); (try clear hkp); (try clear hy0); have hcz88_0 : w87.cell? ⟨gb222, 0, none⟩ = some (.int .i64 t217) := (blk_cell BK222.out 0).trans rfl; have hcz88_1 : w87.cell? ⟨gb222, 1, none⟩ = some (.slice Ao79 t218.length co79) := (blk_cell BK222.out 1).trans rfl; have hfz88_0 := blk_frozen BK222.out 0; have hfz88_1 := blk_frozen BK222.out 1; have hcz89_0 : w87.cell? ⟨gb208, 0, none⟩ = some (.int .i64 t203) := (blk_cell BK208.out 0).trans rfl; have hcz89_1 : w87.cell? ⟨gb208, 1, none⟩ = some (.slice Ao80 t204.length co80) := (blk_cell BK208.out 1).trans rfl; have hfz89_0 := blk_frozen BK208.out 0; have hfz89_1 := blk_frozen BK208.out 1) | (go_at_call 19; (with_reducible refine (laws_eqPuzzle.calls k t217 _ _ t218 t203 _ _ t204 true _ ?side1 ?side2 ?side3 ?side4 A24.out).mono ?_); (case side1 => repeat (first | exact (Kd.R_reads' HO220.out).2.2 | (with_reducible refine Kd.C_alloc ?_ _) | (with_reducible refine Kd.C_drewN ?_ _) | (with_reducible refine Kd.C_drew ?_))); (case side2 => exact (Kd.R_reads' HO220.out).2.1); (case side3 => repeat (first | exact (Kd.R_reads' HO206.out).2.2 | (with_reducible refine Kd.C_alloc ?_ _) | (with_reducible refine Kd.C_drewN ?_ _) | (with_reducible refine Kd.C_drew ?_))); (case side4 => exact (Kd.R_reads' HO206.out).2.1); rintro e w90 ⟨rfl, hb⟩; have n0_ := Aside0.mk (Kd.R_below (by (with_reducible repeat (first | apply Kd.R_alloc | apply Kd.R_drewN | apply Kd.R_drew)); exact HO199.out) hb); have n1_ := Aside0.mk (Kd.R_below (by (with_reducible repeat (first | apply Kd.R_alloc | apply Kd.R_drewN | apply Kd.R_drew)); exact HO206.out) hb); have n2_ := Aside0.mk (Kd.R_below (by (with_reducible repeat (first | apply Kd.R_alloc | apply Kd.R_drewN | apply Kd.R_drew)); exact HO212.out) hb); have n3_ := Aside0.mk (Kd.R_below (by (with_reducible repeat (first | apply Kd.R_alloc | apply Kd.R_drewN | apply Kd.R_drew)); exact HO220.out) hb); have n4_ := Aside0.mk (Kd.R_below (by (with_reducible repeat (first | apply Kd.R_alloc | apply Kd.R_drewN | apply Kd.R_drew)); exact HO227.out) hb); have n5_ := Aside0.mk (blk_below (g := gb193) (o := .cells #[.int .i64 a0_0, .slice A0_1 l0_1.length c0_1] 30 (0, 0)) (by (with_reducible repeat (first | refine blk_drewN ?_ _ | refine blk_drew ?_ | refine blk_alloc ?_ _)); exact BK193.out) hb); have n6_ := Aside0.mk (blk_below (g := gb194) (o := .cells #[.int .i64 a1_0, .int .i64 a1_1, .int .i64 a1_2] 23 (0, 0)) (by (with_reducible repeat (first | refine blk_drewN ?_ _ | refine blk_drew ?_ | refine blk_alloc ?_ _)); exact BK194.out) hb); have n7_ := Aside0.mk (blk_below (g := gb208) (o := .cells #[.int .i64 t203, .slice Ao80 t204.length co80] 35 (0, 0)) (by (with_reducible repeat (first | refine blk_drewN ?_ _ | refine blk_drew ?_ | refine blk_alloc ?_ _)); exact BK208.out) hb); have n8_ := Aside0.mk (blk_below (g := gb213) (o := .cells #[.int .i64 t209, .slice Ao62 t210.length co62] 35 (0, 0)) (by (with_reducible repeat (first | refine blk_drewN ?_ _ | refine blk_drew ?_ | refine blk_alloc ?_ _)); exact BK213.out) hb); have n9_ := Aside0.mk (blk_below (g := gb222) (o := .cells #[.int .i64 t217, .slice Ao79 t218.length co79] 35 (0, 0)) (by (with_reducible repeat (first | refine blk_drewN ?_ _ | refine blk_drew ?_ | refine blk_alloc ?_ _)); exact BK222.out) hb); have n10_ := Aside0.mk (below_step (by repeat (first | (with_reducible first | exact HB.out | apply below_alloc | apply pw_below_drewN | apply below_drew1 | refine below_set ?_ GE193.out | refine below_set ?_ GE194.out | refine below_set ?_ GE208.out | refine below_set ?_ GE213.out | refine below_set ?_ GE222.out) | exact HB.out)) hb); clear HO199; clear HO206; clear HO212; clear HO220; clear HO227; clear BK193; clear BK194; clear BK208; clear BK213; clear BK222; clear HB; have HO199 := n0_; have HO206 := n1_; have HO212 := n2_; have HO220 := n3_; have HO227 := n4_; have BK193 := n5_; have BK194 := n6_; have BK208 := n7_; have BK213 := n8_; have BK222 := n9_; have HB := n10_; clear n0_ n1_ n2_ n3_ n4_ n5_ n6_ n7_ n8_ n9_ n10_; (try clear hb); (try clear hb2); (try clear hk); (try clear hi); have hcz91_0 : w90.cell? ⟨gb222, 0, none⟩ = some (.int .i64 t217) := (blk_cell BK222.out 0).trans rfl; have hcz91_1 : w90.cell? ⟨gb222, 1, none⟩ = some (.slice Ao79 t218.length co79) := (blk_cell BK222.out 1).trans rfl; have hfz91_0 := blk_frozen BK222.out 0; have hfz91_1 := blk_frozen BK222.out 1) | ((with_reducible refine gate_callee (f := 22) rfl ?_); refine goesL_ (some 70) rfl rfl Try.func22 (by kernel_rfl) rfl #[.agg #[.int .i64 t217, .slice Ao79 t218.length co79], .int .i64 1] rfl (by (try simp only [List.map_toArray, List.map_cons, List.map_nil]); first | done | rfl | (simp only [List.length_drop, List.length_take]; rfl)) ?_; (with_reducible refine (laws_markPuzzle.calls k t217 (fun k_ => some k_ = (.slice Ao79 t218.length co79 : Value).ownBlock) (.slice Ao79 t218.length co79) t218 1 t232 t233 w _ ?side1 ?side2 A26.out).mono ?_); (case side1 => repeat (first | (with_reducible first | exact HB.out | apply below_alloc | apply pw_below_drewN | apply below_drew1 | refine below_set ?_ GE193.out | refine below_set ?_ GE194.out | refine below_set ?_ GE208.out | refine below_set ?_ GE213.out | refine below_set ?_ GE222.out) | exact HB.out)); (case side2 => exact Kd.R_tight rfl HO220.out); rintro e w92 ⟨rfl, hy0, hb, hkp⟩; refine ⟨_, rfl, ?_⟩; have n0_ := Aside0.mk (blk_kept (by (with_reducible repeat (first | refine blk_drewN ?_ _ | refine blk_drew ?_ | refine blk_alloc ?_ _)); exact BK193.out) hkp (fun hs_ => (fun e_ => (Kd.R_ne HO220.out BK193.out (by decide)) e_) hs_)); have n1_ := Aside0.mk (blk_kept (by (with_reducible repeat (first | refine blk_drewN ?_ _ | refine blk_drew ?_ | refine blk_alloc ?_ _)); exact BK194.out) hkp (fun hs_ => (fun e_ => (Kd.R_ne HO220.out BK194.out (by decide)) e_) hs_)); have n2_ := Aside0.mk (Kd.R_mono (ok' := fun k_ => some k_ ≠ (.slice Ao80 t204.length co80 : Value).ownBlock ∧ some k_ ≠ (.slice Ao62 t210.length co62 : Value).ownBlock ∧ some k_ ≠ (.slice Ao79 t218.length co79 : Value).ownBlock ∧ some k_ ≠ (.slice Ao84 t225.length co84 : Value).ownBlock) (Kd.R_keptB (HO199.out) hkp (by first | exact fun k_ hk_ hs_ => (hk_.2.2.1) hs_ | grind)) (by first | exact fun k_ hk_ => ⟨hk_.1.1, hk_.1.2.1, hk_.1.2.2.1, hk_.1.2.2.2⟩ | grind)); have n3_ := Aside0.mk (Kd.R_mono (ok' := fun k_ => some k_ ≠ (v198 : Value).ownBlock ∧ some k_ ≠ (.slice Ao62 t210.length co62 : Value).ownBlock ∧ some k_ ≠ (.slice Ao79 t218.length co79 : Value).ownBlock ∧ some k_ ≠ (.slice Ao84 t225.length co84 : Value).ownBlock) (Kd.R_keptB (HO206.out) hkp (by first | exact fun k_ hk_ hs_ => (hk_.2.2.1) hs_ | grind)) (by first | exact fun k_ hk_ => ⟨hk_.1.1, hk_.1.2.1, hk_.1.2.2.1, hk_.1.2.2.2⟩ | grind)); have n4_ := Aside0.mk (blk_kept (by (with_reducible repeat (first | refine blk_drewN ?_ _ | refine blk_drew ?_ | refine blk_alloc ?_ _)); exact BK208.out) hkp (fun hs_ => (fun e_ => (Kd.R_ne HO220.out BK208.out (by decide)) e_) hs_)); have n5_ := Aside0.mk (Kd.R_mono (ok' := fun k_ => some k_ ≠ (v198 : Value).ownBlock ∧ some k_ ≠ (.slice Ao80 t204.length co80 : Value).ownBlock ∧ some k_ ≠ (.slice Ao79 t218.length co79 : Value).ownBlock ∧ some k_ ≠ (.slice Ao84 t225.length co84 : Value).ownBlock) (Kd.R_keptB (HO212.out) hkp (by first | exact fun k_ hk_ hs_ => (hk_.1.2.2) hs_ | grind)) (by first | exact fun k_ hk_ => ⟨hk_.1.1.1, hk_.1.1.2.1, hk_.1.1.2.2, hk_.1.2⟩ | grind)); have n6_ := Aside0.mk (blk_kept (by (with_reducible repeat (first | refine blk_drewN ?_ _ | refine blk_drew ?_ | refine blk_alloc ?_ _)); exact BK213.out) hkp (fun hs_ => (fun e_ => (Kd.R_ne HO220.out BK213.out (by decide)) e_) hs_)); have n7_ := Aside0.mk (Kd.R_reok rfl hy0 (fun k_ e_ => HO220.out.1 k_ e_)); have n8_ := Aside0.mk (blk_kept (by (with_reducible repeat (first | refine blk_drewN ?_ _ | refine blk_drew ?_ | refine blk_alloc ?_ _)); exact BK222.out) hkp (fun hs_ => (fun e_ => (Kd.R_ne HO220.out BK222.out (by decide)) e_) hs_)); have n9_ := Aside0.mk (Kd.R_mono (ok' := fun k_ => some k_ ≠ (v198 : Value).ownBlock ∧ some k_ ≠ (.slice Ao80 t204.length co80 : Value).ownBlock ∧ some k_ ≠ (.slice Ao62 t210.length co62 : Value).ownBlock ∧ some k_ ≠ (.slice Ao79 t218.length co79 : Value).ownBlock) (Kd.R_keptB (HO227.out) hkp (by first | exact fun k_ hk_ hs_ => (hk_.2.2.2) hs_ | grind)) (by first | exact fun k_ hk_ => ⟨hk_.1.1, hk_.1.2.1, hk_.1.2.2.1, hk_.1.2.2.2⟩ | grind)); have n10_ := Aside0.mk (hb); clear BK193; clear BK194; clear HO199; clear HO206; clear BK208; clear HO212; clear BK213; clear HO220; clear BK222; clear HO227; clear HB; have BK193 := n0_; have BK194 := n1_; have HO199 := n2_; have HO206 := n3_; have BK208 := n4_; have HO212 := n5_; have BK213 := n6_; have HO220 := n7_; have BK222 := n8_; have HO227 := n9_; have HB := n10_; clear n0_ n1_ n2_ n3_ n4_ n5_ n6_ n7_ n8_ n9_ n10_; (try clear hb); (try clear hkp); (try clear hy0); have hcz93_0 : w92.cell? ⟨gb222, 0, none⟩ = some (.int .i64 t217) := (blk_cell BK222.out 0).trans rfl; have hcz93_1 : w92.cell? ⟨gb222, 1, none⟩ = some (.slice Ao79 t218.length co79) := (blk_cell BK222.out 1).trans rfl; have hfz93_0 := blk_frozen BK222.out 0; have hfz93_1 := blk_frozen BK222.out 1) | ((with_reducible refine gate_callee (f := 23) rfl ?_); refine goesL_ (some 73) rfl rfl Try.func23 (by kernel_rfl) rfl #[.agg #[.int .i64 t217, .slice Ao79 t233.length co79], .int .i64 1] rfl (by (try simp only [List.map_toArray, List.map_cons, List.map_nil]); first | done | (rw [show t233.length = t218.length from (Kd.R_reads' HO220.out).1.symm] <;> rfl) | rfl | (simp only [List.length_drop, List.length_take]; rfl)) ?_; (with_reducible refine (laws_heldPuzzle.calls k t217 _ _ t233 1 t234 _ ?side1 ?side2 A27.out).mono ?_); (case side1 => repeat (first | exact (Kd.R_reads' HO220.out).2.2 | (with_reducible refine Kd.C_alloc ?_ _) | (with_reducible refine Kd.C_drewN ?_ _) | (with_reducible refine Kd.C_drew ?_))); (case side2 => rw [show t233.length = t218.length from (Kd.R_reads' HO220.out).1.symm]; exact (Kd.R_reads' HO220.out).2.1); rintro e w94 ⟨rfl, hb⟩; refine ⟨_, rfl, ?_⟩; have n0_ := Aside0.mk (Kd.R_below (by (with_reducible repeat (first | apply Kd.R_alloc | apply Kd.R_drewN | apply Kd.R_drew)); exact HO199.out) hb); have n1_ := Aside0.mk (Kd.R_below (by (with_reducible repeat (first | apply Kd.R_alloc | apply Kd.R_drewN | apply Kd.R_drew)); exact HO206.out) hb); have n2_ := Aside0.mk (Kd.R_below (by (with_reducible repeat (first | apply Kd.R_alloc | apply Kd.R_drewN | apply Kd.R_drew)); exact HO212.out) hb); have n3_ := Aside0.mk (Kd.R_below (by (with_reducible repeat (first | apply Kd.R_alloc | apply Kd.R_drewN | apply Kd.R_drew)); exact HO220.out) hb); have n4_ := Aside0.mk (Kd.R_below (by (with_reducible repeat (first | apply Kd.R_alloc | apply Kd.R_drewN | apply Kd.R_drew)); exact HO227.out) hb); have n5_ := Aside0.mk (blk_below (g := gb193) (o := .cells #[.int .i64 a0_0, .slice A0_1 l0_1.length c0_1] 30 (0, 0)) (by (with_reducible repeat (first | refine blk_drewN ?_ _ | refine blk_drew ?_ | refine blk_alloc ?_ _)); exact BK193.out) hb); have n6_ := Aside0.mk (blk_below (g := gb194) (o := .cells #[.int .i64 a1_0, .int .i64 a1_1, .int .i64 a1_2] 23 (0, 0)) (by (with_reducible repeat (first | refine blk_drewN ?_ _ | refine blk_drew ?_ | refine blk_alloc ?_ _)); exact BK194.out) hb); have n7_ := Aside0.mk (blk_below (g := gb208) (o := .cells #[.int .i64 t203, .slice Ao80 t204.length co80] 35 (0, 0)) (by (with_reducible repeat (first | refine blk_drewN ?_ _ | refine blk_drew ?_ | refine blk_alloc ?_ _)); exact BK208.out) hb); have n8_ := Aside0.mk (blk_below (g := gb213) (o := .cells #[.int .i64 t209, .slice Ao62 t210.length co62] 35 (0, 0)) (by (with_reducible repeat (first | refine blk_drewN ?_ _ | refine blk_drew ?_ | refine blk_alloc ?_ _)); exact BK213.out) hb); have n9_ := Aside0.mk (blk_below (g := gb222) (o := .cells #[.int .i64 t217, .slice Ao79 t218.length co79] 35 (0, 0)) (by (with_reducible repeat (first | refine blk_drewN ?_ _ | refine blk_drew ?_ | refine blk_alloc ?_ _)); exact BK222.out) hb); have n10_ := Aside0.mk (below_step (by repeat (first | (with_reducible first | exact HB.out | apply below_alloc | apply pw_below_drewN | apply below_drew1 | refine below_set ?_ GE193.out | refine below_set ?_ GE194.out | refine below_set ?_ GE208.out | refine below_set ?_ GE213.out | refine below_set ?_ GE222.out) | exact HB.out)) hb); clear HO199; clear HO206; clear HO212; clear HO220; clear HO227; clear BK193; clear BK194; clear BK208; clear BK213; clear BK222; clear HB; have HO199 := n0_; have HO206 := n1_; have HO212 := n2_; have HO220 := n3_; have HO227 := n4_; have BK193 := n5_; have BK194 := n6_; have BK208 := n7_; have BK213 := n8_; have BK222 := n9_; have HB := n10_; clear n0_ n1_ n2_ n3_ n4_ n5_ n6_ n7_ n8_ n9_ n10_; (try clear hb); (try clear hb2); (try clear hk); (try clear hi)))
             have n0_ := Aside0.mk (Kd.R_drew HO199.out)
             have n1_ := Aside0.mk (Kd.R_drew HO206.out)
             have n2_ := Aside0.mk (Kd.R_drew HO212.out)
             have n3_ := Aside0.mk (Kd.R_drew HO220.out)
             have n4_ := Aside0.mk (Kd.R_drew HO227.out)
             have n5_ := Aside0.mk (blk_drew BK193.out)
             have n6_ := Aside0.mk (blk_drew BK194.out)
             have n7_ := Aside0.mk (blk_drew BK208.out)
             have n8_ := Aside0.mk (blk_drew BK213.out)
             have n9_ := Aside0.mk (blk_drew BK222.out)
             have n10_ := Aside0.mk (below_drew1 HB.out)
             clear HO199
             clear HO206
             clear HO212
             clear HO220
             clear HO227
             clear BK193
             clear BK194
             clear BK208
             clear BK213
             clear BK222
             clear HB
             have HO199 := n0_
             have HO206 := n1_
             have HO212 := n2_
             have HO220 := n3_
             have HO227 := n4_
             have BK193 := n5_
             have BK194 := n6_
             have BK208 := n7_
             have BK213 := n8_
             have BK222 := n9_
             have HB := n10_
             clear n0_ n1_ n2_ n3_ n4_ n5_ n6_ n7_ n8_ n9_ n10_
             refine start_ (n := 11) (S := fun w' => True) (ds := []) #[false, false, false, false, false, false, false, false, false, false, false] (by kernel_rfl) rfl rfl trivial (fun hHeld => ?_); refine with_tabW laws_FnExactAddClue.tab24 laws_FnExactAddClue.bits24 (fun HT_ HW_ => ?_)
             generalize w94.drew = w95 at HO199 HO206 HO212 HO220 HO227 BK193 BK194 BK208 BK213 BK222 HB hHeld ⊢
             refine inv_at [0, 1, 2, 3, 4, 5, 6, 7, 8, 9, 10] (fun a0_ b a w' => ∃ (v237 : Value) (v244 : Value) (gb247 : Nat) (m1_ : Value) (m4_ : Value) (m5_ : Value) (m6_ : Value) (m8_ : Value), a = putSel a0_ b [(0, 80, .agg #[.int .i64 a0_0, .slice A0_1 l0_1.length c0_1]), (1, 81, m1_), (2, 82, .agg #[.int .i64 a1_0, .int .i64 a1_1, .int .i64 a1_2]), (3, 83, .agg #[.int .i64 t239, .int .i64 t240, .int .i64 t241]), (4, 84, m4_), (5, 79, m5_), (6, 85, m6_), (7, 86, .bool t246), (8, 14, m8_), (10, 15, .bool t246)] ∧ (Kd.R k25 25 w' w.heap.size (fun k_ => some k_ ≠ (.slice Ao80 t204.length co80 : Value).ownBlock ∧ some k_ ≠ (.slice Ao62 t210.length co62 : Value).ownBlock ∧ some k_ ≠ (.slice Ao79 t218.length co79 : Value).ownBlock ∧ some k_ ≠ (.slice Ao84 t225.length co84 : Value).ownBlock) v198 t197) ∧ (Kd.R k25 25 w' w.heap.size (fun k_ => some k_ ≠ (v198 : Value).ownBlock ∧ some k_ ≠ (.slice Ao62 t210.length co62 : Value).ownBlock ∧ some k_ ≠ (.slice Ao79 t218.length co79 : Value).ownBlock ∧ some k_ ≠ (.slice Ao84 t225.length co84 : Value).ownBlock) (.slice Ao80 t204.length co80) t204) ∧ (Kd.R k25 25 w' w.heap.size (fun k_ => some k_ ≠ (v198 : Value).ownBlock ∧ some k_ ≠ (.slice Ao80 t204.length co80 : Value).ownBlock ∧ some k_ ≠ (.slice Ao79 t218.length co79 : Value).ownBlock ∧ some k_ ≠ (.slice Ao84 t225.length co84 : Value).ownBlock) (.slice Ao62 t210.length co62) t230) ∧ (Kd.R k25 25 w' w.heap.size (fun k_ => some k_ ≠ (v198 : Value).ownBlock ∧ some k_ ≠ (.slice Ao80 t204.length co80 : Value).ownBlock ∧ some k_ ≠ (.slice Ao62 t210.length co62 : Value).ownBlock ∧ some k_ ≠ (.slice Ao84 t225.length co84 : Value).ownBlock) (.slice Ao79 t218.length co79) t233) ∧ (Kd.R k25 25 w' w.heap.size (fun k_ => some k_ ≠ (v198 : Value).ownBlock ∧ some k_ ≠ (.slice Ao80 t204.length co80 : Value).ownBlock ∧ some k_ ≠ (.slice Ao62 t210.length co62 : Value).ownBlock ∧ some k_ ≠ (.slice Ao79 t218.length co79 : Value).ownBlock) (.slice Ao84 t225.length co84) t225) ∧ (w'.heap[gb193]? = some (.cells #[.int .i64 a0_0, .slice A0_1 l0_1.length c0_1] 30 (0, 0))) ∧ (w'.heap[gb194]? = some (.cells #[.int .i64 a1_0, .int .i64 a1_1, .int .i64 a1_2] 23 (0, 0))) ∧ (w'.heap[gb208]? = some (.cells #[.int .i64 t203, .slice Ao80 t204.length co80] 35 (0, 0))) ∧ (w'.heap[gb213]? = some (.cells #[.int .i64 t209, .slice Ao62 t210.length co62] 35 (0, 0))) ∧ (w'.heap[gb222]? = some (.cells #[.int .i64 t217, .slice Ao79 t218.length co79] 35 (0, 0))) ∧ (Below w.heap.size w w') ∧ (b 1 = true → Kd.R k25 25 w' w.heap.size (fun k_ => some k_ ≠ (v198 : Value).ownBlock ∧ some k_ ≠ (.slice Ao80 t204.length co80 : Value).ownBlock ∧ some k_ ≠ (.slice Ao62 t210.length co62 : Value).ownBlock ∧ some k_ ≠ (.slice Ao79 t218.length co79 : Value).ownBlock ∧ some k_ ≠ (.slice Ao84 t225.length co84 : Value).ownBlock) v237 t236) ∧ (b 4 = true → Kd.R k25 25 w' w.heap.size (fun k_ => some k_ ≠ (v198 : Value).ownBlock ∧ some k_ ≠ (.slice Ao80 t204.length co80 : Value).ownBlock ∧ some k_ ≠ (.slice Ao62 t210.length co62 : Value).ownBlock ∧ some k_ ≠ (.slice Ao79 t218.length co79 : Value).ownBlock ∧ some k_ ≠ (.slice Ao84 t225.length co84 : Value).ownBlock) v244 t243) ∧ (b 8 = true → b 9 = false → w'.heap[gb247]? = some (.cells #[.int .i64 0, .slice none 0 0] 35 (0, 0))) ∧ (b 8 = true → w.heap.size ≤ gb247) ∧ (b 8 = true → w.heap.size ≤ gb247) ∧ (b 8 = true → gb193 ≠ gb247) ∧ (b 8 = true → gb247 ≠ gb193) ∧ (b 8 = true → gb194 ≠ gb247) ∧ (b 8 = true → gb247 ≠ gb194) ∧ (b 8 = true → gb208 ≠ gb247) ∧ (b 8 = true → gb247 ≠ gb208) ∧ (b 8 = true → gb213 ≠ gb247) ∧ (b 8 = true → gb247 ≠ gb213) ∧ (b 8 = true → gb222 ≠ gb247) ∧ (b 8 = true → gb247 ≠ gb222) ∧ (b 9 = true → w'.heap[gb247]? = some (.cells #[.int .i64 t242, v244] 35 (0, 0))) ∧ (b 1 = true → (m1_ : Value) = .agg #[.int .i64 t235, v237]) ∧ (b 4 = true → (m4_ : Value) = .tuple #[.agg #[.int .i64 t242, v244], .bool t246]) ∧ (b 5 = true → (m5_ : Value) = .tuple #[.agg #[.int .i64 t242, v244], .bool t246]) ∧ (b 6 = true → (m6_ : Value) = .agg #[.int .i64 t242, v244]) ∧ (b 8 = true → (m8_ : Value) = .pointer (some ⟨gb247, 0, none⟩))) HT_.out HW_.out (by kernel_rfl) (by kernel_rfl) ?_ ?_ ?_
             ·exact ⟨.bool false, .bool false, 0, .bool false, .bool false, .bool false, .bool false, .bool false, by simp only [putSel, Bool.false_eq_true, if_false], HO199.out, HO206.out, HO212.out, HO220.out, HO227.out, BK193.out, BK194.out, BK208.out, BK213.out, BK222.out, HB.out, fun h_ => absurd h_ (by decide), fun h_ => absurd h_ (by decide), fun h_ => absurd h_ (by decide), fun h_ => absurd h_ (by decide), fun h_ => absurd h_ (by decide), fun h_ => absurd h_ (by decide), fun h_ => absurd h_ (by decide), fun h_ => absurd h_ (by decide), fun h_ => absurd h_ (by decide), fun h_ => absurd h_ (by decide), fun h_ => absurd h_ (by decide), fun h_ => absurd h_ (by decide), fun h_ => absurd h_ (by decide), fun h_ => absurd h_ (by decide), fun h_ => absurd h_ (by decide), fun h_ => absurd h_ (by decide), fun h_ => absurd h_ (by decide), fun h_ => absurd h_ (by decide), fun h_ => absurd h_ (by decide), fun h_ => absurd h_ (by decide), fun h_ => absurd h_ (by decide)⟩
             ·skip
              clear BK193 BK194 BK208 BK213 BK222 HB HO199 HO206 HO212 HO220 HO227
              refine steps_cons ?_ ?_
              ·rintro b a w' ⟨v237, v244, gb247, m1_, m4_, m5_, m6_, m8_, ha, Q_HO199, Q_HO206, Q_HO212, Q_HO220, Q_HO227, Q_BK193, Q_BK194, Q_BK208, Q_BK213, Q_BK222, Q_HB, Q_HO238, Q_HO245, Q_BK247, Q_GW247, Q_GE247, Q_NB193_247, Q_NB247_193, Q_NB194_247, Q_NB247_194, Q_NB208_247, Q_NB247_208, Q_NB213_247, Q_NB247_213, Q_NB222_247, Q_NB247_222, Q_BK247_e9, Q_X1_, Q_X4_, Q_X5_, Q_X6_, Q_X8_⟩ hb_ hon hoff
               refine ⟨_, rfl, fun K hK => ?_⟩
               have e2 : a.tmps[2]? = some (.pointer (some ⟨gb193, 0, none⟩)) := by rw [ha]; exact (putSel_off rfl).trans rfl
               replace ha := Aside0.mk ha
               have HO199 := Aside0.mk Q_HO199
               have HO206 := Aside0.mk Q_HO206
               have HO212 := Aside0.mk Q_HO212
               have HO220 := Aside0.mk Q_HO220
               have HO227 := Aside0.mk Q_HO227
               have BK193 := Aside0.mk Q_BK193
               have BK194 := Aside0.mk Q_BK194
               have BK208 := Aside0.mk Q_BK208
               have BK213 := Aside0.mk Q_BK213
               have BK222 := Aside0.mk Q_BK222
               have HB := Aside0.mk Q_HB
               have hc0_ : w'.cell? ⟨gb193, 0, none⟩ = some (.int .i64 a0_0) := (blk_cell BK193.out 0).trans rfl
               have hc1_ : w'.cell? ⟨gb193, 1, none⟩ = some (.slice A0_1 l0_1.length c0_1) := (blk_cell BK193.out 1).trans rfl
               refine value_ (w1 := w') (v := .agg #[.int .i64 a0_0, .slice A0_1 l0_1.length c0_1]) (by rfl) rfl ?_ ?_
               ·go_simp
                (try simp only [i64_w])
                try rfl
               refine hK.out _ _ ⟨v237, v244, gb247, m1_, m4_, m5_, m6_, m8_, (by rw [ha.out]; exact putSel_upk 0 hb_ rfl rfl rfl), Q_HO199, Q_HO206, Q_HO212, Q_HO220, Q_HO227, Q_BK193, Q_BK194, Q_BK208, Q_BK213, Q_BK222, Q_HB, fun h0_ => absurd ((hoff 1 (by kernel_rfl)).symm.trans h0_) (by decide), fun h0_ => absurd ((hoff 4 (by kernel_rfl)).symm.trans h0_) (by decide), Q_BK247, Q_GW247, Q_GE247, Q_NB193_247, Q_NB247_193, Q_NB194_247, Q_NB247_194, Q_NB208_247, Q_NB247_208, Q_NB213_247, Q_NB247_213, Q_NB222_247, Q_NB247_222, fun h0_ => absurd ((hoff 9 (by kernel_rfl)).symm.trans h0_) (by decide), fun h0_ => absurd ((hoff 1 (by kernel_rfl)).symm.trans h0_) (by decide), fun h0_ => absurd ((hoff 4 (by kernel_rfl)).symm.trans h0_) (by decide), fun h0_ => absurd ((hoff 5 (by kernel_rfl)).symm.trans h0_) (by decide), fun h0_ => absurd ((hoff 6 (by kernel_rfl)).symm.trans h0_) (by decide), Q_X8_⟩
              refine steps_cons ?_ ?_
              ·rintro b a w' ⟨v237, v244, gb247, m1_, m4_, m5_, m6_, m8_, ha, Q_HO199, Q_HO206, Q_HO212, Q_HO220, Q_HO227, Q_BK193, Q_BK194, Q_BK208, Q_BK213, Q_BK222, Q_HB, Q_HO238, Q_HO245, Q_BK247, Q_GW247, Q_GE247, Q_NB193_247, Q_NB247_193, Q_NB194_247, Q_NB247_194, Q_NB208_247, Q_NB247_208, Q_NB213_247, Q_NB247_213, Q_NB222_247, Q_NB247_222, Q_BK247_e9, Q_X1_, Q_X4_, Q_X5_, Q_X6_, Q_X8_⟩ hb_ hon hoff
               refine ⟨_, rfl, fun K hK => ?_⟩
               have e80 : a.tmps[80]? = some (.agg #[.int .i64 a0_0, .slice A0_1 l0_1.length c0_1]) := by rw [ha]; exact putSel_on (e := (0, 80, .agg #[.int .i64 a0_0, .slice A0_1 l0_1.length c0_1])) 0 rfl rfl (hon 0 (by kernel_rfl)) rfl
               replace ha := Aside0.mk ha
               have HO199 := Aside0.mk Q_HO199
               have HO206 := Aside0.mk Q_HO206
               have HO212 := Aside0.mk Q_HO212
               have HO220 := Aside0.mk Q_HO220
               have HO227 := Aside0.mk Q_HO227
               have BK193 := Aside0.mk Q_BK193
               have BK194 := Aside0.mk Q_BK194
               have BK208 := Aside0.mk Q_BK208
               have BK213 := Aside0.mk Q_BK213
               have BK222 := Aside0.mk Q_BK222
               have HB := Aside0.mk Q_HB
               refine goes_ Try.func17 (by kernel_rfl) rfl #[.agg #[.int .i64 a0_0, .slice A0_1 l0_1.length c0_1]] (by rfl) rfl rfl (by first | (simp only [List.map_toArray, List.map_cons, List.map_nil, Act.eval, Array.getD_eq_getD_getElem?, Option.getD_some, e80]; done) | (simp only [List.map_toArray, List.map_cons, List.map_nil, Act.eval, Array.getD_eq_getD_getElem?, Option.getD_some, e80]; rfl)) ?_
               with_reducible refine (laws_toPuzzle.calls k a0_0 _ _ l0_1 t235 t236 _ ?side1 ?side2 A30.out).mono ?_
               (case side1 => repeat (first | exact (Kd.C_below HR0_1.out HB.out) | (with_reducible refine Kd.C_alloc ?_ _) | (with_reducible refine Kd.C_drewN ?_ _) | (with_reducible refine Kd.C_drew ?_)))
               (case side2 => exact HC0_1.out)
               rintro e w96 ⟨v237, rfl, ho0, hb⟩
               refine ⟨_, rfl, ?_⟩
               have n0_ := Aside0.mk (Kd.R_elder' (by (with_reducible repeat (first | apply Kd.R_alloc | apply Kd.R_drewN | apply Kd.R_drew)); exact HO199.out) (Kd.R_base ho0) hb)
               have n1_ := Aside0.mk (Kd.R_elder' (by (with_reducible repeat (first | apply Kd.R_alloc | apply Kd.R_drewN | apply Kd.R_drew)); exact HO206.out) (Kd.R_base ho0) hb)
               have n2_ := Aside0.mk (Kd.R_elder' (by (with_reducible repeat (first | apply Kd.R_alloc | apply Kd.R_drewN | apply Kd.R_drew)); exact HO212.out) (Kd.R_base ho0) hb)
               have n3_ := Aside0.mk (Kd.R_elder' (by (with_reducible repeat (first | apply Kd.R_alloc | apply Kd.R_drewN | apply Kd.R_drew)); exact HO220.out) (Kd.R_base ho0) hb)
               have n4_ := Aside0.mk (Kd.R_elder' (by (with_reducible repeat (first | apply Kd.R_alloc | apply Kd.R_drewN | apply Kd.R_drew)); exact HO227.out) (Kd.R_base ho0) hb)
               have n5_ := Aside0.mk (Kd.R_lower (Kd.R_new' (Kd.R_new' (Kd.R_new' (Kd.R_new' (Kd.R_new' ho0 (Kd.R_lt (by (with_reducible repeat (first | apply Kd.R_alloc | apply Kd.R_drewN | apply Kd.R_drew)); exact HO199.out))) (Kd.R_lt (by (with_reducible repeat (first | apply Kd.R_alloc | apply Kd.R_drewN | apply Kd.R_drew)); exact HO206.out))) (Kd.R_lt (by (with_reducible repeat (first | apply Kd.R_alloc | apply Kd.R_drewN | apply Kd.R_drew)); exact HO212.out))) (Kd.R_lt (by (with_reducible repeat (first | apply Kd.R_alloc | apply Kd.R_drewN | apply Kd.R_drew)); exact HO220.out))) (Kd.R_lt (by (with_reducible repeat (first | apply Kd.R_alloc | apply Kd.R_drewN | apply Kd.R_drew)); exact HO227.out))) (below_size (by repeat (first | (with_reducible first | exact HB.out | apply below_alloc | apply pw_below_drewN | apply below_drew1 | refine below_set ?_ GE193.out | refine below_set ?_ GE194.out | refine below_set ?_ GE208.out | refine below_set ?_ GE213.out | refine below_set ?_ GE222.out) | exact HB.out))))
               have n6_ := Aside0.mk (blk_below (g := gb193) (o := .cells #[.int .i64 a0_0, .slice A0_1 l0_1.length c0_1] 30 (0, 0)) (by (with_reducible repeat (first | refine blk_drewN ?_ _ | refine blk_drew ?_ | refine blk_alloc ?_ _)); exact BK193.out) hb)
               have n7_ := Aside0.mk (blk_below (g := gb194) (o := .cells #[.int .i64 a1_0, .int .i64 a1_1, .int .i64 a1_2] 23 (0, 0)) (by (with_reducible repeat (first | refine blk_drewN ?_ _ | refine blk_drew ?_ | refine blk_alloc ?_ _)); exact BK194.out) hb)
               have n8_ := Aside0.mk (blk_below (g := gb208) (o := .cells #[.int .i64 t203, .slice Ao80 t204.length co80] 35 (0, 0)) (by (with_reducible repeat (first | refine blk_drewN ?_ _ | refine blk_drew ?_ | refine blk_alloc ?_ _)); exact BK208.out) hb)
               have n9_ := Aside0.mk (blk_below (g := gb213) (o := .cells #[.int .i64 t209, .slice Ao62 t210.length co62] 35 (0, 0)) (by (with_reducible repeat (first | refine blk_drewN ?_ _ | refine blk_drew ?_ | refine blk_alloc ?_ _)); exact BK213.out) hb)
               have n10_ := Aside0.mk (blk_below (g := gb222) (o := .cells #[.int .i64 t217, .slice Ao79 t218.length co79] 35 (0, 0)) (by (with_reducible repeat (first | refine blk_drewN ?_ _ | refine blk_drew ?_ | refine blk_alloc ?_ _)); exact BK222.out) hb)
               have n11_ := Aside0.mk (below_step (by repeat (first | (with_reducible first | exact HB.out | apply below_alloc | apply pw_below_drewN | apply below_drew1 | refine below_set ?_ GE193.out | refine below_set ?_ GE194.out | refine below_set ?_ GE208.out | refine below_set ?_ GE213.out | refine below_set ?_ GE222.out) | exact HB.out)) hb)
               have z_BK247 := fun (h0_ : b 8 = true) (h1_ : b 9 = false) => (show w96.heap[gb247]? = some (.cells #[.int .i64 0, .slice none 0 0] 35 (0, 0)) from by first | exact (blk_below (g := gb247) (o := .cells #[.int .i64 0, .slice none 0 0] 35 (0, 0)) (by (with_reducible repeat (first | refine blk_drewN ?_ _ | refine blk_drew ?_ | refine blk_alloc ?_ _)); exact (Q_BK247 h0_ h1_)) hb))
               clear HO199
               clear HO206
               clear HO212
               clear HO220
               clear HO227
               clear BK193
               clear BK194
               clear BK208
               clear BK213
               clear BK222
               clear HB
               have HO199 := n0_
               have HO206 := n1_
               have HO212 := n2_
               have HO220 := n3_
               have HO227 := n4_
               have HO238 := n5_
               have BK193 := n6_
               have BK194 := n7_
               have BK208 := n8_
               have BK213 := n9_
               have BK222 := n10_
               have HB := n11_
               clear n0_ n1_ n2_ n3_ n4_ n5_ n6_ n7_ n8_ n9_ n10_ n11_
               (try clear hb)
               (try clear hb2)
               (try clear hk)
               (try clear hi)
               (try clear ho0)
               refine hK.out _ _ ⟨v237, v244, gb247, (.agg #[.int .i64 t235, v237]), m4_, m5_, m6_, m8_, (by rw [ha.out]; exact putSel_upk 1 hb_ rfl rfl rfl), (by (with_reducible repeat (first | apply Kd.R_alloc | apply Kd.R_drewN | apply Kd.R_drew)); exact Kd.R_mono HO199.out (by first | exact fun _ hk => ⟨hk.1.1, ⟨hk.1.2.1, ⟨hk.1.2.2.1, ⟨hk.1.2.2.2, hk.2⟩⟩⟩⟩ | grind)), (by (with_reducible repeat (first | apply Kd.R_alloc | apply Kd.R_drewN | apply Kd.R_drew)); exact Kd.R_mono HO206.out (by first | exact fun _ hk => ⟨hk.1.1, ⟨hk.1.2.1, ⟨hk.1.2.2.1, ⟨hk.1.2.2.2, hk.2⟩⟩⟩⟩ | grind)), (by (with_reducible repeat (first | apply Kd.R_alloc | apply Kd.R_drewN | apply Kd.R_drew)); exact Kd.R_mono HO212.out (by first | exact fun _ hk => ⟨hk.1.1, ⟨hk.1.2.1, ⟨hk.1.2.2.1, ⟨hk.1.2.2.2, hk.2⟩⟩⟩⟩ | grind)), (by (with_reducible repeat (first | apply Kd.R_alloc | apply Kd.R_drewN | apply Kd.R_drew)); exact Kd.R_mono HO220.out (by first | exact fun _ hk => ⟨hk.1.1, ⟨hk.1.2.1, ⟨hk.1.2.2.1, ⟨hk.1.2.2.2, hk.2⟩⟩⟩⟩ | grind)), (by (with_reducible repeat (first | apply Kd.R_alloc | apply Kd.R_drewN | apply Kd.R_drew)); exact Kd.R_mono HO227.out (by first | exact fun _ hk => ⟨hk.1.1, ⟨hk.1.2.1, ⟨hk.1.2.2.1, ⟨hk.1.2.2.2, hk.2⟩⟩⟩⟩ | grind)), (by (with_reducible repeat (first | refine blk_drewN ?_ _ | refine blk_drew ?_ | refine blk_alloc ?_ _)); exact BK193.out), (by (with_reducible repeat (first | refine blk_drewN ?_ _ | refine blk_drew ?_ | refine blk_alloc ?_ _)); exact BK194.out), (by (with_reducible repeat (first | refine blk_drewN ?_ _ | refine blk_drew ?_ | refine blk_alloc ?_ _)); exact BK208.out), (by (with_reducible repeat (first | refine blk_drewN ?_ _ | refine blk_drew ?_ | refine blk_alloc ?_ _)); exact BK213.out), (by (with_reducible repeat (first | refine blk_drewN ?_ _ | refine blk_drew ?_ | refine blk_alloc ?_ _)); exact BK222.out), (by repeat (first | (with_reducible first | exact HB.out | apply below_alloc | apply pw_below_drewN | apply below_drew1 | refine below_set ?_ GE193.out | refine below_set ?_ GE194.out | refine below_set ?_ GE208.out | refine below_set ?_ GE213.out | refine below_set ?_ GE222.out) | exact HB.out)), fun _ => (by (with_reducible repeat (first | apply Kd.R_alloc | apply Kd.R_drewN | apply Kd.R_drew)); exact Kd.R_mono HO238.out (by first | exact fun _ hk => ⟨hk.1.1.1.1.2, ⟨hk.1.1.1.2, ⟨hk.1.1.2, ⟨hk.1.2, hk.2⟩⟩⟩⟩ | grind)), fun h0_ => absurd ((hoff 4 (by kernel_rfl)).symm.trans h0_) (by decide), z_BK247, Q_GW247, Q_GE247, Q_NB193_247, Q_NB247_193, Q_NB194_247, Q_NB247_194, Q_NB208_247, Q_NB247_208, Q_NB213_247, Q_NB247_213, Q_NB222_247, Q_NB247_222, fun h0_ => absurd ((hoff 9 (by kernel_rfl)).symm.trans h0_) (by decide), fun _ => rfl, fun h0_ => absurd ((hoff 4 (by kernel_rfl)).symm.trans h0_) (by decide), fun h0_ => absurd ((hoff 5 (by kernel_rfl)).symm.trans h0_) (by decide), fun h0_ => absurd ((hoff 6 (by kernel_rfl)).symm.trans h0_) (by decide), Q_X8_⟩
              refine steps_cons ?_ ?_
              ·rintro b a w' ⟨v237, v244, gb247, m1_, m4_, m5_, m6_, m8_, ha, Q_HO199, Q_HO206, Q_HO212, Q_HO220, Q_HO227, Q_BK193, Q_BK194, Q_BK208, Q_BK213, Q_BK222, Q_HB, Q_HO238, Q_HO245, Q_BK247, Q_GW247, Q_GE247, Q_NB193_247, Q_NB247_193, Q_NB194_247, Q_NB247_194, Q_NB208_247, Q_NB247_208, Q_NB213_247, Q_NB247_213, Q_NB222_247, Q_NB247_222, Q_BK247_e9, Q_X1_, Q_X4_, Q_X5_, Q_X6_, Q_X8_⟩ hb_ hon hoff
               refine ⟨_, rfl, fun K hK => ?_⟩
               have e3 : a.tmps[3]? = some (.pointer (some ⟨gb194, 0, none⟩)) := by rw [ha]; exact (putSel_off rfl).trans rfl
               replace ha := Aside0.mk ha
               have HO199 := Aside0.mk Q_HO199
               have HO206 := Aside0.mk Q_HO206
               have HO212 := Aside0.mk Q_HO212
               have HO220 := Aside0.mk Q_HO220
               have HO227 := Aside0.mk Q_HO227
               have BK193 := Aside0.mk Q_BK193
               have BK194 := Aside0.mk Q_BK194
               have BK208 := Aside0.mk Q_BK208
               have BK213 := Aside0.mk Q_BK213
               have BK222 := Aside0.mk Q_BK222
               have HB := Aside0.mk Q_HB
               have hc0_ : w'.cell? ⟨gb194, 0, none⟩ = some (.int .i64 a1_0) := (blk_cell BK194.out 0).trans rfl
               have hc1_ : w'.cell? ⟨gb194, 1, none⟩ = some (.int .i64 a1_1) := (blk_cell BK194.out 1).trans rfl
               have hc2_ : w'.cell? ⟨gb194, 2, none⟩ = some (.int .i64 a1_2) := (blk_cell BK194.out 2).trans rfl
               refine value_ (w1 := w') (v := .agg #[.int .i64 a1_0, .int .i64 a1_1, .int .i64 a1_2]) (by rfl) rfl ?_ ?_
               ·go_simp
                (try simp only [i64_w])
                try rfl
               refine hK.out _ _ ⟨v237, v244, gb247, m1_, m4_, m5_, m6_, m8_, (by rw [ha.out]; exact putSel_upk 2 hb_ rfl rfl rfl), Q_HO199, Q_HO206, Q_HO212, Q_HO220, Q_HO227, Q_BK193, Q_BK194, Q_BK208, Q_BK213, Q_BK222, Q_HB, Q_HO238, fun h0_ => absurd ((hoff 4 (by kernel_rfl)).symm.trans h0_) (by decide), Q_BK247, Q_GW247, Q_GE247, Q_NB193_247, Q_NB247_193, Q_NB194_247, Q_NB247_194, Q_NB208_247, Q_NB247_208, Q_NB213_247, Q_NB247_213, Q_NB222_247, Q_NB247_222, fun h0_ => absurd ((hoff 9 (by kernel_rfl)).symm.trans h0_) (by decide), Q_X1_, fun h0_ => absurd ((hoff 4 (by kernel_rfl)).symm.trans h0_) (by decide), fun h0_ => absurd ((hoff 5 (by kernel_rfl)).symm.trans h0_) (by decide), fun h0_ => absurd ((hoff 6 (by kernel_rfl)).symm.trans h0_) (by decide), Q_X8_⟩
              refine steps_cons ?_ ?_
              ·rintro b a w' ⟨v237, v244, gb247, m1_, m4_, m5_, m6_, m8_, ha, Q_HO199, Q_HO206, Q_HO212, Q_HO220, Q_HO227, Q_BK193, Q_BK194, Q_BK208, Q_BK213, Q_BK222, Q_HB, Q_HO238, Q_HO245, Q_BK247, Q_GW247, Q_GE247, Q_NB193_247, Q_NB247_193, Q_NB194_247, Q_NB247_194, Q_NB208_247, Q_NB247_208, Q_NB213_247, Q_NB247_213, Q_NB222_247, Q_NB247_222, Q_BK247_e9, Q_X1_, Q_X4_, Q_X5_, Q_X6_, Q_X8_⟩ hb_ hon hoff
               refine ⟨_, rfl, fun K hK => ?_⟩
               have e82 : a.tmps[82]? = some (.agg #[.int .i64 a1_0, .int .i64 a1_1, .int .i64 a1_2]) := by rw [ha]; exact putSel_on (e := (2, 82, .agg #[.int .i64 a1_0, .int .i64 a1_1, .int .i64 a1_2])) 2 rfl rfl (hon 2 (by kernel_rfl)) rfl
               replace ha := Aside0.mk ha
               have HO199 := Aside0.mk Q_HO199
               have HO206 := Aside0.mk Q_HO206
               have HO212 := Aside0.mk Q_HO212
               have HO220 := Aside0.mk Q_HO220
               have HO227 := Aside0.mk Q_HO227
               have BK193 := Aside0.mk Q_BK193
               have BK194 := Aside0.mk Q_BK194
               have BK208 := Aside0.mk Q_BK208
               have BK213 := Aside0.mk Q_BK213
               have BK222 := Aside0.mk Q_BK222
               have HB := Aside0.mk Q_HB
               have HO238 := Aside0.mk (Q_HO238 (hon 1 (by kernel_rfl)))
               refine goes_ Try.func13 (by kernel_rfl) rfl #[.agg #[.int .i64 a1_0, .int .i64 a1_1, .int .i64 a1_2]] (by rfl) rfl rfl (by first | (simp only [List.map_toArray, List.map_cons, List.map_nil, Act.eval, Array.getD_eq_getD_getElem?, Option.getD_some, e82]; done) | (simp only [List.map_toArray, List.map_cons, List.map_nil, Act.eval, Array.getD_eq_getD_getElem?, Option.getD_some, e82]; rfl)) ?_
               with_reducible refine (laws_toClue.calls a1_0 a1_1 a1_2 t239 t240 t241 _ A31.out).mono ?_
               rintro e w98 ⟨rfl, hb⟩
               refine ⟨_, rfl, ?_⟩
               have n0_ := Aside0.mk (Kd.R_below (by (with_reducible repeat (first | apply Kd.R_alloc | apply Kd.R_drewN | apply Kd.R_drew)); exact HO199.out) hb)
               have n1_ := Aside0.mk (Kd.R_below (by (with_reducible repeat (first | apply Kd.R_alloc | apply Kd.R_drewN | apply Kd.R_drew)); exact HO206.out) hb)
               have n2_ := Aside0.mk (Kd.R_below (by (with_reducible repeat (first | apply Kd.R_alloc | apply Kd.R_drewN | apply Kd.R_drew)); exact HO212.out) hb)
               have n3_ := Aside0.mk (Kd.R_below (by (with_reducible repeat (first | apply Kd.R_alloc | apply Kd.R_drewN | apply Kd.R_drew)); exact HO220.out) hb)
               have n4_ := Aside0.mk (Kd.R_below (by (with_reducible repeat (first | apply Kd.R_alloc | apply Kd.R_drewN | apply Kd.R_drew)); exact HO227.out) hb)
               have n5_ := Aside0.mk (Kd.R_below (by (with_reducible repeat (first | apply Kd.R_alloc | apply Kd.R_drewN | apply Kd.R_drew)); exact HO238.out) hb)
               have n6_ := Aside0.mk (blk_below (g := gb193) (o := .cells #[.int .i64 a0_0, .slice A0_1 l0_1.length c0_1] 30 (0, 0)) (by (with_reducible repeat (first | refine blk_drewN ?_ _ | refine blk_drew ?_ | refine blk_alloc ?_ _)); exact BK193.out) hb)
               have n7_ := Aside0.mk (blk_below (g := gb194) (o := .cells #[.int .i64 a1_0, .int .i64 a1_1, .int .i64 a1_2] 23 (0, 0)) (by (with_reducible repeat (first | refine blk_drewN ?_ _ | refine blk_drew ?_ | refine blk_alloc ?_ _)); exact BK194.out) hb)
               have n8_ := Aside0.mk (blk_below (g := gb208) (o := .cells #[.int .i64 t203, .slice Ao80 t204.length co80] 35 (0, 0)) (by (with_reducible repeat (first | refine blk_drewN ?_ _ | refine blk_drew ?_ | refine blk_alloc ?_ _)); exact BK208.out) hb)
               have n9_ := Aside0.mk (blk_below (g := gb213) (o := .cells #[.int .i64 t209, .slice Ao62 t210.length co62] 35 (0, 0)) (by (with_reducible repeat (first | refine blk_drewN ?_ _ | refine blk_drew ?_ | refine blk_alloc ?_ _)); exact BK213.out) hb)
               have n10_ := Aside0.mk (blk_below (g := gb222) (o := .cells #[.int .i64 t217, .slice Ao79 t218.length co79] 35 (0, 0)) (by (with_reducible repeat (first | refine blk_drewN ?_ _ | refine blk_drew ?_ | refine blk_alloc ?_ _)); exact BK222.out) hb)
               have n11_ := Aside0.mk (below_step (by repeat (first | (with_reducible first | exact HB.out | apply below_alloc | apply pw_below_drewN | apply below_drew1 | refine below_set ?_ GE193.out | refine below_set ?_ GE194.out | refine below_set ?_ GE208.out | refine below_set ?_ GE213.out | refine below_set ?_ GE222.out) | exact HB.out)) hb)
               have z_BK247 := fun (h0_ : b 8 = true) (h1_ : b 9 = false) => (show w98.heap[gb247]? = some (.cells #[.int .i64 0, .slice none 0 0] 35 (0, 0)) from by first | exact (blk_below (g := gb247) (o := .cells #[.int .i64 0, .slice none 0 0] 35 (0, 0)) (by (with_reducible repeat (first | refine blk_drewN ?_ _ | refine blk_drew ?_ | refine blk_alloc ?_ _)); exact (Q_BK247 h0_ h1_)) hb))
               clear HO199
               clear HO206
               clear HO212
               clear HO220
               clear HO227
               clear HO238
               clear BK193
               clear BK194
               clear BK208
               clear BK213
               clear BK222
               clear HB
               have HO199 := n0_
               have HO206 := n1_
               have HO212 := n2_
               have HO220 := n3_
               have HO227 := n4_
               have HO238 := n5_
               have BK193 := n6_
               have BK194 := n7_
               have BK208 := n8_
               have BK213 := n9_
               have BK222 := n10_
               have HB := n11_
               clear n0_ n1_ n2_ n3_ n4_ n5_ n6_ n7_ n8_ n9_ n10_ n11_
               (try clear hb)
               (try clear hb2)
               (try clear hk)
               (try clear hi)
               refine hK.out _ _ ⟨v237, v244, gb247, m1_, m4_, m5_, m6_, m8_, (by rw [ha.out]; exact putSel_upk 3 hb_ rfl rfl rfl), (by (with_reducible repeat (first | apply Kd.R_alloc | apply Kd.R_drewN | apply Kd.R_drew)); exact HO199.out), (by (with_reducible repeat (first | apply Kd.R_alloc | apply Kd.R_drewN | apply Kd.R_drew)); exact HO206.out), (by (with_reducible repeat (first | apply Kd.R_alloc | apply Kd.R_drewN | apply Kd.R_drew)); exact HO212.out), (by (with_reducible repeat (first | apply Kd.R_alloc | apply Kd.R_drewN | apply Kd.R_drew)); exact HO220.out), (by (with_reducible repeat (first | apply Kd.R_alloc | apply Kd.R_drewN | apply Kd.R_drew)); exact HO227.out), (by (with_reducible repeat (first | refine blk_drewN ?_ _ | refine blk_drew ?_ | refine blk_alloc ?_ _)); exact BK193.out), (by (with_reducible repeat (first | refine blk_drewN ?_ _ | refine blk_drew ?_ | refine blk_alloc ?_ _)); exact BK194.out), (by (with_reducible repeat (first | refine blk_drewN ?_ _ | refine blk_drew ?_ | refine blk_alloc ?_ _)); exact BK208.out), (by (with_reducible repeat (first | refine blk_drewN ?_ _ | refine blk_drew ?_ | refine blk_alloc ?_ _)); exact BK213.out), (by (with_reducible repeat (first | refine blk_drewN ?_ _ | refine blk_drew ?_ | refine blk_alloc ?_ _)); exact BK222.out), (by repeat (first | (with_reducible first | exact HB.out | apply below_alloc | apply pw_below_drewN | apply below_drew1 | refine below_set ?_ GE193.out | refine below_set ?_ GE194.out | refine below_set ?_ GE208.out | refine below_set ?_ GE213.out | refine below_set ?_ GE222.out) | exact HB.out)), fun _ => (by (with_reducible repeat (first | apply Kd.R_alloc | apply Kd.R_drewN | apply Kd.R_drew)); exact HO238.out), fun h0_ => absurd ((hoff 4 (by kernel_rfl)).symm.trans h0_) (by decide), z_BK247, Q_GW247, Q_GE247, Q_NB193_247, Q_NB247_193, Q_NB194_247, Q_NB247_194, Q_NB208_247, Q_NB247_208, Q_NB213_247, Q_NB247_213, Q_NB222_247, Q_NB247_222, fun h0_ => absurd ((hoff 9 (by kernel_rfl)).symm.trans h0_) (by decide), Q_X1_, fun h0_ => absurd ((hoff 4 (by kernel_rfl)).symm.trans h0_) (by decide), fun h0_ => absurd ((hoff 5 (by kernel_rfl)).symm.trans h0_) (by decide), fun h0_ => absurd ((hoff 6 (by kernel_rfl)).symm.trans h0_) (by decide), Q_X8_⟩
              refine steps_cons ?_ ?_
              ·rintro b a w' ⟨v237, v244, gb247, m1_, m4_, m5_, m6_, m8_, ha, Q_HO199, Q_HO206, Q_HO212, Q_HO220, Q_HO227, Q_BK193, Q_BK194, Q_BK208, Q_BK213, Q_BK222, Q_HB, Q_HO238, Q_HO245, Q_BK247, Q_GW247, Q_GE247, Q_NB193_247, Q_NB247_193, Q_NB194_247, Q_NB247_194, Q_NB208_247, Q_NB247_208, Q_NB213_247, Q_NB247_213, Q_NB222_247, Q_NB247_222, Q_BK247_e9, Q_X1_, Q_X4_, Q_X5_, Q_X6_, Q_X8_⟩ hb_ hon hoff
               refine ⟨_, rfl, fun K hK => ?_⟩
               have e81 : a.tmps[81]? = some (m1_) := by rw [ha]; exact putSel_on (e := (1, 81, m1_)) 1 rfl rfl (hon 1 (by kernel_rfl)) rfl
               rw [Q_X1_ (hon 1 (by kernel_rfl))] at e81
               have e83 : a.tmps[83]? = some (.agg #[.int .i64 t239, .int .i64 t240, .int .i64 t241]) := by rw [ha]; exact putSel_on (e := (3, 83, .agg #[.int .i64 t239, .int .i64 t240, .int .i64 t241])) 3 rfl rfl (hon 3 (by kernel_rfl)) rfl
               replace ha := Aside0.mk ha
               have HO199 := Aside0.mk Q_HO199
               have HO206 := Aside0.mk Q_HO206
               have HO212 := Aside0.mk Q_HO212
               have HO220 := Aside0.mk Q_HO220
               have HO227 := Aside0.mk Q_HO227
               have BK193 := Aside0.mk Q_BK193
               have BK194 := Aside0.mk Q_BK194
               have BK208 := Aside0.mk Q_BK208
               have BK213 := Aside0.mk Q_BK213
               have BK222 := Aside0.mk Q_BK222
               have HB := Aside0.mk Q_HB
               have HO238 := Aside0.mk (Q_HO238 (hon 1 (by kernel_rfl)))
               obtain ⟨Ao99, co99, eo99⟩ := Kd.R_slice HO238.out
               (first | subst eo99 | (injection eo99 with f1_ f2_ f3_; have f4_ := f1_.symm; have f5_ := f3_.symm; clear f1_ f2_ f3_; subst f4_; subst f5_))
               refine goes_ Try.func21 (by kernel_rfl) rfl #[.agg #[.int .i64 t235, .slice Ao99 t236.length co99], .agg #[.int .i64 t239, .int .i64 t240, .int .i64 t241]] (by rfl) rfl rfl (by first | (simp only [List.map_toArray, List.map_cons, List.map_nil, Act.eval, Array.getD_eq_getD_getElem?, Option.getD_some, e81, e83]; done) | (simp only [List.map_toArray, List.map_cons, List.map_nil, Act.eval, Array.getD_eq_getD_getElem?, Option.getD_some, e81, e83]; rfl)) ?_
               with_reducible refine (impl_AddClue.calls k t235 _ _ t236 t239 t240 t241 t242 t243 t246 _ ?side1 ?side2 A32.out).mono ?_
               (case side1 => repeat (first | exact (Kd.R_reads' HO238.out).2.2 | (with_reducible refine Kd.C_alloc ?_ _) | (with_reducible refine Kd.C_drewN ?_ _) | (with_reducible refine Kd.C_drew ?_)))
               (case side2 => exact (Kd.R_reads' HO238.out).2.1)
               rintro e w100 ⟨v244, rfl, ho0, hb⟩
               refine ⟨_, rfl, ?_⟩
               have n0_ := Aside0.mk (Kd.R_elder' (by (with_reducible repeat (first | apply Kd.R_alloc | apply Kd.R_drewN | apply Kd.R_drew)); exact HO199.out) (Kd.R_base ho0) hb)
               have n1_ := Aside0.mk (Kd.R_elder' (by (with_reducible repeat (first | apply Kd.R_alloc | apply Kd.R_drewN | apply Kd.R_drew)); exact HO206.out) (Kd.R_base ho0) hb)
               have n2_ := Aside0.mk (Kd.R_elder' (by (with_reducible repeat (first | apply Kd.R_alloc | apply Kd.R_drewN | apply Kd.R_drew)); exact HO212.out) (Kd.R_base ho0) hb)
               have n3_ := Aside0.mk (Kd.R_elder' (by (with_reducible repeat (first | apply Kd.R_alloc | apply Kd.R_drewN | apply Kd.R_drew)); exact HO220.out) (Kd.R_base ho0) hb)
               have n4_ := Aside0.mk (Kd.R_elder' (by (with_reducible repeat (first | apply Kd.R_alloc | apply Kd.R_drewN | apply Kd.R_drew)); exact HO227.out) (Kd.R_base ho0) hb)
               have n5_ := Aside0.mk (Kd.R_elder' (by (with_reducible repeat (first | apply Kd.R_alloc | apply Kd.R_drewN | apply Kd.R_drew)); exact HO238.out) (Kd.R_base ho0) hb)
               have n6_ := Aside0.mk (Kd.R_lower (Kd.R_new' (Kd.R_new' (Kd.R_new' (Kd.R_new' (Kd.R_new' (Kd.R_new' ho0 (Kd.R_lt (by (with_reducible repeat (first | apply Kd.R_alloc | apply Kd.R_drewN | apply Kd.R_drew)); exact HO199.out))) (Kd.R_lt (by (with_reducible repeat (first | apply Kd.R_alloc | apply Kd.R_drewN | apply Kd.R_drew)); exact HO206.out))) (Kd.R_lt (by (with_reducible repeat (first | apply Kd.R_alloc | apply Kd.R_drewN | apply Kd.R_drew)); exact HO212.out))) (Kd.R_lt (by (with_reducible repeat (first | apply Kd.R_alloc | apply Kd.R_drewN | apply Kd.R_drew)); exact HO220.out))) (Kd.R_lt (by (with_reducible repeat (first | apply Kd.R_alloc | apply Kd.R_drewN | apply Kd.R_drew)); exact HO227.out))) (Kd.R_lt (by (with_reducible repeat (first | apply Kd.R_alloc | apply Kd.R_drewN | apply Kd.R_drew)); exact HO238.out))) (below_size (by repeat (first | (with_reducible first | exact HB.out | apply below_alloc | apply pw_below_drewN | apply below_drew1 | refine below_set ?_ GE193.out | refine below_set ?_ GE194.out | refine below_set ?_ GE208.out | refine below_set ?_ GE213.out | refine below_set ?_ GE222.out) | exact HB.out))))
               have n7_ := Aside0.mk (blk_below (g := gb193) (o := .cells #[.int .i64 a0_0, .slice A0_1 l0_1.length c0_1] 30 (0, 0)) (by (with_reducible repeat (first | refine blk_drewN ?_ _ | refine blk_drew ?_ | refine blk_alloc ?_ _)); exact BK193.out) hb)
               have n8_ := Aside0.mk (blk_below (g := gb194) (o := .cells #[.int .i64 a1_0, .int .i64 a1_1, .int .i64 a1_2] 23 (0, 0)) (by (with_reducible repeat (first | refine blk_drewN ?_ _ | refine blk_drew ?_ | refine blk_alloc ?_ _)); exact BK194.out) hb)
               have n9_ := Aside0.mk (blk_below (g := gb208) (o := .cells #[.int .i64 t203, .slice Ao80 t204.length co80] 35 (0, 0)) (by (with_reducible repeat (first | refine blk_drewN ?_ _ | refine blk_drew ?_ | refine blk_alloc ?_ _)); exact BK208.out) hb)
               have n10_ := Aside0.mk (blk_below (g := gb213) (o := .cells #[.int .i64 t209, .slice Ao62 t210.length co62] 35 (0, 0)) (by (with_reducible repeat (first | refine blk_drewN ?_ _ | refine blk_drew ?_ | refine blk_alloc ?_ _)); exact BK213.out) hb)
               have n11_ := Aside0.mk (blk_below (g := gb222) (o := .cells #[.int .i64 t217, .slice Ao79 t218.length co79] 35 (0, 0)) (by (with_reducible repeat (first | refine blk_drewN ?_ _ | refine blk_drew ?_ | refine blk_alloc ?_ _)); exact BK222.out) hb)
               have n12_ := Aside0.mk (below_step (by repeat (first | (with_reducible first | exact HB.out | apply below_alloc | apply pw_below_drewN | apply below_drew1 | refine below_set ?_ GE193.out | refine below_set ?_ GE194.out | refine below_set ?_ GE208.out | refine below_set ?_ GE213.out | refine below_set ?_ GE222.out) | exact HB.out)) hb)
               have z_BK247 := fun (h0_ : b 8 = true) (h1_ : b 9 = false) => (show w100.heap[gb247]? = some (.cells #[.int .i64 0, .slice none 0 0] 35 (0, 0)) from by first | exact (blk_below (g := gb247) (o := .cells #[.int .i64 0, .slice none 0 0] 35 (0, 0)) (by (with_reducible repeat (first | refine blk_drewN ?_ _ | refine blk_drew ?_ | refine blk_alloc ?_ _)); exact (Q_BK247 h0_ h1_)) hb))
               clear HO199
               clear HO206
               clear HO212
               clear HO220
               clear HO227
               clear HO238
               clear BK193
               clear BK194
               clear BK208
               clear BK213
               clear BK222
               clear HB
               have HO199 := n0_
               have HO206 := n1_
               have HO212 := n2_
               have HO220 := n3_
               have HO227 := n4_
               have HO238 := n5_
               have HO245 := n6_
               have BK193 := n7_
               have BK194 := n8_
               have BK208 := n9_
               have BK213 := n10_
               have BK222 := n11_
               have HB := n12_
               clear n0_ n1_ n2_ n3_ n4_ n5_ n6_ n7_ n8_ n9_ n10_ n11_ n12_
               (try clear hb)
               (try clear hb2)
               (try clear hk)
               (try clear hi)
               (try clear ho0)
               refine hK.out _ _ ⟨.slice Ao99 t236.length co99, v244, gb247, m1_, (.tuple #[.agg #[.int .i64 t242, v244], .bool t246]), m5_, m6_, m8_, (by rw [ha.out]; exact putSel_upk 4 hb_ rfl rfl rfl), (by (with_reducible repeat (first | apply Kd.R_alloc | apply Kd.R_drewN | apply Kd.R_drew)); exact Kd.R_mono HO199.out (by first | exact fun _ hk => ⟨hk.1.1, ⟨hk.1.2.1, ⟨hk.1.2.2.1, ⟨hk.1.2.2.2.1, ⟨hk.1.2.2.2.2, hk.2⟩⟩⟩⟩⟩ | grind)), (by (with_reducible repeat (first | apply Kd.R_alloc | apply Kd.R_drewN | apply Kd.R_drew)); exact Kd.R_mono HO206.out (by first | exact fun _ hk => ⟨hk.1.1, ⟨hk.1.2.1, ⟨hk.1.2.2.1, ⟨hk.1.2.2.2.1, ⟨hk.1.2.2.2.2, hk.2⟩⟩⟩⟩⟩ | grind)), (by (with_reducible repeat (first | apply Kd.R_alloc | apply Kd.R_drewN | apply Kd.R_drew)); exact Kd.R_mono HO212.out (by first | exact fun _ hk => ⟨hk.1.1, ⟨hk.1.2.1, ⟨hk.1.2.2.1, ⟨hk.1.2.2.2.1, ⟨hk.1.2.2.2.2, hk.2⟩⟩⟩⟩⟩ | grind)), (by (with_reducible repeat (first | apply Kd.R_alloc | apply Kd.R_drewN | apply Kd.R_drew)); exact Kd.R_mono HO220.out (by first | exact fun _ hk => ⟨hk.1.1, ⟨hk.1.2.1, ⟨hk.1.2.2.1, ⟨hk.1.2.2.2.1, ⟨hk.1.2.2.2.2, hk.2⟩⟩⟩⟩⟩ | grind)), (by (with_reducible repeat (first | apply Kd.R_alloc | apply Kd.R_drewN | apply Kd.R_drew)); exact Kd.R_mono HO227.out (by first | exact fun _ hk => ⟨hk.1.1, ⟨hk.1.2.1, ⟨hk.1.2.2.1, ⟨hk.1.2.2.2.1, ⟨hk.1.2.2.2.2, hk.2⟩⟩⟩⟩⟩ | grind)), (by (with_reducible repeat (first | refine blk_drewN ?_ _ | refine blk_drew ?_ | refine blk_alloc ?_ _)); exact BK193.out), (by (with_reducible repeat (first | refine blk_drewN ?_ _ | refine blk_drew ?_ | refine blk_alloc ?_ _)); exact BK194.out), (by (with_reducible repeat (first | refine blk_drewN ?_ _ | refine blk_drew ?_ | refine blk_alloc ?_ _)); exact BK208.out), (by (with_reducible repeat (first | refine blk_drewN ?_ _ | refine blk_drew ?_ | refine blk_alloc ?_ _)); exact BK213.out), (by (with_reducible repeat (first | refine blk_drewN ?_ _ | refine blk_drew ?_ | refine blk_alloc ?_ _)); exact BK222.out), (by repeat (first | (with_reducible first | exact HB.out | apply below_alloc | apply pw_below_drewN | apply below_drew1 | refine below_set ?_ GE193.out | refine below_set ?_ GE194.out | refine below_set ?_ GE208.out | refine below_set ?_ GE213.out | refine below_set ?_ GE222.out) | exact HB.out)), fun _ => (by (with_reducible repeat (first | apply Kd.R_alloc | apply Kd.R_drewN | apply Kd.R_drew)); exact Kd.R_mono HO238.out (by first | exact fun _ hk => ⟨hk.1.1, ⟨hk.1.2.1, ⟨hk.1.2.2.1, ⟨hk.1.2.2.2.1, ⟨hk.1.2.2.2.2, hk.2⟩⟩⟩⟩⟩ | grind)), fun _ => (by (with_reducible repeat (first | apply Kd.R_alloc | apply Kd.R_drewN | apply Kd.R_drew)); exact Kd.R_mono HO245.out (by first | exact fun _ hk => ⟨hk.1.1.1.1.1.2, ⟨hk.1.1.1.1.2, ⟨hk.1.1.1.2, ⟨hk.1.1.2, ⟨hk.1.2, hk.2⟩⟩⟩⟩⟩ | grind)), z_BK247, Q_GW247, Q_GE247, Q_NB193_247, Q_NB247_193, Q_NB194_247, Q_NB247_194, Q_NB208_247, Q_NB247_208, Q_NB213_247, Q_NB247_213, Q_NB222_247, Q_NB247_222, fun h0_ => absurd ((hoff 9 (by kernel_rfl)).symm.trans h0_) (by decide), Q_X1_, fun _ => rfl, fun h0_ => absurd ((hoff 5 (by kernel_rfl)).symm.trans h0_) (by decide), fun h0_ => absurd ((hoff 6 (by kernel_rfl)).symm.trans h0_) (by decide), Q_X8_⟩
              refine steps_cons ?_ ?_
              ·rintro b a w' ⟨v237, v244, gb247, m1_, m4_, m5_, m6_, m8_, ha, Q_HO199, Q_HO206, Q_HO212, Q_HO220, Q_HO227, Q_BK193, Q_BK194, Q_BK208, Q_BK213, Q_BK222, Q_HB, Q_HO238, Q_HO245, Q_BK247, Q_GW247, Q_GE247, Q_NB193_247, Q_NB247_193, Q_NB194_247, Q_NB247_194, Q_NB208_247, Q_NB247_208, Q_NB213_247, Q_NB247_213, Q_NB222_247, Q_NB247_222, Q_BK247_e9, Q_X1_, Q_X4_, Q_X5_, Q_X6_, Q_X8_⟩ hb_ hon hoff
               refine ⟨_, rfl, fun K hK => ?_⟩
               have e84 : a.tmps[84]? = some (m4_) := by rw [ha]; exact putSel_on (e := (4, 84, m4_)) 4 rfl rfl (hon 4 (by kernel_rfl)) rfl
               rw [Q_X4_ (hon 4 (by kernel_rfl))] at e84
               replace ha := Aside0.mk ha
               have HO199 := Aside0.mk Q_HO199
               have HO206 := Aside0.mk Q_HO206
               have HO212 := Aside0.mk Q_HO212
               have HO220 := Aside0.mk Q_HO220
               have HO227 := Aside0.mk Q_HO227
               have BK193 := Aside0.mk Q_BK193
               have BK194 := Aside0.mk Q_BK194
               have BK208 := Aside0.mk Q_BK208
               have BK213 := Aside0.mk Q_BK213
               have BK222 := Aside0.mk Q_BK222
               have HB := Aside0.mk Q_HB
               have HO238 := Aside0.mk (Q_HO238 (hon 1 (by kernel_rfl)))
               have HO245 := Aside0.mk (Q_HO245 (hon 4 (by kernel_rfl)))
               refine value_ (w1 := w') (v := .tuple #[.agg #[.int .i64 t242, v244], .bool t246]) (by rfl) rfl ?_ ?_
               ·go_simp
                (try simp only [i64_w])
                try rfl
               refine hK.out _ _ ⟨v237, v244, gb247, m1_, m4_, (.tuple #[.agg #[.int .i64 t242, v244], .bool t246]), m6_, m8_, (by rw [ha.out]; exact putSel_upk 5 hb_ rfl rfl rfl), Q_HO199, Q_HO206, Q_HO212, Q_HO220, Q_HO227, Q_BK193, Q_BK194, Q_BK208, Q_BK213, Q_BK222, Q_HB, Q_HO238, Q_HO245, Q_BK247, Q_GW247, Q_GE247, Q_NB193_247, Q_NB247_193, Q_NB194_247, Q_NB247_194, Q_NB208_247, Q_NB247_208, Q_NB213_247, Q_NB247_213, Q_NB222_247, Q_NB247_222, fun h0_ => absurd ((hoff 9 (by kernel_rfl)).symm.trans h0_) (by decide), Q_X1_, Q_X4_, fun _ => rfl, fun h0_ => absurd ((hoff 6 (by kernel_rfl)).symm.trans h0_) (by decide), Q_X8_⟩
              refine steps_cons ?_ ?_
              ·rintro b a w' ⟨v237, v244, gb247, m1_, m4_, m5_, m6_, m8_, ha, Q_HO199, Q_HO206, Q_HO212, Q_HO220, Q_HO227, Q_BK193, Q_BK194, Q_BK208, Q_BK213, Q_BK222, Q_HB, Q_HO238, Q_HO245, Q_BK247, Q_GW247, Q_GE247, Q_NB193_247, Q_NB247_193, Q_NB194_247, Q_NB247_194, Q_NB208_247, Q_NB247_208, Q_NB213_247, Q_NB247_213, Q_NB222_247, Q_NB247_222, Q_BK247_e9, Q_X1_, Q_X4_, Q_X5_, Q_X6_, Q_X8_⟩ hb_ hon hoff
               refine ⟨_, rfl, fun K hK => ?_⟩
               have e79 : a.tmps[79]? = some (m5_) := by rw [ha]; exact putSel_on (e := (5, 79, m5_)) 5 rfl rfl (hon 5 (by kernel_rfl)) rfl
               rw [Q_X5_ (hon 5 (by kernel_rfl))] at e79
               replace ha := Aside0.mk ha
               have HO199 := Aside0.mk Q_HO199
               have HO206 := Aside0.mk Q_HO206
               have HO212 := Aside0.mk Q_HO212
               have HO220 := Aside0.mk Q_HO220
               have HO227 := Aside0.mk Q_HO227
               have BK193 := Aside0.mk Q_BK193
               have BK194 := Aside0.mk Q_BK194
               have BK208 := Aside0.mk Q_BK208
               have BK213 := Aside0.mk Q_BK213
               have BK222 := Aside0.mk Q_BK222
               have HB := Aside0.mk Q_HB
               have HO238 := Aside0.mk (Q_HO238 (hon 1 (by kernel_rfl)))
               have HO245 := Aside0.mk (Q_HO245 (hon 4 (by kernel_rfl)))
               refine value_ (w1 := w') (v := .agg #[.int .i64 t242, v244]) (by rfl) rfl ?_ ?_
               ·go_simp
                (try simp only [i64_w])
                try rfl
               refine hK.out _ _ ⟨v237, v244, gb247, m1_, m4_, m5_, (.agg #[.int .i64 t242, v244]), m8_, (by rw [ha.out]; exact putSel_upk 6 hb_ rfl rfl rfl), Q_HO199, Q_HO206, Q_HO212, Q_HO220, Q_HO227, Q_BK193, Q_BK194, Q_BK208, Q_BK213, Q_BK222, Q_HB, Q_HO238, Q_HO245, Q_BK247, Q_GW247, Q_GE247, Q_NB193_247, Q_NB247_193, Q_NB194_247, Q_NB247_194, Q_NB208_247, Q_NB247_208, Q_NB213_247, Q_NB247_213, Q_NB222_247, Q_NB247_222, fun h0_ => absurd ((hoff 9 (by kernel_rfl)).symm.trans h0_) (by decide), Q_X1_, Q_X4_, Q_X5_, fun _ => rfl, Q_X8_⟩
              refine steps_cons ?_ ?_
              ·rintro b a w' ⟨v237, v244, gb247, m1_, m4_, m5_, m6_, m8_, ha, Q_HO199, Q_HO206, Q_HO212, Q_HO220, Q_HO227, Q_BK193, Q_BK194, Q_BK208, Q_BK213, Q_BK222, Q_HB, Q_HO238, Q_HO245, Q_BK247, Q_GW247, Q_GE247, Q_NB193_247, Q_NB247_193, Q_NB194_247, Q_NB247_194, Q_NB208_247, Q_NB247_208, Q_NB213_247, Q_NB247_213, Q_NB222_247, Q_NB247_222, Q_BK247_e9, Q_X1_, Q_X4_, Q_X5_, Q_X6_, Q_X8_⟩ hb_ hon hoff
               refine ⟨_, rfl, fun K hK => ?_⟩
               have e79 : a.tmps[79]? = some (m5_) := by rw [ha]; exact putSel_on (e := (5, 79, m5_)) 5 rfl rfl (hon 5 (by kernel_rfl)) rfl
               rw [Q_X5_ (hon 5 (by kernel_rfl))] at e79
               replace ha := Aside0.mk ha
               have HO199 := Aside0.mk Q_HO199
               have HO206 := Aside0.mk Q_HO206
               have HO212 := Aside0.mk Q_HO212
               have HO220 := Aside0.mk Q_HO220
               have HO227 := Aside0.mk Q_HO227
               have BK193 := Aside0.mk Q_BK193
               have BK194 := Aside0.mk Q_BK194
               have BK208 := Aside0.mk Q_BK208
               have BK213 := Aside0.mk Q_BK213
               have BK222 := Aside0.mk Q_BK222
               have HB := Aside0.mk Q_HB
               have HO238 := Aside0.mk (Q_HO238 (hon 1 (by kernel_rfl)))
               have HO245 := Aside0.mk (Q_HO245 (hon 4 (by kernel_rfl)))
               refine value_ (w1 := w') (v := .bool t246) (by rfl) rfl ?_ ?_
               ·go_simp
                (try simp only [i64_w])
                try rfl
               refine hK.out _ _ ⟨v237, v244, gb247, m1_, m4_, m5_, m6_, m8_, (by rw [ha.out]; exact putSel_upk 7 hb_ rfl rfl rfl), Q_HO199, Q_HO206, Q_HO212, Q_HO220, Q_HO227, Q_BK193, Q_BK194, Q_BK208, Q_BK213, Q_BK222, Q_HB, Q_HO238, Q_HO245, Q_BK247, Q_GW247, Q_GE247, Q_NB193_247, Q_NB247_193, Q_NB194_247, Q_NB247_194, Q_NB208_247, Q_NB247_208, Q_NB213_247, Q_NB247_213, Q_NB222_247, Q_NB247_222, Q_BK247_e9, Q_X1_, Q_X4_, Q_X5_, Q_X6_, Q_X8_⟩
              refine steps_cons ?_ ?_
              ·rintro b a w' ⟨v237, v244, gb247, m1_, m4_, m5_, m6_, m8_, ha, Q_HO199, Q_HO206, Q_HO212, Q_HO220, Q_HO227, Q_BK193, Q_BK194, Q_BK208, Q_BK213, Q_BK222, Q_HB, Q_HO238, Q_HO245, Q_BK247, Q_GW247, Q_GE247, Q_NB193_247, Q_NB247_193, Q_NB194_247, Q_NB247_194, Q_NB208_247, Q_NB247_208, Q_NB213_247, Q_NB247_213, Q_NB222_247, Q_NB247_222, Q_BK247_e9, Q_X1_, Q_X4_, Q_X5_, Q_X6_, Q_X8_⟩ hb_ hon hoff
               refine ⟨_, rfl, fun K hK => ?_⟩
               replace ha := Aside0.mk ha
               have HO199 := Aside0.mk Q_HO199
               have HO206 := Aside0.mk Q_HO206
               have HO212 := Aside0.mk Q_HO212
               have HO220 := Aside0.mk Q_HO220
               have HO227 := Aside0.mk Q_HO227
               have BK193 := Aside0.mk Q_BK193
               have BK194 := Aside0.mk Q_BK194
               have BK208 := Aside0.mk Q_BK208
               have BK213 := Aside0.mk Q_BK213
               have BK222 := Aside0.mk Q_BK222
               have HB := Aside0.mk Q_HB
               refine box_step ?hg (N := 14) ?hd (cs := #[.int .i64 0, .slice none 0 0]) (t := 35) ?hr ?_; (case hd => rfl); (case hg => rfl); (case hr => first | (go_simp; done) | (go_simp; rfl))
               intro gb247 hg w96 hbox hb
               have n0_ := Aside0.mk (Kd.R_below (by (with_reducible repeat (first | apply Kd.R_alloc | apply Kd.R_drewN | apply Kd.R_drew)); exact HO199.out) hb)
               have n1_ := Aside0.mk (Kd.R_below (by (with_reducible repeat (first | apply Kd.R_alloc | apply Kd.R_drewN | apply Kd.R_drew)); exact HO206.out) hb)
               have n2_ := Aside0.mk (Kd.R_below (by (with_reducible repeat (first | apply Kd.R_alloc | apply Kd.R_drewN | apply Kd.R_drew)); exact HO212.out) hb)
               have n3_ := Aside0.mk (Kd.R_below (by (with_reducible repeat (first | apply Kd.R_alloc | apply Kd.R_drewN | apply Kd.R_drew)); exact HO220.out) hb)
               have n4_ := Aside0.mk (Kd.R_below (by (with_reducible repeat (first | apply Kd.R_alloc | apply Kd.R_drewN | apply Kd.R_drew)); exact HO227.out) hb)
               have n5_ := Aside0.mk (blk_below (g := gb193) (o := .cells #[.int .i64 a0_0, .slice A0_1 l0_1.length c0_1] 30 (0, 0)) (by (with_reducible repeat (first | refine blk_drewN ?_ _ | refine blk_drew ?_ | refine blk_alloc ?_ _)); exact BK193.out) hb)
               have n6_ := Aside0.mk (blk_below (g := gb194) (o := .cells #[.int .i64 a1_0, .int .i64 a1_1, .int .i64 a1_2] 23 (0, 0)) (by (with_reducible repeat (first | refine blk_drewN ?_ _ | refine blk_drew ?_ | refine blk_alloc ?_ _)); exact BK194.out) hb)
               have n7_ := Aside0.mk (blk_below (g := gb208) (o := .cells #[.int .i64 t203, .slice Ao80 t204.length co80] 35 (0, 0)) (by (with_reducible repeat (first | refine blk_drewN ?_ _ | refine blk_drew ?_ | refine blk_alloc ?_ _)); exact BK208.out) hb)
               have n8_ := Aside0.mk (blk_below (g := gb213) (o := .cells #[.int .i64 t209, .slice Ao62 t210.length co62] 35 (0, 0)) (by (with_reducible repeat (first | refine blk_drewN ?_ _ | refine blk_drew ?_ | refine blk_alloc ?_ _)); exact BK213.out) hb)
               have n9_ := Aside0.mk (blk_below (g := gb222) (o := .cells #[.int .i64 t217, .slice Ao79 t218.length co79] 35 (0, 0)) (by (with_reducible repeat (first | refine blk_drewN ?_ _ | refine blk_drew ?_ | refine blk_alloc ?_ _)); exact BK222.out) hb)
               have n10_ := Aside0.mk (below_step (by repeat (first | (with_reducible first | exact HB.out | apply below_alloc | apply pw_below_drewN | apply below_drew1 | refine below_set ?_ GE193.out | refine below_set ?_ GE194.out | refine below_set ?_ GE208.out | refine below_set ?_ GE213.out | refine below_set ?_ GE222.out) | exact HB.out)) hb)
               have n11_ := Aside0.mk (hbox)
               have n12_ := Aside0.mk ((by rw [hg]; exact (below_size (by repeat (first | (with_reducible first | exact HB.out | apply below_alloc | apply pw_below_drewN | apply below_drew1 | refine below_set ?_ GE193.out | refine below_set ?_ GE194.out | refine below_set ?_ GE208.out | refine below_set ?_ GE213.out | refine below_set ?_ GE222.out) | exact HB.out))) : w.heap.size ≤ gb247))
               have n13_ := Aside0.mk ((by rw [hg]; exact (below_size (by repeat (first | (with_reducible first | exact HB.out | apply below_alloc | apply pw_below_drewN | apply below_drew1 | refine below_set ?_ GE193.out | refine below_set ?_ GE194.out | refine below_set ?_ GE208.out | refine below_set ?_ GE213.out | refine below_set ?_ GE222.out) | exact HB.out))) : w.heap.size ≤ gb247))
               have n14_ := Aside0.mk ((by rw [hg]; exact Nat.ne_of_lt (blk_lt (g := gb193) (o := .cells #[.int .i64 a0_0, .slice A0_1 l0_1.length c0_1] 30 (0, 0)) (by (with_reducible repeat (first | refine blk_drewN ?_ _ | refine blk_drew ?_ | refine blk_alloc ?_ _)); exact BK193.out)) : gb193 ≠ gb247))
               have n15_ := Aside0.mk ((by rw [hg]; exact Nat.ne_of_gt (blk_lt (g := gb193) (o := .cells #[.int .i64 a0_0, .slice A0_1 l0_1.length c0_1] 30 (0, 0)) (by (with_reducible repeat (first | refine blk_drewN ?_ _ | refine blk_drew ?_ | refine blk_alloc ?_ _)); exact BK193.out)) : gb247 ≠ gb193))
               have n16_ := Aside0.mk ((by rw [hg]; exact Nat.ne_of_lt (blk_lt (g := gb194) (o := .cells #[.int .i64 a1_0, .int .i64 a1_1, .int .i64 a1_2] 23 (0, 0)) (by (with_reducible repeat (first | refine blk_drewN ?_ _ | refine blk_drew ?_ | refine blk_alloc ?_ _)); exact BK194.out)) : gb194 ≠ gb247))
               have n17_ := Aside0.mk ((by rw [hg]; exact Nat.ne_of_gt (blk_lt (g := gb194) (o := .cells #[.int .i64 a1_0, .int .i64 a1_1, .int .i64 a1_2] 23 (0, 0)) (by (with_reducible repeat (first | refine blk_drewN ?_ _ | refine blk_drew ?_ | refine blk_alloc ?_ _)); exact BK194.out)) : gb247 ≠ gb194))
               have n18_ := Aside0.mk ((by rw [hg]; exact Nat.ne_of_lt (blk_lt (g := gb208) (o := .cells #[.int .i64 t203, .slice Ao80 t204.length co80] 35 (0, 0)) (by (with_reducible repeat (first | refine blk_drewN ?_ _ | refine blk_drew ?_ | refine blk_alloc ?_ _)); exact BK208.out)) : gb208 ≠ gb247))
               have n19_ := Aside0.mk ((by rw [hg]; exact Nat.ne_of_gt (blk_lt (g := gb208) (o := .cells #[.int .i64 t203, .slice Ao80 t204.length co80] 35 (0, 0)) (by (with_reducible repeat (first | refine blk_drewN ?_ _ | refine blk_drew ?_ | refine blk_alloc ?_ _)); exact BK208.out)) : gb247 ≠ gb208))
               have n20_ := Aside0.mk ((by rw [hg]; exact Nat.ne_of_lt (blk_lt (g := gb213) (o := .cells #[.int .i64 t209, .slice Ao62 t210.length co62] 35 (0, 0)) (by (with_reducible repeat (first | refine blk_drewN ?_ _ | refine blk_drew ?_ | refine blk_alloc ?_ _)); exact BK213.out)) : gb213 ≠ gb247))
               have n21_ := Aside0.mk ((by rw [hg]; exact Nat.ne_of_gt (blk_lt (g := gb213) (o := .cells #[.int .i64 t209, .slice Ao62 t210.length co62] 35 (0, 0)) (by (with_reducible repeat (first | refine blk_drewN ?_ _ | refine blk_drew ?_ | refine blk_alloc ?_ _)); exact BK213.out)) : gb247 ≠ gb213))
               have n22_ := Aside0.mk ((by rw [hg]; exact Nat.ne_of_lt (blk_lt (g := gb222) (o := .cells #[.int .i64 t217, .slice Ao79 t218.length co79] 35 (0, 0)) (by (with_reducible repeat (first | refine blk_drewN ?_ _ | refine blk_drew ?_ | refine blk_alloc ?_ _)); exact BK222.out)) : gb222 ≠ gb247))
               have n23_ := Aside0.mk ((by rw [hg]; exact Nat.ne_of_gt (blk_lt (g := gb222) (o := .cells #[.int .i64 t217, .slice Ao79 t218.length co79] 35 (0, 0)) (by (with_reducible repeat (first | refine blk_drewN ?_ _ | refine blk_drew ?_ | refine blk_alloc ?_ _)); exact BK222.out)) : gb247 ≠ gb222))
               have z_HO238 := fun (h0_ : b 1 = true) => (show Kd.R k25 25 w96 w.heap.size (fun k_ => some k_ ≠ (v198 : Value).ownBlock ∧ some k_ ≠ (.slice Ao80 t204.length co80 : Value).ownBlock ∧ some k_ ≠ (.slice Ao62 t210.length co62 : Value).ownBlock ∧ some k_ ≠ (.slice Ao79 t218.length co79 : Value).ownBlock ∧ some k_ ≠ (.slice Ao84 t225.length co84 : Value).ownBlock) v237 t236 from by first | exact (Kd.R_below (by (with_reducible repeat (first | apply Kd.R_alloc | apply Kd.R_drewN | apply Kd.R_drew)); exact (Q_HO238 h0_)) hb) | exact Kd.R_mono (Kd.R_below (by (with_reducible repeat (first | apply Kd.R_alloc | apply Kd.R_drewN | apply Kd.R_drew)); exact (Q_HO238 h0_)) hb) (fun _ h_ => by first | trivial | exact h_ | exact h_.1))
               have z_HO245 := fun (h0_ : b 4 = true) => (show Kd.R k25 25 w96 w.heap.size (fun k_ => some k_ ≠ (v198 : Value).ownBlock ∧ some k_ ≠ (.slice Ao80 t204.length co80 : Value).ownBlock ∧ some k_ ≠ (.slice Ao62 t210.length co62 : Value).ownBlock ∧ some k_ ≠ (.slice Ao79 t218.length co79 : Value).ownBlock ∧ some k_ ≠ (.slice Ao84 t225.length co84 : Value).ownBlock) v244 t243 from by first | exact (Kd.R_below (by (with_reducible repeat (first | apply Kd.R_alloc | apply Kd.R_drewN | apply Kd.R_drew)); exact (Q_HO245 h0_)) hb) | exact Kd.R_mono (Kd.R_below (by (with_reducible repeat (first | apply Kd.R_alloc | apply Kd.R_drewN | apply Kd.R_drew)); exact (Q_HO245 h0_)) hb) (fun _ h_ => by first | trivial | exact h_ | exact h_.1))
               clear HO199
               clear HO206
               clear HO212
               clear HO220
               clear HO227
               clear BK193
               clear BK194
               clear BK208
               clear BK213
               clear BK222
               clear HB
               have HO199 := n0_
               have HO206 := n1_
               have HO212 := n2_
               have HO220 := n3_
               have HO227 := n4_
               have BK193 := n5_
               have BK194 := n6_
               have BK208 := n7_
               have BK213 := n8_
               have BK222 := n9_
               have HB := n10_
               have BK247 := n11_
               have GW247 := n12_
               have GE247 := n13_
               have NB193_247 := n14_
               have NB247_193 := n15_
               have NB194_247 := n16_
               have NB247_194 := n17_
               have NB208_247 := n18_
               have NB247_208 := n19_
               have NB213_247 := n20_
               have NB247_213 := n21_
               have NB222_247 := n22_
               have NB247_222 := n23_
               clear n0_ n1_ n2_ n3_ n4_ n5_ n6_ n7_ n8_ n9_ n10_ n11_ n12_ n13_ n14_ n15_ n16_ n17_ n18_ n19_ n20_ n21_ n22_ n23_
               clear hb hbox hg
               refine hK.out _ _ ⟨v237, v244, gb247, m1_, m4_, m5_, m6_, (.pointer (some ⟨gb247, 0, none⟩)), (by rw [ha.out]; exact putSel_upk 8 hb_ rfl rfl rfl), (by (with_reducible repeat (first | apply Kd.R_alloc | apply Kd.R_drewN | apply Kd.R_drew)); exact HO199.out), (by (with_reducible repeat (first | apply Kd.R_alloc | apply Kd.R_drewN | apply Kd.R_drew)); exact HO206.out), (by (with_reducible repeat (first | apply Kd.R_alloc | apply Kd.R_drewN | apply Kd.R_drew)); exact HO212.out), (by (with_reducible repeat (first | apply Kd.R_alloc | apply Kd.R_drewN | apply Kd.R_drew)); exact HO220.out), (by (with_reducible repeat (first | apply Kd.R_alloc | apply Kd.R_drewN | apply Kd.R_drew)); exact HO227.out), (by (with_reducible repeat (first | refine blk_drewN ?_ _ | refine blk_drew ?_ | refine blk_alloc ?_ _)); exact BK193.out), (by (with_reducible repeat (first | refine blk_drewN ?_ _ | refine blk_drew ?_ | refine blk_alloc ?_ _)); exact BK194.out), (by (with_reducible repeat (first | refine blk_drewN ?_ _ | refine blk_drew ?_ | refine blk_alloc ?_ _)); exact BK208.out), (by (with_reducible repeat (first | refine blk_drewN ?_ _ | refine blk_drew ?_ | refine blk_alloc ?_ _)); exact BK213.out), (by (with_reducible repeat (first | refine blk_drewN ?_ _ | refine blk_drew ?_ | refine blk_alloc ?_ _)); exact BK222.out), (by repeat (first | (with_reducible first | exact HB.out | apply below_alloc | apply pw_below_drewN | apply below_drew1 | refine below_set ?_ GE193.out | refine below_set ?_ GE194.out | refine below_set ?_ GE208.out | refine below_set ?_ GE213.out | refine below_set ?_ GE222.out | refine below_set ?_ GE247.out) | exact HB.out)), z_HO238, z_HO245, fun _ _ => (by (with_reducible repeat (first | refine blk_drewN ?_ _ | refine blk_drew ?_ | refine blk_alloc ?_ _)); exact BK247.out), fun _ => GW247.out, fun _ => GE247.out, fun _ => NB193_247.out, fun _ => NB247_193.out, fun _ => NB194_247.out, fun _ => NB247_194.out, fun _ => NB208_247.out, fun _ => NB247_208.out, fun _ => NB213_247.out, fun _ => NB247_213.out, fun _ => NB222_247.out, fun _ => NB247_222.out, fun h0_ => absurd ((hoff 9 (by kernel_rfl)).symm.trans h0_) (by decide), Q_X1_, Q_X4_, Q_X5_, Q_X6_, fun _ => rfl⟩
              refine steps_cons ?_ ?_
              ·rintro b a w' ⟨v237, v244, gb247, m1_, m4_, m5_, m6_, m8_, ha, Q_HO199, Q_HO206, Q_HO212, Q_HO220, Q_HO227, Q_BK193, Q_BK194, Q_BK208, Q_BK213, Q_BK222, Q_HB, Q_HO238, Q_HO245, Q_BK247, Q_GW247, Q_GE247, Q_NB193_247, Q_NB247_193, Q_NB194_247, Q_NB247_194, Q_NB208_247, Q_NB247_208, Q_NB213_247, Q_NB247_213, Q_NB222_247, Q_NB247_222, Q_BK247_e9, Q_X1_, Q_X4_, Q_X5_, Q_X6_, Q_X8_⟩ hb_ hon hoff
               refine ⟨_, rfl, fun K hK => ?_⟩
               have e14 : a.tmps[14]? = some (m8_) := by rw [ha]; exact putSel_on (e := (8, 14, m8_)) 8 rfl rfl (hon 8 (by kernel_rfl)) rfl
               rw [Q_X8_ (hon 8 (by kernel_rfl))] at e14
               have e85 : a.tmps[85]? = some (m6_) := by rw [ha]; exact putSel_on (e := (6, 85, m6_)) 6 rfl rfl (hon 6 (by kernel_rfl)) rfl
               rw [Q_X6_ (hon 6 (by kernel_rfl))] at e85
               replace ha := Aside0.mk ha
               have HO199 := Aside0.mk Q_HO199
               have HO206 := Aside0.mk Q_HO206
               have HO212 := Aside0.mk Q_HO212
               have HO220 := Aside0.mk Q_HO220
               have HO227 := Aside0.mk Q_HO227
               have BK193 := Aside0.mk Q_BK193
               have BK194 := Aside0.mk Q_BK194
               have BK208 := Aside0.mk Q_BK208
               have BK213 := Aside0.mk Q_BK213
               have BK222 := Aside0.mk Q_BK222
               have HB := Aside0.mk Q_HB
               have HO238 := Aside0.mk (Q_HO238 (hon 1 (by kernel_rfl)))
               have HO245 := Aside0.mk (Q_HO245 (hon 4 (by kernel_rfl)))
               have BK247 := Aside0.mk (Q_BK247 (hon 8 (by kernel_rfl)) hb_)
               have GW247 := Aside0.mk (Q_GW247 (hon 8 (by kernel_rfl)))
               have GE247 := Aside0.mk (Q_GE247 (hon 8 (by kernel_rfl)))
               have NB193_247 := Aside0.mk (Q_NB193_247 (hon 8 (by kernel_rfl)))
               have NB247_193 := Aside0.mk (Q_NB247_193 (hon 8 (by kernel_rfl)))
               have NB194_247 := Aside0.mk (Q_NB194_247 (hon 8 (by kernel_rfl)))
               have NB247_194 := Aside0.mk (Q_NB247_194 (hon 8 (by kernel_rfl)))
               have NB208_247 := Aside0.mk (Q_NB208_247 (hon 8 (by kernel_rfl)))
               have NB247_208 := Aside0.mk (Q_NB247_208 (hon 8 (by kernel_rfl)))
               have NB213_247 := Aside0.mk (Q_NB213_247 (hon 8 (by kernel_rfl)))
               have NB247_213 := Aside0.mk (Q_NB247_213 (hon 8 (by kernel_rfl)))
               have NB222_247 := Aside0.mk (Q_NB222_247 (hon 8 (by kernel_rfl)))
               have NB247_222 := Aside0.mk (Q_NB247_222 (hon 8 (by kernel_rfl)))
               obtain ⟨Ao103, co103, eo103⟩ := Kd.R_slice HO245.out
               (first | subst eo103 | (injection eo103 with f1_ f2_ f3_; have f4_ := f1_.symm; have f5_ := f3_.symm; clear f1_ f2_ f3_; subst f4_; subst f5_))
               have hs102 : w'.cell? ⟨gb247, 0, none⟩ = some (.int .i64 0) := (blk_cell BK247.out 0).trans rfl
               have hfs102 := blk_frozen BK247.out 0
               have hns102_0 := NB193_247.out
               have hns102_1 := NB194_247.out
               have hns102_2 := NB208_247.out
               have hns102_3 := NB213_247.out
               have hns102_4 := NB222_247.out
               have hms102_0 := NB247_193.out
               have hms102_1 := NB247_194.out
               have hms102_2 := NB247_208.out
               have hms102_3 := NB247_213.out
               have hms102_4 := NB247_222.out
               have hs104 : w'.cell? ⟨gb247, 1, none⟩ = some (.slice none 0 0) := (blk_cell BK247.out 1).trans rfl
               have hfs104 := blk_frozen BK247.out 1
               have hns104_0 := NB193_247.out
               have hns104_1 := NB194_247.out
               have hns104_2 := NB208_247.out
               have hns104_3 := NB213_247.out
               have hns104_4 := NB222_247.out
               have hms104_0 := NB247_193.out
               have hms104_1 := NB247_194.out
               have hms104_2 := NB247_208.out
               have hms104_3 := NB247_213.out
               have hms104_4 := NB247_222.out
               refine skip_ (w1 := ?_) (by rfl) rfl ?_ ?_
               rotate_left
               ·go_simp
                rfl
               refine hK.out _ _ ⟨v237, .slice Ao103 t243.length co103, gb247, m1_, m4_, m5_, m6_, m8_, (by rw [ha.out]; exact putSel_none (v := undef) rfl), (by (with_reducible repeat (first | apply Kd.R_alloc | apply Kd.R_drewN | apply Kd.R_drew)); exact Kd.R_mono (Kd.R_far (p := ⟨gb247, 1, none⟩) (Kd.R_far (p := ⟨gb247, 0, none⟩) (Kd.R_types HO199.out BK247.out (by decide)) (by first | exact fun _ hk => hk.2 | grind) (.int .i64 t242)) (by first | exact fun _ hk => hk.2 | grind) (.slice Ao103 t243.length co103)) (by first | exact fun _ hk => ⟨hk.1.1, ⟨hk.1.2.1, ⟨hk.1.2.2.1, ⟨hk.1.2.2.2.1, ⟨hk.1.2.2.2.2.1, hk.1.2.2.2.2.2⟩⟩⟩⟩⟩ | grind)), (by (with_reducible repeat (first | apply Kd.R_alloc | apply Kd.R_drewN | apply Kd.R_drew)); exact Kd.R_mono (Kd.R_far (p := ⟨gb247, 1, none⟩) (Kd.R_far (p := ⟨gb247, 0, none⟩) (Kd.R_types HO206.out BK247.out (by decide)) (by first | exact fun _ hk => hk.2 | grind) (.int .i64 t242)) (by first | exact fun _ hk => hk.2 | grind) (.slice Ao103 t243.length co103)) (by first | exact fun _ hk => ⟨hk.1.1, ⟨hk.1.2.1, ⟨hk.1.2.2.1, ⟨hk.1.2.2.2.1, ⟨hk.1.2.2.2.2.1, hk.1.2.2.2.2.2⟩⟩⟩⟩⟩ | grind)), (by (with_reducible repeat (first | apply Kd.R_alloc | apply Kd.R_drewN | apply Kd.R_drew)); exact Kd.R_mono (Kd.R_far (p := ⟨gb247, 1, none⟩) (Kd.R_far (p := ⟨gb247, 0, none⟩) (Kd.R_types HO212.out BK247.out (by decide)) (by first | exact fun _ hk => hk.2 | grind) (.int .i64 t242)) (by first | exact fun _ hk => hk.2 | grind) (.slice Ao103 t243.length co103)) (by first | exact fun _ hk => ⟨hk.1.1, ⟨hk.1.2.1, ⟨hk.1.2.2.1, ⟨hk.1.2.2.2.1, ⟨hk.1.2.2.2.2.1, hk.1.2.2.2.2.2⟩⟩⟩⟩⟩ | grind)), (by (with_reducible repeat (first | apply Kd.R_alloc | apply Kd.R_drewN | apply Kd.R_drew)); exact Kd.R_mono (Kd.R_far (p := ⟨gb247, 1, none⟩) (Kd.R_far (p := ⟨gb247, 0, none⟩) (Kd.R_types HO220.out BK247.out (by decide)) (by first | exact fun _ hk => hk.2 | grind) (.int .i64 t242)) (by first | exact fun _ hk => hk.2 | grind) (.slice Ao103 t243.length co103)) (by first | exact fun _ hk => ⟨hk.1.1, ⟨hk.1.2.1, ⟨hk.1.2.2.1, ⟨hk.1.2.2.2.1, ⟨hk.1.2.2.2.2.1, hk.1.2.2.2.2.2⟩⟩⟩⟩⟩ | grind)), (by (with_reducible repeat (first | apply Kd.R_alloc | apply Kd.R_drewN | apply Kd.R_drew)); exact Kd.R_mono (Kd.R_far (p := ⟨gb247, 1, none⟩) (Kd.R_far (p := ⟨gb247, 0, none⟩) (Kd.R_types HO227.out BK247.out (by decide)) (by first | exact fun _ hk => hk.2 | grind) (.int .i64 t242)) (by first | exact fun _ hk => hk.2 | grind) (.slice Ao103 t243.length co103)) (by first | exact fun _ hk => ⟨hk.1.1, ⟨hk.1.2.1, ⟨hk.1.2.2.1, ⟨hk.1.2.2.2.1, ⟨hk.1.2.2.2.2.1, hk.1.2.2.2.2.2⟩⟩⟩⟩⟩ | grind)), (by (with_reducible repeat (first | refine blk_drewN ?_ _ | refine blk_drew ?_ | refine blk_alloc ?_ _)); refine blk_far ?_ NB193_247.out _; (with_reducible repeat (first | refine blk_drewN ?_ _ | refine blk_drew ?_ | refine blk_alloc ?_ _)); refine blk_far ?_ NB193_247.out _; (with_reducible repeat (first | refine blk_drewN ?_ _ | refine blk_drew ?_ | refine blk_alloc ?_ _)); exact BK193.out), (by (with_reducible repeat (first | refine blk_drewN ?_ _ | refine blk_drew ?_ | refine blk_alloc ?_ _)); refine blk_far ?_ NB194_247.out _; (with_reducible repeat (first | refine blk_drewN ?_ _ | refine blk_drew ?_ | refine blk_alloc ?_ _)); refine blk_far ?_ NB194_247.out _; (with_reducible repeat (first | refine blk_drewN ?_ _ | refine blk_drew ?_ | refine blk_alloc ?_ _)); exact BK194.out), (by (with_reducible repeat (first | refine blk_drewN ?_ _ | refine blk_drew ?_ | refine blk_alloc ?_ _)); refine blk_far ?_ NB208_247.out _; (with_reducible repeat (first | refine blk_drewN ?_ _ | refine blk_drew ?_ | refine blk_alloc ?_ _)); refine blk_far ?_ NB208_247.out _; (with_reducible repeat (first | refine blk_drewN ?_ _ | refine blk_drew ?_ | refine blk_alloc ?_ _)); exact BK208.out), (by (with_reducible repeat (first | refine blk_drewN ?_ _ | refine blk_drew ?_ | refine blk_alloc ?_ _)); refine blk_far ?_ NB213_247.out _; (with_reducible repeat (first | refine blk_drewN ?_ _ | refine blk_drew ?_ | refine blk_alloc ?_ _)); refine blk_far ?_ NB213_247.out _; (with_reducible repeat (first | refine blk_drewN ?_ _ | refine blk_drew ?_ | refine blk_alloc ?_ _)); exact BK213.out), (by (with_reducible repeat (first | refine blk_drewN ?_ _ | refine blk_drew ?_ | refine blk_alloc ?_ _)); refine blk_far ?_ NB222_247.out _; (with_reducible repeat (first | refine blk_drewN ?_ _ | refine blk_drew ?_ | refine blk_alloc ?_ _)); refine blk_far ?_ NB222_247.out _; (with_reducible repeat (first | refine blk_drewN ?_ _ | refine blk_drew ?_ | refine blk_alloc ?_ _)); exact BK222.out), (by repeat (first | (with_reducible first | exact HB.out | apply below_alloc | apply pw_below_drewN | apply below_drew1 | refine below_set ?_ GE193.out | refine below_set ?_ GE194.out | refine below_set ?_ GE208.out | refine below_set ?_ GE213.out | refine below_set ?_ GE222.out | refine below_set ?_ GE247.out) | exact HB.out)), fun _ => (by (with_reducible repeat (first | apply Kd.R_alloc | apply Kd.R_drewN | apply Kd.R_drew)); exact Kd.R_mono (Kd.R_far (p := ⟨gb247, 1, none⟩) (Kd.R_far (p := ⟨gb247, 0, none⟩) (Kd.R_types HO238.out BK247.out (by decide)) (by first | exact fun _ hk => hk.2 | grind) (.int .i64 t242)) (by first | exact fun _ hk => hk.2 | grind) (.slice Ao103 t243.length co103)) (by first | exact fun _ hk => ⟨hk.1.1, ⟨hk.1.2.1, ⟨hk.1.2.2.1, ⟨hk.1.2.2.2.1, ⟨hk.1.2.2.2.2.1, hk.1.2.2.2.2.2⟩⟩⟩⟩⟩ | grind)), fun _ => (by (with_reducible repeat (first | apply Kd.R_alloc | apply Kd.R_drewN | apply Kd.R_drew)); exact Kd.R_mono (Kd.R_far (p := ⟨gb247, 1, none⟩) (Kd.R_far (p := ⟨gb247, 0, none⟩) (Kd.R_types HO245.out BK247.out (by decide)) (by first | exact fun _ hk => hk.2 | grind) (.int .i64 t242)) (by first | exact fun _ hk => hk.2 | grind) (.slice Ao103 t243.length co103)) (by first | exact fun _ hk => ⟨hk.1.1, ⟨hk.1.2.1, ⟨hk.1.2.2.1, ⟨hk.1.2.2.2.1, ⟨hk.1.2.2.2.2.1, hk.1.2.2.2.2.2⟩⟩⟩⟩⟩ | grind)), fun _ h1_ => absurd ((up_self b 9).symm.trans h1_) (by decide), fun _ => GW247.out, fun _ => GE247.out, fun _ => NB193_247.out, fun _ => NB247_193.out, fun _ => NB194_247.out, fun _ => NB247_194.out, fun _ => NB208_247.out, fun _ => NB247_208.out, fun _ => NB213_247.out, fun _ => NB247_213.out, fun _ => NB222_247.out, fun _ => NB247_222.out, fun _ => (by (with_reducible repeat (first | refine blk_drewN ?_ _ | refine blk_drew ?_ | refine blk_alloc ?_ _)); refine blk_put (cs := #[.int .i64 t242, .slice none 0 0]) ?_ 1 _ rfl; (with_reducible repeat (first | refine blk_drewN ?_ _ | refine blk_drew ?_ | refine blk_alloc ?_ _)); refine blk_put (cs := #[.int .i64 0, .slice none 0 0]) ?_ 0 _ rfl; (with_reducible repeat (first | refine blk_drewN ?_ _ | refine blk_drew ?_ | refine blk_alloc ?_ _)); exact BK247.out), Q_X1_, Q_X4_, Q_X5_, Q_X6_, Q_X8_⟩
              refine steps_cons ?_ ?_
              ·rintro b a w' ⟨v237, v244, gb247, m1_, m4_, m5_, m6_, m8_, ha, Q_HO199, Q_HO206, Q_HO212, Q_HO220, Q_HO227, Q_BK193, Q_BK194, Q_BK208, Q_BK213, Q_BK222, Q_HB, Q_HO238, Q_HO245, Q_BK247, Q_GW247, Q_GE247, Q_NB193_247, Q_NB247_193, Q_NB194_247, Q_NB247_194, Q_NB208_247, Q_NB247_208, Q_NB213_247, Q_NB247_213, Q_NB222_247, Q_NB247_222, Q_BK247_e9, Q_X1_, Q_X4_, Q_X5_, Q_X6_, Q_X8_⟩ hb_ hon hoff
               refine ⟨_, rfl, fun K hK => ?_⟩
               have e86 : a.tmps[86]? = some (.bool t246) := by rw [ha]; exact putSel_on (e := (7, 86, .bool t246)) 7 rfl rfl (hon 7 (by kernel_rfl)) rfl
               replace ha := Aside0.mk ha
               have HO199 := Aside0.mk Q_HO199
               have HO206 := Aside0.mk Q_HO206
               have HO212 := Aside0.mk Q_HO212
               have HO220 := Aside0.mk Q_HO220
               have HO227 := Aside0.mk Q_HO227
               have BK193 := Aside0.mk Q_BK193
               have BK194 := Aside0.mk Q_BK194
               have BK208 := Aside0.mk Q_BK208
               have BK213 := Aside0.mk Q_BK213
               have BK222 := Aside0.mk Q_BK222
               have HB := Aside0.mk Q_HB
               have HO238 := Aside0.mk (Q_HO238 (hon 1 (by kernel_rfl)))
               have HO245 := Aside0.mk (Q_HO245 (hon 4 (by kernel_rfl)))
               have GW247 := Aside0.mk (Q_GW247 (hon 8 (by kernel_rfl)))
               have GE247 := Aside0.mk (Q_GE247 (hon 8 (by kernel_rfl)))
               have NB193_247 := Aside0.mk (Q_NB193_247 (hon 8 (by kernel_rfl)))
               have NB247_193 := Aside0.mk (Q_NB247_193 (hon 8 (by kernel_rfl)))
               have NB194_247 := Aside0.mk (Q_NB194_247 (hon 8 (by kernel_rfl)))
               have NB247_194 := Aside0.mk (Q_NB247_194 (hon 8 (by kernel_rfl)))
               have NB208_247 := Aside0.mk (Q_NB208_247 (hon 8 (by kernel_rfl)))
               have NB247_208 := Aside0.mk (Q_NB247_208 (hon 8 (by kernel_rfl)))
               have NB213_247 := Aside0.mk (Q_NB213_247 (hon 8 (by kernel_rfl)))
               have NB247_213 := Aside0.mk (Q_NB247_213 (hon 8 (by kernel_rfl)))
               have NB222_247 := Aside0.mk (Q_NB222_247 (hon 8 (by kernel_rfl)))
               have NB247_222 := Aside0.mk (Q_NB247_222 (hon 8 (by kernel_rfl)))
               have BK247 := Aside0.mk (Q_BK247_e9 (hon 9 (by kernel_rfl)))
               refine value_ (w1 := w') (v := .bool t246) (by rfl) rfl ?_ ?_
               ·go_simp
                (try simp only [i64_w])
                try rfl
               refine hK.out _ _ ⟨v237, v244, gb247, m1_, m4_, m5_, m6_, m8_, (by rw [ha.out]; exact putSel_upk 9 hb_ rfl rfl rfl), Q_HO199, Q_HO206, Q_HO212, Q_HO220, Q_HO227, Q_BK193, Q_BK194, Q_BK208, Q_BK213, Q_BK222, Q_HB, Q_HO238, Q_HO245, fun _ h1_ => absurd ((hon 9 (by kernel_rfl)).symm.trans h1_) (by decide), Q_GW247, Q_GE247, Q_NB193_247, Q_NB247_193, Q_NB194_247, Q_NB247_194, Q_NB208_247, Q_NB247_208, Q_NB213_247, Q_NB247_213, Q_NB222_247, Q_NB247_222, Q_BK247_e9, Q_X1_, Q_X4_, Q_X5_, Q_X6_, Q_X8_⟩
              exact steps_nil
             rintro b a w104 hall ⟨v237, v244, gb247, m1_, m4_, m5_, m6_, m8_, ha, Q_HO199, Q_HO206, Q_HO212, Q_HO220, Q_HO227, Q_BK193, Q_BK194, Q_BK208, Q_BK213, Q_BK222, Q_HB, Q_HO238, Q_HO245, Q_BK247, Q_GW247, Q_GE247, Q_NB193_247, Q_NB247_193, Q_NB194_247, Q_NB247_194, Q_NB208_247, Q_NB247_208, Q_NB213_247, Q_NB247_213, Q_NB222_247, Q_NB247_222, Q_BK247_e9, Q_X1_, Q_X4_, Q_X5_, Q_X6_, Q_X8_⟩
             clear BK193 BK194 BK208 BK213 BK222 HB HO199 HO206 HO212 HO220 HO227
             have hb0_ := hall 0 (by kernel_rfl)
             have hb1_ := hall 1 (by kernel_rfl)
             have hb2_ := hall 2 (by kernel_rfl)
             have hb3_ := hall 3 (by kernel_rfl)
             have hb4_ := hall 4 (by kernel_rfl)
             have hb5_ := hall 5 (by kernel_rfl)
             have hb6_ := hall 6 (by kernel_rfl)
             have hb7_ := hall 7 (by kernel_rfl)
             have hb8_ := hall 8 (by kernel_rfl)
             have hb9_ := hall 9 (by kernel_rfl)
             have hb10_ := hall 10 (by kernel_rfl)
             subst ha
             obtain rfl := Q_X1_ hb1_
             obtain rfl := Q_X4_ hb4_
             obtain rfl := Q_X5_ hb5_
             obtain rfl := Q_X6_ hb6_
             obtain rfl := Q_X8_ hb8_
             simp only [putSel, hb0_, hb1_, hb2_, hb3_, hb4_, hb5_, hb6_, hb7_, hb8_, hb9_, hb10_, if_true, Act.put, List.setIfInBounds_toArray, List.set_cons_zero, List.set_cons_succ]
             have HO199 := Aside0.mk Q_HO199
             clear Q_HO199
             have HO206 := Aside0.mk Q_HO206
             clear Q_HO206
             have HO212 := Aside0.mk Q_HO212
             clear Q_HO212
             have HO220 := Aside0.mk Q_HO220
             clear Q_HO220
             have HO227 := Aside0.mk Q_HO227
             clear Q_HO227
             have BK193 := Aside0.mk Q_BK193
             clear Q_BK193
             have BK194 := Aside0.mk Q_BK194
             clear Q_BK194
             have BK208 := Aside0.mk Q_BK208
             clear Q_BK208
             have BK213 := Aside0.mk Q_BK213
             clear Q_BK213
             have BK222 := Aside0.mk Q_BK222
             clear Q_BK222
             have HB := Aside0.mk Q_HB
             clear Q_HB
             have HO238 := Aside0.mk (Q_HO238 hb1_)
             clear Q_HO238
             have HO245 := Aside0.mk (Q_HO245 hb4_)
             clear Q_HO245
             clear Q_BK247
             have GW247 := Aside0.mk (Q_GW247 hb8_)
             clear Q_GW247
             have GE247 := Aside0.mk (Q_GE247 hb8_)
             clear Q_GE247
             have NB193_247 := Aside0.mk (Q_NB193_247 hb8_)
             clear Q_NB193_247
             have NB247_193 := Aside0.mk (Q_NB247_193 hb8_)
             clear Q_NB247_193
             have NB194_247 := Aside0.mk (Q_NB194_247 hb8_)
             clear Q_NB194_247
             have NB247_194 := Aside0.mk (Q_NB247_194 hb8_)
             clear Q_NB247_194
             have NB208_247 := Aside0.mk (Q_NB208_247 hb8_)
             clear Q_NB208_247
             have NB247_208 := Aside0.mk (Q_NB247_208 hb8_)
             clear Q_NB247_208
             have NB213_247 := Aside0.mk (Q_NB213_247 hb8_)
             clear Q_NB213_247
             have NB247_213 := Aside0.mk (Q_NB247_213 hb8_)
             clear Q_NB247_213
             have NB222_247 := Aside0.mk (Q_NB222_247 hb8_)
             clear Q_NB222_247
             have NB247_222 := Aside0.mk (Q_NB247_222 hb8_)
             clear Q_NB247_222
             have BK247 := Aside0.mk (Q_BK247_e9 hb9_)
             clear Q_BK247_e9
             clear hall hb0_ hb1_ hb2_ hb3_ hb4_ hb5_ hb6_ hb7_ hb8_ hb9_ hb10_
             have hnb105 := NB247_193.out
             have hnc105 := NB193_247.out
             have hnb106 := NB247_194.out
             have hnc106 := NB194_247.out
             have hnb107 := NB247_208.out
             have hnc107 := NB208_247.out
             have hnb108 := NB247_213.out
             have hnc108 := NB213_247.out
             have hnb109 := NB247_222.out
             have hnc109 := NB222_247.out
             have hcz110_0 : w104.cell? ⟨gb247, 0, none⟩ = some (.int .i64 t242) := (blk_cell BK247.out 0).trans rfl
             have hcz110_1 : w104.cell? ⟨gb247, 1, none⟩ = some (v244) := (blk_cell BK247.out 1).trans rfl
             have hfz110_0 := blk_frozen BK247.out 0
             have hfz110_1 := blk_frozen BK247.out 1
             have hcz111_0 : w104.cell? ⟨gb208, 0, none⟩ = some (.int .i64 t203) := (blk_cell BK208.out 0).trans rfl
             have hcz111_1 : w104.cell? ⟨gb208, 1, none⟩ = some (.slice Ao80 t204.length co80) := (blk_cell BK208.out 1).trans rfl
             have hfz111_0 := blk_frozen BK208.out 0
             have hfz111_1 := blk_frozen BK208.out 1
             obtain ⟨Ao112, co112, eo112⟩ := Kd.R_slice HO245.out
             subst eo112
             try go_wp2_with (first | ((with_reducible refine gate_callee (f := 19) rfl ?_); refine goesL_ (some 89) rfl rfl Try.func19 (by kernel_rfl) rfl #[.agg #[.int .i64 t242, .slice Ao112 t243.length co112], .agg #[.int .i64 t203, .slice Ao80 t204.length co80]] rfl (by (try simp only [List.map_toArray, List.map_cons, List.map_nil]); first | done | rfl | (simp only [List.length_drop, List.length_take]; rfl)) ?_; (with_reducible refine (laws_eqPuzzle.calls k t242 _ _ t243 t203 _ _ t204 true _ ?side1 ?side2 ?side3 ?side4 A33.out).mono ?_); (case side1 => repeat (first | exact (Kd.R_reads' HO245.out).2.2 | (with_reducible refine Kd.C_alloc ?_ _) | (with_reducible refine Kd.C_drewN ?_ _) | (with_reducible refine Kd.C_drew ?_))); (case side2 => exact (Kd.R_reads' HO245.out).2.1); (case side3 => repeat (first | exact (Kd.R_reads' HO206.out).2.2 | (with_reducible refine Kd.C_alloc ?_ _) | (with_reducible refine Kd.C_drewN ?_ _) | (with_reducible refine Kd.C_drew ?_))); (case side4 => exact (Kd.R_reads' HO206.out).2.1); rintro e w113 ⟨rfl, hb⟩; refine ⟨_, rfl, ?_⟩; have n0_ := Aside0.mk (Kd.R_below (by (with_reducible repeat (first | apply Kd.R_alloc | apply Kd.R_drewN | apply Kd.R_drew)); exact HO199.out) hb); have n1_ := Aside0.mk (Kd.R_below (by (with_reducible repeat (first | apply Kd.R_alloc | apply Kd.R_drewN | apply Kd.R_drew)); exact HO206.out) hb); have n2_ := Aside0.mk (Kd.R_below (by (with_reducible repeat (first | apply Kd.R_alloc | apply Kd.R_drewN | apply Kd.R_drew)); exact HO212.out) hb); have n3_ := Aside0.mk (Kd.R_below (by (with_reducible repeat (first | apply Kd.R_alloc | apply Kd.R_drewN | apply Kd.R_drew)); exact HO220.out) hb); have n4_ := Aside0.mk (Kd.R_below (by (with_reducible repeat (first | apply Kd.R_alloc | apply Kd.R_drewN | apply Kd.R_drew)); exact HO227.out) hb); have n5_ := Aside0.mk (Kd.R_below (by (with_reducible repeat (first | apply Kd.R_alloc | apply Kd.R_drewN | apply Kd.R_drew)); exact HO238.out) hb); have n6_ := Aside0.mk (Kd.R_below (by (with_reducible repeat (first | apply Kd.R_alloc | apply Kd.R_drewN | apply Kd.R_drew)); exact HO245.out) hb); have n7_ := Aside0.mk (blk_below (g := gb193) (o := .cells #[.int .i64 a0_0, .slice A0_1 l0_1.length c0_1] 30 (0, 0)) (by (with_reducible repeat (first | refine blk_drewN ?_ _ | refine blk_drew ?_ | refine blk_alloc ?_ _)); exact BK193.out) hb); have n8_ := Aside0.mk (blk_below (g := gb194) (o := .cells #[.int .i64 a1_0, .int .i64 a1_1, .int .i64 a1_2] 23 (0, 0)) (by (with_reducible repeat (first | refine blk_drewN ?_ _ | refine blk_drew ?_ | refine blk_alloc ?_ _)); exact BK194.out) hb); have n9_ := Aside0.mk (blk_below (g := gb208) (o := .cells #[.int .i64 t203, .slice Ao80 t204.length co80] 35 (0, 0)) (by (with_reducible repeat (first | refine blk_drewN ?_ _ | refine blk_drew ?_ | refine blk_alloc ?_ _)); exact BK208.out) hb); have n10_ := Aside0.mk (blk_below (g := gb213) (o := .cells #[.int .i64 t209, .slice Ao62 t210.length co62] 35 (0, 0)) (by (with_reducible repeat (first | refine blk_drewN ?_ _ | refine blk_drew ?_ | refine blk_alloc ?_ _)); exact BK213.out) hb); have n11_ := Aside0.mk (blk_below (g := gb222) (o := .cells #[.int .i64 t217, .slice Ao79 t218.length co79] 35 (0, 0)) (by (with_reducible repeat (first | refine blk_drewN ?_ _ | refine blk_drew ?_ | refine blk_alloc ?_ _)); exact BK222.out) hb); have n12_ := Aside0.mk (blk_below (g := gb247) (o := .cells #[.int .i64 t242, .slice Ao112 t243.length co112] 35 (0, 0)) (by (with_reducible repeat (first | refine blk_drewN ?_ _ | refine blk_drew ?_ | refine blk_alloc ?_ _)); exact BK247.out) hb); have n13_ := Aside0.mk (below_step (by repeat (first | (with_reducible first | exact HB.out | apply below_alloc | apply pw_below_drewN | apply below_drew1 | refine below_set ?_ GE193.out | refine below_set ?_ GE194.out | refine below_set ?_ GE208.out | refine below_set ?_ GE213.out | refine below_set ?_ GE222.out | refine below_set ?_ GE247.out) | exact HB.out)) hb); clear HO199; clear HO206; clear HO212; clear HO220; clear HO227; clear HO238; clear HO245; clear BK193; clear BK194; clear BK208; clear BK213; clear BK222; clear BK247; clear HB; have HO199 := n0_; have HO206 := n1_; have HO212 := n2_; have HO220 := n3_; have HO227 := n4_; have HO238 := n5_; have HO245 := n6_; have BK193 := n7_; have BK194 := n8_; have BK208 := n9_; have BK213 := n10_; have BK222 := n11_; have BK247 := n12_; have HB := n13_; clear n0_ n1_ n2_ n3_ n4_ n5_ n6_ n7_ n8_ n9_ n10_ n11_ n12_ n13_; (try clear hb); (try clear hb2); (try clear hk); (try clear hi); have hcz114_0 : w113.cell? ⟨gb222, 0, none⟩ = some (.int .i64 t217) := (blk_cell BK222.out 0).trans rfl; have hcz114_1 : w113.cell? ⟨gb222, 1, none⟩ = some (.slice Ao79 t218.length co79) := (blk_cell BK222.out 1).trans rfl; have hfz114_0 := blk_frozen BK222.out 0; have hfz114_1 := blk_frozen BK222.out 1) | ((with_reducible refine gate_callee (f := 23) rfl ?_); refine goesL_ (some 98) rfl rfl Try.func23 (by kernel_rfl) rfl #[.agg #[.int .i64 t217, .slice Ao79 t233.length co79], .int .i64 1] rfl (by (try simp only [List.map_toArray, List.map_cons, List.map_nil]); first | done | (rw [show t233.length = t218.length from (Kd.R_reads' HO220.out).1.symm] <;> rfl) | rfl | (simp only [List.length_drop, List.length_take]; rfl)) ?_; (with_reducible refine (laws_heldPuzzle.calls k t217 _ _ t233 1 t249 _ ?side1 ?side2 A36.out).mono ?_); (case side1 => repeat (first | exact (Kd.R_reads' HO220.out).2.2 | (with_reducible refine Kd.C_alloc ?_ _) | (with_reducible refine Kd.C_drewN ?_ _) | (with_reducible refine Kd.C_drew ?_))); (case side2 => rw [show t233.length = t218.length from (Kd.R_reads' HO220.out).1.symm]; exact (Kd.R_reads' HO220.out).2.1); rintro e w115 ⟨rfl, hb⟩; refine ⟨_, rfl, ?_⟩; have n0_ := Aside0.mk (Kd.R_below (by (with_reducible repeat (first | apply Kd.R_alloc | apply Kd.R_drewN | apply Kd.R_drew)); exact HO199.out) hb); have n1_ := Aside0.mk (Kd.R_below (by (with_reducible repeat (first | apply Kd.R_alloc | apply Kd.R_drewN | apply Kd.R_drew)); exact HO206.out) hb); have n2_ := Aside0.mk (Kd.R_below (by (with_reducible repeat (first | apply Kd.R_alloc | apply Kd.R_drewN | apply Kd.R_drew)); exact HO212.out) hb); have n3_ := Aside0.mk (Kd.R_below (by (with_reducible repeat (first | apply Kd.R_alloc | apply Kd.R_drewN | apply Kd.R_drew)); exact HO220.out) hb); have n4_ := Aside0.mk (Kd.R_below (by (with_reducible repeat (first | apply Kd.R_alloc | apply Kd.R_drewN | apply Kd.R_drew)); exact HO227.out) hb); have n5_ := Aside0.mk (Kd.R_below (by (with_reducible repeat (first | apply Kd.R_alloc | apply Kd.R_drewN | apply Kd.R_drew)); exact HO238.out) hb); have n6_ := Aside0.mk (Kd.R_below (by (with_reducible repeat (first | apply Kd.R_alloc | apply Kd.R_drewN | apply Kd.R_drew)); exact HO245.out) hb); have n7_ := Aside0.mk (blk_below (g := gb193) (o := .cells #[.int .i64 a0_0, .slice A0_1 l0_1.length c0_1] 30 (0, 0)) (by (with_reducible repeat (first | refine blk_drewN ?_ _ | refine blk_drew ?_ | refine blk_alloc ?_ _)); exact BK193.out) hb); have n8_ := Aside0.mk (blk_below (g := gb194) (o := .cells #[.int .i64 a1_0, .int .i64 a1_1, .int .i64 a1_2] 23 (0, 0)) (by (with_reducible repeat (first | refine blk_drewN ?_ _ | refine blk_drew ?_ | refine blk_alloc ?_ _)); exact BK194.out) hb); have n9_ := Aside0.mk (blk_below (g := gb208) (o := .cells #[.int .i64 t203, .slice Ao80 t204.length co80] 35 (0, 0)) (by (with_reducible repeat (first | refine blk_drewN ?_ _ | refine blk_drew ?_ | refine blk_alloc ?_ _)); exact BK208.out) hb); have n10_ := Aside0.mk (blk_below (g := gb213) (o := .cells #[.int .i64 t209, .slice Ao62 t210.length co62] 35 (0, 0)) (by (with_reducible repeat (first | refine blk_drewN ?_ _ | refine blk_drew ?_ | refine blk_alloc ?_ _)); exact BK213.out) hb); have n11_ := Aside0.mk (blk_below (g := gb222) (o := .cells #[.int .i64 t217, .slice Ao79 t218.length co79] 35 (0, 0)) (by (with_reducible repeat (first | refine blk_drewN ?_ _ | refine blk_drew ?_ | refine blk_alloc ?_ _)); exact BK222.out) hb); have n12_ := Aside0.mk (blk_below (g := gb247) (o := .cells #[.int .i64 t242, .slice Ao112 t243.length co112] 35 (0, 0)) (by (with_reducible repeat (first | refine blk_drewN ?_ _ | refine blk_drew ?_ | refine blk_alloc ?_ _)); exact BK247.out) hb); have n13_ := Aside0.mk (below_step (by repeat (first | (with_reducible first | exact HB.out | apply below_alloc | apply pw_below_drewN | apply below_drew1 | refine below_set ?_ GE193.out | refine below_set ?_ GE194.out | refine below_set ?_ GE208.out | refine below_set ?_ GE213.out | refine below_set ?_ GE222.out | refine below_set ?_ GE247.out) | exact HB.out)) hb); clear HO199; clear HO206; clear HO212; clear HO220; clear HO227; clear HO238; clear HO245; clear BK193; clear BK194; clear BK208; clear BK213; clear BK222; clear BK247; clear HB; have HO199 := n0_; have HO206 := n1_; have HO212 := n2_; have HO220 := n3_; have HO227 := n4_; have HO238 := n5_; have HO245 := n6_; have BK193 := n7_; have BK194 := n8_; have BK208 := n9_; have BK213 := n10_; have BK222 := n11_; have BK247 := n12_; have HB := n13_; clear n0_ n1_ n2_ n3_ n4_ n5_ n6_ n7_ n8_ n9_ n10_ n11_ n12_ n13_; (try clear hb); (try clear hb2); (try clear hk); (try clear hi)))
             go_ret
             exact ⟨by first | rfl | (simp [errW_none, errW_some] <;> rfl) | (simp [*, errW_none, errW_some] <;> rfl), by repeat (first | (with_reducible first | exact HB.out | apply below_alloc | apply pw_below_drewN | apply below_drew1 | refine below_set ?_ GE193.out | refine below_set ?_ GE194.out | refine below_set ?_ GE208.out | refine below_set ?_ GE213.out | refine below_set ?_ GE222.out | refine below_set ?_ GE247.out) | exact HB.out)⟩
            ·rw [if_neg c38] at H
             exact absurd H (by simp)
         ·replace c34 := Bool.eq_false_iff.mpr c34
          subst c34
          have H1 : (none) = some r := by rw [if_neg (show ¬ (false = true) by decide)] at H; exact H
          clear H
          have H := H1
          clear H1
          exact absurd H (by simp)
        ·rw [if_neg c29] at H
         exact absurd H (by simp)
      ·replace c25 := Bool.eq_false_iff.mpr c25
       subst c25
       have H1 : (none) = some r := by rw [if_neg (show ¬ (false = true) by decide)] at H; exact H
       clear H
       have H := H1
       clear H1
       exact absurd H (by simp)
    ·replace c21 := Bool.eq_false_iff.mpr c21
     subst c21
     have H1 : (none) = some r := by rw [if_neg (show ¬ (false = true) by decide)] at H; exact H
     clear H
     have H := H1
     clear H1
     exact absurd H (by simp)
  ·replace c17 := Bool.eq_false_iff.mpr c17
   subst c17
   have H1 : (none) = some r := by rw [if_neg (show ¬ (false = true) by decide)] at H; exact H
   clear H
   have H := H1
   clear H1
   exact absurd H (by simp)

end Go.Proofs.Ytdkcppnfjmcloaa.PAddClue
