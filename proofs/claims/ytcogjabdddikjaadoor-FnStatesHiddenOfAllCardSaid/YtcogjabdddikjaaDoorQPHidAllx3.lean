-- squeezed (sq3.py); PRINTED by drive.py (a program of this session's, over the kit's print.py; wip/tools/drive.py). Lean checks it.
import Derived.Test.YtcogjabdddikjaaDoorQPHidAllx0
import Derived.Test.YtcogjabdddikjaaDoorQPHidAllx2
import Derived.Test.YtcogjabdddikjaaDoorQSq
namespace Go.Proofs.YtcogjabdddikjaaDoor.PHidAll
open Go.RowKit Go.Proofs.YtcogjabdddikjaaDoorW.PrintWords Go.Proofs.YtcogjabdddikjaaDoorW.PrintLast Go.Proofs.YtcogjabdddikjaaDoorW.PrintMore
attribute [local go_sem] max2_int min2_int max_two min_two max_three min_three max_four min_four   -- for this text's walks alone
set_option linter.unusedVariables false
set_option linter.unusedSimpArgs false

/-! ### impl_Clue_told: function 113 -/
def impl_Clue_told.f (k : Nat) (a0_0 : Int) (a0_1 : Int) (a0_2 : Int) (a1 : ByteArray) : Option (Int × Int × Int) := if a0_0 = 0 then (if 0 ≤ a0_1 then (if a0_1 < (a1.size : Int) then ((impl_Clue_told_S1.f ((bt a1 a0_1) == 49)).bind fun t122 => (some (a0_0, a0_1, t122))) else (none)) else (none)) else (if a0_0 = 1 then ((impl_CountOn.f a1).bind fun bt123 => (some (a0_0, bt123.1, 0))) else (if a0_0 = 2 then ((impl_number.f k a1).bind fun t125 => (if a0_1 = 0 then (none) else (some (a0_0, a0_1, Int.tmod t125 a0_1)))) else (if a0_0 = 3 then ((impl_number.f k a1).bind fun t126 => ((impl_apart.f t126 a0_1).bind fun t127 => (some (a0_0, a0_1, t127)))) else (if a0_0 = 4 then ((impl_canMove.f a1 a0_1).bind fun t128 => ((impl_Clue_told_S1.f t128).bind fun t129 => (some (a0_0, a0_1, t129)))) else (some (a0_0, a0_1, 0))))))
instance impl_Clue_told.mI (k : Nat) : Mo (impl_Clue_told.f k) (impl_Clue_told.f (k + 1)) := by
 (repeat refine mE fun _ => ?_); unfold impl_Clue_told.f; exact mG
theorem impl_Clue_told.mono : ∀ a0 a1 a2 a3 k, LeO (impl_Clue_told.f k a0 a1 a2 a3) (impl_Clue_told.f (k + 1) a0 a1 a2 a3) := fun a0 a1 a2 a3 k => (impl_Clue_told.mI k).out a0 a1 a2 a3
set_option maxHeartbeats 8000000 in
set_option maxRecDepth 100000 in
theorem impl_Clue_told.calls (k : Nat) (a0_0 : Int) (a0_1 : Int) (a0_2 : Int) (a1 : ByteArray) (r1 : Int) (r2 : Int) (r3 : Int) (w : World) (h : impl_Clue_told.f k a0_0 a0_1 a0_2 a1 = some (r1, r2, r3)) :
  Calls Tryd.prog 113 #[.agg #[.int .i64 a0_0, .int .i64 a0_1, .int .i64 a0_2], .string a1] w fun e w' => e = .returned (.agg #[.int .i64 r1, .int .i64 r2, .int .i64 r3]) ∧ Below w.heap.size w w' := by
 have hu59 := Tryd.underlying59
 have HB := aM (Below.refl w.heap.size w)
 have H := h
 clear h; unfold impl_Clue_told.f at H
 refine iI H ?_ ?_ <;> clear H <;> intro c3 H
 ·have c3b0 := qT c3
  have c3b1 := nF c3
  clear c3
  refine iY H ?_; clear H; intro c4 H
  have c4b0 := dT c4
  clear c4
  refine iY H ?_; clear H; intro c5 H
  have c5b0 := dT c5
  clear c5
  replace H := bC H; obtain ⟨t122, A7, H⟩ := H
  simp only [Option.some.injEq, Prod.mk.injEq] at H
  obtain ⟨rfl, rfl, rfl⟩ := H
  go_enter Tryd.func113, Tryd.ntmps113
  go_wp2_with (first | (refine bX (N := 2) rfl (cs := #[.int .i64 a0_0, .int .i64 a0_1, .int .i64 a0_2]) (t := 59) ?_; intro gb120 hg w8 BK120 hb; have GW120 := gE hg HB; have GE120 := gE hg HB; replace HB := hS HB hb; clear hb hg) | (refine bX (N := 4) rfl (cs := #[.int .i64 0, .int .i64 0, .int .i64 0]) (t := 59) ?_; intro gb121 hg w9 BK121 hb; have GW121 := gE hg HB; have GE121 := gE hg HB; have NB120_121 := nbL hg BK120; have NB121_120 := nbR hg BK120; replace BK120 := bB BK120 hb; replace HB := hS HB hb; clear hb hg; have hnb10 := NB120_121.out; have hnc10 := NB121_120.out; obtain ⟨hcz11_0, hcz11_1, hcz11_2, hfz11_0, hfz11_1, hfz11_2⟩ := hC3 BK120; have p6 : 0 ≤ (a0_1 : Int) := oD; have q6 : a0_1 < (a1.size : Int) := oD; have hx6 := bt_at a1 a0_1; replace p6 := eq_true p6; replace q6 := eq_true q6) | ((with_reducible refine gate_dst (N := 17) rfl ?_); refine goesK_ (some 17) rfl rfl Tryd.func141 (by kernel_rfl) rfl #[.bool ((bt a1 a0_1) == 49)] rfl (by first | rfl | (go_simp; done)) (by (try simp only [List.map_toArray, List.map_cons, List.map_nil]); first | done | rfl | (simp only [List.length_drop, List.length_take]; rfl)) ?_; (with_reducible refine (impl_Clue_told_S1.calls ((bt a1 a0_1) == 49) t122 _ A7.out).mono ?_); rintro e w' ⟨rfl, ⟨nd, rfl⟩⟩; refine ⟨_, rfl, ?_⟩; obtain ⟨hcz12_0, hcz12_1, hcz12_2, hfz12_0, hfz12_1, hfz12_2⟩ := hC3 BK121))
  refine bodyPost_ret (results_cell_row rfl _ _ gb121 59 #[.int .i64 a0_0, .int .i64 a0_1, .int .i64 t122] (0, 0) _ rfl (by (with_reducible repeat (first | refine blk_drewN ?_ _ | refine blk_drew ?_ | refine blk_alloc ?_ _)); refine blk_put (cs := #[.int .i64 a0_0, .int .i64 a0_1, .int .i64 0]) ?_ 2 _ rfl; (with_reducible repeat (first | refine blk_drewN ?_ _ | refine blk_drew ?_ | refine blk_alloc ?_ _)); refine blk_put (cs := #[.int .i64 a0_0, .int .i64 0, .int .i64 0]) ?_ 1 _ rfl; (with_reducible repeat (first | refine blk_drewN ?_ _ | refine blk_drew ?_ | refine blk_alloc ?_ _)); refine blk_put (cs := #[.int .i64 0, .int .i64 0, .int .i64 0]) ?_ 0 _ rfl; (with_reducible repeat (first | refine blk_drewN ?_ _ | refine blk_drew ?_ | refine blk_alloc ?_ _)); refine blk_far ?_ NB121_120.out _; (with_reducible repeat (first | refine blk_drewN ?_ _ | refine blk_drew ?_ | refine blk_alloc ?_ _)); refine blk_far ?_ NB121_120.out _; (with_reducible repeat (first | refine blk_drewN ?_ _ | refine blk_drew ?_ | refine blk_alloc ?_ _)); exact BK121.out) Tryd.underlying59 rfl (by kernel_rfl)) rfl ?_
  exact ⟨eW, bel HB⟩
 have c3b0 := qF c3
 have c3b1 := nT c3
 refine iI H ?_ ?_ <;> clear H <;> intro c13 H
 ·have c13b0 := qT c13
  have c13b1 := nF c13
  clear c13
  replace H := bC H; obtain ⟨⟨t123, t124⟩, A14, H⟩ := H; try dsimp only at H
  simp only [Option.some.injEq, Prod.mk.injEq] at H
  obtain ⟨rfl, rfl, rfl⟩ := H
  go_enter Tryd.func113, Tryd.ntmps113
  go_wp2_with (first | (refine bX (N := 2) rfl (cs := #[.int .i64 a0_0, .int .i64 a0_1, .int .i64 a0_2]) (t := 59) ?_; intro gb120 hg w15 BK120 hb; have GW120 := gE hg HB; have GE120 := gE hg HB; replace HB := hS HB hb; clear hb hg) | (refine bX (N := 4) rfl (cs := #[.int .i64 0, .int .i64 0, .int .i64 0]) (t := 59) ?_; intro gb121 hg w16 BK121 hb; have GW121 := gE hg HB; have GE121 := gE hg HB; have NB120_121 := nbL hg BK120; have NB121_120 := nbR hg BK120; replace BK120 := bB BK120 hb; replace HB := hS HB hb; clear hb hg; have hnb17 := NB120_121.out; have hnc17 := NB121_120.out; obtain ⟨hcz18_0, hcz18_1, hcz18_2, hfz18_0, hfz18_1, hfz18_2⟩ := hC3 BK120) | ((with_reducible refine gG 20 (some 23) rfl rfl ?_); refine gC Tryd.func20 (impl_CountOn.calls a1 t123 t124 _ A14.out) ?_; rintro w19 hb; replace BK120 := aM (blk_below (g := gb120) (o := .cells #[.int .i64 a0_0, .int .i64 a0_1, .int .i64 0] 59 (0, 0)) (by (with_reducible repeat (first | refine blk_drewN ?_ _ | refine blk_drew ?_ | refine blk_alloc ?_ _)); refine blk_put (cs := #[.int .i64 a0_0, .int .i64 a0_1, .int .i64 a0_2]) ?_ 2 _ rfl; (with_reducible repeat (first | refine blk_drewN ?_ _ | refine blk_drew ?_ | refine blk_alloc ?_ _)); exact BK120.out) hb); replace BK121 := aM (blk_below (g := gb121) (o := .cells #[.int .i64 0, .int .i64 0, .int .i64 0] 59 (0, 0)) (by (with_reducible repeat (first | refine blk_drewN ?_ _ | refine blk_drew ?_ | refine blk_alloc ?_ _)); refine blk_far ?_ NB121_120.out _; (with_reducible repeat (first | refine blk_drewN ?_ _ | refine blk_drew ?_ | refine blk_alloc ?_ _)); exact BK121.out) hb); replace HB := hS HB hb; clear hb; obtain ⟨hcz20_0, hcz20_1, hcz20_2, hfz20_0, hfz20_1, hfz20_2⟩ := hC3 BK120; obtain ⟨hcz21_0, hcz21_1, hcz21_2, hfz21_0, hfz21_1, hfz21_2⟩ := hC3 BK121))
  refine bodyPost_ret (results_cell_row rfl _ _ gb121 59 #[.int .i64 a0_0, .int .i64 t123, .int .i64 0] (0, 0) _ rfl (by (with_reducible repeat (first | refine blk_drewN ?_ _ | refine blk_drew ?_ | refine blk_alloc ?_ _)); refine blk_put (cs := #[.int .i64 a0_0, .int .i64 t123, .int .i64 0]) ?_ 2 _ rfl; (with_reducible repeat (first | refine blk_drewN ?_ _ | refine blk_drew ?_ | refine blk_alloc ?_ _)); refine blk_put (cs := #[.int .i64 a0_0, .int .i64 0, .int .i64 0]) ?_ 1 _ rfl; (with_reducible repeat (first | refine blk_drewN ?_ _ | refine blk_drew ?_ | refine blk_alloc ?_ _)); refine blk_put (cs := #[.int .i64 0, .int .i64 0, .int .i64 0]) ?_ 0 _ rfl; (with_reducible repeat (first | refine blk_drewN ?_ _ | refine blk_drew ?_ | refine blk_alloc ?_ _)); refine blk_far ?_ NB121_120.out _; (with_reducible repeat (first | refine blk_drewN ?_ _ | refine blk_drew ?_ | refine blk_alloc ?_ _)); exact BK121.out) Tryd.underlying59 rfl (by kernel_rfl)) rfl ?_
  exact ⟨eW, bel HB⟩
 have c13b0 := qF c13
 have c13b1 := nT c13
 refine iI H ?_ ?_ <;> clear H <;> intro c22 H
 ·have c22b0 := qT c22
  have c22b1 := nF c22
  clear c22
  replace H := bC H; obtain ⟨t125, A23, H⟩ := H
  refine iN H ?_; clear H; intro c24 H
  have c24b0 := qF c24
  have c24b1 := nT c24
  simp only [Option.some.injEq, Prod.mk.injEq] at H
  obtain ⟨rfl, rfl, rfl⟩ := H
  go_enter Tryd.func113, Tryd.ntmps113
  try go_wp2_with (first | (refine bX (N := 2) rfl (cs := #[.int .i64 a0_0, .int .i64 a0_1, .int .i64 a0_2]) (t := 59) ?_; intro gb120 hg w25 BK120 hb; have GW120 := gE hg HB; have GE120 := gE hg HB; replace HB := hS HB hb; clear hb hg) | (refine bX (N := 4) rfl (cs := #[.int .i64 0, .int .i64 0, .int .i64 0]) (t := 59) ?_; intro gb121 hg w26 BK121 hb; have GW121 := gE hg HB; have GE121 := gE hg HB; have NB120_121 := nbL hg BK120; have NB121_120 := nbR hg BK120; replace BK120 := bB BK120 hb; replace HB := hS HB hb; clear hb hg; have hnb27 := NB120_121.out; have hnc27 := NB121_120.out; obtain ⟨hcz28_0, hcz28_1, hcz28_2, hfz28_0, hfz28_1, hfz28_2⟩ := hC3 BK120))
  have n0_ : Aside0 ((w26.setCell ⟨gb120, 2, none⟩ (.int .i64 0)).heap[gb120]? = some (.cells #[.int .i64 a0_0, .int .i64 a0_1, .int .i64 0] 59 (0, 0))) := ⟨by (with_reducible repeat (first | refine blk_drewN ?_ _ | refine blk_drew ?_ | refine blk_alloc ?_ _)); refine blk_put (cs := #[.int .i64 a0_0, .int .i64 a0_1, .int .i64 a0_2]) ?_ 2 _ rfl; (with_reducible repeat (first | refine blk_drewN ?_ _ | refine blk_drew ?_ | refine blk_alloc ?_ _)); exact BK120.out⟩
  have n1_ : Aside0 ((w26.setCell ⟨gb120, 2, none⟩ (.int .i64 0)).heap[gb121]? = some (.cells #[.int .i64 0, .int .i64 0, .int .i64 0] 59 (0, 0))) := ⟨by (with_reducible repeat (first | refine blk_drewN ?_ _ | refine blk_drew ?_ | refine blk_alloc ?_ _)); refine blk_far ?_ NB121_120.out _; (with_reducible repeat (first | refine blk_drewN ?_ _ | refine blk_drew ?_ | refine blk_alloc ?_ _)); exact BK121.out⟩
  have n2_ : Aside0 (Below w.heap.size w (w26.setCell ⟨gb120, 2, none⟩ (.int .i64 0))) := hV HB
  (try clear BK120)
  (try clear BK121)
  (try clear HB)
  generalize (w26.setCell ⟨gb120, 2, none⟩ (.int .i64 0)) = w29 at n0_ n1_ n2_ ⊢
  have BK120 := n0_
  have BK121 := n1_
  have HB := n2_
  clear n0_ n1_ n2_
  have n0_ := aM (blk_drew BK120.out)
  have n1_ := aM (blk_drew BK121.out)
  have n2_ := aM (below_drew1 HB.out)
  clear BK120
  clear BK121
  clear HB
  have BK120 := n0_
  have BK121 := n1_
  have HB := n2_
  clear n0_ n1_ n2_
  refine start_ (n := 7) (S := fun w' => w'.cell? ⟨gb120, 0, none⟩ = some (.int .i64 a0_0) ∧ w'.cell? ⟨gb120, 1, none⟩ = some (.int .i64 a0_1) ∧ w'.cell? ⟨gb120, 2, none⟩ = some (.int .i64 0)) (ds := [6]) #[false, false, false, false, false, false, false] (by kernel_rfl) rfl rfl ⟨(blk_cell BK120.out 0).trans rfl, (blk_cell BK120.out 1).trans rfl, (blk_cell BK120.out 2).trans rfl⟩ (fun hHeld => ?_)
  generalize w29.drew = w30 at BK120 BK121 HB hHeld ⊢
  refine pure_ (i := 0) (N := some 29) (v := ?_) (a' := ?_) #[true, false, false, false, false, false, false] rfl rfl (by kernel_rfl) (fun _ _ _ h => h) (Or.inl ⟨by rfl, ?_⟩) ?_ ?_
  rotate_left
  ·intro w'
   go_simp
   with_reducible rfl
  rotate_left
  ·simp only [Act.put, List.setIfInBounds_toArray, List.set_cons_zero, List.set_cons_succ, i64_w, i32_w]
   rfl
  refine pure_ (i := 2) (N := some 31) (v := ?_) (a' := ?_) #[true, false, true, false, false, false, false] rfl rfl (by kernel_rfl) (fun _ _ _ h => h) (Or.inl ⟨by rfl, ?_⟩) ?_ ?_
  rotate_left
  ·intro w'
   go_simp
   with_reducible rfl
  rotate_left
  ·simp only [Act.put, List.setIfInBounds_toArray, List.set_cons_zero, List.set_cons_succ, i64_w, i32_w]
   rfl
  refine take_ (i := 3) (N := some 32) (v := ?_) (a' := ?_) #[true, false, true, true, false, false, false] rfl rfl (by kernel_rfl) (fun _ _ _ h => h) (Or.inl ⟨by rfl, ?_⟩) hHeld ?_ ?_
  rotate_left
  ·rintro w' ⟨s0, s1, s2⟩
   go_simp
   with_reducible rfl
  rotate_left
  ·simp only [Act.put, List.setIfInBounds_toArray, List.set_cons_zero, List.set_cons_succ, i64_w, i32_w]
   rfl
  refine one_ (i := 1) (N := some 30) #[true, true, true, true, false, false, false] rfl rfl (by kernel_rfl) (by decide) (fun K hK => ?_)
  refine goes_ Tryd.func75 (by kernel_rfl) rfl #[.string a1] (by rfl) rfl rfl (by (try simp only [List.map_toArray, List.map_cons, List.map_nil]); first | done | rfl | (simp only [List.length_drop, List.length_take]; rfl)) ?_
  with_reducible refine (impl_number.calls k a1 t125 _ A23.out).mono ?_
  rintro e w' ⟨rfl, ⟨nd, rfl⟩⟩
  refine ⟨_, rfl, ?_⟩
  refine hK.out _ _ ⟨(blk_cell BK120.out 0).trans rfl, (blk_cell BK120.out 1).trans rfl, (blk_cell BK120.out 2).trans rfl⟩ (fun hHeld => ?_)
  clear hK K
  refine norm_ (a' := ?_) ?_ ?_
  rotate_left
  ·show Act.put _ (some 30) _ = _
   simp only [Act.put, List.setIfInBounds_toArray, List.set_cons_zero, List.set_cons_succ, i64_w, i32_w]
   rfl
  refine pure_ (i := 4) (N := some 33) (v := ?_) (a' := ?_) #[true, true, true, true, true, false, false] rfl rfl (by kernel_rfl) (fun _ _ _ h => h) (Or.inl ⟨by rfl, ?_⟩) ?_ ?_
  rotate_left
  ·intro w'
   go_simp
   with_reducible rfl
  rotate_left
  ·simp only [Act.put, List.setIfInBounds_toArray, List.set_cons_zero, List.set_cons_succ, i64_w, i32_w]
   rfl
  refine pure_ (i := 5) (N := some 34) (v := ?_) (a' := ?_) #[true, true, true, true, true, true, false] rfl rfl (by kernel_rfl) (fun _ _ _ h => h) (Or.inl ⟨by rfl, ?_⟩) ?_ ?_
  rotate_left
  ·intro w'
   go_simp
   with_reducible rfl
  rotate_left
  ·simp only [Act.put, List.setIfInBounds_toArray, List.set_cons_zero, List.set_cons_succ, i64_w, i32_w]
   rfl
  refine last_ (i := 6) (N := none) #[true, true, true, true, true, true, true] rfl rfl (by kernel_rfl) (by decide) (fun K hK => ?_)
  have hs31 : w30.cell? ⟨gb120, 2, none⟩ = some (.int .i64 0) := (blk_cell BK120.out 2).trans rfl
  have hfs31 := blk_frozen BK120.out 2
  have hns31_1 := NB121_120.out
  have hms31_1 := NB120_121.out
  refine skip_ (w1 := ?_) (by rfl) rfl ?_ ?_
  rotate_left
  ·go_simp
   rfl
  refine hK.out _ _ ?_
  clear hK K
  refine done_ (by kernel_rfl) ?_
  obtain ⟨hcz32_0, hcz32_1, hcz32_2, hfz32_0, hfz32_1, hfz32_2⟩ := hC3 BK120
  obtain ⟨hcz33_0, hcz33_1, hcz33_2, hfz33_0, hfz33_1, hfz33_2⟩ := hC3 BK121
  try go_wp2
  refine bodyPost_ret (results_cell_row rfl _ _ gb121 59 #[.int .i64 a0_0, .int .i64 a0_1, .int .i64 (Int.tmod t125 a0_1)] (0, 0) _ rfl (by (with_reducible repeat (first | refine blk_drewN ?_ _ | refine blk_drew ?_ | refine blk_alloc ?_ _)); refine blk_put (cs := #[.int .i64 a0_0, .int .i64 a0_1, .int .i64 0]) ?_ 2 _ rfl; (with_reducible repeat (first | refine blk_drewN ?_ _ | refine blk_drew ?_ | refine blk_alloc ?_ _)); refine blk_put (cs := #[.int .i64 a0_0, .int .i64 0, .int .i64 0]) ?_ 1 _ rfl; (with_reducible repeat (first | refine blk_drewN ?_ _ | refine blk_drew ?_ | refine blk_alloc ?_ _)); refine blk_put (cs := #[.int .i64 0, .int .i64 0, .int .i64 0]) ?_ 0 _ rfl; (with_reducible repeat (first | refine blk_drewN ?_ _ | refine blk_drew ?_ | refine blk_alloc ?_ _)); refine blk_far ?_ NB121_120.out _; (with_reducible repeat (first | refine blk_drewN ?_ _ | refine blk_drew ?_ | refine blk_alloc ?_ _)); exact BK121.out) Tryd.underlying59 rfl (by kernel_rfl)) rfl ?_
  exact ⟨eW, bel HB⟩
 have c22b0 := qF c22
 have c22b1 := nT c22
 refine iI H ?_ ?_ <;> clear H <;> intro c34 H
 ·have c34b0 := qT c34
  have c34b1 := nF c34
  clear c34
  replace H := bC H; obtain ⟨t126, A35, H⟩ := H
  replace H := bC H; obtain ⟨t127, A36, H⟩ := H
  simp only [Option.some.injEq, Prod.mk.injEq] at H
  obtain ⟨rfl, rfl, rfl⟩ := H
  go_enter Tryd.func113, Tryd.ntmps113
  try go_wp2_with (first | (refine bX (N := 2) rfl (cs := #[.int .i64 a0_0, .int .i64 a0_1, .int .i64 a0_2]) (t := 59) ?_; intro gb120 hg w37 BK120 hb; have GW120 := gE hg HB; have GE120 := gE hg HB; replace HB := hS HB hb; clear hb hg) | (refine bX (N := 4) rfl (cs := #[.int .i64 0, .int .i64 0, .int .i64 0]) (t := 59) ?_; intro gb121 hg w38 BK121 hb; have GW121 := gE hg HB; have GE121 := gE hg HB; have NB120_121 := nbL hg BK120; have NB121_120 := nbR hg BK120; replace BK120 := bB BK120 hb; replace HB := hS HB hb; clear hb hg; have hnb39 := NB120_121.out; have hnc39 := NB121_120.out; obtain ⟨hcz40_0, hcz40_1, hcz40_2, hfz40_0, hfz40_1, hfz40_2⟩ := hC3 BK120))
  have n0_ : Aside0 ((w38.setCell ⟨gb120, 2, none⟩ (.int .i64 0)).heap[gb120]? = some (.cells #[.int .i64 a0_0, .int .i64 a0_1, .int .i64 0] 59 (0, 0))) := ⟨by (with_reducible repeat (first | refine blk_drewN ?_ _ | refine blk_drew ?_ | refine blk_alloc ?_ _)); refine blk_put (cs := #[.int .i64 a0_0, .int .i64 a0_1, .int .i64 a0_2]) ?_ 2 _ rfl; (with_reducible repeat (first | refine blk_drewN ?_ _ | refine blk_drew ?_ | refine blk_alloc ?_ _)); exact BK120.out⟩
  have n1_ : Aside0 ((w38.setCell ⟨gb120, 2, none⟩ (.int .i64 0)).heap[gb121]? = some (.cells #[.int .i64 0, .int .i64 0, .int .i64 0] 59 (0, 0))) := ⟨by (with_reducible repeat (first | refine blk_drewN ?_ _ | refine blk_drew ?_ | refine blk_alloc ?_ _)); refine blk_far ?_ NB121_120.out _; (with_reducible repeat (first | refine blk_drewN ?_ _ | refine blk_drew ?_ | refine blk_alloc ?_ _)); exact BK121.out⟩
  have n2_ : Aside0 (Below w.heap.size w (w38.setCell ⟨gb120, 2, none⟩ (.int .i64 0))) := hV HB
  (try clear BK120)
  (try clear BK121)
  (try clear HB)
  generalize (w38.setCell ⟨gb120, 2, none⟩ (.int .i64 0)) = w41 at n0_ n1_ n2_ ⊢
  have BK120 := n0_
  have BK121 := n1_
  have HB := n2_
  clear n0_ n1_ n2_
  have n0_ := aM (blk_drew BK120.out)
  have n1_ := aM (blk_drew BK121.out)
  have n2_ := aM (below_drew1 HB.out)
  clear BK120
  clear BK121
  clear HB
  have BK120 := n0_
  have BK121 := n1_
  have HB := n2_
  clear n0_ n1_ n2_
  refine start_ (n := 7) (S := fun w' => w'.cell? ⟨gb120, 0, none⟩ = some (.int .i64 a0_0) ∧ w'.cell? ⟨gb120, 1, none⟩ = some (.int .i64 a0_1) ∧ w'.cell? ⟨gb120, 2, none⟩ = some (.int .i64 0)) (ds := [6]) #[false, false, false, false, false, false, false] (by kernel_rfl) rfl rfl ⟨(blk_cell BK120.out 0).trans rfl, (blk_cell BK120.out 1).trans rfl, (blk_cell BK120.out 2).trans rfl⟩ (fun hHeld => ?_)
  generalize w41.drew = w42 at BK120 BK121 HB hHeld ⊢
  refine pure_ (i := 0) (N := some 37) (v := ?_) (a' := ?_) #[true, false, false, false, false, false, false] rfl rfl (by kernel_rfl) (fun _ _ _ h => h) (Or.inl ⟨by rfl, ?_⟩) ?_ ?_
  rotate_left
  ·intro w'
   go_simp
   with_reducible rfl
  rotate_left
  ·simp only [Act.put, List.setIfInBounds_toArray, List.set_cons_zero, List.set_cons_succ, i64_w, i32_w]
   rfl
  refine pure_ (i := 2) (N := some 39) (v := ?_) (a' := ?_) #[true, false, true, false, false, false, false] rfl rfl (by kernel_rfl) (fun _ _ _ h => h) (Or.inl ⟨by rfl, ?_⟩) ?_ ?_
  rotate_left
  ·intro w'
   go_simp
   with_reducible rfl
  rotate_left
  ·simp only [Act.put, List.setIfInBounds_toArray, List.set_cons_zero, List.set_cons_succ, i64_w, i32_w]
   rfl
  refine take_ (i := 3) (N := some 40) (v := ?_) (a' := ?_) #[true, false, true, true, false, false, false] rfl rfl (by kernel_rfl) (fun _ _ _ h => h) (Or.inl ⟨by rfl, ?_⟩) hHeld ?_ ?_
  rotate_left
  ·rintro w' ⟨s0, s1, s2⟩
   go_simp
   with_reducible rfl
  rotate_left
  ·simp only [Act.put, List.setIfInBounds_toArray, List.set_cons_zero, List.set_cons_succ, i64_w, i32_w]
   rfl
  refine one_ (i := 1) (N := some 38) #[true, true, true, true, false, false, false] rfl rfl (by kernel_rfl) (by decide) (fun K hK => ?_)
  refine goes_ Tryd.func75 (by kernel_rfl) rfl #[.string a1] (by rfl) rfl rfl (by (try simp only [List.map_toArray, List.map_cons, List.map_nil]); first | done | rfl | (simp only [List.length_drop, List.length_take]; rfl)) ?_
  with_reducible refine (impl_number.calls k a1 t126 _ A35.out).mono ?_
  rintro e w' ⟨rfl, ⟨nd, rfl⟩⟩
  refine ⟨_, rfl, ?_⟩
  refine hK.out _ _ ⟨(blk_cell BK120.out 0).trans rfl, (blk_cell BK120.out 1).trans rfl, (blk_cell BK120.out 2).trans rfl⟩ (fun hHeld => ?_)
  clear hK K
  refine norm_ (a' := ?_) ?_ ?_
  rotate_left
  ·show Act.put _ (some 38) _ = _
   simp only [Act.put, List.setIfInBounds_toArray, List.set_cons_zero, List.set_cons_succ, i64_w, i32_w]
   rfl
  refine one_ (i := 4) (N := some 41) #[true, true, true, true, true, false, false] rfl rfl (by kernel_rfl) (by decide) (fun K hK => ?_)
  refine goes_ Tryd.func93 (by kernel_rfl) rfl #[.int .i64 t126, .int .i64 a0_1] (by rfl) rfl rfl (by (try simp only [List.map_toArray, List.map_cons, List.map_nil]); first | done | rfl | (simp only [List.length_drop, List.length_take]; rfl)) ?_
  with_reducible refine (impl_apart.calls t126 a0_1 t127 _ A36.out).mono ?_
  rintro e w43 ⟨rfl, hb⟩
  refine ⟨_, rfl, ?_⟩
  have n0_ := bB BK120 hb
  have n1_ := bB BK121 hb
  have n2_ := hS HB hb
  clear BK120
  clear BK121
  clear HB
  have BK120 := n0_
  have BK121 := n1_
  have HB := n2_
  clear n0_ n1_ n2_
  (try clear hb)
  (try clear hb2)
  (try clear hk)
  (try clear hi)
  refine hK.out _ _ ⟨(blk_cell BK120.out 0).trans rfl, (blk_cell BK120.out 1).trans rfl, (blk_cell BK120.out 2).trans rfl⟩ (fun hHeld => ?_)
  clear hK K
  refine norm_ (a' := ?_) ?_ ?_
  rotate_left
  ·show Act.put _ (some 41) _ = _
   simp only [Act.put, List.setIfInBounds_toArray, List.set_cons_zero, List.set_cons_succ, i64_w, i32_w]
   rfl
  refine pure_ (i := 5) (N := some 42) (v := ?_) (a' := ?_) #[true, true, true, true, true, true, false] rfl rfl (by kernel_rfl) (fun _ _ _ h => h) (Or.inl ⟨by rfl, ?_⟩) ?_ ?_
  rotate_left
  ·intro w'
   go_simp
   with_reducible rfl
  rotate_left
  ·simp only [Act.put, List.setIfInBounds_toArray, List.set_cons_zero, List.set_cons_succ, i64_w, i32_w]
   rfl
  refine last_ (i := 6) (N := none) #[true, true, true, true, true, true, true] rfl rfl (by kernel_rfl) (by decide) (fun K hK => ?_)
  have hs44 : w43.cell? ⟨gb120, 2, none⟩ = some (.int .i64 0) := (blk_cell BK120.out 2).trans rfl
  have hfs44 := blk_frozen BK120.out 2
  have hns44_1 := NB121_120.out
  have hms44_1 := NB120_121.out
  refine skip_ (w1 := ?_) (by rfl) rfl ?_ ?_
  rotate_left
  ·go_simp
   rfl
  refine hK.out _ _ ?_
  clear hK K
  refine done_ (by kernel_rfl) ?_
  obtain ⟨hcz45_0, hcz45_1, hcz45_2, hfz45_0, hfz45_1, hfz45_2⟩ := hC3 BK120
  obtain ⟨hcz46_0, hcz46_1, hcz46_2, hfz46_0, hfz46_1, hfz46_2⟩ := hC3 BK121
  try go_wp2
  refine bodyPost_ret (results_cell_row rfl _ _ gb121 59 #[.int .i64 a0_0, .int .i64 a0_1, .int .i64 t127] (0, 0) _ rfl (by (with_reducible repeat (first | refine blk_drewN ?_ _ | refine blk_drew ?_ | refine blk_alloc ?_ _)); refine blk_put (cs := #[.int .i64 a0_0, .int .i64 a0_1, .int .i64 0]) ?_ 2 _ rfl; (with_reducible repeat (first | refine blk_drewN ?_ _ | refine blk_drew ?_ | refine blk_alloc ?_ _)); refine blk_put (cs := #[.int .i64 a0_0, .int .i64 0, .int .i64 0]) ?_ 1 _ rfl; (with_reducible repeat (first | refine blk_drewN ?_ _ | refine blk_drew ?_ | refine blk_alloc ?_ _)); refine blk_put (cs := #[.int .i64 0, .int .i64 0, .int .i64 0]) ?_ 0 _ rfl; (with_reducible repeat (first | refine blk_drewN ?_ _ | refine blk_drew ?_ | refine blk_alloc ?_ _)); refine blk_far ?_ NB121_120.out _; (with_reducible repeat (first | refine blk_drewN ?_ _ | refine blk_drew ?_ | refine blk_alloc ?_ _)); exact BK121.out) Tryd.underlying59 rfl (by kernel_rfl)) rfl ?_
  exact ⟨eW, bel HB⟩
 have c34b0 := qF c34
 have c34b1 := nT c34
 refine iI H ?_ ?_ <;> clear H <;> intro c47 H
 ·have c47b0 := qT c47
  have c47b1 := nF c47
  clear c47
  replace H := bC H; obtain ⟨t128, A48, H⟩ := H
  replace H := bC H; obtain ⟨t129, A49, H⟩ := H
  simp only [Option.some.injEq, Prod.mk.injEq] at H
  obtain ⟨rfl, rfl, rfl⟩ := H
  go_enter Tryd.func113, Tryd.ntmps113
  go_wp2_with (first | (refine bX (N := 2) rfl (cs := #[.int .i64 a0_0, .int .i64 a0_1, .int .i64 a0_2]) (t := 59) ?_; intro gb120 hg w50 BK120 hb; have GW120 := gE hg HB; have GE120 := gE hg HB; replace HB := hS HB hb; clear hb hg) | (refine bX (N := 4) rfl (cs := #[.int .i64 0, .int .i64 0, .int .i64 0]) (t := 59) ?_; intro gb121 hg w51 BK121 hb; have GW121 := gE hg HB; have GE121 := gE hg HB; have NB120_121 := nbL hg BK120; have NB121_120 := nbR hg BK120; replace BK120 := bB BK120 hb; replace HB := hS HB hb; clear hb hg; have hnb52 := NB120_121.out; have hnc52 := NB121_120.out; obtain ⟨hcz53_0, hcz53_1, hcz53_2, hfz53_0, hfz53_1, hfz53_2⟩ := hC3 BK120) | ((with_reducible refine gG 100 (some 49) rfl rfl ?_); refine gC Tryd.func100 (impl_canMove.calls a1 a0_1 t128 _ A48.out) ?_; rintro w54 hb; replace BK120 := aM (blk_below (g := gb120) (o := .cells #[.int .i64 a0_0, .int .i64 a0_1, .int .i64 0] 59 (0, 0)) (by (with_reducible repeat (first | refine blk_drewN ?_ _ | refine blk_drew ?_ | refine blk_alloc ?_ _)); refine blk_put (cs := #[.int .i64 a0_0, .int .i64 a0_1, .int .i64 a0_2]) ?_ 2 _ rfl; (with_reducible repeat (first | refine blk_drewN ?_ _ | refine blk_drew ?_ | refine blk_alloc ?_ _)); exact BK120.out) hb); replace BK121 := aM (blk_below (g := gb121) (o := .cells #[.int .i64 0, .int .i64 0, .int .i64 0] 59 (0, 0)) (by (with_reducible repeat (first | refine blk_drewN ?_ _ | refine blk_drew ?_ | refine blk_alloc ?_ _)); refine blk_far ?_ NB121_120.out _; (with_reducible repeat (first | refine blk_drewN ?_ _ | refine blk_drew ?_ | refine blk_alloc ?_ _)); exact BK121.out) hb); replace HB := hS HB hb; clear hb) | ((with_reducible refine gate_dst (N := 50) rfl ?_); refine goesK_ (some 50) rfl rfl Tryd.func141 (by kernel_rfl) rfl #[.bool t128] rfl (by first | rfl | (go_simp; done)) (by (try simp only [List.map_toArray, List.map_cons, List.map_nil]); first | done | rfl | (simp only [List.length_drop, List.length_take]; rfl)) ?_; (with_reducible refine (impl_Clue_told_S1.calls t128 t129 _ A49.out).mono ?_); rintro e w' ⟨rfl, ⟨nd, rfl⟩⟩; refine ⟨_, rfl, ?_⟩; (try (rw [drewN_self w54]; generalize hq_ : World.drewN w54 _ = w54; have n0_ : Aside0 (w54.heap[gb120]? = some (.cells #[.int .i64 a0_0, .int .i64 a0_1, .int .i64 0] 59 (0, 0))) := ⟨by rw [← hq_]; exact (bU BK120.out)⟩; have n1_ : Aside0 (w54.heap[gb121]? = some (.cells #[.int .i64 0, .int .i64 0, .int .i64 0] 59 (0, 0))) := ⟨by rw [← hq_]; exact (bU BK121.out)⟩; have n2_ : Aside0 (Below w.heap.size w w54) := ⟨by rw [← hq_]; exact (bel HB)⟩; clear BK120 BK121 HB hq_; have BK120 := n0_; have BK121 := n1_; have HB := n2_; clear n0_ n1_ n2_)); obtain ⟨hcz55_0, hcz55_1, hcz55_2, hfz55_0, hfz55_1, hfz55_2⟩ := hC3 BK120; obtain ⟨hcz56_0, hcz56_1, hcz56_2, hfz56_0, hfz56_1, hfz56_2⟩ := hC3 BK121))
  refine bodyPost_ret (results_cell_row rfl _ _ gb121 59 #[.int .i64 a0_0, .int .i64 a0_1, .int .i64 t129] (0, 0) _ rfl (by (with_reducible repeat (first | refine blk_drewN ?_ _ | refine blk_drew ?_ | refine blk_alloc ?_ _)); refine blk_put (cs := #[.int .i64 a0_0, .int .i64 a0_1, .int .i64 0]) ?_ 2 _ rfl; (with_reducible repeat (first | refine blk_drewN ?_ _ | refine blk_drew ?_ | refine blk_alloc ?_ _)); refine blk_put (cs := #[.int .i64 a0_0, .int .i64 0, .int .i64 0]) ?_ 1 _ rfl; (with_reducible repeat (first | refine blk_drewN ?_ _ | refine blk_drew ?_ | refine blk_alloc ?_ _)); refine blk_put (cs := #[.int .i64 0, .int .i64 0, .int .i64 0]) ?_ 0 _ rfl; (with_reducible repeat (first | refine blk_drewN ?_ _ | refine blk_drew ?_ | refine blk_alloc ?_ _)); refine blk_far ?_ NB121_120.out _; (with_reducible repeat (first | refine blk_drewN ?_ _ | refine blk_drew ?_ | refine blk_alloc ?_ _)); exact BK121.out) Tryd.underlying59 rfl (by kernel_rfl)) rfl ?_
  exact ⟨eW, bel HB⟩
 have c47b0 := qF c47
 have c47b1 := nT c47
 simp only [Option.some.injEq, Prod.mk.injEq] at H
 obtain ⟨rfl, rfl, rfl⟩ := H
 go_enter Tryd.func113, Tryd.ntmps113
 go_wp2_with (first | (refine bX (N := 2) rfl (cs := #[.int .i64 a0_0, .int .i64 a0_1, .int .i64 a0_2]) (t := 59) ?_; intro gb120 hg w57 BK120 hb; have GW120 := gE hg HB; have GE120 := gE hg HB; replace HB := hS HB hb; clear hb hg) | (refine bX (N := 4) rfl (cs := #[.int .i64 0, .int .i64 0, .int .i64 0]) (t := 59) ?_; intro gb121 hg w58 BK121 hb; have GW121 := gE hg HB; have GE121 := gE hg HB; have NB120_121 := nbL hg BK120; have NB121_120 := nbR hg BK120; replace BK120 := bB BK120 hb; replace HB := hS HB hb; clear hb hg; have hnb59 := NB120_121.out; have hnc59 := NB121_120.out; obtain ⟨hcz60_0, hcz60_1, hcz60_2, hfz60_0, hfz60_1, hfz60_2⟩ := hC3 BK120; obtain ⟨hcz61_0, hcz61_1, hcz61_2, hfz61_0, hfz61_1, hfz61_2⟩ := hC3 BK121))
 refine bodyPost_ret (results_cell_row rfl _ _ gb121 59 #[.int .i64 a0_0, .int .i64 a0_1, .int .i64 0] (0, 0) _ rfl (by (with_reducible repeat (first | refine blk_drewN ?_ _ | refine blk_drew ?_ | refine blk_alloc ?_ _)); refine blk_put (cs := #[.int .i64 a0_0, .int .i64 a0_1, .int .i64 0]) ?_ 2 _ rfl; (with_reducible repeat (first | refine blk_drewN ?_ _ | refine blk_drew ?_ | refine blk_alloc ?_ _)); refine blk_put (cs := #[.int .i64 a0_0, .int .i64 0, .int .i64 0]) ?_ 1 _ rfl; (with_reducible repeat (first | refine blk_drewN ?_ _ | refine blk_drew ?_ | refine blk_alloc ?_ _)); refine blk_put (cs := #[.int .i64 0, .int .i64 0, .int .i64 0]) ?_ 0 _ rfl; (with_reducible repeat (first | refine blk_drewN ?_ _ | refine blk_drew ?_ | refine blk_alloc ?_ _)); refine blk_far ?_ NB121_120.out _; (with_reducible repeat (first | refine blk_drewN ?_ _ | refine blk_drew ?_ | refine blk_alloc ?_ _)); exact BK121.out) Tryd.underlying59 rfl (by kernel_rfl)) rfl ?_
 exact ⟨eW, bel HB⟩

/-! ### spec_riOn: function 91 -/
def spec_riOn.l0 : Nat → ByteArray → Int → Int → Option (Int)
 | 0, _, _, _ => none
 | k + 1, x0, x3, x4 => if x4 < (x0.size : Int) then (if 0 ≤ x4 then (if (bt x0 x4) = 49 then (spec_riOn.l0 k x0 (wrap64 (x3 + 1)) (wrap64 (x4 + 1))) else (spec_riOn.l0 k x0 x3 (wrap64 (x4 + 1)))) else (none)) else (some x3)
def spec_riOn.f (k : Nat) (a0 : ByteArray) : Option (Int) := spec_riOn.l0 k a0 0 0
theorem spec_riOn.mono_l : ∀ k, Mo (spec_riOn.l0 k) (spec_riOn.l0 (k + 1))
 | 0 => m0
 | k + 1 => by
  have ih0 := spec_riOn.mono_l k
  (repeat refine mE fun _ => ?_) <;> first | (unfold spec_riOn.l0; exact mG)
instance spec_riOn.mI (k : Nat) : Mo (spec_riOn.f k) (spec_riOn.f (k + 1)) := by
 have ih0 := spec_riOn.mono_l k
 (repeat refine mE fun _ => ?_); unfold spec_riOn.f; exact mG
theorem spec_riOn.mono : ∀ a0 k, LeO (spec_riOn.f k a0) (spec_riOn.f (k + 1) a0) := fun a0 k => (spec_riOn.mI k).out a0
set_option maxHeartbeats 8000000 in
set_option maxRecDepth 100000 in
theorem spec_riOn.calls (k : Nat) (a0 : ByteArray) (r : Int) (w : World) (h : spec_riOn.f k a0 = some r) :
  Calls Tryd.prog 91 #[.string a0] w fun e w' => e = .returned (.int .i64 r) ∧ Drawn0 w w' := by
 have H := h
 clear h; unfold spec_riOn.f at H
 have H' := aM H
 clear H
 go_enter Tryd.func91, Tryd.ntmps91
 go_wp2
 go_loopg [3, 4] k (fun kq v3 v4 w' => ∃ (x3_1 : Int) (x4_1 : Int), v3 = .int .i64 x3_1 ∧ v4 = .int .i64 x4_1 ∧ Aside0 (spec_riOn.l0 kq a0 x3_1 x4_1 = some r) ∧ Aside0 (kq ≤ k) ∧ Drawn0 w w')
 case atStart => exact ⟨(0), (0), rF, rF, H', kR, d0⟩
 case round =>
  clear H'
  obtain ⟨x3_1, x4_1, rfl, rfl, HA, HK1, ⟨m1, rfl⟩⟩ := hrel
  obtain rfl | ⟨k1, rfl⟩ := fz gk
  ·exact zA HA
  have H := HA.out
  clear HA
  simp only [spec_riOn.l0] at H
  refine iI H ?_ ?_ <;> clear H <;> intro c2 H
  ·have c2b0 := dT c2
   clear c2
   refine iY H ?_; clear H; intro c3 H
   have c3b0 := dT c3
   clear c3
   refine iI H ?_ ?_ <;> clear H <;> intro c5 H
   ·have c5b0 := qT c5
    have c5b1 := nF c5
    clear c5
    have H' := aM H
    clear H
    have p4 : 0 ≤ (x4_1 : Int) := oD
    have q4 : x4_1 < (a0.size : Int) := oD
    have hx4 := bt_at a0 x4_1
    replace p4 := eq_true p4
    replace q4 := eq_true q4
    go_wp2
    go_roundg k1
    case measure => have := HK1.out; omega
    case rel => exact ⟨(wrap64 (x3_1 + 1)), (wrap64 (x4_1 + 1)), rF, rF, H', ⟨by have := HK1.out; omega⟩, d0⟩
   have c5b0 := qF c5
   have c5b1 := nT c5
   have H' := aM H
   clear H
   have p4 : 0 ≤ (x4_1 : Int) := oD
   have q4 : x4_1 < (a0.size : Int) := oD
   have hx4 := bt_at a0 x4_1
   replace p4 := eq_true p4
   replace q4 := eq_true q4
   go_wp2
   go_roundg k1
   case measure => have := HK1.out; omega
   case rel => exact ⟨(x3_1), (wrap64 (x4_1 + 1)), rF, rF, H', ⟨by have := HK1.out; omega⟩, d0⟩
  have c2b0 := dF c2
  clear c2
  obtain rfl := Option.some.inj H
  go_wp2
  go_ret
  exact ⟨rF, d0⟩

/-! ### spec_l1Most: function 90 -/
def spec_l1Most.f (a0 : Int) (a1 : Int) : Option (Int) := if a0 > a1 then (some a0) else (some a1)
set_option maxHeartbeats 8000000 in
set_option maxRecDepth 100000 in
theorem spec_l1Most.calls (a0 : Int) (a1 : Int) (r : Int) (w : World) (h : spec_l1Most.f a0 a1 = some r) :
  Calls Tryd.prog 90 #[.int .i64 a0, .int .i64 a1] w fun e w' => e = .returned (.int .i64 r) ∧ Drawn0 w w' := by
 have H := h
 clear h; unfold spec_l1Most.f at H
 refine iI H ?_ ?_ <;> clear H <;> intro c3 H
 ·have c3b0 := gT c3
  clear c3
  obtain rfl := Option.some.inj H
  go_enter Tryd.func90, Tryd.ntmps90
  go_wp2
  go_ret
  exact ⟨rF, d0⟩
 have c3b0 := gF c3
 clear c3
 obtain rfl := Option.some.inj H
 go_enter Tryd.func90, Tryd.ntmps90
 go_wp2
 go_ret
 exact ⟨rF, d0⟩

/-! ### spec_l1Abs: function 92 -/
def spec_l1Abs.f (a0 : Int) : Option (Int) := (spec_l1Most.f a0 (wrap64 (-a0))).bind fun t130 => (some t130)
set_option maxHeartbeats 8000000 in
set_option maxRecDepth 100000 in
theorem spec_l1Abs.calls (a0 : Int) (r : Int) (w : World) (h : spec_l1Abs.f a0 = some r) :
  Calls Tryd.prog 92 #[.int .i64 a0] w fun e w' => e = .returned (.int .i64 r) ∧ Drawn0 w w' := by
 have H := h
 clear h; unfold spec_l1Abs.f at H
 replace H := bC H; obtain ⟨t130, A2, H⟩ := H
 obtain rfl := Option.some.inj H
 go_enter Tryd.func92, Tryd.ntmps92
 go_wp2_with (first | ((with_reducible refine gG 90 (some 6) rfl rfl ?_); refine gL Tryd.func90 #[.int .i64 a0, .int .i64 (wrap64 (-a0))] ?_; (with_reducible refine (spec_l1Most.calls a0 (wrap64 (-a0)) t130 _ A2.out).mono ?_); rintro e w' ⟨rfl, ⟨nd, rfl⟩⟩; refine ⟨_, rfl, ?_⟩))
 go_ret
 exact ⟨rF, d0⟩

/-! ### spec_riNumber: function 98 -/
def spec_riNumber.l0 : Nat → ByteArray → Int → Int → Int → Option (Int)
 | 0, _, _, _, _ => none
 | k + 1, x0, x3, x4, x5 => if x5 ≥ 0 then (if 0 ≤ x5 then (if x5 < (x0.size : Int) then (if (bt x0 x5) = 49 then (spec_riNumber.l0 k x0 (wrap64 ((wrap64 (2 * x3)) + (wrap64 (1 - x4)))) (wrap64 (1 - x4)) (wrap64 (x5 - 1))) else (spec_riNumber.l0 k x0 (wrap64 ((wrap64 (2 * x3)) + x4)) x4 (wrap64 (x5 - 1)))) else (none)) else (none)) else (some x3)
def spec_riNumber.f (k : Nat) (a0 : ByteArray) : Option (Int) := spec_riNumber.l0 k a0 0 0 (wrap64 ((a0.size : Int) - 1))
theorem spec_riNumber.mono_l : ∀ k, Mo (spec_riNumber.l0 k) (spec_riNumber.l0 (k + 1))
 | 0 => m0
 | k + 1 => by
  have ih0 := spec_riNumber.mono_l k
  (repeat refine mE fun _ => ?_) <;> first | (unfold spec_riNumber.l0; exact mG)
instance spec_riNumber.mI (k : Nat) : Mo (spec_riNumber.f k) (spec_riNumber.f (k + 1)) := by
 have ih0 := spec_riNumber.mono_l k
 (repeat refine mE fun _ => ?_); unfold spec_riNumber.f; exact mG
theorem spec_riNumber.mono : ∀ a0 k, LeO (spec_riNumber.f k a0) (spec_riNumber.f (k + 1) a0) := fun a0 k => (spec_riNumber.mI k).out a0
set_option maxHeartbeats 8000000 in
set_option maxRecDepth 100000 in
theorem spec_riNumber.calls (k : Nat) (a0 : ByteArray) (r : Int) (w : World) (h : spec_riNumber.f k a0 = some r) :
  Calls Tryd.prog 98 #[.string a0] w fun e w' => e = .returned (.int .i64 r) ∧ Drawn0 w w' := by
 have H := h
 clear h; unfold spec_riNumber.f at H
 have H' := aM H
 clear H
 go_enter Tryd.func98, Tryd.ntmps98
 go_wp2
 go_loopg [3, 4, 5] k (fun kq v3 v4 v5 w' => ∃ (x3_1 : Int) (x4_1 : Int) (x5_1 : Int), v3 = .int .i64 x3_1 ∧ v4 = .int .i64 x4_1 ∧ v5 = .int .i64 x5_1 ∧ Aside0 (spec_riNumber.l0 kq a0 x3_1 x4_1 x5_1 = some r) ∧ Aside0 (kq ≤ k) ∧ Drawn0 w w')
 case atStart => exact ⟨(0), (0), (wrap64 ((a0.size : Int) - 1)), rF, rF, rF, H', kR, d0⟩
 case round =>
  clear H'
  obtain ⟨x3_1, x4_1, x5_1, rfl, rfl, rfl, HA, HK1, ⟨m1, rfl⟩⟩ := hrel
  obtain rfl | ⟨k1, rfl⟩ := fz gk
  ·exact zA HA
  have H := HA.out
  clear HA
  simp only [spec_riNumber.l0] at H
  refine iI H ?_ ?_ <;> clear H <;> intro c2 H
  ·have c2b0 := hT c2
   clear c2
   refine iY H ?_; clear H; intro c3 H
   have c3b0 := dT c3
   clear c3
   refine iY H ?_; clear H; intro c4 H
   have c4b0 := dT c4
   clear c4
   refine iI H ?_ ?_ <;> clear H <;> intro c6 H
   ·have c6b0 := qT c6
    have c6b1 := nF c6
    clear c6
    have H' := aM H
    clear H
    have p5 : 0 ≤ (x5_1 : Int) := oD
    have q5 : x5_1 < (a0.size : Int) := oD
    have hx5 := bt_at a0 x5_1
    replace p5 := eq_true p5
    replace q5 := eq_true q5
    go_wp2
    go_roundg k1
    case measure => have := HK1.out; omega
    case rel => exact ⟨(wrap64 ((wrap64 (2 * x3_1)) + (wrap64 (1 - x4_1)))), (wrap64 (1 - x4_1)), (wrap64 (x5_1 - 1)), rF, rF, rF, H', ⟨by have := HK1.out; omega⟩, d0⟩
   have c6b0 := qF c6
   have c6b1 := nT c6
   have H' := aM H
   clear H
   have p5 : 0 ≤ (x5_1 : Int) := oD
   have q5 : x5_1 < (a0.size : Int) := oD
   have hx5 := bt_at a0 x5_1
   replace p5 := eq_true p5
   replace q5 := eq_true q5
   go_wp2
   go_roundg k1
   case measure => have := HK1.out; omega
   case rel => exact ⟨(wrap64 ((wrap64 (2 * x3_1)) + x4_1)), (x4_1), (wrap64 (x5_1 - 1)), rF, rF, rF, H', ⟨by have := HK1.out; omega⟩, d0⟩
  have c2b0 := hF c2
  clear c2
  obtain rfl := Option.some.inj H
  go_wp2
  go_ret
  exact ⟨rF, d0⟩

/-! ### spec_l1In: function 115 -/
def spec_l1In.f (a0 : Int) (a1 : Int) (a2 : Int) : Option (Bool) := if a0 ≥ a1 then (some (decide (a0 ≤ a2))) else (some false)
set_option maxHeartbeats 8000000 in
set_option maxRecDepth 100000 in
theorem spec_l1In.calls (a0 : Int) (a1 : Int) (a2 : Int) (r : Bool) (w : World) (h : spec_l1In.f a0 a1 a2 = some r) :
  Calls Tryd.prog 115 #[.int .i64 a0, .int .i64 a1, .int .i64 a2] w fun e w' => e = .returned (.bool r) ∧ Drawn0 w w' := by
 have H := h
 clear h; unfold spec_l1In.f at H
 refine iI H ?_ ?_ <;> clear H <;> intro c4 H
 ·have c4b0 := hT c4
  clear c4
  obtain rfl := Option.some.inj H
  go_enter Tryd.func115, Tryd.ntmps115
  go_wp2
  go_ret
  exact ⟨rF, d0⟩
 have c4b0 := hF c4
 clear c4
 obtain rfl := Option.some.inj H
 go_enter Tryd.func115, Tryd.ntmps115
 go_wp2
 go_ret
 exact ⟨rF, d0⟩

/-! ### spec_riCan: function 157 -/
def spec_riCan.f (k : Nat) (a0 : ByteArray) (a1 : Int) : Option (Bool) := if a1 = 0 then (some true) else ((spec_l1In.f a1 1 (wrap64 ((a0.size : Int) - 1))).bind fun t131 => (if t131 = true then (if 0 ≤ (wrap64 (a1 - 1)) then (if (wrap64 (a1 - 1)) < (a0.size : Int) then (if (bt a0 (wrap64 (a1 - 1))) = 49 then (if (wrap64 (a1 - 1)) ≤ (a0.size : Int) then ((spec_riOn.f k (a0.extract 0 ((wrap64 (a1 - 1)) : Int).toNat)).bind fun t132 => (some (t132 == 0))) else (none)) else (some false)) else (none)) else (none)) else (some false)))
instance spec_riCan.mI (k : Nat) : Mo (spec_riCan.f k) (spec_riCan.f (k + 1)) := by
 (repeat refine mE fun _ => ?_); unfold spec_riCan.f; exact mG
theorem spec_riCan.mono : ∀ a0 a1 k, LeO (spec_riCan.f k a0 a1) (spec_riCan.f (k + 1) a0 a1) := fun a0 a1 k => (spec_riCan.mI k).out a0 a1
set_option maxHeartbeats 8000000 in
set_option maxRecDepth 100000 in
theorem spec_riCan.calls (k : Nat) (a0 : ByteArray) (a1 : Int) (r : Bool) (w : World) (h : spec_riCan.f k a0 a1 = some r) :
  Calls Tryd.prog 157 #[.string a0, .int .i64 a1] w fun e w' => e = .returned (.bool r) ∧ Drawn0 w w' := by
 have H := h
 clear h; unfold spec_riCan.f at H
 refine iI H ?_ ?_ <;> clear H <;> intro c3 H
 ·have c3b0 := qT c3
  have c3b1 := nF c3
  clear c3
  obtain rfl := Option.some.inj H
  go_enter Tryd.func157, Tryd.ntmps157
  go_wp2
  go_ret
  exact ⟨rF, d0⟩
 have c3b0 := qF c3
 have c3b1 := nT c3
 replace H := bC H; obtain ⟨t131, A4, H⟩ := H
 refine iB H ?_ ?_ <;> clear H <;> rintro rfl H
 ·obtain ⟨ji6, hji6⟩ := jN (wrap64 (a1 - 1))
  first | rw [hji6] at H | simp only [hji6] at H
  (try rw [hji6] at A4)
  have hji6w : (IntKind.i64.wrap (a1 - 1)) = ji6 := (i64_w _).trans hji6
  refine iY H ?_; clear H; intro c7 H
  have c7b0 := dT c7
  clear c7
  refine iY H ?_; clear H; intro c8 H
  have c8b0 := dT c8
  clear c8
  refine iI H ?_ ?_ <;> clear H <;> intro c10 H
  ·have c10b0 := qT c10
   have c10b1 := nF c10
   clear c10
   have c11b0 := eq_true (oD : 0 ≤ (ji6))
   refine iY H ?_; clear H; intro c12 H
   have c12b0 := eq_true c12
   have c12b1 := dT c12
   clear c12
   replace H := bC H; obtain ⟨t132, A13, H⟩ := H
   obtain rfl := Option.some.inj H
   go_enter Tryd.func157, Tryd.ntmps157
   go_wp2_with (first | ((with_reducible refine gG 115 (some 11) rfl rfl ?_); refine gL Tryd.func115 #[.int .i64 a1, .int .i64 1, .int .i64 (wrap64 ((a0.size : Int) - 1))] ?_; (with_reducible refine (spec_l1In.calls a1 1 (wrap64 ((a0.size : Int) - 1)) true _ A4.out).mono ?_); rintro e w' ⟨rfl, ⟨nd, rfl⟩⟩; refine ⟨_, rfl, ?_⟩; have p9 : 0 ≤ ((ji6) : Int) := oD; have q9 : (ji6) < (a0.size : Int) := oD; have hx9 := bt_at a0 (ji6); replace p9 := eq_true p9; replace q9 := eq_true q9) | ((with_reducible refine gG 91 (some 24) rfl rfl ?_); refine gL Tryd.func91 #[.string (a0.extract 0 ((ji6) : Int).toNat)] ?_ (hargs := by (try simp only [List.map_toArray, List.map_cons, List.map_nil]); first | done | (simp only [hji6]; rfl) | rfl | (simp only [List.length_drop, List.length_take]; rfl)); (with_reducible refine (spec_riOn.calls k (a0.extract 0 ((ji6) : Int).toNat) t132 _ A13.out).mono ?_); rintro e w' ⟨rfl, ⟨nd, rfl⟩⟩; refine ⟨_, rfl, ?_⟩))
   go_ret
   exact ⟨by first | rfl | (simp; done) | (simp only [← hji6] <;> (first | rfl | simp)) | (simp [*]; done), d0⟩
  have c10b0 := qF c10
  have c10b1 := nT c10
  obtain rfl := Option.some.inj H
  go_enter Tryd.func157, Tryd.ntmps157
  go_wp2_with (first | ((with_reducible refine gG 115 (some 11) rfl rfl ?_); refine gL Tryd.func115 #[.int .i64 a1, .int .i64 1, .int .i64 (wrap64 ((a0.size : Int) - 1))] ?_; (with_reducible refine (spec_l1In.calls a1 1 (wrap64 ((a0.size : Int) - 1)) true _ A4.out).mono ?_); rintro e w' ⟨rfl, ⟨nd, rfl⟩⟩; refine ⟨_, rfl, ?_⟩; have p9 : 0 ≤ ((ji6) : Int) := oD; have q9 : (ji6) < (a0.size : Int) := oD; have hx9 := bt_at a0 (ji6); replace p9 := eq_true p9; replace q9 := eq_true q9))
  go_ret
  exact ⟨by first | rfl | (simp; done) | (simp only [← hji6] <;> (first | rfl | simp)) | (simp [*]; done), d0⟩
 obtain rfl := Option.some.inj H
 go_enter Tryd.func157, Tryd.ntmps157
 go_wp2_with (first | ((with_reducible refine gG 115 (some 11) rfl rfl ?_); refine gL Tryd.func115 #[.int .i64 a1, .int .i64 1, .int .i64 (wrap64 ((a0.size : Int) - 1))] ?_; (with_reducible refine (spec_l1In.calls a1 1 (wrap64 ((a0.size : Int) - 1)) false _ A4.out).mono ?_); rintro e w' ⟨rfl, ⟨nd, rfl⟩⟩; refine ⟨_, rfl, ?_⟩))
 go_ret
 exact ⟨rF, d0⟩

/-! ### spec_pzValue: function 142 -/
def spec_pzValue.f (k : Nat) (a0 : Int) (a1 : Int) (a2 : ByteArray) : Option (Int) := if a0 = 0 then (if 0 ≤ a1 then (if a1 < (a2.size : Int) then (some (((bt a2 a1) - 48) % 256)) else (none)) else (none)) else (if a0 = 1 then ((spec_riOn.f k a2).bind fun t133 => (some t133)) else (if a0 = 2 then ((spec_riNumber.f k a2).bind fun t134 => (if a1 = 0 then (none) else (some (Int.tmod t134 a1)))) else (if a0 = 3 then ((spec_riNumber.f k a2).bind fun t135 => ((spec_l1Abs.f (wrap64 (t135 - a1))).bind fun t136 => (some t136))) else ((spec_riCan.f k a2 a1).bind fun t137 => (if t137 = true then (some 1) else (some 0))))))
instance spec_pzValue.mI (k : Nat) : Mo (spec_pzValue.f k) (spec_pzValue.f (k + 1)) := by
 (repeat refine mE fun _ => ?_); unfold spec_pzValue.f; exact mG
theorem spec_pzValue.mono : ∀ a0 a1 a2 k, LeO (spec_pzValue.f k a0 a1 a2) (spec_pzValue.f (k + 1) a0 a1 a2) := fun a0 a1 a2 k => (spec_pzValue.mI k).out a0 a1 a2
set_option maxHeartbeats 8000000 in
set_option maxRecDepth 100000 in
theorem spec_pzValue.calls (k : Nat) (a0 : Int) (a1 : Int) (a2 : ByteArray) (r : Int) (w : World) (h : spec_pzValue.f k a0 a1 a2 = some r) :
  Calls Tryd.prog 142 #[.int .i64 a0, .int .i64 a1, .string a2] w fun e w' => e = .returned (.int .i64 r) ∧ Drawn0 w w' := by
 have H := h
 clear h; unfold spec_pzValue.f at H
 refine iI H ?_ ?_ <;> clear H <;> intro c4 H
 ·have c4b0 := qT c4
  have c4b1 := nF c4
  clear c4
  refine iY H ?_; clear H; intro c5 H
  have c5b0 := dT c5
  clear c5
  refine iY H ?_; clear H; intro c6 H
  have c6b0 := dT c6
  clear c6
  obtain rfl := Option.some.inj H
  have p7 : 0 ≤ (a1 : Int) := oD
  have q7 : a1 < (a2.size : Int) := oD
  have hx7 := bt_at a2 a1
  replace p7 := eq_true p7
  replace q7 := eq_true q7
  go_enter Tryd.func142, Tryd.ntmps142
  go_wp2
  go_ret
  exact ⟨rF, d0⟩
 have c4b0 := qF c4
 have c4b1 := nT c4
 refine iI H ?_ ?_ <;> clear H <;> intro c8 H
 ·have c8b0 := qT c8
  have c8b1 := nF c8
  clear c8
  replace H := bC H; obtain ⟨t133, A9, H⟩ := H
  obtain rfl := Option.some.inj H
  go_enter Tryd.func142, Tryd.ntmps142
  go_wp2_with (first | ((with_reducible refine gG 91 (some 18) rfl rfl ?_); refine gL Tryd.func91 #[.string a2] ?_; (with_reducible refine (spec_riOn.calls k a2 t133 _ A9.out).mono ?_); rintro e w' ⟨rfl, ⟨nd, rfl⟩⟩; refine ⟨_, rfl, ?_⟩))
  go_ret
  exact ⟨rF, d0⟩
 have c8b0 := qF c8
 have c8b1 := nT c8
 refine iI H ?_ ?_ <;> clear H <;> intro c10 H
 ·have c10b0 := qT c10
  have c10b1 := nF c10
  clear c10
  replace H := bC H; obtain ⟨t134, A11, H⟩ := H
  refine iN H ?_; clear H; intro c12 H
  have c12b0 := qF c12
  have c12b1 := nT c12
  obtain rfl := Option.some.inj H
  go_enter Tryd.func142, Tryd.ntmps142
  go_wp2_with (first | ((with_reducible refine gG 98 (some 22) rfl rfl ?_); refine gL Tryd.func98 #[.string a2] ?_; (with_reducible refine (spec_riNumber.calls k a2 t134 _ A11.out).mono ?_); rintro e w' ⟨rfl, ⟨nd, rfl⟩⟩; refine ⟨_, rfl, ?_⟩))
  go_ret
  exact ⟨rF, d0⟩
 have c10b0 := qF c10
 have c10b1 := nT c10
 refine iI H ?_ ?_ <;> clear H <;> intro c13 H
 ·have c13b0 := qT c13
  have c13b1 := nF c13
  clear c13
  replace H := bC H; obtain ⟨t135, A14, H⟩ := H
  replace H := bC H; obtain ⟨t136, A15, H⟩ := H
  obtain rfl := Option.some.inj H
  go_enter Tryd.func142, Tryd.ntmps142
  go_wp2_with (first | ((with_reducible refine gG 98 (some 28) rfl rfl ?_); refine gL Tryd.func98 #[.string a2] ?_; (with_reducible refine (spec_riNumber.calls k a2 t135 _ A14.out).mono ?_); rintro e w' ⟨rfl, ⟨nd, rfl⟩⟩; refine ⟨_, rfl, ?_⟩) | ((with_reducible refine gG 92 (some 31) rfl rfl ?_); refine gL Tryd.func92 #[.int .i64 (wrap64 (t135 - a1))] ?_; (with_reducible refine (spec_l1Abs.calls (wrap64 (t135 - a1)) t136 _ A15.out).mono ?_); rintro e w' ⟨rfl, ⟨nd, rfl⟩⟩; refine ⟨_, rfl, ?_⟩))
  go_ret
  exact ⟨rF, d0⟩
 have c13b0 := qF c13
 have c13b1 := nT c13
 replace H := bC H; obtain ⟨t137, A16, H⟩ := H
 refine iB H ?_ ?_ <;> clear H <;> rintro rfl H
 ·obtain rfl := Option.some.inj H
  go_enter Tryd.func142, Tryd.ntmps142
  go_wp2_with (first | ((with_reducible refine gG 157 (some 34) rfl rfl ?_); refine gL Tryd.func157 #[.string a2, .int .i64 a1] ?_; (with_reducible refine (spec_riCan.calls k a2 a1 true _ A16.out).mono ?_); rintro e w' ⟨rfl, ⟨nd, rfl⟩⟩; refine ⟨_, rfl, ?_⟩))
  go_ret
  exact ⟨rF, d0⟩
 obtain rfl := Option.some.inj H
 go_enter Tryd.func142, Tryd.ntmps142
 go_wp2_with (first | ((with_reducible refine gG 157 (some 34) rfl rfl ?_); refine gL Tryd.func157 #[.string a2, .int .i64 a1] ?_; (with_reducible refine (spec_riCan.calls k a2 a1 false _ A16.out).mono ?_); rintro e w' ⟨rfl, ⟨nd, rfl⟩⟩; refine ⟨_, rfl, ?_⟩))
 go_ret
 exact ⟨rF, d0⟩

end Go.Proofs.YtcogjabdddikjaaDoor.PHidAll
