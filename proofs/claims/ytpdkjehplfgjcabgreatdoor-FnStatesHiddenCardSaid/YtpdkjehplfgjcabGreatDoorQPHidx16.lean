-- squeezed (sq3.py); PRINTED by drive.py (a program of this session's, over the kit's print.py; wip/tools/drive.py). Lean checks it.
import Derived.Test.YtpdkjehplfgjcabGreatDoorQPHidx0
import Derived.Test.YtpdkjehplfgjcabGreatDoorQPHidx2
import Derived.Test.YtpdkjehplfgjcabGreatDoorQPHidx8
import Derived.Test.YtpdkjehplfgjcabGreatDoorQPHidx9
import Derived.Test.YtpdkjehplfgjcabGreatDoorQPHidx11
import Derived.Test.YtpdkjehplfgjcabGreatDoorQPHidx12
import Derived.Test.YtpdkjehplfgjcabGreatDoorQPHidx13
import Derived.Test.YtpdkjehplfgjcabGreatDoorQSq
namespace Go.Proofs.YtpdkjehplfgjcabGreatDoor.PHid
open Go.RowKit Go.Proofs.YtpdkjehplfgjcabGreatDoorW.PrintWords Go.Proofs.YtpdkjehplfgjcabGreatDoorW.PrintLast Go.Proofs.YtpdkjehplfgjcabGreatDoorW.PrintMore
attribute [local go_sem] max2_int min2_int max_two min_two max_three min_three max_four min_four   -- for this text's walks alone
set_option linter.unusedVariables false
set_option linter.unusedSimpArgs false

/-! ### spec_DrawAddClue: function 23 -/
def spec_DrawAddClue.f (k : Nat) (l0 : List Int) : Option (Int × (List (S40)) × Int × Int × Int) := (spec_l1Cur_puzzle.f k l0 0 0).bind fun bt469 => ((spec_l1Cur_clue.f k l0 bt469.2.2.1 bt469.2.2.2).bind fun bt475 => (some (bt469.1, bt469.2.1, bt475.1, bt475.2.1, bt475.2.2.1)))
instance spec_DrawAddClue.mI (k : Nat) : Mo (spec_DrawAddClue.f k) (spec_DrawAddClue.f (k + 1)) := by
 (repeat refine mE fun _ => ?_); unfold spec_DrawAddClue.f; exact mG
theorem spec_DrawAddClue.mono : ∀ a0 k, LeO (spec_DrawAddClue.f k a0) (spec_DrawAddClue.f (k + 1) a0) := fun a0 k => (spec_DrawAddClue.mI k).out a0
set_option maxHeartbeats 8000000 in
set_option maxRecDepth 100000 in
theorem spec_DrawAddClue.calls (k : Nat) (A0 : Option Addr) (c0 : Nat) (l0 : List Int) (r1 : Int) (r2 : List (S40)) (r3 : Int) (r4 : Int) (r5 : Int) (w : World) (hr0 : Kd.C (Kd.int .u8) w A0 l0.length l0) (hc0 : l0.length ≤ c0) (h : spec_DrawAddClue.f k l0 = some (r1, r2, r3, r4, r5)) :
  Calls Tryz.prog 23 #[.slice A0 l0.length c0] w fun e w' => ∃ v1_ : Value, e = .returned (.tuple #[.agg #[.int .i64 r1, v1_], .agg #[.int .i64 r3, .int .i64 r4, .int .i64 r5]]) ∧ Kd.R k40 40 w' w.heap.size (fun _ => True) v1_ r2 ∧ Below w.heap.size w w' := by
 have hu28 := Tryz.underlying28
 have hu40 := Tryz.underlying40
 have hu66 := Tryz.underlying66
 have HR0 := aM hr0
 have HC0 := aM hc0
 clear hr0 hc0
 have HB := aM (Below.refl w.heap.size w)
 have H := h
 clear h; unfold spec_DrawAddClue.f at H
 replace H := bC H; obtain ⟨⟨t469, t470, t473, t474⟩, A2, H⟩ := H; try dsimp only at H
 replace H := bC H; obtain ⟨⟨t475, t476, t477, t478, t479⟩, A3, H⟩ := H; try dsimp only at H
 simp only [Option.some.injEq, Prod.mk.injEq] at H
 obtain ⟨rfl, rfl, rfl, rfl, rfl⟩ := H
 go_enter Tryz.func23, Tryz.ntmps23
 go_wp2_with (first | (refine bX (N := 2) rfl (cs := #[.int .i64 0, .slice none 0 0]) (t := 28) ?_; intro gb466 hg w4 BK466 hb; have GW466 := gE hg HB; have GE466 := gE hg HB; replace HB := hS HB hb; clear hb hg) | (refine bX (N := 3) rfl (cs := #[.int .i64 0, .int .i64 0, .int .i64 0]) (t := 40) ?_; intro gb467 hg w5 BK467 hb; have GW467 := gE hg HB; have GE467 := gE hg HB; have NB466_467 := nbL hg BK466; have NB467_466 := nbR hg BK466; replace BK466 := bB BK466 hb; replace HB := hS HB hb; clear hb hg) | ((with_reducible refine gate_dst (N := 7) rfl ?_); refine box_event ?hg (N := 7) ?hd (cs := #[.slice A0 l0.length c0, .int .i64 0, .int .u64 0]) (t := 66) ?hr ?_; (case hd => rfl); (case hg => rfl); (case hr => first | (go_simp; done) | (go_simp; rfl)); intro gb468 hg w6 hbox hb; have HI468 := sS66 ((show IsS66 w w6 gb468 l0 0 0 from ⟨_, _, hbox, (by rw [hg]; exact (below_size (bel HB)) : w.heap.size ≤ gb468), HR0.out⟩)); have GI_HI468 := IsS66.geI HI468; have NB468_466 := nbR hg BK466; have NB466_468 := nbL hg BK466; have NB468_467 := nbR hg BK467; have NB467_468 := nbL hg BK467; replace BK466 := bB BK466 hb; replace BK467 := bB BK467 hb; replace HB := hS HB hb; clear hb hbox hg) | ((with_reducible refine gG 55 (some 9) rfl rfl ?_); refine gD Tryz.func55 (spec_l1Cur_puzzle.calls k gb468 l0 0 0 t469 t470 t473 t474 w _ tS66 (bel HB) A2.out) ?_; rintro w7 v471 ⟨ho0, hi, hb, hk⟩; have HO472 := aM (Kd.R_lower (Kd.R_newB ho0 (g := gb467) (o := .cells #[.int .i64 0, .int .i64 0, .int .i64 0] 40 (0, 0)) (bU BK467.out)) (below_size (bel HB))); replace BK466 := aM (KeepBut.blk hk (g' := gb466) (o := .cells #[.int .i64 0, .slice none 0 0] 28 (0, 0)) (bU BK466.out) NB466_468.out (by simp)); replace BK467 := aM (KeepBut.blk hk (g' := gb467) (o := .cells #[.int .i64 0, .int .i64 0, .int .i64 0] 40 (0, 0)) (bU BK467.out) NB467_468.out (by simp)); replace HB := aM (hb); replace HI468 := sS66 (hi); clear hb hk hi ho0) | ((with_reducible refine gG 61 (some 11) rfl rfl ?_); refine gC Tryz.func61 (spec_l1Cur_clue.calls k gb468 l0 t473 t474 t475 t476 t477 t478 t479 w _ tS66 (bel HB) A3.out) ?_; rintro w8 ⟨hi, hb, hk⟩; replace BK466 := aM (KeepBut.blk hk (g' := gb466) (o := .cells #[.int .i64 0, .slice none 0 0] 28 (0, 0)) (bU BK466.out) NB466_468.out (by simp)); replace BK467 := aM (KeepBut.blk hk (g' := gb467) (o := .cells #[.int .i64 0, .int .i64 0, .int .i64 0] 40 (0, 0)) (bU BK467.out) NB467_468.out (by simp)); replace HO472 := aM (Kd.R_mono (Kd.R_keep (IsS66.apart (show IsS66 w _ gb468 l0 t473 t474 from tS66) (rU HO472.out) (by decide)) hk (fun _ h => h.2)) (fun _ h => h.1)); replace HB := aM (hb); replace HI468 := sS66 (hi); clear hb hk hi; have hnb9 := NB466_467.out; have hnc9 := NB467_466.out; have hnb10 := NB466_468.out; have hnc10 := NB468_466.out; obtain ⟨hcz11_0, hcz11_1, hfz11_0, hfz11_1⟩ := hC2 BK466; obtain ⟨Ao12, co12, eo12⟩ := Kd.R_slice HO472.out; subst eo12; have hnb13 := NB467_468.out; have hnc13 := NB468_467.out; obtain ⟨hcz14_0, hcz14_1, hcz14_2, hfz14_0, hfz14_1, hfz14_2⟩ := hC3 BK467))
 refine bodyPost_ret (results_cc rfl _ _ gb466 gb467 28 40 #[.int .i64 t469, .slice Ao12 t470.length co12] #[.int .i64 t475, .int .i64 t476, .int .i64 t477] (0, 0) (0, 0) _ _ rfl (by (with_reducible repeat (first | refine blk_drewN ?_ _ | refine blk_drew ?_ | refine blk_alloc ?_ _)); refine blk_far ?_ NB466_467.out _; (with_reducible repeat (first | refine blk_drewN ?_ _ | refine blk_drew ?_ | refine blk_alloc ?_ _)); refine blk_far ?_ NB466_467.out _; (with_reducible repeat (first | refine blk_drewN ?_ _ | refine blk_drew ?_ | refine blk_alloc ?_ _)); refine blk_far ?_ NB466_467.out _; (with_reducible repeat (first | refine blk_drewN ?_ _ | refine blk_drew ?_ | refine blk_alloc ?_ _)); refine blk_put (cs := #[.int .i64 t469, .slice none 0 0]) ?_ 1 _ rfl; (with_reducible repeat (first | refine blk_drewN ?_ _ | refine blk_drew ?_ | refine blk_alloc ?_ _)); refine blk_put (cs := #[.int .i64 0, .slice none 0 0]) ?_ 0 _ rfl; (with_reducible repeat (first | refine blk_drewN ?_ _ | refine blk_drew ?_ | refine blk_alloc ?_ _)); exact BK466.out) Tryz.underlying28 rfl (by kernel_rfl) rfl (by (with_reducible repeat (first | refine blk_drewN ?_ _ | refine blk_drew ?_ | refine blk_alloc ?_ _)); refine blk_put (cs := #[.int .i64 t475, .int .i64 t476, .int .i64 0]) ?_ 2 _ rfl; (with_reducible repeat (first | refine blk_drewN ?_ _ | refine blk_drew ?_ | refine blk_alloc ?_ _)); refine blk_put (cs := #[.int .i64 t475, .int .i64 0, .int .i64 0]) ?_ 1 _ rfl; (with_reducible repeat (first | refine blk_drewN ?_ _ | refine blk_drew ?_ | refine blk_alloc ?_ _)); refine blk_put (cs := #[.int .i64 0, .int .i64 0, .int .i64 0]) ?_ 0 _ rfl; (with_reducible repeat (first | refine blk_drewN ?_ _ | refine blk_drew ?_ | refine blk_alloc ?_ _)); refine blk_far ?_ NB467_466.out _; (with_reducible repeat (first | refine blk_drewN ?_ _ | refine blk_drew ?_ | refine blk_alloc ?_ _)); refine blk_far ?_ NB467_466.out _; (with_reducible repeat (first | refine blk_drewN ?_ _ | refine blk_drew ?_ | refine blk_alloc ?_ _)); exact BK467.out) Tryz.underlying40 rfl (by kernel_rfl)) rfl ?_
 exact ⟨_, eW, rU (Kd.R_mono (Kd.R_far (p := ⟨gb467, 2, none⟩) (Kd.R_far (p := ⟨gb467, 1, none⟩) (Kd.R_far (p := ⟨gb467, 0, none⟩) (Kd.R_far (p := ⟨gb466, 1, none⟩) (Kd.R_far (p := ⟨gb466, 0, none⟩) (Kd.R_mono (Kd.R_types HO472.out BK466.out (by decide)) (fun k_ hk => (⟨hk, hk.1.2⟩ : _ ∧ k_ ≠ gb467))) (fun _ hk => hk.1.2) (.int .i64 t469)) (fun _ hk => hk.1.2) (.slice Ao12 t470.length co12)) (fun _ hk => hk.2) (.int .i64 t475)) (fun _ hk => hk.2) (.int .i64 t476)) (fun _ hk => hk.2) (.int .i64 t477)) (fun _ hk => trivial)), bel HB⟩

/-! ### impl_AddClue: function 24 -/
def impl_AddClue.f (k : Nat) (a0_0 : Int) (l0_1 : List (S40)) (a1_0 : Int) (a1_1 : Int) (a1_2 : Int) : Option (Int × (List (S40)) × Bool) := (impl_IsPuzzle.f a0_0 l0_1).bind fun t483 => (if t483 = true then ((impl_IsClue.f k a0_0 a1_0 a1_1 a1_2).bind fun t484 => (if t484 = true then (if (l0_1.length : Int) ≥ 6 then (some (0, ([] : List (S40)), false)) else ((impl_Clue_56.f l0_1).bind fun t485 => ((some (([(⟨a1_0, a1_1, a1_2⟩ : S40)] : List (S40)) : List (S40))).bind fun y488 => (if t485.length + y488.length < 5864062014805 then (some (a0_0, (t485 ++ y488), true)) else (none))))) else (some (0, ([] : List (S40)), false)))) else (some (0, ([] : List (S40)), false)))
instance impl_AddClue.mI (k : Nat) : Mo (impl_AddClue.f k) (impl_AddClue.f (k + 1)) := by
 (repeat refine mE fun _ => ?_); unfold impl_AddClue.f; exact mG
theorem impl_AddClue.mono : ∀ a0 a1 a2 a3 a4 k, LeO (impl_AddClue.f k a0 a1 a2 a3 a4) (impl_AddClue.f (k + 1) a0 a1 a2 a3 a4) := fun a0 a1 a2 a3 a4 k => (impl_AddClue.mI k).out a0 a1 a2 a3 a4
def impl_AddClue.T3 : Bool × List (List Nat × List Nat) := (true, [([], []), ([0], [0]), ([], []), ([2], [2]), ([3], [3]), ([], []), ([5], [5]), ([4, 6, 4], [4, 6]), ([1, 7], [1, 7]), ([8, 7, 0, 1, 2, 3, 4, 5, 6, 7, 8], [8]), ([9, 0, 1, 2, 3, 4, 5, 6, 7, 8, 9], [])])
def impl_AddClue.B3 : List Nat := [0, 1, 0, 4, 12, 0, 32, 124, 255, 511, 1023]
theorem impl_AddClue.tab3 : rtab .any (opsOf Tryz.f24 3) = impl_AddClue.T3 := by kernel_rfl
theorem impl_AddClue.bits3 : waitsOk impl_AddClue.T3.2 impl_AddClue.B3 = true := by kernel_rfl
set_option maxHeartbeats 8000000 in
set_option maxRecDepth 100000 in
theorem impl_AddClue.calls (k : Nat) (a0_0 : Int) (A0_1 : Option Addr) (c0_1 : Nat) (l0_1 : List (S40)) (a1_0 : Int) (a1_1 : Int) (a1_2 : Int) (r1 : Int) (r2 : List (S40)) (r3 : Bool) (w : World) (hr0_1 : Kd.C k40 w A0_1 l0_1.length l0_1) (hc0_1 : l0_1.length ≤ c0_1) (h : impl_AddClue.f k a0_0 l0_1 a1_0 a1_1 a1_2 = some (r1, r2, r3)) :
  Calls Tryz.prog 24 #[.agg #[.int .i64 a0_0, .slice A0_1 l0_1.length c0_1], .agg #[.int .i64 a1_0, .int .i64 a1_1, .int .i64 a1_2]] w fun e w' => ∃ v1_ : Value, e = .returned (.tuple #[.agg #[.int .i64 r1, v1_], .bool r3]) ∧ Kd.R k40 40 w' w.heap.size (fun _ => True) v1_ r2 ∧ Below w.heap.size w w' := by
 have hu28 := Tryz.underlying28
 have hu40 := Tryz.underlying40
 have HR0_1 := aM hr0_1
 have HC0_1 := aM hc0_1
 clear hr0_1 hc0_1
 have HB := aM (Below.refl w.heap.size w)
 have H := h
 clear h; unfold impl_AddClue.f at H
 replace H := bC H; obtain ⟨t483, A3, H⟩ := H
 refine iB H ?_ ?_ <;> clear H <;> rintro rfl H
 ·replace H := bC H; obtain ⟨t484, A5, H⟩ := H
  refine iB H ?_ ?_ <;> clear H <;> rintro rfl H
  ·refine iI H ?_ ?_ <;> clear H <;> intro c7 H
   ·have c7b0 := hT c7
    have c7b1 : decide (6 ≤ l0_1.length) = true := decide_eq_true (by omega)
    clear c7
    simp only [Option.some.injEq, Prod.mk.injEq] at H
    obtain ⟨rfl, rfl, rfl⟩ := H
    go_enter Tryz.func24, Tryz.ntmps24
    go_wp2_with (first | ((with_reducible refine gate_dst (N := 2) rfl ?_); (try (refine gate_guard (by rfl) ?_; dsimp only)); refine bX (N := 2) rfl (cs := #[.int .i64 a0_0, .slice A0_1 l0_1.length c0_1]) (t := 28) ?_; intro gb480 hg w8 BK480 hb; have GW480 := gE hg HB; have GE480 := gE hg HB; replace HB := hS HB hb; clear hb hg) | ((with_reducible refine gate_dst (N := 3) rfl ?_); (try (refine gate_guard (by rfl) ?_; dsimp only)); refine bX (N := 3) rfl (cs := #[.int .i64 a1_0, .int .i64 a1_1, .int .i64 a1_2]) (t := 40) ?_; intro gb481 hg w9 BK481 hb; have GW481 := gE hg HB; have GE481 := gE hg HB; have NB480_481 := nbL hg BK480; have NB481_480 := nbR hg BK480; replace BK480 := bB BK480 hb; replace HB := hS HB hb; clear hb hg) | ((with_reducible refine gate_dst (N := 4) rfl ?_); (try (refine gate_guard (by rfl) ?_; dsimp only)); refine bX (N := 4) rfl (cs := #[.int .i64 0, .slice none 0 0]) (t := 28) ?_; intro gb482 hg w10 BK482 hb; have GW482 := gE hg HB; have GE482 := gE hg HB; have NB480_482 := nbL hg BK480; have NB482_480 := nbR hg BK480; have NB481_482 := nbL hg BK481; have NB482_481 := nbR hg BK481; replace BK480 := bB BK480 hb; replace BK481 := bB BK481 hb; replace HB := hS HB hb; clear hb hg; have hnb11 := NB480_481.out; have hnc11 := NB481_480.out; have hnb12 := NB480_482.out; have hnc12 := NB482_480.out; obtain ⟨hcz13_0, hcz13_1, hfz13_0, hfz13_1⟩ := hC2 BK480) | ((with_reducible refine gG 14 (some 7) rfl rfl ?_); refine gC Tryz.func14 (impl_IsPuzzle.calls a0_0 _ _ l0_1 true _ (cU (Kd.C_below HR0_1.out HB.out)) HC0_1.out A3.out) ?_; rintro w14 hb; replace BK480 := bB BK480 hb; replace BK481 := bB BK481 hb; replace BK482 := bB BK482 hb; replace HB := hS HB hb; clear hb; obtain ⟨hcz15_0, hcz15_1, hfz15_0, hfz15_1⟩ := hC2 BK480; have hnb16 := NB481_482.out; have hnc16 := NB482_481.out; obtain ⟨hcz17_0, hcz17_1, hcz17_2, hfz17_0, hfz17_1, hfz17_2⟩ := hC3 BK481) | (go_at_call 32; (with_reducible refine (impl_IsClue.calls k a0_0 a1_0 a1_1 a1_2 true _ A5.out).mono ?_); rintro e w18 ⟨rfl, hb⟩; replace BK480 := bB BK480 hb; replace BK481 := bB BK481 hb; replace BK482 := bB BK482 hb; replace HB := hS HB hb; clear hb; obtain ⟨hcz19_0, hcz19_1, hfz19_0, hfz19_1⟩ := hC2 BK480; obtain ⟨hcz20_0, hcz20_1, hfz20_0, hfz20_1⟩ := hC2 BK482))
    refine bodyPost_ret (results_ct rfl _ _ gb482 28 #[.int .i64 0, .slice none 0 0] (0, 0) _ rfl (bP2 BK482) Tryz.underlying28 rfl (by kernel_rfl)) rfl ?_
    exact ⟨_, eW, by first | exact Kd.R_nil _ _ _ _ _ | exact Kd.N_nil _ _ _ _ _ | exact Kd.V_nil _ _ _ _ _ | exact Kd.Q_nil _ _ _ _ _ | exact Kd.S_nil _ _ _ _ _, bel HB⟩
   have c7b0 := hF c7
   have c7b1 : decide (6 ≤ l0_1.length) = false := decide_eq_false (by omega)
   clear c7
   replace H := bC H; obtain ⟨t485, A21, H⟩ := H
   replace H := yB H; obtain ⟨y488, Ny488, H⟩ := H
   refine iY H ?_; clear H; intro c22 H
   have LMc22 := aM c22
   clear c22
   obtain ⟨y491, Ny491⟩ := yN (t485 ++ y488 : List (S40)); rw [← Ny491.out] at H
   simp only [Option.some.injEq, Prod.mk.injEq] at H
   obtain ⟨rfl, rfl, rfl⟩ := H
   go_enter Tryz.func24, Tryz.ntmps24
   try go_wp2_with (first | ((with_reducible refine gate_dst (N := 2) rfl ?_); (try (refine gate_guard (by rfl) ?_; dsimp only)); refine bX (N := 2) rfl (cs := #[.int .i64 a0_0, .slice A0_1 l0_1.length c0_1]) (t := 28) ?_; intro gb480 hg w23 BK480 hb; have GW480 := gE hg HB; have GE480 := gE hg HB; replace HB := hS HB hb; clear hb hg) | ((with_reducible refine gate_dst (N := 3) rfl ?_); (try (refine gate_guard (by rfl) ?_; dsimp only)); refine bX (N := 3) rfl (cs := #[.int .i64 a1_0, .int .i64 a1_1, .int .i64 a1_2]) (t := 40) ?_; intro gb481 hg w24 BK481 hb; have GW481 := gE hg HB; have GE481 := gE hg HB; have NB480_481 := nbL hg BK480; have NB481_480 := nbR hg BK480; replace BK480 := bB BK480 hb; replace HB := hS HB hb; clear hb hg) | ((with_reducible refine gate_dst (N := 4) rfl ?_); (try (refine gate_guard (by rfl) ?_; dsimp only)); refine bX (N := 4) rfl (cs := #[.int .i64 0, .slice none 0 0]) (t := 28) ?_; intro gb482 hg w25 BK482 hb; have GW482 := gE hg HB; have GE482 := gE hg HB; have NB480_482 := nbL hg BK480; have NB482_480 := nbR hg BK480; have NB481_482 := nbL hg BK481; have NB482_481 := nbR hg BK481; replace BK480 := bB BK480 hb; replace BK481 := bB BK481 hb; replace HB := hS HB hb; clear hb hg; have hnb26 := NB480_481.out; have hnc26 := NB481_480.out; have hnb27 := NB480_482.out; have hnc27 := NB482_480.out; obtain ⟨hcz28_0, hcz28_1, hfz28_0, hfz28_1⟩ := hC2 BK480) | ((with_reducible refine gG 14 (some 7) rfl rfl ?_); refine gC Tryz.func14 (impl_IsPuzzle.calls a0_0 _ _ l0_1 true _ (cU (Kd.C_below HR0_1.out HB.out)) HC0_1.out A3.out) ?_; rintro w29 hb; replace BK480 := bB BK480 hb; replace BK481 := bB BK481 hb; replace BK482 := bB BK482 hb; replace HB := hS HB hb; clear hb; obtain ⟨hcz30_0, hcz30_1, hfz30_0, hfz30_1⟩ := hC2 BK480; have hnb31 := NB481_482.out; have hnc31 := NB482_481.out; obtain ⟨hcz32_0, hcz32_1, hcz32_2, hfz32_0, hfz32_1, hfz32_2⟩ := hC3 BK481) | (go_at_call 32; (with_reducible refine (impl_IsClue.calls k a0_0 a1_0 a1_1 a1_2 true _ A5.out).mono ?_); rintro e w33 ⟨rfl, hb⟩; replace BK480 := bB BK480 hb; replace BK481 := bB BK481 hb; replace BK482 := bB BK482 hb; replace HB := hS HB hb; clear hb; obtain ⟨hcz34_0, hcz34_1, hfz34_0, hfz34_1⟩ := hC2 BK480))
   have n0_ := aM (blk_drew BK480.out)
   have n1_ := aM (blk_drew BK481.out)
   have n2_ := aM (blk_drew BK482.out)
   have n3_ := aM (below_drew1 HB.out)
   clear BK480
   clear BK481
   clear BK482
   clear HB
   have BK480 := n0_
   have BK481 := n1_
   have BK482 := n2_
   have HB := n3_
   clear n0_ n1_ n2_ n3_
   refine start_ (n := 11) (S := fun w' => w'.cell? ⟨gb480, 0, none⟩ = some (.int .i64 a0_0) ∧ w'.cell? ⟨gb480, 1, none⟩ = some (.slice A0_1 l0_1.length c0_1) ∧ w'.cell? ⟨gb481, 0, none⟩ = some (.int .i64 a1_0) ∧ w'.cell? ⟨gb481, 1, none⟩ = some (.int .i64 a1_1) ∧ w'.cell? ⟨gb481, 2, none⟩ = some (.int .i64 a1_2)) (ds := []) (bn 11 0) (by kernel_rfl) rfl rfl ⟨(blk_cell BK480.out 0).trans rfl, (blk_cell BK480.out 1).trans rfl, (blk_cell BK481.out 0).trans rfl, (blk_cell BK481.out 1).trans rfl, (blk_cell BK481.out 2).trans rfl⟩ (fun hHeld => ?_); refine with_tabW impl_AddClue.tab3 impl_AddClue.bits3 (fun HT_ HW_ => ?_)
   generalize w33.drew = w35 at BK480 BK481 BK482 HB hHeld ⊢
   refine pU 0 (some 23) (bn 11 1) ?_
   refine pU 2 (some 25) (bn 11 5) ?_
   refine take_ (i := 1) (N := some 24) (v := ?_) (a' := ?_) (bn 11 7) rfl rfl (take_ofW HT_.out HW_.out (by kernel_rfl)) (fun _ _ _ h => h) (Or.inl ⟨by rfl, ?_⟩) hHeld ?_ ?_
   rotate_left
   ·rintro w' ⟨s0, s1, s2, s3, s4⟩
    go_simp
    with_reducible rfl
   rotate_left
   ·simp only [Act.put, List.setIfInBounds_toArray, List.set_cons_zero, List.set_cons_succ, i64_w, i32_w]
    rfl
   refine take_ (i := 3) (N := some 26) (v := ?_) (a' := ?_) (bn 11 15) rfl rfl (take_ofW HT_.out HW_.out (by kernel_rfl)) (fun _ _ _ h => h) (Or.inl ⟨by rfl, ?_⟩) hHeld ?_ ?_
   rotate_left
   ·rintro w' ⟨s0, s1, s2, s3, s4⟩
    go_simp
    with_reducible rfl
   rotate_left
   ·simp only [Act.put, List.setIfInBounds_toArray, List.set_cons_zero, List.set_cons_succ, i64_w, i32_w]
    rfl
   refine take_ (i := 5) (N := some 28) (v := ?_) (a' := ?_) (bn 11 47) rfl rfl (take_ofW HT_.out HW_.out (by kernel_rfl)) (fun _ _ _ h => h) (Or.inl ⟨by rfl, ?_⟩) hHeld ?_ ?_
   rotate_left
   ·rintro w' ⟨s0, s1, s2, s3, s4⟩
    go_simp
    with_reducible rfl
   rotate_left
   ·simp only [Act.put, List.setIfInBounds_toArray, List.set_cons_zero, List.set_cons_succ, i64_w, i32_w]
    rfl
   refine join_ (σ := Value × Value) 4 #[true, true, true, true, true, true, true, false, false, false, false] (fun s_ => [(27, s_.1), (29, s_.2)]) (fun s_ w' => (w'.cell? ⟨gb480, 0, none⟩ = some (.int .i64 a0_0) ∧ w'.cell? ⟨gb480, 1, none⟩ = some (.slice A0_1 l0_1.length c0_1) ∧ w'.cell? ⟨gb481, 0, none⟩ = some (.int .i64 a1_0) ∧ w'.cell? ⟨gb481, 1, none⟩ = some (.int .i64 a1_1) ∧ w'.cell? ⟨gb481, 2, none⟩ = some (.int .i64 a1_2)) ∧ (Kd.R k40 40 w' w.heap.size (fun k_ => some k_ ≠ (s_.2 : Value).ownBlock ∧ k_ ≠ gb481) s_.1 t485) ∧ (Kd.R k40 40 w' w.heap.size (fun k_ => some k_ ≠ (s_.1 : Value).ownBlock ∧ k_ ≠ gb481) s_.2 y488) ∧ (w'.heap[gb480]? = some (.cells #[.int .i64 a0_0, .slice A0_1 l0_1.length c0_1] 28 (0, 0))) ∧ (w'.heap[gb481]? = some (.cells #[.int .i64 a1_0, .int .i64 a1_1, .int .i64 a1_2] 40 (0, 0))) ∧ (w'.heap[gb482]? = some (.cells #[.int .i64 0, .slice none 0 0] 28 (0, 0))) ∧ (Below w.heap.size w w')) ?_ ?_
   rotate_left
   ·intro hCont
    refine two_ (i := 4) (j := 6) (Ni := some 27) (Nj := some 29) #[true, true, true, true, true, true, false, false, false, false, false] #[true, true, true, true, false, true, true, false, false, false, false] rfl rfl rfl rfl (two_of HT_.out (by kernel_rfl)) (by decide) (by decide) (fun K hK => ?_) (fun K hK => ?_)
    ·skip
     refine goes_ Tryz.func56 (by kernel_rfl) rfl #[.slice A0_1 l0_1.length c0_1] (by rfl) rfl rfl (by (try simp only [List.map_toArray, List.map_cons, List.map_nil]); first | done | rfl | (simp only [List.length_drop, List.length_take]; rfl)) ?_
     with_reducible refine (impl_Clue_56.calls _ _ l0_1 t485 _ ?side1 ?side2 A21.out).mono ?_
     (case side1 => exact cU (Kd.C_below HR0_1.out HB.out))
     (case side2 => exact HC0_1.out)
     rintro e w36 ⟨v486, rfl, ho0, hb⟩
     refine ⟨_, rfl, ?_⟩
     have n0_ := aM (Kd.R_lower (Kd.R_newB ho0 (g := gb481) (o := .cells #[.int .i64 a1_0, .int .i64 a1_1, .int .i64 a1_2] 40 (0, 0)) (bU BK481.out)) (below_size (bel HB)))
     have n1_ := bB BK480 hb
     have n2_ := bB BK481 hb
     have n3_ := bB BK482 hb
     have n4_ := hS HB hb
     clear BK480
     clear BK481
     clear BK482
     clear HB
     have HO487 := n0_
     have BK480 := n1_
     have BK481 := n2_
     have BK482 := n3_
     have HB := n4_
     clear n0_ n1_ n2_ n3_ n4_
     (try clear hb)
     (try clear hb2)
     (try clear hk)
     (try clear hi)
     (try clear ho0)
     refine hK.out _ _ ⟨(blk_cell BK480.out 0).trans rfl, (blk_cell BK480.out 1).trans rfl, (blk_cell BK481.out 0).trans rfl, (blk_cell BK481.out 1).trans rfl, (blk_cell BK481.out 2).trans rfl⟩ (fun hHeld => ?_)
     clear hK K
     refine norm_ (a' := ?_) ?_ ?_
     rotate_left
     ·show Act.put _ (some 27) _ = _
      simp only [Act.put, List.setIfInBounds_toArray, List.set_cons_zero, List.set_cons_succ, i64_w, i32_w]
      rfl
     refine one_ (i := 6) (N := some 29) (bn 11 127) rfl rfl (one_of HT_.out (by kernel_rfl)) (by decide) (fun K hK => ?_)
     refine Kd.R_lit_step k40 _ 40 ?hg (N := 29) ?hd (xs := ([(⟨a1_0, a1_1, a1_2⟩ : S40)] : List (S40))) (inner := [.int .i64 a1_0, .int .i64 a1_1, .int .i64 a1_2]) (ok := fun _ => True) (okp := fun _ => True) ?hr ?hp (fun _ hk => hk) trivial (Below.refl _ _) (Nat.le_refl _) (by simp) ?_; (case hd => rfl); (case hg => rfl); (case hr => first | (go_simp; done) | (go_simp; rfl)); (case hp => exact (Reps.c3 (show Kd.M k40 _ _ _ (⟨a1_0, a1_1, a1_2⟩ : S40) [.int .i64 a1_0, .int .i64 a1_1, .int .i64 a1_2] from (k40_mkM _ _ _ (⟨a1_0, a1_1, a1_2⟩ : S40) )) (Reps.none _ _)))
     intro v489 w37 ho38 hb hg_ hnew_
     clear hg_ hnew_
     (first | rw [← Ny488.out] at ho38 | (simp only [Int.reduceToNat] at ho38; rw [← Ny488.out] at ho38))
     have n0_ := aM (Kd.R_elder' (rU HO487.out) (Kd.R_base ho38) hb)
     have n1_ := aM (Kd.R_lower (Kd.R_newB (Kd.R_new' ho38 (Kd.R_lt (rU HO487.out))) (g := gb481) (o := .cells #[.int .i64 a1_0, .int .i64 a1_1, .int .i64 a1_2] 40 (0, 0)) (bU BK481.out)) (below_size (bel HB)))
     have n2_ := bB BK480 hb
     have n3_ := bB BK481 hb
     have n4_ := bB BK482 hb
     have n5_ := hS HB hb
     clear HO487
     clear BK480
     clear BK481
     clear BK482
     clear HB
     have HO487 := n0_
     have HO490 := n1_
     have BK480 := n2_
     have BK481 := n3_
     have BK482 := n4_
     have HB := n5_
     clear n0_ n1_ n2_ n3_ n4_ n5_
     clear hb ho38
     refine hK.out _ _ ⟨(blk_cell BK480.out 0).trans rfl, (blk_cell BK480.out 1).trans rfl, (blk_cell BK481.out 0).trans rfl, (blk_cell BK481.out 1).trans rfl, (blk_cell BK481.out 2).trans rfl⟩ (fun hHeld => ?_)
     clear hK K
     refine norm_ (a' := ?_) ?_ ?_
     rotate_left
     ·show Act.put _ (some 29) _ = _
      simp only [Act.put, List.setIfInBounds_toArray, List.set_cons_zero, List.set_cons_succ, i64_w, i32_w]
      rfl
     exact norm_ (by simp only [putAll, Act.put, List.setIfInBounds_toArray, List.set_cons_zero, List.set_cons_succ]) (hCont (v486, v489) _ ⟨hHeld, (rU (Kd.R_mono HO487.out (fun _ hk => ⟨hk.2, hk.1.2⟩))), (rU (Kd.R_mono HO490.out (fun _ hk => ⟨hk.1.2, hk.2⟩))), (bU BK480.out), (bU BK481.out), (bU BK482.out), (bel HB)⟩)
    skip
    refine Kd.R_lit_step k40 _ 40 ?hg (N := 29) ?hd (xs := ([(⟨a1_0, a1_1, a1_2⟩ : S40)] : List (S40))) (inner := [.int .i64 a1_0, .int .i64 a1_1, .int .i64 a1_2]) (ok := fun _ => True) (okp := fun _ => True) ?hr ?hp (fun _ hk => hk) trivial (Below.refl _ _) (Nat.le_refl _) (by simp) ?_; (case hd => rfl); (case hg => rfl); (case hr => first | (go_simp; done) | (go_simp; rfl)); (case hp => exact (Reps.c3 (show Kd.M k40 _ _ _ (⟨a1_0, a1_1, a1_2⟩ : S40) [.int .i64 a1_0, .int .i64 a1_1, .int .i64 a1_2] from (k40_mkM _ _ _ (⟨a1_0, a1_1, a1_2⟩ : S40) )) (Reps.none _ _)))
    intro v489 w36 ho37 hb hg_ hnew_
    clear hg_ hnew_
    (first | rw [← Ny488.out] at ho37 | (simp only [Int.reduceToNat] at ho37; rw [← Ny488.out] at ho37))
    have n0_ := aM (Kd.R_lower (Kd.R_newB ho37 (g := gb481) (o := .cells #[.int .i64 a1_0, .int .i64 a1_1, .int .i64 a1_2] 40 (0, 0)) (bU BK481.out)) (below_size (bel HB)))
    have n1_ := bB BK480 hb
    have n2_ := bB BK481 hb
    have n3_ := bB BK482 hb
    have n4_ := hS HB hb
    clear BK480
    clear BK481
    clear BK482
    clear HB
    have HO490 := n0_
    have BK480 := n1_
    have BK481 := n2_
    have BK482 := n3_
    have HB := n4_
    clear n0_ n1_ n2_ n3_ n4_
    clear hb ho37
    refine hK.out _ _ ⟨(blk_cell BK480.out 0).trans rfl, (blk_cell BK480.out 1).trans rfl, (blk_cell BK481.out 0).trans rfl, (blk_cell BK481.out 1).trans rfl, (blk_cell BK481.out 2).trans rfl⟩ (fun hHeld => ?_)
    clear hK K
    refine norm_ (a' := ?_) ?_ ?_
    rotate_left
    ·show Act.put _ (some 29) _ = _
     simp only [Act.put, List.setIfInBounds_toArray, List.set_cons_zero, List.set_cons_succ, i64_w, i32_w]
     rfl
    refine one_ (i := 4) (N := some 27) (bn 11 127) rfl rfl (one_of HT_.out (by kernel_rfl)) (by decide) (fun K hK => ?_)
    refine goes_ Tryz.func56 (by kernel_rfl) rfl #[.slice A0_1 l0_1.length c0_1] (by rfl) rfl rfl (by (try simp only [List.map_toArray, List.map_cons, List.map_nil]); first | done | rfl | (simp only [List.length_drop, List.length_take]; rfl)) ?_
    with_reducible refine (impl_Clue_56.calls _ _ l0_1 t485 _ ?side1 ?side2 A21.out).mono ?_
    (case side1 => exact cU (Kd.C_below HR0_1.out HB.out))
    (case side2 => exact HC0_1.out)
    rintro e w38 ⟨v486, rfl, ho0, hb⟩
    refine ⟨_, rfl, ?_⟩
    have n0_ := aM (Kd.R_elder' (rU HO490.out) (Kd.R_base ho0) hb)
    have n1_ := aM (Kd.R_lower (Kd.R_newB (Kd.R_new' ho0 (Kd.R_lt (rU HO490.out))) (g := gb481) (o := .cells #[.int .i64 a1_0, .int .i64 a1_1, .int .i64 a1_2] 40 (0, 0)) (bU BK481.out)) (below_size (bel HB)))
    have n2_ := bB BK480 hb
    have n3_ := bB BK481 hb
    have n4_ := bB BK482 hb
    have n5_ := hS HB hb
    clear HO490
    clear BK480
    clear BK481
    clear BK482
    clear HB
    have HO490 := n0_
    have HO487 := n1_
    have BK480 := n2_
    have BK481 := n3_
    have BK482 := n4_
    have HB := n5_
    clear n0_ n1_ n2_ n3_ n4_ n5_
    (try clear hb)
    (try clear hb2)
    (try clear hk)
    (try clear hi)
    (try clear ho0)
    refine hK.out _ _ ⟨(blk_cell BK480.out 0).trans rfl, (blk_cell BK480.out 1).trans rfl, (blk_cell BK481.out 0).trans rfl, (blk_cell BK481.out 1).trans rfl, (blk_cell BK481.out 2).trans rfl⟩ (fun hHeld => ?_)
    clear hK K
    refine norm_ (a' := ?_) ?_ ?_
    rotate_left
    ·show Act.put _ (some 27) _ = _
     simp only [Act.put, List.setIfInBounds_toArray, List.set_cons_zero, List.set_cons_succ, i64_w, i32_w]
     rfl
    exact norm_ (by simp only [putAll, Act.put, List.setIfInBounds_toArray, List.set_cons_zero, List.set_cons_succ]) (hCont (v486, v489) _ ⟨hHeld, (rU (Kd.R_mono HO487.out (fun _ hk => ⟨hk.1.2, hk.2⟩))), (rU (Kd.R_mono HO490.out (fun _ hk => ⟨hk.2, hk.1.2⟩))), (bU BK480.out), (bU BK481.out), (bU BK482.out), (bel HB)⟩)
   rintro ⟨v486, v489⟩ w39 ⟨hS_, h0_, h1_, h2_, h3_, h4_, h5_⟩
   have n0_ : Aside0 (Kd.R k40 40 w39 w.heap.size (fun k_ => some k_ ≠ (v489 : Value).ownBlock ∧ k_ ≠ gb481) v486 t485) := ⟨h0_⟩
   have n1_ : Aside0 (Kd.R k40 40 w39 w.heap.size (fun k_ => some k_ ≠ (v486 : Value).ownBlock ∧ k_ ≠ gb481) v489 y488) := ⟨h1_⟩
   have n2_ : Aside0 (w39.heap[gb480]? = some (.cells #[.int .i64 a0_0, .slice A0_1 l0_1.length c0_1] 28 (0, 0))) := ⟨h2_⟩
   have n3_ : Aside0 (w39.heap[gb481]? = some (.cells #[.int .i64 a1_0, .int .i64 a1_1, .int .i64 a1_2] 40 (0, 0))) := ⟨h3_⟩
   have n4_ : Aside0 (w39.heap[gb482]? = some (.cells #[.int .i64 0, .slice none 0 0] 28 (0, 0))) := ⟨h4_⟩
   have n5_ : Aside0 (Below w.heap.size w w39) := ⟨h5_⟩
   clear BK480
   clear BK481
   clear BK482
   clear HB
   clear h0_ h1_ h2_ h3_ h4_ h5_
   have HO487 := n0_
   have HO490 := n1_
   have BK480 := n2_
   have BK481 := n3_
   have BK482 := n4_
   have HB := n5_
   clear n0_ n1_ n2_ n3_ n4_ n5_
   have hHeld : w39.cell? ⟨gb480, 0, none⟩ = some (.int .i64 a0_0) ∧ w39.cell? ⟨gb480, 1, none⟩ = some (.slice A0_1 l0_1.length c0_1) ∧ w39.cell? ⟨gb481, 0, none⟩ = some (.int .i64 a1_0) ∧ w39.cell? ⟨gb481, 1, none⟩ = some (.int .i64 a1_1) ∧ w39.cell? ⟨gb481, 2, none⟩ = some (.int .i64 a1_2) := hS_
   obtain ⟨Ao41, co41, eo41⟩ := Kd.R_slice HO490.out
   (first | subst eo41 | (injection eo41 with f1_ f2_ f3_; have f4_ := f1_.symm; have f5_ := f3_.symm; clear f1_ f2_ f3_; subst f4_; subst f5_))
   refine norm_ (a' := ?_) ?_ ?_
   rotate_left
   ·simp only [putAll, Act.put, List.setIfInBounds_toArray, List.set_cons_zero, List.set_cons_succ]
    rfl
   refine one_ (i := 7) (N := some 30) (bn 11 255) rfl rfl (one_of HT_.out (by kernel_rfl)) (by decide) (fun K hK => ?_)
   refine Kd.R_append_rows_step k40 (w0 := w) w.heap.size (by rfl) (.tmp 27) (.tmp 29) 26 40 (.agg #[(.int .i64 0), (.int .i64 0), (.int .i64 0)]) 24 rfl Tryz.underlying26 info40 rfl (by decide) (by omega) v486 t485 y488 _ _ _ (fun k_ => some k_ ≠ (.slice Ao41 y488.length co41 : Value).ownBlock ∧ k_ ≠ gb481) (fun _ => False) rfl rfl ?aO ?aR (fun _ _ h => h) (fun _ h => h.elim) ?aF ?aB ?aS ?aL ?_
   (case aR => exact cU ((Kd.R_reads' HO490.out).2.2))
   (case aB => exact (bel HB))
   (case aF => exact (fun k_ hk => ⟨Kd.fresh' (Kd.R_lt (rU HO490.out)) k_ hk, Kd.freshB (g := gb481) (o := .cells #[.int .i64 a1_0, .int .i64 a1_1, .int .i64 a1_2] 40 (0, 0)) (bU BK481.out) k_ hk⟩))
   (case aO => exact (rU HO487.out))
   (case aS => exact (below_size (bel HB)))
   (case aL => have := LMc22.out; omega)
   intro v492 w40 ho hb hg hat
   rw [← Ny491.out] at ho
   have n0_ := aM (blk_grown (g := gb480) (o := .cells #[.int .i64 a0_0, .slice A0_1 l0_1.length c0_1] 28 (0, 0)) (bU BK480.out) hg (Kd.R_ne HO487.out BK480.out (by decide)))
   have n1_ := aM (blk_grown (g := gb481) (o := .cells #[.int .i64 a1_0, .int .i64 a1_1, .int .i64 a1_2] 40 (0, 0)) (bU BK481.out) hg (Kd.R_away HO487.out (fun _ hk => hk.2)))
   have n2_ := aM (blk_grown (g := gb482) (o := .cells #[.int .i64 0, .slice none 0 0] 28 (0, 0)) (bU BK482.out) hg (Kd.R_ne HO487.out BK482.out (by decide)))
   have n3_ := aM (Kd.R_after (ok := (fun k_ => k_ ≠ gb481)) (rU (Kd.R_mono HO490.out (fun _ hk => ⟨hk.2, hk.1⟩))) hg hat)
   have n4_ := aM (hb)
   have n5_ := aM (ho)
   clear BK480
   clear BK481
   clear BK482
   clear HO490
   clear HB
   clear HO487
   have BK480 := n0_
   have BK481 := n1_
   have BK482 := n2_
   have HO490 := n3_
   have HB := n4_
   have HO493 := n5_
   clear n0_ n1_ n2_ n3_ n4_ n5_
   clear ho hb hg hat
   obtain ⟨Ao42, co42, eo42⟩ := Kd.R_slice HO493.out
   (first | subst eo42 | (injection eo42 with f1_ f2_ f3_; have f4_ := f1_.symm; have f5_ := f3_.symm; clear f1_ f2_ f3_; subst f4_; subst f5_))
   refine hK.out _ _ ⟨(blk_cell BK480.out 0).trans rfl, (blk_cell BK480.out 1).trans rfl, (blk_cell BK481.out 0).trans rfl, (blk_cell BK481.out 1).trans rfl, (blk_cell BK481.out 2).trans rfl⟩ (fun hHeld => ?_)
   clear hK K
   refine norm_ (a' := ?_) ?_ ?_
   rotate_left
   ·show Act.put _ (some 30) _ = _
    simp only [Act.put, List.setIfInBounds_toArray, List.set_cons_zero, List.set_cons_succ, i64_w, i32_w]
    rfl
   refine pU 8 (some 31) (bn 11 511) ?_
   refine one_ (i := 9) (N := none) (bn 11 1023) rfl rfl (one_of HT_.out (by kernel_rfl)) (by decide) (fun K hK => ?_)
   have hs43 : w40.cell? ⟨gb482, 0, none⟩ = some (.int .i64 0) := (blk_cell BK482.out 0).trans rfl
   have hfs43 := blk_frozen BK482.out 0
   have hns43_0 := NB480_482.out
   have hns43_1 := NB481_482.out
   have hms43_0 := NB482_480.out
   have hms43_1 := NB482_481.out
   have hs44 : w40.cell? ⟨gb482, 1, none⟩ = some (.slice none 0 0) := (blk_cell BK482.out 1).trans rfl
   have hfs44 := blk_frozen BK482.out 1
   have hns44_0 := NB480_482.out
   have hns44_1 := NB481_482.out
   have hms44_0 := NB482_480.out
   have hms44_1 := NB482_481.out
   refine skip_ (w1 := ?_) (by rfl) rfl ?_ ?_
   rotate_left
   ·go_simp
    rfl
   refine hK.out _ _ ⟨((cell_far (p := ⟨gb482, _, none⟩) NB480_482.out _).trans (((cell_far (p := ⟨gb482, _, none⟩) NB480_482.out _).trans (hHeld.1)))), ((cell_far (p := ⟨gb482, _, none⟩) NB480_482.out _).trans (((cell_far (p := ⟨gb482, _, none⟩) NB480_482.out _).trans (hHeld.2.1)))), ((cell_far (p := ⟨gb482, _, none⟩) NB481_482.out _).trans (((cell_far (p := ⟨gb482, _, none⟩) NB481_482.out _).trans (hHeld.2.2.1)))), ((cell_far (p := ⟨gb482, _, none⟩) NB481_482.out _).trans (((cell_far (p := ⟨gb482, _, none⟩) NB481_482.out _).trans (hHeld.2.2.2.1)))), ((cell_far (p := ⟨gb482, _, none⟩) NB481_482.out _).trans (((cell_far (p := ⟨gb482, _, none⟩) NB481_482.out _).trans (hHeld.2.2.2.2))))⟩ (fun hHeld => ?_)
   clear hK K
   refine pU 10 (some 5) (bn 11 2047) ?_
   refine done_ (done_of HT_.out (by kernel_rfl)) ?_
   try go_wp2
   refine bodyPost_ret (results_ct rfl _ _ gb482 28 #[.int .i64 a0_0, .slice Ao42 y491.length co42] (0, 0) _ rfl (bP2 BK482) Tryz.underlying28 rfl (by kernel_rfl)) rfl ?_
   exact ⟨_, eW, rU (Kd.R_mono (Kd.R_far (p := ⟨gb482, 1, none⟩) (Kd.R_far (p := ⟨gb482, 0, none⟩) (Kd.R_types HO493.out BK482.out (by decide)) (fun _ hk => hk.2) (.int .i64 a0_0)) (fun _ hk => hk.2) (.slice Ao42 y491.length co42)) (fun _ hk => trivial)), bel HB⟩
  simp only [Option.some.injEq, Prod.mk.injEq] at H
  obtain ⟨rfl, rfl, rfl⟩ := H
  go_enter Tryz.func24, Tryz.ntmps24
  go_wp2_with (first | ((with_reducible refine gate_dst (N := 2) rfl ?_); (try (refine gate_guard (by rfl) ?_; dsimp only)); refine bX (N := 2) rfl (cs := #[.int .i64 a0_0, .slice A0_1 l0_1.length c0_1]) (t := 28) ?_; intro gb480 hg w45 BK480 hb; have GW480 := gE hg HB; have GE480 := gE hg HB; replace HB := hS HB hb; clear hb hg) | ((with_reducible refine gate_dst (N := 3) rfl ?_); (try (refine gate_guard (by rfl) ?_; dsimp only)); refine bX (N := 3) rfl (cs := #[.int .i64 a1_0, .int .i64 a1_1, .int .i64 a1_2]) (t := 40) ?_; intro gb481 hg w46 BK481 hb; have GW481 := gE hg HB; have GE481 := gE hg HB; have NB480_481 := nbL hg BK480; have NB481_480 := nbR hg BK480; replace BK480 := bB BK480 hb; replace HB := hS HB hb; clear hb hg) | ((with_reducible refine gate_dst (N := 4) rfl ?_); (try (refine gate_guard (by rfl) ?_; dsimp only)); refine bX (N := 4) rfl (cs := #[.int .i64 0, .slice none 0 0]) (t := 28) ?_; intro gb482 hg w47 BK482 hb; have GW482 := gE hg HB; have GE482 := gE hg HB; have NB480_482 := nbL hg BK480; have NB482_480 := nbR hg BK480; have NB481_482 := nbL hg BK481; have NB482_481 := nbR hg BK481; replace BK480 := bB BK480 hb; replace BK481 := bB BK481 hb; replace HB := hS HB hb; clear hb hg; have hnb48 := NB480_481.out; have hnc48 := NB481_480.out; have hnb49 := NB480_482.out; have hnc49 := NB482_480.out; obtain ⟨hcz50_0, hcz50_1, hfz50_0, hfz50_1⟩ := hC2 BK480) | ((with_reducible refine gG 14 (some 7) rfl rfl ?_); refine gC Tryz.func14 (impl_IsPuzzle.calls a0_0 _ _ l0_1 true _ (cU (Kd.C_below HR0_1.out HB.out)) HC0_1.out A3.out) ?_; rintro w51 hb; replace BK480 := bB BK480 hb; replace BK481 := bB BK481 hb; replace BK482 := bB BK482 hb; replace HB := hS HB hb; clear hb; obtain ⟨hcz52_0, hcz52_1, hfz52_0, hfz52_1⟩ := hC2 BK480; have hnb53 := NB481_482.out; have hnc53 := NB482_481.out; obtain ⟨hcz54_0, hcz54_1, hcz54_2, hfz54_0, hfz54_1, hfz54_2⟩ := hC3 BK481) | (go_at_call 32; (with_reducible refine (impl_IsClue.calls k a0_0 a1_0 a1_1 a1_2 false _ A5.out).mono ?_); rintro e w55 ⟨rfl, hb⟩; replace BK480 := bB BK480 hb; replace BK481 := bB BK481 hb; replace BK482 := bB BK482 hb; replace HB := hS HB hb; clear hb; obtain ⟨hcz56_0, hcz56_1, hfz56_0, hfz56_1⟩ := hC2 BK482))
  refine bodyPost_ret (results_ct rfl _ _ gb482 28 #[.int .i64 0, .slice none 0 0] (0, 0) _ rfl (bP2 BK482) Tryz.underlying28 rfl (by kernel_rfl)) rfl ?_
  exact ⟨_, eW, by first | exact Kd.R_nil _ _ _ _ _ | exact Kd.N_nil _ _ _ _ _ | exact Kd.V_nil _ _ _ _ _ | exact Kd.Q_nil _ _ _ _ _ | exact Kd.S_nil _ _ _ _ _, bel HB⟩
 simp only [Option.some.injEq, Prod.mk.injEq] at H
 obtain ⟨rfl, rfl, rfl⟩ := H
 go_enter Tryz.func24, Tryz.ntmps24
 go_wp2_with (first | ((with_reducible refine gate_dst (N := 2) rfl ?_); (try (refine gate_guard (by rfl) ?_; dsimp only)); refine bX (N := 2) rfl (cs := #[.int .i64 a0_0, .slice A0_1 l0_1.length c0_1]) (t := 28) ?_; intro gb480 hg w57 BK480 hb; have GW480 := gE hg HB; have GE480 := gE hg HB; replace HB := hS HB hb; clear hb hg) | ((with_reducible refine gate_dst (N := 3) rfl ?_); (try (refine gate_guard (by rfl) ?_; dsimp only)); refine bX (N := 3) rfl (cs := #[.int .i64 a1_0, .int .i64 a1_1, .int .i64 a1_2]) (t := 40) ?_; intro gb481 hg w58 BK481 hb; have GW481 := gE hg HB; have GE481 := gE hg HB; have NB480_481 := nbL hg BK480; have NB481_480 := nbR hg BK480; replace BK480 := bB BK480 hb; replace HB := hS HB hb; clear hb hg) | ((with_reducible refine gate_dst (N := 4) rfl ?_); (try (refine gate_guard (by rfl) ?_; dsimp only)); refine bX (N := 4) rfl (cs := #[.int .i64 0, .slice none 0 0]) (t := 28) ?_; intro gb482 hg w59 BK482 hb; have GW482 := gE hg HB; have GE482 := gE hg HB; have NB480_482 := nbL hg BK480; have NB482_480 := nbR hg BK480; have NB481_482 := nbL hg BK481; have NB482_481 := nbR hg BK481; replace BK480 := bB BK480 hb; replace BK481 := bB BK481 hb; replace HB := hS HB hb; clear hb hg; have hnb60 := NB480_481.out; have hnc60 := NB481_480.out; have hnb61 := NB480_482.out; have hnc61 := NB482_480.out; obtain ⟨hcz62_0, hcz62_1, hfz62_0, hfz62_1⟩ := hC2 BK480) | ((with_reducible refine gG 14 (some 7) rfl rfl ?_); refine gC Tryz.func14 (impl_IsPuzzle.calls a0_0 _ _ l0_1 false _ (cU (Kd.C_below HR0_1.out HB.out)) HC0_1.out A3.out) ?_; rintro w63 hb; replace BK480 := bB BK480 hb; replace BK481 := bB BK481 hb; replace BK482 := bB BK482 hb; replace HB := hS HB hb; clear hb; have hnb64 := NB482_481.out; have hnc64 := NB481_482.out; obtain ⟨hcz65_0, hcz65_1, hfz65_0, hfz65_1⟩ := hC2 BK482))
 refine bodyPost_ret (results_ct rfl _ _ gb482 28 #[.int .i64 0, .slice none 0 0] (0, 0) _ rfl (bP2 BK482) Tryz.underlying28 rfl (by kernel_rfl)) rfl ?_
 exact ⟨_, eW, by first | exact Kd.R_nil _ _ _ _ _ | exact Kd.N_nil _ _ _ _ _ | exact Kd.V_nil _ _ _ _ _ | exact Kd.Q_nil _ _ _ _ _ | exact Kd.S_nil _ _ _ _ _, bel HB⟩

end Go.Proofs.YtpdkjehplfgjcabGreatDoor.PHid
