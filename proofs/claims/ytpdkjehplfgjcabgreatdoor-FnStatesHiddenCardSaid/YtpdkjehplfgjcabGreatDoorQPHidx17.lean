-- squeezed (sq3.py); PRINTED by drive.py (a program of this session's, over the kit's print.py; wip/tools/drive.py). Lean checks it.
import Derived.Test.YtpdkjehplfgjcabGreatDoorQPHidx0
import Derived.Test.YtpdkjehplfgjcabGreatDoorQPHidx2
import Derived.Test.YtpdkjehplfgjcabGreatDoorQPHidx4
import Derived.Test.YtpdkjehplfgjcabGreatDoorQPHidx9
import Derived.Test.YtpdkjehplfgjcabGreatDoorQPHidx12
import Derived.Test.YtpdkjehplfgjcabGreatDoorQPHidx13
import Derived.Test.YtpdkjehplfgjcabGreatDoorQPHidx14
import Derived.Test.YtpdkjehplfgjcabGreatDoorQPHidx15
import Derived.Test.YtpdkjehplfgjcabGreatDoorQSq
namespace Go.Proofs.YtpdkjehplfgjcabGreatDoor.PHid
open Go.RowKit Go.Proofs.YtpdkjehplfgjcabGreatDoorW.PrintWords Go.Proofs.YtpdkjehplfgjcabGreatDoorW.PrintLast Go.Proofs.YtpdkjehplfgjcabGreatDoorW.PrintMore
attribute [local go_sem] max2_int min2_int max_two min_two max_three min_three max_four min_four   -- for this text's walks alone
set_option linter.unusedVariables false
set_option linter.unusedSimpArgs false

/-! ### spec_AddClue: function 25 -/
def spec_AddClue.f (k : Nat) (a0_0 : Int) (l0_1 : List (S40)) (a1_0 : Int) (a1_1 : Int) (a1_2 : Int) : Option (Int × (List (S40)) × Bool) := (spec_pzGood.f k a0_0 l0_1).bind fun t497 => (if t497 = true then ((spec_pzClue.f k a0_0 a1_0 a1_1 a1_2).bind fun t498 => (if t498 = true then (if (l0_1.length : Int) = 6 then (some (0, ([] : List (S40)), false)) else ((some (([] : List (S40)) : List (S40))).bind fun y499 => (if y499.length + l0_1.length < 5864062014805 then ((some (y499 ++ l0_1 : List (S40))).bind fun y502 => ((some (([(⟨a1_0, a1_1, a1_2⟩ : S40)] : List (S40)) : List (S40))).bind fun y505 => (if y502.length + y505.length < 5864062014805 then (some (a0_0, (y502 ++ y505), true)) else (none)))) else (none)))) else (some (0, ([] : List (S40)), false)))) else (some (0, ([] : List (S40)), false)))
instance spec_AddClue.mI (k : Nat) : Mo (spec_AddClue.f k) (spec_AddClue.f (k + 1)) := by
 (repeat refine mE fun _ => ?_); unfold spec_AddClue.f; exact mG
theorem spec_AddClue.mono : ∀ a0 a1 a2 a3 a4 k, LeO (spec_AddClue.f k a0 a1 a2 a3 a4) (spec_AddClue.f (k + 1) a0 a1 a2 a3 a4) := fun a0 a1 a2 a3 a4 k => (spec_AddClue.mI k).out a0 a1 a2 a3 a4
def spec_AddClue.T3 : Bool × List (List Nat × List Nat) := (true, [([], []), ([0], [0]), ([], []), ([], []), ([3], [3]), ([2, 4], [2, 4]), ([], []), ([6], [6]), ([5, 7, 5], [5, 7]), ([1, 8], [1, 8]), ([9, 8, 0, 1, 2, 3, 4, 5, 6, 7, 8, 9], [9]), ([10, 0, 1, 2, 3, 4, 5, 6, 7, 8, 9, 10], [])])
def spec_AddClue.B3 : List Nat := [0, 1, 0, 0, 8, 28, 0, 64, 252, 511, 1023, 2047]
theorem spec_AddClue.tab3 : rtab .any (opsOf Tryz.f25 3) = spec_AddClue.T3 := by kernel_rfl
theorem spec_AddClue.bits3 : waitsOk spec_AddClue.T3.2 spec_AddClue.B3 = true := by kernel_rfl
set_option maxHeartbeats 8000000 in
set_option maxRecDepth 100000 in
theorem spec_AddClue.calls (k : Nat) (a0_0 : Int) (A0_1 : Option Addr) (c0_1 : Nat) (l0_1 : List (S40)) (a1_0 : Int) (a1_1 : Int) (a1_2 : Int) (r1 : Int) (r2 : List (S40)) (r3 : Bool) (w : World) (hr0_1 : Kd.C k40 w A0_1 l0_1.length l0_1) (hc0_1 : l0_1.length ≤ c0_1) (h : spec_AddClue.f k a0_0 l0_1 a1_0 a1_1 a1_2 = some (r1, r2, r3)) :
  Calls Tryz.prog 25 #[.agg #[.int .i64 a0_0, .slice A0_1 l0_1.length c0_1], .agg #[.int .i64 a1_0, .int .i64 a1_1, .int .i64 a1_2]] w fun e w' => ∃ v1_ : Value, e = .returned (.tuple #[.agg #[.int .i64 r1, v1_], .bool r3]) ∧ Kd.R k40 40 w' w.heap.size (fun _ => True) v1_ r2 ∧ Below w.heap.size w w' := by
 have hu28 := Tryz.underlying28
 have hu40 := Tryz.underlying40
 have HR0_1 := aM hr0_1
 have HC0_1 := aM hc0_1
 clear hr0_1 hc0_1
 have HB := aM (Below.refl w.heap.size w)
 have H := h
 clear h; unfold spec_AddClue.f at H
 replace H := bC H; obtain ⟨t497, A3, H⟩ := H
 refine iB H ?_ ?_ <;> clear H <;> rintro rfl H
 ·replace H := bC H; obtain ⟨t498, A5, H⟩ := H
  refine iB H ?_ ?_ <;> clear H <;> rintro rfl H
  ·refine iI H ?_ ?_ <;> clear H <;> intro c7 H
   ·have c7b0 := qT c7
    have c7b1 := nF c7
    clear c7
    simp only [Option.some.injEq, Prod.mk.injEq] at H
    obtain ⟨rfl, rfl, rfl⟩ := H
    go_enter Tryz.func25, Tryz.ntmps25
    go_wp2_with (first | ((with_reducible refine gate_dst (N := 2) rfl ?_); (try (refine gate_guard (by rfl) ?_; dsimp only)); refine bX (N := 2) rfl (cs := #[.int .i64 a0_0, .slice A0_1 l0_1.length c0_1]) (t := 28) ?_; intro gb494 hg w8 BK494 hb; have GW494 := gE hg HB; have GE494 := gE hg HB; replace HB := hS HB hb; clear hb hg) | ((with_reducible refine gate_dst (N := 3) rfl ?_); (try (refine gate_guard (by rfl) ?_; dsimp only)); refine bX (N := 3) rfl (cs := #[.int .i64 a1_0, .int .i64 a1_1, .int .i64 a1_2]) (t := 40) ?_; intro gb495 hg w9 BK495 hb; have GW495 := gE hg HB; have GE495 := gE hg HB; have NB494_495 := nbL hg BK494; have NB495_494 := nbR hg BK494; replace BK494 := bB BK494 hb; replace HB := hS HB hb; clear hb hg) | ((with_reducible refine gate_dst (N := 4) rfl ?_); (try (refine gate_guard (by rfl) ?_; dsimp only)); refine bX (N := 4) rfl (cs := #[.int .i64 0, .slice none 0 0]) (t := 28) ?_; intro gb496 hg w10 BK496 hb; have GW496 := gE hg HB; have GE496 := gE hg HB; have NB494_496 := nbL hg BK494; have NB496_494 := nbR hg BK494; have NB495_496 := nbL hg BK495; have NB496_495 := nbR hg BK495; replace BK494 := bB BK494 hb; replace BK495 := bB BK495 hb; replace HB := hS HB hb; clear hb hg; have hnb11 := NB494_495.out; have hnc11 := NB495_494.out; have hnb12 := NB494_496.out; have hnc12 := NB496_494.out; obtain ⟨hcz13_0, hcz13_1, hfz13_0, hfz13_1⟩ := hC2 BK494) | ((with_reducible refine gG 58 (some 7) rfl rfl ?_); refine gC Tryz.func58 (spec_pzGood.calls k a0_0 _ _ l0_1 true _ (cU (Kd.C_below HR0_1.out HB.out)) HC0_1.out A3.out) ?_; rintro w14 hb; replace BK494 := bB BK494 hb; replace BK495 := bB BK495 hb; replace BK496 := bB BK496 hb; replace HB := hS HB hb; clear hb; obtain ⟨hcz15_0, hcz15_1, hfz15_0, hfz15_1⟩ := hC2 BK494; have hnb16 := NB495_496.out; have hnc16 := NB496_495.out; obtain ⟨hcz17_0, hcz17_1, hcz17_2, hfz17_0, hfz17_1, hfz17_2⟩ := hC3 BK495) | (go_at_call 62; (with_reducible refine (spec_pzClue.calls k a0_0 a1_0 a1_1 a1_2 true _ A5.out).mono ?_); rintro e w18 ⟨rfl, hb⟩; replace BK494 := bB BK494 hb; replace BK495 := bB BK495 hb; replace BK496 := bB BK496 hb; replace HB := hS HB hb; clear hb; obtain ⟨hcz19_0, hcz19_1, hfz19_0, hfz19_1⟩ := hC2 BK494; obtain ⟨hcz20_0, hcz20_1, hfz20_0, hfz20_1⟩ := hC2 BK496))
    refine bodyPost_ret (results_ct rfl _ _ gb496 28 #[.int .i64 0, .slice none 0 0] (0, 0) _ rfl (bP2 BK496) Tryz.underlying28 rfl (by kernel_rfl)) rfl ?_
    exact ⟨_, eW, by first | exact Kd.R_nil _ _ _ _ _ | exact Kd.N_nil _ _ _ _ _ | exact Kd.V_nil _ _ _ _ _ | exact Kd.Q_nil _ _ _ _ _ | exact Kd.S_nil _ _ _ _ _, bel HB⟩
   have c7b0 := qF c7
   have c7b1 := nT c7
   replace H := yB H; obtain ⟨y499, Ny499, H⟩ := H
   refine iY H ?_; clear H; intro c21 H
   have LMc21 := aM c21
   clear c21
   replace H := yB H; obtain ⟨y502, Ny502, H⟩ := H
   replace H := yB H; obtain ⟨y505, Ny505, H⟩ := H
   refine iY H ?_; clear H; intro c22 H
   have LMc22 := aM c22
   clear c22
   obtain ⟨y508, Ny508⟩ := yN (y502 ++ y505 : List (S40)); rw [← Ny508.out] at H
   simp only [Option.some.injEq, Prod.mk.injEq] at H
   obtain ⟨rfl, rfl, rfl⟩ := H
   go_enter Tryz.func25, Tryz.ntmps25
   try go_wp2_with (first | ((with_reducible refine gate_dst (N := 2) rfl ?_); (try (refine gate_guard (by rfl) ?_; dsimp only)); refine bX (N := 2) rfl (cs := #[.int .i64 a0_0, .slice A0_1 l0_1.length c0_1]) (t := 28) ?_; intro gb494 hg w23 BK494 hb; have GW494 := gE hg HB; have GE494 := gE hg HB; replace HB := hS HB hb; clear hb hg) | ((with_reducible refine gate_dst (N := 3) rfl ?_); (try (refine gate_guard (by rfl) ?_; dsimp only)); refine bX (N := 3) rfl (cs := #[.int .i64 a1_0, .int .i64 a1_1, .int .i64 a1_2]) (t := 40) ?_; intro gb495 hg w24 BK495 hb; have GW495 := gE hg HB; have GE495 := gE hg HB; have NB494_495 := nbL hg BK494; have NB495_494 := nbR hg BK494; replace BK494 := bB BK494 hb; replace HB := hS HB hb; clear hb hg) | ((with_reducible refine gate_dst (N := 4) rfl ?_); (try (refine gate_guard (by rfl) ?_; dsimp only)); refine bX (N := 4) rfl (cs := #[.int .i64 0, .slice none 0 0]) (t := 28) ?_; intro gb496 hg w25 BK496 hb; have GW496 := gE hg HB; have GE496 := gE hg HB; have NB494_496 := nbL hg BK494; have NB496_494 := nbR hg BK494; have NB495_496 := nbL hg BK495; have NB496_495 := nbR hg BK495; replace BK494 := bB BK494 hb; replace BK495 := bB BK495 hb; replace HB := hS HB hb; clear hb hg; have hnb26 := NB494_495.out; have hnc26 := NB495_494.out; have hnb27 := NB494_496.out; have hnc27 := NB496_494.out; obtain ⟨hcz28_0, hcz28_1, hfz28_0, hfz28_1⟩ := hC2 BK494) | ((with_reducible refine gG 58 (some 7) rfl rfl ?_); refine gC Tryz.func58 (spec_pzGood.calls k a0_0 _ _ l0_1 true _ (cU (Kd.C_below HR0_1.out HB.out)) HC0_1.out A3.out) ?_; rintro w29 hb; replace BK494 := bB BK494 hb; replace BK495 := bB BK495 hb; replace BK496 := bB BK496 hb; replace HB := hS HB hb; clear hb; obtain ⟨hcz30_0, hcz30_1, hfz30_0, hfz30_1⟩ := hC2 BK494; have hnb31 := NB495_496.out; have hnc31 := NB496_495.out; obtain ⟨hcz32_0, hcz32_1, hcz32_2, hfz32_0, hfz32_1, hfz32_2⟩ := hC3 BK495) | (go_at_call 62; (with_reducible refine (spec_pzClue.calls k a0_0 a1_0 a1_1 a1_2 true _ A5.out).mono ?_); rintro e w33 ⟨rfl, hb⟩; replace BK494 := bB BK494 hb; replace BK495 := bB BK495 hb; replace BK496 := bB BK496 hb; replace HB := hS HB hb; clear hb; obtain ⟨hcz34_0, hcz34_1, hfz34_0, hfz34_1⟩ := hC2 BK494))
   have n0_ := aM (blk_drew BK494.out)
   have n1_ := aM (blk_drew BK495.out)
   have n2_ := aM (blk_drew BK496.out)
   have n3_ := aM (below_drew1 HB.out)
   clear BK494
   clear BK495
   clear BK496
   clear HB
   have BK494 := n0_
   have BK495 := n1_
   have BK496 := n2_
   have HB := n3_
   clear n0_ n1_ n2_ n3_
   refine start_ (n := 12) (S := fun w' => w'.cell? ⟨gb494, 0, none⟩ = some (.int .i64 a0_0) ∧ w'.cell? ⟨gb494, 1, none⟩ = some (.slice A0_1 l0_1.length c0_1) ∧ w'.cell? ⟨gb495, 0, none⟩ = some (.int .i64 a1_0) ∧ w'.cell? ⟨gb495, 1, none⟩ = some (.int .i64 a1_1) ∧ w'.cell? ⟨gb495, 2, none⟩ = some (.int .i64 a1_2)) (ds := []) (bn 12 0) (by kernel_rfl) rfl rfl ⟨(blk_cell BK494.out 0).trans rfl, (blk_cell BK494.out 1).trans rfl, (blk_cell BK495.out 0).trans rfl, (blk_cell BK495.out 1).trans rfl, (blk_cell BK495.out 2).trans rfl⟩ (fun hHeld => ?_); refine with_tabW spec_AddClue.tab3 spec_AddClue.bits3 (fun HT_ HW_ => ?_)
   generalize w33.drew = w35 at BK494 BK495 BK496 HB hHeld ⊢
   refine pU 0 (some 23) (bn 12 1) ?_
   refine pU 3 (some 26) (bn 12 9) ?_
   refine take_ (i := 1) (N := some 24) (v := ?_) (a' := ?_) (bn 12 11) rfl rfl (take_ofW HT_.out HW_.out (by kernel_rfl)) (fun _ _ _ h => h) (Or.inl ⟨by rfl, ?_⟩) hHeld ?_ ?_
   rotate_left
   ·rintro w' ⟨s0, s1, s2, s3, s4⟩
    go_simp
    with_reducible rfl
   rotate_left
   ·simp only [Act.put, List.setIfInBounds_toArray, List.set_cons_zero, List.set_cons_succ, i64_w, i32_w]
    rfl
   refine take_ (i := 4) (N := some 27) (v := ?_) (a' := ?_) (bn 12 27) rfl rfl (take_ofW HT_.out HW_.out (by kernel_rfl)) (fun _ _ _ h => h) (Or.inl ⟨by rfl, ?_⟩) hHeld ?_ ?_
   rotate_left
   ·rintro w' ⟨s0, s1, s2, s3, s4⟩
    go_simp
    with_reducible rfl
   rotate_left
   ·simp only [Act.put, List.setIfInBounds_toArray, List.set_cons_zero, List.set_cons_succ, i64_w, i32_w]
    rfl
   refine take_ (i := 6) (N := some 29) (v := ?_) (a' := ?_) (bn 12 91) rfl rfl (take_ofW HT_.out HW_.out (by kernel_rfl)) (fun _ _ _ h => h) (Or.inl ⟨by rfl, ?_⟩) hHeld ?_ ?_
   rotate_left
   ·rintro w' ⟨s0, s1, s2, s3, s4⟩
    go_simp
    with_reducible rfl
   rotate_left
   ·simp only [Act.put, List.setIfInBounds_toArray, List.set_cons_zero, List.set_cons_succ, i64_w, i32_w]
    rfl
   refine join_ (σ := Value × Value × Value) 4 #[true, true, true, true, true, true, true, true, false, false, false, false] (fun s_ => [(25, s_.1), (28, s_.2.1), (30, s_.2.2)]) (fun s_ w' => (w'.cell? ⟨gb494, 0, none⟩ = some (.int .i64 a0_0) ∧ w'.cell? ⟨gb494, 1, none⟩ = some (.slice A0_1 l0_1.length c0_1) ∧ w'.cell? ⟨gb495, 0, none⟩ = some (.int .i64 a1_0) ∧ w'.cell? ⟨gb495, 1, none⟩ = some (.int .i64 a1_1) ∧ w'.cell? ⟨gb495, 2, none⟩ = some (.int .i64 a1_2)) ∧ (Kd.R k40 40 w' w.heap.size (fun k_ => some k_ ≠ (s_.2.2 : Value).ownBlock ∧ k_ ≠ gb495) s_.2.1 y502) ∧ (Kd.R k40 40 w' w.heap.size (fun k_ => some k_ ≠ (s_.2.1 : Value).ownBlock ∧ k_ ≠ gb495) s_.2.2 y505) ∧ (w'.heap[gb494]? = some (.cells #[.int .i64 a0_0, .slice A0_1 l0_1.length c0_1] 28 (0, 0))) ∧ (w'.heap[gb495]? = some (.cells #[.int .i64 a1_0, .int .i64 a1_1, .int .i64 a1_2] 40 (0, 0))) ∧ (w'.heap[gb496]? = some (.cells #[.int .i64 0, .slice none 0 0] 28 (0, 0))) ∧ (Below w.heap.size w w')) ?_ ?_
   rotate_left
   ·intro hCont
    refine two_ (i := 2) (j := 7) (Ni := some 25) (Nj := some 30) #[true, true, true, true, true, false, true, false, false, false, false, false] #[true, true, false, true, true, false, true, true, false, false, false, false] rfl rfl rfl rfl (two_of HT_.out (by kernel_rfl)) (by decide) (by decide) (fun K hK => ?_) (fun K hK => ?_)
    ·skip
     refine Kd.R_lit_step k40 _ 40 ?hg (N := 25) ?hd (xs := ([] : List (S40))) (inner := []) (ok := fun _ => True) (okp := fun _ => True) ?hr ?hp (fun _ hk => hk) trivial (Below.refl _ _) (Nat.le_refl _) (by simp) ?_; (case hd => rfl); (case hg => rfl); (case hr => first | (go_simp; done) | (go_simp; rfl)); (case hp => exact (Reps.none _ _))
     intro v500 w36 ho37 hb hg_ hnew_
     clear hg_ hnew_
     (first | rw [← Ny499.out] at ho37 | (simp only [Int.reduceToNat] at ho37; rw [← Ny499.out] at ho37))
     have n0_ := aM (Kd.R_lower (Kd.R_newB ho37 (g := gb495) (o := .cells #[.int .i64 a1_0, .int .i64 a1_1, .int .i64 a1_2] 40 (0, 0)) (bU BK495.out)) (below_size (bel HB)))
     have n1_ := bB BK494 hb
     have n2_ := bB BK495 hb
     have n3_ := bB BK496 hb
     have n4_ := hS HB hb
     clear BK494
     clear BK495
     clear BK496
     clear HB
     have HO501 := n0_
     have BK494 := n1_
     have BK495 := n2_
     have BK496 := n3_
     have HB := n4_
     clear n0_ n1_ n2_ n3_ n4_
     clear hb ho37
     refine hK.out _ _ ⟨(blk_cell BK494.out 0).trans rfl, (blk_cell BK494.out 1).trans rfl, (blk_cell BK495.out 0).trans rfl, (blk_cell BK495.out 1).trans rfl, (blk_cell BK495.out 2).trans rfl⟩ (fun hHeld => ?_)
     clear hK K
     refine norm_ (a' := ?_) ?_ ?_
     rotate_left
     ·show Act.put _ (some 25) _ = _
      simp only [Act.put, List.setIfInBounds_toArray, List.set_cons_zero, List.set_cons_succ, i64_w, i32_w]
      rfl
     refine two_ (i := 5) (j := 7) (Ni := some 28) (Nj := some 30) #[true, true, true, true, true, true, true, false, false, false, false, false] #[true, true, true, true, true, false, true, true, false, false, false, false] rfl rfl rfl rfl (two_of HT_.out (by kernel_rfl)) (by decide) (by decide) (fun K hK => ?_) (fun K hK => ?_)
     ·skip
      refine Kd.R_append_rows_step k40 (w0 := w) w.heap.size (by rfl) (.tmp 25) (.tmp 27) 26 40 (.agg #[(.int .i64 0), (.int .i64 0), (.int .i64 0)]) 24 rfl Tryz.underlying26 info40 rfl (by decide) (by omega) v500 y499 l0_1 _ _ _ (fun k_ => k_ ≠ gb495) (fun _ => False) rfl rfl ?aO ?aR (fun _ _ h => h) (fun _ h => h.elim) ?aF ?aB ?aS ?aL ?_
      (case aR => exact cU (Kd.C_below HR0_1.out HB.out))
      (case aB => exact (bel HB))
      (case aF => exact (fun k_ hk => Kd.freshB (g := gb495) (o := .cells #[.int .i64 a1_0, .int .i64 a1_1, .int .i64 a1_2] 40 (0, 0)) (bU BK495.out) k_ hk))
      (case aO => exact (rU (Kd.R_mono HO501.out (fun _ hk => hk.2))))
      (case aS => exact (below_size (bel HB)))
      (case aL => have := LMc21.out; omega)
      intro v503 w38 ho hb hg hat
      rw [← Ny502.out] at ho
      have n0_ := aM (blk_grown (g := gb494) (o := .cells #[.int .i64 a0_0, .slice A0_1 l0_1.length c0_1] 28 (0, 0)) (bU BK494.out) hg (Kd.R_ne HO501.out BK494.out (by decide)))
      have n1_ := aM (blk_grown (g := gb495) (o := .cells #[.int .i64 a1_0, .int .i64 a1_1, .int .i64 a1_2] 40 (0, 0)) (bU BK495.out) hg (Kd.R_away HO501.out (fun _ hk => hk.2)))
      have n2_ := aM (blk_grown (g := gb496) (o := .cells #[.int .i64 0, .slice none 0 0] 28 (0, 0)) (bU BK496.out) hg (Kd.R_ne HO501.out BK496.out (by decide)))
      have n3_ := aM (hb)
      have n4_ := aM (ho)
      clear BK494
      clear BK495
      clear BK496
      clear HB
      clear HO501
      have BK494 := n0_
      have BK495 := n1_
      have BK496 := n2_
      have HB := n3_
      have HO504 := n4_
      clear n0_ n1_ n2_ n3_ n4_
      clear ho hb hg hat
      refine hK.out _ _ ⟨(blk_cell BK494.out 0).trans rfl, (blk_cell BK494.out 1).trans rfl, (blk_cell BK495.out 0).trans rfl, (blk_cell BK495.out 1).trans rfl, (blk_cell BK495.out 2).trans rfl⟩ (fun hHeld => ?_)
      clear hK K
      refine norm_ (a' := ?_) ?_ ?_
      rotate_left
      ·show Act.put _ (some 28) _ = _
       simp only [Act.put, List.setIfInBounds_toArray, List.set_cons_zero, List.set_cons_succ, i64_w, i32_w]
       rfl
      refine one_ (i := 7) (N := some 30) (bn 12 255) rfl rfl (one_of HT_.out (by kernel_rfl)) (by decide) (fun K hK => ?_)
      refine Kd.R_lit_step k40 _ 40 ?hg (N := 30) ?hd (xs := ([(⟨a1_0, a1_1, a1_2⟩ : S40)] : List (S40))) (inner := [.int .i64 a1_0, .int .i64 a1_1, .int .i64 a1_2]) (ok := fun _ => True) (okp := fun _ => True) ?hr ?hp (fun _ hk => hk) trivial (Below.refl _ _) (Nat.le_refl _) (by simp) ?_; (case hd => rfl); (case hg => rfl); (case hr => first | (go_simp; done) | (go_simp; rfl)); (case hp => exact (Reps.c3 (show Kd.M k40 _ _ _ (⟨a1_0, a1_1, a1_2⟩ : S40) [.int .i64 a1_0, .int .i64 a1_1, .int .i64 a1_2] from (k40_mkM _ _ _ (⟨a1_0, a1_1, a1_2⟩ : S40) )) (Reps.none _ _)))
      intro v506 w39 ho40 hb hg_ hnew_
      clear hg_ hnew_
      (first | rw [← Ny505.out] at ho40 | (simp only [Int.reduceToNat] at ho40; rw [← Ny505.out] at ho40))
      have n0_ := aM (Kd.R_elder' (rU HO504.out) (Kd.R_base ho40) hb)
      have n1_ := aM (Kd.R_lower (Kd.R_newB (Kd.R_new' ho40 (Kd.R_lt (rU HO504.out))) (g := gb495) (o := .cells #[.int .i64 a1_0, .int .i64 a1_1, .int .i64 a1_2] 40 (0, 0)) (bU BK495.out)) (below_size (bel HB)))
      have n2_ := bB BK494 hb
      have n3_ := bB BK495 hb
      have n4_ := bB BK496 hb
      have n5_ := hS HB hb
      clear HO504
      clear BK494
      clear BK495
      clear BK496
      clear HB
      have HO504 := n0_
      have HO507 := n1_
      have BK494 := n2_
      have BK495 := n3_
      have BK496 := n4_
      have HB := n5_
      clear n0_ n1_ n2_ n3_ n4_ n5_
      clear hb ho40
      refine hK.out _ _ ⟨(blk_cell BK494.out 0).trans rfl, (blk_cell BK494.out 1).trans rfl, (blk_cell BK495.out 0).trans rfl, (blk_cell BK495.out 1).trans rfl, (blk_cell BK495.out 2).trans rfl⟩ (fun hHeld => ?_)
      clear hK K
      refine norm_ (a' := ?_) ?_ ?_
      rotate_left
      ·show Act.put _ (some 30) _ = _
       simp only [Act.put, List.setIfInBounds_toArray, List.set_cons_zero, List.set_cons_succ, i64_w, i32_w]
       rfl
      exact norm_ (by simp only [putAll, Act.put, List.setIfInBounds_toArray, List.set_cons_zero, List.set_cons_succ]) (hCont (v500, v503, v506) _ ⟨hHeld, (rU (Kd.R_mono HO504.out (fun _ hk => ⟨hk.2, hk.1⟩))), (rU (Kd.R_mono HO507.out (fun _ hk => ⟨hk.1.2, hk.2⟩))), (bU BK494.out), (bU BK495.out), (bU BK496.out), (bel HB)⟩)
     skip
     refine Kd.R_lit_step k40 _ 40 ?hg (N := 30) ?hd (xs := ([(⟨a1_0, a1_1, a1_2⟩ : S40)] : List (S40))) (inner := [.int .i64 a1_0, .int .i64 a1_1, .int .i64 a1_2]) (ok := fun _ => True) (okp := fun _ => True) ?hr ?hp (fun _ hk => hk) trivial (Below.refl _ _) (Nat.le_refl _) (by simp) ?_; (case hd => rfl); (case hg => rfl); (case hr => first | (go_simp; done) | (go_simp; rfl)); (case hp => exact (Reps.c3 (show Kd.M k40 _ _ _ (⟨a1_0, a1_1, a1_2⟩ : S40) [.int .i64 a1_0, .int .i64 a1_1, .int .i64 a1_2] from (k40_mkM _ _ _ (⟨a1_0, a1_1, a1_2⟩ : S40) )) (Reps.none _ _)))
     intro v506 w38 ho39 hb hg_ hnew_
     clear hg_ hnew_
     (first | rw [← Ny505.out] at ho39 | (simp only [Int.reduceToNat] at ho39; rw [← Ny505.out] at ho39))
     have n0_ := aM (Kd.R_elder' (rU HO501.out) (Kd.R_base ho39) hb)
     have n1_ := aM (Kd.R_lower (Kd.R_newB (Kd.R_new' ho39 (Kd.R_lt (rU HO501.out))) (g := gb495) (o := .cells #[.int .i64 a1_0, .int .i64 a1_1, .int .i64 a1_2] 40 (0, 0)) (bU BK495.out)) (below_size (bel HB)))
     have n2_ := bB BK494 hb
     have n3_ := bB BK495 hb
     have n4_ := bB BK496 hb
     have n5_ := hS HB hb
     clear HO501
     clear BK494
     clear BK495
     clear BK496
     clear HB
     have HO501 := n0_
     have HO507 := n1_
     have BK494 := n2_
     have BK495 := n3_
     have BK496 := n4_
     have HB := n5_
     clear n0_ n1_ n2_ n3_ n4_ n5_
     clear hb ho39
     refine hK.out _ _ ⟨(blk_cell BK494.out 0).trans rfl, (blk_cell BK494.out 1).trans rfl, (blk_cell BK495.out 0).trans rfl, (blk_cell BK495.out 1).trans rfl, (blk_cell BK495.out 2).trans rfl⟩ (fun hHeld => ?_)
     clear hK K
     refine norm_ (a' := ?_) ?_ ?_
     rotate_left
     ·show Act.put _ (some 30) _ = _
      simp only [Act.put, List.setIfInBounds_toArray, List.set_cons_zero, List.set_cons_succ, i64_w, i32_w]
      rfl
     refine one_ (i := 5) (N := some 28) (bn 12 255) rfl rfl (one_of HT_.out (by kernel_rfl)) (by decide) (fun K hK => ?_)
     refine Kd.R_append_rows_step k40 (w0 := w) w.heap.size (by rfl) (.tmp 25) (.tmp 27) 26 40 (.agg #[(.int .i64 0), (.int .i64 0), (.int .i64 0)]) 24 rfl Tryz.underlying26 info40 rfl (by decide) (by omega) v500 y499 l0_1 _ _ _ (fun k_ => some k_ ≠ (v506 : Value).ownBlock ∧ k_ ≠ gb495) (fun _ => False) rfl rfl ?aO ?aR (fun _ _ h => h) (fun _ h => h.elim) ?aF ?aB ?aS ?aL ?_
     (case aR => exact cU (Kd.C_below HR0_1.out HB.out))
     (case aB => exact (bel HB))
     (case aF => exact (fun k_ hk => ⟨Kd.fresh' (Kd.R_lt (rU HO507.out)) k_ hk, Kd.freshB (g := gb495) (o := .cells #[.int .i64 a1_0, .int .i64 a1_1, .int .i64 a1_2] 40 (0, 0)) (bU BK495.out) k_ hk⟩))
     (case aO => exact (rU (Kd.R_mono HO501.out (fun _ hk => ⟨hk.2, hk.1.2⟩))))
     (case aS => exact (below_size (bel HB)))
     (case aL => have := LMc21.out; omega)
     intro v503 w40 ho hb hg hat
     rw [← Ny502.out] at ho
     have n0_ := aM (blk_grown (g := gb494) (o := .cells #[.int .i64 a0_0, .slice A0_1 l0_1.length c0_1] 28 (0, 0)) (bU BK494.out) hg (Kd.R_ne HO501.out BK494.out (by decide)))
     have n1_ := aM (blk_grown (g := gb495) (o := .cells #[.int .i64 a1_0, .int .i64 a1_1, .int .i64 a1_2] 40 (0, 0)) (bU BK495.out) hg (Kd.R_away HO501.out (fun _ hk => hk.1.2)))
     have n2_ := aM (blk_grown (g := gb496) (o := .cells #[.int .i64 0, .slice none 0 0] 28 (0, 0)) (bU BK496.out) hg (Kd.R_ne HO501.out BK496.out (by decide)))
     have n3_ := aM (Kd.R_after (ok := (fun k_ => k_ ≠ gb495)) (rU (Kd.R_mono HO507.out (fun _ hk => ⟨hk.2, hk.1.2⟩))) hg hat)
     have n4_ := aM (hb)
     have n5_ := aM (ho)
     clear BK494
     clear BK495
     clear BK496
     clear HO507
     clear HB
     clear HO501
     have BK494 := n0_
     have BK495 := n1_
     have BK496 := n2_
     have HO507 := n3_
     have HB := n4_
     have HO504 := n5_
     clear n0_ n1_ n2_ n3_ n4_ n5_
     clear ho hb hg hat
     refine hK.out _ _ ⟨(blk_cell BK494.out 0).trans rfl, (blk_cell BK494.out 1).trans rfl, (blk_cell BK495.out 0).trans rfl, (blk_cell BK495.out 1).trans rfl, (blk_cell BK495.out 2).trans rfl⟩ (fun hHeld => ?_)
     clear hK K
     refine norm_ (a' := ?_) ?_ ?_
     rotate_left
     ·show Act.put _ (some 28) _ = _
      simp only [Act.put, List.setIfInBounds_toArray, List.set_cons_zero, List.set_cons_succ, i64_w, i32_w]
      rfl
     exact norm_ (by simp only [putAll, Act.put, List.setIfInBounds_toArray, List.set_cons_zero, List.set_cons_succ]) (hCont (v500, v503, v506) _ ⟨hHeld, (rU HO504.out), (rU (Kd.R_mono HO507.out (fun _ hk => ⟨hk.2, hk.1⟩))), (bU BK494.out), (bU BK495.out), (bU BK496.out), (bel HB)⟩)
    skip
    refine Kd.R_lit_step k40 _ 40 ?hg (N := 30) ?hd (xs := ([(⟨a1_0, a1_1, a1_2⟩ : S40)] : List (S40))) (inner := [.int .i64 a1_0, .int .i64 a1_1, .int .i64 a1_2]) (ok := fun _ => True) (okp := fun _ => True) ?hr ?hp (fun _ hk => hk) trivial (Below.refl _ _) (Nat.le_refl _) (by simp) ?_; (case hd => rfl); (case hg => rfl); (case hr => first | (go_simp; done) | (go_simp; rfl)); (case hp => exact (Reps.c3 (show Kd.M k40 _ _ _ (⟨a1_0, a1_1, a1_2⟩ : S40) [.int .i64 a1_0, .int .i64 a1_1, .int .i64 a1_2] from (k40_mkM _ _ _ (⟨a1_0, a1_1, a1_2⟩ : S40) )) (Reps.none _ _)))
    intro v506 w36 ho37 hb hg_ hnew_
    clear hg_ hnew_
    (first | rw [← Ny505.out] at ho37 | (simp only [Int.reduceToNat] at ho37; rw [← Ny505.out] at ho37))
    have n0_ := aM (Kd.R_lower (Kd.R_newB ho37 (g := gb495) (o := .cells #[.int .i64 a1_0, .int .i64 a1_1, .int .i64 a1_2] 40 (0, 0)) (bU BK495.out)) (below_size (bel HB)))
    have n1_ := bB BK494 hb
    have n2_ := bB BK495 hb
    have n3_ := bB BK496 hb
    have n4_ := hS HB hb
    clear BK494
    clear BK495
    clear BK496
    clear HB
    have HO507 := n0_
    have BK494 := n1_
    have BK495 := n2_
    have BK496 := n3_
    have HB := n4_
    clear n0_ n1_ n2_ n3_ n4_
    clear hb ho37
    refine hK.out _ _ ⟨(blk_cell BK494.out 0).trans rfl, (blk_cell BK494.out 1).trans rfl, (blk_cell BK495.out 0).trans rfl, (blk_cell BK495.out 1).trans rfl, (blk_cell BK495.out 2).trans rfl⟩ (fun hHeld => ?_)
    clear hK K
    refine norm_ (a' := ?_) ?_ ?_
    rotate_left
    ·show Act.put _ (some 30) _ = _
     simp only [Act.put, List.setIfInBounds_toArray, List.set_cons_zero, List.set_cons_succ, i64_w, i32_w]
     rfl
    refine one_ (i := 2) (N := some 25) (bn 12 223) rfl rfl (one_of HT_.out (by kernel_rfl)) (by decide) (fun K hK => ?_)
    refine Kd.R_lit_step k40 _ 40 ?hg (N := 25) ?hd (xs := ([] : List (S40))) (inner := []) (ok := fun _ => True) (okp := fun _ => True) ?hr ?hp (fun _ hk => hk) trivial (Below.refl _ _) (Nat.le_refl _) (by simp) ?_; (case hd => rfl); (case hg => rfl); (case hr => first | (go_simp; done) | (go_simp; rfl)); (case hp => exact (Reps.none _ _))
    intro v500 w38 ho39 hb hg_ hnew_
    clear hg_ hnew_
    (first | rw [← Ny499.out] at ho39 | (simp only [Int.reduceToNat] at ho39; rw [← Ny499.out] at ho39))
    have n0_ := aM (Kd.R_elder' (rU HO507.out) (Kd.R_base ho39) hb)
    have n1_ := aM (Kd.R_lower (Kd.R_newB (Kd.R_new' ho39 (Kd.R_lt (rU HO507.out))) (g := gb495) (o := .cells #[.int .i64 a1_0, .int .i64 a1_1, .int .i64 a1_2] 40 (0, 0)) (bU BK495.out)) (below_size (bel HB)))
    have n2_ := bB BK494 hb
    have n3_ := bB BK495 hb
    have n4_ := bB BK496 hb
    have n5_ := hS HB hb
    clear HO507
    clear BK494
    clear BK495
    clear BK496
    clear HB
    have HO507 := n0_
    have HO501 := n1_
    have BK494 := n2_
    have BK495 := n3_
    have BK496 := n4_
    have HB := n5_
    clear n0_ n1_ n2_ n3_ n4_ n5_
    clear hb ho39
    refine hK.out _ _ ⟨(blk_cell BK494.out 0).trans rfl, (blk_cell BK494.out 1).trans rfl, (blk_cell BK495.out 0).trans rfl, (blk_cell BK495.out 1).trans rfl, (blk_cell BK495.out 2).trans rfl⟩ (fun hHeld => ?_)
    clear hK K
    refine norm_ (a' := ?_) ?_ ?_
    rotate_left
    ·show Act.put _ (some 25) _ = _
     simp only [Act.put, List.setIfInBounds_toArray, List.set_cons_zero, List.set_cons_succ, i64_w, i32_w]
     rfl
    refine one_ (i := 5) (N := some 28) (bn 12 255) rfl rfl (one_of HT_.out (by kernel_rfl)) (by decide) (fun K hK => ?_)
    refine Kd.R_append_rows_step k40 (w0 := w) w.heap.size (by rfl) (.tmp 25) (.tmp 27) 26 40 (.agg #[(.int .i64 0), (.int .i64 0), (.int .i64 0)]) 24 rfl Tryz.underlying26 info40 rfl (by decide) (by omega) v500 y499 l0_1 _ _ _ (fun k_ => some k_ ≠ (v506 : Value).ownBlock ∧ k_ ≠ gb495) (fun _ => False) rfl rfl ?aO ?aR (fun _ _ h => h) (fun _ h => h.elim) ?aF ?aB ?aS ?aL ?_
    (case aR => exact cU (Kd.C_below HR0_1.out HB.out))
    (case aB => exact (bel HB))
    (case aF => exact (fun k_ hk => ⟨Kd.fresh' (Kd.R_lt (rU HO507.out)) k_ hk, Kd.freshB (g := gb495) (o := .cells #[.int .i64 a1_0, .int .i64 a1_1, .int .i64 a1_2] 40 (0, 0)) (bU BK495.out) k_ hk⟩))
    (case aO => exact (rU (Kd.R_mono HO501.out (fun _ hk => ⟨hk.1.2, hk.2⟩))))
    (case aS => exact (below_size (bel HB)))
    (case aL => have := LMc21.out; omega)
    intro v503 w40 ho hb hg hat
    rw [← Ny502.out] at ho
    have n0_ := aM (blk_grown (g := gb494) (o := .cells #[.int .i64 a0_0, .slice A0_1 l0_1.length c0_1] 28 (0, 0)) (bU BK494.out) hg (Kd.R_ne HO501.out BK494.out (by decide)))
    have n1_ := aM (blk_grown (g := gb495) (o := .cells #[.int .i64 a1_0, .int .i64 a1_1, .int .i64 a1_2] 40 (0, 0)) (bU BK495.out) hg (Kd.R_away HO501.out (fun _ hk => hk.2)))
    have n2_ := aM (blk_grown (g := gb496) (o := .cells #[.int .i64 0, .slice none 0 0] 28 (0, 0)) (bU BK496.out) hg (Kd.R_ne HO501.out BK496.out (by decide)))
    have n3_ := aM (Kd.R_after (ok := (fun k_ => k_ ≠ gb495)) (rU (Kd.R_mono HO507.out (fun _ hk => ⟨hk.1.2, hk.2⟩))) hg hat)
    have n4_ := aM (hb)
    have n5_ := aM (ho)
    clear BK494
    clear BK495
    clear BK496
    clear HO507
    clear HB
    clear HO501
    have BK494 := n0_
    have BK495 := n1_
    have BK496 := n2_
    have HO507 := n3_
    have HB := n4_
    have HO504 := n5_
    clear n0_ n1_ n2_ n3_ n4_ n5_
    clear ho hb hg hat
    refine hK.out _ _ ⟨(blk_cell BK494.out 0).trans rfl, (blk_cell BK494.out 1).trans rfl, (blk_cell BK495.out 0).trans rfl, (blk_cell BK495.out 1).trans rfl, (blk_cell BK495.out 2).trans rfl⟩ (fun hHeld => ?_)
    clear hK K
    refine norm_ (a' := ?_) ?_ ?_
    rotate_left
    ·show Act.put _ (some 28) _ = _
     simp only [Act.put, List.setIfInBounds_toArray, List.set_cons_zero, List.set_cons_succ, i64_w, i32_w]
     rfl
    exact norm_ (by simp only [putAll, Act.put, List.setIfInBounds_toArray, List.set_cons_zero, List.set_cons_succ]) (hCont (v500, v503, v506) _ ⟨hHeld, (rU HO504.out), (rU (Kd.R_mono HO507.out (fun _ hk => ⟨hk.2, hk.1⟩))), (bU BK494.out), (bU BK495.out), (bU BK496.out), (bel HB)⟩)
   rintro ⟨v500, v503, v506⟩ w41 ⟨hS_, h0_, h1_, h2_, h3_, h4_, h5_⟩
   have n0_ : Aside0 (Kd.R k40 40 w41 w.heap.size (fun k_ => some k_ ≠ (v506 : Value).ownBlock ∧ k_ ≠ gb495) v503 y502) := ⟨h0_⟩
   have n1_ : Aside0 (Kd.R k40 40 w41 w.heap.size (fun k_ => some k_ ≠ (v503 : Value).ownBlock ∧ k_ ≠ gb495) v506 y505) := ⟨h1_⟩
   have n2_ : Aside0 (w41.heap[gb494]? = some (.cells #[.int .i64 a0_0, .slice A0_1 l0_1.length c0_1] 28 (0, 0))) := ⟨h2_⟩
   have n3_ : Aside0 (w41.heap[gb495]? = some (.cells #[.int .i64 a1_0, .int .i64 a1_1, .int .i64 a1_2] 40 (0, 0))) := ⟨h3_⟩
   have n4_ : Aside0 (w41.heap[gb496]? = some (.cells #[.int .i64 0, .slice none 0 0] 28 (0, 0))) := ⟨h4_⟩
   have n5_ : Aside0 (Below w.heap.size w w41) := ⟨h5_⟩
   clear BK494
   clear BK495
   clear BK496
   clear HB
   clear h0_ h1_ h2_ h3_ h4_ h5_
   have HO504 := n0_
   have HO507 := n1_
   have BK494 := n2_
   have BK495 := n3_
   have BK496 := n4_
   have HB := n5_
   clear n0_ n1_ n2_ n3_ n4_ n5_
   have hHeld : w41.cell? ⟨gb494, 0, none⟩ = some (.int .i64 a0_0) ∧ w41.cell? ⟨gb494, 1, none⟩ = some (.slice A0_1 l0_1.length c0_1) ∧ w41.cell? ⟨gb495, 0, none⟩ = some (.int .i64 a1_0) ∧ w41.cell? ⟨gb495, 1, none⟩ = some (.int .i64 a1_1) ∧ w41.cell? ⟨gb495, 2, none⟩ = some (.int .i64 a1_2) := hS_
   obtain ⟨Ao43, co43, eo43⟩ := Kd.R_slice HO507.out
   (first | subst eo43 | (injection eo43 with f1_ f2_ f3_; have f4_ := f1_.symm; have f5_ := f3_.symm; clear f1_ f2_ f3_; subst f4_; subst f5_))
   refine norm_ (a' := ?_) ?_ ?_
   rotate_left
   ·simp only [putAll, Act.put, List.setIfInBounds_toArray, List.set_cons_zero, List.set_cons_succ]
    rfl
   refine one_ (i := 8) (N := some 31) (bn 12 511) rfl rfl (one_of HT_.out (by kernel_rfl)) (by decide) (fun K hK => ?_)
   refine Kd.R_append_rows_step k40 (w0 := w) w.heap.size (by rfl) (.tmp 28) (.tmp 30) 26 40 (.agg #[(.int .i64 0), (.int .i64 0), (.int .i64 0)]) 24 rfl Tryz.underlying26 info40 rfl (by decide) (by omega) v503 y502 y505 _ _ _ (fun k_ => some k_ ≠ (.slice Ao43 y505.length co43 : Value).ownBlock ∧ k_ ≠ gb495) (fun _ => False) rfl rfl ?aO ?aR (fun _ _ h => h) (fun _ h => h.elim) ?aF ?aB ?aS ?aL ?_
   (case aR => exact cU ((Kd.R_reads' HO507.out).2.2))
   (case aB => exact (bel HB))
   (case aF => exact (fun k_ hk => ⟨Kd.fresh' (Kd.R_lt (rU HO507.out)) k_ hk, Kd.freshB (g := gb495) (o := .cells #[.int .i64 a1_0, .int .i64 a1_1, .int .i64 a1_2] 40 (0, 0)) (bU BK495.out) k_ hk⟩))
   (case aO => exact (rU HO504.out))
   (case aS => exact (below_size (bel HB)))
   (case aL => have := LMc22.out; omega)
   intro v509 w42 ho hb hg hat
   rw [← Ny508.out] at ho
   have n0_ := aM (blk_grown (g := gb494) (o := .cells #[.int .i64 a0_0, .slice A0_1 l0_1.length c0_1] 28 (0, 0)) (bU BK494.out) hg (Kd.R_ne HO504.out BK494.out (by decide)))
   have n1_ := aM (blk_grown (g := gb495) (o := .cells #[.int .i64 a1_0, .int .i64 a1_1, .int .i64 a1_2] 40 (0, 0)) (bU BK495.out) hg (Kd.R_away HO504.out (fun _ hk => hk.2)))
   have n2_ := aM (blk_grown (g := gb496) (o := .cells #[.int .i64 0, .slice none 0 0] 28 (0, 0)) (bU BK496.out) hg (Kd.R_ne HO504.out BK496.out (by decide)))
   have n3_ := aM (Kd.R_after (ok := (fun k_ => k_ ≠ gb495)) (rU (Kd.R_mono HO507.out (fun _ hk => ⟨hk.2, hk.1⟩))) hg hat)
   have n4_ := aM (hb)
   have n5_ := aM (ho)
   clear BK494
   clear BK495
   clear BK496
   clear HO507
   clear HB
   clear HO504
   have BK494 := n0_
   have BK495 := n1_
   have BK496 := n2_
   have HO507 := n3_
   have HB := n4_
   have HO510 := n5_
   clear n0_ n1_ n2_ n3_ n4_ n5_
   clear ho hb hg hat
   obtain ⟨Ao44, co44, eo44⟩ := Kd.R_slice HO510.out
   (first | subst eo44 | (injection eo44 with f1_ f2_ f3_; have f4_ := f1_.symm; have f5_ := f3_.symm; clear f1_ f2_ f3_; subst f4_; subst f5_))
   refine hK.out _ _ ⟨(blk_cell BK494.out 0).trans rfl, (blk_cell BK494.out 1).trans rfl, (blk_cell BK495.out 0).trans rfl, (blk_cell BK495.out 1).trans rfl, (blk_cell BK495.out 2).trans rfl⟩ (fun hHeld => ?_)
   clear hK K
   refine norm_ (a' := ?_) ?_ ?_
   rotate_left
   ·show Act.put _ (some 31) _ = _
    simp only [Act.put, List.setIfInBounds_toArray, List.set_cons_zero, List.set_cons_succ, i64_w, i32_w]
    rfl
   refine pU 9 (some 32) (bn 12 1023) ?_
   refine one_ (i := 10) (N := none) (bn 12 2047) rfl rfl (one_of HT_.out (by kernel_rfl)) (by decide) (fun K hK => ?_)
   have hs45 : w42.cell? ⟨gb496, 0, none⟩ = some (.int .i64 0) := (blk_cell BK496.out 0).trans rfl
   have hfs45 := blk_frozen BK496.out 0
   have hns45_0 := NB494_496.out
   have hns45_1 := NB495_496.out
   have hms45_0 := NB496_494.out
   have hms45_1 := NB496_495.out
   have hs46 : w42.cell? ⟨gb496, 1, none⟩ = some (.slice none 0 0) := (blk_cell BK496.out 1).trans rfl
   have hfs46 := blk_frozen BK496.out 1
   have hns46_0 := NB494_496.out
   have hns46_1 := NB495_496.out
   have hms46_0 := NB496_494.out
   have hms46_1 := NB496_495.out
   refine skip_ (w1 := ?_) (by rfl) rfl ?_ ?_
   rotate_left
   ·go_simp
    rfl
   refine hK.out _ _ ⟨((cell_far (p := ⟨gb496, _, none⟩) NB494_496.out _).trans (((cell_far (p := ⟨gb496, _, none⟩) NB494_496.out _).trans (hHeld.1)))), ((cell_far (p := ⟨gb496, _, none⟩) NB494_496.out _).trans (((cell_far (p := ⟨gb496, _, none⟩) NB494_496.out _).trans (hHeld.2.1)))), ((cell_far (p := ⟨gb496, _, none⟩) NB495_496.out _).trans (((cell_far (p := ⟨gb496, _, none⟩) NB495_496.out _).trans (hHeld.2.2.1)))), ((cell_far (p := ⟨gb496, _, none⟩) NB495_496.out _).trans (((cell_far (p := ⟨gb496, _, none⟩) NB495_496.out _).trans (hHeld.2.2.2.1)))), ((cell_far (p := ⟨gb496, _, none⟩) NB495_496.out _).trans (((cell_far (p := ⟨gb496, _, none⟩) NB495_496.out _).trans (hHeld.2.2.2.2))))⟩ (fun hHeld => ?_)
   clear hK K
   refine pU 11 (some 5) (bn 12 4095) ?_
   refine done_ (done_of HT_.out (by kernel_rfl)) ?_
   try go_wp2
   refine bodyPost_ret (results_ct rfl _ _ gb496 28 #[.int .i64 a0_0, .slice Ao44 y508.length co44] (0, 0) _ rfl (bP2 BK496) Tryz.underlying28 rfl (by kernel_rfl)) rfl ?_
   exact ⟨_, eW, rU (Kd.R_mono (Kd.R_far (p := ⟨gb496, 1, none⟩) (Kd.R_far (p := ⟨gb496, 0, none⟩) (Kd.R_types HO510.out BK496.out (by decide)) (fun _ hk => hk.2) (.int .i64 a0_0)) (fun _ hk => hk.2) (.slice Ao44 y508.length co44)) (fun _ hk => trivial)), bel HB⟩
  simp only [Option.some.injEq, Prod.mk.injEq] at H
  obtain ⟨rfl, rfl, rfl⟩ := H
  go_enter Tryz.func25, Tryz.ntmps25
  go_wp2_with (first | ((with_reducible refine gate_dst (N := 2) rfl ?_); (try (refine gate_guard (by rfl) ?_; dsimp only)); refine bX (N := 2) rfl (cs := #[.int .i64 a0_0, .slice A0_1 l0_1.length c0_1]) (t := 28) ?_; intro gb494 hg w47 BK494 hb; have GW494 := gE hg HB; have GE494 := gE hg HB; replace HB := hS HB hb; clear hb hg) | ((with_reducible refine gate_dst (N := 3) rfl ?_); (try (refine gate_guard (by rfl) ?_; dsimp only)); refine bX (N := 3) rfl (cs := #[.int .i64 a1_0, .int .i64 a1_1, .int .i64 a1_2]) (t := 40) ?_; intro gb495 hg w48 BK495 hb; have GW495 := gE hg HB; have GE495 := gE hg HB; have NB494_495 := nbL hg BK494; have NB495_494 := nbR hg BK494; replace BK494 := bB BK494 hb; replace HB := hS HB hb; clear hb hg) | ((with_reducible refine gate_dst (N := 4) rfl ?_); (try (refine gate_guard (by rfl) ?_; dsimp only)); refine bX (N := 4) rfl (cs := #[.int .i64 0, .slice none 0 0]) (t := 28) ?_; intro gb496 hg w49 BK496 hb; have GW496 := gE hg HB; have GE496 := gE hg HB; have NB494_496 := nbL hg BK494; have NB496_494 := nbR hg BK494; have NB495_496 := nbL hg BK495; have NB496_495 := nbR hg BK495; replace BK494 := bB BK494 hb; replace BK495 := bB BK495 hb; replace HB := hS HB hb; clear hb hg; have hnb50 := NB494_495.out; have hnc50 := NB495_494.out; have hnb51 := NB494_496.out; have hnc51 := NB496_494.out; obtain ⟨hcz52_0, hcz52_1, hfz52_0, hfz52_1⟩ := hC2 BK494) | ((with_reducible refine gG 58 (some 7) rfl rfl ?_); refine gC Tryz.func58 (spec_pzGood.calls k a0_0 _ _ l0_1 true _ (cU (Kd.C_below HR0_1.out HB.out)) HC0_1.out A3.out) ?_; rintro w53 hb; replace BK494 := bB BK494 hb; replace BK495 := bB BK495 hb; replace BK496 := bB BK496 hb; replace HB := hS HB hb; clear hb; obtain ⟨hcz54_0, hcz54_1, hfz54_0, hfz54_1⟩ := hC2 BK494; have hnb55 := NB495_496.out; have hnc55 := NB496_495.out; obtain ⟨hcz56_0, hcz56_1, hcz56_2, hfz56_0, hfz56_1, hfz56_2⟩ := hC3 BK495) | (go_at_call 62; (with_reducible refine (spec_pzClue.calls k a0_0 a1_0 a1_1 a1_2 false _ A5.out).mono ?_); rintro e w57 ⟨rfl, hb⟩; replace BK494 := bB BK494 hb; replace BK495 := bB BK495 hb; replace BK496 := bB BK496 hb; replace HB := hS HB hb; clear hb; obtain ⟨hcz58_0, hcz58_1, hfz58_0, hfz58_1⟩ := hC2 BK496))
  refine bodyPost_ret (results_ct rfl _ _ gb496 28 #[.int .i64 0, .slice none 0 0] (0, 0) _ rfl (bP2 BK496) Tryz.underlying28 rfl (by kernel_rfl)) rfl ?_
  exact ⟨_, eW, by first | exact Kd.R_nil _ _ _ _ _ | exact Kd.N_nil _ _ _ _ _ | exact Kd.V_nil _ _ _ _ _ | exact Kd.Q_nil _ _ _ _ _ | exact Kd.S_nil _ _ _ _ _, bel HB⟩
 simp only [Option.some.injEq, Prod.mk.injEq] at H
 obtain ⟨rfl, rfl, rfl⟩ := H
 go_enter Tryz.func25, Tryz.ntmps25
 go_wp2_with (first | ((with_reducible refine gate_dst (N := 2) rfl ?_); (try (refine gate_guard (by rfl) ?_; dsimp only)); refine bX (N := 2) rfl (cs := #[.int .i64 a0_0, .slice A0_1 l0_1.length c0_1]) (t := 28) ?_; intro gb494 hg w59 BK494 hb; have GW494 := gE hg HB; have GE494 := gE hg HB; replace HB := hS HB hb; clear hb hg) | ((with_reducible refine gate_dst (N := 3) rfl ?_); (try (refine gate_guard (by rfl) ?_; dsimp only)); refine bX (N := 3) rfl (cs := #[.int .i64 a1_0, .int .i64 a1_1, .int .i64 a1_2]) (t := 40) ?_; intro gb495 hg w60 BK495 hb; have GW495 := gE hg HB; have GE495 := gE hg HB; have NB494_495 := nbL hg BK494; have NB495_494 := nbR hg BK494; replace BK494 := bB BK494 hb; replace HB := hS HB hb; clear hb hg) | ((with_reducible refine gate_dst (N := 4) rfl ?_); (try (refine gate_guard (by rfl) ?_; dsimp only)); refine bX (N := 4) rfl (cs := #[.int .i64 0, .slice none 0 0]) (t := 28) ?_; intro gb496 hg w61 BK496 hb; have GW496 := gE hg HB; have GE496 := gE hg HB; have NB494_496 := nbL hg BK494; have NB496_494 := nbR hg BK494; have NB495_496 := nbL hg BK495; have NB496_495 := nbR hg BK495; replace BK494 := bB BK494 hb; replace BK495 := bB BK495 hb; replace HB := hS HB hb; clear hb hg; have hnb62 := NB494_495.out; have hnc62 := NB495_494.out; have hnb63 := NB494_496.out; have hnc63 := NB496_494.out; obtain ⟨hcz64_0, hcz64_1, hfz64_0, hfz64_1⟩ := hC2 BK494) | ((with_reducible refine gG 58 (some 7) rfl rfl ?_); refine gC Tryz.func58 (spec_pzGood.calls k a0_0 _ _ l0_1 false _ (cU (Kd.C_below HR0_1.out HB.out)) HC0_1.out A3.out) ?_; rintro w65 hb; replace BK494 := bB BK494 hb; replace BK495 := bB BK495 hb; replace BK496 := bB BK496 hb; replace HB := hS HB hb; clear hb; have hnb66 := NB496_495.out; have hnc66 := NB495_496.out; obtain ⟨hcz67_0, hcz67_1, hfz67_0, hfz67_1⟩ := hC2 BK496))
 refine bodyPost_ret (results_ct rfl _ _ gb496 28 #[.int .i64 0, .slice none 0 0] (0, 0) _ rfl (bP2 BK496) Tryz.underlying28 rfl (by kernel_rfl)) rfl ?_
 exact ⟨_, eW, by first | exact Kd.R_nil _ _ _ _ _ | exact Kd.N_nil _ _ _ _ _ | exact Kd.V_nil _ _ _ _ _ | exact Kd.Q_nil _ _ _ _ _ | exact Kd.S_nil _ _ _ _ _, bel HB⟩

/-! ### spec_DrawDropClue: function 26 -/
def spec_DrawDropClue.f (k : Nat) (l0 : List Int) : Option (Int × (List (S40)) × Int) := (spec_l1Cur_puzzle.f k l0 0 0).bind fun bt513 => ((spec_l1Cur_pick.f l0 bt513.2.2.1 bt513.2.2.2 6).bind fun bt519 => ((spec_l1Cur_pick.f l0 bt519.2.1 bt519.2.2 9).bind fun bt522 => (some (bt513.1, bt513.2.1, wrap64 (bt519.1 - (wrap64 (Int.tdiv bt522.1 8)))))))
instance spec_DrawDropClue.mI (k : Nat) : Mo (spec_DrawDropClue.f k) (spec_DrawDropClue.f (k + 1)) := by
 (repeat refine mE fun _ => ?_); unfold spec_DrawDropClue.f; exact mG
theorem spec_DrawDropClue.mono : ∀ a0 k, LeO (spec_DrawDropClue.f k a0) (spec_DrawDropClue.f (k + 1) a0) := fun a0 k => (spec_DrawDropClue.mI k).out a0
set_option maxHeartbeats 8000000 in
set_option maxRecDepth 100000 in
theorem spec_DrawDropClue.calls (k : Nat) (A0 : Option Addr) (c0 : Nat) (l0 : List Int) (r1 : Int) (r2 : List (S40)) (r3 : Int) (w : World) (hr0 : Kd.C (Kd.int .u8) w A0 l0.length l0) (hc0 : l0.length ≤ c0) (h : spec_DrawDropClue.f k l0 = some (r1, r2, r3)) :
  Calls Tryz.prog 26 #[.slice A0 l0.length c0] w fun e w' => ∃ v1_ : Value, e = .returned (.tuple #[.agg #[.int .i64 r1, v1_], .int .i64 r3]) ∧ Kd.R k40 40 w' w.heap.size (fun _ => True) v1_ r2 ∧ Below w.heap.size w w' := by
 have hu28 := Tryz.underlying28
 have hu66 := Tryz.underlying66
 have HR0 := aM hr0
 have HC0 := aM hc0
 clear hr0 hc0
 have HB := aM (Below.refl w.heap.size w)
 have H := h
 clear h; unfold spec_DrawDropClue.f at H
 replace H := bC H; obtain ⟨⟨t513, t514, t517, t518⟩, A2, H⟩ := H; try dsimp only at H
 replace H := bC H; obtain ⟨⟨t519, t520, t521⟩, A3, H⟩ := H; try dsimp only at H
 replace H := bC H; obtain ⟨⟨t522, t523, t524⟩, A4, H⟩ := H; try dsimp only at H
 simp only [Option.some.injEq, Prod.mk.injEq] at H
 obtain ⟨rfl, rfl, rfl⟩ := H
 go_enter Tryz.func26, Tryz.ntmps26
 go_wp2_with (first | (refine bX (N := 2) rfl (cs := #[.int .i64 0, .slice none 0 0]) (t := 28) ?_; intro gb511 hg w5 BK511 hb; have GW511 := gE hg HB; have GE511 := gE hg HB; replace HB := hS HB hb; clear hb hg) | ((with_reducible refine gate_dst (N := 7) rfl ?_); refine box_event ?hg (N := 7) ?hd (cs := #[.slice A0 l0.length c0, .int .i64 0, .int .u64 0]) (t := 66) ?hr ?_; (case hd => rfl); (case hg => rfl); (case hr => first | (go_simp; done) | (go_simp; rfl)); intro gb512 hg w6 hbox hb; have HI512 := sS66 ((show IsS66 w w6 gb512 l0 0 0 from ⟨_, _, hbox, (by rw [hg]; exact (below_size (bel HB)) : w.heap.size ≤ gb512), HR0.out⟩)); have GI_HI512 := IsS66.geI HI512; have NB512_511 := nbR hg BK511; have NB511_512 := nbL hg BK511; replace BK511 := bB BK511 hb; replace HB := hS HB hb; clear hb hbox hg) | ((with_reducible refine gG 55 (some 9) rfl rfl ?_); refine gD Tryz.func55 (spec_l1Cur_puzzle.calls k gb512 l0 0 0 t513 t514 t517 t518 w _ tS66 (bel HB) A2.out) ?_; rintro w7 v515 ⟨ho0, hi, hb, hk⟩; have HO516 := rL ho0 HB; replace BK511 := aM (KeepBut.blk hk (g' := gb511) (o := .cells #[.int .i64 0, .slice none 0 0] 28 (0, 0)) (bU BK511.out) NB511_512.out (by simp)); replace HB := aM (hb); replace HI512 := sS66 (hi); clear hb hk hi ho0) | ((with_reducible refine gG 38 (some 11) rfl rfl ?_); refine gC Tryz.func38 (spec_l1Cur_pick.calls gb512 l0 t517 t518 6 t519 t520 t521 w _ tS66 (bel HB) A3.out) ?_; rintro w8 ⟨hi, hb, hk⟩; replace BK511 := aM (KeepBut.blk hk (g' := gb511) (o := .cells #[.int .i64 0, .slice none 0 0] 28 (0, 0)) (bU BK511.out) NB511_512.out (by simp)); replace HO516 := aM (Kd.R_mono (Kd.R_keep (IsS66.apart (show IsS66 w _ gb512 l0 t517 t518 from tS66) (rU HO516.out) (by decide)) hk (fun _ h => h.2)) (fun _ h => h.1)); replace HB := aM (hb); replace HI512 := sS66 (hi); clear hb hk hi) | ((with_reducible refine gG 38 (some 13) rfl rfl ?_); refine gC Tryz.func38 (spec_l1Cur_pick.calls gb512 l0 t520 t521 9 t522 t523 t524 w _ tS66 (bel HB) A4.out) ?_; rintro w9 ⟨hi, hb, hk⟩; replace BK511 := aM (KeepBut.blk hk (g' := gb511) (o := .cells #[.int .i64 0, .slice none 0 0] 28 (0, 0)) (bU BK511.out) NB511_512.out (by simp)); replace HO516 := aM (Kd.R_mono (Kd.R_keep (IsS66.apart (show IsS66 w _ gb512 l0 t520 t521 from tS66) (rU HO516.out) (by decide)) hk (fun _ h => h.2)) (fun _ h => h.1)); replace HB := aM (hb); replace HI512 := sS66 (hi); clear hb hk hi; have hnb10 := NB511_512.out; have hnc10 := NB512_511.out; obtain ⟨hcz11_0, hcz11_1, hfz11_0, hfz11_1⟩ := hC2 BK511; obtain ⟨Ao12, co12, eo12⟩ := Kd.R_slice HO516.out; subst eo12))
 refine bodyPost_ret (results_ct rfl _ _ gb511 28 #[.int .i64 t513, .slice Ao12 t514.length co12] (0, 0) _ rfl (bP2 BK511) Tryz.underlying28 rfl (by kernel_rfl)) rfl ?_
 exact ⟨_, eW, rU (Kd.R_mono (Kd.R_far (p := ⟨gb511, 1, none⟩) (Kd.R_far (p := ⟨gb511, 0, none⟩) (Kd.R_types HO516.out BK511.out (by decide)) (fun _ hk => hk.2) (.int .i64 t513)) (fun _ hk => hk.2) (.slice Ao12 t514.length co12)) (fun _ hk => trivial)), bel HB⟩

/-! ### impl_DropClue: function 27 -/
def impl_DropClue.f (a0_0 : Int) (l0_1 : List (S40)) (a1 : Int) : Option (Int × (List (S40)) × Bool) := (impl_IsPuzzle.f a0_0 l0_1).bind fun t527 => (if t527 = true then ((impl_in.f a1 0 (wrap64 ((l0_1.length : Int) - 1))).bind fun t528 => (if t528 = true then ((impl_Puzzle_without.f a0_0 l0_1 a1).bind fun bt529 => (some (bt529.1, bt529.2, true))) else (some (0, ([] : List (S40)), false)))) else (some (0, ([] : List (S40)), false)))
set_option maxHeartbeats 8000000 in
set_option maxRecDepth 100000 in
theorem impl_DropClue.calls (a0_0 : Int) (A0_1 : Option Addr) (c0_1 : Nat) (l0_1 : List (S40)) (a1 : Int) (r1 : Int) (r2 : List (S40)) (r3 : Bool) (w : World) (hr0_1 : Kd.C k40 w A0_1 l0_1.length l0_1) (hc0_1 : l0_1.length ≤ c0_1) (h : impl_DropClue.f a0_0 l0_1 a1 = some (r1, r2, r3)) :
  Calls Tryz.prog 27 #[.agg #[.int .i64 a0_0, .slice A0_1 l0_1.length c0_1], .int .i64 a1] w fun e w' => ∃ v1_ : Value, e = .returned (.tuple #[.agg #[.int .i64 r1, v1_], .bool r3]) ∧ Kd.R k40 40 w' w.heap.size (fun _ => True) v1_ r2 ∧ Below w.heap.size w w' := by
 have hu28 := Tryz.underlying28
 have HR0_1 := aM hr0_1
 have HC0_1 := aM hc0_1
 clear hr0_1 hc0_1
 have HB := aM (Below.refl w.heap.size w)
 have H := h
 clear h; unfold impl_DropClue.f at H
 replace H := bC H; obtain ⟨t527, A3, H⟩ := H
 refine iB H ?_ ?_ <;> clear H <;> rintro rfl H
 ·replace H := bC H; obtain ⟨t528, A5, H⟩ := H
  refine iB H ?_ ?_ <;> clear H <;> rintro rfl H
  ·replace H := bC H; obtain ⟨⟨t529, t530⟩, A7, H⟩ := H; try dsimp only at H
   simp only [Option.some.injEq, Prod.mk.injEq] at H
   obtain ⟨rfl, rfl, rfl⟩ := H
   go_enter Tryz.func27, Tryz.ntmps27
   go_wp2_with (first | ((with_reducible refine gate_dst (N := 2) rfl ?_); (try (refine gate_guard (by rfl) ?_; dsimp only)); refine bX (N := 2) rfl (cs := #[.int .i64 a0_0, .slice A0_1 l0_1.length c0_1]) (t := 28) ?_; intro gb525 hg w8 BK525 hb; have GW525 := gE hg HB; have GE525 := gE hg HB; replace HB := hS HB hb; clear hb hg) | ((with_reducible refine gate_dst (N := 4) rfl ?_); (try (refine gate_guard (by rfl) ?_; dsimp only)); refine bX (N := 4) rfl (cs := #[.int .i64 0, .slice none 0 0]) (t := 28) ?_; intro gb526 hg w9 BK526 hb; have GW526 := gE hg HB; have GE526 := gE hg HB; have NB525_526 := nbL hg BK525; have NB526_525 := nbR hg BK525; replace BK525 := bB BK525 hb; replace HB := hS HB hb; clear hb hg; have hnb10 := NB525_526.out; have hnc10 := NB526_525.out; obtain ⟨hcz11_0, hcz11_1, hfz11_0, hfz11_1⟩ := hC2 BK525) | ((with_reducible refine gG 14 (some 7) rfl rfl ?_); refine gC Tryz.func14 (impl_IsPuzzle.calls a0_0 _ _ l0_1 true _ (cU (Kd.C_below HR0_1.out HB.out)) HC0_1.out A3.out) ?_; rintro w12 hb; replace BK525 := bB BK525 hb; replace BK526 := bB BK526 hb; replace HB := hS HB hb; clear hb; obtain ⟨hcz13_0, hcz13_1, hfz13_0, hfz13_1⟩ := hC2 BK525) | (go_at_call 40; (with_reducible refine (impl_in.calls a1 0 (wrap64 ((l0_1.length : Int) - 1)) true _ A5.out).mono ?_); rintro e w' ⟨rfl, ⟨nd, rfl⟩⟩) | ((with_reducible refine gG 57 (some 21) rfl rfl ?_); refine gD Tryz.func57 (impl_Puzzle_without.calls a0_0 _ _ l0_1 a1 t529 t530 _ (cU (Kd.C_below HR0_1.out HB.out)) HC0_1.out A7.out) ?_; rintro w14 v531 ⟨ho0, hb⟩; have HO532 := rL ho0 HB; replace BK525 := bB BK525 hb; replace BK526 := bB BK526 hb; replace HB := hS HB hb; clear hb ho0; obtain ⟨hcz15_0, hcz15_1, hfz15_0, hfz15_1⟩ := hC2 BK526; obtain ⟨Ao16, co16, eo16⟩ := Kd.R_slice HO532.out; subst eo16))
   refine bodyPost_ret (results_ct rfl _ _ gb526 28 #[.int .i64 t529, .slice Ao16 t530.length co16] (0, 0) _ rfl (bP2 BK526) Tryz.underlying28 rfl (by kernel_rfl)) rfl ?_
   exact ⟨_, eW, rU (Kd.R_mono (Kd.R_far (p := ⟨gb526, 1, none⟩) (Kd.R_far (p := ⟨gb526, 0, none⟩) (Kd.R_types HO532.out BK526.out (by decide)) (fun _ hk => hk.2) (.int .i64 t529)) (fun _ hk => hk.2) (.slice Ao16 t530.length co16)) (fun _ hk => trivial)), bel HB⟩
  simp only [Option.some.injEq, Prod.mk.injEq] at H
  obtain ⟨rfl, rfl, rfl⟩ := H
  go_enter Tryz.func27, Tryz.ntmps27
  go_wp2_with (first | ((with_reducible refine gate_dst (N := 2) rfl ?_); (try (refine gate_guard (by rfl) ?_; dsimp only)); refine bX (N := 2) rfl (cs := #[.int .i64 a0_0, .slice A0_1 l0_1.length c0_1]) (t := 28) ?_; intro gb525 hg w17 BK525 hb; have GW525 := gE hg HB; have GE525 := gE hg HB; replace HB := hS HB hb; clear hb hg) | ((with_reducible refine gate_dst (N := 4) rfl ?_); (try (refine gate_guard (by rfl) ?_; dsimp only)); refine bX (N := 4) rfl (cs := #[.int .i64 0, .slice none 0 0]) (t := 28) ?_; intro gb526 hg w18 BK526 hb; have GW526 := gE hg HB; have GE526 := gE hg HB; have NB525_526 := nbL hg BK525; have NB526_525 := nbR hg BK525; replace BK525 := bB BK525 hb; replace HB := hS HB hb; clear hb hg; have hnb19 := NB525_526.out; have hnc19 := NB526_525.out; obtain ⟨hcz20_0, hcz20_1, hfz20_0, hfz20_1⟩ := hC2 BK525) | ((with_reducible refine gG 14 (some 7) rfl rfl ?_); refine gC Tryz.func14 (impl_IsPuzzle.calls a0_0 _ _ l0_1 true _ (cU (Kd.C_below HR0_1.out HB.out)) HC0_1.out A3.out) ?_; rintro w21 hb; replace BK525 := bB BK525 hb; replace BK526 := bB BK526 hb; replace HB := hS HB hb; clear hb; obtain ⟨hcz22_0, hcz22_1, hfz22_0, hfz22_1⟩ := hC2 BK525) | (go_at_call 40; (with_reducible refine (impl_in.calls a1 0 (wrap64 ((l0_1.length : Int) - 1)) false _ A5.out).mono ?_); rintro e w' ⟨rfl, ⟨nd, rfl⟩⟩; obtain ⟨hcz23_0, hcz23_1, hfz23_0, hfz23_1⟩ := hC2 BK526))
  refine bodyPost_ret (results_ct rfl _ _ gb526 28 #[.int .i64 0, .slice none 0 0] (0, 0) _ rfl (bP2 BK526) Tryz.underlying28 rfl (by kernel_rfl)) rfl ?_
  exact ⟨_, eW, by first | exact Kd.R_nil _ _ _ _ _ | exact Kd.N_nil _ _ _ _ _ | exact Kd.V_nil _ _ _ _ _ | exact Kd.Q_nil _ _ _ _ _ | exact Kd.S_nil _ _ _ _ _, bel HB⟩
 simp only [Option.some.injEq, Prod.mk.injEq] at H
 obtain ⟨rfl, rfl, rfl⟩ := H
 go_enter Tryz.func27, Tryz.ntmps27
 go_wp2_with (first | ((with_reducible refine gate_dst (N := 2) rfl ?_); (try (refine gate_guard (by rfl) ?_; dsimp only)); refine bX (N := 2) rfl (cs := #[.int .i64 a0_0, .slice A0_1 l0_1.length c0_1]) (t := 28) ?_; intro gb525 hg w24 BK525 hb; have GW525 := gE hg HB; have GE525 := gE hg HB; replace HB := hS HB hb; clear hb hg) | ((with_reducible refine gate_dst (N := 4) rfl ?_); (try (refine gate_guard (by rfl) ?_; dsimp only)); refine bX (N := 4) rfl (cs := #[.int .i64 0, .slice none 0 0]) (t := 28) ?_; intro gb526 hg w25 BK526 hb; have GW526 := gE hg HB; have GE526 := gE hg HB; have NB525_526 := nbL hg BK525; have NB526_525 := nbR hg BK525; replace BK525 := bB BK525 hb; replace HB := hS HB hb; clear hb hg; have hnb26 := NB525_526.out; have hnc26 := NB526_525.out; obtain ⟨hcz27_0, hcz27_1, hfz27_0, hfz27_1⟩ := hC2 BK525) | ((with_reducible refine gG 14 (some 7) rfl rfl ?_); refine gC Tryz.func14 (impl_IsPuzzle.calls a0_0 _ _ l0_1 false _ (cU (Kd.C_below HR0_1.out HB.out)) HC0_1.out A3.out) ?_; rintro w28 hb; replace BK525 := bB BK525 hb; replace BK526 := bB BK526 hb; replace HB := hS HB hb; clear hb; obtain ⟨hcz29_0, hcz29_1, hfz29_0, hfz29_1⟩ := hC2 BK526))
 refine bodyPost_ret (results_ct rfl _ _ gb526 28 #[.int .i64 0, .slice none 0 0] (0, 0) _ rfl (bP2 BK526) Tryz.underlying28 rfl (by kernel_rfl)) rfl ?_
 exact ⟨_, eW, by first | exact Kd.R_nil _ _ _ _ _ | exact Kd.N_nil _ _ _ _ _ | exact Kd.V_nil _ _ _ _ _ | exact Kd.Q_nil _ _ _ _ _ | exact Kd.S_nil _ _ _ _ _, bel HB⟩

/-! ### spec_DropClue: function 28 -/
def spec_DropClue.f (k : Nat) (a0_0 : Int) (l0_1 : List (S40)) (a1 : Int) : Option (Int × (List (S40)) × Bool) := (spec_pzGood.f k a0_0 l0_1).bind fun t535 => (if t535 = true then ((spec_l1In.f a1 0 (wrap64 ((l0_1.length : Int) - 1))).bind fun t536 => (if t536 = true then ((spec_pzWithout.f l0_1 a1).bind fun t537 => (some (a0_0, t537, true))) else (some (0, ([] : List (S40)), false)))) else (some (0, ([] : List (S40)), false)))
instance spec_DropClue.mI (k : Nat) : Mo (spec_DropClue.f k) (spec_DropClue.f (k + 1)) := by
 (repeat refine mE fun _ => ?_); unfold spec_DropClue.f; exact mG
theorem spec_DropClue.mono : ∀ a0 a1 a2 k, LeO (spec_DropClue.f k a0 a1 a2) (spec_DropClue.f (k + 1) a0 a1 a2) := fun a0 a1 a2 k => (spec_DropClue.mI k).out a0 a1 a2
def spec_DropClue.T3 : Bool × List (List Nat × List Nat) := (true, [([], []), ([0], [0]), ([], []), ([2], [2]), ([], []), ([3, 4], [3, 4]), ([1, 5], [1, 5]), ([6, 5, 0, 1, 2, 3, 4, 5, 6], [6]), ([7, 0, 1, 2, 3, 4, 5, 6, 7], [])])
def spec_DropClue.B3 : List Nat := [0, 1, 0, 4, 0, 28, 63, 127, 255]
theorem spec_DropClue.tab3 : rtab .any (opsOf Tryz.f28 3) = spec_DropClue.T3 := by kernel_rfl
theorem spec_DropClue.bits3 : waitsOk spec_DropClue.T3.2 spec_DropClue.B3 = true := by kernel_rfl
set_option maxHeartbeats 8000000 in
set_option maxRecDepth 100000 in
theorem spec_DropClue.calls (k : Nat) (a0_0 : Int) (A0_1 : Option Addr) (c0_1 : Nat) (l0_1 : List (S40)) (a1 : Int) (r1 : Int) (r2 : List (S40)) (r3 : Bool) (w : World) (hr0_1 : Kd.C k40 w A0_1 l0_1.length l0_1) (hc0_1 : l0_1.length ≤ c0_1) (h : spec_DropClue.f k a0_0 l0_1 a1 = some (r1, r2, r3)) :
  Calls Tryz.prog 28 #[.agg #[.int .i64 a0_0, .slice A0_1 l0_1.length c0_1], .int .i64 a1] w fun e w' => ∃ v1_ : Value, e = .returned (.tuple #[.agg #[.int .i64 r1, v1_], .bool r3]) ∧ Kd.R k40 40 w' w.heap.size (fun _ => True) v1_ r2 ∧ Below w.heap.size w w' := by
 have hu28 := Tryz.underlying28
 have HR0_1 := aM hr0_1
 have HC0_1 := aM hc0_1
 clear hr0_1 hc0_1
 have HB := aM (Below.refl w.heap.size w)
 have H := h
 clear h; unfold spec_DropClue.f at H
 replace H := bC H; obtain ⟨t535, A3, H⟩ := H
 refine iB H ?_ ?_ <;> clear H <;> rintro rfl H
 ·replace H := bC H; obtain ⟨t536, A5, H⟩ := H
  refine iB H ?_ ?_ <;> clear H <;> rintro rfl H
  ·replace H := bC H; obtain ⟨t537, A7, H⟩ := H
   simp only [Option.some.injEq, Prod.mk.injEq] at H
   obtain ⟨rfl, rfl, rfl⟩ := H
   go_enter Tryz.func28, Tryz.ntmps28
   try go_wp2_with (first | ((with_reducible refine gate_dst (N := 2) rfl ?_); (try (refine gate_guard (by rfl) ?_; dsimp only)); refine bX (N := 2) rfl (cs := #[.int .i64 a0_0, .slice A0_1 l0_1.length c0_1]) (t := 28) ?_; intro gb533 hg w8 BK533 hb; have GW533 := gE hg HB; have GE533 := gE hg HB; replace HB := hS HB hb; clear hb hg) | ((with_reducible refine gate_dst (N := 4) rfl ?_); (try (refine gate_guard (by rfl) ?_; dsimp only)); refine bX (N := 4) rfl (cs := #[.int .i64 0, .slice none 0 0]) (t := 28) ?_; intro gb534 hg w9 BK534 hb; have GW534 := gE hg HB; have GE534 := gE hg HB; have NB533_534 := nbL hg BK533; have NB534_533 := nbR hg BK533; replace BK533 := bB BK533 hb; replace HB := hS HB hb; clear hb hg; have hnb10 := NB533_534.out; have hnc10 := NB534_533.out; obtain ⟨hcz11_0, hcz11_1, hfz11_0, hfz11_1⟩ := hC2 BK533) | ((with_reducible refine gG 58 (some 7) rfl rfl ?_); refine gC Tryz.func58 (spec_pzGood.calls k a0_0 _ _ l0_1 true _ (cU (Kd.C_below HR0_1.out HB.out)) HC0_1.out A3.out) ?_; rintro w12 hb; replace BK533 := bB BK533 hb; replace BK534 := bB BK534 hb; replace HB := hS HB hb; clear hb; obtain ⟨hcz13_0, hcz13_1, hfz13_0, hfz13_1⟩ := hC2 BK533) | (go_at_call 44; (with_reducible refine (spec_l1In.calls a1 0 (wrap64 ((l0_1.length : Int) - 1)) true _ A5.out).mono ?_); rintro e w' ⟨rfl, ⟨nd, rfl⟩⟩; (try (rw [drewN_self w12]; generalize hq_ : World.drewN w12 _ = w12; have n0_ : Aside0 (w12.heap[gb533]? = some (.cells #[.int .i64 a0_0, .slice A0_1 l0_1.length c0_1] 28 (0, 0))) := ⟨by rw [← hq_]; exact (bU BK533.out)⟩; have n1_ : Aside0 (w12.heap[gb534]? = some (.cells #[.int .i64 0, .slice none 0 0] 28 (0, 0))) := ⟨by rw [← hq_]; exact (bU BK534.out)⟩; have n2_ : Aside0 (Below w.heap.size w w12) := ⟨by rw [← hq_]; exact (bel HB)⟩; clear BK533 BK534 HB hq_; have BK533 := n0_; have BK534 := n1_; have HB := n2_; clear n0_ n1_ n2_))))
   have n0_ := aM (blk_drew BK533.out)
   have n1_ := aM (blk_drew BK534.out)
   have n2_ := aM (below_drew1 HB.out)
   clear BK533
   clear BK534
   clear HB
   have BK533 := n0_
   have BK534 := n1_
   have HB := n2_
   clear n0_ n1_ n2_
   refine start_ (n := 9) (S := fun w' => w'.cell? ⟨gb533, 0, none⟩ = some (.int .i64 a0_0) ∧ w'.cell? ⟨gb533, 1, none⟩ = some (.slice A0_1 l0_1.length c0_1)) (ds := []) (bn 9 0) (by kernel_rfl) rfl rfl ⟨(blk_cell BK533.out 0).trans rfl, (blk_cell BK533.out 1).trans rfl⟩ (fun hHeld => ?_); refine with_tabW spec_DropClue.tab3 spec_DropClue.bits3 (fun HT_ HW_ => ?_)
   generalize w12.drew = w14 at BK533 BK534 HB hHeld ⊢
   refine pU 0 (some 19) (bn 9 1) ?_
   refine pU 2 (some 21) (bn 9 5) ?_
   refine pU 4 (some 23) (bn 9 21) ?_
   refine take_ (i := 1) (N := some 20) (v := ?_) (a' := ?_) (bn 9 23) rfl rfl (take_ofW HT_.out HW_.out (by kernel_rfl)) (fun _ _ _ h => h) (Or.inl ⟨by rfl, ?_⟩) hHeld ?_ ?_
   rotate_left
   ·rintro w' ⟨s0, s1⟩
    go_simp
    with_reducible rfl
   rotate_left
   ·simp only [Act.put, List.setIfInBounds_toArray, List.set_cons_zero, List.set_cons_succ, i64_w, i32_w]
    rfl
   refine take_ (i := 3) (N := some 22) (v := ?_) (a' := ?_) (bn 9 31) rfl rfl (take_ofW HT_.out HW_.out (by kernel_rfl)) (fun _ _ _ h => h) (Or.inl ⟨by rfl, ?_⟩) hHeld ?_ ?_
   rotate_left
   ·rintro w' ⟨s0, s1⟩
    go_simp
    with_reducible rfl
   rotate_left
   ·simp only [Act.put, List.setIfInBounds_toArray, List.set_cons_zero, List.set_cons_succ, i64_w, i32_w]
    rfl
   refine one_ (i := 5) (N := some 24) (bn 9 63) rfl rfl (one_of HT_.out (by kernel_rfl)) (by decide) (fun K hK => ?_)
   refine goes_ Tryz.func60 (by kernel_rfl) rfl #[.slice A0_1 l0_1.length c0_1, .int .i64 a1] (by rfl) rfl rfl (by (try simp only [List.map_toArray, List.map_cons, List.map_nil]); first | done | rfl | (simp only [List.length_drop, List.length_take]; rfl)) ?_
   with_reducible refine (spec_pzWithout.calls _ _ l0_1 a1 t537 _ ?side1 ?side2 A7.out).mono ?_
   (case side1 => exact cU (Kd.C_below HR0_1.out HB.out))
   (case side2 => exact HC0_1.out)
   rintro e w15 ⟨v538, rfl, ho0, hb⟩
   refine ⟨_, rfl, ?_⟩
   have n0_ := rL ho0 HB
   have n1_ := bB BK533 hb
   have n2_ := bB BK534 hb
   have n3_ := hS HB hb
   clear BK533
   clear BK534
   clear HB
   have HO539 := n0_
   have BK533 := n1_
   have BK534 := n2_
   have HB := n3_
   clear n0_ n1_ n2_ n3_
   (try clear hb)
   (try clear hb2)
   (try clear hk)
   (try clear hi)
   (try clear ho0)
   obtain ⟨Ao16, co16, eo16⟩ := Kd.R_slice HO539.out
   (first | subst eo16 | (injection eo16 with f1_ f2_ f3_; have f4_ := f1_.symm; have f5_ := f3_.symm; clear f1_ f2_ f3_; subst f4_; subst f5_))
   refine hK.out _ _ ⟨(blk_cell BK533.out 0).trans rfl, (blk_cell BK533.out 1).trans rfl⟩ (fun hHeld => ?_)
   clear hK K
   refine norm_ (a' := ?_) ?_ ?_
   rotate_left
   ·show Act.put _ (some 24) _ = _
    simp only [Act.put, List.setIfInBounds_toArray, List.set_cons_zero, List.set_cons_succ, i64_w, i32_w]
    rfl
   refine pU 6 (some 25) (bn 9 127) ?_
   refine one_ (i := 7) (N := none) (bn 9 255) rfl rfl (one_of HT_.out (by kernel_rfl)) (by decide) (fun K hK => ?_)
   have hs17 : w15.cell? ⟨gb534, 0, none⟩ = some (.int .i64 0) := (blk_cell BK534.out 0).trans rfl
   have hfs17 := blk_frozen BK534.out 0
   have hns17_0 := NB533_534.out
   have hms17_0 := NB534_533.out
   have hs18 : w15.cell? ⟨gb534, 1, none⟩ = some (.slice none 0 0) := (blk_cell BK534.out 1).trans rfl
   have hfs18 := blk_frozen BK534.out 1
   have hns18_0 := NB533_534.out
   have hms18_0 := NB534_533.out
   refine skip_ (w1 := ?_) (by rfl) rfl ?_ ?_
   rotate_left
   ·go_simp
    rfl
   refine hK.out _ _ ⟨((cell_far (p := ⟨gb534, _, none⟩) NB533_534.out _).trans (((cell_far (p := ⟨gb534, _, none⟩) NB533_534.out _).trans (hHeld.1)))), ((cell_far (p := ⟨gb534, _, none⟩) NB533_534.out _).trans (((cell_far (p := ⟨gb534, _, none⟩) NB533_534.out _).trans (hHeld.2))))⟩ (fun hHeld => ?_)
   clear hK K
   refine pU 8 (some 5) (bn 9 511) ?_
   refine done_ (done_of HT_.out (by kernel_rfl)) ?_
   try go_wp2
   refine bodyPost_ret (results_ct rfl _ _ gb534 28 #[.int .i64 a0_0, .slice Ao16 t537.length co16] (0, 0) _ rfl (bP2 BK534) Tryz.underlying28 rfl (by kernel_rfl)) rfl ?_
   exact ⟨_, eW, rU (Kd.R_mono (Kd.R_far (p := ⟨gb534, 1, none⟩) (Kd.R_far (p := ⟨gb534, 0, none⟩) (Kd.R_types HO539.out BK534.out (by decide)) (fun _ hk => hk.2) (.int .i64 a0_0)) (fun _ hk => hk.2) (.slice Ao16 t537.length co16)) (fun _ hk => trivial)), bel HB⟩
  simp only [Option.some.injEq, Prod.mk.injEq] at H
  obtain ⟨rfl, rfl, rfl⟩ := H
  go_enter Tryz.func28, Tryz.ntmps28
  go_wp2_with (first | ((with_reducible refine gate_dst (N := 2) rfl ?_); (try (refine gate_guard (by rfl) ?_; dsimp only)); refine bX (N := 2) rfl (cs := #[.int .i64 a0_0, .slice A0_1 l0_1.length c0_1]) (t := 28) ?_; intro gb533 hg w19 BK533 hb; have GW533 := gE hg HB; have GE533 := gE hg HB; replace HB := hS HB hb; clear hb hg) | ((with_reducible refine gate_dst (N := 4) rfl ?_); (try (refine gate_guard (by rfl) ?_; dsimp only)); refine bX (N := 4) rfl (cs := #[.int .i64 0, .slice none 0 0]) (t := 28) ?_; intro gb534 hg w20 BK534 hb; have GW534 := gE hg HB; have GE534 := gE hg HB; have NB533_534 := nbL hg BK533; have NB534_533 := nbR hg BK533; replace BK533 := bB BK533 hb; replace HB := hS HB hb; clear hb hg; have hnb21 := NB533_534.out; have hnc21 := NB534_533.out; obtain ⟨hcz22_0, hcz22_1, hfz22_0, hfz22_1⟩ := hC2 BK533) | ((with_reducible refine gG 58 (some 7) rfl rfl ?_); refine gC Tryz.func58 (spec_pzGood.calls k a0_0 _ _ l0_1 true _ (cU (Kd.C_below HR0_1.out HB.out)) HC0_1.out A3.out) ?_; rintro w23 hb; replace BK533 := bB BK533 hb; replace BK534 := bB BK534 hb; replace HB := hS HB hb; clear hb; obtain ⟨hcz24_0, hcz24_1, hfz24_0, hfz24_1⟩ := hC2 BK533) | (go_at_call 44; (with_reducible refine (spec_l1In.calls a1 0 (wrap64 ((l0_1.length : Int) - 1)) false _ A5.out).mono ?_); rintro e w' ⟨rfl, ⟨nd, rfl⟩⟩; (try (rw [drewN_self w23]; generalize hq_ : World.drewN w23 _ = w23; have n0_ : Aside0 (w23.heap[gb533]? = some (.cells #[.int .i64 a0_0, .slice A0_1 l0_1.length c0_1] 28 (0, 0))) := ⟨by rw [← hq_]; exact (bU BK533.out)⟩; have n1_ : Aside0 (w23.heap[gb534]? = some (.cells #[.int .i64 0, .slice none 0 0] 28 (0, 0))) := ⟨by rw [← hq_]; exact (bU BK534.out)⟩; have n2_ : Aside0 (Below w.heap.size w w23) := ⟨by rw [← hq_]; exact (bel HB)⟩; clear BK533 BK534 HB hq_; have BK533 := n0_; have BK534 := n1_; have HB := n2_; clear n0_ n1_ n2_)); obtain ⟨hcz25_0, hcz25_1, hfz25_0, hfz25_1⟩ := hC2 BK534))
  refine bodyPost_ret (results_ct rfl _ _ gb534 28 #[.int .i64 0, .slice none 0 0] (0, 0) _ rfl (bP2 BK534) Tryz.underlying28 rfl (by kernel_rfl)) rfl ?_
  exact ⟨_, eW, by first | exact Kd.R_nil _ _ _ _ _ | exact Kd.N_nil _ _ _ _ _ | exact Kd.V_nil _ _ _ _ _ | exact Kd.Q_nil _ _ _ _ _ | exact Kd.S_nil _ _ _ _ _, bel HB⟩
 simp only [Option.some.injEq, Prod.mk.injEq] at H
 obtain ⟨rfl, rfl, rfl⟩ := H
 go_enter Tryz.func28, Tryz.ntmps28
 go_wp2_with (first | ((with_reducible refine gate_dst (N := 2) rfl ?_); (try (refine gate_guard (by rfl) ?_; dsimp only)); refine bX (N := 2) rfl (cs := #[.int .i64 a0_0, .slice A0_1 l0_1.length c0_1]) (t := 28) ?_; intro gb533 hg w26 BK533 hb; have GW533 := gE hg HB; have GE533 := gE hg HB; replace HB := hS HB hb; clear hb hg) | ((with_reducible refine gate_dst (N := 4) rfl ?_); (try (refine gate_guard (by rfl) ?_; dsimp only)); refine bX (N := 4) rfl (cs := #[.int .i64 0, .slice none 0 0]) (t := 28) ?_; intro gb534 hg w27 BK534 hb; have GW534 := gE hg HB; have GE534 := gE hg HB; have NB533_534 := nbL hg BK533; have NB534_533 := nbR hg BK533; replace BK533 := bB BK533 hb; replace HB := hS HB hb; clear hb hg; have hnb28 := NB533_534.out; have hnc28 := NB534_533.out; obtain ⟨hcz29_0, hcz29_1, hfz29_0, hfz29_1⟩ := hC2 BK533) | ((with_reducible refine gG 58 (some 7) rfl rfl ?_); refine gC Tryz.func58 (spec_pzGood.calls k a0_0 _ _ l0_1 false _ (cU (Kd.C_below HR0_1.out HB.out)) HC0_1.out A3.out) ?_; rintro w30 hb; replace BK533 := bB BK533 hb; replace BK534 := bB BK534 hb; replace HB := hS HB hb; clear hb; obtain ⟨hcz31_0, hcz31_1, hfz31_0, hfz31_1⟩ := hC2 BK534))
 refine bodyPost_ret (results_ct rfl _ _ gb534 28 #[.int .i64 0, .slice none 0 0] (0, 0) _ rfl (bP2 BK534) Tryz.underlying28 rfl (by kernel_rfl)) rfl ?_
 exact ⟨_, eW, by first | exact Kd.R_nil _ _ _ _ _ | exact Kd.N_nil _ _ _ _ _ | exact Kd.V_nil _ _ _ _ _ | exact Kd.Q_nil _ _ _ _ _ | exact Kd.S_nil _ _ _ _ _, bel HB⟩

end Go.Proofs.YtpdkjehplfgjcabGreatDoor.PHid
