-- squeezed (sq3.py); PRINTED by drive.py (a program of this session's, over the kit's print.py; wip/tools/drive.py). Lean checks it.
import Derived.Test.YtcogjabdddikjaaDoorQPHidAllx0
import Derived.Test.YtcogjabdddikjaaDoorQPHidAllx2
import Derived.Test.YtcogjabdddikjaaDoorQPHidAllx3
import Derived.Test.YtcogjabdddikjaaDoorQPHidAllx9
import Derived.Test.YtcogjabdddikjaaDoorQPHidAllx11
import Derived.Test.YtcogjabdddikjaaDoorQPHidAllx12
import Derived.Test.YtcogjabdddikjaaDoorQSq
namespace Go.Proofs.YtcogjabdddikjaaDoor.PHidAll
open Go.RowKit Go.Proofs.YtcogjabdddikjaaDoorW.PrintWords Go.Proofs.YtcogjabdddikjaaDoorW.PrintLast Go.Proofs.YtcogjabdddikjaaDoorW.PrintMore
attribute [local go_sem] max2_int min2_int max_two min_two max_three min_three max_four min_four   -- for this text's walks alone
set_option linter.unusedVariables false
set_option linter.unusedSimpArgs false

/-! ### spec_AddClue: function 62 -/
def spec_AddClue.f (k : Nat) (a0_0 : Int) (l0_1 : List (S59)) (a1_0 : Int) (a1_1 : Int) (a1_2 : Int) : Option (Int × (List (S59)) × Bool) := (spec_pzGood.f k a0_0 l0_1).bind fun t325 => (if t325 = true then ((spec_pzClue.f k a0_0 a1_0 a1_1 a1_2).bind fun t326 => (if t326 = true then (if (l0_1.length : Int) = 6 then (some (0, ([] : List (S59)), false)) else ((some (([] : List (S59)) : List (S59))).bind fun y327 => (if y327.length + l0_1.length < 5864062014805 then ((some (y327 ++ l0_1 : List (S59))).bind fun y330 => ((some (([(⟨a1_0, a1_1, a1_2⟩ : S59)] : List (S59)) : List (S59))).bind fun y333 => (if y330.length + y333.length < 5864062014805 then (some (a0_0, (y330 ++ y333), true)) else (none)))) else (none)))) else (some (0, ([] : List (S59)), false)))) else (some (0, ([] : List (S59)), false)))
instance spec_AddClue.mI (k : Nat) : Mo (spec_AddClue.f k) (spec_AddClue.f (k + 1)) := by
 (repeat refine mE fun _ => ?_); unfold spec_AddClue.f; exact mG
theorem spec_AddClue.mono : ∀ a0 a1 a2 a3 a4 k, LeO (spec_AddClue.f k a0 a1 a2 a3 a4) (spec_AddClue.f (k + 1) a0 a1 a2 a3 a4) := fun a0 a1 a2 a3 a4 k => (spec_AddClue.mI k).out a0 a1 a2 a3 a4
def spec_AddClue.T3 : Bool × List (List Nat × List Nat) := (true, [([], []), ([0], [0]), ([], []), ([], []), ([3], [3]), ([2, 4], [2, 4]), ([], []), ([6], [6]), ([5, 7, 5], [5, 7]), ([1, 8], [1, 8]), ([9, 8, 0, 1, 2, 3, 4, 5, 6, 7, 8, 9], [9]), ([10, 0, 1, 2, 3, 4, 5, 6, 7, 8, 9, 10], [])])
def spec_AddClue.B3 : List Nat := [0, 1, 0, 0, 8, 28, 0, 64, 252, 511, 1023, 2047]
theorem spec_AddClue.tab3 : rtab .any (opsOf Tryd.f62 3) = spec_AddClue.T3 := by kernel_rfl
theorem spec_AddClue.bits3 : waitsOk spec_AddClue.T3.2 spec_AddClue.B3 = true := by kernel_rfl
set_option maxHeartbeats 8000000 in
set_option maxRecDepth 100000 in
theorem spec_AddClue.calls (k : Nat) (a0_0 : Int) (A0_1 : Option Addr) (c0_1 : Nat) (l0_1 : List (S59)) (a1_0 : Int) (a1_1 : Int) (a1_2 : Int) (r1 : Int) (r2 : List (S59)) (r3 : Bool) (w : World) (hr0_1 : Kd.C k59 w A0_1 l0_1.length l0_1) (hc0_1 : l0_1.length ≤ c0_1) (h : spec_AddClue.f k a0_0 l0_1 a1_0 a1_1 a1_2 = some (r1, r2, r3)) :
  Calls Tryd.prog 62 #[.agg #[.int .i64 a0_0, .slice A0_1 l0_1.length c0_1], .agg #[.int .i64 a1_0, .int .i64 a1_1, .int .i64 a1_2]] w fun e w' => ∃ v1_ : Value, e = .returned (.tuple #[.agg #[.int .i64 r1, v1_], .bool r3]) ∧ Kd.R k59 59 w' w.heap.size (fun _ => True) v1_ r2 ∧ Below w.heap.size w w' := by
 have hu57 := Tryd.underlying57
 have hu59 := Tryd.underlying59
 have HR0_1 := aM hr0_1
 have HC0_1 := aM hc0_1
 clear hr0_1 hc0_1
 have HB := aM (Below.refl w.heap.size w)
 have H := h
 clear h; unfold spec_AddClue.f at H
 replace H := bC H; obtain ⟨t325, A3, H⟩ := H
 refine iB H ?_ ?_ <;> clear H <;> rintro rfl H
 ·replace H := bC H; obtain ⟨t326, A5, H⟩ := H
  refine iB H ?_ ?_ <;> clear H <;> rintro rfl H
  ·refine iI H ?_ ?_ <;> clear H <;> intro c7 H
   ·have c7b0 := qT c7
    have c7b1 := nF c7
    clear c7
    simp only [Option.some.injEq, Prod.mk.injEq] at H
    obtain ⟨rfl, rfl, rfl⟩ := H
    go_enter Tryd.func62, Tryd.ntmps62
    go_wp2_with (first | ((with_reducible refine gate_dst (N := 2) rfl ?_); (try (refine gate_guard (by rfl) ?_; dsimp only)); refine bX (N := 2) rfl (cs := #[.int .i64 a0_0, .slice A0_1 l0_1.length c0_1]) (t := 57) ?_; intro gb322 hg w8 BK322 hb; have GW322 := gE hg HB; have GE322 := gE hg HB; replace HB := hS HB hb; clear hb hg) | ((with_reducible refine gate_dst (N := 3) rfl ?_); (try (refine gate_guard (by rfl) ?_; dsimp only)); refine bX (N := 3) rfl (cs := #[.int .i64 a1_0, .int .i64 a1_1, .int .i64 a1_2]) (t := 59) ?_; intro gb323 hg w9 BK323 hb; have GW323 := gE hg HB; have GE323 := gE hg HB; have NB322_323 := nbL hg BK322; have NB323_322 := nbR hg BK322; replace BK322 := bB BK322 hb; replace HB := hS HB hb; clear hb hg) | ((with_reducible refine gate_dst (N := 4) rfl ?_); (try (refine gate_guard (by rfl) ?_; dsimp only)); refine bX (N := 4) rfl (cs := #[.int .i64 0, .slice none 0 0]) (t := 57) ?_; intro gb324 hg w10 BK324 hb; have GW324 := gE hg HB; have GE324 := gE hg HB; have NB322_324 := nbL hg BK322; have NB324_322 := nbR hg BK322; have NB323_324 := nbL hg BK323; have NB324_323 := nbR hg BK323; replace BK322 := bB BK322 hb; replace BK323 := bB BK323 hb; replace HB := hS HB hb; clear hb hg; have hnb11 := NB322_323.out; have hnc11 := NB323_322.out; have hnb12 := NB322_324.out; have hnc12 := NB324_322.out; obtain ⟨hcz13_0, hcz13_1, hfz13_0, hfz13_1⟩ := hC2 BK322) | ((with_reducible refine gG 124 (some 7) rfl rfl ?_); refine gC Tryd.func124 (spec_pzGood.calls k a0_0 _ _ l0_1 true _ (cU (Kd.C_below HR0_1.out HB.out)) HC0_1.out A3.out) ?_; rintro w14 hb; replace BK322 := bB BK322 hb; replace BK323 := bB BK323 hb; replace BK324 := bB BK324 hb; replace HB := hS HB hb; clear hb; obtain ⟨hcz15_0, hcz15_1, hfz15_0, hfz15_1⟩ := hC2 BK322; have hnb16 := NB323_324.out; have hnc16 := NB324_323.out; obtain ⟨hcz17_0, hcz17_1, hcz17_2, hfz17_0, hfz17_1, hfz17_2⟩ := hC3 BK323) | (go_at_call 127; (with_reducible refine (spec_pzClue.calls k a0_0 a1_0 a1_1 a1_2 true _ A5.out).mono ?_); rintro e w18 ⟨rfl, hb⟩; replace BK322 := bB BK322 hb; replace BK323 := bB BK323 hb; replace BK324 := bB BK324 hb; replace HB := hS HB hb; clear hb; obtain ⟨hcz19_0, hcz19_1, hfz19_0, hfz19_1⟩ := hC2 BK322; obtain ⟨hcz20_0, hcz20_1, hfz20_0, hfz20_1⟩ := hC2 BK324))
    refine bodyPost_ret (results_ct rfl _ _ gb324 57 #[.int .i64 0, .slice none 0 0] (0, 0) _ rfl (by (with_reducible repeat (first | refine blk_drewN ?_ _ | refine blk_drew ?_ | refine blk_alloc ?_ _)); refine blk_put (cs := #[.int .i64 0, .slice none 0 0]) ?_ 1 _ rfl; (with_reducible repeat (first | refine blk_drewN ?_ _ | refine blk_drew ?_ | refine blk_alloc ?_ _)); refine blk_put (cs := #[.int .i64 0, .slice none 0 0]) ?_ 0 _ rfl; (with_reducible repeat (first | refine blk_drewN ?_ _ | refine blk_drew ?_ | refine blk_alloc ?_ _)); exact BK324.out) Tryd.underlying57 rfl (by kernel_rfl)) rfl ?_
    exact ⟨_, eW, by first | exact Kd.R_nil _ _ _ _ _ | exact Kd.N_nil _ _ _ _ _ | exact Kd.V_nil _ _ _ _ _ | exact Kd.Q_nil _ _ _ _ _ | exact Kd.S_nil _ _ _ _ _, bel HB⟩
   have c7b0 := qF c7
   have c7b1 := nT c7
   replace H := yB H; obtain ⟨y327, Ny327, H⟩ := H
   refine iY H ?_; clear H; intro c21 H
   have LMc21 := aM c21
   clear c21
   replace H := yB H; obtain ⟨y330, Ny330, H⟩ := H
   replace H := yB H; obtain ⟨y333, Ny333, H⟩ := H
   refine iY H ?_; clear H; intro c22 H
   have LMc22 := aM c22
   clear c22
   obtain ⟨y336, Ny336⟩ := yN (y330 ++ y333 : List (S59)); rw [← Ny336.out] at H
   simp only [Option.some.injEq, Prod.mk.injEq] at H
   obtain ⟨rfl, rfl, rfl⟩ := H
   go_enter Tryd.func62, Tryd.ntmps62
   try go_wp2_with (first | ((with_reducible refine gate_dst (N := 2) rfl ?_); (try (refine gate_guard (by rfl) ?_; dsimp only)); refine bX (N := 2) rfl (cs := #[.int .i64 a0_0, .slice A0_1 l0_1.length c0_1]) (t := 57) ?_; intro gb322 hg w23 BK322 hb; have GW322 := gE hg HB; have GE322 := gE hg HB; replace HB := hS HB hb; clear hb hg) | ((with_reducible refine gate_dst (N := 3) rfl ?_); (try (refine gate_guard (by rfl) ?_; dsimp only)); refine bX (N := 3) rfl (cs := #[.int .i64 a1_0, .int .i64 a1_1, .int .i64 a1_2]) (t := 59) ?_; intro gb323 hg w24 BK323 hb; have GW323 := gE hg HB; have GE323 := gE hg HB; have NB322_323 := nbL hg BK322; have NB323_322 := nbR hg BK322; replace BK322 := bB BK322 hb; replace HB := hS HB hb; clear hb hg) | ((with_reducible refine gate_dst (N := 4) rfl ?_); (try (refine gate_guard (by rfl) ?_; dsimp only)); refine bX (N := 4) rfl (cs := #[.int .i64 0, .slice none 0 0]) (t := 57) ?_; intro gb324 hg w25 BK324 hb; have GW324 := gE hg HB; have GE324 := gE hg HB; have NB322_324 := nbL hg BK322; have NB324_322 := nbR hg BK322; have NB323_324 := nbL hg BK323; have NB324_323 := nbR hg BK323; replace BK322 := bB BK322 hb; replace BK323 := bB BK323 hb; replace HB := hS HB hb; clear hb hg; have hnb26 := NB322_323.out; have hnc26 := NB323_322.out; have hnb27 := NB322_324.out; have hnc27 := NB324_322.out; obtain ⟨hcz28_0, hcz28_1, hfz28_0, hfz28_1⟩ := hC2 BK322) | ((with_reducible refine gG 124 (some 7) rfl rfl ?_); refine gC Tryd.func124 (spec_pzGood.calls k a0_0 _ _ l0_1 true _ (cU (Kd.C_below HR0_1.out HB.out)) HC0_1.out A3.out) ?_; rintro w29 hb; replace BK322 := bB BK322 hb; replace BK323 := bB BK323 hb; replace BK324 := bB BK324 hb; replace HB := hS HB hb; clear hb; obtain ⟨hcz30_0, hcz30_1, hfz30_0, hfz30_1⟩ := hC2 BK322; have hnb31 := NB323_324.out; have hnc31 := NB324_323.out; obtain ⟨hcz32_0, hcz32_1, hcz32_2, hfz32_0, hfz32_1, hfz32_2⟩ := hC3 BK323) | (go_at_call 127; (with_reducible refine (spec_pzClue.calls k a0_0 a1_0 a1_1 a1_2 true _ A5.out).mono ?_); rintro e w33 ⟨rfl, hb⟩; replace BK322 := bB BK322 hb; replace BK323 := bB BK323 hb; replace BK324 := bB BK324 hb; replace HB := hS HB hb; clear hb; obtain ⟨hcz34_0, hcz34_1, hfz34_0, hfz34_1⟩ := hC2 BK322))
   have n0_ := aM (blk_drew BK322.out)
   have n1_ := aM (blk_drew BK323.out)
   have n2_ := aM (blk_drew BK324.out)
   have n3_ := aM (below_drew1 HB.out)
   clear BK322
   clear BK323
   clear BK324
   clear HB
   have BK322 := n0_
   have BK323 := n1_
   have BK324 := n2_
   have HB := n3_
   clear n0_ n1_ n2_ n3_
   refine start_ (n := 12) (S := fun w' => w'.cell? ⟨gb322, 0, none⟩ = some (.int .i64 a0_0) ∧ w'.cell? ⟨gb322, 1, none⟩ = some (.slice A0_1 l0_1.length c0_1) ∧ w'.cell? ⟨gb323, 0, none⟩ = some (.int .i64 a1_0) ∧ w'.cell? ⟨gb323, 1, none⟩ = some (.int .i64 a1_1) ∧ w'.cell? ⟨gb323, 2, none⟩ = some (.int .i64 a1_2)) (ds := []) #[false, false, false, false, false, false, false, false, false, false, false, false] (by kernel_rfl) rfl rfl ⟨(blk_cell BK322.out 0).trans rfl, (blk_cell BK322.out 1).trans rfl, (blk_cell BK323.out 0).trans rfl, (blk_cell BK323.out 1).trans rfl, (blk_cell BK323.out 2).trans rfl⟩ (fun hHeld => ?_); refine with_tabW spec_AddClue.tab3 spec_AddClue.bits3 (fun HT_ HW_ => ?_)
   generalize w33.drew = w35 at BK322 BK323 BK324 HB hHeld ⊢
   refine pure_ (i := 0) (N := some 23) (v := ?_) (a' := ?_) #[true, false, false, false, false, false, false, false, false, false, false, false] rfl rfl (any_of HT_.out (by kernel_rfl)) (fun _ _ _ h => h) (Or.inl ⟨by rfl, ?_⟩) ?_ ?_
   rotate_left
   ·intro w'
    go_simp
    with_reducible rfl
   rotate_left
   ·simp only [Act.put, List.setIfInBounds_toArray, List.set_cons_zero, List.set_cons_succ, i64_w, i32_w]
    rfl
   refine pure_ (i := 3) (N := some 26) (v := ?_) (a' := ?_) #[true, false, false, true, false, false, false, false, false, false, false, false] rfl rfl (any_of HT_.out (by kernel_rfl)) (fun _ _ _ h => h) (Or.inl ⟨by rfl, ?_⟩) ?_ ?_
   rotate_left
   ·intro w'
    go_simp
    with_reducible rfl
   rotate_left
   ·simp only [Act.put, List.setIfInBounds_toArray, List.set_cons_zero, List.set_cons_succ, i64_w, i32_w]
    rfl
   refine take_ (i := 1) (N := some 24) (v := ?_) (a' := ?_) #[true, true, false, true, false, false, false, false, false, false, false, false] rfl rfl (take_ofW HT_.out HW_.out (by kernel_rfl)) (fun _ _ _ h => h) (Or.inl ⟨by rfl, ?_⟩) hHeld ?_ ?_
   rotate_left
   ·rintro w' ⟨s0, s1, s2, s3, s4⟩
    go_simp
    with_reducible rfl
   rotate_left
   ·simp only [Act.put, List.setIfInBounds_toArray, List.set_cons_zero, List.set_cons_succ, i64_w, i32_w]
    rfl
   refine take_ (i := 4) (N := some 27) (v := ?_) (a' := ?_) #[true, true, false, true, true, false, false, false, false, false, false, false] rfl rfl (take_ofW HT_.out HW_.out (by kernel_rfl)) (fun _ _ _ h => h) (Or.inl ⟨by rfl, ?_⟩) hHeld ?_ ?_
   rotate_left
   ·rintro w' ⟨s0, s1, s2, s3, s4⟩
    go_simp
    with_reducible rfl
   rotate_left
   ·simp only [Act.put, List.setIfInBounds_toArray, List.set_cons_zero, List.set_cons_succ, i64_w, i32_w]
    rfl
   refine take_ (i := 6) (N := some 29) (v := ?_) (a' := ?_) #[true, true, false, true, true, false, true, false, false, false, false, false] rfl rfl (take_ofW HT_.out HW_.out (by kernel_rfl)) (fun _ _ _ h => h) (Or.inl ⟨by rfl, ?_⟩) hHeld ?_ ?_
   rotate_left
   ·rintro w' ⟨s0, s1, s2, s3, s4⟩
    go_simp
    with_reducible rfl
   rotate_left
   ·simp only [Act.put, List.setIfInBounds_toArray, List.set_cons_zero, List.set_cons_succ, i64_w, i32_w]
    rfl
   refine join_ (σ := Value × Value × Value) 4 #[true, true, true, true, true, true, true, true, false, false, false, false] (fun s_ => [(25, s_.1), (28, s_.2.1), (30, s_.2.2)]) (fun s_ w' => (w'.cell? ⟨gb322, 0, none⟩ = some (.int .i64 a0_0) ∧ w'.cell? ⟨gb322, 1, none⟩ = some (.slice A0_1 l0_1.length c0_1) ∧ w'.cell? ⟨gb323, 0, none⟩ = some (.int .i64 a1_0) ∧ w'.cell? ⟨gb323, 1, none⟩ = some (.int .i64 a1_1) ∧ w'.cell? ⟨gb323, 2, none⟩ = some (.int .i64 a1_2)) ∧ (Kd.R k59 59 w' w.heap.size (fun k_ => some k_ ≠ (s_.2.2 : Value).ownBlock ∧ k_ ≠ gb323) s_.2.1 y330) ∧ (Kd.R k59 59 w' w.heap.size (fun k_ => some k_ ≠ (s_.2.1 : Value).ownBlock ∧ k_ ≠ gb323) s_.2.2 y333) ∧ (w'.heap[gb322]? = some (.cells #[.int .i64 a0_0, .slice A0_1 l0_1.length c0_1] 57 (0, 0))) ∧ (w'.heap[gb323]? = some (.cells #[.int .i64 a1_0, .int .i64 a1_1, .int .i64 a1_2] 59 (0, 0))) ∧ (w'.heap[gb324]? = some (.cells #[.int .i64 0, .slice none 0 0] 57 (0, 0))) ∧ (Below w.heap.size w w')) ?_ ?_
   rotate_left
   ·intro hCont
    refine two_ (i := 2) (j := 7) (Ni := some 25) (Nj := some 30) #[true, true, true, true, true, false, true, false, false, false, false, false] #[true, true, false, true, true, false, true, true, false, false, false, false] rfl rfl rfl rfl (two_of HT_.out (by kernel_rfl)) (by decide) (by decide) (fun K hK => ?_) (fun K hK => ?_)
    ·skip
     refine Kd.R_lit_step k59 _ 59 ?hg (N := 25) ?hd (xs := ([] : List (S59))) (inner := []) (ok := fun _ => True) (okp := fun _ => True) ?hr ?hp (fun _ hk => hk) trivial (Below.refl _ _) (Nat.le_refl _) (by simp) ?_; (case hd => rfl); (case hg => rfl); (case hr => first | (go_simp; done) | (go_simp; rfl)); (case hp => exact (Reps.none _ _))
     intro v328 w36 ho37 hb hg_ hnew_
     clear hg_ hnew_
     (first | rw [← Ny327.out] at ho37 | (simp only [Int.reduceToNat] at ho37; rw [← Ny327.out] at ho37))
     have n0_ := aM (Kd.R_lower (Kd.R_newB ho37 (g := gb323) (o := .cells #[.int .i64 a1_0, .int .i64 a1_1, .int .i64 a1_2] 59 (0, 0)) (bU BK323.out)) (below_size (bel HB)))
     have n1_ := bB BK322 hb
     have n2_ := bB BK323 hb
     have n3_ := bB BK324 hb
     have n4_ := hS HB hb
     clear BK322
     clear BK323
     clear BK324
     clear HB
     have HO329 := n0_
     have BK322 := n1_
     have BK323 := n2_
     have BK324 := n3_
     have HB := n4_
     clear n0_ n1_ n2_ n3_ n4_
     clear hb ho37
     refine hK.out _ _ ⟨(blk_cell BK322.out 0).trans rfl, (blk_cell BK322.out 1).trans rfl, (blk_cell BK323.out 0).trans rfl, (blk_cell BK323.out 1).trans rfl, (blk_cell BK323.out 2).trans rfl⟩ (fun hHeld => ?_)
     clear hK K
     refine norm_ (a' := ?_) ?_ ?_
     rotate_left
     ·show Act.put _ (some 25) _ = _
      simp only [Act.put, List.setIfInBounds_toArray, List.set_cons_zero, List.set_cons_succ, i64_w, i32_w]
      rfl
     refine two_ (i := 5) (j := 7) (Ni := some 28) (Nj := some 30) #[true, true, true, true, true, true, true, false, false, false, false, false] #[true, true, true, true, true, false, true, true, false, false, false, false] rfl rfl rfl rfl (two_of HT_.out (by kernel_rfl)) (by decide) (by decide) (fun K hK => ?_) (fun K hK => ?_)
     ·skip
      refine Kd.R_append_rows_step k59 (w0 := w) w.heap.size (by rfl) (.tmp 25) (.tmp 27) 55 59 (.agg #[(.int .i64 0), (.int .i64 0), (.int .i64 0)]) 24 rfl Tryd.underlying55 info59 rfl (by decide) (by omega) v328 y327 l0_1 _ _ _ (fun k_ => k_ ≠ gb323) (fun _ => False) rfl rfl ?aO ?aR (fun _ _ h => h) (fun _ h => h.elim) ?aF ?aB ?aS ?aL ?_
      (case aR => exact cU (Kd.C_below HR0_1.out HB.out))
      (case aB => exact (bel HB))
      (case aF => exact (fun k_ hk => Kd.freshB (g := gb323) (o := .cells #[.int .i64 a1_0, .int .i64 a1_1, .int .i64 a1_2] 59 (0, 0)) (bU BK323.out) k_ hk))
      (case aO => exact (rU (Kd.R_mono HO329.out (fun _ hk => hk.2))))
      (case aS => exact (below_size (bel HB)))
      (case aL => have := LMc21.out; omega)
      intro v331 w38 ho hb hg hat
      rw [← Ny330.out] at ho
      have n0_ := aM (blk_grown (g := gb322) (o := .cells #[.int .i64 a0_0, .slice A0_1 l0_1.length c0_1] 57 (0, 0)) (bU BK322.out) hg (Kd.R_ne HO329.out BK322.out (by decide)))
      have n1_ := aM (blk_grown (g := gb323) (o := .cells #[.int .i64 a1_0, .int .i64 a1_1, .int .i64 a1_2] 59 (0, 0)) (bU BK323.out) hg (Kd.R_away HO329.out (fun _ hk => hk.2)))
      have n2_ := aM (blk_grown (g := gb324) (o := .cells #[.int .i64 0, .slice none 0 0] 57 (0, 0)) (bU BK324.out) hg (Kd.R_ne HO329.out BK324.out (by decide)))
      have n3_ := aM (hb)
      have n4_ := aM (ho)
      clear BK322
      clear BK323
      clear BK324
      clear HB
      clear HO329
      have BK322 := n0_
      have BK323 := n1_
      have BK324 := n2_
      have HB := n3_
      have HO332 := n4_
      clear n0_ n1_ n2_ n3_ n4_
      clear ho hb hg hat
      refine hK.out _ _ ⟨(blk_cell BK322.out 0).trans rfl, (blk_cell BK322.out 1).trans rfl, (blk_cell BK323.out 0).trans rfl, (blk_cell BK323.out 1).trans rfl, (blk_cell BK323.out 2).trans rfl⟩ (fun hHeld => ?_)
      clear hK K
      refine norm_ (a' := ?_) ?_ ?_
      rotate_left
      ·show Act.put _ (some 28) _ = _
       simp only [Act.put, List.setIfInBounds_toArray, List.set_cons_zero, List.set_cons_succ, i64_w, i32_w]
       rfl
      refine one_ (i := 7) (N := some 30) #[true, true, true, true, true, true, true, true, false, false, false, false] rfl rfl (one_of HT_.out (by kernel_rfl)) (by decide) (fun K hK => ?_)
      refine Kd.R_lit_step k59 _ 59 ?hg (N := 30) ?hd (xs := ([(⟨a1_0, a1_1, a1_2⟩ : S59)] : List (S59))) (inner := [.int .i64 a1_0, .int .i64 a1_1, .int .i64 a1_2]) (ok := fun _ => True) (okp := fun _ => True) ?hr ?hp (fun _ hk => hk) trivial (Below.refl _ _) (Nat.le_refl _) (by simp) ?_; (case hd => rfl); (case hg => rfl); (case hr => first | (go_simp; done) | (go_simp; rfl)); (case hp => exact (Reps.c3 (show Kd.M k59 _ _ _ (⟨a1_0, a1_1, a1_2⟩ : S59) [.int .i64 a1_0, .int .i64 a1_1, .int .i64 a1_2] from (k59_mkM _ _ _ (⟨a1_0, a1_1, a1_2⟩ : S59) )) (Reps.none _ _)))
      intro v334 w39 ho40 hb hg_ hnew_
      clear hg_ hnew_
      (first | rw [← Ny333.out] at ho40 | (simp only [Int.reduceToNat] at ho40; rw [← Ny333.out] at ho40))
      have n0_ := aM (Kd.R_elder' (rU HO332.out) (Kd.R_base ho40) hb)
      have n1_ := aM (Kd.R_lower (Kd.R_newB (Kd.R_new' ho40 (Kd.R_lt (rU HO332.out))) (g := gb323) (o := .cells #[.int .i64 a1_0, .int .i64 a1_1, .int .i64 a1_2] 59 (0, 0)) (bU BK323.out)) (below_size (bel HB)))
      have n2_ := bB BK322 hb
      have n3_ := bB BK323 hb
      have n4_ := bB BK324 hb
      have n5_ := hS HB hb
      clear HO332
      clear BK322
      clear BK323
      clear BK324
      clear HB
      have HO332 := n0_
      have HO335 := n1_
      have BK322 := n2_
      have BK323 := n3_
      have BK324 := n4_
      have HB := n5_
      clear n0_ n1_ n2_ n3_ n4_ n5_
      clear hb ho40
      refine hK.out _ _ ⟨(blk_cell BK322.out 0).trans rfl, (blk_cell BK322.out 1).trans rfl, (blk_cell BK323.out 0).trans rfl, (blk_cell BK323.out 1).trans rfl, (blk_cell BK323.out 2).trans rfl⟩ (fun hHeld => ?_)
      clear hK K
      refine norm_ (a' := ?_) ?_ ?_
      rotate_left
      ·show Act.put _ (some 30) _ = _
       simp only [Act.put, List.setIfInBounds_toArray, List.set_cons_zero, List.set_cons_succ, i64_w, i32_w]
       rfl
      exact norm_ (by simp only [putAll, Act.put, List.setIfInBounds_toArray, List.set_cons_zero, List.set_cons_succ]) (hCont (v328, v331, v334) _ ⟨hHeld, (rU (Kd.R_mono HO332.out (fun _ hk => ⟨hk.2, hk.1⟩))), (rU (Kd.R_mono HO335.out (fun _ hk => ⟨hk.1.2, hk.2⟩))), (bU BK322.out), (bU BK323.out), (bU BK324.out), (bel HB)⟩)
     skip
     refine Kd.R_lit_step k59 _ 59 ?hg (N := 30) ?hd (xs := ([(⟨a1_0, a1_1, a1_2⟩ : S59)] : List (S59))) (inner := [.int .i64 a1_0, .int .i64 a1_1, .int .i64 a1_2]) (ok := fun _ => True) (okp := fun _ => True) ?hr ?hp (fun _ hk => hk) trivial (Below.refl _ _) (Nat.le_refl _) (by simp) ?_; (case hd => rfl); (case hg => rfl); (case hr => first | (go_simp; done) | (go_simp; rfl)); (case hp => exact (Reps.c3 (show Kd.M k59 _ _ _ (⟨a1_0, a1_1, a1_2⟩ : S59) [.int .i64 a1_0, .int .i64 a1_1, .int .i64 a1_2] from (k59_mkM _ _ _ (⟨a1_0, a1_1, a1_2⟩ : S59) )) (Reps.none _ _)))
     intro v334 w38 ho39 hb hg_ hnew_
     clear hg_ hnew_
     (first | rw [← Ny333.out] at ho39 | (simp only [Int.reduceToNat] at ho39; rw [← Ny333.out] at ho39))
     have n0_ := aM (Kd.R_elder' (rU HO329.out) (Kd.R_base ho39) hb)
     have n1_ := aM (Kd.R_lower (Kd.R_newB (Kd.R_new' ho39 (Kd.R_lt (rU HO329.out))) (g := gb323) (o := .cells #[.int .i64 a1_0, .int .i64 a1_1, .int .i64 a1_2] 59 (0, 0)) (bU BK323.out)) (below_size (bel HB)))
     have n2_ := bB BK322 hb
     have n3_ := bB BK323 hb
     have n4_ := bB BK324 hb
     have n5_ := hS HB hb
     clear HO329
     clear BK322
     clear BK323
     clear BK324
     clear HB
     have HO329 := n0_
     have HO335 := n1_
     have BK322 := n2_
     have BK323 := n3_
     have BK324 := n4_
     have HB := n5_
     clear n0_ n1_ n2_ n3_ n4_ n5_
     clear hb ho39
     refine hK.out _ _ ⟨(blk_cell BK322.out 0).trans rfl, (blk_cell BK322.out 1).trans rfl, (blk_cell BK323.out 0).trans rfl, (blk_cell BK323.out 1).trans rfl, (blk_cell BK323.out 2).trans rfl⟩ (fun hHeld => ?_)
     clear hK K
     refine norm_ (a' := ?_) ?_ ?_
     rotate_left
     ·show Act.put _ (some 30) _ = _
      simp only [Act.put, List.setIfInBounds_toArray, List.set_cons_zero, List.set_cons_succ, i64_w, i32_w]
      rfl
     refine one_ (i := 5) (N := some 28) #[true, true, true, true, true, true, true, true, false, false, false, false] rfl rfl (one_of HT_.out (by kernel_rfl)) (by decide) (fun K hK => ?_)
     refine Kd.R_append_rows_step k59 (w0 := w) w.heap.size (by rfl) (.tmp 25) (.tmp 27) 55 59 (.agg #[(.int .i64 0), (.int .i64 0), (.int .i64 0)]) 24 rfl Tryd.underlying55 info59 rfl (by decide) (by omega) v328 y327 l0_1 _ _ _ (fun k_ => some k_ ≠ (v334 : Value).ownBlock ∧ k_ ≠ gb323) (fun _ => False) rfl rfl ?aO ?aR (fun _ _ h => h) (fun _ h => h.elim) ?aF ?aB ?aS ?aL ?_
     (case aR => exact cU (Kd.C_below HR0_1.out HB.out))
     (case aB => exact (bel HB))
     (case aF => exact (fun k_ hk => ⟨Kd.fresh' (Kd.R_lt (rU HO335.out)) k_ hk, Kd.freshB (g := gb323) (o := .cells #[.int .i64 a1_0, .int .i64 a1_1, .int .i64 a1_2] 59 (0, 0)) (bU BK323.out) k_ hk⟩))
     (case aO => exact (rU (Kd.R_mono HO329.out (fun _ hk => ⟨hk.2, hk.1.2⟩))))
     (case aS => exact (below_size (bel HB)))
     (case aL => have := LMc21.out; omega)
     intro v331 w40 ho hb hg hat
     rw [← Ny330.out] at ho
     have n0_ := aM (blk_grown (g := gb322) (o := .cells #[.int .i64 a0_0, .slice A0_1 l0_1.length c0_1] 57 (0, 0)) (bU BK322.out) hg (Kd.R_ne HO329.out BK322.out (by decide)))
     have n1_ := aM (blk_grown (g := gb323) (o := .cells #[.int .i64 a1_0, .int .i64 a1_1, .int .i64 a1_2] 59 (0, 0)) (bU BK323.out) hg (Kd.R_away HO329.out (fun _ hk => hk.1.2)))
     have n2_ := aM (blk_grown (g := gb324) (o := .cells #[.int .i64 0, .slice none 0 0] 57 (0, 0)) (bU BK324.out) hg (Kd.R_ne HO329.out BK324.out (by decide)))
     have n3_ := aM (Kd.R_after (ok := (fun k_ => k_ ≠ gb323)) (rU (Kd.R_mono HO335.out (fun _ hk => ⟨hk.2, hk.1.2⟩))) hg hat)
     have n4_ := aM (hb)
     have n5_ := aM (ho)
     clear BK322
     clear BK323
     clear BK324
     clear HO335
     clear HB
     clear HO329
     have BK322 := n0_
     have BK323 := n1_
     have BK324 := n2_
     have HO335 := n3_
     have HB := n4_
     have HO332 := n5_
     clear n0_ n1_ n2_ n3_ n4_ n5_
     clear ho hb hg hat
     refine hK.out _ _ ⟨(blk_cell BK322.out 0).trans rfl, (blk_cell BK322.out 1).trans rfl, (blk_cell BK323.out 0).trans rfl, (blk_cell BK323.out 1).trans rfl, (blk_cell BK323.out 2).trans rfl⟩ (fun hHeld => ?_)
     clear hK K
     refine norm_ (a' := ?_) ?_ ?_
     rotate_left
     ·show Act.put _ (some 28) _ = _
      simp only [Act.put, List.setIfInBounds_toArray, List.set_cons_zero, List.set_cons_succ, i64_w, i32_w]
      rfl
     exact norm_ (by simp only [putAll, Act.put, List.setIfInBounds_toArray, List.set_cons_zero, List.set_cons_succ]) (hCont (v328, v331, v334) _ ⟨hHeld, (rU HO332.out), (rU (Kd.R_mono HO335.out (fun _ hk => ⟨hk.2, hk.1⟩))), (bU BK322.out), (bU BK323.out), (bU BK324.out), (bel HB)⟩)
    skip
    refine Kd.R_lit_step k59 _ 59 ?hg (N := 30) ?hd (xs := ([(⟨a1_0, a1_1, a1_2⟩ : S59)] : List (S59))) (inner := [.int .i64 a1_0, .int .i64 a1_1, .int .i64 a1_2]) (ok := fun _ => True) (okp := fun _ => True) ?hr ?hp (fun _ hk => hk) trivial (Below.refl _ _) (Nat.le_refl _) (by simp) ?_; (case hd => rfl); (case hg => rfl); (case hr => first | (go_simp; done) | (go_simp; rfl)); (case hp => exact (Reps.c3 (show Kd.M k59 _ _ _ (⟨a1_0, a1_1, a1_2⟩ : S59) [.int .i64 a1_0, .int .i64 a1_1, .int .i64 a1_2] from (k59_mkM _ _ _ (⟨a1_0, a1_1, a1_2⟩ : S59) )) (Reps.none _ _)))
    intro v334 w36 ho37 hb hg_ hnew_
    clear hg_ hnew_
    (first | rw [← Ny333.out] at ho37 | (simp only [Int.reduceToNat] at ho37; rw [← Ny333.out] at ho37))
    have n0_ := aM (Kd.R_lower (Kd.R_newB ho37 (g := gb323) (o := .cells #[.int .i64 a1_0, .int .i64 a1_1, .int .i64 a1_2] 59 (0, 0)) (bU BK323.out)) (below_size (bel HB)))
    have n1_ := bB BK322 hb
    have n2_ := bB BK323 hb
    have n3_ := bB BK324 hb
    have n4_ := hS HB hb
    clear BK322
    clear BK323
    clear BK324
    clear HB
    have HO335 := n0_
    have BK322 := n1_
    have BK323 := n2_
    have BK324 := n3_
    have HB := n4_
    clear n0_ n1_ n2_ n3_ n4_
    clear hb ho37
    refine hK.out _ _ ⟨(blk_cell BK322.out 0).trans rfl, (blk_cell BK322.out 1).trans rfl, (blk_cell BK323.out 0).trans rfl, (blk_cell BK323.out 1).trans rfl, (blk_cell BK323.out 2).trans rfl⟩ (fun hHeld => ?_)
    clear hK K
    refine norm_ (a' := ?_) ?_ ?_
    rotate_left
    ·show Act.put _ (some 30) _ = _
     simp only [Act.put, List.setIfInBounds_toArray, List.set_cons_zero, List.set_cons_succ, i64_w, i32_w]
     rfl
    refine one_ (i := 2) (N := some 25) #[true, true, true, true, true, false, true, true, false, false, false, false] rfl rfl (one_of HT_.out (by kernel_rfl)) (by decide) (fun K hK => ?_)
    refine Kd.R_lit_step k59 _ 59 ?hg (N := 25) ?hd (xs := ([] : List (S59))) (inner := []) (ok := fun _ => True) (okp := fun _ => True) ?hr ?hp (fun _ hk => hk) trivial (Below.refl _ _) (Nat.le_refl _) (by simp) ?_; (case hd => rfl); (case hg => rfl); (case hr => first | (go_simp; done) | (go_simp; rfl)); (case hp => exact (Reps.none _ _))
    intro v328 w38 ho39 hb hg_ hnew_
    clear hg_ hnew_
    (first | rw [← Ny327.out] at ho39 | (simp only [Int.reduceToNat] at ho39; rw [← Ny327.out] at ho39))
    have n0_ := aM (Kd.R_elder' (rU HO335.out) (Kd.R_base ho39) hb)
    have n1_ := aM (Kd.R_lower (Kd.R_newB (Kd.R_new' ho39 (Kd.R_lt (rU HO335.out))) (g := gb323) (o := .cells #[.int .i64 a1_0, .int .i64 a1_1, .int .i64 a1_2] 59 (0, 0)) (bU BK323.out)) (below_size (bel HB)))
    have n2_ := bB BK322 hb
    have n3_ := bB BK323 hb
    have n4_ := bB BK324 hb
    have n5_ := hS HB hb
    clear HO335
    clear BK322
    clear BK323
    clear BK324
    clear HB
    have HO335 := n0_
    have HO329 := n1_
    have BK322 := n2_
    have BK323 := n3_
    have BK324 := n4_
    have HB := n5_
    clear n0_ n1_ n2_ n3_ n4_ n5_
    clear hb ho39
    refine hK.out _ _ ⟨(blk_cell BK322.out 0).trans rfl, (blk_cell BK322.out 1).trans rfl, (blk_cell BK323.out 0).trans rfl, (blk_cell BK323.out 1).trans rfl, (blk_cell BK323.out 2).trans rfl⟩ (fun hHeld => ?_)
    clear hK K
    refine norm_ (a' := ?_) ?_ ?_
    rotate_left
    ·show Act.put _ (some 25) _ = _
     simp only [Act.put, List.setIfInBounds_toArray, List.set_cons_zero, List.set_cons_succ, i64_w, i32_w]
     rfl
    refine one_ (i := 5) (N := some 28) #[true, true, true, true, true, true, true, true, false, false, false, false] rfl rfl (one_of HT_.out (by kernel_rfl)) (by decide) (fun K hK => ?_)
    refine Kd.R_append_rows_step k59 (w0 := w) w.heap.size (by rfl) (.tmp 25) (.tmp 27) 55 59 (.agg #[(.int .i64 0), (.int .i64 0), (.int .i64 0)]) 24 rfl Tryd.underlying55 info59 rfl (by decide) (by omega) v328 y327 l0_1 _ _ _ (fun k_ => some k_ ≠ (v334 : Value).ownBlock ∧ k_ ≠ gb323) (fun _ => False) rfl rfl ?aO ?aR (fun _ _ h => h) (fun _ h => h.elim) ?aF ?aB ?aS ?aL ?_
    (case aR => exact cU (Kd.C_below HR0_1.out HB.out))
    (case aB => exact (bel HB))
    (case aF => exact (fun k_ hk => ⟨Kd.fresh' (Kd.R_lt (rU HO335.out)) k_ hk, Kd.freshB (g := gb323) (o := .cells #[.int .i64 a1_0, .int .i64 a1_1, .int .i64 a1_2] 59 (0, 0)) (bU BK323.out) k_ hk⟩))
    (case aO => exact (rU (Kd.R_mono HO329.out (fun _ hk => ⟨hk.1.2, hk.2⟩))))
    (case aS => exact (below_size (bel HB)))
    (case aL => have := LMc21.out; omega)
    intro v331 w40 ho hb hg hat
    rw [← Ny330.out] at ho
    have n0_ := aM (blk_grown (g := gb322) (o := .cells #[.int .i64 a0_0, .slice A0_1 l0_1.length c0_1] 57 (0, 0)) (bU BK322.out) hg (Kd.R_ne HO329.out BK322.out (by decide)))
    have n1_ := aM (blk_grown (g := gb323) (o := .cells #[.int .i64 a1_0, .int .i64 a1_1, .int .i64 a1_2] 59 (0, 0)) (bU BK323.out) hg (Kd.R_away HO329.out (fun _ hk => hk.2)))
    have n2_ := aM (blk_grown (g := gb324) (o := .cells #[.int .i64 0, .slice none 0 0] 57 (0, 0)) (bU BK324.out) hg (Kd.R_ne HO329.out BK324.out (by decide)))
    have n3_ := aM (Kd.R_after (ok := (fun k_ => k_ ≠ gb323)) (rU (Kd.R_mono HO335.out (fun _ hk => ⟨hk.1.2, hk.2⟩))) hg hat)
    have n4_ := aM (hb)
    have n5_ := aM (ho)
    clear BK322
    clear BK323
    clear BK324
    clear HO335
    clear HB
    clear HO329
    have BK322 := n0_
    have BK323 := n1_
    have BK324 := n2_
    have HO335 := n3_
    have HB := n4_
    have HO332 := n5_
    clear n0_ n1_ n2_ n3_ n4_ n5_
    clear ho hb hg hat
    refine hK.out _ _ ⟨(blk_cell BK322.out 0).trans rfl, (blk_cell BK322.out 1).trans rfl, (blk_cell BK323.out 0).trans rfl, (blk_cell BK323.out 1).trans rfl, (blk_cell BK323.out 2).trans rfl⟩ (fun hHeld => ?_)
    clear hK K
    refine norm_ (a' := ?_) ?_ ?_
    rotate_left
    ·show Act.put _ (some 28) _ = _
     simp only [Act.put, List.setIfInBounds_toArray, List.set_cons_zero, List.set_cons_succ, i64_w, i32_w]
     rfl
    exact norm_ (by simp only [putAll, Act.put, List.setIfInBounds_toArray, List.set_cons_zero, List.set_cons_succ]) (hCont (v328, v331, v334) _ ⟨hHeld, (rU HO332.out), (rU (Kd.R_mono HO335.out (fun _ hk => ⟨hk.2, hk.1⟩))), (bU BK322.out), (bU BK323.out), (bU BK324.out), (bel HB)⟩)
   rintro ⟨v328, v331, v334⟩ w41 ⟨hS_, h0_, h1_, h2_, h3_, h4_, h5_⟩
   have n0_ : Aside0 (Kd.R k59 59 w41 w.heap.size (fun k_ => some k_ ≠ (v334 : Value).ownBlock ∧ k_ ≠ gb323) v331 y330) := ⟨h0_⟩
   have n1_ : Aside0 (Kd.R k59 59 w41 w.heap.size (fun k_ => some k_ ≠ (v331 : Value).ownBlock ∧ k_ ≠ gb323) v334 y333) := ⟨h1_⟩
   have n2_ : Aside0 (w41.heap[gb322]? = some (.cells #[.int .i64 a0_0, .slice A0_1 l0_1.length c0_1] 57 (0, 0))) := ⟨h2_⟩
   have n3_ : Aside0 (w41.heap[gb323]? = some (.cells #[.int .i64 a1_0, .int .i64 a1_1, .int .i64 a1_2] 59 (0, 0))) := ⟨h3_⟩
   have n4_ : Aside0 (w41.heap[gb324]? = some (.cells #[.int .i64 0, .slice none 0 0] 57 (0, 0))) := ⟨h4_⟩
   have n5_ : Aside0 (Below w.heap.size w w41) := ⟨h5_⟩
   clear BK322
   clear BK323
   clear BK324
   clear HB
   clear h0_ h1_ h2_ h3_ h4_ h5_
   have HO332 := n0_
   have HO335 := n1_
   have BK322 := n2_
   have BK323 := n3_
   have BK324 := n4_
   have HB := n5_
   clear n0_ n1_ n2_ n3_ n4_ n5_
   have hHeld : w41.cell? ⟨gb322, 0, none⟩ = some (.int .i64 a0_0) ∧ w41.cell? ⟨gb322, 1, none⟩ = some (.slice A0_1 l0_1.length c0_1) ∧ w41.cell? ⟨gb323, 0, none⟩ = some (.int .i64 a1_0) ∧ w41.cell? ⟨gb323, 1, none⟩ = some (.int .i64 a1_1) ∧ w41.cell? ⟨gb323, 2, none⟩ = some (.int .i64 a1_2) := hS_
   obtain ⟨Ao43, co43, eo43⟩ := Kd.R_slice HO335.out
   (first | subst eo43 | (injection eo43 with f1_ f2_ f3_; have f4_ := f1_.symm; have f5_ := f3_.symm; clear f1_ f2_ f3_; subst f4_; subst f5_))
   refine norm_ (a' := ?_) ?_ ?_
   rotate_left
   ·simp only [putAll, Act.put, List.setIfInBounds_toArray, List.set_cons_zero, List.set_cons_succ]
    rfl
   refine one_ (i := 8) (N := some 31) #[true, true, true, true, true, true, true, true, true, false, false, false] rfl rfl (one_of HT_.out (by kernel_rfl)) (by decide) (fun K hK => ?_)
   refine Kd.R_append_rows_step k59 (w0 := w) w.heap.size (by rfl) (.tmp 28) (.tmp 30) 55 59 (.agg #[(.int .i64 0), (.int .i64 0), (.int .i64 0)]) 24 rfl Tryd.underlying55 info59 rfl (by decide) (by omega) v331 y330 y333 _ _ _ (fun k_ => some k_ ≠ (.slice Ao43 y333.length co43 : Value).ownBlock ∧ k_ ≠ gb323) (fun _ => False) rfl rfl ?aO ?aR (fun _ _ h => h) (fun _ h => h.elim) ?aF ?aB ?aS ?aL ?_
   (case aR => exact cU ((Kd.R_reads' HO335.out).2.2))
   (case aB => exact (bel HB))
   (case aF => exact (fun k_ hk => ⟨Kd.fresh' (Kd.R_lt (rU HO335.out)) k_ hk, Kd.freshB (g := gb323) (o := .cells #[.int .i64 a1_0, .int .i64 a1_1, .int .i64 a1_2] 59 (0, 0)) (bU BK323.out) k_ hk⟩))
   (case aO => exact (rU HO332.out))
   (case aS => exact (below_size (bel HB)))
   (case aL => have := LMc22.out; omega)
   intro v337 w42 ho hb hg hat
   rw [← Ny336.out] at ho
   have n0_ := aM (blk_grown (g := gb322) (o := .cells #[.int .i64 a0_0, .slice A0_1 l0_1.length c0_1] 57 (0, 0)) (bU BK322.out) hg (Kd.R_ne HO332.out BK322.out (by decide)))
   have n1_ := aM (blk_grown (g := gb323) (o := .cells #[.int .i64 a1_0, .int .i64 a1_1, .int .i64 a1_2] 59 (0, 0)) (bU BK323.out) hg (Kd.R_away HO332.out (fun _ hk => hk.2)))
   have n2_ := aM (blk_grown (g := gb324) (o := .cells #[.int .i64 0, .slice none 0 0] 57 (0, 0)) (bU BK324.out) hg (Kd.R_ne HO332.out BK324.out (by decide)))
   have n3_ := aM (Kd.R_after (ok := (fun k_ => k_ ≠ gb323)) (rU (Kd.R_mono HO335.out (fun _ hk => ⟨hk.2, hk.1⟩))) hg hat)
   have n4_ := aM (hb)
   have n5_ := aM (ho)
   clear BK322
   clear BK323
   clear BK324
   clear HO335
   clear HB
   clear HO332
   have BK322 := n0_
   have BK323 := n1_
   have BK324 := n2_
   have HO335 := n3_
   have HB := n4_
   have HO338 := n5_
   clear n0_ n1_ n2_ n3_ n4_ n5_
   clear ho hb hg hat
   obtain ⟨Ao44, co44, eo44⟩ := Kd.R_slice HO338.out
   (first | subst eo44 | (injection eo44 with f1_ f2_ f3_; have f4_ := f1_.symm; have f5_ := f3_.symm; clear f1_ f2_ f3_; subst f4_; subst f5_))
   refine hK.out _ _ ⟨(blk_cell BK322.out 0).trans rfl, (blk_cell BK322.out 1).trans rfl, (blk_cell BK323.out 0).trans rfl, (blk_cell BK323.out 1).trans rfl, (blk_cell BK323.out 2).trans rfl⟩ (fun hHeld => ?_)
   clear hK K
   refine norm_ (a' := ?_) ?_ ?_
   rotate_left
   ·show Act.put _ (some 31) _ = _
    simp only [Act.put, List.setIfInBounds_toArray, List.set_cons_zero, List.set_cons_succ, i64_w, i32_w]
    rfl
   refine pure_ (i := 9) (N := some 32) (v := ?_) (a' := ?_) #[true, true, true, true, true, true, true, true, true, true, false, false] rfl rfl (any_of HT_.out (by kernel_rfl)) (fun _ _ _ h => h) (Or.inl ⟨by rfl, ?_⟩) ?_ ?_
   rotate_left
   ·intro w'
    go_simp
    with_reducible rfl
   rotate_left
   ·simp only [Act.put, List.setIfInBounds_toArray, List.set_cons_zero, List.set_cons_succ, i64_w, i32_w]
    rfl
   refine one_ (i := 10) (N := none) #[true, true, true, true, true, true, true, true, true, true, true, false] rfl rfl (one_of HT_.out (by kernel_rfl)) (by decide) (fun K hK => ?_)
   have hs45 : w42.cell? ⟨gb324, 0, none⟩ = some (.int .i64 0) := (blk_cell BK324.out 0).trans rfl
   have hfs45 := blk_frozen BK324.out 0
   have hns45_0 := NB322_324.out
   have hns45_1 := NB323_324.out
   have hms45_0 := NB324_322.out
   have hms45_1 := NB324_323.out
   have hs46 : w42.cell? ⟨gb324, 1, none⟩ = some (.slice none 0 0) := (blk_cell BK324.out 1).trans rfl
   have hfs46 := blk_frozen BK324.out 1
   have hns46_0 := NB322_324.out
   have hns46_1 := NB323_324.out
   have hms46_0 := NB324_322.out
   have hms46_1 := NB324_323.out
   refine skip_ (w1 := ?_) (by rfl) rfl ?_ ?_
   rotate_left
   ·go_simp
    rfl
   refine hK.out _ _ ⟨((cell_far (p := ⟨gb324, _, none⟩) NB322_324.out _).trans (((cell_far (p := ⟨gb324, _, none⟩) NB322_324.out _).trans (hHeld.1)))), ((cell_far (p := ⟨gb324, _, none⟩) NB322_324.out _).trans (((cell_far (p := ⟨gb324, _, none⟩) NB322_324.out _).trans (hHeld.2.1)))), ((cell_far (p := ⟨gb324, _, none⟩) NB323_324.out _).trans (((cell_far (p := ⟨gb324, _, none⟩) NB323_324.out _).trans (hHeld.2.2.1)))), ((cell_far (p := ⟨gb324, _, none⟩) NB323_324.out _).trans (((cell_far (p := ⟨gb324, _, none⟩) NB323_324.out _).trans (hHeld.2.2.2.1)))), ((cell_far (p := ⟨gb324, _, none⟩) NB323_324.out _).trans (((cell_far (p := ⟨gb324, _, none⟩) NB323_324.out _).trans (hHeld.2.2.2.2))))⟩ (fun hHeld => ?_)
   clear hK K
   refine pure_ (i := 11) (N := some 5) (v := ?_) (a' := ?_) #[true, true, true, true, true, true, true, true, true, true, true, true] rfl rfl (any_of HT_.out (by kernel_rfl)) (fun _ _ _ h => h) (Or.inl ⟨by rfl, ?_⟩) ?_ ?_
   rotate_left
   ·intro w'
    go_simp
    with_reducible rfl
   rotate_left
   ·simp only [Act.put, List.setIfInBounds_toArray, List.set_cons_zero, List.set_cons_succ, i64_w, i32_w]
    rfl
   refine done_ (done_of HT_.out (by kernel_rfl)) ?_
   try go_wp2
   refine bodyPost_ret (results_ct rfl _ _ gb324 57 #[.int .i64 a0_0, .slice Ao44 y336.length co44] (0, 0) _ rfl (by (with_reducible repeat (first | refine blk_drewN ?_ _ | refine blk_drew ?_ | refine blk_alloc ?_ _)); refine blk_put (cs := #[.int .i64 a0_0, .slice none 0 0]) ?_ 1 _ rfl; (with_reducible repeat (first | refine blk_drewN ?_ _ | refine blk_drew ?_ | refine blk_alloc ?_ _)); refine blk_put (cs := #[.int .i64 0, .slice none 0 0]) ?_ 0 _ rfl; (with_reducible repeat (first | refine blk_drewN ?_ _ | refine blk_drew ?_ | refine blk_alloc ?_ _)); exact BK324.out) Tryd.underlying57 rfl (by kernel_rfl)) rfl ?_
   exact ⟨_, eW, rU (Kd.R_mono (Kd.R_far (p := ⟨gb324, 1, none⟩) (Kd.R_far (p := ⟨gb324, 0, none⟩) (Kd.R_types HO338.out BK324.out (by decide)) (fun _ hk => hk.2) (.int .i64 a0_0)) (fun _ hk => hk.2) (.slice Ao44 y336.length co44)) (fun _ hk => trivial)), bel HB⟩
  simp only [Option.some.injEq, Prod.mk.injEq] at H
  obtain ⟨rfl, rfl, rfl⟩ := H
  go_enter Tryd.func62, Tryd.ntmps62
  go_wp2_with (first | ((with_reducible refine gate_dst (N := 2) rfl ?_); (try (refine gate_guard (by rfl) ?_; dsimp only)); refine bX (N := 2) rfl (cs := #[.int .i64 a0_0, .slice A0_1 l0_1.length c0_1]) (t := 57) ?_; intro gb322 hg w47 BK322 hb; have GW322 := gE hg HB; have GE322 := gE hg HB; replace HB := hS HB hb; clear hb hg) | ((with_reducible refine gate_dst (N := 3) rfl ?_); (try (refine gate_guard (by rfl) ?_; dsimp only)); refine bX (N := 3) rfl (cs := #[.int .i64 a1_0, .int .i64 a1_1, .int .i64 a1_2]) (t := 59) ?_; intro gb323 hg w48 BK323 hb; have GW323 := gE hg HB; have GE323 := gE hg HB; have NB322_323 := nbL hg BK322; have NB323_322 := nbR hg BK322; replace BK322 := bB BK322 hb; replace HB := hS HB hb; clear hb hg) | ((with_reducible refine gate_dst (N := 4) rfl ?_); (try (refine gate_guard (by rfl) ?_; dsimp only)); refine bX (N := 4) rfl (cs := #[.int .i64 0, .slice none 0 0]) (t := 57) ?_; intro gb324 hg w49 BK324 hb; have GW324 := gE hg HB; have GE324 := gE hg HB; have NB322_324 := nbL hg BK322; have NB324_322 := nbR hg BK322; have NB323_324 := nbL hg BK323; have NB324_323 := nbR hg BK323; replace BK322 := bB BK322 hb; replace BK323 := bB BK323 hb; replace HB := hS HB hb; clear hb hg; have hnb50 := NB322_323.out; have hnc50 := NB323_322.out; have hnb51 := NB322_324.out; have hnc51 := NB324_322.out; obtain ⟨hcz52_0, hcz52_1, hfz52_0, hfz52_1⟩ := hC2 BK322) | ((with_reducible refine gG 124 (some 7) rfl rfl ?_); refine gC Tryd.func124 (spec_pzGood.calls k a0_0 _ _ l0_1 true _ (cU (Kd.C_below HR0_1.out HB.out)) HC0_1.out A3.out) ?_; rintro w53 hb; replace BK322 := bB BK322 hb; replace BK323 := bB BK323 hb; replace BK324 := bB BK324 hb; replace HB := hS HB hb; clear hb; obtain ⟨hcz54_0, hcz54_1, hfz54_0, hfz54_1⟩ := hC2 BK322; have hnb55 := NB323_324.out; have hnc55 := NB324_323.out; obtain ⟨hcz56_0, hcz56_1, hcz56_2, hfz56_0, hfz56_1, hfz56_2⟩ := hC3 BK323) | (go_at_call 127; (with_reducible refine (spec_pzClue.calls k a0_0 a1_0 a1_1 a1_2 false _ A5.out).mono ?_); rintro e w57 ⟨rfl, hb⟩; replace BK322 := bB BK322 hb; replace BK323 := bB BK323 hb; replace BK324 := bB BK324 hb; replace HB := hS HB hb; clear hb; obtain ⟨hcz58_0, hcz58_1, hfz58_0, hfz58_1⟩ := hC2 BK324))
  refine bodyPost_ret (results_ct rfl _ _ gb324 57 #[.int .i64 0, .slice none 0 0] (0, 0) _ rfl (by (with_reducible repeat (first | refine blk_drewN ?_ _ | refine blk_drew ?_ | refine blk_alloc ?_ _)); refine blk_put (cs := #[.int .i64 0, .slice none 0 0]) ?_ 1 _ rfl; (with_reducible repeat (first | refine blk_drewN ?_ _ | refine blk_drew ?_ | refine blk_alloc ?_ _)); refine blk_put (cs := #[.int .i64 0, .slice none 0 0]) ?_ 0 _ rfl; (with_reducible repeat (first | refine blk_drewN ?_ _ | refine blk_drew ?_ | refine blk_alloc ?_ _)); exact BK324.out) Tryd.underlying57 rfl (by kernel_rfl)) rfl ?_
  exact ⟨_, eW, by first | exact Kd.R_nil _ _ _ _ _ | exact Kd.N_nil _ _ _ _ _ | exact Kd.V_nil _ _ _ _ _ | exact Kd.Q_nil _ _ _ _ _ | exact Kd.S_nil _ _ _ _ _, bel HB⟩
 simp only [Option.some.injEq, Prod.mk.injEq] at H
 obtain ⟨rfl, rfl, rfl⟩ := H
 go_enter Tryd.func62, Tryd.ntmps62
 go_wp2_with (first | ((with_reducible refine gate_dst (N := 2) rfl ?_); (try (refine gate_guard (by rfl) ?_; dsimp only)); refine bX (N := 2) rfl (cs := #[.int .i64 a0_0, .slice A0_1 l0_1.length c0_1]) (t := 57) ?_; intro gb322 hg w59 BK322 hb; have GW322 := gE hg HB; have GE322 := gE hg HB; replace HB := hS HB hb; clear hb hg) | ((with_reducible refine gate_dst (N := 3) rfl ?_); (try (refine gate_guard (by rfl) ?_; dsimp only)); refine bX (N := 3) rfl (cs := #[.int .i64 a1_0, .int .i64 a1_1, .int .i64 a1_2]) (t := 59) ?_; intro gb323 hg w60 BK323 hb; have GW323 := gE hg HB; have GE323 := gE hg HB; have NB322_323 := nbL hg BK322; have NB323_322 := nbR hg BK322; replace BK322 := bB BK322 hb; replace HB := hS HB hb; clear hb hg) | ((with_reducible refine gate_dst (N := 4) rfl ?_); (try (refine gate_guard (by rfl) ?_; dsimp only)); refine bX (N := 4) rfl (cs := #[.int .i64 0, .slice none 0 0]) (t := 57) ?_; intro gb324 hg w61 BK324 hb; have GW324 := gE hg HB; have GE324 := gE hg HB; have NB322_324 := nbL hg BK322; have NB324_322 := nbR hg BK322; have NB323_324 := nbL hg BK323; have NB324_323 := nbR hg BK323; replace BK322 := bB BK322 hb; replace BK323 := bB BK323 hb; replace HB := hS HB hb; clear hb hg; have hnb62 := NB322_323.out; have hnc62 := NB323_322.out; have hnb63 := NB322_324.out; have hnc63 := NB324_322.out; obtain ⟨hcz64_0, hcz64_1, hfz64_0, hfz64_1⟩ := hC2 BK322) | ((with_reducible refine gG 124 (some 7) rfl rfl ?_); refine gC Tryd.func124 (spec_pzGood.calls k a0_0 _ _ l0_1 false _ (cU (Kd.C_below HR0_1.out HB.out)) HC0_1.out A3.out) ?_; rintro w65 hb; replace BK322 := bB BK322 hb; replace BK323 := bB BK323 hb; replace BK324 := bB BK324 hb; replace HB := hS HB hb; clear hb; have hnb66 := NB324_323.out; have hnc66 := NB323_324.out; obtain ⟨hcz67_0, hcz67_1, hfz67_0, hfz67_1⟩ := hC2 BK324))
 refine bodyPost_ret (results_ct rfl _ _ gb324 57 #[.int .i64 0, .slice none 0 0] (0, 0) _ rfl (by (with_reducible repeat (first | refine blk_drewN ?_ _ | refine blk_drew ?_ | refine blk_alloc ?_ _)); refine blk_put (cs := #[.int .i64 0, .slice none 0 0]) ?_ 1 _ rfl; (with_reducible repeat (first | refine blk_drewN ?_ _ | refine blk_drew ?_ | refine blk_alloc ?_ _)); refine blk_put (cs := #[.int .i64 0, .slice none 0 0]) ?_ 0 _ rfl; (with_reducible repeat (first | refine blk_drewN ?_ _ | refine blk_drew ?_ | refine blk_alloc ?_ _)); exact BK324.out) Tryd.underlying57 rfl (by kernel_rfl)) rfl ?_
 exact ⟨_, eW, by first | exact Kd.R_nil _ _ _ _ _ | exact Kd.N_nil _ _ _ _ _ | exact Kd.V_nil _ _ _ _ _ | exact Kd.Q_nil _ _ _ _ _ | exact Kd.S_nil _ _ _ _ _, bel HB⟩

/-! ### impl_DropClue: function 63 -/
def impl_DropClue.f (a0_0 : Int) (l0_1 : List (S59)) (a1 : Int) : Option (Int × (List (S59)) × Bool) := (impl_IsPuzzle.f a0_0 l0_1).bind fun t341 => (if t341 = true then ((impl_in.f a1 0 (wrap64 ((l0_1.length : Int) - 1))).bind fun t342 => (if t342 = true then ((impl_Puzzle_without.f a0_0 l0_1 a1).bind fun bt343 => (some (bt343.1, bt343.2, true))) else (some (0, ([] : List (S59)), false)))) else (some (0, ([] : List (S59)), false)))
set_option maxHeartbeats 8000000 in
set_option maxRecDepth 100000 in
theorem impl_DropClue.calls (a0_0 : Int) (A0_1 : Option Addr) (c0_1 : Nat) (l0_1 : List (S59)) (a1 : Int) (r1 : Int) (r2 : List (S59)) (r3 : Bool) (w : World) (hr0_1 : Kd.C k59 w A0_1 l0_1.length l0_1) (hc0_1 : l0_1.length ≤ c0_1) (h : impl_DropClue.f a0_0 l0_1 a1 = some (r1, r2, r3)) :
  Calls Tryd.prog 63 #[.agg #[.int .i64 a0_0, .slice A0_1 l0_1.length c0_1], .int .i64 a1] w fun e w' => ∃ v1_ : Value, e = .returned (.tuple #[.agg #[.int .i64 r1, v1_], .bool r3]) ∧ Kd.R k59 59 w' w.heap.size (fun _ => True) v1_ r2 ∧ Below w.heap.size w w' := by
 have hu57 := Tryd.underlying57
 have HR0_1 := aM hr0_1
 have HC0_1 := aM hc0_1
 clear hr0_1 hc0_1
 have HB := aM (Below.refl w.heap.size w)
 have H := h
 clear h; unfold impl_DropClue.f at H
 replace H := bC H; obtain ⟨t341, A3, H⟩ := H
 refine iB H ?_ ?_ <;> clear H <;> rintro rfl H
 ·replace H := bC H; obtain ⟨t342, A5, H⟩ := H
  refine iB H ?_ ?_ <;> clear H <;> rintro rfl H
  ·replace H := bC H; obtain ⟨⟨t343, t344⟩, A7, H⟩ := H; try dsimp only at H
   simp only [Option.some.injEq, Prod.mk.injEq] at H
   obtain ⟨rfl, rfl, rfl⟩ := H
   go_enter Tryd.func63, Tryd.ntmps63
   go_wp2_with (first | ((with_reducible refine gate_dst (N := 2) rfl ?_); (try (refine gate_guard (by rfl) ?_; dsimp only)); refine bX (N := 2) rfl (cs := #[.int .i64 a0_0, .slice A0_1 l0_1.length c0_1]) (t := 57) ?_; intro gb339 hg w8 BK339 hb; have GW339 := gE hg HB; have GE339 := gE hg HB; replace HB := hS HB hb; clear hb hg) | ((with_reducible refine gate_dst (N := 4) rfl ?_); (try (refine gate_guard (by rfl) ?_; dsimp only)); refine bX (N := 4) rfl (cs := #[.int .i64 0, .slice none 0 0]) (t := 57) ?_; intro gb340 hg w9 BK340 hb; have GW340 := gE hg HB; have GE340 := gE hg HB; have NB339_340 := nbL hg BK339; have NB340_339 := nbR hg BK339; replace BK339 := bB BK339 hb; replace HB := hS HB hb; clear hb hg; have hnb10 := NB339_340.out; have hnc10 := NB340_339.out; obtain ⟨hcz11_0, hcz11_1, hfz11_0, hfz11_1⟩ := hC2 BK339) | ((with_reducible refine gG 53 (some 7) rfl rfl ?_); refine gC Tryd.func53 (impl_IsPuzzle.calls a0_0 _ _ l0_1 true _ (cU (Kd.C_below HR0_1.out HB.out)) HC0_1.out A3.out) ?_; rintro w12 hb; replace BK339 := bB BK339 hb; replace BK340 := bB BK340 hb; replace HB := hS HB hb; clear hb; obtain ⟨hcz13_0, hcz13_1, hfz13_0, hfz13_1⟩ := hC2 BK339) | (go_at_call 104; (with_reducible refine (impl_in.calls a1 0 (wrap64 ((l0_1.length : Int) - 1)) true _ A5.out).mono ?_); rintro e w' ⟨rfl, ⟨nd, rfl⟩⟩) | ((with_reducible refine gG 123 (some 21) rfl rfl ?_); refine gD Tryd.func123 (impl_Puzzle_without.calls a0_0 _ _ l0_1 a1 t343 t344 _ (cU (Kd.C_below HR0_1.out HB.out)) HC0_1.out A7.out) ?_; rintro w14 v345 ⟨ho0, hb⟩; have HO346 := rL ho0 HB; replace BK339 := bB BK339 hb; replace BK340 := bB BK340 hb; replace HB := hS HB hb; clear hb ho0; obtain ⟨hcz15_0, hcz15_1, hfz15_0, hfz15_1⟩ := hC2 BK340; obtain ⟨Ao16, co16, eo16⟩ := Kd.R_slice HO346.out; subst eo16))
   refine bodyPost_ret (results_ct rfl _ _ gb340 57 #[.int .i64 t343, .slice Ao16 t344.length co16] (0, 0) _ rfl (by (with_reducible repeat (first | refine blk_drewN ?_ _ | refine blk_drew ?_ | refine blk_alloc ?_ _)); refine blk_put (cs := #[.int .i64 t343, .slice none 0 0]) ?_ 1 _ rfl; (with_reducible repeat (first | refine blk_drewN ?_ _ | refine blk_drew ?_ | refine blk_alloc ?_ _)); refine blk_put (cs := #[.int .i64 0, .slice none 0 0]) ?_ 0 _ rfl; (with_reducible repeat (first | refine blk_drewN ?_ _ | refine blk_drew ?_ | refine blk_alloc ?_ _)); exact BK340.out) Tryd.underlying57 rfl (by kernel_rfl)) rfl ?_
   exact ⟨_, eW, rU (Kd.R_mono (Kd.R_far (p := ⟨gb340, 1, none⟩) (Kd.R_far (p := ⟨gb340, 0, none⟩) (Kd.R_types HO346.out BK340.out (by decide)) (fun _ hk => hk.2) (.int .i64 t343)) (fun _ hk => hk.2) (.slice Ao16 t344.length co16)) (fun _ hk => trivial)), bel HB⟩
  simp only [Option.some.injEq, Prod.mk.injEq] at H
  obtain ⟨rfl, rfl, rfl⟩ := H
  go_enter Tryd.func63, Tryd.ntmps63
  go_wp2_with (first | ((with_reducible refine gate_dst (N := 2) rfl ?_); (try (refine gate_guard (by rfl) ?_; dsimp only)); refine bX (N := 2) rfl (cs := #[.int .i64 a0_0, .slice A0_1 l0_1.length c0_1]) (t := 57) ?_; intro gb339 hg w17 BK339 hb; have GW339 := gE hg HB; have GE339 := gE hg HB; replace HB := hS HB hb; clear hb hg) | ((with_reducible refine gate_dst (N := 4) rfl ?_); (try (refine gate_guard (by rfl) ?_; dsimp only)); refine bX (N := 4) rfl (cs := #[.int .i64 0, .slice none 0 0]) (t := 57) ?_; intro gb340 hg w18 BK340 hb; have GW340 := gE hg HB; have GE340 := gE hg HB; have NB339_340 := nbL hg BK339; have NB340_339 := nbR hg BK339; replace BK339 := bB BK339 hb; replace HB := hS HB hb; clear hb hg; have hnb19 := NB339_340.out; have hnc19 := NB340_339.out; obtain ⟨hcz20_0, hcz20_1, hfz20_0, hfz20_1⟩ := hC2 BK339) | ((with_reducible refine gG 53 (some 7) rfl rfl ?_); refine gC Tryd.func53 (impl_IsPuzzle.calls a0_0 _ _ l0_1 true _ (cU (Kd.C_below HR0_1.out HB.out)) HC0_1.out A3.out) ?_; rintro w21 hb; replace BK339 := bB BK339 hb; replace BK340 := bB BK340 hb; replace HB := hS HB hb; clear hb; obtain ⟨hcz22_0, hcz22_1, hfz22_0, hfz22_1⟩ := hC2 BK339) | (go_at_call 104; (with_reducible refine (impl_in.calls a1 0 (wrap64 ((l0_1.length : Int) - 1)) false _ A5.out).mono ?_); rintro e w' ⟨rfl, ⟨nd, rfl⟩⟩; obtain ⟨hcz23_0, hcz23_1, hfz23_0, hfz23_1⟩ := hC2 BK340))
  refine bodyPost_ret (results_ct rfl _ _ gb340 57 #[.int .i64 0, .slice none 0 0] (0, 0) _ rfl (by (with_reducible repeat (first | refine blk_drewN ?_ _ | refine blk_drew ?_ | refine blk_alloc ?_ _)); refine blk_put (cs := #[.int .i64 0, .slice none 0 0]) ?_ 1 _ rfl; (with_reducible repeat (first | refine blk_drewN ?_ _ | refine blk_drew ?_ | refine blk_alloc ?_ _)); refine blk_put (cs := #[.int .i64 0, .slice none 0 0]) ?_ 0 _ rfl; (with_reducible repeat (first | refine blk_drewN ?_ _ | refine blk_drew ?_ | refine blk_alloc ?_ _)); exact BK340.out) Tryd.underlying57 rfl (by kernel_rfl)) rfl ?_
  exact ⟨_, eW, by first | exact Kd.R_nil _ _ _ _ _ | exact Kd.N_nil _ _ _ _ _ | exact Kd.V_nil _ _ _ _ _ | exact Kd.Q_nil _ _ _ _ _ | exact Kd.S_nil _ _ _ _ _, bel HB⟩
 simp only [Option.some.injEq, Prod.mk.injEq] at H
 obtain ⟨rfl, rfl, rfl⟩ := H
 go_enter Tryd.func63, Tryd.ntmps63
 go_wp2_with (first | ((with_reducible refine gate_dst (N := 2) rfl ?_); (try (refine gate_guard (by rfl) ?_; dsimp only)); refine bX (N := 2) rfl (cs := #[.int .i64 a0_0, .slice A0_1 l0_1.length c0_1]) (t := 57) ?_; intro gb339 hg w24 BK339 hb; have GW339 := gE hg HB; have GE339 := gE hg HB; replace HB := hS HB hb; clear hb hg) | ((with_reducible refine gate_dst (N := 4) rfl ?_); (try (refine gate_guard (by rfl) ?_; dsimp only)); refine bX (N := 4) rfl (cs := #[.int .i64 0, .slice none 0 0]) (t := 57) ?_; intro gb340 hg w25 BK340 hb; have GW340 := gE hg HB; have GE340 := gE hg HB; have NB339_340 := nbL hg BK339; have NB340_339 := nbR hg BK339; replace BK339 := bB BK339 hb; replace HB := hS HB hb; clear hb hg; have hnb26 := NB339_340.out; have hnc26 := NB340_339.out; obtain ⟨hcz27_0, hcz27_1, hfz27_0, hfz27_1⟩ := hC2 BK339) | ((with_reducible refine gG 53 (some 7) rfl rfl ?_); refine gC Tryd.func53 (impl_IsPuzzle.calls a0_0 _ _ l0_1 false _ (cU (Kd.C_below HR0_1.out HB.out)) HC0_1.out A3.out) ?_; rintro w28 hb; replace BK339 := bB BK339 hb; replace BK340 := bB BK340 hb; replace HB := hS HB hb; clear hb; obtain ⟨hcz29_0, hcz29_1, hfz29_0, hfz29_1⟩ := hC2 BK340))
 refine bodyPost_ret (results_ct rfl _ _ gb340 57 #[.int .i64 0, .slice none 0 0] (0, 0) _ rfl (by (with_reducible repeat (first | refine blk_drewN ?_ _ | refine blk_drew ?_ | refine blk_alloc ?_ _)); refine blk_put (cs := #[.int .i64 0, .slice none 0 0]) ?_ 1 _ rfl; (with_reducible repeat (first | refine blk_drewN ?_ _ | refine blk_drew ?_ | refine blk_alloc ?_ _)); refine blk_put (cs := #[.int .i64 0, .slice none 0 0]) ?_ 0 _ rfl; (with_reducible repeat (first | refine blk_drewN ?_ _ | refine blk_drew ?_ | refine blk_alloc ?_ _)); exact BK340.out) Tryd.underlying57 rfl (by kernel_rfl)) rfl ?_
 exact ⟨_, eW, by first | exact Kd.R_nil _ _ _ _ _ | exact Kd.N_nil _ _ _ _ _ | exact Kd.V_nil _ _ _ _ _ | exact Kd.Q_nil _ _ _ _ _ | exact Kd.S_nil _ _ _ _ _, bel HB⟩

/-! ### spec_DropClue: function 64 -/
def spec_DropClue.f (k : Nat) (a0_0 : Int) (l0_1 : List (S59)) (a1 : Int) : Option (Int × (List (S59)) × Bool) := (spec_pzGood.f k a0_0 l0_1).bind fun t349 => (if t349 = true then ((spec_l1In.f a1 0 (wrap64 ((l0_1.length : Int) - 1))).bind fun t350 => (if t350 = true then ((spec_pzWithout.f l0_1 a1).bind fun t351 => (some (a0_0, t351, true))) else (some (0, ([] : List (S59)), false)))) else (some (0, ([] : List (S59)), false)))
instance spec_DropClue.mI (k : Nat) : Mo (spec_DropClue.f k) (spec_DropClue.f (k + 1)) := by
 (repeat refine mE fun _ => ?_); unfold spec_DropClue.f; exact mG
theorem spec_DropClue.mono : ∀ a0 a1 a2 k, LeO (spec_DropClue.f k a0 a1 a2) (spec_DropClue.f (k + 1) a0 a1 a2) := fun a0 a1 a2 k => (spec_DropClue.mI k).out a0 a1 a2
def spec_DropClue.T3 : Bool × List (List Nat × List Nat) := (true, [([], []), ([0], [0]), ([], []), ([2], [2]), ([], []), ([3, 4], [3, 4]), ([1, 5], [1, 5]), ([6, 5, 0, 1, 2, 3, 4, 5, 6], [6]), ([7, 0, 1, 2, 3, 4, 5, 6, 7], [])])
def spec_DropClue.B3 : List Nat := [0, 1, 0, 4, 0, 28, 63, 127, 255]
theorem spec_DropClue.tab3 : rtab .any (opsOf Tryd.f64 3) = spec_DropClue.T3 := by kernel_rfl
theorem spec_DropClue.bits3 : waitsOk spec_DropClue.T3.2 spec_DropClue.B3 = true := by kernel_rfl
set_option maxHeartbeats 8000000 in
set_option maxRecDepth 100000 in
theorem spec_DropClue.calls (k : Nat) (a0_0 : Int) (A0_1 : Option Addr) (c0_1 : Nat) (l0_1 : List (S59)) (a1 : Int) (r1 : Int) (r2 : List (S59)) (r3 : Bool) (w : World) (hr0_1 : Kd.C k59 w A0_1 l0_1.length l0_1) (hc0_1 : l0_1.length ≤ c0_1) (h : spec_DropClue.f k a0_0 l0_1 a1 = some (r1, r2, r3)) :
  Calls Tryd.prog 64 #[.agg #[.int .i64 a0_0, .slice A0_1 l0_1.length c0_1], .int .i64 a1] w fun e w' => ∃ v1_ : Value, e = .returned (.tuple #[.agg #[.int .i64 r1, v1_], .bool r3]) ∧ Kd.R k59 59 w' w.heap.size (fun _ => True) v1_ r2 ∧ Below w.heap.size w w' := by
 have hu57 := Tryd.underlying57
 have HR0_1 := aM hr0_1
 have HC0_1 := aM hc0_1
 clear hr0_1 hc0_1
 have HB := aM (Below.refl w.heap.size w)
 have H := h
 clear h; unfold spec_DropClue.f at H
 replace H := bC H; obtain ⟨t349, A3, H⟩ := H
 refine iB H ?_ ?_ <;> clear H <;> rintro rfl H
 ·replace H := bC H; obtain ⟨t350, A5, H⟩ := H
  refine iB H ?_ ?_ <;> clear H <;> rintro rfl H
  ·replace H := bC H; obtain ⟨t351, A7, H⟩ := H
   simp only [Option.some.injEq, Prod.mk.injEq] at H
   obtain ⟨rfl, rfl, rfl⟩ := H
   go_enter Tryd.func64, Tryd.ntmps64
   try go_wp2_with (first | ((with_reducible refine gate_dst (N := 2) rfl ?_); (try (refine gate_guard (by rfl) ?_; dsimp only)); refine bX (N := 2) rfl (cs := #[.int .i64 a0_0, .slice A0_1 l0_1.length c0_1]) (t := 57) ?_; intro gb347 hg w8 BK347 hb; have GW347 := gE hg HB; have GE347 := gE hg HB; replace HB := hS HB hb; clear hb hg) | ((with_reducible refine gate_dst (N := 4) rfl ?_); (try (refine gate_guard (by rfl) ?_; dsimp only)); refine bX (N := 4) rfl (cs := #[.int .i64 0, .slice none 0 0]) (t := 57) ?_; intro gb348 hg w9 BK348 hb; have GW348 := gE hg HB; have GE348 := gE hg HB; have NB347_348 := nbL hg BK347; have NB348_347 := nbR hg BK347; replace BK347 := bB BK347 hb; replace HB := hS HB hb; clear hb hg; have hnb10 := NB347_348.out; have hnc10 := NB348_347.out; obtain ⟨hcz11_0, hcz11_1, hfz11_0, hfz11_1⟩ := hC2 BK347) | ((with_reducible refine gG 124 (some 7) rfl rfl ?_); refine gC Tryd.func124 (spec_pzGood.calls k a0_0 _ _ l0_1 true _ (cU (Kd.C_below HR0_1.out HB.out)) HC0_1.out A3.out) ?_; rintro w12 hb; replace BK347 := bB BK347 hb; replace BK348 := bB BK348 hb; replace HB := hS HB hb; clear hb; obtain ⟨hcz13_0, hcz13_1, hfz13_0, hfz13_1⟩ := hC2 BK347) | (go_at_call 115; (with_reducible refine (spec_l1In.calls a1 0 (wrap64 ((l0_1.length : Int) - 1)) true _ A5.out).mono ?_); rintro e w' ⟨rfl, ⟨nd, rfl⟩⟩; (try (rw [drewN_self w12]; generalize hq_ : World.drewN w12 _ = w12; have n0_ : Aside0 (w12.heap[gb347]? = some (.cells #[.int .i64 a0_0, .slice A0_1 l0_1.length c0_1] 57 (0, 0))) := ⟨by rw [← hq_]; exact (bU BK347.out)⟩; have n1_ : Aside0 (w12.heap[gb348]? = some (.cells #[.int .i64 0, .slice none 0 0] 57 (0, 0))) := ⟨by rw [← hq_]; exact (bU BK348.out)⟩; have n2_ : Aside0 (Below w.heap.size w w12) := ⟨by rw [← hq_]; exact (bel HB)⟩; clear BK347 BK348 HB hq_; have BK347 := n0_; have BK348 := n1_; have HB := n2_; clear n0_ n1_ n2_))))
   have n0_ := aM (blk_drew BK347.out)
   have n1_ := aM (blk_drew BK348.out)
   have n2_ := aM (below_drew1 HB.out)
   clear BK347
   clear BK348
   clear HB
   have BK347 := n0_
   have BK348 := n1_
   have HB := n2_
   clear n0_ n1_ n2_
   refine start_ (n := 9) (S := fun w' => w'.cell? ⟨gb347, 0, none⟩ = some (.int .i64 a0_0) ∧ w'.cell? ⟨gb347, 1, none⟩ = some (.slice A0_1 l0_1.length c0_1)) (ds := []) #[false, false, false, false, false, false, false, false, false] (by kernel_rfl) rfl rfl ⟨(blk_cell BK347.out 0).trans rfl, (blk_cell BK347.out 1).trans rfl⟩ (fun hHeld => ?_); refine with_tabW spec_DropClue.tab3 spec_DropClue.bits3 (fun HT_ HW_ => ?_)
   generalize w12.drew = w14 at BK347 BK348 HB hHeld ⊢
   refine pure_ (i := 0) (N := some 19) (v := ?_) (a' := ?_) #[true, false, false, false, false, false, false, false, false] rfl rfl (any_of HT_.out (by kernel_rfl)) (fun _ _ _ h => h) (Or.inl ⟨by rfl, ?_⟩) ?_ ?_
   rotate_left
   ·intro w'
    go_simp
    with_reducible rfl
   rotate_left
   ·simp only [Act.put, List.setIfInBounds_toArray, List.set_cons_zero, List.set_cons_succ, i64_w, i32_w]
    rfl
   refine pure_ (i := 2) (N := some 21) (v := ?_) (a' := ?_) #[true, false, true, false, false, false, false, false, false] rfl rfl (any_of HT_.out (by kernel_rfl)) (fun _ _ _ h => h) (Or.inl ⟨by rfl, ?_⟩) ?_ ?_
   rotate_left
   ·intro w'
    go_simp
    with_reducible rfl
   rotate_left
   ·simp only [Act.put, List.setIfInBounds_toArray, List.set_cons_zero, List.set_cons_succ, i64_w, i32_w]
    rfl
   refine pure_ (i := 4) (N := some 23) (v := ?_) (a' := ?_) #[true, false, true, false, true, false, false, false, false] rfl rfl (any_of HT_.out (by kernel_rfl)) (fun _ _ _ h => h) (Or.inl ⟨by rfl, ?_⟩) ?_ ?_
   rotate_left
   ·intro w'
    go_simp
    with_reducible rfl
   rotate_left
   ·simp only [Act.put, List.setIfInBounds_toArray, List.set_cons_zero, List.set_cons_succ, i64_w, i32_w]
    rfl
   refine take_ (i := 1) (N := some 20) (v := ?_) (a' := ?_) #[true, true, true, false, true, false, false, false, false] rfl rfl (take_ofW HT_.out HW_.out (by kernel_rfl)) (fun _ _ _ h => h) (Or.inl ⟨by rfl, ?_⟩) hHeld ?_ ?_
   rotate_left
   ·rintro w' ⟨s0, s1⟩
    go_simp
    with_reducible rfl
   rotate_left
   ·simp only [Act.put, List.setIfInBounds_toArray, List.set_cons_zero, List.set_cons_succ, i64_w, i32_w]
    rfl
   refine take_ (i := 3) (N := some 22) (v := ?_) (a' := ?_) #[true, true, true, true, true, false, false, false, false] rfl rfl (take_ofW HT_.out HW_.out (by kernel_rfl)) (fun _ _ _ h => h) (Or.inl ⟨by rfl, ?_⟩) hHeld ?_ ?_
   rotate_left
   ·rintro w' ⟨s0, s1⟩
    go_simp
    with_reducible rfl
   rotate_left
   ·simp only [Act.put, List.setIfInBounds_toArray, List.set_cons_zero, List.set_cons_succ, i64_w, i32_w]
    rfl
   refine one_ (i := 5) (N := some 24) #[true, true, true, true, true, true, false, false, false] rfl rfl (one_of HT_.out (by kernel_rfl)) (by decide) (fun K hK => ?_)
   refine goes_ Tryd.func126 (by kernel_rfl) rfl #[.slice A0_1 l0_1.length c0_1, .int .i64 a1] (by rfl) rfl rfl (by (try simp only [List.map_toArray, List.map_cons, List.map_nil]); first | done | rfl | (simp only [List.length_drop, List.length_take]; rfl)) ?_
   with_reducible refine (spec_pzWithout.calls _ _ l0_1 a1 t351 _ ?side1 ?side2 A7.out).mono ?_
   (case side1 => exact cU (Kd.C_below HR0_1.out HB.out))
   (case side2 => exact HC0_1.out)
   rintro e w15 ⟨v352, rfl, ho0, hb⟩
   refine ⟨_, rfl, ?_⟩
   have n0_ := rL ho0 HB
   have n1_ := bB BK347 hb
   have n2_ := bB BK348 hb
   have n3_ := hS HB hb
   clear BK347
   clear BK348
   clear HB
   have HO353 := n0_
   have BK347 := n1_
   have BK348 := n2_
   have HB := n3_
   clear n0_ n1_ n2_ n3_
   (try clear hb)
   (try clear hb2)
   (try clear hk)
   (try clear hi)
   (try clear ho0)
   obtain ⟨Ao16, co16, eo16⟩ := Kd.R_slice HO353.out
   (first | subst eo16 | (injection eo16 with f1_ f2_ f3_; have f4_ := f1_.symm; have f5_ := f3_.symm; clear f1_ f2_ f3_; subst f4_; subst f5_))
   refine hK.out _ _ ⟨(blk_cell BK347.out 0).trans rfl, (blk_cell BK347.out 1).trans rfl⟩ (fun hHeld => ?_)
   clear hK K
   refine norm_ (a' := ?_) ?_ ?_
   rotate_left
   ·show Act.put _ (some 24) _ = _
    simp only [Act.put, List.setIfInBounds_toArray, List.set_cons_zero, List.set_cons_succ, i64_w, i32_w]
    rfl
   refine pure_ (i := 6) (N := some 25) (v := ?_) (a' := ?_) #[true, true, true, true, true, true, true, false, false] rfl rfl (any_of HT_.out (by kernel_rfl)) (fun _ _ _ h => h) (Or.inl ⟨by rfl, ?_⟩) ?_ ?_
   rotate_left
   ·intro w'
    go_simp
    with_reducible rfl
   rotate_left
   ·simp only [Act.put, List.setIfInBounds_toArray, List.set_cons_zero, List.set_cons_succ, i64_w, i32_w]
    rfl
   refine one_ (i := 7) (N := none) #[true, true, true, true, true, true, true, true, false] rfl rfl (one_of HT_.out (by kernel_rfl)) (by decide) (fun K hK => ?_)
   have hs17 : w15.cell? ⟨gb348, 0, none⟩ = some (.int .i64 0) := (blk_cell BK348.out 0).trans rfl
   have hfs17 := blk_frozen BK348.out 0
   have hns17_0 := NB347_348.out
   have hms17_0 := NB348_347.out
   have hs18 : w15.cell? ⟨gb348, 1, none⟩ = some (.slice none 0 0) := (blk_cell BK348.out 1).trans rfl
   have hfs18 := blk_frozen BK348.out 1
   have hns18_0 := NB347_348.out
   have hms18_0 := NB348_347.out
   refine skip_ (w1 := ?_) (by rfl) rfl ?_ ?_
   rotate_left
   ·go_simp
    rfl
   refine hK.out _ _ ⟨((cell_far (p := ⟨gb348, _, none⟩) NB347_348.out _).trans (((cell_far (p := ⟨gb348, _, none⟩) NB347_348.out _).trans (hHeld.1)))), ((cell_far (p := ⟨gb348, _, none⟩) NB347_348.out _).trans (((cell_far (p := ⟨gb348, _, none⟩) NB347_348.out _).trans (hHeld.2))))⟩ (fun hHeld => ?_)
   clear hK K
   refine pure_ (i := 8) (N := some 5) (v := ?_) (a' := ?_) #[true, true, true, true, true, true, true, true, true] rfl rfl (any_of HT_.out (by kernel_rfl)) (fun _ _ _ h => h) (Or.inl ⟨by rfl, ?_⟩) ?_ ?_
   rotate_left
   ·intro w'
    go_simp
    with_reducible rfl
   rotate_left
   ·simp only [Act.put, List.setIfInBounds_toArray, List.set_cons_zero, List.set_cons_succ, i64_w, i32_w]
    rfl
   refine done_ (done_of HT_.out (by kernel_rfl)) ?_
   try go_wp2
   refine bodyPost_ret (results_ct rfl _ _ gb348 57 #[.int .i64 a0_0, .slice Ao16 t351.length co16] (0, 0) _ rfl (by (with_reducible repeat (first | refine blk_drewN ?_ _ | refine blk_drew ?_ | refine blk_alloc ?_ _)); refine blk_put (cs := #[.int .i64 a0_0, .slice none 0 0]) ?_ 1 _ rfl; (with_reducible repeat (first | refine blk_drewN ?_ _ | refine blk_drew ?_ | refine blk_alloc ?_ _)); refine blk_put (cs := #[.int .i64 0, .slice none 0 0]) ?_ 0 _ rfl; (with_reducible repeat (first | refine blk_drewN ?_ _ | refine blk_drew ?_ | refine blk_alloc ?_ _)); exact BK348.out) Tryd.underlying57 rfl (by kernel_rfl)) rfl ?_
   exact ⟨_, eW, rU (Kd.R_mono (Kd.R_far (p := ⟨gb348, 1, none⟩) (Kd.R_far (p := ⟨gb348, 0, none⟩) (Kd.R_types HO353.out BK348.out (by decide)) (fun _ hk => hk.2) (.int .i64 a0_0)) (fun _ hk => hk.2) (.slice Ao16 t351.length co16)) (fun _ hk => trivial)), bel HB⟩
  simp only [Option.some.injEq, Prod.mk.injEq] at H
  obtain ⟨rfl, rfl, rfl⟩ := H
  go_enter Tryd.func64, Tryd.ntmps64
  go_wp2_with (first | ((with_reducible refine gate_dst (N := 2) rfl ?_); (try (refine gate_guard (by rfl) ?_; dsimp only)); refine bX (N := 2) rfl (cs := #[.int .i64 a0_0, .slice A0_1 l0_1.length c0_1]) (t := 57) ?_; intro gb347 hg w19 BK347 hb; have GW347 := gE hg HB; have GE347 := gE hg HB; replace HB := hS HB hb; clear hb hg) | ((with_reducible refine gate_dst (N := 4) rfl ?_); (try (refine gate_guard (by rfl) ?_; dsimp only)); refine bX (N := 4) rfl (cs := #[.int .i64 0, .slice none 0 0]) (t := 57) ?_; intro gb348 hg w20 BK348 hb; have GW348 := gE hg HB; have GE348 := gE hg HB; have NB347_348 := nbL hg BK347; have NB348_347 := nbR hg BK347; replace BK347 := bB BK347 hb; replace HB := hS HB hb; clear hb hg; have hnb21 := NB347_348.out; have hnc21 := NB348_347.out; obtain ⟨hcz22_0, hcz22_1, hfz22_0, hfz22_1⟩ := hC2 BK347) | ((with_reducible refine gG 124 (some 7) rfl rfl ?_); refine gC Tryd.func124 (spec_pzGood.calls k a0_0 _ _ l0_1 true _ (cU (Kd.C_below HR0_1.out HB.out)) HC0_1.out A3.out) ?_; rintro w23 hb; replace BK347 := bB BK347 hb; replace BK348 := bB BK348 hb; replace HB := hS HB hb; clear hb; obtain ⟨hcz24_0, hcz24_1, hfz24_0, hfz24_1⟩ := hC2 BK347) | (go_at_call 115; (with_reducible refine (spec_l1In.calls a1 0 (wrap64 ((l0_1.length : Int) - 1)) false _ A5.out).mono ?_); rintro e w' ⟨rfl, ⟨nd, rfl⟩⟩; (try (rw [drewN_self w23]; generalize hq_ : World.drewN w23 _ = w23; have n0_ : Aside0 (w23.heap[gb347]? = some (.cells #[.int .i64 a0_0, .slice A0_1 l0_1.length c0_1] 57 (0, 0))) := ⟨by rw [← hq_]; exact (bU BK347.out)⟩; have n1_ : Aside0 (w23.heap[gb348]? = some (.cells #[.int .i64 0, .slice none 0 0] 57 (0, 0))) := ⟨by rw [← hq_]; exact (bU BK348.out)⟩; have n2_ : Aside0 (Below w.heap.size w w23) := ⟨by rw [← hq_]; exact (bel HB)⟩; clear BK347 BK348 HB hq_; have BK347 := n0_; have BK348 := n1_; have HB := n2_; clear n0_ n1_ n2_)); obtain ⟨hcz25_0, hcz25_1, hfz25_0, hfz25_1⟩ := hC2 BK348))
  refine bodyPost_ret (results_ct rfl _ _ gb348 57 #[.int .i64 0, .slice none 0 0] (0, 0) _ rfl (by (with_reducible repeat (first | refine blk_drewN ?_ _ | refine blk_drew ?_ | refine blk_alloc ?_ _)); refine blk_put (cs := #[.int .i64 0, .slice none 0 0]) ?_ 1 _ rfl; (with_reducible repeat (first | refine blk_drewN ?_ _ | refine blk_drew ?_ | refine blk_alloc ?_ _)); refine blk_put (cs := #[.int .i64 0, .slice none 0 0]) ?_ 0 _ rfl; (with_reducible repeat (first | refine blk_drewN ?_ _ | refine blk_drew ?_ | refine blk_alloc ?_ _)); exact BK348.out) Tryd.underlying57 rfl (by kernel_rfl)) rfl ?_
  exact ⟨_, eW, by first | exact Kd.R_nil _ _ _ _ _ | exact Kd.N_nil _ _ _ _ _ | exact Kd.V_nil _ _ _ _ _ | exact Kd.Q_nil _ _ _ _ _ | exact Kd.S_nil _ _ _ _ _, bel HB⟩
 simp only [Option.some.injEq, Prod.mk.injEq] at H
 obtain ⟨rfl, rfl, rfl⟩ := H
 go_enter Tryd.func64, Tryd.ntmps64
 go_wp2_with (first | ((with_reducible refine gate_dst (N := 2) rfl ?_); (try (refine gate_guard (by rfl) ?_; dsimp only)); refine bX (N := 2) rfl (cs := #[.int .i64 a0_0, .slice A0_1 l0_1.length c0_1]) (t := 57) ?_; intro gb347 hg w26 BK347 hb; have GW347 := gE hg HB; have GE347 := gE hg HB; replace HB := hS HB hb; clear hb hg) | ((with_reducible refine gate_dst (N := 4) rfl ?_); (try (refine gate_guard (by rfl) ?_; dsimp only)); refine bX (N := 4) rfl (cs := #[.int .i64 0, .slice none 0 0]) (t := 57) ?_; intro gb348 hg w27 BK348 hb; have GW348 := gE hg HB; have GE348 := gE hg HB; have NB347_348 := nbL hg BK347; have NB348_347 := nbR hg BK347; replace BK347 := bB BK347 hb; replace HB := hS HB hb; clear hb hg; have hnb28 := NB347_348.out; have hnc28 := NB348_347.out; obtain ⟨hcz29_0, hcz29_1, hfz29_0, hfz29_1⟩ := hC2 BK347) | ((with_reducible refine gG 124 (some 7) rfl rfl ?_); refine gC Tryd.func124 (spec_pzGood.calls k a0_0 _ _ l0_1 false _ (cU (Kd.C_below HR0_1.out HB.out)) HC0_1.out A3.out) ?_; rintro w30 hb; replace BK347 := bB BK347 hb; replace BK348 := bB BK348 hb; replace HB := hS HB hb; clear hb; obtain ⟨hcz31_0, hcz31_1, hfz31_0, hfz31_1⟩ := hC2 BK348))
 refine bodyPost_ret (results_ct rfl _ _ gb348 57 #[.int .i64 0, .slice none 0 0] (0, 0) _ rfl (by (with_reducible repeat (first | refine blk_drewN ?_ _ | refine blk_drew ?_ | refine blk_alloc ?_ _)); refine blk_put (cs := #[.int .i64 0, .slice none 0 0]) ?_ 1 _ rfl; (with_reducible repeat (first | refine blk_drewN ?_ _ | refine blk_drew ?_ | refine blk_alloc ?_ _)); refine blk_put (cs := #[.int .i64 0, .slice none 0 0]) ?_ 0 _ rfl; (with_reducible repeat (first | refine blk_drewN ?_ _ | refine blk_drew ?_ | refine blk_alloc ?_ _)); exact BK348.out) Tryd.underlying57 rfl (by kernel_rfl)) rfl ?_
 exact ⟨_, eW, by first | exact Kd.R_nil _ _ _ _ _ | exact Kd.N_nil _ _ _ _ _ | exact Kd.V_nil _ _ _ _ _ | exact Kd.Q_nil _ _ _ _ _ | exact Kd.S_nil _ _ _ _ _, bel HB⟩

end Go.Proofs.YtcogjabdddikjaaDoor.PHidAll
