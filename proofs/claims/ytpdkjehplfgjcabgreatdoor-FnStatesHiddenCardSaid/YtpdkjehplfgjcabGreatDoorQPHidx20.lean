-- squeezed; PRINTED by drive.py (a program of this session's, over the kit's print.py; wip/tools/drive.py). Lean checks it.
import Derived.Test.YtpdkjehplfgjcabGreatDoorQPHidx0
import Derived.Test.YtpdkjehplfgjcabGreatDoorQPHidx1
import Derived.Test.YtpdkjehplfgjcabGreatDoorQPHidx2
import Derived.Test.YtpdkjehplfgjcabGreatDoorQPHidx5
import Derived.Test.YtpdkjehplfgjcabGreatDoorQPHidx7
import Derived.Test.YtpdkjehplfgjcabGreatDoorQPHidx8
import Derived.Test.YtpdkjehplfgjcabGreatDoorQPHidx9
import Derived.Test.YtpdkjehplfgjcabGreatDoorQPHidx10
import Derived.Test.YtpdkjehplfgjcabGreatDoorQPHidx11
import Derived.Test.YtpdkjehplfgjcabGreatDoorQPHidx13
import Derived.Test.YtpdkjehplfgjcabGreatDoorQPHidx14
import Derived.Test.YtpdkjehplfgjcabGreatDoorQPHidx15
import Derived.Test.YtpdkjehplfgjcabGreatDoorQPHidx16
import Derived.Test.YtpdkjehplfgjcabGreatDoorQPHidx17
import Derived.Test.YtpdkjehplfgjcabGreatDoorQPHidx18
import Derived.Test.YtpdkjehplfgjcabGreatDoorQRange
import Derived.Test.YtpdkjehplfgjcabGreatDoorQPHidx19
import Derived.Test.YtpdkjehplfgjcabGreatDoorQUp
import Derived.Test.YtpdkjehplfgjcabGreatDoorQSq
namespace Go.Proofs.YtpdkjehplfgjcabGreatDoor.PHid
open Go.RowKit Go.Proofs.YtpdkjehplfgjcabGreatDoorW.PrintWords Go.Proofs.YtpdkjehplfgjcabGreatDoorW.PrintLast Go.Proofs.YtpdkjehplfgjcabGreatDoorW.PrintMore
attribute [local go_sem] max2_int min2_int max_two min_two max_three min_three max_four min_four   -- for this text's walks alone
set_option linter.unusedVariables false
set_option linter.unusedSimpArgs false

attribute [local go_sem high] eqA40
set_option maxHeartbeats 8000000 in
set_option maxRecDepth 100000 in
theorem laws_FnStatesHidden.calls (k : Nat) (A0 : Option Addr) (c0 : Nat) (l0 : List Int) (A1 : Option Addr) (c1 : Nat) (l1 : List Int) (r : Bool) (w : World) (hr0 : Kd.C (Kd.int .u8) w A0 l0.length l0) (hc0 : l0.length ≤ c0) (hr1 : Kd.C (Kd.int .u8) w A1 l1.length l1) (hc1 : l1.length ≤ c1) (h : laws_FnStatesHidden.f k l0 l1 = some r) :
  Calls Tryz.prog 3 #[.slice A0 l0.length c0, .slice A1 l1.length c1] w fun e w' => e = .returned (.bool r) ∧ Below w.heap.size w w' := by
 have hu28 := Tryz.underlying28
 have hu40 := Tryz.underlying40
 have HR0 := aM hr0
 have HC0 := aM hc0
 clear hr0 hc0
 have HR1 := aM hr1
 have HC1 := aM hc1
 clear hr1 hc1
 have HB := aM (Below.refl w.heap.size w)
 have H := h
 clear h; unfold laws_FnStatesHidden.f at H
 replace H := bC H; obtain ⟨t621, A3, H⟩ := H
 refine iB H ?_ ?_ <;> clear H <;> rintro rfl H
 ·obtain rfl := Option.some.inj H
  go_enter Tryz.func3, Tryz.ntmps3
  go_wp2_with (first | ((with_reducible refine gG 4 (some 67) rfl rfl ?_); refine gL Tryz.func4 #[.slice A0 l0.length c0, .slice A1 l1.length c1] ?_; (with_reducible refine (laws_big.calls _ _ l0 _ _ l1 true _ (cU HR0.out) HC0.out (cU HR1.out) HC1.out A3.out).mono ?_); rintro e w' ⟨rfl, ⟨nd, rfl⟩⟩; refine ⟨_, rfl, ?_⟩))
  go_ret
  exact ⟨eW, bel HB⟩
 replace H := bC H; obtain ⟨⟨t622, t623, t624⟩, A5, H⟩ := H; try dsimp only at H
 replace H := bC H; obtain ⟨⟨t625, t626, t629⟩, A6, H⟩ := H; try dsimp only at H
 replace H := bC H; obtain ⟨⟨t631, t632, t635⟩, A7, H⟩ := H; try dsimp only at H
 have HC8 := aM H
 clear H
 go_enter Tryz.func3, Tryz.ntmps3
 go_upto_region 6 with (first | ((with_reducible refine gG 4 (some 67) rfl rfl ?_); refine gL Tryz.func4 #[.slice A0 l0.length c0, .slice A1 l1.length c1] ?_; (with_reducible refine (laws_big.calls _ _ l0 _ _ l1 false _ (cU HR0.out) HC0.out (cU HR1.out) HC1.out A3.out).mono ?_); rintro e w' ⟨rfl, ⟨nd, rfl⟩⟩; refine ⟨_, rfl, ?_⟩) | ((with_reducible refine gG 5 (some 70) rfl rfl ?_); refine gC Tryz.func5 (spec_DrawMakePuzzle.calls k _ _ l0 t622 t623 t624 _ (cU HR0.out) HC0.out A5.out) ?_; rintro w9 hb; replace HB := hS HB hb; clear hb) | ((with_reducible refine gG 6 (some 78) rfl rfl ?_); refine gD Tryz.func6 (impl_MakePuzzle.calls t622 t623 t624 t625 t626 t629 _ A6.out) ?_; rintro w10 v627 ⟨ho0, hb⟩; have HO628 := rL ho0 HB; replace HB := hS HB hb; clear hb ho0) | ((with_reducible refine gate_dst (N := 8) rfl ?_); (try (refine gate_guard (by rfl) ?_; dsimp only)); refine bX (N := 8) rfl (cs := #[.int .i64 0, .slice none 0 0]) (t := 28) ?_; intro gb630 hg w11 BK630 hb; have GW630 := gE hg HB; have GE630 := gE hg HB; replace HO628 := rB HO628 hb; replace HB := hS HB hb; clear hb hg; obtain ⟨hcz12_0, hcz12_1, hfz12_0, hfz12_1⟩ := hC2 BK630; obtain ⟨Ao13, co13, eo13⟩ := Kd.R_slice HO628.out; subst eo13) | ((with_reducible refine gG 7 (some 85) rfl rfl ?_); refine gD Tryz.func7 (spec_MakePuzzle.calls k t622 t623 t624 t631 t632 t635 _ A7.out) ?_; rintro w14 v633 ⟨ho0, hb⟩; have HO634 := aM (Kd.R_lower (Kd.R_new' ho0 (Kd.R_lt (rQ2 HO628 BK630))) (below_size (bel HB))); replace HO628 := aM (Kd.R_elder' (rQ2 HO628 BK630) (Kd.R_base ho0) hb); replace BK630 := aM (blk_below (g := gb630) (o := .cells #[.int .i64 t625, .slice Ao13 t626.length co13] 28 (0, 0)) (bP2 BK630) hb); replace HB := hS HB hb; clear hb ho0) | ((with_reducible refine gate_dst (N := 10) rfl ?_); (try (refine gate_guard (by rfl) ?_; dsimp only)); refine bX (N := 10) rfl (cs := #[.int .i64 0, .slice none 0 0]) (t := 28) ?_; intro gb636 hg w15 BK636 hb; have GW636 := gE hg HB; have GE636 := gE hg HB; have NB630_636 := nbL hg BK630; have NB636_630 := nbR hg BK630; replace HO628 := rB HO628 hb; replace HO634 := rB HO634 hb; replace BK630 := bB BK630 hb; replace HB := hS HB hb; clear hb hg; have hnb16 := NB636_630.out; have hnc16 := NB630_636.out; obtain ⟨hcz17_0, hcz17_1, hfz17_0, hfz17_1⟩ := hC2 BK636; obtain ⟨Ao18, co18, eo18⟩ := Kd.R_slice HO634.out; subst eo18))
 (try simp only [Act.put, List.setIfInBounds_toArray, List.set_cons_zero, List.set_cons_succ])
 go_cut [96] from 65 to 96 (fun v96 wc => ∃ (kq : Nat) (x96_7 : Bool), v96 = .bool x96_7 ∧ Aside0 (laws_FnStatesHidden.j0 kq l1 t622 t623 t629 x96_7 t625 t626 = some r) ∧ Aside0 (kq ≤ k) ∧ Aside0 (Kd.R k40 40 wc w.heap.size (fun _ => True) (.slice Ao13 t626.length co13) t626) ∧ Aside0 (wc.heap[gb630]? = some (.cells #[.int .i64 t625, (.slice Ao13 t626.length co13)] 28 (0, 0))) ∧ Aside0 (Below w.heap.size w wc))
 case first => as_aux_lemma =>
  have H := HC8.out
  clear HC8
  refine iN H ?_; clear H; intro c19 H
  have c19b0 := bF c19
  (try have c19b1 := nD c19)
  (try have c19b2 := nQ c19)
  clear c19
  (first | rw [c19b0] | (simp only [i64_w, i32_w]; rw [c19b0]) | skip)
  replace H := bC H; obtain ⟨t637, A20, H⟩ := H
  have H' := aM H
  clear H
  have hnb21 := NB630_636.out
  have hnc21 := NB636_630.out
  obtain ⟨hcz22_0, hcz22_1, hfz22_0, hfz22_1⟩ := hC2 BK630
  obtain ⟨hcz23_0, hcz23_1, hfz23_0, hfz23_1⟩ := hC2 BK636
  go_wp2_with (first | (go_at_call 8; (with_reducible refine (laws_xPuzzle.calls k t625 _ _ t626 t631 _ _ t632 t637 _ ?side1 ((Kd.R_reads' HO628.out).2.1) ?side3 ((Kd.R_reads' HO634.out).2.1) A20.out).mono ?_); (case side1 => refine (Kd.R_reads' (e := 40) (base := w.heap.size) (ok := fun k_ => (True ∧ some k_ ≠ (.slice Ao18 t632.length co18 : Value).ownBlock)) (n := t626.length) (c := co13) ?_).2.2; exact (rQ2 HO628 BK636)); (case side3 => refine (Kd.R_reads' (e := 40) (base := w.heap.size) (ok := fun k_ => (True ∧ some k_ ≠ (.slice Ao13 t626.length co13 : Value).ownBlock)) (n := t632.length) (c := co18) ?_).2.2; exact (rQ2 HO634 BK636)); rintro e w24 ⟨rfl, hb⟩; replace HO628 := aM (Kd.R_below (rQ2 HO628 BK636) hb); replace HO634 := aM (Kd.R_below (rQ2 HO634 BK636) hb); replace BK630 := bK BK630 hb; replace BK636 := aM (blk_below (g := gb636) (o := .cells #[.int .i64 t631, .slice Ao18 t632.length co18] 28 (0, 0)) (bP2 BK636) hb); replace HB := hS HB hb; clear hb))
  go_meet
  case rel => exact ⟨_, (!t637), rF, H', kL, ⟨rU (Kd.R_mono HO628.out (fun _ hk => trivial))⟩, ⟨bU BK630.out⟩, hV HB⟩
 case rest => as_aux_lemma =>
  clear HC8
  try clear c1;try clear hcz12_0;try clear hcz12_1;try clear hcz17_0;try clear hcz17_1;try clear hfz12_0;try clear hfz12_1;try clear hfz17_0;try clear hfz17_1
  obtain ⟨kq, x96_7, rfl, HA, HJ7, HO_631001, BK630, HB⟩ := hcut
  obtain rfl | ⟨kj7, rfl⟩ := fz kq
  ·exact zA HA
  have H := HA.out
  clear HA
  simp only [laws_FnStatesHidden.j0] at H
  refine iBn H ?_; clear H; rintro rfl H
  have HC26 := aM H
  clear H
  go_upto_if 97 with (fail)
  go_cut [] from 97 to 97 (fun wc => ∃ (kq : Nat), Aside0 (laws_FnStatesHidden.j3 kq l1 = some r) ∧ Aside0 (kq ≤ kj7) ∧ Aside0 (Kd.R k40 40 wc w.heap.size (fun _ => True) (.slice Ao13 t626.length co13) t626) ∧ Aside0 (wc.heap[gb630]? = some (.cells #[.int .i64 t625, (.slice Ao13 t626.length co13)] 28 (0, 0))) ∧ Aside0 (Below w.heap.size w wc))
  case first => as_aux_lemma =>
   have H := HC26.out
   clear HC26
   refine iB H ?_ ?_ <;> clear H <;> rintro rfl H
   ·replace H := bC H; obtain ⟨⟨t638, t641⟩, A28, H⟩ := H; try dsimp only at H
    replace H := bC H; obtain ⟨⟨t642, t643⟩, A29, H⟩ := H; try dsimp only at H
    replace H := bC H; obtain ⟨⟨t644, t645⟩, A30, H⟩ := H; try dsimp only at H
    replace H := bC H; obtain ⟨⟨t646, t647⟩, A31, H⟩ := H; try dsimp only at H
    replace H := bC H; obtain ⟨⟨t648, t649⟩, A32, H⟩ := H; try dsimp only at H
    replace H := bC H; obtain ⟨⟨t650, t651⟩, A33, H⟩ := H; try dsimp only at H
    have HC34 := aM H
    clear H
    obtain ⟨hcz35_0, hcz35_1, hfz35_0, hfz35_1⟩ := hC2 BK630
    go_upto_region 15 with (first | ((with_reducible refine gG 9 (some 100) rfl rfl ?_); refine gD Tryz.func9 (impl_Solutions.calls t625 _ _ t626 t638 t641 _ (cU (Kd.R_reads' HO_631001.out).2.2) ((Kd.R_reads' HO_631001.out).2.1) A28.out) ?_; rintro w36 v639 ⟨ho0, hb⟩; have HO640 := rL ho0 HB; replace HO_631001 := rB HO_631001 hb; replace BK630 := bB BK630 hb; replace HB := hS HB hb; clear hb ho0) | ((with_reducible refine gG 10 (some 105) rfl rfl ?_); refine gC Tryz.func10 (impl_NumberOfState.calls kj7 t622 t642 t643 _ A29.out) ?_; rintro w37 hb; replace HO_631001 := rB HO_631001 hb; replace HO640 := rB HO640 hb; replace BK630 := bB BK630 hb; replace HB := hS HB hb; clear hb) | ((with_reducible refine gG 11 (some 112) rfl rfl ?_); refine gC Tryz.func11 (impl_DoesFit.calls kj7 3 0 t642 t622 t644 t645 _ A30.out) ?_; rintro w38 hb; replace HO_631001 := rB HO_631001 hb; replace HO640 := rB HO640 hb; replace BK630 := bB BK630 hb; replace HB := hS HB hb; clear hb) | ((with_reducible refine gG 12 (some 117) rfl rfl ?_); refine gC Tryz.func12 (impl_CountOn.calls t622 t646 t647 _ A31.out) ?_; rintro w39 hb; replace HO_631001 := rB HO_631001 hb; replace HO640 := rB HO640 hb; replace BK630 := bB BK630 hb; replace HB := hS HB hb; clear hb) | ((with_reducible refine gG 11 (some 124) rfl rfl ?_); refine gC Tryz.func11 (impl_DoesFit.calls kj7 1 t646 0 t622 t648 t649 _ A32.out) ?_; rintro w40 hb; replace HO_631001 := rB HO_631001 hb; replace HO640 := rB HO640 hb; replace BK630 := bB BK630 hb; replace HB := hS HB hb; clear hb) | ((with_reducible refine gG 13 (some 129) rfl rfl ?_); refine gD Tryz.func13 (impl_MovesOf.calls kj7 t622 t650 t651 _ A33.out) ?_; rintro w41 v652 ⟨ho0, hb⟩; have HO653 := rL ho0 HB; replace HO_631001 := rB HO_631001 hb; replace HO640 := rB HO640 hb; replace BK630 := bB BK630 hb; replace HB := hS HB hb; clear hb ho0))
    (try simp only [Act.put, List.setIfInBounds_toArray, List.set_cons_zero, List.set_cons_succ])
    go_cut [179] from 98 to 179 (fun v179 wc => ∃ (kq : Nat) (x179_33 : Bool), v179 = .bool x179_33 ∧ Aside0 (laws_FnStatesHidden.j1 kq l1 t622 t650 x179_33 = some r) ∧ Aside0 (kq ≤ kj7) ∧ Aside0 (Kd.R (Kd.int .i64) 3 wc w.heap.size (fun _ => True) v652 t650) ∧ Aside0 (Kd.R k40 40 wc w.heap.size (fun _ => True) (.slice Ao13 t626.length co13) t626) ∧ Aside0 (wc.heap[gb630]? = some (.cells #[.int .i64 t625, (.slice Ao13 t626.length co13)] 28 (0, 0))) ∧ Aside0 (Below w.heap.size w wc))
    case first => as_aux_lemma =>
     have H := HC34.out
     clear HC34
     replace H := bC H; obtain ⟨t654, A42, H⟩ := H
     refine iBy H ?_; clear H; rintro rfl H
     refine iY H ?_; clear H; intro c44 H
     have c44b0 := qT c44
     have c44b1 := nF c44
     clear c44
     (first | rw [c44b0] | (simp only [i64_w, i32_w]; rw [c44b0]) | skip)
     refine iBy H ?_; clear H; rintro rfl H
     replace H := bC H; obtain ⟨t655, A46, H⟩ := H
     refine iBy H ?_; clear H; rintro rfl H
     refine iBy H ?_; clear H; rintro rfl H
     refine iBy H ?_; clear H; rintro rfl H
     refine iBy H ?_; clear H; rintro rfl H
     refine iBy H ?_; clear H; rintro rfl H
     refine iBy H ?_; clear H; rintro rfl H
     refine iBy H ?_; clear H; rintro rfl H
     have H' := aM H
     clear H
     obtain ⟨hcz54_0, hcz54_1, hfz54_0, hfz54_1⟩ := hC2 BK630
     go_wp2_with (first | ((with_reducible refine gG 14 (some 133) rfl rfl ?_); refine gC Tryz.func14 (impl_IsPuzzle.calls t625 _ _ t626 true _ (cU (Kd.R_reads' HO_631001.out).2.2) ((Kd.R_reads' HO_631001.out).2.1) A42.out) ?_; rintro w55 hb; replace HO_631001 := rB HO_631001 hb; replace HO640 := rB HO640 hb; replace HO653 := rB HO653 hb; replace BK630 := bB BK630 hb; replace HB := hS HB hb; clear hb; obtain ⟨hcz56_0, hcz56_1, hfz56_0, hfz56_1⟩ := hC2 BK630; obtain ⟨Ao57, co57, eo57⟩ := Kd.R_slice HO640.out; subst eo57) | (go_at_call 15; (with_reducible refine (laws_xText.calls kj7 _ _ t638 t622 true _ (cU (Kd.R_reads' HO640.out).2.2) ((Kd.R_reads' HO640.out).2.1) A46.out).mono ?_); rintro e w' ⟨rfl, ⟨nd, rfl⟩⟩))
     go_meet
     case rel => exact ⟨_, (!t651), rF, H', ⟨by have := HJ7.out; first | omega | exact Nat.le_refl _⟩, ⟨rU HO653.out⟩, ⟨rU HO_631001.out⟩, ⟨bU BK630.out⟩, hV HB⟩
    case rest => as_aux_lemma =>
     clear HC34
     try clear hcz35_0;try clear hcz35_1;try clear hfz35_0;try clear hfz35_1
     obtain ⟨kq, x179_33, rfl, HA, HJ33, HO_22, HO_631001, BK630, HB⟩ := hcut
     obtain rfl | ⟨kj33, rfl⟩ := fz kq
     ·exact zA HA
     have H := HA.out
     clear HA
     simp only [laws_FnStatesHidden.j1] at H
     refine iBn H ?_; clear H; rintro rfl H
     have H' := aM H
     clear H
     go_wp2
     obtain ⟨KI181, hKq_, hKb_, hIq_, hBq_⟩ := rng_start HB.out t622
     have hKB181 := aM hKb_
     have hIq_ := aM hIq_
     have HO_22 := aM (rng_R HO_22.out t622)
     have HO_631001 := aM (rng_R HO_631001.out t622)
     have hne181_BK630 := aM (rng_lt BK630.out hKq_)
     have BK630 := aM (rng_B BK630.out t622)
     have HB := aM hBq_
     rw [← hKq_]
     clear hKq_ hKb_ hBq_
     go_loopg [] kj33 (fun kq w' => ∃ (x181_3 : Int), Aside0 (0 ≤ x181_3) ∧ Aside0 (w'.heap[KI181]? = some (.stringIter t622 x181_3.toNat)) ∧ Aside0 (laws_FnStatesHidden.l0 kq l1 t622 t650 t622 x181_3 = some r) ∧ Aside0 (kq ≤ kj33) ∧ Aside0 (Kd.R (Kd.int .i64) 3 w' w.heap.size (fun _ => True) v652 t650) ∧ Aside0 (Kd.R k40 40 w' w.heap.size (fun _ => True) (.slice Ao13 t626.length co13) t626) ∧ Aside0 (w'.heap[gb630]? = some (.cells #[.int .i64 t625, (.slice Ao13 t626.length co13)] 28 (0, 0))) ∧ Aside0 (Below w.heap.size w w'))
     case atStart => exact ⟨(0), ⟨Int.le_refl 0⟩, ⟨hIq_.out⟩, H', kR, ⟨rU HO_22.out⟩, ⟨rU HO_631001.out⟩, ⟨bU BK630.out⟩, hV HB⟩
     case round => as_aux_lemma =>
      clear H'
      obtain ⟨x181_3, h0I181, HI181, HA, HK3, HO_22, HO_631001, BK630, HB⟩ := hrel
      obtain rfl | ⟨k3, rfl⟩ := fz gk
      ·exact zA HA
      have H := HA.out
      clear HA
      simp only [laws_FnStatesHidden.l0] at H
      refine iI H ?_ ?_ <;> clear H <;> intro c59 H
      ·have c59b0 := dT c59
       clear c59
       refine iY H ?_; clear H; intro c60 H
       have c60b0 := dT c60
       clear c60
       refine iY H ?_; clear H; intro c62 H
       have c62b0 := dT c62
       clear c62
       refine iY H ?_; clear H; intro c63 H
       have c63b0 := dT c63
       clear c63
       replace H := bC H; obtain ⟨t656, A64, H⟩ := H
       refine iB H ?_ ?_ <;> clear H <;> rintro rfl H
       ·replace H := bC H; obtain ⟨⟨t657, t658⟩, A66, H⟩ := H; try dsimp only at H
        refine iBy H ?_; clear H; rintro rfl H
        refine iBy H ?_; clear H; rintro rfl H
        have H' := aM H
        clear H
        have p61 : 0 ≤ (x181_3 : Int) := oD
        have q61 : x181_3 < (t622.size : Int) := oD
        have hx61 := bt_at t622 x181_3
        replace p61 := eq_true p61
        replace q61 := eq_true q61
        obtain ⟨Ao69, co69, eo69⟩ := Kd.R_slice HO_22.out
        subst eo69
        have hltI_ : x181_3 < (t622.size : Int) := of_decide_eq_true (by assumption)
        have hbtI_ : bt t622 x181_3 < 128 := of_decide_eq_true (by assumption)
        have hwI181 := aM (show wrap64 (x181_3 + 1) = x181_3 + 1 from by have h9_ : x181_3 < 1000000000 := of_decide_eq_true (by assumption); have h8_ := h0I181.out; unfold wrap64; omega)
        obtain ⟨rn_, hnext⟩ := rng_next (P := Tryz.prog) HI181.out h0I181.out hltI_ hbtI_
        clear hltI_ hbtI_
        have nI_ := aM (rng_at (p' := (x181_3 + 1).toNat) HI181.out)
        have nHO_22_ := aM (R_iter (p' := (x181_3 + 1).toNat) HO_22.out HI181.out)
        have nHO_631001_ := aM (R_iter (p' := (x181_3 + 1).toNat) HO_631001.out HI181.out)
        have nBK630_ := aM (rng_other (s := t622) (p := (x181_3 + 1).toNat) BK630.out hne181_BK630.out)
        have nHB_ := aM (rng_below (s := t622) (p := (x181_3 + 1).toNat) HB.out hKB181.out)
        clear HI181 HO_22 HO_631001 BK630 HB
        have HI181 := nI_
        have HO_22 := nHO_22_
        have HO_631001 := nHO_631001_
        have BK630 := nBK630_
        have HB := nHB_
        clear nI_ nHO_22_ nHO_631001_ nBK630_ nHB_
        generalize wr.iterAt KI181 t622 (x181_3 + 1).toNat = wr at hnext HI181 HO_22 HO_631001 BK630 HB
        go_wp2_with (first | ((with_reducible refine gG 16 (some 187) rfl rfl ?_); refine gL Tryz.func16 #[.slice Ao69 t650.length co69, .int .i64 x181_3] ?_; (with_reducible refine (laws_xHas.calls k3 _ _ t650 x181_3 true _ (cU (Kd.R_reads' HO_22.out).2.2) ((Kd.R_reads' HO_22.out).2.1) A64.out).mono ?_); rintro e w' ⟨rfl, ⟨nd, rfl⟩⟩; refine ⟨_, rfl, ?_⟩) | ((with_reducible refine gG 11 (some 193) rfl rfl ?_); refine gC Tryz.func11 (impl_DoesFit.calls k3 4 x181_3 1 t622 true true _ A66.out) ?_; rintro w70 hb; have n0_ := rB HO_22 hb; have n1_ := rB HO_631001 hb; have n2_ := bB BK630 hb; have n181i_ := aM (blk_below (bU HI181.out) hb); have n3_ := hS HB hb; clear HO_22; clear HO_631001; clear BK630; clear HI181; clear HB; have HO_22 := n0_; have HO_631001 := n1_; have BK630 := n2_; have HI181 := n181i_; have HB := n3_; clear n0_ n1_ n2_ n3_ n181i_; clear hb))
        try clear hnext
        go_roundg k3
        case measure => have := HJ7.out; have := HJ33.out; have := HK3.out; omega
        case rel => exact ⟨(wrap64 (x181_3 + 1)), ⟨by rw [hwI181.out]; have h8_ := h0I181.out; omega⟩, ⟨by rw [hwI181.out]; (with_reducible repeat (first | refine blk_drewN ?_ _ | refine blk_drew ?_ | refine blk_alloc ?_ _)); exact HI181.out⟩, H', ⟨by have := HJ7.out; have := HJ33.out; have := HK3.out; omega⟩, ⟨rU HO_22.out⟩, ⟨rU HO_631001.out⟩, ⟨bU BK630.out⟩, hV HB⟩
       replace H := bC H; obtain ⟨⟨t659, t660⟩, A71, H⟩ := H; try dsimp only at H
       refine iBy H ?_; clear H; rintro rfl H
       refine iBy H ?_; clear H; rintro rfl H
       have H' := aM H
       clear H
       have p61 : 0 ≤ (x181_3 : Int) := oD
       have q61 : x181_3 < (t622.size : Int) := oD
       have hx61 := bt_at t622 x181_3
       replace p61 := eq_true p61
       replace q61 := eq_true q61
       obtain ⟨Ao74, co74, eo74⟩ := Kd.R_slice HO_22.out
       subst eo74
       have hltI_ : x181_3 < (t622.size : Int) := of_decide_eq_true (by assumption)
       have hbtI_ : bt t622 x181_3 < 128 := of_decide_eq_true (by assumption)
       have hwI181 := aM (show wrap64 (x181_3 + 1) = x181_3 + 1 from by have h9_ : x181_3 < 1000000000 := of_decide_eq_true (by assumption); have h8_ := h0I181.out; unfold wrap64; omega)
       obtain ⟨rn_, hnext⟩ := rng_next (P := Tryz.prog) HI181.out h0I181.out hltI_ hbtI_
       clear hltI_ hbtI_
       have nI_ := aM (rng_at (p' := (x181_3 + 1).toNat) HI181.out)
       have nHO_22_ := aM (R_iter (p' := (x181_3 + 1).toNat) HO_22.out HI181.out)
       have nHO_631001_ := aM (R_iter (p' := (x181_3 + 1).toNat) HO_631001.out HI181.out)
       have nBK630_ := aM (rng_other (s := t622) (p := (x181_3 + 1).toNat) BK630.out hne181_BK630.out)
       have nHB_ := aM (rng_below (s := t622) (p := (x181_3 + 1).toNat) HB.out hKB181.out)
       clear HI181 HO_22 HO_631001 BK630 HB
       have HI181 := nI_
       have HO_22 := nHO_22_
       have HO_631001 := nHO_631001_
       have BK630 := nBK630_
       have HB := nHB_
       clear nI_ nHO_22_ nHO_631001_ nBK630_ nHB_
       generalize wr.iterAt KI181 t622 (x181_3 + 1).toNat = wr at hnext HI181 HO_22 HO_631001 BK630 HB
       go_wp2_with (first | ((with_reducible refine gG 16 (some 187) rfl rfl ?_); refine gL Tryz.func16 #[.slice Ao74 t650.length co74, .int .i64 x181_3] ?_; (with_reducible refine (laws_xHas.calls k3 _ _ t650 x181_3 false _ (cU (Kd.R_reads' HO_22.out).2.2) ((Kd.R_reads' HO_22.out).2.1) A64.out).mono ?_); rintro e w' ⟨rfl, ⟨nd, rfl⟩⟩; refine ⟨_, rfl, ?_⟩) | ((with_reducible refine gG 11 (some 193) rfl rfl ?_); refine gC Tryz.func11 (impl_DoesFit.calls k3 4 x181_3 0 t622 true true _ A71.out) ?_; rintro w75 hb; have n0_ := rB HO_22 hb; have n1_ := rB HO_631001 hb; have n2_ := bB BK630 hb; have n181i_ := aM (blk_below (bU HI181.out) hb); have n3_ := hS HB hb; clear HO_22; clear HO_631001; clear BK630; clear HI181; clear HB; have HO_22 := n0_; have HO_631001 := n1_; have BK630 := n2_; have HI181 := n181i_; have HB := n3_; clear n0_ n1_ n2_ n3_ n181i_; clear hb))
       try clear hnext
       go_roundg k3
       case measure => have := HJ7.out; have := HJ33.out; have := HK3.out; omega
       case rel => exact ⟨(wrap64 (x181_3 + 1)), ⟨by rw [hwI181.out]; have h8_ := h0I181.out; omega⟩, ⟨by rw [hwI181.out]; (with_reducible repeat (first | refine blk_drewN ?_ _ | refine blk_drew ?_ | refine blk_alloc ?_ _)); exact HI181.out⟩, H', ⟨by have := HJ7.out; have := HJ33.out; have := HK3.out; omega⟩, ⟨rU HO_22.out⟩, ⟨rU HO_631001.out⟩, ⟨bU BK630.out⟩, hV HB⟩
      have c59b0 := dF c59
      clear c59
      have H' := aM H
      clear H
      have hnext := rng_end (P := Tryz.prog) HI181.out h0I181.out (of_decide_eq_false (by assumption) : ¬ x181_3 < (t622.size : Int))
      go_wp2
      try clear hnext
      go_meet
      case rel => exact ⟨_, H', ⟨by have := HJ7.out; have := HJ33.out; have := HK3.out; first | omega | exact Nat.le_refl _⟩, ⟨rU HO_631001.out⟩, ⟨bU BK630.out⟩, hV HB⟩
   have H' := aM H
   clear H
   go_wp2
   go_meet
   case rel => exact ⟨_, H', ⟨by have := HJ7.out; first | omega | exact Nat.le_refl _⟩, ⟨rU HO_631001.out⟩, ⟨bU BK630.out⟩, hV HB⟩
  case rest => as_aux_lemma =>
   clear HC26
   obtain ⟨kq, HA, HJ25, HO_631001, BK630, HB⟩ := hcut
   obtain rfl | ⟨kj25, rfl⟩ := fz kq
   ·exact zA HA
   have H := HA.out
   clear HA
   simp only [laws_FnStatesHidden.j3] at H
   replace H := bC H; obtain ⟨⟨t661, t662⟩, A76, H⟩ := H; try dsimp only at H
   replace H := bC H; obtain ⟨⟨t666, t667, t670⟩, A77, H⟩ := H; try dsimp only at H
   replace H := bC H; obtain ⟨⟨t672, t673, t676⟩, A78, H⟩ := H; try dsimp only at H
   replace H := bC H; obtain ⟨⟨t678, t679⟩, A79, H⟩ := H; try dsimp only at H
   have HC80 := aM H
   clear H
   go_upto_region 30 with (first | ((with_reducible refine gG 17 (some 203) rfl rfl ?_); refine gD Tryz.func17 (spec_DrawHarderPuzzle.calls kj25 _ _ l1 t661 t662 _ (cU (Kd.C_below HR1.out HB.out)) HC1.out A76.out) ?_; rintro w81 v663 ⟨ho0, hb⟩; have HO664 := aM (Kd.R_lower (Kd.R_new' ho0 (Kd.R_lt (rU HO_631001.out))) (below_size (bel HB))); replace HO_631001 := aM (Kd.R_elder' (rU HO_631001.out) (Kd.R_base ho0) hb); replace BK630 := bB BK630 hb; replace HB := hS HB hb; clear hb ho0) | ((with_reducible refine gate_dst (N := 28) rfl ?_); (try (refine gate_guard (by rfl) ?_; dsimp only)); refine bX (N := 28) rfl (cs := #[.int .i64 0, .slice none 0 0]) (t := 28) ?_; intro gb665 hg w82 BK665 hb; have GW665 := gE hg HB; have GE665 := gE hg HB; have NB630_665 := nbL hg BK630; have NB665_630 := nbR hg BK630; replace HO_631001 := rB HO_631001 hb; replace HO664 := rB HO664 hb; replace BK630 := bB BK630 hb; replace HB := hS HB hb; clear hb hg; have hnb83 := NB665_630.out; have hnc83 := NB630_665.out; obtain ⟨hcz84_0, hcz84_1, hfz84_0, hfz84_1⟩ := hC2 BK665; obtain ⟨Ao85, co85, eo85⟩ := Kd.R_slice HO664.out; subst eo85) | ((with_reducible refine gG 18 (some 206) rfl rfl ?_); refine gL Tryz.func18 #[.agg #[.int .i64 t661, .slice Ao85 t662.length co85]] ?_; (with_reducible refine (impl_HarderPuzzle.calls kj25 t661 _ _ t662 t666 t667 t670 _ ?side1 ((Kd.R_reads' HO664.out).2.1) A77.out).mono ?_); (case side1 => refine (Kd.R_reads' (e := 40) (base := w.heap.size) (ok := fun k_ => (True ∧ some k_ ≠ (.slice Ao13 t626.length co13 : Value).ownBlock)) (n := t662.length) (c := co85) ?_).2.2; exact (rQ2 HO664 BK665)); rintro e w86 ⟨v668, rfl, ho0, hb⟩; refine ⟨_, rfl, ?_⟩; have HO669 := aM (Kd.R_lower (Kd.R_new' (Kd.R_new' ho0 (Kd.R_lt (rQ2 HO_631001 BK665))) (Kd.R_lt (rQ2 HO664 BK665))) (below_size (bel HB))); replace HO_631001 := aM (Kd.R_elder' (rQ2 HO_631001 BK665) (Kd.R_base ho0) hb); replace HO664 := aM (Kd.R_elder' (rQ2 HO664 BK665) (Kd.R_base ho0) hb); replace BK630 := bK BK630 hb; replace BK665 := aM (blk_below (g := gb665) (o := .cells #[.int .i64 t661, .slice Ao85 t662.length co85] 28 (0, 0)) (bP2 BK665) hb); replace HB := hS HB hb; clear hb ho0) | ((with_reducible refine gate_dst (N := 29) rfl ?_); (try (refine gate_guard (by rfl) ?_; dsimp only)); refine bX (N := 29) rfl (cs := #[.int .i64 0, .slice none 0 0]) (t := 28) ?_; intro gb671 hg w87 BK671 hb; have GW671 := gE hg HB; have GE671 := gE hg HB; have NB630_671 := nbL hg BK630; have NB671_630 := nbR hg BK630; have NB665_671 := nbL hg BK665; have NB671_665 := nbR hg BK665; replace HO_631001 := rB HO_631001 hb; replace HO664 := rB HO664 hb; replace HO669 := rB HO669 hb; replace BK630 := bB BK630 hb; replace BK665 := bB BK665 hb; replace HB := hS HB hb; clear hb hg; have hnb88 := NB671_630.out; have hnc88 := NB630_671.out; have hnb89 := NB671_665.out; have hnc89 := NB665_671.out; obtain ⟨hcz90_0, hcz90_1, hfz90_0, hfz90_1⟩ := hC2 BK671; obtain ⟨Ao91, co91, eo91⟩ := Kd.R_slice HO669.out; subst eo91; obtain ⟨hcz92_0, hcz92_1, hfz92_0, hfz92_1⟩ := hC2 BK665) | ((with_reducible refine gG 19 (some 211) rfl rfl ?_); refine gL Tryz.func19 #[.agg #[.int .i64 t661, .slice Ao85 t662.length co85]] ?_; (with_reducible refine (spec_HarderPuzzle.calls kj25 t661 _ _ t662 t672 t673 t676 _ ?side1 ((Kd.R_reads' HO664.out).2.1) A78.out).mono ?_); (case side1 => refine (Kd.R_reads' (e := 40) (base := w.heap.size) (ok := fun k_ => ((True ∧ some k_ ≠ (.slice Ao13 t626.length co13 : Value).ownBlock) ∧ some k_ ≠ (.slice Ao91 t667.length co91 : Value).ownBlock)) (n := t662.length) (c := co85) ?_).2.2; exact (rQ2 HO664 BK671)); rintro e w93 ⟨v674, rfl, ho0, hb⟩; refine ⟨_, rfl, ?_⟩; have HO675 := aM (Kd.R_lower (Kd.R_new' (Kd.R_new' (Kd.R_new' ho0 (Kd.R_lt (rQ2 HO_631001 BK671))) (Kd.R_lt (rQ2 HO664 BK671))) (Kd.R_lt (rQ2 HO669 BK671))) (below_size (bel HB))); replace HO_631001 := aM (Kd.R_elder' (rQ2 HO_631001 BK671) (Kd.R_base ho0) hb); replace HO664 := aM (Kd.R_elder' (rQ2 HO664 BK671) (Kd.R_base ho0) hb); replace HO669 := aM (Kd.R_elder' (rQ2 HO669 BK671) (Kd.R_base ho0) hb); replace BK630 := bK BK630 hb; replace BK665 := bK BK665 hb; replace BK671 := aM (blk_below (g := gb671) (o := .cells #[.int .i64 t666, .slice Ao91 t667.length co91] 28 (0, 0)) (bP2 BK671) hb); replace HB := hS HB hb; clear hb ho0) | ((with_reducible refine gate_dst (N := 31) rfl ?_); (try (refine gate_guard (by rfl) ?_; dsimp only)); refine bX (N := 31) rfl (cs := #[.int .i64 0, .slice none 0 0]) (t := 28) ?_; intro gb677 hg w94 BK677 hb; have GW677 := gE hg HB; have GE677 := gE hg HB; have NB630_677 := nbL hg BK630; have NB677_630 := nbR hg BK630; have NB665_677 := nbL hg BK665; have NB677_665 := nbR hg BK665; have NB671_677 := nbL hg BK671; have NB677_671 := nbR hg BK671; replace HO_631001 := rB HO_631001 hb; replace HO664 := rB HO664 hb; replace HO669 := rB HO669 hb; replace HO675 := rB HO675 hb; replace BK630 := bB BK630 hb; replace BK665 := bB BK665 hb; replace BK671 := bB BK671 hb; replace HB := hS HB hb; clear hb hg; have hnb95 := NB677_630.out; have hnc95 := NB630_677.out; have hnb96 := NB677_665.out; have hnc96 := NB665_677.out; have hnb97 := NB677_671.out; have hnc97 := NB671_677.out; obtain ⟨hcz98_0, hcz98_1, hfz98_0, hfz98_1⟩ := hC2 BK677; obtain ⟨Ao99, co99, eo99⟩ := Kd.R_slice HO675.out; subst eo99; obtain ⟨hcz100_0, hcz100_1, hfz100_0, hfz100_1⟩ := hC2 BK665) | ((with_reducible refine gG 20 (some 216) rfl rfl ?_); refine gL Tryz.func20 #[.agg #[.int .i64 t661, .slice Ao85 t662.length co85]] ?_; (with_reducible refine (impl_IsSolved.calls t661 _ _ t662 t678 t679 _ ?side1 ((Kd.R_reads' HO664.out).2.1) A79.out).mono ?_); (case side1 => refine (Kd.R_reads' (e := 40) (base := w.heap.size) (ok := fun k_ => (((True ∧ some k_ ≠ (.slice Ao13 t626.length co13 : Value).ownBlock) ∧ some k_ ≠ (.slice Ao91 t667.length co91 : Value).ownBlock) ∧ some k_ ≠ (.slice Ao99 t673.length co99 : Value).ownBlock)) (n := t662.length) (c := co85) ?_).2.2; exact (rQ2 HO664 BK677)); rintro e w101 ⟨rfl, hb⟩; refine ⟨_, rfl, ?_⟩; replace HO_631001 := aM (Kd.R_below (rQ2 HO_631001 BK677) hb); replace HO664 := aM (Kd.R_below (rQ2 HO664 BK677) hb); replace HO669 := aM (Kd.R_below (rQ2 HO669 BK677) hb); replace HO675 := aM (Kd.R_below (rQ2 HO675 BK677) hb); replace BK630 := bK BK630 hb; replace BK665 := bK BK665 hb; replace BK671 := bK BK671 hb; replace BK677 := aM (blk_below (g := gb677) (o := .cells #[.int .i64 t672, .slice Ao99 t673.length co99] 28 (0, 0)) (bP2 BK677) hb); replace HB := hS HB hb; clear hb))
   (try simp only [Act.put, List.setIfInBounds_toArray, List.set_cons_zero, List.set_cons_succ])
   go_cut [235] from 202 to 235 (fun v235 wc => ∃ (kq : Nat) (x235_79 : Bool), v235 = .bool x235_79 ∧ Aside0 (laws_FnStatesHidden.j4 kq l1 t670 x235_79 t661 t662 t666 t667 = some r) ∧ Aside0 (kq ≤ kj25) ∧ Aside0 (Kd.R k40 40 wc w.heap.size (fun k_ => some k_ ≠ ((.slice Ao91 t667.length co91) : Value).ownBlock) (.slice Ao85 t662.length co85) t662) ∧ Aside0 (Kd.R k40 40 wc w.heap.size (fun k_ => some k_ ≠ ((.slice Ao85 t662.length co85) : Value).ownBlock) (.slice Ao91 t667.length co91) t667) ∧ Aside0 (wc.heap[gb665]? = some (.cells #[.int .i64 t661, (.slice Ao85 t662.length co85)] 28 (0, 0))) ∧ Aside0 (wc.heap[gb671]? = some (.cells #[.int .i64 t666, (.slice Ao91 t667.length co91)] 28 (0, 0))) ∧ Aside0 (Below w.heap.size w wc))
   case first => as_aux_lemma =>
    have H := HC80.out
    clear HC80
    refine iN H ?_; clear H; intro c102 H
    have c102b0 := bF c102
    (try have c102b1 := nD c102)
    (try have c102b2 := nQ c102)
    clear c102
    (first | rw [c102b0] | (simp only [i64_w, i32_w]; rw [c102b0]) | skip)
    replace H := bC H; obtain ⟨t680, A103, H⟩ := H
    refine iBy H ?_; clear H; rintro rfl H
    refine iB H ?_ ?_ <;> clear H <;> rintro rfl H
    ·have H' := aM H
     clear H
     have hnb106 := NB671_665.out
     have hnc106 := NB665_671.out
     have hnb107 := NB671_677.out
     have hnc107 := NB677_671.out
     obtain ⟨hcz108_0, hcz108_1, hfz108_0, hfz108_1⟩ := hC2 BK671
     have hnb109 := NB677_665.out
     have hnc109 := NB665_677.out
     obtain ⟨hcz110_0, hcz110_1, hfz110_0, hfz110_1⟩ := hC2 BK677
     go_wp2_with (first | (go_at_call 8; (with_reducible refine (laws_xPuzzle.calls kj25 t666 _ _ t667 t672 _ _ t673 true _ (cU (Kd.R_reads' HO669.out).2.2) ((Kd.R_reads' HO669.out).2.1) (cU (Kd.R_reads' HO675.out).2.2) ((Kd.R_reads' HO675.out).2.1) A103.out).mono ?_); rintro e w111 ⟨rfl, hb⟩; replace HO664 := rB HO664 hb; replace HO669 := rB HO669 hb; replace HO675 := rB HO675 hb; replace BK665 := bB BK665 hb; replace BK671 := bB BK671 hb; replace BK677 := bB BK677 hb; replace HB := hS HB hb; clear hb))
     go_meet
     case rel => exact ⟨_, ((t670 != t678)), rF, H', ⟨by have := HJ7.out; have := HJ25.out; first | omega | exact Nat.le_refl _⟩, ⟨rU (Kd.R_mono HO664.out (fun _ hk => hk.1.2))⟩, ⟨rU (Kd.R_mono HO669.out (fun _ hk => hk.1.2))⟩, ⟨bU BK665.out⟩, ⟨bU BK671.out⟩, hV HB⟩
    have H' := aM H
    clear H
    have hnb112 := NB671_665.out
    have hnc112 := NB665_671.out
    have hnb113 := NB671_677.out
    have hnc113 := NB677_671.out
    obtain ⟨hcz114_0, hcz114_1, hfz114_0, hfz114_1⟩ := hC2 BK671
    have hnb115 := NB677_665.out
    have hnc115 := NB665_677.out
    obtain ⟨hcz116_0, hcz116_1, hfz116_0, hfz116_1⟩ := hC2 BK677
    go_wp2_with (first | (go_at_call 8; (with_reducible refine (laws_xPuzzle.calls kj25 t666 _ _ t667 t672 _ _ t673 true _ (cU (Kd.R_reads' HO669.out).2.2) ((Kd.R_reads' HO669.out).2.1) (cU (Kd.R_reads' HO675.out).2.2) ((Kd.R_reads' HO675.out).2.1) A103.out).mono ?_); rintro e w117 ⟨rfl, hb⟩; replace HO664 := rB HO664 hb; replace HO669 := rB HO669 hb; replace HO675 := rB HO675 hb; replace BK665 := bB BK665 hb; replace BK671 := bB BK671 hb; replace BK677 := bB BK677 hb; replace HB := hS HB hb; clear hb))
    go_meet
    case rel => exact ⟨_, ((t670 != false)), rF, H', ⟨by have := HJ7.out; have := HJ25.out; first | omega | exact Nat.le_refl _⟩, ⟨rU (Kd.R_mono HO664.out (fun _ hk => hk.1.2))⟩, ⟨rU (Kd.R_mono HO669.out (fun _ hk => hk.1.2))⟩, ⟨bU BK665.out⟩, ⟨bU BK671.out⟩, hV HB⟩
   case rest => as_aux_lemma =>
    clear HC80
    try clear hcz100_0;try clear hcz100_1;try clear hcz84_0;try clear hcz84_1;try clear hcz90_0;try clear hcz90_1;try clear hcz92_0;try clear hcz92_1;try clear hcz98_0;try clear hcz98_1;try clear hfz100_0;try clear hfz100_1;try clear hfz84_0;try clear hfz84_1;try clear hfz90_0;try clear hfz90_1;try clear hfz92_0;try clear hfz92_1;try clear hfz98_0;try clear hfz98_1
    obtain ⟨kq, x235_79, rfl, HA, HJ79, HO_666001, HO_672001, BK665, BK671, HB⟩ := hcut
    obtain rfl | ⟨kj79, rfl⟩ := fz kq
    ·exact zA HA
    have H := HA.out
    clear HA
    simp only [laws_FnStatesHidden.j4] at H
    refine iBn H ?_; clear H; rintro rfl H
    have HC119 := aM H
    clear H
    go_upto_if 236 with (fail)
    go_cut [] from 236 to 236 (fun wc => ∃ (kq : Nat), Aside0 (laws_FnStatesHidden.j5 kq l1 = some r) ∧ Aside0 (kq ≤ kj79) ∧ Aside0 (Kd.R k40 40 wc w.heap.size (fun _ => True) (.slice Ao85 t662.length co85) t662) ∧ Aside0 (wc.heap[gb665]? = some (.cells #[.int .i64 t661, (.slice Ao85 t662.length co85)] 28 (0, 0))) ∧ Aside0 (Below w.heap.size w wc))
    case first => as_aux_lemma =>
     have H := HC119.out
     clear HC119
     refine iB H ?_ ?_ <;> clear H <;> rintro rfl H
     ·replace H := bC H; obtain ⟨⟨t681, t684⟩, A121, H⟩ := H; try dsimp only at H
      replace H := bC H; obtain ⟨⟨t685, t688⟩, A122, H⟩ := H; try dsimp only at H
      replace H := bC H; obtain ⟨⟨t689, t692⟩, A123, H⟩ := H; try dsimp only at H
      refine iBy H ?_; clear H; rintro rfl H
      refine iBy H ?_; clear H; rintro rfl H
      replace H := bC H; obtain ⟨t693, A126, H⟩ := H
      refine iBy H ?_; clear H; rintro rfl H
      refine iBy H ?_; clear H; rintro rfl H
      refine iY H ?_; clear H; intro c129 H
      have c129b0 := qT c129
      have c129b1 := nF c129
      clear c129
      (first | rw [c129b0] | (simp only [i64_w, i32_w]; rw [c129b0]) | skip)
      refine iN H ?_; clear H; intro c130 H
      have c130b0 := gF c130
      have c130b1 : decide (t662.length < t667.length) = false := decide_eq_false (fun h => c130 (Int.ofNat_lt.mpr h))
      clear c130
      have H' := aM H
      clear H
      have hnb131 := NB665_671.out
      have hnc131 := NB671_665.out
      obtain ⟨hcz132_0, hcz132_1, hfz132_0, hfz132_1⟩ := hC2 BK665
      go_wp2_with (first | ((with_reducible refine gG 9 (some 239) rfl rfl ?_); refine gD Tryz.func9 (impl_Solutions.calls t661 _ _ t662 t681 true _ (cU (Kd.R_reads' HO_666001.out).2.2) ((Kd.R_reads' HO_666001.out).2.1) A121.out) ?_; rintro w133 v682 ⟨ho0, hb⟩; have HO683 := rL ho0 HB; replace HO_666001 := rB HO_666001 hb; replace HO_672001 := rB HO_672001 hb; replace BK665 := bB BK665 hb; replace BK671 := bB BK671 hb; replace HB := hS HB hb; clear hb ho0; obtain ⟨hcz134_0, hcz134_1, hfz134_0, hfz134_1⟩ := hC2 BK671) | ((with_reducible refine gG 9 (some 244) rfl rfl ?_); refine gD Tryz.func9 (impl_Solutions.calls t666 _ _ t667 t685 true _ (cU (Kd.R_reads' HO_672001.out).2.2) ((Kd.R_reads' HO_672001.out).2.1) A122.out) ?_; rintro w135 v686 ⟨ho0, hb⟩; have HO687 := aM (Kd.R_lower (Kd.R_new' ho0 (Kd.R_lt (rU HO683.out))) (below_size (bel HB))); replace HO_666001 := rB HO_666001 hb; replace HO_672001 := rB HO_672001 hb; replace HO683 := aM (Kd.R_elder' (rU HO683.out) (Kd.R_base ho0) hb); replace BK665 := bB BK665 hb; replace BK671 := bB BK671 hb; replace HB := hS HB hb; clear hb ho0; obtain ⟨hcz136_0, hcz136_1, hfz136_0, hfz136_1⟩ := hC2 BK671) | ((with_reducible refine gG 21 (some 249) rfl rfl ?_); refine gD Tryz.func21 (impl_NeedlessClues.calls kj79 t666 _ _ t667 t689 true _ (cU (Kd.R_reads' HO_672001.out).2.2) ((Kd.R_reads' HO_672001.out).2.1) A123.out) ?_; rintro w137 v690 ⟨ho0, hb⟩; have HO691 := rL ho0 HB; replace HO_666001 := rB HO_666001 hb; replace HO_672001 := rB HO_672001 hb; replace HO683 := rB HO683 hb; replace HO687 := rB HO687 hb; replace BK665 := bB BK665 hb; replace BK671 := bB BK671 hb; replace HB := hS HB hb; clear hb ho0; obtain ⟨Ao138, co138, eo138⟩ := Kd.R_slice HO683.out; subst eo138; obtain ⟨Ao139, co139, eo139⟩ := Kd.R_slice HO687.out; subst eo139) | (go_at_call 22; (with_reducible refine (laws_xTexts.calls kj79 _ _ t681 _ _ t685 true _ (cU (Kd.R_reads' HO683.out).2.2) ((Kd.R_reads' HO683.out).2.1) (cU (Kd.R_reads' HO687.out).2.2) ((Kd.R_reads' HO687.out).2.1) A126.out).mono ?_); rintro e w' ⟨rfl, ⟨nd, rfl⟩⟩; obtain ⟨Ao140, co140, eo140⟩ := Kd.R_slice HO691.out; subst eo140; obtain ⟨hcz141_0, hcz141_1, hfz141_0, hfz141_1⟩ := hC2 BK671; obtain ⟨hcz142_0, hcz142_1, hfz142_0, hfz142_1⟩ := hC2 BK665))
      go_meet
      case rel => exact ⟨_, H', ⟨by have := HJ7.out; have := HJ25.out; have := HJ79.out; first | omega | exact Nat.le_refl _⟩, ⟨rU (Kd.R_mono HO_666001.out (fun _ hk => trivial))⟩, ⟨bU BK665.out⟩, hV HB⟩
     have H' := aM H
     clear H
     go_wp2
     go_meet
     case rel => exact ⟨_, H', ⟨by have := HJ7.out; have := HJ25.out; have := HJ79.out; first | omega | exact Nat.le_refl _⟩, ⟨rU (Kd.R_mono HO_666001.out (fun _ hk => trivial))⟩, ⟨bU BK665.out⟩, hV HB⟩
    case rest => as_aux_lemma =>
     clear HC119
     obtain ⟨kq, HA, HJ118, HO_666001, BK665, HB⟩ := hcut
     obtain rfl | ⟨kj118, rfl⟩ := fz kq
     ·exact zA HA
     have H := HA.out
     clear HA
     simp only [laws_FnStatesHidden.j5] at H
     replace H := bC H; obtain ⟨⟨t694, t695, t698, t699, t700⟩, A143, H⟩ := H; try dsimp only at H
     replace H := bC H; obtain ⟨⟨t703, t704, t707⟩, A144, H⟩ := H; try dsimp only at H
     replace H := bC H; obtain ⟨⟨t709, t710, t713⟩, A145, H⟩ := H; try dsimp only at H
     replace H := bC H; obtain ⟨⟨t715, t716, t719⟩, A146, H⟩ := H; try dsimp only at H
     replace H := bC H; obtain ⟨⟨t721, t722, t725⟩, A147, H⟩ := H; try dsimp only at H
     replace H := bC H; obtain ⟨⟨t727, t728, t731⟩, A148, H⟩ := H; try dsimp only at H
     replace H := bC H; obtain ⟨⟨t733, t734, t735, t736⟩, A149, H⟩ := H; try dsimp only at H
     replace H := bC H; obtain ⟨⟨t738, t739⟩, A150, H⟩ := H; try dsimp only at H
     replace H := bC H; obtain ⟨⟨t740, t741⟩, A151, H⟩ := H; try dsimp only at H
     replace H := bC H; obtain ⟨⟨t742, t743, t744, t745⟩, A152, H⟩ := H; try dsimp only at H
     have HC153 := aM H
     clear H
     go_upto_region 48 with (first | ((with_reducible refine gG 23 (some 284) rfl rfl ?_); refine gD Tryz.func23 (spec_DrawAddClue.calls kj118 _ _ l1 t694 t695 t698 t699 t700 _ (cU (Kd.C_below HR1.out HB.out)) HC1.out A143.out) ?_; rintro w154 v696 ⟨ho0, hb⟩; have HO697 := aM (Kd.R_lower (Kd.R_new' ho0 (Kd.R_lt (rU HO_666001.out))) (below_size (bel HB))); replace HO_666001 := aM (Kd.R_elder' (rU HO_666001.out) (Kd.R_base ho0) hb); replace BK665 := bB BK665 hb; replace HB := hS HB hb; clear hb ho0) | ((with_reducible refine gate_dst (N := 41) rfl ?_); (try (refine gate_guard (by rfl) ?_; dsimp only)); refine bX (N := 41) rfl (cs := #[.int .i64 0, .slice none 0 0]) (t := 28) ?_; intro gb701 hg w155 BK701 hb; have GW701 := gE hg HB; have GE701 := gE hg HB; have NB665_701 := nbL hg BK665; have NB701_665 := nbR hg BK665; replace HO_666001 := rB HO_666001 hb; replace HO697 := rB HO697 hb; replace BK665 := bB BK665 hb; replace HB := hS HB hb; clear hb hg) | ((with_reducible refine gate_dst (N := 42) rfl ?_); (try (refine gate_guard (by rfl) ?_; dsimp only)); refine bX (N := 42) rfl (cs := #[.int .i64 0, .int .i64 0, .int .i64 0]) (t := 40) ?_; intro gb702 hg w156 BK702 hb; have GW702 := gE hg HB; have GE702 := gE hg HB; have NB665_702 := nbL hg BK665; have NB702_665 := nbR hg BK665; have NB701_702 := nbL hg BK701; have NB702_701 := nbR hg BK701; replace HO_666001 := aM (Kd.R_below (Kd.R_elderB (rU HO_666001.out) gb702 (Nat.le_of_eq hg.symm)) hb); replace HO697 := aM (Kd.R_below (Kd.R_elderB (rU HO697.out) gb702 (Nat.le_of_eq hg.symm)) hb); replace BK665 := bB BK665 hb; replace BK701 := bB BK701 hb; replace HB := hS HB hb; clear hb hg; have hnb157 := NB701_665.out; have hnc157 := NB665_701.out; have hnb158 := NB701_702.out; have hnc158 := NB702_701.out; obtain ⟨hcz159_0, hcz159_1, hfz159_0, hfz159_1⟩ := hC2 BK701; obtain ⟨Ao160, co160, eo160⟩ := Kd.R_slice HO697.out; subst eo160; have hnb161 := NB702_665.out; have hnc161 := NB665_702.out; obtain ⟨hcz162_0, hcz162_1, hcz162_2, hfz162_0, hfz162_1, hfz162_2⟩ := hC3 BK702) | ((with_reducible refine gG 24 (some 290) rfl rfl ?_); refine gL Tryz.func24 #[.agg #[.int .i64 t694, .slice Ao160 t695.length co160], .agg #[.int .i64 t698, .int .i64 t699, .int .i64 t700]] ?_; (with_reducible refine (impl_AddClue.calls kj118 t694 _ _ t695 t698 t699 t700 t703 t704 t707 _ ?side1 ((Kd.R_reads' HO697.out).2.1) A144.out).mono ?_); (case side1 => refine (Kd.R_reads' (e := 40) (base := w.heap.size) (ok := fun k_ => ((True ∧ some k_ ≠ (.slice Ao85 t662.length co85 : Value).ownBlock) ∧ k_ ≠ gb702)) (n := t695.length) (c := co160) ?_).2.2; exact (rU (Kd.R_mono (Kd.R_mono (Kd.R_far (p := ⟨gb702, 2, none⟩) (Kd.R_far (p := ⟨gb702, 1, none⟩) (Kd.R_far (p := ⟨gb702, 0, none⟩) (Kd.R_far (p := ⟨gb701, 1, none⟩) (Kd.R_far (p := ⟨gb701, 0, none⟩) (Kd.R_mono (Kd.R_types HO697.out BK701.out (by decide)) (fun k_ hk => (⟨hk, hk.1.2⟩ : _ ∧ k_ ≠ gb702))) (fun _ hk => hk.1.2) (.int .i64 t694)) (fun _ hk => hk.1.2) (.slice Ao160 t695.length co160)) (fun _ hk => hk.2) (.int .i64 t698)) (fun _ hk => hk.2) (.int .i64 t699)) (fun _ hk => hk.2) (.int .i64 t700)) (fun _ h_ => h_.1)) (fun _ h_ => h_.1)))); rintro e w163 ⟨v705, rfl, ho0, hb⟩; refine ⟨_, rfl, ?_⟩; have HO706 := aM (Kd.R_lower (Kd.R_newB (Kd.R_new' (Kd.R_new' ho0 (Kd.R_lt (rU (Kd.R_mono (Kd.R_mono (Kd.R_far (p := ⟨gb702, 2, none⟩) (Kd.R_far (p := ⟨gb702, 1, none⟩) (Kd.R_far (p := ⟨gb702, 0, none⟩) (Kd.R_far (p := ⟨gb701, 1, none⟩) (Kd.R_far (p := ⟨gb701, 0, none⟩) (Kd.R_mono (Kd.R_types HO_666001.out BK701.out (by decide)) (fun k_ hk => (⟨hk, hk.1.2⟩ : _ ∧ k_ ≠ gb702))) (fun _ hk => hk.1.2) (.int .i64 t694)) (fun _ hk => hk.1.2) (.slice Ao160 t695.length co160)) (fun _ hk => hk.2) (.int .i64 t698)) (fun _ hk => hk.2) (.int .i64 t699)) (fun _ hk => hk.2) (.int .i64 t700)) (fun _ h_ => h_.1)) (fun _ h_ => h_.1))))) (Kd.R_lt (rU (Kd.R_mono (Kd.R_mono (Kd.R_far (p := ⟨gb702, 2, none⟩) (Kd.R_far (p := ⟨gb702, 1, none⟩) (Kd.R_far (p := ⟨gb702, 0, none⟩) (Kd.R_far (p := ⟨gb701, 1, none⟩) (Kd.R_far (p := ⟨gb701, 0, none⟩) (Kd.R_mono (Kd.R_types HO697.out BK701.out (by decide)) (fun k_ hk => (⟨hk, hk.1.2⟩ : _ ∧ k_ ≠ gb702))) (fun _ hk => hk.1.2) (.int .i64 t694)) (fun _ hk => hk.1.2) (.slice Ao160 t695.length co160)) (fun _ hk => hk.2) (.int .i64 t698)) (fun _ hk => hk.2) (.int .i64 t699)) (fun _ hk => hk.2) (.int .i64 t700)) (fun _ h_ => h_.1)) (fun _ h_ => h_.1))))) (g := gb702) (o := .cells #[.int .i64 t698, .int .i64 t699, .int .i64 t700] 40 (0, 0)) (by (with_reducible repeat (first | refine blk_drewN ?_ _ | refine blk_drew ?_ | refine blk_alloc ?_ _)); refine blk_put (cs := #[.int .i64 t698, .int .i64 t699, .int .i64 0]) ?_ 2 _ rfl; (with_reducible repeat (first | refine blk_drewN ?_ _ | refine blk_drew ?_ | refine blk_alloc ?_ _)); refine blk_put (cs := #[.int .i64 t698, .int .i64 0, .int .i64 0]) ?_ 1 _ rfl; (with_reducible repeat (first | refine blk_drewN ?_ _ | refine blk_drew ?_ | refine blk_alloc ?_ _)); refine blk_put (cs := #[.int .i64 0, .int .i64 0, .int .i64 0]) ?_ 0 _ rfl; (with_reducible repeat (first | refine blk_drewN ?_ _ | refine blk_drew ?_ | refine blk_alloc ?_ _)); refine blk_far ?_ NB702_701.out _; (with_reducible repeat (first | refine blk_drewN ?_ _ | refine blk_drew ?_ | refine blk_alloc ?_ _)); refine blk_far ?_ NB702_701.out _; (with_reducible repeat (first | refine blk_drewN ?_ _ | refine blk_drew ?_ | refine blk_alloc ?_ _)); exact BK702.out)) (below_size (bel HB))); replace HO_666001 := aM (Kd.R_elder' (rU (Kd.R_mono (Kd.R_mono (Kd.R_far (p := ⟨gb702, 2, none⟩) (Kd.R_far (p := ⟨gb702, 1, none⟩) (Kd.R_far (p := ⟨gb702, 0, none⟩) (Kd.R_far (p := ⟨gb701, 1, none⟩) (Kd.R_far (p := ⟨gb701, 0, none⟩) (Kd.R_mono (Kd.R_types HO_666001.out BK701.out (by decide)) (fun k_ hk => (⟨hk, hk.1.2⟩ : _ ∧ k_ ≠ gb702))) (fun _ hk => hk.1.2) (.int .i64 t694)) (fun _ hk => hk.1.2) (.slice Ao160 t695.length co160)) (fun _ hk => hk.2) (.int .i64 t698)) (fun _ hk => hk.2) (.int .i64 t699)) (fun _ hk => hk.2) (.int .i64 t700)) (fun _ h_ => h_.1)) (fun _ h_ => h_.1))) (Kd.R_base ho0) hb); replace HO697 := aM (Kd.R_elder' (rU (Kd.R_mono (Kd.R_mono (Kd.R_far (p := ⟨gb702, 2, none⟩) (Kd.R_far (p := ⟨gb702, 1, none⟩) (Kd.R_far (p := ⟨gb702, 0, none⟩) (Kd.R_far (p := ⟨gb701, 1, none⟩) (Kd.R_far (p := ⟨gb701, 0, none⟩) (Kd.R_mono (Kd.R_types HO697.out BK701.out (by decide)) (fun k_ hk => (⟨hk, hk.1.2⟩ : _ ∧ k_ ≠ gb702))) (fun _ hk => hk.1.2) (.int .i64 t694)) (fun _ hk => hk.1.2) (.slice Ao160 t695.length co160)) (fun _ hk => hk.2) (.int .i64 t698)) (fun _ hk => hk.2) (.int .i64 t699)) (fun _ hk => hk.2) (.int .i64 t700)) (fun _ h_ => h_.1)) (fun _ h_ => h_.1))) (Kd.R_base ho0) hb); replace BK665 := aM (blk_below (g := gb665) (o := .cells #[.int .i64 t661, .slice Ao85 t662.length co85] 28 (0, 0)) (by (with_reducible repeat (first | refine blk_drewN ?_ _ | refine blk_drew ?_ | refine blk_alloc ?_ _)); refine blk_far ?_ NB665_702.out _; (with_reducible repeat (first | refine blk_drewN ?_ _ | refine blk_drew ?_ | refine blk_alloc ?_ _)); refine blk_far ?_ NB665_702.out _; (with_reducible repeat (first | refine blk_drewN ?_ _ | refine blk_drew ?_ | refine blk_alloc ?_ _)); refine blk_far ?_ NB665_702.out _; (with_reducible repeat (first | refine blk_drewN ?_ _ | refine blk_drew ?_ | refine blk_alloc ?_ _)); refine blk_far ?_ NB665_701.out _; (with_reducible repeat (first | refine blk_drewN ?_ _ | refine blk_drew ?_ | refine blk_alloc ?_ _)); refine blk_far ?_ NB665_701.out _; (with_reducible repeat (first | refine blk_drewN ?_ _ | refine blk_drew ?_ | refine blk_alloc ?_ _)); exact BK665.out) hb); replace BK701 := aM (blk_below (g := gb701) (o := .cells #[.int .i64 t694, .slice Ao160 t695.length co160] 28 (0, 0)) (by (with_reducible repeat (first | refine blk_drewN ?_ _ | refine blk_drew ?_ | refine blk_alloc ?_ _)); refine blk_far ?_ NB701_702.out _; (with_reducible repeat (first | refine blk_drewN ?_ _ | refine blk_drew ?_ | refine blk_alloc ?_ _)); refine blk_far ?_ NB701_702.out _; (with_reducible repeat (first | refine blk_drewN ?_ _ | refine blk_drew ?_ | refine blk_alloc ?_ _)); refine blk_far ?_ NB701_702.out _; (with_reducible repeat (first | refine blk_drewN ?_ _ | refine blk_drew ?_ | refine blk_alloc ?_ _)); refine blk_put (cs := #[.int .i64 t694, .slice none 0 0]) ?_ 1 _ rfl; (with_reducible repeat (first | refine blk_drewN ?_ _ | refine blk_drew ?_ | refine blk_alloc ?_ _)); refine blk_put (cs := #[.int .i64 0, .slice none 0 0]) ?_ 0 _ rfl; (with_reducible repeat (first | refine blk_drewN ?_ _ | refine blk_drew ?_ | refine blk_alloc ?_ _)); exact BK701.out) hb); replace BK702 := aM (blk_below (g := gb702) (o := .cells #[.int .i64 t698, .int .i64 t699, .int .i64 t700] 40 (0, 0)) (by (with_reducible repeat (first | refine blk_drewN ?_ _ | refine blk_drew ?_ | refine blk_alloc ?_ _)); refine blk_put (cs := #[.int .i64 t698, .int .i64 t699, .int .i64 0]) ?_ 2 _ rfl; (with_reducible repeat (first | refine blk_drewN ?_ _ | refine blk_drew ?_ | refine blk_alloc ?_ _)); refine blk_put (cs := #[.int .i64 t698, .int .i64 0, .int .i64 0]) ?_ 1 _ rfl; (with_reducible repeat (first | refine blk_drewN ?_ _ | refine blk_drew ?_ | refine blk_alloc ?_ _)); refine blk_put (cs := #[.int .i64 0, .int .i64 0, .int .i64 0]) ?_ 0 _ rfl; (with_reducible repeat (first | refine blk_drewN ?_ _ | refine blk_drew ?_ | refine blk_alloc ?_ _)); refine blk_far ?_ NB702_701.out _; (with_reducible repeat (first | refine blk_drewN ?_ _ | refine blk_drew ?_ | refine blk_alloc ?_ _)); refine blk_far ?_ NB702_701.out _; (with_reducible repeat (first | refine blk_drewN ?_ _ | refine blk_drew ?_ | refine blk_alloc ?_ _)); exact BK702.out) hb); replace HB := hS HB hb; clear hb ho0) | ((with_reducible refine gate_dst (N := 43) rfl ?_); (try (refine gate_guard (by rfl) ?_; dsimp only)); refine bX (N := 43) rfl (cs := #[.int .i64 0, .slice none 0 0]) (t := 28) ?_; intro gb708 hg w164 BK708 hb; have GW708 := gE hg HB; have GE708 := gE hg HB; have NB665_708 := nbL hg BK665; have NB708_665 := nbR hg BK665; have NB701_708 := nbL hg BK701; have NB708_701 := nbR hg BK701; have NB702_708 := nbL hg BK702; have NB708_702 := nbR hg BK702; replace HO_666001 := rB HO_666001 hb; replace HO697 := rB HO697 hb; replace HO706 := rB HO706 hb; replace BK665 := bB BK665 hb; replace BK701 := bB BK701 hb; replace BK702 := bB BK702 hb; replace HB := hS HB hb; clear hb hg; have hnb165 := NB708_665.out; have hnc165 := NB665_708.out; have hnb166 := NB708_701.out; have hnc166 := NB701_708.out; have hnb167 := NB708_702.out; have hnc167 := NB702_708.out; obtain ⟨hcz168_0, hcz168_1, hfz168_0, hfz168_1⟩ := hC2 BK708; obtain ⟨Ao169, co169, eo169⟩ := Kd.R_slice HO706.out; subst eo169; obtain ⟨hcz170_0, hcz170_1, hfz170_0, hfz170_1⟩ := hC2 BK701; obtain ⟨hcz171_0, hcz171_1, hcz171_2, hfz171_0, hfz171_1, hfz171_2⟩ := hC3 BK702) | ((with_reducible refine gG 25 (some 296) rfl rfl ?_); refine gL Tryz.func25 #[.agg #[.int .i64 t694, .slice Ao160 t695.length co160], .agg #[.int .i64 t698, .int .i64 t699, .int .i64 t700]] ?_; (with_reducible refine (spec_AddClue.calls kj118 t694 _ _ t695 t698 t699 t700 t709 t710 t713 _ ?side1 ((Kd.R_reads' HO697.out).2.1) A145.out).mono ?_); (case side1 => refine (Kd.R_reads' (e := 40) (base := w.heap.size) (ok := fun k_ => (((True ∧ some k_ ≠ (.slice Ao85 t662.length co85 : Value).ownBlock) ∧ k_ ≠ gb702) ∧ some k_ ≠ (.slice Ao169 t704.length co169 : Value).ownBlock)) (n := t695.length) (c := co160) ?_).2.2; exact (rQ2 HO697 BK708)); rintro e w172 ⟨v711, rfl, ho0, hb⟩; refine ⟨_, rfl, ?_⟩; have HO712 := aM (Kd.R_lower (Kd.R_newB (Kd.R_new' (Kd.R_new' (Kd.R_new' ho0 (Kd.R_lt (rQ2 HO_666001 BK708))) (Kd.R_lt (rQ2 HO697 BK708))) (Kd.R_lt (rQ2 HO706 BK708))) (g := gb702) (o := .cells #[.int .i64 t698, .int .i64 t699, .int .i64 t700] 40 (0, 0)) (kU BK702.out)) (below_size (bel HB))); replace HO_666001 := aM (Kd.R_elder' (rQ2 HO_666001 BK708) (Kd.R_base ho0) hb); replace HO697 := aM (Kd.R_elder' (rQ2 HO697 BK708) (Kd.R_base ho0) hb); replace HO706 := aM (Kd.R_elder' (rQ2 HO706 BK708) (Kd.R_base ho0) hb); replace BK665 := bK BK665 hb; replace BK701 := bK BK701 hb; replace BK702 := bK BK702 hb; replace BK708 := aM (blk_below (g := gb708) (o := .cells #[.int .i64 t703, .slice Ao169 t704.length co169] 28 (0, 0)) (bP2 BK708) hb); replace HB := hS HB hb; clear hb ho0) | ((with_reducible refine gate_dst (N := 45) rfl ?_); (try (refine gate_guard (by rfl) ?_; dsimp only)); refine bX (N := 45) rfl (cs := #[.int .i64 0, .slice none 0 0]) (t := 28) ?_; intro gb714 hg w173 BK714 hb; have GW714 := gE hg HB; have GE714 := gE hg HB; have NB665_714 := nbL hg BK665; have NB714_665 := nbR hg BK665; have NB701_714 := nbL hg BK701; have NB714_701 := nbR hg BK701; have NB702_714 := nbL hg BK702; have NB714_702 := nbR hg BK702; have NB708_714 := nbL hg BK708; have NB714_708 := nbR hg BK708; replace HO_666001 := rB HO_666001 hb; replace HO697 := rB HO697 hb; replace HO706 := rB HO706 hb; replace HO712 := rB HO712 hb; replace BK665 := bB BK665 hb; replace BK701 := bB BK701 hb; replace BK702 := bB BK702 hb; replace BK708 := bB BK708 hb; replace HB := hS HB hb; clear hb hg; have hnb174 := NB714_665.out; have hnc174 := NB665_714.out; have hnb175 := NB714_701.out; have hnc175 := NB701_714.out; have hnb176 := NB714_702.out; have hnc176 := NB702_714.out; have hnb177 := NB714_708.out; have hnc177 := NB708_714.out; obtain ⟨hcz178_0, hcz178_1, hfz178_0, hfz178_1⟩ := hC2 BK714; obtain ⟨Ao179, co179, eo179⟩ := Kd.R_slice HO712.out; subst eo179) | ((with_reducible refine gG 26 (some 301) rfl rfl ?_); refine gD Tryz.func26 (spec_DrawDropClue.calls kj118 _ _ l1 t715 t716 t719 _ (Kd.C_below HR1.out (bel HB)) HC1.out A146.out) ?_; rintro w180 v717 ⟨ho0, hb⟩; have HO718 := aM (Kd.R_lower (Kd.R_newB (Kd.R_new' (Kd.R_new' (Kd.R_new' (Kd.R_new' ho0 (Kd.R_lt (rQ2 HO_666001 BK714))) (Kd.R_lt (rQ2 HO697 BK714))) (Kd.R_lt (rQ2 HO706 BK714))) (Kd.R_lt (rQ2 HO712 BK714))) (g := gb702) (o := .cells #[.int .i64 t698, .int .i64 t699, .int .i64 t700] 40 (0, 0)) (kU BK702.out)) (below_size (bel HB))); replace HO_666001 := aM (Kd.R_elder' (rQ2 HO_666001 BK714) (Kd.R_base ho0) hb); replace HO697 := aM (Kd.R_elder' (rQ2 HO697 BK714) (Kd.R_base ho0) hb); replace HO706 := aM (Kd.R_elder' (rQ2 HO706 BK714) (Kd.R_base ho0) hb); replace HO712 := aM (Kd.R_elder' (rQ2 HO712 BK714) (Kd.R_base ho0) hb); replace BK665 := bK BK665 hb; replace BK701 := bK BK701 hb; replace BK702 := bK BK702 hb; replace BK708 := bK BK708 hb; replace BK714 := aM (blk_below (g := gb714) (o := .cells #[.int .i64 t709, .slice Ao179 t710.length co179] 28 (0, 0)) (bP2 BK714) hb); replace HB := hS HB hb; clear hb ho0) | ((with_reducible refine gate_dst (N := 47) rfl ?_); (try (refine gate_guard (by rfl) ?_; dsimp only)); refine bX (N := 47) rfl (cs := #[.int .i64 0, .slice none 0 0]) (t := 28) ?_; intro gb720 hg w181 BK720 hb; have GW720 := gE hg HB; have GE720 := gE hg HB; have NB665_720 := nbL hg BK665; have NB720_665 := nbR hg BK665; have NB701_720 := nbL hg BK701; have NB720_701 := nbR hg BK701; have NB702_720 := nbL hg BK702; have NB720_702 := nbR hg BK702; have NB708_720 := nbL hg BK708; have NB720_708 := nbR hg BK708; have NB714_720 := nbL hg BK714; have NB720_714 := nbR hg BK714; replace HO_666001 := rB HO_666001 hb; replace HO697 := rB HO697 hb; replace HO706 := rB HO706 hb; replace HO712 := rB HO712 hb; replace HO718 := rB HO718 hb; replace BK665 := bB BK665 hb; replace BK701 := bB BK701 hb; replace BK702 := bB BK702 hb; replace BK708 := bB BK708 hb; replace BK714 := bB BK714 hb; replace HB := hS HB hb; clear hb hg; have hnb182 := NB720_665.out; have hnc182 := NB665_720.out; have hnb183 := NB720_701.out; have hnc183 := NB701_720.out; have hnb184 := NB720_702.out; have hnc184 := NB702_720.out; have hnb185 := NB720_708.out; have hnc185 := NB708_720.out; have hnb186 := NB720_714.out; have hnc186 := NB714_720.out; obtain ⟨hcz187_0, hcz187_1, hfz187_0, hfz187_1⟩ := hC2 BK720; obtain ⟨Ao188, co188, eo188⟩ := Kd.R_slice HO718.out; subst eo188) | ((with_reducible refine gG 27 (some 307) rfl rfl ?_); refine gL Tryz.func27 #[.agg #[.int .i64 t715, .slice Ao188 t716.length co188], .int .i64 t719] ?_; (with_reducible refine (impl_DropClue.calls t715 _ _ t716 t719 t721 t722 t725 _ ?side1 ((Kd.R_reads' HO718.out).2.1) A147.out).mono ?_); (case side1 => refine (Kd.R_reads' (e := 40) (base := w.heap.size) (ok := fun k_ => (((((True ∧ some k_ ≠ (.slice Ao85 t662.length co85 : Value).ownBlock) ∧ some k_ ≠ (.slice Ao160 t695.length co160 : Value).ownBlock) ∧ some k_ ≠ (.slice Ao169 t704.length co169 : Value).ownBlock) ∧ some k_ ≠ (.slice Ao179 t710.length co179 : Value).ownBlock) ∧ k_ ≠ gb702)) (n := t716.length) (c := co188) ?_).2.2; exact (rQ2 HO718 BK720)); rintro e w189 ⟨v723, rfl, ho0, hb⟩; refine ⟨_, rfl, ?_⟩; have HO724 := aM (Kd.R_lower (Kd.R_newB (Kd.R_new' (Kd.R_new' (Kd.R_new' (Kd.R_new' (Kd.R_new' ho0 (Kd.R_lt (rQ2 HO_666001 BK720))) (Kd.R_lt (rQ2 HO697 BK720))) (Kd.R_lt (rQ2 HO706 BK720))) (Kd.R_lt (rQ2 HO712 BK720))) (Kd.R_lt (rQ2 HO718 BK720))) (g := gb702) (o := .cells #[.int .i64 t698, .int .i64 t699, .int .i64 t700] 40 (0, 0)) (kU BK702.out)) (below_size (bel HB))); replace HO_666001 := aM (Kd.R_elder' (rQ2 HO_666001 BK720) (Kd.R_base ho0) hb); replace HO697 := aM (Kd.R_elder' (rQ2 HO697 BK720) (Kd.R_base ho0) hb); replace HO706 := aM (Kd.R_elder' (rQ2 HO706 BK720) (Kd.R_base ho0) hb); replace HO712 := aM (Kd.R_elder' (rQ2 HO712 BK720) (Kd.R_base ho0) hb); replace HO718 := aM (Kd.R_elder' (rQ2 HO718 BK720) (Kd.R_base ho0) hb); replace BK665 := bK BK665 hb; replace BK701 := bK BK701 hb; replace BK702 := bK BK702 hb; replace BK708 := bK BK708 hb; replace BK714 := bK BK714 hb; replace BK720 := aM (blk_below (g := gb720) (o := .cells #[.int .i64 t715, .slice Ao188 t716.length co188] 28 (0, 0)) (bP2 BK720) hb); replace HB := hS HB hb; clear hb ho0) | ((with_reducible refine gate_dst (N := 49) rfl ?_); (try (refine gate_guard (by rfl) ?_; dsimp only)); refine bX (N := 49) rfl (cs := #[.int .i64 0, .slice none 0 0]) (t := 28) ?_; intro gb726 hg w190 BK726 hb; have GW726 := gE hg HB; have GE726 := gE hg HB; have NB665_726 := nbL hg BK665; have NB726_665 := nbR hg BK665; have NB701_726 := nbL hg BK701; have NB726_701 := nbR hg BK701; have NB702_726 := nbL hg BK702; have NB726_702 := nbR hg BK702; have NB708_726 := nbL hg BK708; have NB726_708 := nbR hg BK708; have NB714_726 := nbL hg BK714; have NB726_714 := nbR hg BK714; have NB720_726 := nbL hg BK720; have NB726_720 := nbR hg BK720; replace HO_666001 := rB HO_666001 hb; replace HO697 := rB HO697 hb; replace HO706 := rB HO706 hb; replace HO712 := rB HO712 hb; replace HO718 := rB HO718 hb; replace HO724 := rB HO724 hb; replace BK665 := bB BK665 hb; replace BK701 := bB BK701 hb; replace BK702 := bB BK702 hb; replace BK708 := bB BK708 hb; replace BK714 := bB BK714 hb; replace BK720 := bB BK720 hb; replace HB := hS HB hb; clear hb hg; have hnb191 := NB726_665.out; have hnc191 := NB665_726.out; have hnb192 := NB726_701.out; have hnc192 := NB701_726.out; have hnb193 := NB726_702.out; have hnc193 := NB702_726.out; have hnb194 := NB726_708.out; have hnc194 := NB708_726.out; have hnb195 := NB726_714.out; have hnc195 := NB714_726.out; have hnb196 := NB726_720.out; have hnc196 := NB720_726.out; obtain ⟨hcz197_0, hcz197_1, hfz197_0, hfz197_1⟩ := hC2 BK726; obtain ⟨Ao198, co198, eo198⟩ := Kd.R_slice HO724.out; subst eo198; obtain ⟨hcz199_0, hcz199_1, hfz199_0, hfz199_1⟩ := hC2 BK720) | ((with_reducible refine gG 28 (some 313) rfl rfl ?_); refine gL Tryz.func28 #[.agg #[.int .i64 t715, .slice Ao188 t716.length co188], .int .i64 t719] ?_; (with_reducible refine (spec_DropClue.calls kj118 t715 _ _ t716 t719 t727 t728 t731 _ ?side1 ((Kd.R_reads' HO718.out).2.1) A148.out).mono ?_); (case side1 => refine (Kd.R_reads' (e := 40) (base := w.heap.size) (ok := fun k_ => ((((((True ∧ some k_ ≠ (.slice Ao85 t662.length co85 : Value).ownBlock) ∧ some k_ ≠ (.slice Ao160 t695.length co160 : Value).ownBlock) ∧ some k_ ≠ (.slice Ao169 t704.length co169 : Value).ownBlock) ∧ some k_ ≠ (.slice Ao179 t710.length co179 : Value).ownBlock) ∧ k_ ≠ gb702) ∧ some k_ ≠ (.slice Ao198 t722.length co198 : Value).ownBlock)) (n := t716.length) (c := co188) ?_).2.2; exact (rQ2 HO718 BK726)); rintro e w200 ⟨v729, rfl, ho0, hb⟩; refine ⟨_, rfl, ?_⟩; have HO730 := aM (Kd.R_lower (Kd.R_newB (Kd.R_new' (Kd.R_new' (Kd.R_new' (Kd.R_new' (Kd.R_new' (Kd.R_new' ho0 (Kd.R_lt (rQ2 HO_666001 BK726))) (Kd.R_lt (rQ2 HO697 BK726))) (Kd.R_lt (rQ2 HO706 BK726))) (Kd.R_lt (rQ2 HO712 BK726))) (Kd.R_lt (rQ2 HO718 BK726))) (Kd.R_lt (rQ2 HO724 BK726))) (g := gb702) (o := .cells #[.int .i64 t698, .int .i64 t699, .int .i64 t700] 40 (0, 0)) (kU BK702.out)) (below_size (bel HB))); replace HO_666001 := aM (Kd.R_elder' (rQ2 HO_666001 BK726) (Kd.R_base ho0) hb); replace HO697 := aM (Kd.R_elder' (rQ2 HO697 BK726) (Kd.R_base ho0) hb); replace HO706 := aM (Kd.R_elder' (rQ2 HO706 BK726) (Kd.R_base ho0) hb); replace HO712 := aM (Kd.R_elder' (rQ2 HO712 BK726) (Kd.R_base ho0) hb); replace HO718 := aM (Kd.R_elder' (rQ2 HO718 BK726) (Kd.R_base ho0) hb); replace HO724 := aM (Kd.R_elder' (rQ2 HO724 BK726) (Kd.R_base ho0) hb); replace BK665 := bK BK665 hb; replace BK701 := bK BK701 hb; replace BK702 := bK BK702 hb; replace BK708 := bK BK708 hb; replace BK714 := bK BK714 hb; replace BK720 := bK BK720 hb; replace BK726 := aM (blk_below (g := gb726) (o := .cells #[.int .i64 t721, .slice Ao198 t722.length co198] 28 (0, 0)) (bP2 BK726) hb); replace HB := hS HB hb; clear hb ho0) | ((with_reducible refine gate_dst (N := 51) rfl ?_); (try (refine gate_guard (by rfl) ?_; dsimp only)); refine bX (N := 51) rfl (cs := #[.int .i64 0, .slice none 0 0]) (t := 28) ?_; intro gb732 hg w201 BK732 hb; have GW732 := gE hg HB; have GE732 := gE hg HB; have NB665_732 := nbL hg BK665; have NB732_665 := nbR hg BK665; have NB701_732 := nbL hg BK701; have NB732_701 := nbR hg BK701; have NB702_732 := nbL hg BK702; have NB732_702 := nbR hg BK702; have NB708_732 := nbL hg BK708; have NB732_708 := nbR hg BK708; have NB714_732 := nbL hg BK714; have NB732_714 := nbR hg BK714; have NB720_732 := nbL hg BK720; have NB732_720 := nbR hg BK720; have NB726_732 := nbL hg BK726; have NB732_726 := nbR hg BK726; replace HO_666001 := rB HO_666001 hb; replace HO697 := rB HO697 hb; replace HO706 := rB HO706 hb; replace HO712 := rB HO712 hb; replace HO718 := rB HO718 hb; replace HO724 := rB HO724 hb; replace HO730 := rB HO730 hb; replace BK665 := bB BK665 hb; replace BK701 := bB BK701 hb; replace BK702 := bB BK702 hb; replace BK708 := bB BK708 hb; replace BK714 := bB BK714 hb; replace BK720 := bB BK720 hb; replace BK726 := bB BK726 hb; replace HB := hS HB hb; clear hb hg; have hnb202 := NB732_665.out; have hnc202 := NB665_732.out; have hnb203 := NB732_701.out; have hnc203 := NB701_732.out; have hnb204 := NB732_702.out; have hnc204 := NB702_732.out; have hnb205 := NB732_708.out; have hnc205 := NB708_732.out; have hnb206 := NB732_714.out; have hnc206 := NB714_732.out; have hnb207 := NB732_720.out; have hnc207 := NB720_732.out; have hnb208 := NB732_726.out; have hnc208 := NB726_732.out; obtain ⟨hcz209_0, hcz209_1, hfz209_0, hfz209_1⟩ := hC2 BK732; obtain ⟨Ao210, co210, eo210⟩ := Kd.R_slice HO730.out; subst eo210) | ((with_reducible refine gG 29 (some 318) rfl rfl ?_); refine gC Tryz.func29 (spec_DrawDoesFit.calls kj118 _ _ l1 t733 t734 t735 t736 _ (Kd.C_below HR1.out (bel HB)) HC1.out A149.out) ?_; rintro w211 hb; replace HO_666001 := aM (Kd.R_below (rQ2 HO_666001 BK732) hb); replace HO697 := aM (Kd.R_below (rQ2 HO697 BK732) hb); replace HO706 := aM (Kd.R_below (rQ2 HO706 BK732) hb); replace HO712 := aM (Kd.R_below (rQ2 HO712 BK732) hb); replace HO718 := aM (Kd.R_below (rQ2 HO718 BK732) hb); replace HO724 := aM (Kd.R_below (rQ2 HO724 BK732) hb); replace HO730 := aM (Kd.R_below (rQ2 HO730 BK732) hb); replace BK665 := bK BK665 hb; replace BK701 := bK BK701 hb; replace BK702 := bK BK702 hb; replace BK708 := bK BK708 hb; replace BK714 := bK BK714 hb; replace BK720 := bK BK720 hb; replace BK726 := bK BK726 hb; replace BK732 := aM (blk_below (g := gb732) (o := .cells #[.int .i64 t727, .slice Ao210 t728.length co210] 28 (0, 0)) (bP2 BK732) hb); replace HB := hS HB hb; clear hb) | ((with_reducible refine gate_dst (N := 53) rfl ?_); (try (refine gate_guard (by rfl) ?_; dsimp only)); refine bX (N := 53) rfl (cs := #[.int .i64 0, .int .i64 0, .int .i64 0]) (t := 40) ?_; intro gb737 hg w212 BK737 hb; have GW737 := gE hg HB; have GE737 := gE hg HB; have NB665_737 := nbL hg BK665; have NB737_665 := nbR hg BK665; have NB701_737 := nbL hg BK701; have NB737_701 := nbR hg BK701; have NB702_737 := nbL hg BK702; have NB737_702 := nbR hg BK702; have NB708_737 := nbL hg BK708; have NB737_708 := nbR hg BK708; have NB714_737 := nbL hg BK714; have NB737_714 := nbR hg BK714; have NB720_737 := nbL hg BK720; have NB737_720 := nbR hg BK720; have NB726_737 := nbL hg BK726; have NB737_726 := nbR hg BK726; have NB732_737 := nbL hg BK732; have NB737_732 := nbR hg BK732; replace HO_666001 := aM (Kd.R_below (Kd.R_elderB (rU HO_666001.out) gb737 (Nat.le_of_eq hg.symm)) hb); replace HO697 := aM (Kd.R_below (Kd.R_elderB (rU HO697.out) gb737 (Nat.le_of_eq hg.symm)) hb); replace HO706 := aM (Kd.R_below (Kd.R_elderB (rU HO706.out) gb737 (Nat.le_of_eq hg.symm)) hb); replace HO712 := aM (Kd.R_below (Kd.R_elderB (rU HO712.out) gb737 (Nat.le_of_eq hg.symm)) hb); replace HO718 := aM (Kd.R_below (Kd.R_elderB (rU HO718.out) gb737 (Nat.le_of_eq hg.symm)) hb); replace HO724 := aM (Kd.R_below (Kd.R_elderB (rU HO724.out) gb737 (Nat.le_of_eq hg.symm)) hb); replace HO730 := aM (Kd.R_below (Kd.R_elderB (rU HO730.out) gb737 (Nat.le_of_eq hg.symm)) hb); replace BK665 := bB BK665 hb; replace BK701 := bB BK701 hb; replace BK702 := bB BK702 hb; replace BK708 := bB BK708 hb; replace BK714 := bB BK714 hb; replace BK720 := bB BK720 hb; replace BK726 := bB BK726 hb; replace BK732 := bB BK732 hb; replace HB := hS HB hb; clear hb hg; have hnb213 := NB737_665.out; have hnc213 := NB665_737.out; have hnb214 := NB737_701.out; have hnc214 := NB701_737.out; have hnb215 := NB737_702.out; have hnc215 := NB702_737.out; have hnb216 := NB737_708.out; have hnc216 := NB708_737.out; have hnb217 := NB737_714.out; have hnc217 := NB714_737.out; have hnb218 := NB737_720.out; have hnc218 := NB720_737.out; have hnb219 := NB737_726.out; have hnc219 := NB726_737.out; have hnb220 := NB737_732.out; have hnc220 := NB732_737.out; obtain ⟨hcz221_0, hcz221_1, hcz221_2, hfz221_0, hfz221_1, hfz221_2⟩ := hC3 BK737) | ((with_reducible refine gG 11 (some 324) rfl rfl ?_); refine gC Tryz.func11 (impl_DoesFit.calls kj118 t733 t734 t735 t736 t738 t739 _ A150.out) ?_; rintro w222 hb; replace HO_666001 := aM (Kd.R_below (rU (Kd.R_mono (Kd.R_far (p := ⟨gb737, 2, none⟩) (Kd.R_far (p := ⟨gb737, 1, none⟩) (Kd.R_far (p := ⟨gb737, 0, none⟩) (Kd.R_mono HO_666001.out (fun k_ hk => (⟨hk, hk.2⟩ : _ ∧ k_ ≠ gb737))) (fun _ hk => hk.2) (.int .i64 t733)) (fun _ hk => hk.2) (.int .i64 t734)) (fun _ hk => hk.2) (.int .i64 t735)) (fun _ h_ => h_.1))) hb); replace HO697 := aM (Kd.R_below (rU (Kd.R_mono (Kd.R_far (p := ⟨gb737, 2, none⟩) (Kd.R_far (p := ⟨gb737, 1, none⟩) (Kd.R_far (p := ⟨gb737, 0, none⟩) (Kd.R_mono HO697.out (fun k_ hk => (⟨hk, hk.2⟩ : _ ∧ k_ ≠ gb737))) (fun _ hk => hk.2) (.int .i64 t733)) (fun _ hk => hk.2) (.int .i64 t734)) (fun _ hk => hk.2) (.int .i64 t735)) (fun _ h_ => h_.1))) hb); replace HO706 := aM (Kd.R_below (rU (Kd.R_mono (Kd.R_far (p := ⟨gb737, 2, none⟩) (Kd.R_far (p := ⟨gb737, 1, none⟩) (Kd.R_far (p := ⟨gb737, 0, none⟩) (Kd.R_mono HO706.out (fun k_ hk => (⟨hk, hk.2⟩ : _ ∧ k_ ≠ gb737))) (fun _ hk => hk.2) (.int .i64 t733)) (fun _ hk => hk.2) (.int .i64 t734)) (fun _ hk => hk.2) (.int .i64 t735)) (fun _ h_ => h_.1))) hb); replace HO712 := aM (Kd.R_below (rU (Kd.R_mono (Kd.R_far (p := ⟨gb737, 2, none⟩) (Kd.R_far (p := ⟨gb737, 1, none⟩) (Kd.R_far (p := ⟨gb737, 0, none⟩) (Kd.R_mono HO712.out (fun k_ hk => (⟨hk, hk.2⟩ : _ ∧ k_ ≠ gb737))) (fun _ hk => hk.2) (.int .i64 t733)) (fun _ hk => hk.2) (.int .i64 t734)) (fun _ hk => hk.2) (.int .i64 t735)) (fun _ h_ => h_.1))) hb); replace HO718 := aM (Kd.R_below (rU (Kd.R_mono (Kd.R_far (p := ⟨gb737, 2, none⟩) (Kd.R_far (p := ⟨gb737, 1, none⟩) (Kd.R_far (p := ⟨gb737, 0, none⟩) (Kd.R_mono HO718.out (fun k_ hk => (⟨hk, hk.2⟩ : _ ∧ k_ ≠ gb737))) (fun _ hk => hk.2) (.int .i64 t733)) (fun _ hk => hk.2) (.int .i64 t734)) (fun _ hk => hk.2) (.int .i64 t735)) (fun _ h_ => h_.1))) hb); replace HO724 := aM (Kd.R_below (rU (Kd.R_mono (Kd.R_far (p := ⟨gb737, 2, none⟩) (Kd.R_far (p := ⟨gb737, 1, none⟩) (Kd.R_far (p := ⟨gb737, 0, none⟩) (Kd.R_mono HO724.out (fun k_ hk => (⟨hk, hk.2⟩ : _ ∧ k_ ≠ gb737))) (fun _ hk => hk.2) (.int .i64 t733)) (fun _ hk => hk.2) (.int .i64 t734)) (fun _ hk => hk.2) (.int .i64 t735)) (fun _ h_ => h_.1))) hb); replace HO730 := aM (Kd.R_below (rU (Kd.R_mono (Kd.R_far (p := ⟨gb737, 2, none⟩) (Kd.R_far (p := ⟨gb737, 1, none⟩) (Kd.R_far (p := ⟨gb737, 0, none⟩) (Kd.R_mono HO730.out (fun k_ hk => (⟨hk, hk.2⟩ : _ ∧ k_ ≠ gb737))) (fun _ hk => hk.2) (.int .i64 t733)) (fun _ hk => hk.2) (.int .i64 t734)) (fun _ hk => hk.2) (.int .i64 t735)) (fun _ h_ => h_.1))) hb); replace BK665 := aM (blk_below (g := gb665) (o := .cells #[.int .i64 t661, .slice Ao85 t662.length co85] 28 (0, 0)) (by (with_reducible repeat (first | refine blk_drewN ?_ _ | refine blk_drew ?_ | refine blk_alloc ?_ _)); refine blk_far ?_ NB665_737.out _; (with_reducible repeat (first | refine blk_drewN ?_ _ | refine blk_drew ?_ | refine blk_alloc ?_ _)); refine blk_far ?_ NB665_737.out _; (with_reducible repeat (first | refine blk_drewN ?_ _ | refine blk_drew ?_ | refine blk_alloc ?_ _)); refine blk_far ?_ NB665_737.out _; (with_reducible repeat (first | refine blk_drewN ?_ _ | refine blk_drew ?_ | refine blk_alloc ?_ _)); exact BK665.out) hb); replace BK701 := aM (blk_below (g := gb701) (o := .cells #[.int .i64 t694, .slice Ao160 t695.length co160] 28 (0, 0)) (by (with_reducible repeat (first | refine blk_drewN ?_ _ | refine blk_drew ?_ | refine blk_alloc ?_ _)); refine blk_far ?_ NB701_737.out _; (with_reducible repeat (first | refine blk_drewN ?_ _ | refine blk_drew ?_ | refine blk_alloc ?_ _)); refine blk_far ?_ NB701_737.out _; (with_reducible repeat (first | refine blk_drewN ?_ _ | refine blk_drew ?_ | refine blk_alloc ?_ _)); refine blk_far ?_ NB701_737.out _; (with_reducible repeat (first | refine blk_drewN ?_ _ | refine blk_drew ?_ | refine blk_alloc ?_ _)); exact BK701.out) hb); replace BK702 := aM (blk_below (g := gb702) (o := .cells #[.int .i64 t698, .int .i64 t699, .int .i64 t700] 40 (0, 0)) (by (with_reducible repeat (first | refine blk_drewN ?_ _ | refine blk_drew ?_ | refine blk_alloc ?_ _)); refine blk_far ?_ NB702_737.out _; (with_reducible repeat (first | refine blk_drewN ?_ _ | refine blk_drew ?_ | refine blk_alloc ?_ _)); refine blk_far ?_ NB702_737.out _; (with_reducible repeat (first | refine blk_drewN ?_ _ | refine blk_drew ?_ | refine blk_alloc ?_ _)); refine blk_far ?_ NB702_737.out _; (with_reducible repeat (first | refine blk_drewN ?_ _ | refine blk_drew ?_ | refine blk_alloc ?_ _)); exact BK702.out) hb); replace BK708 := aM (blk_below (g := gb708) (o := .cells #[.int .i64 t703, .slice Ao169 t704.length co169] 28 (0, 0)) (by (with_reducible repeat (first | refine blk_drewN ?_ _ | refine blk_drew ?_ | refine blk_alloc ?_ _)); refine blk_far ?_ NB708_737.out _; (with_reducible repeat (first | refine blk_drewN ?_ _ | refine blk_drew ?_ | refine blk_alloc ?_ _)); refine blk_far ?_ NB708_737.out _; (with_reducible repeat (first | refine blk_drewN ?_ _ | refine blk_drew ?_ | refine blk_alloc ?_ _)); refine blk_far ?_ NB708_737.out _; (with_reducible repeat (first | refine blk_drewN ?_ _ | refine blk_drew ?_ | refine blk_alloc ?_ _)); exact BK708.out) hb); replace BK714 := aM (blk_below (g := gb714) (o := .cells #[.int .i64 t709, .slice Ao179 t710.length co179] 28 (0, 0)) (by (with_reducible repeat (first | refine blk_drewN ?_ _ | refine blk_drew ?_ | refine blk_alloc ?_ _)); refine blk_far ?_ NB714_737.out _; (with_reducible repeat (first | refine blk_drewN ?_ _ | refine blk_drew ?_ | refine blk_alloc ?_ _)); refine blk_far ?_ NB714_737.out _; (with_reducible repeat (first | refine blk_drewN ?_ _ | refine blk_drew ?_ | refine blk_alloc ?_ _)); refine blk_far ?_ NB714_737.out _; (with_reducible repeat (first | refine blk_drewN ?_ _ | refine blk_drew ?_ | refine blk_alloc ?_ _)); exact BK714.out) hb); replace BK720 := aM (blk_below (g := gb720) (o := .cells #[.int .i64 t715, .slice Ao188 t716.length co188] 28 (0, 0)) (by (with_reducible repeat (first | refine blk_drewN ?_ _ | refine blk_drew ?_ | refine blk_alloc ?_ _)); refine blk_far ?_ NB720_737.out _; (with_reducible repeat (first | refine blk_drewN ?_ _ | refine blk_drew ?_ | refine blk_alloc ?_ _)); refine blk_far ?_ NB720_737.out _; (with_reducible repeat (first | refine blk_drewN ?_ _ | refine blk_drew ?_ | refine blk_alloc ?_ _)); refine blk_far ?_ NB720_737.out _; (with_reducible repeat (first | refine blk_drewN ?_ _ | refine blk_drew ?_ | refine blk_alloc ?_ _)); exact BK720.out) hb); replace BK726 := aM (blk_below (g := gb726) (o := .cells #[.int .i64 t721, .slice Ao198 t722.length co198] 28 (0, 0)) (by (with_reducible repeat (first | refine blk_drewN ?_ _ | refine blk_drew ?_ | refine blk_alloc ?_ _)); refine blk_far ?_ NB726_737.out _; (with_reducible repeat (first | refine blk_drewN ?_ _ | refine blk_drew ?_ | refine blk_alloc ?_ _)); refine blk_far ?_ NB726_737.out _; (with_reducible repeat (first | refine blk_drewN ?_ _ | refine blk_drew ?_ | refine blk_alloc ?_ _)); refine blk_far ?_ NB726_737.out _; (with_reducible repeat (first | refine blk_drewN ?_ _ | refine blk_drew ?_ | refine blk_alloc ?_ _)); exact BK726.out) hb); replace BK732 := aM (blk_below (g := gb732) (o := .cells #[.int .i64 t727, .slice Ao210 t728.length co210] 28 (0, 0)) (by (with_reducible repeat (first | refine blk_drewN ?_ _ | refine blk_drew ?_ | refine blk_alloc ?_ _)); refine blk_far ?_ NB732_737.out _; (with_reducible repeat (first | refine blk_drewN ?_ _ | refine blk_drew ?_ | refine blk_alloc ?_ _)); refine blk_far ?_ NB732_737.out _; (with_reducible repeat (first | refine blk_drewN ?_ _ | refine blk_drew ?_ | refine blk_alloc ?_ _)); refine blk_far ?_ NB732_737.out _; (with_reducible repeat (first | refine blk_drewN ?_ _ | refine blk_drew ?_ | refine blk_alloc ?_ _)); exact BK732.out) hb); replace BK737 := aM (blk_below (g := gb737) (o := .cells #[.int .i64 t733, .int .i64 t734, .int .i64 t735] 40 (0, 0)) (by (with_reducible repeat (first | refine blk_drewN ?_ _ | refine blk_drew ?_ | refine blk_alloc ?_ _)); refine blk_put (cs := #[.int .i64 t733, .int .i64 t734, .int .i64 0]) ?_ 2 _ rfl; (with_reducible repeat (first | refine blk_drewN ?_ _ | refine blk_drew ?_ | refine blk_alloc ?_ _)); refine blk_put (cs := #[.int .i64 t733, .int .i64 0, .int .i64 0]) ?_ 1 _ rfl; (with_reducible repeat (first | refine blk_drewN ?_ _ | refine blk_drew ?_ | refine blk_alloc ?_ _)); refine blk_put (cs := #[.int .i64 0, .int .i64 0, .int .i64 0]) ?_ 0 _ rfl; (with_reducible repeat (first | refine blk_drewN ?_ _ | refine blk_drew ?_ | refine blk_alloc ?_ _)); exact BK737.out) hb); replace HB := hS HB hb; clear hb; obtain ⟨hcz223_0, hcz223_1, hcz223_2, hfz223_0, hfz223_1, hfz223_2⟩ := hC3 BK737) | ((with_reducible refine gG 30 (some 330) rfl rfl ?_); refine gC Tryz.func30 (spec_DoesFit.calls kj118 t733 t734 t735 t736 t740 t741 _ A151.out) ?_; rintro w224 hb; replace HO_666001 := rB HO_666001 hb; replace HO697 := rB HO697 hb; replace HO706 := rB HO706 hb; replace HO712 := rB HO712 hb; replace HO718 := rB HO718 hb; replace HO724 := rB HO724 hb; replace HO730 := rB HO730 hb; replace BK665 := bB BK665 hb; replace BK701 := bB BK701 hb; replace BK702 := bB BK702 hb; replace BK708 := bB BK708 hb; replace BK714 := bB BK714 hb; replace BK720 := bB BK720 hb; replace BK726 := bB BK726 hb; replace BK732 := bB BK732 hb; replace BK737 := bB BK737 hb; replace HB := hS HB hb; clear hb) | ((with_reducible refine gG 31 (some 335) rfl rfl ?_); refine gC Tryz.func31 (spec_DrawIsClue.calls kj118 _ _ l1 t742 t743 t744 t745 _ (cU (Kd.C_below HR1.out HB.out)) HC1.out A152.out) ?_; rintro w225 hb; replace HO_666001 := rB HO_666001 hb; replace HO697 := rB HO697 hb; replace HO706 := rB HO706 hb; replace HO712 := rB HO712 hb; replace HO718 := rB HO718 hb; replace HO724 := rB HO724 hb; replace HO730 := rB HO730 hb; replace BK665 := bB BK665 hb; replace BK701 := bB BK701 hb; replace BK702 := bB BK702 hb; replace BK708 := bB BK708 hb; replace BK714 := bB BK714 hb; replace BK720 := bB BK720 hb; replace BK726 := bB BK726 hb; replace BK732 := bB BK732 hb; replace BK737 := bB BK737 hb; replace HB := hS HB hb; clear hb) | ((with_reducible refine gate_dst (N := 60) rfl ?_); (try (refine gate_guard (by rfl) ?_; dsimp only)); refine bX (N := 60) rfl (cs := #[.int .i64 0, .int .i64 0, .int .i64 0]) (t := 40) ?_; intro gb746 hg w226 BK746 hb; have GW746 := gE hg HB; have GE746 := gE hg HB; have NB665_746 := nbL hg BK665; have NB746_665 := nbR hg BK665; have NB701_746 := nbL hg BK701; have NB746_701 := nbR hg BK701; have NB702_746 := nbL hg BK702; have NB746_702 := nbR hg BK702; have NB708_746 := nbL hg BK708; have NB746_708 := nbR hg BK708; have NB714_746 := nbL hg BK714; have NB746_714 := nbR hg BK714; have NB720_746 := nbL hg BK720; have NB746_720 := nbR hg BK720; have NB726_746 := nbL hg BK726; have NB746_726 := nbR hg BK726; have NB732_746 := nbL hg BK732; have NB746_732 := nbR hg BK732; have NB737_746 := nbL hg BK737; have NB746_737 := nbR hg BK737; replace HO_666001 := aM (Kd.R_below (Kd.R_elderB (rU HO_666001.out) gb746 (Nat.le_of_eq hg.symm)) hb); replace HO697 := aM (Kd.R_below (Kd.R_elderB (rU HO697.out) gb746 (Nat.le_of_eq hg.symm)) hb); replace HO706 := aM (Kd.R_below (Kd.R_elderB (rU HO706.out) gb746 (Nat.le_of_eq hg.symm)) hb); replace HO712 := aM (Kd.R_below (Kd.R_elderB (rU HO712.out) gb746 (Nat.le_of_eq hg.symm)) hb); replace HO718 := aM (Kd.R_below (Kd.R_elderB (rU HO718.out) gb746 (Nat.le_of_eq hg.symm)) hb); replace HO724 := aM (Kd.R_below (Kd.R_elderB (rU HO724.out) gb746 (Nat.le_of_eq hg.symm)) hb); replace HO730 := aM (Kd.R_below (Kd.R_elderB (rU HO730.out) gb746 (Nat.le_of_eq hg.symm)) hb); replace BK665 := bB BK665 hb; replace BK701 := bB BK701 hb; replace BK702 := bB BK702 hb; replace BK708 := bB BK708 hb; replace BK714 := bB BK714 hb; replace BK720 := bB BK720 hb; replace BK726 := bB BK726 hb; replace BK732 := bB BK732 hb; replace BK737 := bB BK737 hb; replace HB := hS HB hb; clear hb hg; have hnb227 := NB746_665.out; have hnc227 := NB665_746.out; have hnb228 := NB746_701.out; have hnc228 := NB701_746.out; have hnb229 := NB746_702.out; have hnc229 := NB702_746.out; have hnb230 := NB746_708.out; have hnc230 := NB708_746.out; have hnb231 := NB746_714.out; have hnc231 := NB714_746.out; have hnb232 := NB746_720.out; have hnc232 := NB720_746.out; have hnb233 := NB746_726.out; have hnc233 := NB726_746.out; have hnb234 := NB746_732.out; have hnc234 := NB732_746.out; have hnb235 := NB746_737.out; have hnc235 := NB737_746.out; obtain ⟨hcz236_0, hcz236_1, hcz236_2, hfz236_0, hfz236_1, hfz236_2⟩ := hC3 BK746))
     (try simp only [Act.put, List.setIfInBounds_toArray, List.set_cons_zero, List.set_cons_succ])
     go_cut [386] from 282 to 386 (fun v386 wc => ∃ (kq : Nat) (x386_152 : Bool), v386 = .bool x386_152 ∧ Aside0 (laws_FnStatesHidden.j6 kq t707 t719 t725 x386_152 t694 t695 t698 t699 t700 t703 t704 t715 t716 t721 t722 = some r) ∧ Aside0 (kq ≤ kj118) ∧ Aside0 (Kd.R k40 40 wc w.heap.size (fun k_ => some k_ ≠ ((.slice Ao169 t704.length co169) : Value).ownBlock ∧ some k_ ≠ ((.slice Ao188 t716.length co188) : Value).ownBlock ∧ some k_ ≠ ((.slice Ao198 t722.length co198) : Value).ownBlock ∧ k_ ≠ gb702) (.slice Ao160 t695.length co160) t695) ∧ Aside0 (Kd.R k40 40 wc w.heap.size (fun k_ => some k_ ≠ ((.slice Ao160 t695.length co160) : Value).ownBlock ∧ some k_ ≠ ((.slice Ao188 t716.length co188) : Value).ownBlock ∧ some k_ ≠ ((.slice Ao198 t722.length co198) : Value).ownBlock ∧ k_ ≠ gb702) (.slice Ao169 t704.length co169) t704) ∧ Aside0 (Kd.R k40 40 wc w.heap.size (fun k_ => some k_ ≠ ((.slice Ao160 t695.length co160) : Value).ownBlock ∧ some k_ ≠ ((.slice Ao169 t704.length co169) : Value).ownBlock ∧ some k_ ≠ ((.slice Ao198 t722.length co198) : Value).ownBlock ∧ k_ ≠ gb702) (.slice Ao188 t716.length co188) t716) ∧ Aside0 (Kd.R k40 40 wc w.heap.size (fun k_ => some k_ ≠ ((.slice Ao160 t695.length co160) : Value).ownBlock ∧ some k_ ≠ ((.slice Ao169 t704.length co169) : Value).ownBlock ∧ some k_ ≠ ((.slice Ao188 t716.length co188) : Value).ownBlock ∧ k_ ≠ gb702) (.slice Ao198 t722.length co198) t722) ∧ Aside0 (wc.heap[gb701]? = some (.cells #[.int .i64 t694, (.slice Ao160 t695.length co160)] 28 (0, 0))) ∧ Aside0 (wc.heap[gb702]? = some (.cells #[.int .i64 t698, .int .i64 t699, .int .i64 t700] 40 (0, 0))) ∧ Aside0 (wc.heap[gb708]? = some (.cells #[.int .i64 t703, (.slice Ao169 t704.length co169)] 28 (0, 0))) ∧ Aside0 (wc.heap[gb720]? = some (.cells #[.int .i64 t715, (.slice Ao188 t716.length co188)] 28 (0, 0))) ∧ Aside0 (wc.heap[gb726]? = some (.cells #[.int .i64 t721, (.slice Ao198 t722.length co198)] 28 (0, 0))) ∧ Aside0 (Below w.heap.size w wc))
     case first => as_aux_lemma =>
      have H := HC153.out
      clear HC153
      refine iN H ?_; clear H; intro c237 H
      have c237b0 := bF c237
      (try have c237b1 := nD c237)
      (try have c237b2 := nQ c237)
      clear c237
      (first | rw [c237b0] | (simp only [i64_w, i32_w]; rw [c237b0]) | skip)
      replace H := bC H; obtain ⟨t747, A238, H⟩ := H
      refine iBy H ?_; clear H; rintro rfl H
      refine iN H ?_; clear H; intro c240 H
      have c240b0 := bF c240
      (try have c240b1 := nD c240)
      (try have c240b2 := nQ c240)
      clear c240
      replace H := bC H; obtain ⟨t748, A241, H⟩ := H
      refine iBy H ?_; clear H; rintro rfl H
      refine iN H ?_; clear H; intro c243 H
      have c243b0 := bF c243
      (try have c243b1 := nD c243)
      (try have c243b2 := nQ c243)
      clear c243
      refine iN H ?_; clear H; intro c244 H
      have c244b0 := bF c244
      (try have c244b1 := nD c244)
      (try have c244b2 := nQ c244)
      clear c244
      replace H := bC H; obtain ⟨t749, A245, H⟩ := H
      replace H := bC H; obtain ⟨t750, A246, H⟩ := H
      refine iN H ?_; clear H; intro c247 H
      have c247b0 := bF c247
      (try have c247b1 := nD c247)
      (try have c247b2 := nQ c247)
      clear c247
      refine iB H ?_ ?_ <;> clear H <;> rintro rfl H
      ·replace H := bC H; obtain ⟨t751, A249, H⟩ := H
       have H' := aM H
       clear H
       try go_wp2
       have n0_ : Aside0 (Kd.R k40 40 (((w226.setCell ⟨gb746, 0, none⟩ (.int .i64 t743)).setCell ⟨gb746, 1, none⟩ (.int .i64 t744)).setCell ⟨gb746, 2, none⟩ (.int .i64 t745)) w.heap.size (fun k_ => some k_ ≠ (.slice Ao169 t704.length co169 : Value).ownBlock ∧ some k_ ≠ (.slice Ao179 t710.length co179 : Value).ownBlock ∧ some k_ ≠ (.slice Ao188 t716.length co188 : Value).ownBlock ∧ some k_ ≠ (.slice Ao198 t722.length co198 : Value).ownBlock ∧ some k_ ≠ (.slice Ao210 t728.length co210 : Value).ownBlock ∧ k_ ≠ gb702 ∧ k_ ≠ gb737 ∧ k_ ≠ gb746) (.slice Ao160 t695.length co160) t695) := ⟨rU (Kd.R_mono (Kd.R_far (p := ⟨gb746, 2, none⟩) (Kd.R_far (p := ⟨gb746, 1, none⟩) (Kd.R_far (p := ⟨gb746, 0, none⟩) (Kd.R_mono HO697.out (fun k_ hk => (⟨hk, hk.2⟩ : _ ∧ k_ ≠ gb746))) (fun _ hk => hk.2) (.int .i64 t743)) (fun _ hk => hk.2) (.int .i64 t744)) (fun _ hk => hk.2) (.int .i64 t745)) (fun _ hk => ⟨hk.1.1.1.1.1.1.1.2, ⟨hk.1.1.1.1.1.1.2, ⟨hk.1.1.1.1.1.2, ⟨hk.1.1.1.1.2, ⟨hk.1.1.1.2, ⟨hk.1.1.1.1.1.1.1.1.2, ⟨hk.1.1.2, hk.1.2⟩⟩⟩⟩⟩⟩⟩))⟩
       have n1_ : Aside0 (Kd.R k40 40 (((w226.setCell ⟨gb746, 0, none⟩ (.int .i64 t743)).setCell ⟨gb746, 1, none⟩ (.int .i64 t744)).setCell ⟨gb746, 2, none⟩ (.int .i64 t745)) w.heap.size (fun k_ => some k_ ≠ (.slice Ao160 t695.length co160 : Value).ownBlock ∧ some k_ ≠ (.slice Ao179 t710.length co179 : Value).ownBlock ∧ some k_ ≠ (.slice Ao188 t716.length co188 : Value).ownBlock ∧ some k_ ≠ (.slice Ao198 t722.length co198 : Value).ownBlock ∧ some k_ ≠ (.slice Ao210 t728.length co210 : Value).ownBlock ∧ k_ ≠ gb702 ∧ k_ ≠ gb737 ∧ k_ ≠ gb746) (.slice Ao169 t704.length co169) t704) := ⟨rU (Kd.R_mono (Kd.R_far (p := ⟨gb746, 2, none⟩) (Kd.R_far (p := ⟨gb746, 1, none⟩) (Kd.R_far (p := ⟨gb746, 0, none⟩) (Kd.R_mono HO706.out (fun k_ hk => (⟨hk, hk.2⟩ : _ ∧ k_ ≠ gb746))) (fun _ hk => hk.2) (.int .i64 t743)) (fun _ hk => hk.2) (.int .i64 t744)) (fun _ hk => hk.2) (.int .i64 t745)) (fun _ hk => ⟨hk.1.1.1.1.1.1.1.1.2, ⟨hk.1.1.1.1.1.1.2, ⟨hk.1.1.1.1.1.2, ⟨hk.1.1.1.1.2, ⟨hk.1.1.1.2, ⟨hk.1.1.1.1.1.1.1.2, ⟨hk.1.1.2, hk.1.2⟩⟩⟩⟩⟩⟩⟩))⟩
       have n2_ : Aside0 (Kd.R k40 40 (((w226.setCell ⟨gb746, 0, none⟩ (.int .i64 t743)).setCell ⟨gb746, 1, none⟩ (.int .i64 t744)).setCell ⟨gb746, 2, none⟩ (.int .i64 t745)) w.heap.size (fun k_ => some k_ ≠ (.slice Ao160 t695.length co160 : Value).ownBlock ∧ some k_ ≠ (.slice Ao169 t704.length co169 : Value).ownBlock ∧ some k_ ≠ (.slice Ao188 t716.length co188 : Value).ownBlock ∧ some k_ ≠ (.slice Ao198 t722.length co198 : Value).ownBlock ∧ some k_ ≠ (.slice Ao210 t728.length co210 : Value).ownBlock ∧ k_ ≠ gb702 ∧ k_ ≠ gb737 ∧ k_ ≠ gb746) (.slice Ao179 t710.length co179) t710) := ⟨rU (Kd.R_mono (Kd.R_far (p := ⟨gb746, 2, none⟩) (Kd.R_far (p := ⟨gb746, 1, none⟩) (Kd.R_far (p := ⟨gb746, 0, none⟩) (Kd.R_mono HO712.out (fun k_ hk => (⟨hk, hk.2⟩ : _ ∧ k_ ≠ gb746))) (fun _ hk => hk.2) (.int .i64 t743)) (fun _ hk => hk.2) (.int .i64 t744)) (fun _ hk => hk.2) (.int .i64 t745)) (fun _ hk => ⟨hk.1.1.1.1.1.1.1.1.2, ⟨hk.1.1.1.1.1.1.1.2, ⟨hk.1.1.1.1.1.2, ⟨hk.1.1.1.1.2, ⟨hk.1.1.1.2, ⟨hk.1.1.1.1.1.1.2, ⟨hk.1.1.2, hk.1.2⟩⟩⟩⟩⟩⟩⟩))⟩
       have n3_ : Aside0 (Kd.R k40 40 (((w226.setCell ⟨gb746, 0, none⟩ (.int .i64 t743)).setCell ⟨gb746, 1, none⟩ (.int .i64 t744)).setCell ⟨gb746, 2, none⟩ (.int .i64 t745)) w.heap.size (fun k_ => some k_ ≠ (.slice Ao160 t695.length co160 : Value).ownBlock ∧ some k_ ≠ (.slice Ao169 t704.length co169 : Value).ownBlock ∧ some k_ ≠ (.slice Ao179 t710.length co179 : Value).ownBlock ∧ some k_ ≠ (.slice Ao198 t722.length co198 : Value).ownBlock ∧ some k_ ≠ (.slice Ao210 t728.length co210 : Value).ownBlock ∧ k_ ≠ gb702 ∧ k_ ≠ gb737 ∧ k_ ≠ gb746) (.slice Ao188 t716.length co188) t716) := ⟨rU (Kd.R_mono (Kd.R_far (p := ⟨gb746, 2, none⟩) (Kd.R_far (p := ⟨gb746, 1, none⟩) (Kd.R_far (p := ⟨gb746, 0, none⟩) (Kd.R_mono HO718.out (fun k_ hk => (⟨hk, hk.2⟩ : _ ∧ k_ ≠ gb746))) (fun _ hk => hk.2) (.int .i64 t743)) (fun _ hk => hk.2) (.int .i64 t744)) (fun _ hk => hk.2) (.int .i64 t745)) (fun _ hk => ⟨hk.1.1.1.1.1.1.1.1.2, ⟨hk.1.1.1.1.1.1.1.2, ⟨hk.1.1.1.1.1.1.2, ⟨hk.1.1.1.1.2, ⟨hk.1.1.1.2, ⟨hk.1.1.1.1.1.2, ⟨hk.1.1.2, hk.1.2⟩⟩⟩⟩⟩⟩⟩))⟩
       have n4_ : Aside0 (Kd.R k40 40 (((w226.setCell ⟨gb746, 0, none⟩ (.int .i64 t743)).setCell ⟨gb746, 1, none⟩ (.int .i64 t744)).setCell ⟨gb746, 2, none⟩ (.int .i64 t745)) w.heap.size (fun k_ => some k_ ≠ (.slice Ao160 t695.length co160 : Value).ownBlock ∧ some k_ ≠ (.slice Ao169 t704.length co169 : Value).ownBlock ∧ some k_ ≠ (.slice Ao179 t710.length co179 : Value).ownBlock ∧ some k_ ≠ (.slice Ao188 t716.length co188 : Value).ownBlock ∧ some k_ ≠ (.slice Ao210 t728.length co210 : Value).ownBlock ∧ k_ ≠ gb702 ∧ k_ ≠ gb737 ∧ k_ ≠ gb746) (.slice Ao198 t722.length co198) t722) := ⟨rU (Kd.R_mono (Kd.R_far (p := ⟨gb746, 2, none⟩) (Kd.R_far (p := ⟨gb746, 1, none⟩) (Kd.R_far (p := ⟨gb746, 0, none⟩) (Kd.R_mono HO724.out (fun k_ hk => (⟨hk, hk.2⟩ : _ ∧ k_ ≠ gb746))) (fun _ hk => hk.2) (.int .i64 t743)) (fun _ hk => hk.2) (.int .i64 t744)) (fun _ hk => hk.2) (.int .i64 t745)) (fun _ hk => ⟨hk.1.1.1.1.1.1.1.1.2, ⟨hk.1.1.1.1.1.1.1.2, ⟨hk.1.1.1.1.1.1.2, ⟨hk.1.1.1.1.1.2, ⟨hk.1.1.1.2, ⟨hk.1.1.1.1.2, ⟨hk.1.1.2, hk.1.2⟩⟩⟩⟩⟩⟩⟩))⟩
       have n5_ : Aside0 (Kd.R k40 40 (((w226.setCell ⟨gb746, 0, none⟩ (.int .i64 t743)).setCell ⟨gb746, 1, none⟩ (.int .i64 t744)).setCell ⟨gb746, 2, none⟩ (.int .i64 t745)) w.heap.size (fun k_ => some k_ ≠ (.slice Ao160 t695.length co160 : Value).ownBlock ∧ some k_ ≠ (.slice Ao169 t704.length co169 : Value).ownBlock ∧ some k_ ≠ (.slice Ao179 t710.length co179 : Value).ownBlock ∧ some k_ ≠ (.slice Ao188 t716.length co188 : Value).ownBlock ∧ some k_ ≠ (.slice Ao198 t722.length co198 : Value).ownBlock ∧ k_ ≠ gb702 ∧ k_ ≠ gb737 ∧ k_ ≠ gb746) (.slice Ao210 t728.length co210) t728) := ⟨rU (Kd.R_mono (Kd.R_far (p := ⟨gb746, 2, none⟩) (Kd.R_far (p := ⟨gb746, 1, none⟩) (Kd.R_far (p := ⟨gb746, 0, none⟩) (Kd.R_mono HO730.out (fun k_ hk => (⟨hk, hk.2⟩ : _ ∧ k_ ≠ gb746))) (fun _ hk => hk.2) (.int .i64 t743)) (fun _ hk => hk.2) (.int .i64 t744)) (fun _ hk => hk.2) (.int .i64 t745)) (fun _ hk => ⟨hk.1.1.1.1.1.1.1.1.2, ⟨hk.1.1.1.1.1.1.1.2, ⟨hk.1.1.1.1.1.1.2, ⟨hk.1.1.1.1.1.2, ⟨hk.1.1.1.1.2, ⟨hk.1.1.1.2, ⟨hk.1.1.2, hk.1.2⟩⟩⟩⟩⟩⟩⟩))⟩
       have n6_ : Aside0 ((((w226.setCell ⟨gb746, 0, none⟩ (.int .i64 t743)).setCell ⟨gb746, 1, none⟩ (.int .i64 t744)).setCell ⟨gb746, 2, none⟩ (.int .i64 t745)).heap[gb701]? = some (.cells #[.int .i64 t694, .slice Ao160 t695.length co160] 28 (0, 0))) := ⟨by (with_reducible repeat (first | refine blk_drewN ?_ _ | refine blk_drew ?_ | refine blk_alloc ?_ _)); refine blk_far ?_ NB701_746.out _; (with_reducible repeat (first | refine blk_drewN ?_ _ | refine blk_drew ?_ | refine blk_alloc ?_ _)); refine blk_far ?_ NB701_746.out _; (with_reducible repeat (first | refine blk_drewN ?_ _ | refine blk_drew ?_ | refine blk_alloc ?_ _)); refine blk_far ?_ NB701_746.out _; (with_reducible repeat (first | refine blk_drewN ?_ _ | refine blk_drew ?_ | refine blk_alloc ?_ _)); exact BK701.out⟩
       have n7_ : Aside0 ((((w226.setCell ⟨gb746, 0, none⟩ (.int .i64 t743)).setCell ⟨gb746, 1, none⟩ (.int .i64 t744)).setCell ⟨gb746, 2, none⟩ (.int .i64 t745)).heap[gb702]? = some (.cells #[.int .i64 t698, .int .i64 t699, .int .i64 t700] 40 (0, 0))) := ⟨by (with_reducible repeat (first | refine blk_drewN ?_ _ | refine blk_drew ?_ | refine blk_alloc ?_ _)); refine blk_far ?_ NB702_746.out _; (with_reducible repeat (first | refine blk_drewN ?_ _ | refine blk_drew ?_ | refine blk_alloc ?_ _)); refine blk_far ?_ NB702_746.out _; (with_reducible repeat (first | refine blk_drewN ?_ _ | refine blk_drew ?_ | refine blk_alloc ?_ _)); refine blk_far ?_ NB702_746.out _; (with_reducible repeat (first | refine blk_drewN ?_ _ | refine blk_drew ?_ | refine blk_alloc ?_ _)); exact BK702.out⟩
       have n8_ : Aside0 ((((w226.setCell ⟨gb746, 0, none⟩ (.int .i64 t743)).setCell ⟨gb746, 1, none⟩ (.int .i64 t744)).setCell ⟨gb746, 2, none⟩ (.int .i64 t745)).heap[gb708]? = some (.cells #[.int .i64 t703, .slice Ao169 t704.length co169] 28 (0, 0))) := ⟨by (with_reducible repeat (first | refine blk_drewN ?_ _ | refine blk_drew ?_ | refine blk_alloc ?_ _)); refine blk_far ?_ NB708_746.out _; (with_reducible repeat (first | refine blk_drewN ?_ _ | refine blk_drew ?_ | refine blk_alloc ?_ _)); refine blk_far ?_ NB708_746.out _; (with_reducible repeat (first | refine blk_drewN ?_ _ | refine blk_drew ?_ | refine blk_alloc ?_ _)); refine blk_far ?_ NB708_746.out _; (with_reducible repeat (first | refine blk_drewN ?_ _ | refine blk_drew ?_ | refine blk_alloc ?_ _)); exact BK708.out⟩
       have n9_ : Aside0 ((((w226.setCell ⟨gb746, 0, none⟩ (.int .i64 t743)).setCell ⟨gb746, 1, none⟩ (.int .i64 t744)).setCell ⟨gb746, 2, none⟩ (.int .i64 t745)).heap[gb714]? = some (.cells #[.int .i64 t709, .slice Ao179 t710.length co179] 28 (0, 0))) := ⟨by (with_reducible repeat (first | refine blk_drewN ?_ _ | refine blk_drew ?_ | refine blk_alloc ?_ _)); refine blk_far ?_ NB714_746.out _; (with_reducible repeat (first | refine blk_drewN ?_ _ | refine blk_drew ?_ | refine blk_alloc ?_ _)); refine blk_far ?_ NB714_746.out _; (with_reducible repeat (first | refine blk_drewN ?_ _ | refine blk_drew ?_ | refine blk_alloc ?_ _)); refine blk_far ?_ NB714_746.out _; (with_reducible repeat (first | refine blk_drewN ?_ _ | refine blk_drew ?_ | refine blk_alloc ?_ _)); exact BK714.out⟩
       have n10_ : Aside0 ((((w226.setCell ⟨gb746, 0, none⟩ (.int .i64 t743)).setCell ⟨gb746, 1, none⟩ (.int .i64 t744)).setCell ⟨gb746, 2, none⟩ (.int .i64 t745)).heap[gb720]? = some (.cells #[.int .i64 t715, .slice Ao188 t716.length co188] 28 (0, 0))) := ⟨by (with_reducible repeat (first | refine blk_drewN ?_ _ | refine blk_drew ?_ | refine blk_alloc ?_ _)); refine blk_far ?_ NB720_746.out _; (with_reducible repeat (first | refine blk_drewN ?_ _ | refine blk_drew ?_ | refine blk_alloc ?_ _)); refine blk_far ?_ NB720_746.out _; (with_reducible repeat (first | refine blk_drewN ?_ _ | refine blk_drew ?_ | refine blk_alloc ?_ _)); refine blk_far ?_ NB720_746.out _; (with_reducible repeat (first | refine blk_drewN ?_ _ | refine blk_drew ?_ | refine blk_alloc ?_ _)); exact BK720.out⟩
       have n11_ : Aside0 ((((w226.setCell ⟨gb746, 0, none⟩ (.int .i64 t743)).setCell ⟨gb746, 1, none⟩ (.int .i64 t744)).setCell ⟨gb746, 2, none⟩ (.int .i64 t745)).heap[gb726]? = some (.cells #[.int .i64 t721, .slice Ao198 t722.length co198] 28 (0, 0))) := ⟨by (with_reducible repeat (first | refine blk_drewN ?_ _ | refine blk_drew ?_ | refine blk_alloc ?_ _)); refine blk_far ?_ NB726_746.out _; (with_reducible repeat (first | refine blk_drewN ?_ _ | refine blk_drew ?_ | refine blk_alloc ?_ _)); refine blk_far ?_ NB726_746.out _; (with_reducible repeat (first | refine blk_drewN ?_ _ | refine blk_drew ?_ | refine blk_alloc ?_ _)); refine blk_far ?_ NB726_746.out _; (with_reducible repeat (first | refine blk_drewN ?_ _ | refine blk_drew ?_ | refine blk_alloc ?_ _)); exact BK726.out⟩
       have n12_ : Aside0 ((((w226.setCell ⟨gb746, 0, none⟩ (.int .i64 t743)).setCell ⟨gb746, 1, none⟩ (.int .i64 t744)).setCell ⟨gb746, 2, none⟩ (.int .i64 t745)).heap[gb732]? = some (.cells #[.int .i64 t727, .slice Ao210 t728.length co210] 28 (0, 0))) := ⟨by (with_reducible repeat (first | refine blk_drewN ?_ _ | refine blk_drew ?_ | refine blk_alloc ?_ _)); refine blk_far ?_ NB732_746.out _; (with_reducible repeat (first | refine blk_drewN ?_ _ | refine blk_drew ?_ | refine blk_alloc ?_ _)); refine blk_far ?_ NB732_746.out _; (with_reducible repeat (first | refine blk_drewN ?_ _ | refine blk_drew ?_ | refine blk_alloc ?_ _)); refine blk_far ?_ NB732_746.out _; (with_reducible repeat (first | refine blk_drewN ?_ _ | refine blk_drew ?_ | refine blk_alloc ?_ _)); exact BK732.out⟩
       have n13_ : Aside0 ((((w226.setCell ⟨gb746, 0, none⟩ (.int .i64 t743)).setCell ⟨gb746, 1, none⟩ (.int .i64 t744)).setCell ⟨gb746, 2, none⟩ (.int .i64 t745)).heap[gb737]? = some (.cells #[.int .i64 t733, .int .i64 t734, .int .i64 t735] 40 (0, 0))) := ⟨by (with_reducible repeat (first | refine blk_drewN ?_ _ | refine blk_drew ?_ | refine blk_alloc ?_ _)); refine blk_far ?_ NB737_746.out _; (with_reducible repeat (first | refine blk_drewN ?_ _ | refine blk_drew ?_ | refine blk_alloc ?_ _)); refine blk_far ?_ NB737_746.out _; (with_reducible repeat (first | refine blk_drewN ?_ _ | refine blk_drew ?_ | refine blk_alloc ?_ _)); refine blk_far ?_ NB737_746.out _; (with_reducible repeat (first | refine blk_drewN ?_ _ | refine blk_drew ?_ | refine blk_alloc ?_ _)); exact BK737.out⟩
       have n14_ : Aside0 ((((w226.setCell ⟨gb746, 0, none⟩ (.int .i64 t743)).setCell ⟨gb746, 1, none⟩ (.int .i64 t744)).setCell ⟨gb746, 2, none⟩ (.int .i64 t745)).heap[gb746]? = some (.cells #[.int .i64 t743, .int .i64 t744, .int .i64 t745] 40 (0, 0))) := ⟨by (with_reducible repeat (first | refine blk_drewN ?_ _ | refine blk_drew ?_ | refine blk_alloc ?_ _)); refine blk_put (cs := #[.int .i64 t743, .int .i64 t744, .int .i64 0]) ?_ 2 _ rfl; (with_reducible repeat (first | refine blk_drewN ?_ _ | refine blk_drew ?_ | refine blk_alloc ?_ _)); refine blk_put (cs := #[.int .i64 t743, .int .i64 0, .int .i64 0]) ?_ 1 _ rfl; (with_reducible repeat (first | refine blk_drewN ?_ _ | refine blk_drew ?_ | refine blk_alloc ?_ _)); refine blk_put (cs := #[.int .i64 0, .int .i64 0, .int .i64 0]) ?_ 0 _ rfl; (with_reducible repeat (first | refine blk_drewN ?_ _ | refine blk_drew ?_ | refine blk_alloc ?_ _)); exact BK746.out⟩
       have n15_ : Aside0 (Below w.heap.size w (((w226.setCell ⟨gb746, 0, none⟩ (.int .i64 t743)).setCell ⟨gb746, 1, none⟩ (.int .i64 t744)).setCell ⟨gb746, 2, none⟩ (.int .i64 t745))) := hV HB
       (try clear HO697)
       (try clear HO706)
       (try clear HO712)
       (try clear HO718)
       (try clear HO724)
       (try clear HO730)
       (try clear BK701)
       (try clear BK702)
       (try clear BK708)
       (try clear BK714)
       (try clear BK720)
       (try clear BK726)
       (try clear BK732)
       (try clear BK737)
       (try clear BK746)
       (try clear HB)
       generalize (((w226.setCell ⟨gb746, 0, none⟩ (.int .i64 t743)).setCell ⟨gb746, 1, none⟩ (.int .i64 t744)).setCell ⟨gb746, 2, none⟩ (.int .i64 t745)) = w250 at n0_ n1_ n2_ n3_ n4_ n5_ n6_ n7_ n8_ n9_ n10_ n11_ n12_ n13_ n14_ n15_ ⊢
       have HO697 := n0_
       have HO706 := n1_
       have HO712 := n2_
       have HO718 := n3_
       have HO724 := n4_
       have HO730 := n5_
       have BK701 := n6_
       have BK702 := n7_
       have BK708 := n8_
       have BK714 := n9_
       have BK720 := n10_
       have BK726 := n11_
       have BK732 := n12_
       have BK737 := n13_
       have BK746 := n14_
       have HB := n15_
       clear n0_ n1_ n2_ n3_ n4_ n5_ n6_ n7_ n8_ n9_ n10_ n11_ n12_ n13_ n14_ n15_
       have n0_ := aM (Kd.R_drew HO697.out)
       have n1_ := aM (Kd.R_drew HO706.out)
       have n2_ := aM (Kd.R_drew HO712.out)
       have n3_ := aM (Kd.R_drew HO718.out)
       have n4_ := aM (Kd.R_drew HO724.out)
       have n5_ := aM (Kd.R_drew HO730.out)
       have n6_ := aM (blk_drew BK701.out)
       have n7_ := aM (blk_drew BK702.out)
       have n8_ := aM (blk_drew BK708.out)
       have n9_ := aM (blk_drew BK714.out)
       have n10_ := aM (blk_drew BK720.out)
       have n11_ := aM (blk_drew BK726.out)
       have n12_ := aM (blk_drew BK732.out)
       have n13_ := aM (blk_drew BK737.out)
       have n14_ := aM (blk_drew BK746.out)
       have n15_ := aM (below_drew1 HB.out)
       clear HO697
       clear HO706
       clear HO712
       clear HO718
       clear HO724
       clear HO730
       clear BK701
       clear BK702
       clear BK708
       clear BK714
       clear BK720
       clear BK726
       clear BK732
       clear BK737
       clear BK746
       clear HB
       have HO697 := n0_
       have HO706 := n1_
       have HO712 := n2_
       have HO718 := n3_
       have HO724 := n4_
       have HO730 := n5_
       have BK701 := n6_
       have BK702 := n7_
       have BK708 := n8_
       have BK714 := n9_
       have BK720 := n10_
       have BK726 := n11_
       have BK732 := n12_
       have BK737 := n13_
       have BK746 := n14_
       have HB := n15_
       clear n0_ n1_ n2_ n3_ n4_ n5_ n6_ n7_ n8_ n9_ n10_ n11_ n12_ n13_ n14_ n15_
       refine start_ (n := 49) (S := fun w' => w'.cell? ⟨gb708, 0, none⟩ = some (.int .i64 t703) ∧ w'.cell? ⟨gb708, 1, none⟩ = some (.slice Ao169 t704.length co169) ∧ w'.cell? ⟨gb714, 0, none⟩ = some (.int .i64 t709) ∧ w'.cell? ⟨gb714, 1, none⟩ = some (.slice Ao179 t710.length co179) ∧ w'.cell? ⟨gb726, 0, none⟩ = some (.int .i64 t721) ∧ w'.cell? ⟨gb726, 1, none⟩ = some (.slice Ao198 t722.length co198) ∧ w'.cell? ⟨gb732, 0, none⟩ = some (.int .i64 t727) ∧ w'.cell? ⟨gb732, 1, none⟩ = some (.slice Ao210 t728.length co210) ∧ w'.cell? ⟨gb746, 0, none⟩ = some (.int .i64 t743) ∧ w'.cell? ⟨gb746, 1, none⟩ = some (.int .i64 t744) ∧ w'.cell? ⟨gb746, 2, none⟩ = some (.int .i64 t745) ∧ w'.cell? ⟨gb737, 0, none⟩ = some (.int .i64 t733) ∧ w'.cell? ⟨gb737, 1, none⟩ = some (.int .i64 t734) ∧ w'.cell? ⟨gb737, 2, none⟩ = some (.int .i64 t735)) (ds := []) (bn 49 0) (by kernel_rfl) rfl rfl ⟨(blk_cell BK708.out 0).trans rfl, (blk_cell BK708.out 1).trans rfl, (blk_cell BK714.out 0).trans rfl, (blk_cell BK714.out 1).trans rfl, (blk_cell BK726.out 0).trans rfl, (blk_cell BK726.out 1).trans rfl, (blk_cell BK732.out 0).trans rfl, (blk_cell BK732.out 1).trans rfl, (blk_cell BK746.out 0).trans rfl, (blk_cell BK746.out 1).trans rfl, (blk_cell BK746.out 2).trans rfl, (blk_cell BK737.out 0).trans rfl, (blk_cell BK737.out 1).trans rfl, (blk_cell BK737.out 2).trans rfl⟩ (fun hHeld => ?_); refine with_tabW laws_FnStatesHidden.tab48 laws_FnStatesHidden.bits48 (fun HT_ HW_ => ?_)
       generalize w250.drew = w251 at HO697 HO706 HO712 HO718 HO724 HO730 BK701 BK702 BK708 BK714 BK720 BK726 BK732 BK737 BK746 HB hHeld ⊢
       refine pU 0 (some 338) (bn 49 1) ?_
       refine pU 1 (some 339) (bn 49 3) ?_
       refine pU 2 (some 340) (bn 49 7) ?_
       refine pU 3 (some 341) (bn 49 15) ?_
       refine take_ (i := 4) (N := some 342) (v := ?_) (a' := ?_) (bn 49 31) rfl rfl (take_ofW HT_.out HW_.out (by kernel_rfl)) (fun _ _ _ h => h) (Or.inl ⟨by rfl, ?_⟩) hHeld ?_ ?_
       rotate_left
       ·rintro w' ⟨s0, s1, s2, s3, s4, s5, s6, s7, s8, s9, s10, s11, s12, s13⟩
        go_simp
        with_reducible rfl
       rotate_left
       ·simp only [Act.put, List.setIfInBounds_toArray, List.set_cons_zero, List.set_cons_succ, i64_w, i32_w]
        rfl
       refine take_ (i := 5) (N := some 343) (v := ?_) (a' := ?_) (bn 49 63) rfl rfl (take_ofW HT_.out HW_.out (by kernel_rfl)) (fun _ _ _ h => h) (Or.inl ⟨by rfl, ?_⟩) hHeld ?_ ?_
       rotate_left
       ·rintro w' ⟨s0, s1, s2, s3, s4, s5, s6, s7, s8, s9, s10, s11, s12, s13⟩
        go_simp
        with_reducible rfl
       rotate_left
       ·simp only [Act.put, List.setIfInBounds_toArray, List.set_cons_zero, List.set_cons_succ, i64_w, i32_w]
        rfl
       refine one_ (i := 6) (N := some 344) (bn 49 127) rfl rfl (one_of HT_.out (by kernel_rfl)) (by decide) (fun K hK => ?_)
       refine goes_ Tryz.func8 (by kernel_rfl) rfl #[.agg #[.int .i64 t703, .slice Ao169 t704.length co169], .agg #[.int .i64 t709, .slice Ao179 t710.length co179]] (by rfl) rfl rfl (by (try simp only [List.map_toArray, List.map_cons, List.map_nil]); first | done | rfl | (simp only [List.length_drop, List.length_take]; rfl)) ?_
       with_reducible refine (laws_xPuzzle.calls kj118 t703 _ _ t704 t709 _ _ t710 true _ ?side1 ?side2 ?side3 ?side4 A238.out).mono ?_
       (case side1 => exact cU (Kd.R_reads' HO706.out).2.2)
       (case side2 => exact (Kd.R_reads' HO706.out).2.1)
       (case side3 => exact cU (Kd.R_reads' HO712.out).2.2)
       (case side4 => exact (Kd.R_reads' HO712.out).2.1)
       rintro e w252 ⟨rfl, hb⟩
       refine ⟨_, rfl, ?_⟩
       have n0_ := rB HO697 hb
       have n1_ := rB HO706 hb
       have n2_ := rB HO712 hb
       have n3_ := rB HO718 hb
       have n4_ := rB HO724 hb
       have n5_ := rB HO730 hb
       have n6_ := bB BK701 hb
       have n7_ := bB BK702 hb
       have n8_ := bB BK708 hb
       have n9_ := bB BK714 hb
       have n10_ := bB BK720 hb
       have n11_ := bB BK726 hb
       have n12_ := bB BK732 hb
       have n13_ := bB BK737 hb
       have n14_ := bB BK746 hb
       have n15_ := hS HB hb
       clear HO697
       clear HO706
       clear HO712
       clear HO718
       clear HO724
       clear HO730
       clear BK701
       clear BK702
       clear BK708
       clear BK714
       clear BK720
       clear BK726
       clear BK732
       clear BK737
       clear BK746
       clear HB
       have HO697 := n0_
       have HO706 := n1_
       have HO712 := n2_
       have HO718 := n3_
       have HO724 := n4_
       have HO730 := n5_
       have BK701 := n6_
       have BK702 := n7_
       have BK708 := n8_
       have BK714 := n9_
       have BK720 := n10_
       have BK726 := n11_
       have BK732 := n12_
       have BK737 := n13_
       have BK746 := n14_
       have HB := n15_
       clear n0_ n1_ n2_ n3_ n4_ n5_ n6_ n7_ n8_ n9_ n10_ n11_ n12_ n13_ n14_ n15_
       (try clear hb)
       (try clear hb2)
       (try clear hk)
       (try clear hi)
       refine hK.out _ _ ⟨(blk_cell BK708.out 0).trans rfl, (blk_cell BK708.out 1).trans rfl, (blk_cell BK714.out 0).trans rfl, (blk_cell BK714.out 1).trans rfl, (blk_cell BK726.out 0).trans rfl, (blk_cell BK726.out 1).trans rfl, (blk_cell BK732.out 0).trans rfl, (blk_cell BK732.out 1).trans rfl, (blk_cell BK746.out 0).trans rfl, (blk_cell BK746.out 1).trans rfl, (blk_cell BK746.out 2).trans rfl, (blk_cell BK737.out 0).trans rfl, (blk_cell BK737.out 1).trans rfl, (blk_cell BK737.out 2).trans rfl⟩ (fun hHeld => ?_)
       clear hK K
       refine norm_ (a' := ?_) ?_ ?_
       rotate_left
       ·show Act.put _ (some 344) _ = _
        simp only [Act.put, List.setIfInBounds_toArray, List.set_cons_zero, List.set_cons_succ, i64_w, i32_w]
        rfl
       refine pU 7 (some 345) (bn 49 255) ?_
       refine pU 8 (some 346) (bn 49 511) ?_
       refine pU 9 (some 347) (bn 49 1023) ?_
       refine pU 10 (some 348) (bn 49 2047) ?_
       refine pU 11 (some 349) (bn 49 4095) ?_
       refine pU 12 (some 350) (bn 49 8191) ?_
       refine pU 13 (some 351) (bn 49 16383) ?_
       refine pU 14 (some 352) (bn 49 32767) ?_
       refine take_ (i := 15) (N := some 353) (v := ?_) (a' := ?_) (bn 49 65535) rfl rfl (take_ofW HT_.out HW_.out (by kernel_rfl)) (fun _ _ _ h => h) (Or.inl ⟨by rfl, ?_⟩) hHeld ?_ ?_
       rotate_left
       ·rintro w' ⟨s0, s1, s2, s3, s4, s5, s6, s7, s8, s9, s10, s11, s12, s13⟩
        go_simp
        with_reducible rfl
       rotate_left
       ·simp only [Act.put, List.setIfInBounds_toArray, List.set_cons_zero, List.set_cons_succ, i64_w, i32_w]
        rfl
       refine take_ (i := 16) (N := some 354) (v := ?_) (a' := ?_) (bn 49 131071) rfl rfl (take_ofW HT_.out HW_.out (by kernel_rfl)) (fun _ _ _ h => h) (Or.inl ⟨by rfl, ?_⟩) hHeld ?_ ?_
       rotate_left
       ·rintro w' ⟨s0, s1, s2, s3, s4, s5, s6, s7, s8, s9, s10, s11, s12, s13⟩
        go_simp
        with_reducible rfl
       rotate_left
       ·simp only [Act.put, List.setIfInBounds_toArray, List.set_cons_zero, List.set_cons_succ, i64_w, i32_w]
        rfl
       refine one_ (i := 17) (N := some 355) (bn 49 262143) rfl rfl (one_of HT_.out (by kernel_rfl)) (by decide) (fun K hK => ?_)
       refine goes_ Tryz.func8 (by kernel_rfl) rfl #[.agg #[.int .i64 t721, .slice Ao198 t722.length co198], .agg #[.int .i64 t727, .slice Ao210 t728.length co210]] (by rfl) rfl rfl (by (try simp only [List.map_toArray, List.map_cons, List.map_nil]); first | done | rfl | (simp only [List.length_drop, List.length_take]; rfl)) ?_
       with_reducible refine (laws_xPuzzle.calls kj118 t721 _ _ t722 t727 _ _ t728 true _ ?side1 ?side2 ?side3 ?side4 A241.out).mono ?_
       (case side1 => exact cU (Kd.R_reads' HO724.out).2.2)
       (case side2 => exact (Kd.R_reads' HO724.out).2.1)
       (case side3 => exact cU (Kd.R_reads' HO730.out).2.2)
       (case side4 => exact (Kd.R_reads' HO730.out).2.1)
       rintro e w253 ⟨rfl, hb⟩
       refine ⟨_, rfl, ?_⟩
       have n0_ := rB HO697 hb
       have n1_ := rB HO706 hb
       have n2_ := rB HO712 hb
       have n3_ := rB HO718 hb
       have n4_ := rB HO724 hb
       have n5_ := rB HO730 hb
       have n6_ := bB BK701 hb
       have n7_ := bB BK702 hb
       have n8_ := bB BK708 hb
       have n9_ := bB BK714 hb
       have n10_ := bB BK720 hb
       have n11_ := bB BK726 hb
       have n12_ := bB BK732 hb
       have n13_ := bB BK737 hb
       have n14_ := bB BK746 hb
       have n15_ := hS HB hb
       clear HO697
       clear HO706
       clear HO712
       clear HO718
       clear HO724
       clear HO730
       clear BK701
       clear BK702
       clear BK708
       clear BK714
       clear BK720
       clear BK726
       clear BK732
       clear BK737
       clear BK746
       clear HB
       have HO697 := n0_
       have HO706 := n1_
       have HO712 := n2_
       have HO718 := n3_
       have HO724 := n4_
       have HO730 := n5_
       have BK701 := n6_
       have BK702 := n7_
       have BK708 := n8_
       have BK714 := n9_
       have BK720 := n10_
       have BK726 := n11_
       have BK732 := n12_
       have BK737 := n13_
       have BK746 := n14_
       have HB := n15_
       clear n0_ n1_ n2_ n3_ n4_ n5_ n6_ n7_ n8_ n9_ n10_ n11_ n12_ n13_ n14_ n15_
       (try clear hb)
       (try clear hb2)
       (try clear hk)
       (try clear hi)
       refine hK.out _ _ ⟨(blk_cell BK708.out 0).trans rfl, (blk_cell BK708.out 1).trans rfl, (blk_cell BK714.out 0).trans rfl, (blk_cell BK714.out 1).trans rfl, (blk_cell BK726.out 0).trans rfl, (blk_cell BK726.out 1).trans rfl, (blk_cell BK732.out 0).trans rfl, (blk_cell BK732.out 1).trans rfl, (blk_cell BK746.out 0).trans rfl, (blk_cell BK746.out 1).trans rfl, (blk_cell BK746.out 2).trans rfl, (blk_cell BK737.out 0).trans rfl, (blk_cell BK737.out 1).trans rfl, (blk_cell BK737.out 2).trans rfl⟩ (fun hHeld => ?_)
       clear hK K
       refine norm_ (a' := ?_) ?_ ?_
       rotate_left
       ·show Act.put _ (some 355) _ = _
        simp only [Act.put, List.setIfInBounds_toArray, List.set_cons_zero, List.set_cons_succ, i64_w, i32_w]
        rfl
       refine pU 18 (some 356) (bn 49 524287) ?_
       refine pU 19 (some 357) (bn 49 1048575) ?_
       refine pU 20 (some 358) (bn 49 2097151) ?_
       refine pU 21 (some 359) (bn 49 4194303) ?_
       refine pU 22 (some 360) (bn 49 8388607) ?_
       refine pU 23 (some 361) (bn 49 16777215) ?_
       refine pU 24 (some 362) (bn 49 33554431) ?_
       refine pU 25 (some 363) (bn 49 67108863) ?_
       refine pU 26 (some 364) (bn 49 134217727) ?_
       refine pU 27 (some 365) (bn 49 268435455) ?_
       refine pU 28 (some 366) (bn 49 536870911) ?_
       refine pU 29 (some 367) (bn 49 1073741823) ?_
       refine pU 30 (some 368) (bn 49 2147483647) ?_
       refine pU 31 (some 369) (bn 49 4294967295) ?_
       refine pU 34 (some 372) (bn 49 21474836479) ?_
       refine take_ (i := 32) (N := some 370) (v := ?_) (a' := ?_) (bn 49 25769803775) rfl rfl (take_ofW HT_.out HW_.out (by kernel_rfl)) (fun _ _ _ h => h) (Or.inl ⟨by rfl, ?_⟩) hHeld ?_ ?_
       rotate_left
       ·rintro w' ⟨s0, s1, s2, s3, s4, s5, s6, s7, s8, s9, s10, s11, s12, s13⟩
        go_simp
        with_reducible rfl
       rotate_left
       ·simp only [Act.put, List.setIfInBounds_toArray, List.set_cons_zero, List.set_cons_succ, i64_w, i32_w]
        rfl
       refine take_ (i := 35) (N := some 373) (v := ?_) (a' := ?_) (bn 49 60129542143) rfl rfl (take_ofW HT_.out HW_.out (by kernel_rfl)) (fun _ _ _ h => h) (Or.inl ⟨by rfl, ?_⟩) hHeld ?_ ?_
       rotate_left
       ·rintro w' ⟨s0, s1, s2, s3, s4, s5, s6, s7, s8, s9, s10, s11, s12, s13⟩
        go_simp
        with_reducible rfl
       rotate_left
       ·simp only [Act.put, List.setIfInBounds_toArray, List.set_cons_zero, List.set_cons_succ, i64_w, i32_w]
        rfl
       refine one_ (i := 33) (N := some 371) (bn 49 68719476735) rfl rfl (one_of HT_.out (by kernel_rfl)) (by decide) (fun K hK => ?_)
       refine goes_ Tryz.func32 (by kernel_rfl) rfl #[.int .i64 t742, .agg #[.int .i64 t743, .int .i64 t744, .int .i64 t745]] (by rfl) rfl rfl (by (try simp only [List.map_toArray, List.map_cons, List.map_nil]); first | done | rfl | (simp only [List.length_drop, List.length_take]; rfl)) ?_
       with_reducible refine (impl_IsClue.calls kj118 t742 t743 t744 t745 t749 _ A245.out).mono ?_
       rintro e w254 ⟨rfl, hb⟩
       refine ⟨_, rfl, ?_⟩
       have n0_ := rB HO697 hb
       have n1_ := rB HO706 hb
       have n2_ := rB HO712 hb
       have n3_ := rB HO718 hb
       have n4_ := rB HO724 hb
       have n5_ := rB HO730 hb
       have n6_ := bB BK701 hb
       have n7_ := bB BK702 hb
       have n8_ := bB BK708 hb
       have n9_ := bB BK714 hb
       have n10_ := bB BK720 hb
       have n11_ := bB BK726 hb
       have n12_ := bB BK732 hb
       have n13_ := bB BK737 hb
       have n14_ := bB BK746 hb
       have n15_ := hS HB hb
       clear HO697
       clear HO706
       clear HO712
       clear HO718
       clear HO724
       clear HO730
       clear BK701
       clear BK702
       clear BK708
       clear BK714
       clear BK720
       clear BK726
       clear BK732
       clear BK737
       clear BK746
       clear HB
       have HO697 := n0_
       have HO706 := n1_
       have HO712 := n2_
       have HO718 := n3_
       have HO724 := n4_
       have HO730 := n5_
       have BK701 := n6_
       have BK702 := n7_
       have BK708 := n8_
       have BK714 := n9_
       have BK720 := n10_
       have BK726 := n11_
       have BK732 := n12_
       have BK737 := n13_
       have BK746 := n14_
       have HB := n15_
       clear n0_ n1_ n2_ n3_ n4_ n5_ n6_ n7_ n8_ n9_ n10_ n11_ n12_ n13_ n14_ n15_
       (try clear hb)
       (try clear hb2)
       (try clear hk)
       (try clear hi)
       refine hK.out _ _ ⟨(blk_cell BK708.out 0).trans rfl, (blk_cell BK708.out 1).trans rfl, (blk_cell BK714.out 0).trans rfl, (blk_cell BK714.out 1).trans rfl, (blk_cell BK726.out 0).trans rfl, (blk_cell BK726.out 1).trans rfl, (blk_cell BK732.out 0).trans rfl, (blk_cell BK732.out 1).trans rfl, (blk_cell BK746.out 0).trans rfl, (blk_cell BK746.out 1).trans rfl, (blk_cell BK746.out 2).trans rfl, (blk_cell BK737.out 0).trans rfl, (blk_cell BK737.out 1).trans rfl, (blk_cell BK737.out 2).trans rfl⟩ (fun hHeld => ?_)
       clear hK K
       refine norm_ (a' := ?_) ?_ ?_
       rotate_left
       ·show Act.put _ (some 371) _ = _
        simp only [Act.put, List.setIfInBounds_toArray, List.set_cons_zero, List.set_cons_succ, i64_w, i32_w]
        rfl
       refine one_ (i := 36) (N := some 374) (bn 49 137438953471) rfl rfl (one_of HT_.out (by kernel_rfl)) (by decide) (fun K hK => ?_)
       refine goes_ Tryz.func33 (by kernel_rfl) rfl #[.int .i64 t742, .agg #[.int .i64 t743, .int .i64 t744, .int .i64 t745]] (by rfl) rfl rfl (by (try simp only [List.map_toArray, List.map_cons, List.map_nil]); first | done | rfl | (simp only [List.length_drop, List.length_take]; rfl)) ?_
       with_reducible refine (spec_IsClue.calls kj118 t742 t743 t744 t745 t750 _ A246.out).mono ?_
       rintro e w255 ⟨rfl, hb⟩
       refine ⟨_, rfl, ?_⟩
       have n0_ := rB HO697 hb
       have n1_ := rB HO706 hb
       have n2_ := rB HO712 hb
       have n3_ := rB HO718 hb
       have n4_ := rB HO724 hb
       have n5_ := rB HO730 hb
       have n6_ := bB BK701 hb
       have n7_ := bB BK702 hb
       have n8_ := bB BK708 hb
       have n9_ := bB BK714 hb
       have n10_ := bB BK720 hb
       have n11_ := bB BK726 hb
       have n12_ := bB BK732 hb
       have n13_ := bB BK737 hb
       have n14_ := bB BK746 hb
       have n15_ := hS HB hb
       clear HO697
       clear HO706
       clear HO712
       clear HO718
       clear HO724
       clear HO730
       clear BK701
       clear BK702
       clear BK708
       clear BK714
       clear BK720
       clear BK726
       clear BK732
       clear BK737
       clear BK746
       clear HB
       have HO697 := n0_
       have HO706 := n1_
       have HO712 := n2_
       have HO718 := n3_
       have HO724 := n4_
       have HO730 := n5_
       have BK701 := n6_
       have BK702 := n7_
       have BK708 := n8_
       have BK714 := n9_
       have BK720 := n10_
       have BK726 := n11_
       have BK732 := n12_
       have BK737 := n13_
       have BK746 := n14_
       have HB := n15_
       clear n0_ n1_ n2_ n3_ n4_ n5_ n6_ n7_ n8_ n9_ n10_ n11_ n12_ n13_ n14_ n15_
       (try clear hb)
       (try clear hb2)
       (try clear hk)
       (try clear hi)
       refine hK.out _ _ ⟨(blk_cell BK708.out 0).trans rfl, (blk_cell BK708.out 1).trans rfl, (blk_cell BK714.out 0).trans rfl, (blk_cell BK714.out 1).trans rfl, (blk_cell BK726.out 0).trans rfl, (blk_cell BK726.out 1).trans rfl, (blk_cell BK732.out 0).trans rfl, (blk_cell BK732.out 1).trans rfl, (blk_cell BK746.out 0).trans rfl, (blk_cell BK746.out 1).trans rfl, (blk_cell BK746.out 2).trans rfl, (blk_cell BK737.out 0).trans rfl, (blk_cell BK737.out 1).trans rfl, (blk_cell BK737.out 2).trans rfl⟩ (fun hHeld => ?_)
       clear hK K
       refine norm_ (a' := ?_) ?_ ?_
       rotate_left
       ·show Act.put _ (some 374) _ = _
        simp only [Act.put, List.setIfInBounds_toArray, List.set_cons_zero, List.set_cons_succ, i64_w, i32_w]
        rfl
       refine pU 37 (some 375) (bn 49 274877906943) ?_
       refine pU 38 (some 376) (bn 49 549755813887) ?_
       refine pU 39 (some 377) (bn 49 1099511627775) ?_
       refine pU 40 (some 378) (bn 49 2199023255551) ?_
       refine pU 41 (some 379) (bn 49 4398046511103) ?_
       refine pU 42 (some 380) (bn 49 8796093022207) ?_
       refine pU 43 (some 381) (bn 49 17592186044415) ?_
       refine take_ (i := 44) (N := some 382) (v := ?_) (a' := ?_) (bn 49 35184372088831) rfl rfl (take_ofW HT_.out HW_.out (by kernel_rfl)) (fun _ _ _ h => h) (Or.inl ⟨by rfl, ?_⟩) hHeld ?_ ?_
       rotate_left
       ·rintro w' ⟨s0, s1, s2, s3, s4, s5, s6, s7, s8, s9, s10, s11, s12, s13⟩
        go_simp
        with_reducible rfl
       rotate_left
       ·simp only [Act.put, List.setIfInBounds_toArray, List.set_cons_zero, List.set_cons_succ, i64_w, i32_w]
        rfl
       refine one_ (i := 45) (N := some 383) (bn 49 70368744177663) rfl rfl (one_of HT_.out (by kernel_rfl)) (by decide) (fun K hK => ?_)
       refine goes_ Tryz.func32 (by kernel_rfl) rfl #[.int .i64 (t736.size : Int), .agg #[.int .i64 t733, .int .i64 t734, .int .i64 t735]] (by rfl) rfl rfl (by (try simp only [List.map_toArray, List.map_cons, List.map_nil]); first | done | rfl | (simp only [List.length_drop, List.length_take]; rfl)) ?_
       with_reducible refine (impl_IsClue.calls kj118 (t736.size : Int) t733 t734 t735 t751 _ A249.out).mono ?_
       rintro e w256 ⟨rfl, hb⟩
       refine ⟨_, rfl, ?_⟩
       have n0_ := rB HO697 hb
       have n1_ := rB HO706 hb
       have n2_ := rB HO712 hb
       have n3_ := rB HO718 hb
       have n4_ := rB HO724 hb
       have n5_ := rB HO730 hb
       have n6_ := bB BK701 hb
       have n7_ := bB BK702 hb
       have n8_ := bB BK708 hb
       have n9_ := bB BK714 hb
       have n10_ := bB BK720 hb
       have n11_ := bB BK726 hb
       have n12_ := bB BK732 hb
       have n13_ := bB BK737 hb
       have n14_ := bB BK746 hb
       have n15_ := hS HB hb
       clear HO697
       clear HO706
       clear HO712
       clear HO718
       clear HO724
       clear HO730
       clear BK701
       clear BK702
       clear BK708
       clear BK714
       clear BK720
       clear BK726
       clear BK732
       clear BK737
       clear BK746
       clear HB
       have HO697 := n0_
       have HO706 := n1_
       have HO712 := n2_
       have HO718 := n3_
       have HO724 := n4_
       have HO730 := n5_
       have BK701 := n6_
       have BK702 := n7_
       have BK708 := n8_
       have BK714 := n9_
       have BK720 := n10_
       have BK726 := n11_
       have BK732 := n12_
       have BK737 := n13_
       have BK746 := n14_
       have HB := n15_
       clear n0_ n1_ n2_ n3_ n4_ n5_ n6_ n7_ n8_ n9_ n10_ n11_ n12_ n13_ n14_ n15_
       (try clear hb)
       (try clear hb2)
       (try clear hk)
       (try clear hi)
       refine hK.out _ _ ⟨(blk_cell BK708.out 0).trans rfl, (blk_cell BK708.out 1).trans rfl, (blk_cell BK714.out 0).trans rfl, (blk_cell BK714.out 1).trans rfl, (blk_cell BK726.out 0).trans rfl, (blk_cell BK726.out 1).trans rfl, (blk_cell BK732.out 0).trans rfl, (blk_cell BK732.out 1).trans rfl, (blk_cell BK746.out 0).trans rfl, (blk_cell BK746.out 1).trans rfl, (blk_cell BK746.out 2).trans rfl, (blk_cell BK737.out 0).trans rfl, (blk_cell BK737.out 1).trans rfl, (blk_cell BK737.out 2).trans rfl⟩ (fun hHeld => ?_)
       clear hK K
       refine norm_ (a' := ?_) ?_ ?_
       rotate_left
       ·show Act.put _ (some 383) _ = _
        simp only [Act.put, List.setIfInBounds_toArray, List.set_cons_zero, List.set_cons_succ, i64_w, i32_w]
        rfl
       refine pU 46 (some 384) (bn 49 140737488355327) ?_
       refine pU 47 (some 385) (bn 49 281474976710655) ?_
       refine pU 48 (some 386) (bn 49 562949953421311) ?_
       refine done_ (done_of HT_.out (by kernel_rfl)) ?_
       try go_wp2
       go_meet
       case rel => exact ⟨_, (!t751), rF, H', ⟨by have := HJ7.out; have := HJ25.out; have := HJ79.out; have := HJ118.out; first | omega | exact Nat.le_refl _⟩, ⟨rU (Kd.R_mono HO697.out (fun _ hk => ⟨hk.1, ⟨hk.2.2.1, ⟨hk.2.2.2.1, hk.2.2.2.2.2.1⟩⟩⟩))⟩, ⟨rU (Kd.R_mono HO706.out (fun _ hk => ⟨hk.1, ⟨hk.2.2.1, ⟨hk.2.2.2.1, hk.2.2.2.2.2.1⟩⟩⟩))⟩, ⟨rU (Kd.R_mono HO718.out (fun _ hk => ⟨hk.1, ⟨hk.2.1, ⟨hk.2.2.2.1, hk.2.2.2.2.2.1⟩⟩⟩))⟩, ⟨rU (Kd.R_mono HO724.out (fun _ hk => ⟨hk.1, ⟨hk.2.1, ⟨hk.2.2.2.1, hk.2.2.2.2.2.1⟩⟩⟩))⟩, ⟨bU BK701.out⟩, ⟨bU BK702.out⟩, ⟨bU BK708.out⟩, ⟨bU BK720.out⟩, ⟨bU BK726.out⟩, hV HB⟩
      have H' := aM H
      clear H
      try go_wp2
      have n0_ : Aside0 (Kd.R k40 40 (((w226.setCell ⟨gb746, 0, none⟩ (.int .i64 t743)).setCell ⟨gb746, 1, none⟩ (.int .i64 t744)).setCell ⟨gb746, 2, none⟩ (.int .i64 t745)) w.heap.size (fun k_ => some k_ ≠ (.slice Ao169 t704.length co169 : Value).ownBlock ∧ some k_ ≠ (.slice Ao179 t710.length co179 : Value).ownBlock ∧ some k_ ≠ (.slice Ao188 t716.length co188 : Value).ownBlock ∧ some k_ ≠ (.slice Ao198 t722.length co198 : Value).ownBlock ∧ some k_ ≠ (.slice Ao210 t728.length co210 : Value).ownBlock ∧ k_ ≠ gb702 ∧ k_ ≠ gb737 ∧ k_ ≠ gb746) (.slice Ao160 t695.length co160) t695) := ⟨rU (Kd.R_mono (Kd.R_far (p := ⟨gb746, 2, none⟩) (Kd.R_far (p := ⟨gb746, 1, none⟩) (Kd.R_far (p := ⟨gb746, 0, none⟩) (Kd.R_mono HO697.out (fun k_ hk => (⟨hk, hk.2⟩ : _ ∧ k_ ≠ gb746))) (fun _ hk => hk.2) (.int .i64 t743)) (fun _ hk => hk.2) (.int .i64 t744)) (fun _ hk => hk.2) (.int .i64 t745)) (fun _ hk => ⟨hk.1.1.1.1.1.1.1.2, ⟨hk.1.1.1.1.1.1.2, ⟨hk.1.1.1.1.1.2, ⟨hk.1.1.1.1.2, ⟨hk.1.1.1.2, ⟨hk.1.1.1.1.1.1.1.1.2, ⟨hk.1.1.2, hk.1.2⟩⟩⟩⟩⟩⟩⟩))⟩
      have n1_ : Aside0 (Kd.R k40 40 (((w226.setCell ⟨gb746, 0, none⟩ (.int .i64 t743)).setCell ⟨gb746, 1, none⟩ (.int .i64 t744)).setCell ⟨gb746, 2, none⟩ (.int .i64 t745)) w.heap.size (fun k_ => some k_ ≠ (.slice Ao160 t695.length co160 : Value).ownBlock ∧ some k_ ≠ (.slice Ao179 t710.length co179 : Value).ownBlock ∧ some k_ ≠ (.slice Ao188 t716.length co188 : Value).ownBlock ∧ some k_ ≠ (.slice Ao198 t722.length co198 : Value).ownBlock ∧ some k_ ≠ (.slice Ao210 t728.length co210 : Value).ownBlock ∧ k_ ≠ gb702 ∧ k_ ≠ gb737 ∧ k_ ≠ gb746) (.slice Ao169 t704.length co169) t704) := ⟨rU (Kd.R_mono (Kd.R_far (p := ⟨gb746, 2, none⟩) (Kd.R_far (p := ⟨gb746, 1, none⟩) (Kd.R_far (p := ⟨gb746, 0, none⟩) (Kd.R_mono HO706.out (fun k_ hk => (⟨hk, hk.2⟩ : _ ∧ k_ ≠ gb746))) (fun _ hk => hk.2) (.int .i64 t743)) (fun _ hk => hk.2) (.int .i64 t744)) (fun _ hk => hk.2) (.int .i64 t745)) (fun _ hk => ⟨hk.1.1.1.1.1.1.1.1.2, ⟨hk.1.1.1.1.1.1.2, ⟨hk.1.1.1.1.1.2, ⟨hk.1.1.1.1.2, ⟨hk.1.1.1.2, ⟨hk.1.1.1.1.1.1.1.2, ⟨hk.1.1.2, hk.1.2⟩⟩⟩⟩⟩⟩⟩))⟩
      have n2_ : Aside0 (Kd.R k40 40 (((w226.setCell ⟨gb746, 0, none⟩ (.int .i64 t743)).setCell ⟨gb746, 1, none⟩ (.int .i64 t744)).setCell ⟨gb746, 2, none⟩ (.int .i64 t745)) w.heap.size (fun k_ => some k_ ≠ (.slice Ao160 t695.length co160 : Value).ownBlock ∧ some k_ ≠ (.slice Ao169 t704.length co169 : Value).ownBlock ∧ some k_ ≠ (.slice Ao188 t716.length co188 : Value).ownBlock ∧ some k_ ≠ (.slice Ao198 t722.length co198 : Value).ownBlock ∧ some k_ ≠ (.slice Ao210 t728.length co210 : Value).ownBlock ∧ k_ ≠ gb702 ∧ k_ ≠ gb737 ∧ k_ ≠ gb746) (.slice Ao179 t710.length co179) t710) := ⟨rU (Kd.R_mono (Kd.R_far (p := ⟨gb746, 2, none⟩) (Kd.R_far (p := ⟨gb746, 1, none⟩) (Kd.R_far (p := ⟨gb746, 0, none⟩) (Kd.R_mono HO712.out (fun k_ hk => (⟨hk, hk.2⟩ : _ ∧ k_ ≠ gb746))) (fun _ hk => hk.2) (.int .i64 t743)) (fun _ hk => hk.2) (.int .i64 t744)) (fun _ hk => hk.2) (.int .i64 t745)) (fun _ hk => ⟨hk.1.1.1.1.1.1.1.1.2, ⟨hk.1.1.1.1.1.1.1.2, ⟨hk.1.1.1.1.1.2, ⟨hk.1.1.1.1.2, ⟨hk.1.1.1.2, ⟨hk.1.1.1.1.1.1.2, ⟨hk.1.1.2, hk.1.2⟩⟩⟩⟩⟩⟩⟩))⟩
      have n3_ : Aside0 (Kd.R k40 40 (((w226.setCell ⟨gb746, 0, none⟩ (.int .i64 t743)).setCell ⟨gb746, 1, none⟩ (.int .i64 t744)).setCell ⟨gb746, 2, none⟩ (.int .i64 t745)) w.heap.size (fun k_ => some k_ ≠ (.slice Ao160 t695.length co160 : Value).ownBlock ∧ some k_ ≠ (.slice Ao169 t704.length co169 : Value).ownBlock ∧ some k_ ≠ (.slice Ao179 t710.length co179 : Value).ownBlock ∧ some k_ ≠ (.slice Ao198 t722.length co198 : Value).ownBlock ∧ some k_ ≠ (.slice Ao210 t728.length co210 : Value).ownBlock ∧ k_ ≠ gb702 ∧ k_ ≠ gb737 ∧ k_ ≠ gb746) (.slice Ao188 t716.length co188) t716) := ⟨rU (Kd.R_mono (Kd.R_far (p := ⟨gb746, 2, none⟩) (Kd.R_far (p := ⟨gb746, 1, none⟩) (Kd.R_far (p := ⟨gb746, 0, none⟩) (Kd.R_mono HO718.out (fun k_ hk => (⟨hk, hk.2⟩ : _ ∧ k_ ≠ gb746))) (fun _ hk => hk.2) (.int .i64 t743)) (fun _ hk => hk.2) (.int .i64 t744)) (fun _ hk => hk.2) (.int .i64 t745)) (fun _ hk => ⟨hk.1.1.1.1.1.1.1.1.2, ⟨hk.1.1.1.1.1.1.1.2, ⟨hk.1.1.1.1.1.1.2, ⟨hk.1.1.1.1.2, ⟨hk.1.1.1.2, ⟨hk.1.1.1.1.1.2, ⟨hk.1.1.2, hk.1.2⟩⟩⟩⟩⟩⟩⟩))⟩
      have n4_ : Aside0 (Kd.R k40 40 (((w226.setCell ⟨gb746, 0, none⟩ (.int .i64 t743)).setCell ⟨gb746, 1, none⟩ (.int .i64 t744)).setCell ⟨gb746, 2, none⟩ (.int .i64 t745)) w.heap.size (fun k_ => some k_ ≠ (.slice Ao160 t695.length co160 : Value).ownBlock ∧ some k_ ≠ (.slice Ao169 t704.length co169 : Value).ownBlock ∧ some k_ ≠ (.slice Ao179 t710.length co179 : Value).ownBlock ∧ some k_ ≠ (.slice Ao188 t716.length co188 : Value).ownBlock ∧ some k_ ≠ (.slice Ao210 t728.length co210 : Value).ownBlock ∧ k_ ≠ gb702 ∧ k_ ≠ gb737 ∧ k_ ≠ gb746) (.slice Ao198 t722.length co198) t722) := ⟨rU (Kd.R_mono (Kd.R_far (p := ⟨gb746, 2, none⟩) (Kd.R_far (p := ⟨gb746, 1, none⟩) (Kd.R_far (p := ⟨gb746, 0, none⟩) (Kd.R_mono HO724.out (fun k_ hk => (⟨hk, hk.2⟩ : _ ∧ k_ ≠ gb746))) (fun _ hk => hk.2) (.int .i64 t743)) (fun _ hk => hk.2) (.int .i64 t744)) (fun _ hk => hk.2) (.int .i64 t745)) (fun _ hk => ⟨hk.1.1.1.1.1.1.1.1.2, ⟨hk.1.1.1.1.1.1.1.2, ⟨hk.1.1.1.1.1.1.2, ⟨hk.1.1.1.1.1.2, ⟨hk.1.1.1.2, ⟨hk.1.1.1.1.2, ⟨hk.1.1.2, hk.1.2⟩⟩⟩⟩⟩⟩⟩))⟩
      have n5_ : Aside0 (Kd.R k40 40 (((w226.setCell ⟨gb746, 0, none⟩ (.int .i64 t743)).setCell ⟨gb746, 1, none⟩ (.int .i64 t744)).setCell ⟨gb746, 2, none⟩ (.int .i64 t745)) w.heap.size (fun k_ => some k_ ≠ (.slice Ao160 t695.length co160 : Value).ownBlock ∧ some k_ ≠ (.slice Ao169 t704.length co169 : Value).ownBlock ∧ some k_ ≠ (.slice Ao179 t710.length co179 : Value).ownBlock ∧ some k_ ≠ (.slice Ao188 t716.length co188 : Value).ownBlock ∧ some k_ ≠ (.slice Ao198 t722.length co198 : Value).ownBlock ∧ k_ ≠ gb702 ∧ k_ ≠ gb737 ∧ k_ ≠ gb746) (.slice Ao210 t728.length co210) t728) := ⟨rU (Kd.R_mono (Kd.R_far (p := ⟨gb746, 2, none⟩) (Kd.R_far (p := ⟨gb746, 1, none⟩) (Kd.R_far (p := ⟨gb746, 0, none⟩) (Kd.R_mono HO730.out (fun k_ hk => (⟨hk, hk.2⟩ : _ ∧ k_ ≠ gb746))) (fun _ hk => hk.2) (.int .i64 t743)) (fun _ hk => hk.2) (.int .i64 t744)) (fun _ hk => hk.2) (.int .i64 t745)) (fun _ hk => ⟨hk.1.1.1.1.1.1.1.1.2, ⟨hk.1.1.1.1.1.1.1.2, ⟨hk.1.1.1.1.1.1.2, ⟨hk.1.1.1.1.1.2, ⟨hk.1.1.1.1.2, ⟨hk.1.1.1.2, ⟨hk.1.1.2, hk.1.2⟩⟩⟩⟩⟩⟩⟩))⟩
      have n6_ : Aside0 ((((w226.setCell ⟨gb746, 0, none⟩ (.int .i64 t743)).setCell ⟨gb746, 1, none⟩ (.int .i64 t744)).setCell ⟨gb746, 2, none⟩ (.int .i64 t745)).heap[gb701]? = some (.cells #[.int .i64 t694, .slice Ao160 t695.length co160] 28 (0, 0))) := ⟨by (with_reducible repeat (first | refine blk_drewN ?_ _ | refine blk_drew ?_ | refine blk_alloc ?_ _)); refine blk_far ?_ NB701_746.out _; (with_reducible repeat (first | refine blk_drewN ?_ _ | refine blk_drew ?_ | refine blk_alloc ?_ _)); refine blk_far ?_ NB701_746.out _; (with_reducible repeat (first | refine blk_drewN ?_ _ | refine blk_drew ?_ | refine blk_alloc ?_ _)); refine blk_far ?_ NB701_746.out _; (with_reducible repeat (first | refine blk_drewN ?_ _ | refine blk_drew ?_ | refine blk_alloc ?_ _)); exact BK701.out⟩
      have n7_ : Aside0 ((((w226.setCell ⟨gb746, 0, none⟩ (.int .i64 t743)).setCell ⟨gb746, 1, none⟩ (.int .i64 t744)).setCell ⟨gb746, 2, none⟩ (.int .i64 t745)).heap[gb702]? = some (.cells #[.int .i64 t698, .int .i64 t699, .int .i64 t700] 40 (0, 0))) := ⟨by (with_reducible repeat (first | refine blk_drewN ?_ _ | refine blk_drew ?_ | refine blk_alloc ?_ _)); refine blk_far ?_ NB702_746.out _; (with_reducible repeat (first | refine blk_drewN ?_ _ | refine blk_drew ?_ | refine blk_alloc ?_ _)); refine blk_far ?_ NB702_746.out _; (with_reducible repeat (first | refine blk_drewN ?_ _ | refine blk_drew ?_ | refine blk_alloc ?_ _)); refine blk_far ?_ NB702_746.out _; (with_reducible repeat (first | refine blk_drewN ?_ _ | refine blk_drew ?_ | refine blk_alloc ?_ _)); exact BK702.out⟩
      have n8_ : Aside0 ((((w226.setCell ⟨gb746, 0, none⟩ (.int .i64 t743)).setCell ⟨gb746, 1, none⟩ (.int .i64 t744)).setCell ⟨gb746, 2, none⟩ (.int .i64 t745)).heap[gb708]? = some (.cells #[.int .i64 t703, .slice Ao169 t704.length co169] 28 (0, 0))) := ⟨by (with_reducible repeat (first | refine blk_drewN ?_ _ | refine blk_drew ?_ | refine blk_alloc ?_ _)); refine blk_far ?_ NB708_746.out _; (with_reducible repeat (first | refine blk_drewN ?_ _ | refine blk_drew ?_ | refine blk_alloc ?_ _)); refine blk_far ?_ NB708_746.out _; (with_reducible repeat (first | refine blk_drewN ?_ _ | refine blk_drew ?_ | refine blk_alloc ?_ _)); refine blk_far ?_ NB708_746.out _; (with_reducible repeat (first | refine blk_drewN ?_ _ | refine blk_drew ?_ | refine blk_alloc ?_ _)); exact BK708.out⟩
      have n9_ : Aside0 ((((w226.setCell ⟨gb746, 0, none⟩ (.int .i64 t743)).setCell ⟨gb746, 1, none⟩ (.int .i64 t744)).setCell ⟨gb746, 2, none⟩ (.int .i64 t745)).heap[gb714]? = some (.cells #[.int .i64 t709, .slice Ao179 t710.length co179] 28 (0, 0))) := ⟨by (with_reducible repeat (first | refine blk_drewN ?_ _ | refine blk_drew ?_ | refine blk_alloc ?_ _)); refine blk_far ?_ NB714_746.out _; (with_reducible repeat (first | refine blk_drewN ?_ _ | refine blk_drew ?_ | refine blk_alloc ?_ _)); refine blk_far ?_ NB714_746.out _; (with_reducible repeat (first | refine blk_drewN ?_ _ | refine blk_drew ?_ | refine blk_alloc ?_ _)); refine blk_far ?_ NB714_746.out _; (with_reducible repeat (first | refine blk_drewN ?_ _ | refine blk_drew ?_ | refine blk_alloc ?_ _)); exact BK714.out⟩
      have n10_ : Aside0 ((((w226.setCell ⟨gb746, 0, none⟩ (.int .i64 t743)).setCell ⟨gb746, 1, none⟩ (.int .i64 t744)).setCell ⟨gb746, 2, none⟩ (.int .i64 t745)).heap[gb720]? = some (.cells #[.int .i64 t715, .slice Ao188 t716.length co188] 28 (0, 0))) := ⟨by (with_reducible repeat (first | refine blk_drewN ?_ _ | refine blk_drew ?_ | refine blk_alloc ?_ _)); refine blk_far ?_ NB720_746.out _; (with_reducible repeat (first | refine blk_drewN ?_ _ | refine blk_drew ?_ | refine blk_alloc ?_ _)); refine blk_far ?_ NB720_746.out _; (with_reducible repeat (first | refine blk_drewN ?_ _ | refine blk_drew ?_ | refine blk_alloc ?_ _)); refine blk_far ?_ NB720_746.out _; (with_reducible repeat (first | refine blk_drewN ?_ _ | refine blk_drew ?_ | refine blk_alloc ?_ _)); exact BK720.out⟩
      have n11_ : Aside0 ((((w226.setCell ⟨gb746, 0, none⟩ (.int .i64 t743)).setCell ⟨gb746, 1, none⟩ (.int .i64 t744)).setCell ⟨gb746, 2, none⟩ (.int .i64 t745)).heap[gb726]? = some (.cells #[.int .i64 t721, .slice Ao198 t722.length co198] 28 (0, 0))) := ⟨by (with_reducible repeat (first | refine blk_drewN ?_ _ | refine blk_drew ?_ | refine blk_alloc ?_ _)); refine blk_far ?_ NB726_746.out _; (with_reducible repeat (first | refine blk_drewN ?_ _ | refine blk_drew ?_ | refine blk_alloc ?_ _)); refine blk_far ?_ NB726_746.out _; (with_reducible repeat (first | refine blk_drewN ?_ _ | refine blk_drew ?_ | refine blk_alloc ?_ _)); refine blk_far ?_ NB726_746.out _; (with_reducible repeat (first | refine blk_drewN ?_ _ | refine blk_drew ?_ | refine blk_alloc ?_ _)); exact BK726.out⟩
      have n12_ : Aside0 ((((w226.setCell ⟨gb746, 0, none⟩ (.int .i64 t743)).setCell ⟨gb746, 1, none⟩ (.int .i64 t744)).setCell ⟨gb746, 2, none⟩ (.int .i64 t745)).heap[gb732]? = some (.cells #[.int .i64 t727, .slice Ao210 t728.length co210] 28 (0, 0))) := ⟨by (with_reducible repeat (first | refine blk_drewN ?_ _ | refine blk_drew ?_ | refine blk_alloc ?_ _)); refine blk_far ?_ NB732_746.out _; (with_reducible repeat (first | refine blk_drewN ?_ _ | refine blk_drew ?_ | refine blk_alloc ?_ _)); refine blk_far ?_ NB732_746.out _; (with_reducible repeat (first | refine blk_drewN ?_ _ | refine blk_drew ?_ | refine blk_alloc ?_ _)); refine blk_far ?_ NB732_746.out _; (with_reducible repeat (first | refine blk_drewN ?_ _ | refine blk_drew ?_ | refine blk_alloc ?_ _)); exact BK732.out⟩
      have n13_ : Aside0 ((((w226.setCell ⟨gb746, 0, none⟩ (.int .i64 t743)).setCell ⟨gb746, 1, none⟩ (.int .i64 t744)).setCell ⟨gb746, 2, none⟩ (.int .i64 t745)).heap[gb737]? = some (.cells #[.int .i64 t733, .int .i64 t734, .int .i64 t735] 40 (0, 0))) := ⟨by (with_reducible repeat (first | refine blk_drewN ?_ _ | refine blk_drew ?_ | refine blk_alloc ?_ _)); refine blk_far ?_ NB737_746.out _; (with_reducible repeat (first | refine blk_drewN ?_ _ | refine blk_drew ?_ | refine blk_alloc ?_ _)); refine blk_far ?_ NB737_746.out _; (with_reducible repeat (first | refine blk_drewN ?_ _ | refine blk_drew ?_ | refine blk_alloc ?_ _)); refine blk_far ?_ NB737_746.out _; (with_reducible repeat (first | refine blk_drewN ?_ _ | refine blk_drew ?_ | refine blk_alloc ?_ _)); exact BK737.out⟩
      have n14_ : Aside0 ((((w226.setCell ⟨gb746, 0, none⟩ (.int .i64 t743)).setCell ⟨gb746, 1, none⟩ (.int .i64 t744)).setCell ⟨gb746, 2, none⟩ (.int .i64 t745)).heap[gb746]? = some (.cells #[.int .i64 t743, .int .i64 t744, .int .i64 t745] 40 (0, 0))) := ⟨by (with_reducible repeat (first | refine blk_drewN ?_ _ | refine blk_drew ?_ | refine blk_alloc ?_ _)); refine blk_put (cs := #[.int .i64 t743, .int .i64 t744, .int .i64 0]) ?_ 2 _ rfl; (with_reducible repeat (first | refine blk_drewN ?_ _ | refine blk_drew ?_ | refine blk_alloc ?_ _)); refine blk_put (cs := #[.int .i64 t743, .int .i64 0, .int .i64 0]) ?_ 1 _ rfl; (with_reducible repeat (first | refine blk_drewN ?_ _ | refine blk_drew ?_ | refine blk_alloc ?_ _)); refine blk_put (cs := #[.int .i64 0, .int .i64 0, .int .i64 0]) ?_ 0 _ rfl; (with_reducible repeat (first | refine blk_drewN ?_ _ | refine blk_drew ?_ | refine blk_alloc ?_ _)); exact BK746.out⟩
      have n15_ : Aside0 (Below w.heap.size w (((w226.setCell ⟨gb746, 0, none⟩ (.int .i64 t743)).setCell ⟨gb746, 1, none⟩ (.int .i64 t744)).setCell ⟨gb746, 2, none⟩ (.int .i64 t745))) := hV HB
      (try clear HO697)
      (try clear HO706)
      (try clear HO712)
      (try clear HO718)
      (try clear HO724)
      (try clear HO730)
      (try clear BK701)
      (try clear BK702)
      (try clear BK708)
      (try clear BK714)
      (try clear BK720)
      (try clear BK726)
      (try clear BK732)
      (try clear BK737)
      (try clear BK746)
      (try clear HB)
      generalize (((w226.setCell ⟨gb746, 0, none⟩ (.int .i64 t743)).setCell ⟨gb746, 1, none⟩ (.int .i64 t744)).setCell ⟨gb746, 2, none⟩ (.int .i64 t745)) = w257 at n0_ n1_ n2_ n3_ n4_ n5_ n6_ n7_ n8_ n9_ n10_ n11_ n12_ n13_ n14_ n15_ ⊢
      have HO697 := n0_
      have HO706 := n1_
      have HO712 := n2_
      have HO718 := n3_
      have HO724 := n4_
      have HO730 := n5_
      have BK701 := n6_
      have BK702 := n7_
      have BK708 := n8_
      have BK714 := n9_
      have BK720 := n10_
      have BK726 := n11_
      have BK732 := n12_
      have BK737 := n13_
      have BK746 := n14_
      have HB := n15_
      clear n0_ n1_ n2_ n3_ n4_ n5_ n6_ n7_ n8_ n9_ n10_ n11_ n12_ n13_ n14_ n15_
      have n0_ := aM (Kd.R_drew HO697.out)
      have n1_ := aM (Kd.R_drew HO706.out)
      have n2_ := aM (Kd.R_drew HO712.out)
      have n3_ := aM (Kd.R_drew HO718.out)
      have n4_ := aM (Kd.R_drew HO724.out)
      have n5_ := aM (Kd.R_drew HO730.out)
      have n6_ := aM (blk_drew BK701.out)
      have n7_ := aM (blk_drew BK702.out)
      have n8_ := aM (blk_drew BK708.out)
      have n9_ := aM (blk_drew BK714.out)
      have n10_ := aM (blk_drew BK720.out)
      have n11_ := aM (blk_drew BK726.out)
      have n12_ := aM (blk_drew BK732.out)
      have n13_ := aM (blk_drew BK737.out)
      have n14_ := aM (blk_drew BK746.out)
      have n15_ := aM (below_drew1 HB.out)
      clear HO697
      clear HO706
      clear HO712
      clear HO718
      clear HO724
      clear HO730
      clear BK701
      clear BK702
      clear BK708
      clear BK714
      clear BK720
      clear BK726
      clear BK732
      clear BK737
      clear BK746
      clear HB
      have HO697 := n0_
      have HO706 := n1_
      have HO712 := n2_
      have HO718 := n3_
      have HO724 := n4_
      have HO730 := n5_
      have BK701 := n6_
      have BK702 := n7_
      have BK708 := n8_
      have BK714 := n9_
      have BK720 := n10_
      have BK726 := n11_
      have BK732 := n12_
      have BK737 := n13_
      have BK746 := n14_
      have HB := n15_
      clear n0_ n1_ n2_ n3_ n4_ n5_ n6_ n7_ n8_ n9_ n10_ n11_ n12_ n13_ n14_ n15_
      refine start_ (n := 49) (S := fun w' => w'.cell? ⟨gb708, 0, none⟩ = some (.int .i64 t703) ∧ w'.cell? ⟨gb708, 1, none⟩ = some (.slice Ao169 t704.length co169) ∧ w'.cell? ⟨gb714, 0, none⟩ = some (.int .i64 t709) ∧ w'.cell? ⟨gb714, 1, none⟩ = some (.slice Ao179 t710.length co179) ∧ w'.cell? ⟨gb726, 0, none⟩ = some (.int .i64 t721) ∧ w'.cell? ⟨gb726, 1, none⟩ = some (.slice Ao198 t722.length co198) ∧ w'.cell? ⟨gb732, 0, none⟩ = some (.int .i64 t727) ∧ w'.cell? ⟨gb732, 1, none⟩ = some (.slice Ao210 t728.length co210) ∧ w'.cell? ⟨gb746, 0, none⟩ = some (.int .i64 t743) ∧ w'.cell? ⟨gb746, 1, none⟩ = some (.int .i64 t744) ∧ w'.cell? ⟨gb746, 2, none⟩ = some (.int .i64 t745)) (ds := []) (bn 49 0) (by kernel_rfl) rfl rfl ⟨(blk_cell BK708.out 0).trans rfl, (blk_cell BK708.out 1).trans rfl, (blk_cell BK714.out 0).trans rfl, (blk_cell BK714.out 1).trans rfl, (blk_cell BK726.out 0).trans rfl, (blk_cell BK726.out 1).trans rfl, (blk_cell BK732.out 0).trans rfl, (blk_cell BK732.out 1).trans rfl, (blk_cell BK746.out 0).trans rfl, (blk_cell BK746.out 1).trans rfl, (blk_cell BK746.out 2).trans rfl⟩ (fun hHeld => ?_); refine with_tabW laws_FnStatesHidden.tab48 laws_FnStatesHidden.bits48 (fun HT_ HW_ => ?_)
      generalize w257.drew = w258 at HO697 HO706 HO712 HO718 HO724 HO730 BK701 BK702 BK708 BK714 BK720 BK726 BK732 BK737 BK746 HB hHeld ⊢
      refine pU 0 (some 338) (bn 49 1) ?_
      refine pU 1 (some 339) (bn 49 3) ?_
      refine pU 2 (some 340) (bn 49 7) ?_
      refine pU 3 (some 341) (bn 49 15) ?_
      refine take_ (i := 4) (N := some 342) (v := ?_) (a' := ?_) (bn 49 31) rfl rfl (take_ofW HT_.out HW_.out (by kernel_rfl)) (fun _ _ _ h => h) (Or.inl ⟨by rfl, ?_⟩) hHeld ?_ ?_
      rotate_left
      ·rintro w' ⟨s0, s1, s2, s3, s4, s5, s6, s7, s8, s9, s10⟩
       go_simp
       with_reducible rfl
      rotate_left
      ·simp only [Act.put, List.setIfInBounds_toArray, List.set_cons_zero, List.set_cons_succ, i64_w, i32_w]
       rfl
      refine take_ (i := 5) (N := some 343) (v := ?_) (a' := ?_) (bn 49 63) rfl rfl (take_ofW HT_.out HW_.out (by kernel_rfl)) (fun _ _ _ h => h) (Or.inl ⟨by rfl, ?_⟩) hHeld ?_ ?_
      rotate_left
      ·rintro w' ⟨s0, s1, s2, s3, s4, s5, s6, s7, s8, s9, s10⟩
       go_simp
       with_reducible rfl
      rotate_left
      ·simp only [Act.put, List.setIfInBounds_toArray, List.set_cons_zero, List.set_cons_succ, i64_w, i32_w]
       rfl
      refine one_ (i := 6) (N := some 344) (bn 49 127) rfl rfl (one_of HT_.out (by kernel_rfl)) (by decide) (fun K hK => ?_)
      refine goes_ Tryz.func8 (by kernel_rfl) rfl #[.agg #[.int .i64 t703, .slice Ao169 t704.length co169], .agg #[.int .i64 t709, .slice Ao179 t710.length co179]] (by rfl) rfl rfl (by (try simp only [List.map_toArray, List.map_cons, List.map_nil]); first | done | rfl | (simp only [List.length_drop, List.length_take]; rfl)) ?_
      with_reducible refine (laws_xPuzzle.calls kj118 t703 _ _ t704 t709 _ _ t710 true _ ?side1 ?side2 ?side3 ?side4 A238.out).mono ?_
      (case side1 => exact cU (Kd.R_reads' HO706.out).2.2)
      (case side2 => exact (Kd.R_reads' HO706.out).2.1)
      (case side3 => exact cU (Kd.R_reads' HO712.out).2.2)
      (case side4 => exact (Kd.R_reads' HO712.out).2.1)
      rintro e w259 ⟨rfl, hb⟩
      refine ⟨_, rfl, ?_⟩
      have n0_ := rB HO697 hb
      have n1_ := rB HO706 hb
      have n2_ := rB HO712 hb
      have n3_ := rB HO718 hb
      have n4_ := rB HO724 hb
      have n5_ := rB HO730 hb
      have n6_ := bB BK701 hb
      have n7_ := bB BK702 hb
      have n8_ := bB BK708 hb
      have n9_ := bB BK714 hb
      have n10_ := bB BK720 hb
      have n11_ := bB BK726 hb
      have n12_ := bB BK732 hb
      have n13_ := bB BK737 hb
      have n14_ := bB BK746 hb
      have n15_ := hS HB hb
      clear HO697
      clear HO706
      clear HO712
      clear HO718
      clear HO724
      clear HO730
      clear BK701
      clear BK702
      clear BK708
      clear BK714
      clear BK720
      clear BK726
      clear BK732
      clear BK737
      clear BK746
      clear HB
      have HO697 := n0_
      have HO706 := n1_
      have HO712 := n2_
      have HO718 := n3_
      have HO724 := n4_
      have HO730 := n5_
      have BK701 := n6_
      have BK702 := n7_
      have BK708 := n8_
      have BK714 := n9_
      have BK720 := n10_
      have BK726 := n11_
      have BK732 := n12_
      have BK737 := n13_
      have BK746 := n14_
      have HB := n15_
      clear n0_ n1_ n2_ n3_ n4_ n5_ n6_ n7_ n8_ n9_ n10_ n11_ n12_ n13_ n14_ n15_
      (try clear hb)
      (try clear hb2)
      (try clear hk)
      (try clear hi)
      refine hK.out _ _ ⟨(blk_cell BK708.out 0).trans rfl, (blk_cell BK708.out 1).trans rfl, (blk_cell BK714.out 0).trans rfl, (blk_cell BK714.out 1).trans rfl, (blk_cell BK726.out 0).trans rfl, (blk_cell BK726.out 1).trans rfl, (blk_cell BK732.out 0).trans rfl, (blk_cell BK732.out 1).trans rfl, (blk_cell BK746.out 0).trans rfl, (blk_cell BK746.out 1).trans rfl, (blk_cell BK746.out 2).trans rfl⟩ (fun hHeld => ?_)
      clear hK K
      refine norm_ (a' := ?_) ?_ ?_
      rotate_left
      ·show Act.put _ (some 344) _ = _
       simp only [Act.put, List.setIfInBounds_toArray, List.set_cons_zero, List.set_cons_succ, i64_w, i32_w]
       rfl
      refine pU 7 (some 345) (bn 49 255) ?_
      refine pU 8 (some 346) (bn 49 511) ?_
      refine pU 9 (some 347) (bn 49 1023) ?_
      refine pU 10 (some 348) (bn 49 2047) ?_
      refine pU 11 (some 349) (bn 49 4095) ?_
      refine pU 12 (some 350) (bn 49 8191) ?_
      refine pU 13 (some 351) (bn 49 16383) ?_
      refine pU 14 (some 352) (bn 49 32767) ?_
      refine take_ (i := 15) (N := some 353) (v := ?_) (a' := ?_) (bn 49 65535) rfl rfl (take_ofW HT_.out HW_.out (by kernel_rfl)) (fun _ _ _ h => h) (Or.inl ⟨by rfl, ?_⟩) hHeld ?_ ?_
      rotate_left
      ·rintro w' ⟨s0, s1, s2, s3, s4, s5, s6, s7, s8, s9, s10⟩
       go_simp
       with_reducible rfl
      rotate_left
      ·simp only [Act.put, List.setIfInBounds_toArray, List.set_cons_zero, List.set_cons_succ, i64_w, i32_w]
       rfl
      refine take_ (i := 16) (N := some 354) (v := ?_) (a' := ?_) (bn 49 131071) rfl rfl (take_ofW HT_.out HW_.out (by kernel_rfl)) (fun _ _ _ h => h) (Or.inl ⟨by rfl, ?_⟩) hHeld ?_ ?_
      rotate_left
      ·rintro w' ⟨s0, s1, s2, s3, s4, s5, s6, s7, s8, s9, s10⟩
       go_simp
       with_reducible rfl
      rotate_left
      ·simp only [Act.put, List.setIfInBounds_toArray, List.set_cons_zero, List.set_cons_succ, i64_w, i32_w]
       rfl
      refine one_ (i := 17) (N := some 355) (bn 49 262143) rfl rfl (one_of HT_.out (by kernel_rfl)) (by decide) (fun K hK => ?_)
      refine goes_ Tryz.func8 (by kernel_rfl) rfl #[.agg #[.int .i64 t721, .slice Ao198 t722.length co198], .agg #[.int .i64 t727, .slice Ao210 t728.length co210]] (by rfl) rfl rfl (by (try simp only [List.map_toArray, List.map_cons, List.map_nil]); first | done | rfl | (simp only [List.length_drop, List.length_take]; rfl)) ?_
      with_reducible refine (laws_xPuzzle.calls kj118 t721 _ _ t722 t727 _ _ t728 true _ ?side1 ?side2 ?side3 ?side4 A241.out).mono ?_
      (case side1 => exact cU (Kd.R_reads' HO724.out).2.2)
      (case side2 => exact (Kd.R_reads' HO724.out).2.1)
      (case side3 => exact cU (Kd.R_reads' HO730.out).2.2)
      (case side4 => exact (Kd.R_reads' HO730.out).2.1)
      rintro e w260 ⟨rfl, hb⟩
      refine ⟨_, rfl, ?_⟩
      have n0_ := rB HO697 hb
      have n1_ := rB HO706 hb
      have n2_ := rB HO712 hb
      have n3_ := rB HO718 hb
      have n4_ := rB HO724 hb
      have n5_ := rB HO730 hb
      have n6_ := bB BK701 hb
      have n7_ := bB BK702 hb
      have n8_ := bB BK708 hb
      have n9_ := bB BK714 hb
      have n10_ := bB BK720 hb
      have n11_ := bB BK726 hb
      have n12_ := bB BK732 hb
      have n13_ := bB BK737 hb
      have n14_ := bB BK746 hb
      have n15_ := hS HB hb
      clear HO697
      clear HO706
      clear HO712
      clear HO718
      clear HO724
      clear HO730
      clear BK701
      clear BK702
      clear BK708
      clear BK714
      clear BK720
      clear BK726
      clear BK732
      clear BK737
      clear BK746
      clear HB
      have HO697 := n0_
      have HO706 := n1_
      have HO712 := n2_
      have HO718 := n3_
      have HO724 := n4_
      have HO730 := n5_
      have BK701 := n6_
      have BK702 := n7_
      have BK708 := n8_
      have BK714 := n9_
      have BK720 := n10_
      have BK726 := n11_
      have BK732 := n12_
      have BK737 := n13_
      have BK746 := n14_
      have HB := n15_
      clear n0_ n1_ n2_ n3_ n4_ n5_ n6_ n7_ n8_ n9_ n10_ n11_ n12_ n13_ n14_ n15_
      (try clear hb)
      (try clear hb2)
      (try clear hk)
      (try clear hi)
      refine hK.out _ _ ⟨(blk_cell BK708.out 0).trans rfl, (blk_cell BK708.out 1).trans rfl, (blk_cell BK714.out 0).trans rfl, (blk_cell BK714.out 1).trans rfl, (blk_cell BK726.out 0).trans rfl, (blk_cell BK726.out 1).trans rfl, (blk_cell BK732.out 0).trans rfl, (blk_cell BK732.out 1).trans rfl, (blk_cell BK746.out 0).trans rfl, (blk_cell BK746.out 1).trans rfl, (blk_cell BK746.out 2).trans rfl⟩ (fun hHeld => ?_)
      clear hK K
      refine norm_ (a' := ?_) ?_ ?_
      rotate_left
      ·show Act.put _ (some 355) _ = _
       simp only [Act.put, List.setIfInBounds_toArray, List.set_cons_zero, List.set_cons_succ, i64_w, i32_w]
       rfl
      refine pU 18 (some 356) (bn 49 524287) ?_
      refine pU 19 (some 357) (bn 49 1048575) ?_
      refine pU 20 (some 358) (bn 49 2097151) ?_
      refine pU 21 (some 359) (bn 49 4194303) ?_
      refine pU 22 (some 360) (bn 49 8388607) ?_
      refine pU 23 (some 361) (bn 49 16777215) ?_
      refine pU 24 (some 362) (bn 49 33554431) ?_
      refine pU 25 (some 363) (bn 49 67108863) ?_
      refine pU 26 (some 364) (bn 49 134217727) ?_
      refine pU 27 (some 365) (bn 49 268435455) ?_
      refine pU 28 (some 366) (bn 49 536870911) ?_
      refine pU 29 (some 367) (bn 49 1073741823) ?_
      refine pU 30 (some 368) (bn 49 2147483647) ?_
      refine pU 31 (some 369) (bn 49 4294967295) ?_
      refine pU 34 (some 372) (bn 49 21474836479) ?_
      refine take_ (i := 32) (N := some 370) (v := ?_) (a' := ?_) (bn 49 25769803775) rfl rfl (take_ofW HT_.out HW_.out (by kernel_rfl)) (fun _ _ _ h => h) (Or.inl ⟨by rfl, ?_⟩) hHeld ?_ ?_
      rotate_left
      ·rintro w' ⟨s0, s1, s2, s3, s4, s5, s6, s7, s8, s9, s10⟩
       go_simp
       with_reducible rfl
      rotate_left
      ·simp only [Act.put, List.setIfInBounds_toArray, List.set_cons_zero, List.set_cons_succ, i64_w, i32_w]
       rfl
      refine take_ (i := 35) (N := some 373) (v := ?_) (a' := ?_) (bn 49 60129542143) rfl rfl (take_ofW HT_.out HW_.out (by kernel_rfl)) (fun _ _ _ h => h) (Or.inl ⟨by rfl, ?_⟩) hHeld ?_ ?_
      rotate_left
      ·rintro w' ⟨s0, s1, s2, s3, s4, s5, s6, s7, s8, s9, s10⟩
       go_simp
       with_reducible rfl
      rotate_left
      ·simp only [Act.put, List.setIfInBounds_toArray, List.set_cons_zero, List.set_cons_succ, i64_w, i32_w]
       rfl
      refine one_ (i := 33) (N := some 371) (bn 49 68719476735) rfl rfl (one_of HT_.out (by kernel_rfl)) (by decide) (fun K hK => ?_)
      refine goes_ Tryz.func32 (by kernel_rfl) rfl #[.int .i64 t742, .agg #[.int .i64 t743, .int .i64 t744, .int .i64 t745]] (by rfl) rfl rfl (by (try simp only [List.map_toArray, List.map_cons, List.map_nil]); first | done | rfl | (simp only [List.length_drop, List.length_take]; rfl)) ?_
      with_reducible refine (impl_IsClue.calls kj118 t742 t743 t744 t745 t749 _ A245.out).mono ?_
      rintro e w261 ⟨rfl, hb⟩
      refine ⟨_, rfl, ?_⟩
      have n0_ := rB HO697 hb
      have n1_ := rB HO706 hb
      have n2_ := rB HO712 hb
      have n3_ := rB HO718 hb
      have n4_ := rB HO724 hb
      have n5_ := rB HO730 hb
      have n6_ := bB BK701 hb
      have n7_ := bB BK702 hb
      have n8_ := bB BK708 hb
      have n9_ := bB BK714 hb
      have n10_ := bB BK720 hb
      have n11_ := bB BK726 hb
      have n12_ := bB BK732 hb
      have n13_ := bB BK737 hb
      have n14_ := bB BK746 hb
      have n15_ := hS HB hb
      clear HO697
      clear HO706
      clear HO712
      clear HO718
      clear HO724
      clear HO730
      clear BK701
      clear BK702
      clear BK708
      clear BK714
      clear BK720
      clear BK726
      clear BK732
      clear BK737
      clear BK746
      clear HB
      have HO697 := n0_
      have HO706 := n1_
      have HO712 := n2_
      have HO718 := n3_
      have HO724 := n4_
      have HO730 := n5_
      have BK701 := n6_
      have BK702 := n7_
      have BK708 := n8_
      have BK714 := n9_
      have BK720 := n10_
      have BK726 := n11_
      have BK732 := n12_
      have BK737 := n13_
      have BK746 := n14_
      have HB := n15_
      clear n0_ n1_ n2_ n3_ n4_ n5_ n6_ n7_ n8_ n9_ n10_ n11_ n12_ n13_ n14_ n15_
      (try clear hb)
      (try clear hb2)
      (try clear hk)
      (try clear hi)
      refine hK.out _ _ ⟨(blk_cell BK708.out 0).trans rfl, (blk_cell BK708.out 1).trans rfl, (blk_cell BK714.out 0).trans rfl, (blk_cell BK714.out 1).trans rfl, (blk_cell BK726.out 0).trans rfl, (blk_cell BK726.out 1).trans rfl, (blk_cell BK732.out 0).trans rfl, (blk_cell BK732.out 1).trans rfl, (blk_cell BK746.out 0).trans rfl, (blk_cell BK746.out 1).trans rfl, (blk_cell BK746.out 2).trans rfl⟩ (fun hHeld => ?_)
      clear hK K
      refine norm_ (a' := ?_) ?_ ?_
      rotate_left
      ·show Act.put _ (some 371) _ = _
       simp only [Act.put, List.setIfInBounds_toArray, List.set_cons_zero, List.set_cons_succ, i64_w, i32_w]
       rfl
      refine one_ (i := 36) (N := some 374) (bn 49 137438953471) rfl rfl (one_of HT_.out (by kernel_rfl)) (by decide) (fun K hK => ?_)
      refine goes_ Tryz.func33 (by kernel_rfl) rfl #[.int .i64 t742, .agg #[.int .i64 t743, .int .i64 t744, .int .i64 t745]] (by rfl) rfl rfl (by (try simp only [List.map_toArray, List.map_cons, List.map_nil]); first | done | rfl | (simp only [List.length_drop, List.length_take]; rfl)) ?_
      with_reducible refine (spec_IsClue.calls kj118 t742 t743 t744 t745 t750 _ A246.out).mono ?_
      rintro e w262 ⟨rfl, hb⟩
      refine ⟨_, rfl, ?_⟩
      have n0_ := rB HO697 hb
      have n1_ := rB HO706 hb
      have n2_ := rB HO712 hb
      have n3_ := rB HO718 hb
      have n4_ := rB HO724 hb
      have n5_ := rB HO730 hb
      have n6_ := bB BK701 hb
      have n7_ := bB BK702 hb
      have n8_ := bB BK708 hb
      have n9_ := bB BK714 hb
      have n10_ := bB BK720 hb
      have n11_ := bB BK726 hb
      have n12_ := bB BK732 hb
      have n13_ := bB BK737 hb
      have n14_ := bB BK746 hb
      have n15_ := hS HB hb
      clear HO697
      clear HO706
      clear HO712
      clear HO718
      clear HO724
      clear HO730
      clear BK701
      clear BK702
      clear BK708
      clear BK714
      clear BK720
      clear BK726
      clear BK732
      clear BK737
      clear BK746
      clear HB
      have HO697 := n0_
      have HO706 := n1_
      have HO712 := n2_
      have HO718 := n3_
      have HO724 := n4_
      have HO730 := n5_
      have BK701 := n6_
      have BK702 := n7_
      have BK708 := n8_
      have BK714 := n9_
      have BK720 := n10_
      have BK726 := n11_
      have BK732 := n12_
      have BK737 := n13_
      have BK746 := n14_
      have HB := n15_
      clear n0_ n1_ n2_ n3_ n4_ n5_ n6_ n7_ n8_ n9_ n10_ n11_ n12_ n13_ n14_ n15_
      (try clear hb)
      (try clear hb2)
      (try clear hk)
      (try clear hi)
      refine hK.out _ _ ⟨(blk_cell BK708.out 0).trans rfl, (blk_cell BK708.out 1).trans rfl, (blk_cell BK714.out 0).trans rfl, (blk_cell BK714.out 1).trans rfl, (blk_cell BK726.out 0).trans rfl, (blk_cell BK726.out 1).trans rfl, (blk_cell BK732.out 0).trans rfl, (blk_cell BK732.out 1).trans rfl, (blk_cell BK746.out 0).trans rfl, (blk_cell BK746.out 1).trans rfl, (blk_cell BK746.out 2).trans rfl⟩ (fun hHeld => ?_)
      clear hK K
      refine norm_ (a' := ?_) ?_ ?_
      rotate_left
      ·show Act.put _ (some 374) _ = _
       simp only [Act.put, List.setIfInBounds_toArray, List.set_cons_zero, List.set_cons_succ, i64_w, i32_w]
       rfl
      refine pU 37 (some 375) (bn 49 274877906943) ?_
      refine pU 38 (some 376) (bn 49 549755813887) ?_
      refine pU 39 (some 377) (bn 49 1099511627775) ?_
      refine pU 40 (some 378) (bn 49 2199023255551) ?_
      refine pU 41 (some 379) (bn 49 4398046511103) ?_
      refine pure_ (i := 42) (N := some 380) (v := undef) (a' := ?_) (bn 49 8796093022207) rfl rfl (any_of HT_.out (by kernel_rfl)) (fun _ _ _ h => h) (Or.inr ⟨by rfl, rfl⟩) ?_ ?_
      rotate_left
      ·simp only [Act.put, List.setIfInBounds_toArray, List.set_cons_zero, List.set_cons_succ, i64_w, i32_w]
       rfl
      refine pure_ (i := 43) (N := some 381) (v := undef) (a' := ?_) (bn 49 17592186044415) rfl rfl (any_of HT_.out (by kernel_rfl)) (fun _ _ _ h => h) (Or.inr ⟨by rfl, rfl⟩) ?_ ?_
      rotate_left
      ·simp only [Act.put, List.setIfInBounds_toArray, List.set_cons_zero, List.set_cons_succ, i64_w, i32_w]
       rfl
      refine pure_ (i := 44) (N := some 382) (v := undef) (a' := ?_) (bn 49 35184372088831) rfl rfl (any_of HT_.out (by kernel_rfl)) (fun _ _ _ h => h) (Or.inr ⟨by rfl, rfl⟩) ?_ ?_
      rotate_left
      ·simp only [Act.put, List.setIfInBounds_toArray, List.set_cons_zero, List.set_cons_succ, i64_w, i32_w]
       rfl
      refine pure_ (i := 45) (N := some 383) (v := undef) (a' := ?_) (bn 49 70368744177663) rfl rfl (any_of HT_.out (by kernel_rfl)) (fun _ _ _ h => h) (Or.inr ⟨by rfl, rfl⟩) ?_ ?_
      rotate_left
      ·simp only [Act.put, List.setIfInBounds_toArray, List.set_cons_zero, List.set_cons_succ, i64_w, i32_w]
       rfl
      refine pure_ (i := 46) (N := some 384) (v := undef) (a' := ?_) (bn 49 140737488355327) rfl rfl (any_of HT_.out (by kernel_rfl)) (fun _ _ _ h => h) (Or.inr ⟨by rfl, rfl⟩) ?_ ?_
      rotate_left
      ·simp only [Act.put, List.setIfInBounds_toArray, List.set_cons_zero, List.set_cons_succ, i64_w, i32_w]
       rfl
      refine pU 47 (some 385) (bn 49 281474976710655) ?_
      refine pU 48 (some 386) (bn 49 562949953421311) ?_
      refine done_ (done_of HT_.out (by kernel_rfl)) ?_
      try go_wp2
      go_meet
      case rel => exact ⟨_, (false), rF, H', ⟨by have := HJ7.out; have := HJ25.out; have := HJ79.out; have := HJ118.out; first | omega | exact Nat.le_refl _⟩, ⟨rU (Kd.R_mono HO697.out (fun _ hk => ⟨hk.1, ⟨hk.2.2.1, ⟨hk.2.2.2.1, hk.2.2.2.2.2.1⟩⟩⟩))⟩, ⟨rU (Kd.R_mono HO706.out (fun _ hk => ⟨hk.1, ⟨hk.2.2.1, ⟨hk.2.2.2.1, hk.2.2.2.2.2.1⟩⟩⟩))⟩, ⟨rU (Kd.R_mono HO718.out (fun _ hk => ⟨hk.1, ⟨hk.2.1, ⟨hk.2.2.2.1, hk.2.2.2.2.2.1⟩⟩⟩))⟩, ⟨rU (Kd.R_mono HO724.out (fun _ hk => ⟨hk.1, ⟨hk.2.1, ⟨hk.2.2.2.1, hk.2.2.2.2.2.1⟩⟩⟩))⟩, ⟨bU BK701.out⟩, ⟨bU BK702.out⟩, ⟨bU BK708.out⟩, ⟨bU BK720.out⟩, ⟨bU BK726.out⟩, hV HB⟩
     case rest => as_aux_lemma =>
      clear HC153
      obtain ⟨kq, x386_152, rfl, HA, HJ152, HO_702001, HO_709001, HO_721001, HO_727001, BK701, BK702, BK708, BK720, BK726, HB⟩ := hcut
      obtain rfl | ⟨kj152, rfl⟩ := fz kq
      ·exact zA HA
      have H := HA.out
      clear HA
      simp only [laws_FnStatesHidden.j6] at H
      refine iBn H ?_; clear H; rintro rfl H
      have HC264 := aM H
      clear H
      go_upto_if 387 with (fail)
      go_cut [] from 387 to 387 (fun wc => ∃ (kq : Nat), Aside0 (laws_FnStatesHidden.j7 kq t719 t725 t715 t716 t721 t722 = some r) ∧ Aside0 (kq ≤ kj152) ∧ Aside0 (Kd.R k40 40 wc w.heap.size (fun k_ => some k_ ≠ ((.slice Ao198 t722.length co198) : Value).ownBlock) (.slice Ao188 t716.length co188) t716) ∧ Aside0 (Kd.R k40 40 wc w.heap.size (fun k_ => some k_ ≠ ((.slice Ao188 t716.length co188) : Value).ownBlock) (.slice Ao198 t722.length co198) t722) ∧ Aside0 (wc.heap[gb720]? = some (.cells #[.int .i64 t715, (.slice Ao188 t716.length co188)] 28 (0, 0))) ∧ Aside0 (wc.heap[gb726]? = some (.cells #[.int .i64 t721, (.slice Ao198 t722.length co198)] 28 (0, 0))) ∧ Aside0 (Below w.heap.size w wc))
      case first => as_aux_lemma =>
       have H := HC264.out
       clear HC264
       refine iB H ?_ ?_ <;> clear H <;> rintro rfl H
       ·replace H := bC H; obtain ⟨⟨t752, t753, t756⟩, A266, H⟩ := H; try dsimp only at H
        refine iBy H ?_; clear H; rintro rfl H
        replace H := bC H; obtain ⟨t758, A268, H⟩ := H
        refine iBy H ?_; clear H; rintro rfl H
        refine iY H ?_; clear H; intro c270 H
        have c270b0 := dT c270
        have c270b1 : decide (0 ≤ t695.length) = true := decide_eq_true (by omega)
        clear c270
        (first | rw [c270b0] | (simp only [i64_w, i32_w]; rw [c270b0]) | skip)
        refine iY H ?_; clear H; intro c271 H
        have c271b0 := dT c271
        have c271b1 : decide (t695.length < t704.length) = true := decide_eq_true (Int.ofNat_lt.mp c271)
        clear c271
        refine iN H ?_; clear H; intro c272 H
        have c272b0 := bF c272
        clear c272
        have H' := aM H
        clear H
        have hnb273 := NB708_701.out
        have hnc273 := NB701_708.out
        have hnb274 := NB708_702.out
        have hnc274 := NB702_708.out
        have hnb275 := NB708_720.out
        have hnc275 := NB720_708.out
        have hnb276 := NB708_726.out
        have hnc276 := NB726_708.out
        obtain ⟨hcz277_0, hcz277_1, hfz277_0, hfz277_1⟩ := hC2 BK708
        have hnb278 := NB701_702.out
        have hnc278 := NB702_701.out
        have hnb279 := NB701_720.out
        have hnc279 := NB720_701.out
        have hnb280 := NB701_726.out
        have hnc280 := NB726_701.out
        obtain ⟨hcz281_0, hcz281_1, hfz281_0, hfz281_1⟩ := hC2 BK701
        try go_wp2_with (first | ((with_reducible refine gG 27 (some 393) rfl rfl ?_); refine gD Tryz.func27 (impl_DropClue.calls t703 _ _ t704 (t695.length : Int) t752 t753 true _ (cU (Kd.R_reads' HO_709001.out).2.2) ((Kd.R_reads' HO_709001.out).2.1) A266.out) ?_; rintro w282 v754 ⟨ho0, hb⟩; have HO755 := aM (Kd.R_lower (Kd.R_newB (Kd.R_new' (Kd.R_new' (Kd.R_new' (Kd.R_new' ho0 (Kd.R_lt (rU HO_702001.out))) (Kd.R_lt (rU HO_709001.out))) (Kd.R_lt (rU HO_721001.out))) (Kd.R_lt (rU HO_727001.out))) (g := gb702) (o := .cells #[.int .i64 t698, .int .i64 t699, .int .i64 t700] 40 (0, 0)) (bU BK702.out)) (below_size (bel HB))); replace HO_702001 := aM (Kd.R_elder' (rU HO_702001.out) (Kd.R_base ho0) hb); replace HO_709001 := aM (Kd.R_elder' (rU HO_709001.out) (Kd.R_base ho0) hb); replace HO_721001 := aM (Kd.R_elder' (rU HO_721001.out) (Kd.R_base ho0) hb); replace HO_727001 := aM (Kd.R_elder' (rU HO_727001.out) (Kd.R_base ho0) hb); replace BK701 := bB BK701 hb; replace BK702 := bB BK702 hb; replace BK708 := bB BK708 hb; replace BK720 := bB BK720 hb; replace BK726 := bB BK726 hb; replace HB := hS HB hb; clear hb ho0) | ((with_reducible refine gate_dst (N := 61) rfl ?_); (try (refine gate_guard (by rfl) ?_; dsimp only)); refine bX (N := 61) rfl (cs := #[.int .i64 0, .slice none 0 0]) (t := 28) ?_; intro gb757 hg w283 BK757 hb; have GW757 := gE hg HB; have GE757 := gE hg HB; have NB701_757 := nbL hg BK701; have NB757_701 := nbR hg BK701; have NB702_757 := nbL hg BK702; have NB757_702 := nbR hg BK702; have NB708_757 := nbL hg BK708; have NB757_708 := nbR hg BK708; have NB720_757 := nbL hg BK720; have NB757_720 := nbR hg BK720; have NB726_757 := nbL hg BK726; have NB757_726 := nbR hg BK726; replace HO_702001 := rB HO_702001 hb; replace HO_709001 := rB HO_709001 hb; replace HO_721001 := rB HO_721001 hb; replace HO_727001 := rB HO_727001 hb; replace HO755 := rB HO755 hb; replace BK701 := bB BK701 hb; replace BK702 := bB BK702 hb; replace BK708 := bB BK708 hb; replace BK720 := bB BK720 hb; replace BK726 := bB BK726 hb; replace HB := hS HB hb; clear hb hg; have hnb284 := NB757_701.out; have hnc284 := NB701_757.out; have hnb285 := NB757_702.out; have hnc285 := NB702_757.out; have hnb286 := NB757_708.out; have hnc286 := NB708_757.out; have hnb287 := NB757_720.out; have hnc287 := NB720_757.out; have hnb288 := NB757_726.out; have hnc288 := NB726_757.out; obtain ⟨hcz289_0, hcz289_1, hfz289_0, hfz289_1⟩ := hC2 BK757; obtain ⟨Ao290, co290, eo290⟩ := Kd.R_slice HO755.out; subst eo290))
        have n0_ : Aside0 (Kd.R k40 40 ((w283.setCell ⟨gb757, 0, none⟩ (.int .i64 t752)).setCell ⟨gb757, 1, none⟩ (.slice Ao290 t753.length co290)) w.heap.size (fun k_ => some k_ ≠ (.slice Ao169 t704.length co169 : Value).ownBlock ∧ some k_ ≠ (.slice Ao188 t716.length co188 : Value).ownBlock ∧ some k_ ≠ (.slice Ao198 t722.length co198 : Value).ownBlock ∧ some k_ ≠ (.slice Ao290 t753.length co290 : Value).ownBlock ∧ k_ ≠ gb702) (.slice Ao160 t695.length co160) t695) := ⟨rU (Kd.R_mono (Kd.R_far (p := ⟨gb757, 1, none⟩) (Kd.R_far (p := ⟨gb757, 0, none⟩) (Kd.R_types HO_702001.out BK757.out (by decide)) (fun _ hk => hk.2) (.int .i64 t752)) (fun _ hk => hk.2) (.slice Ao290 t753.length co290)) (fun _ hk => ⟨hk.1.1.1, ⟨hk.1.1.2.1, ⟨hk.1.1.2.2.1, ⟨hk.1.2, hk.1.1.2.2.2⟩⟩⟩⟩))⟩
        have n1_ : Aside0 (Kd.R k40 40 ((w283.setCell ⟨gb757, 0, none⟩ (.int .i64 t752)).setCell ⟨gb757, 1, none⟩ (.slice Ao290 t753.length co290)) w.heap.size (fun k_ => some k_ ≠ (.slice Ao160 t695.length co160 : Value).ownBlock ∧ some k_ ≠ (.slice Ao188 t716.length co188 : Value).ownBlock ∧ some k_ ≠ (.slice Ao198 t722.length co198 : Value).ownBlock ∧ some k_ ≠ (.slice Ao290 t753.length co290 : Value).ownBlock ∧ k_ ≠ gb702) (.slice Ao169 t704.length co169) t704) := ⟨rU (Kd.R_mono (Kd.R_far (p := ⟨gb757, 1, none⟩) (Kd.R_far (p := ⟨gb757, 0, none⟩) (Kd.R_types HO_709001.out BK757.out (by decide)) (fun _ hk => hk.2) (.int .i64 t752)) (fun _ hk => hk.2) (.slice Ao290 t753.length co290)) (fun _ hk => ⟨hk.1.1.1, ⟨hk.1.1.2.1, ⟨hk.1.1.2.2.1, ⟨hk.1.2, hk.1.1.2.2.2⟩⟩⟩⟩))⟩
        have n2_ : Aside0 (Kd.R k40 40 ((w283.setCell ⟨gb757, 0, none⟩ (.int .i64 t752)).setCell ⟨gb757, 1, none⟩ (.slice Ao290 t753.length co290)) w.heap.size (fun k_ => some k_ ≠ (.slice Ao160 t695.length co160 : Value).ownBlock ∧ some k_ ≠ (.slice Ao169 t704.length co169 : Value).ownBlock ∧ some k_ ≠ (.slice Ao198 t722.length co198 : Value).ownBlock ∧ some k_ ≠ (.slice Ao290 t753.length co290 : Value).ownBlock ∧ k_ ≠ gb702) (.slice Ao188 t716.length co188) t716) := ⟨rU (Kd.R_mono (Kd.R_far (p := ⟨gb757, 1, none⟩) (Kd.R_far (p := ⟨gb757, 0, none⟩) (Kd.R_types HO_721001.out BK757.out (by decide)) (fun _ hk => hk.2) (.int .i64 t752)) (fun _ hk => hk.2) (.slice Ao290 t753.length co290)) (fun _ hk => ⟨hk.1.1.1, ⟨hk.1.1.2.1, ⟨hk.1.1.2.2.1, ⟨hk.1.2, hk.1.1.2.2.2⟩⟩⟩⟩))⟩
        have n3_ : Aside0 (Kd.R k40 40 ((w283.setCell ⟨gb757, 0, none⟩ (.int .i64 t752)).setCell ⟨gb757, 1, none⟩ (.slice Ao290 t753.length co290)) w.heap.size (fun k_ => some k_ ≠ (.slice Ao160 t695.length co160 : Value).ownBlock ∧ some k_ ≠ (.slice Ao169 t704.length co169 : Value).ownBlock ∧ some k_ ≠ (.slice Ao188 t716.length co188 : Value).ownBlock ∧ some k_ ≠ (.slice Ao290 t753.length co290 : Value).ownBlock ∧ k_ ≠ gb702) (.slice Ao198 t722.length co198) t722) := ⟨rU (Kd.R_mono (Kd.R_far (p := ⟨gb757, 1, none⟩) (Kd.R_far (p := ⟨gb757, 0, none⟩) (Kd.R_types HO_727001.out BK757.out (by decide)) (fun _ hk => hk.2) (.int .i64 t752)) (fun _ hk => hk.2) (.slice Ao290 t753.length co290)) (fun _ hk => ⟨hk.1.1.1, ⟨hk.1.1.2.1, ⟨hk.1.1.2.2.1, ⟨hk.1.2, hk.1.1.2.2.2⟩⟩⟩⟩))⟩
        have n4_ : Aside0 (Kd.R k40 40 ((w283.setCell ⟨gb757, 0, none⟩ (.int .i64 t752)).setCell ⟨gb757, 1, none⟩ (.slice Ao290 t753.length co290)) w.heap.size (fun k_ => some k_ ≠ (.slice Ao160 t695.length co160 : Value).ownBlock ∧ some k_ ≠ (.slice Ao169 t704.length co169 : Value).ownBlock ∧ some k_ ≠ (.slice Ao188 t716.length co188 : Value).ownBlock ∧ some k_ ≠ (.slice Ao198 t722.length co198 : Value).ownBlock ∧ k_ ≠ gb702) (.slice Ao290 t753.length co290) t753) := ⟨rU (Kd.R_mono (Kd.R_far (p := ⟨gb757, 1, none⟩) (Kd.R_far (p := ⟨gb757, 0, none⟩) (Kd.R_types HO755.out BK757.out (by decide)) (fun _ hk => hk.2) (.int .i64 t752)) (fun _ hk => hk.2) (.slice Ao290 t753.length co290)) (fun _ hk => ⟨hk.1.1.1.1.1.2, ⟨hk.1.1.1.1.2, ⟨hk.1.1.1.2, ⟨hk.1.1.2, hk.1.2⟩⟩⟩⟩))⟩
        have n5_ : Aside0 (((w283.setCell ⟨gb757, 0, none⟩ (.int .i64 t752)).setCell ⟨gb757, 1, none⟩ (.slice Ao290 t753.length co290)).heap[gb701]? = some (.cells #[.int .i64 t694, .slice Ao160 t695.length co160] 28 (0, 0))) := ⟨kU BK701.out⟩
        have n6_ : Aside0 (((w283.setCell ⟨gb757, 0, none⟩ (.int .i64 t752)).setCell ⟨gb757, 1, none⟩ (.slice Ao290 t753.length co290)).heap[gb702]? = some (.cells #[.int .i64 t698, .int .i64 t699, .int .i64 t700] 40 (0, 0))) := ⟨kU BK702.out⟩
        have n7_ : Aside0 (((w283.setCell ⟨gb757, 0, none⟩ (.int .i64 t752)).setCell ⟨gb757, 1, none⟩ (.slice Ao290 t753.length co290)).heap[gb708]? = some (.cells #[.int .i64 t703, .slice Ao169 t704.length co169] 28 (0, 0))) := ⟨kU BK708.out⟩
        have n8_ : Aside0 (((w283.setCell ⟨gb757, 0, none⟩ (.int .i64 t752)).setCell ⟨gb757, 1, none⟩ (.slice Ao290 t753.length co290)).heap[gb720]? = some (.cells #[.int .i64 t715, .slice Ao188 t716.length co188] 28 (0, 0))) := ⟨kU BK720.out⟩
        have n9_ : Aside0 (((w283.setCell ⟨gb757, 0, none⟩ (.int .i64 t752)).setCell ⟨gb757, 1, none⟩ (.slice Ao290 t753.length co290)).heap[gb726]? = some (.cells #[.int .i64 t721, .slice Ao198 t722.length co198] 28 (0, 0))) := ⟨kU BK726.out⟩
        have n10_ : Aside0 (((w283.setCell ⟨gb757, 0, none⟩ (.int .i64 t752)).setCell ⟨gb757, 1, none⟩ (.slice Ao290 t753.length co290)).heap[gb757]? = some (.cells #[.int .i64 t752, .slice Ao290 t753.length co290] 28 (0, 0))) := ⟨bP2 BK757⟩
        have n11_ : Aside0 (Below w.heap.size w ((w283.setCell ⟨gb757, 0, none⟩ (.int .i64 t752)).setCell ⟨gb757, 1, none⟩ (.slice Ao290 t753.length co290))) := hV HB
        (try clear HO_702001)
        (try clear HO_709001)
        (try clear HO_721001)
        (try clear HO_727001)
        (try clear HO755)
        (try clear BK701)
        (try clear BK702)
        (try clear BK708)
        (try clear BK720)
        (try clear BK726)
        (try clear BK757)
        (try clear HB)
        generalize ((w283.setCell ⟨gb757, 0, none⟩ (.int .i64 t752)).setCell ⟨gb757, 1, none⟩ (.slice Ao290 t753.length co290)) = w291 at n0_ n1_ n2_ n3_ n4_ n5_ n6_ n7_ n8_ n9_ n10_ n11_ ⊢
        have HO_702001 := n0_
        have HO_709001 := n1_
        have HO_721001 := n2_
        have HO_727001 := n3_
        have HO755 := n4_
        have BK701 := n5_
        have BK702 := n6_
        have BK708 := n7_
        have BK720 := n8_
        have BK726 := n9_
        have BK757 := n10_
        have HB := n11_
        clear n0_ n1_ n2_ n3_ n4_ n5_ n6_ n7_ n8_ n9_ n10_ n11_
        have n0_ := aM (Kd.R_drew HO_702001.out)
        have n1_ := aM (Kd.R_drew HO_709001.out)
        have n2_ := aM (Kd.R_drew HO_721001.out)
        have n3_ := aM (Kd.R_drew HO_727001.out)
        have n4_ := aM (Kd.R_drew HO755.out)
        have n5_ := aM (blk_drew BK701.out)
        have n6_ := aM (blk_drew BK702.out)
        have n7_ := aM (blk_drew BK708.out)
        have n8_ := aM (blk_drew BK720.out)
        have n9_ := aM (blk_drew BK726.out)
        have n10_ := aM (blk_drew BK757.out)
        have n11_ := aM (below_drew1 HB.out)
        clear HO_702001
        clear HO_709001
        clear HO_721001
        clear HO_727001
        clear HO755
        clear BK701
        clear BK702
        clear BK708
        clear BK720
        clear BK726
        clear BK757
        clear HB
        have HO_702001 := n0_
        have HO_709001 := n1_
        have HO_721001 := n2_
        have HO_727001 := n3_
        have HO755 := n4_
        have BK701 := n5_
        have BK702 := n6_
        have BK708 := n7_
        have BK720 := n8_
        have BK726 := n9_
        have BK757 := n10_
        have HB := n11_
        clear n0_ n1_ n2_ n3_ n4_ n5_ n6_ n7_ n8_ n9_ n10_ n11_
        have p759 : 0 ≤ ((t695.length : Int) : Int) := oD
        have q759 : (t695.length : Int) < (t704.length : Int) := oD
        obtain ⟨ad759, e759, hx759_0, hx759_1, hx759_2⟩ := at_T40 (Kd.R_reads' HO_709001.out).2.2 (t695.length : Int) p759 q759
        cases e759
        (try simp only [Go.IntWalk.toNatUp] at hx759_0)
        (try simp only [Go.IntWalk.toNatUp] at hx759_1)
        (try simp only [Go.IntWalk.toNatUp] at hx759_2)
        replace p759 := eq_true p759
        replace q759 := eq_true q759
        refine start_ (n := 19) (S := fun w' => w'.cell? ⟨gb757, 0, none⟩ = some (.int .i64 t752) ∧ w'.cell? ⟨gb757, 1, none⟩ = some (.slice Ao290 t753.length co290) ∧ w'.cell? ⟨gb701, 0, none⟩ = some (.int .i64 t694) ∧ w'.cell? ⟨gb701, 1, none⟩ = some (.slice Ao160 t695.length co160) ∧ w'.cell? ⟨gb708, 0, none⟩ = some (.int .i64 t703) ∧ w'.cell? ⟨gb708, 1, none⟩ = some (.slice (some ad759) t704.length co169) ∧ w'.cell? ⟨gb702, 0, none⟩ = some (.int .i64 t698) ∧ w'.cell? ⟨gb702, 1, none⟩ = some (.int .i64 t699) ∧ w'.cell? ⟨gb702, 2, none⟩ = some (.int .i64 t700) ∧ w'.cell? (ad759.add (((t695.length : Int)).toNat * 3)) = some (.int .i64 ((rd_T40 t704 (t695.length : Int)).f0)) ∧ w'.cell? ⟨(ad759.add (((t695.length : Int)).toNat * 3)).block, (ad759.add (((t695.length : Int)).toNat * 3)).off + 1, none⟩ = some (.int .i64 ((rd_T40 t704 (t695.length : Int)).f1)) ∧ w'.cell? ⟨(ad759.add (((t695.length : Int)).toNat * 3)).block, (ad759.add (((t695.length : Int)).toNat * 3)).off + 2, none⟩ = some (.int .i64 ((rd_T40 t704 (t695.length : Int)).f2))) (ds := []) (bn 19 0) (by kernel_rfl) rfl rfl ⟨(blk_cell BK757.out 0).trans rfl, (blk_cell BK757.out 1).trans rfl, (blk_cell BK701.out 0).trans rfl, (blk_cell BK701.out 1).trans rfl, (blk_cell BK708.out 0).trans rfl, (blk_cell BK708.out 1).trans rfl, (blk_cell BK702.out 0).trans rfl, (blk_cell BK702.out 1).trans rfl, (blk_cell BK702.out 2).trans rfl, hx759_0, hx759_1, hx759_2⟩ (fun hHeld => ?_); refine with_tabW laws_FnStatesHidden.tab52 laws_FnStatesHidden.bits52 (fun HT_ HW_ => ?_)
        generalize w291.drew = w292 at HO_702001 HO_709001 HO_721001 HO_727001 HO755 BK701 BK702 BK708 BK720 BK726 BK757 HB hx759_0 hx759_1 hx759_2 hHeld ⊢
        refine pU 0 (some 396) (bn 19 1) ?_
        refine pU 1 (some 397) (bn 19 3) ?_
        refine pU 2 (some 398) (bn 19 7) ?_
        refine take_ (i := 3) (N := some 399) (v := ?_) (a' := ?_) (bn 19 15) rfl rfl (take_ofW HT_.out HW_.out (by kernel_rfl)) (fun _ _ _ h => h) (Or.inl ⟨by rfl, ?_⟩) hHeld ?_ ?_
        rotate_left
        ·rintro w' ⟨s0, s1, s2, s3, s4, s5, s6, s7, s8, s9, s10, s11⟩
         (try simp only [Int.toNat_natCast] at s0 s1 s2 s3 s4 s5 s6 s7 s8 s9 s10 s11)
         go_simp
         with_reducible rfl
        rotate_left
        ·simp only [Act.put, List.setIfInBounds_toArray, List.set_cons_zero, List.set_cons_succ, i64_w, i32_w]
         rfl
        refine take_ (i := 4) (N := some 400) (v := ?_) (a' := ?_) (bn 19 31) rfl rfl (take_ofW HT_.out HW_.out (by kernel_rfl)) (fun _ _ _ h => h) (Or.inl ⟨by rfl, ?_⟩) hHeld ?_ ?_
        rotate_left
        ·rintro w' ⟨s0, s1, s2, s3, s4, s5, s6, s7, s8, s9, s10, s11⟩
         (try simp only [Int.toNat_natCast] at s0 s1 s2 s3 s4 s5 s6 s7 s8 s9 s10 s11)
         go_simp
         with_reducible rfl
        rotate_left
        ·simp only [Act.put, List.setIfInBounds_toArray, List.set_cons_zero, List.set_cons_succ, i64_w, i32_w]
         rfl
        refine one_ (i := 5) (N := some 401) (bn 19 63) rfl rfl (one_of HT_.out (by kernel_rfl)) (by decide) (fun K hK => ?_)
        refine goes_ Tryz.func8 (by kernel_rfl) rfl #[.agg #[.int .i64 t752, .slice Ao290 t753.length co290], .agg #[.int .i64 t694, .slice Ao160 t695.length co160]] (by rfl) rfl rfl (by (try simp only [List.map_toArray, List.map_cons, List.map_nil]); first | done | rfl | (simp only [List.length_drop, List.length_take]; rfl)) ?_
        with_reducible refine (laws_xPuzzle.calls kj152 t752 _ _ t753 t694 _ _ t695 true _ ?side1 ?side2 ?side3 ?side4 A268.out).mono ?_
        (case side1 => exact cU (Kd.R_reads' HO755.out).2.2)
        (case side2 => exact (Kd.R_reads' HO755.out).2.1)
        (case side3 => exact cU (Kd.R_reads' HO_702001.out).2.2)
        (case side4 => exact (Kd.R_reads' HO_702001.out).2.1)
        rintro e w293 ⟨rfl, hb⟩
        have HS9_ := (hb.cell (World.block_lt_of_cell? _ _ (hHeld.2.2.2.2.2.2.2.2.2.1))).trans (hHeld.2.2.2.2.2.2.2.2.2.1)
        have HS10_ := (hb.cell (World.block_lt_of_cell? _ _ (hHeld.2.2.2.2.2.2.2.2.2.2.1))).trans (hHeld.2.2.2.2.2.2.2.2.2.2.1)
        have HS11_ := (hb.cell (World.block_lt_of_cell? _ _ (hHeld.2.2.2.2.2.2.2.2.2.2.2))).trans (hHeld.2.2.2.2.2.2.2.2.2.2.2)
        refine ⟨_, rfl, ?_⟩
        have n0_ := rB HO_702001 hb
        have n1_ := rB HO_709001 hb
        have n2_ := rB HO_721001 hb
        have n3_ := rB HO_727001 hb
        have n4_ := rB HO755 hb
        have n5_ := bB BK701 hb
        have n6_ := bB BK702 hb
        have n7_ := bB BK708 hb
        have n8_ := bB BK720 hb
        have n9_ := bB BK726 hb
        have n10_ := bB BK757 hb
        have n11_ := hS HB hb
        clear HO_702001
        clear HO_709001
        clear HO_721001
        clear HO_727001
        clear HO755
        clear BK701
        clear BK702
        clear BK708
        clear BK720
        clear BK726
        clear BK757
        clear HB
        have HO_702001 := n0_
        have HO_709001 := n1_
        have HO_721001 := n2_
        have HO_727001 := n3_
        have HO755 := n4_
        have BK701 := n5_
        have BK702 := n6_
        have BK708 := n7_
        have BK720 := n8_
        have BK726 := n9_
        have BK757 := n10_
        have HB := n11_
        clear n0_ n1_ n2_ n3_ n4_ n5_ n6_ n7_ n8_ n9_ n10_ n11_
        (try clear hb)
        (try clear hb2)
        (try clear hk)
        (try clear hi)
        refine hK.out _ _ ⟨(blk_cell BK757.out 0).trans rfl, (blk_cell BK757.out 1).trans rfl, (blk_cell BK701.out 0).trans rfl, (blk_cell BK701.out 1).trans rfl, (blk_cell BK708.out 0).trans rfl, (blk_cell BK708.out 1).trans rfl, (blk_cell BK702.out 0).trans rfl, (blk_cell BK702.out 1).trans rfl, (blk_cell BK702.out 2).trans rfl, HS9_, HS10_, HS11_⟩ (fun hHeld => ?_)
        clear hK K
        refine norm_ (a' := ?_) ?_ ?_
        rotate_left
        ·show Act.put _ (some 401) _ = _
         simp only [Act.put, List.setIfInBounds_toArray, List.set_cons_zero, List.set_cons_succ, i64_w, i32_w]
         rfl
        refine pU 6 (some 402) (bn 19 127) ?_
        refine pU 7 (some 403) (bn 19 255) ?_
        refine pU 8 (some 404) (bn 19 511) ?_
        refine pU 9 (some 405) (bn 19 1023) ?_
        refine pU 11 (some 407) (bn 19 3071) ?_
        refine take_ (i := 10) (N := some 406) (v := ?_) (a' := ?_) (bn 19 4095) rfl rfl (take_ofW HT_.out HW_.out (by kernel_rfl)) (fun _ _ _ h => h) (Or.inl ⟨by rfl, ?_⟩) hHeld ?_ ?_
        rotate_left
        ·rintro w' ⟨s0, s1, s2, s3, s4, s5, s6, s7, s8, s9, s10, s11⟩
         (try simp only [Int.toNat_natCast] at s0 s1 s2 s3 s4 s5 s6 s7 s8 s9 s10 s11)
         go_simp
         with_reducible rfl
        rotate_left
        ·simp only [Act.put, List.setIfInBounds_toArray, List.set_cons_zero, List.set_cons_succ, i64_w, i32_w]
         rfl
        refine take_ (i := 12) (N := some 408) (v := ?_) (a' := ?_) (bn 19 8191) rfl rfl (take_ofW HT_.out HW_.out (by kernel_rfl)) (fun _ _ _ h => h) (Or.inl ⟨by rfl, ?_⟩) hHeld ?_ ?_
        rotate_left
        ·rintro w' ⟨s0, s1, s2, s3, s4, s5, s6, s7, s8, s9, s10, s11⟩
         (try simp only [Int.toNat_natCast] at s0 s1 s2 s3 s4 s5 s6 s7 s8 s9 s10 s11)
         go_simp
         with_reducible rfl
        rotate_left
        ·simp only [Act.put, List.setIfInBounds_toArray, List.set_cons_zero, List.set_cons_succ, i64_w, i32_w]
         rfl
        refine pU 13 (some 409) (bn 19 16383) ?_
        refine pU 14 (some 410) (bn 19 32767) ?_
        refine take_ (i := 15) (N := some 411) (v := ?_) (a' := ?_) (bn 19 65535) rfl rfl (take_ofW HT_.out HW_.out (by kernel_rfl)) (fun _ _ _ h => h) (Or.inl ⟨by rfl, ?_⟩) hHeld ?_ ?_
        rotate_left
        ·rintro w' ⟨s0, s1, s2, s3, s4, s5, s6, s7, s8, s9, s10, s11⟩
         (try simp only [Int.toNat_natCast] at s0 s1 s2 s3 s4 s5 s6 s7 s8 s9 s10 s11)
         go_simp
         with_reducible rfl
        rotate_left
        ·simp only [Act.put, List.setIfInBounds_toArray, List.set_cons_zero, List.set_cons_succ, i64_w, i32_w]
         rfl
        refine take_ (i := 16) (N := some 412) (v := ?_) (a' := ?_) (bn 19 131071) rfl rfl (take_ofW HT_.out HW_.out (by kernel_rfl)) (fun _ _ _ h => h) (Or.inl ⟨by rfl, ?_⟩) hHeld ?_ ?_
        rotate_left
        ·rintro w' ⟨s0, s1, s2, s3, s4, s5, s6, s7, s8, s9, s10, s11⟩
         (try simp only [Int.toNat_natCast] at s0 s1 s2 s3 s4 s5 s6 s7 s8 s9 s10 s11)
         go_simp
         with_reducible rfl
        rotate_left
        ·simp only [Act.put, List.setIfInBounds_toArray, List.set_cons_zero, List.set_cons_succ, i64_w, i32_w]
         rfl
        refine pU 17 (some 413) (bn 19 262143) ?_
        refine pU 18 (some 414) (bn 19 524287) ?_
        refine done_ (done_of HT_.out (by kernel_rfl)) ?_
        try go_wp2
        go_meet
        case rel => exact ⟨_, H', ⟨by have := HJ7.out; have := HJ25.out; have := HJ79.out; have := HJ118.out; have := HJ152.out; first | omega | exact Nat.le_refl _⟩, ⟨rU (Kd.R_mono HO_721001.out (fun _ hk => hk.2.2.1))⟩, ⟨rU (Kd.R_mono HO_727001.out (fun _ hk => hk.2.2.1))⟩, ⟨bU BK720.out⟩, ⟨bU BK726.out⟩, hV HB⟩
       have H' := aM H
       clear H
       go_wp2
       go_meet
       case rel => exact ⟨_, H', ⟨by have := HJ7.out; have := HJ25.out; have := HJ79.out; have := HJ118.out; have := HJ152.out; first | omega | exact Nat.le_refl _⟩, ⟨rU (Kd.R_mono HO_721001.out (fun _ hk => hk.2.2.1))⟩, ⟨rU (Kd.R_mono HO_727001.out (fun _ hk => hk.2.2.1))⟩, ⟨bU BK720.out⟩, ⟨bU BK726.out⟩, hV HB⟩
      case rest => as_aux_lemma =>
       clear HC264
       obtain ⟨kq, HA, HJ263, HO_721001, HO_727001, BK720, BK726, HB⟩ := hcut
       obtain rfl | ⟨kj263, rfl⟩ := fz kq
       ·exact zA HA
       have H := HA.out
       clear HA
       simp only [laws_FnStatesHidden.j7] at H
       have HC294 := aM H
       clear H
       go_upto_region 54 with (fail)
       go_cut [423] from 415 to 423 (fun v423 wc => ∃ (kq : Nat) (x423_293 : Bool), v423 = .bool x423_293 ∧ Aside0 (laws_FnStatesHidden.j8 kq t719 x423_293 t715 t716 t721 t722 = some r) ∧ Aside0 (kq ≤ kj263) ∧ Aside0 (Kd.R k40 40 wc w.heap.size (fun k_ => some k_ ≠ ((.slice Ao198 t722.length co198) : Value).ownBlock) (.slice Ao188 t716.length co188) t716) ∧ Aside0 (Kd.R k40 40 wc w.heap.size (fun k_ => some k_ ≠ ((.slice Ao188 t716.length co188) : Value).ownBlock) (.slice Ao198 t722.length co198) t722) ∧ Aside0 (wc.heap[gb720]? = some (.cells #[.int .i64 t715, (.slice Ao188 t716.length co188)] 28 (0, 0))) ∧ Aside0 (wc.heap[gb726]? = some (.cells #[.int .i64 t721, (.slice Ao198 t722.length co198)] 28 (0, 0))) ∧ Aside0 (Below w.heap.size w wc))
       case first => as_aux_lemma =>
        have H := HC294.out
        clear HC294
        refine iB H ?_ ?_ <;> clear H <;> rintro rfl H
        ·have H' := aM H
         clear H
         have hnb296 := NB720_726.out
         have hnc296 := NB726_720.out
         obtain ⟨hcz297_0, hcz297_1, hfz297_0, hfz297_1⟩ := hC2 BK720
         go_wp2
         go_meet
         case rel => exact ⟨_, ((t719 == (wrap64 ((t716.length : Int) - 1)))), rF, H', ⟨by have := HJ7.out; have := HJ25.out; have := HJ79.out; have := HJ118.out; have := HJ152.out; have := HJ263.out; first | omega | exact Nat.le_refl _⟩, ⟨rU HO_721001.out⟩, ⟨rU HO_727001.out⟩, ⟨bU BK720.out⟩, ⟨bU BK726.out⟩, hV HB⟩
        have H' := aM H
        clear H
        go_wp2
        go_meet
        case rel => exact ⟨_, (false), rF, H', ⟨by have := HJ7.out; have := HJ25.out; have := HJ79.out; have := HJ118.out; have := HJ152.out; have := HJ263.out; first | omega | exact Nat.le_refl _⟩, ⟨rU HO_721001.out⟩, ⟨rU HO_727001.out⟩, ⟨bU BK720.out⟩, ⟨bU BK726.out⟩, hV HB⟩
       case rest => as_aux_lemma =>
        clear HC294
        obtain ⟨kq, x423_293, rfl, HA, HJ293, HO_721001, HO_727001, BK720, BK726, HB⟩ := hcut
        obtain rfl | ⟨kj293, rfl⟩ := fz kq
        ·exact zA HA
        have H := HA.out
        clear HA
        simp only [laws_FnStatesHidden.j8] at H
        refine iB H ?_ ?_ <;> clear H <;> rintro rfl H
        ·refine iY H ?_; clear H; intro c299 H
         have c299b0 := dT c299
         clear c299
         refine iY H ?_; clear H; intro c300 H
         have c300b0 := dT c300
         clear c300
         replace H := bC H; obtain ⟨⟨t761, t762, t765⟩, A301, H⟩ := H; try dsimp only at H
         refine iBy H ?_; clear H; rintro rfl H
         replace H := bC H; obtain ⟨t767, A303, H⟩ := H
         obtain rfl := Option.some.inj H
         try go_wp2
         have n0_ := aM (Kd.R_drew HO_721001.out)
         have n1_ := aM (Kd.R_drew HO_727001.out)
         have n2_ := aM (blk_drew BK720.out)
         have n3_ := aM (blk_drew BK726.out)
         have n4_ := aM (below_drew1 HB.out)
         clear HO_721001
         clear HO_727001
         clear BK720
         clear BK726
         clear HB
         have HO_721001 := n0_
         have HO_727001 := n1_
         have BK720 := n2_
         have BK726 := n3_
         have HB := n4_
         clear n0_ n1_ n2_ n3_ n4_
         have p760 : 0 ≤ (t719 : Int) := oD
         have q760 : t719 < (t716.length : Int) := oD
         obtain ⟨ad760, e760, hx760_0, hx760_1, hx760_2⟩ := at_T40 (Kd.R_reads' HO_721001.out).2.2 t719 p760 q760
         cases e760
         replace p760 := eq_true p760
         replace q760 := eq_true q760
         refine start_ (n := 13) (S := fun w' => w'.cell? ⟨gb726, 0, none⟩ = some (.int .i64 t721) ∧ w'.cell? ⟨gb726, 1, none⟩ = some (.slice Ao198 t722.length co198) ∧ w'.cell? ⟨gb720, 0, none⟩ = some (.int .i64 t715) ∧ w'.cell? ⟨gb720, 1, none⟩ = some (.slice (some ad760) t716.length co188) ∧ w'.cell? (ad760.add ((t719).toNat * 3)) = some (.int .i64 ((rd_T40 t716 t719).f0)) ∧ w'.cell? ⟨(ad760.add ((t719).toNat * 3)).block, (ad760.add ((t719).toNat * 3)).off + 1, none⟩ = some (.int .i64 ((rd_T40 t716 t719).f1)) ∧ w'.cell? ⟨(ad760.add ((t719).toNat * 3)).block, (ad760.add ((t719).toNat * 3)).off + 2, none⟩ = some (.int .i64 ((rd_T40 t716 t719).f2))) (ds := []) (bn 13 0) (by kernel_rfl) rfl rfl ⟨(blk_cell BK726.out 0).trans rfl, (blk_cell BK726.out 1).trans rfl, (blk_cell BK720.out 0).trans rfl, (blk_cell BK720.out 1).trans rfl, hx760_0, hx760_1, hx760_2⟩ (fun hHeld => ?_); refine with_tabW laws_FnStatesHidden.tab55 laws_FnStatesHidden.bits55 (fun HT_ HW_ => ?_)
         generalize wc.drew = w304 at HO_721001 HO_727001 BK720 BK726 HB hx760_0 hx760_1 hx760_2 hHeld ⊢
         refine pU 1 (some 426) (bn 13 2) ?_
         refine pU 3 (some 428) (bn 13 10) ?_
         refine take_ (i := 0) (N := some 425) (v := ?_) (a' := ?_) (bn 13 11) rfl rfl (take_ofW HT_.out HW_.out (by kernel_rfl)) (fun _ _ _ h => h) (Or.inl ⟨by rfl, ?_⟩) hHeld ?_ ?_
         rotate_left
         ·rintro w' ⟨s0, s1, s2, s3, s4, s5, s6⟩
          go_simp
          with_reducible rfl
         rotate_left
         ·simp only [Act.put, List.setIfInBounds_toArray, List.set_cons_zero, List.set_cons_succ, i64_w, i32_w]
          rfl
         refine take_ (i := 2) (N := some 427) (v := ?_) (a' := ?_) (bn 13 15) rfl rfl (take_ofW HT_.out HW_.out (by kernel_rfl)) (fun _ _ _ h => h) (Or.inl ⟨by rfl, ?_⟩) hHeld ?_ ?_
         rotate_left
         ·rintro w' ⟨s0, s1, s2, s3, s4, s5, s6⟩
          go_simp
          with_reducible rfl
         rotate_left
         ·simp only [Act.put, List.setIfInBounds_toArray, List.set_cons_zero, List.set_cons_succ, i64_w, i32_w]
          rfl
         refine pU 4 (some 429) (bn 13 31) ?_
         refine take_ (i := 5) (N := some 430) (v := ?_) (a' := ?_) (bn 13 63) rfl rfl (take_ofW HT_.out HW_.out (by kernel_rfl)) (fun _ _ _ h => h) (Or.inl ⟨by rfl, ?_⟩) hHeld ?_ ?_
         rotate_left
         ·rintro w' ⟨s0, s1, s2, s3, s4, s5, s6⟩
          go_simp
          with_reducible rfl
         rotate_left
         ·simp only [Act.put, List.setIfInBounds_toArray, List.set_cons_zero, List.set_cons_succ, i64_w, i32_w]
          rfl
         refine join_ (σ := Value × Nat) 2 #[true, true, true, true, true, true, true, true, true, true, true, false, false] (fun s_ => [(431, .tuple #[.agg #[.int .i64 t761, s_.1], .bool true]), (63, .pointer (some ⟨s_.2, 0, none⟩)), (424, .tuple #[.agg #[.int .i64 t761, s_.1], .bool true]), (432, .agg #[.int .i64 t761, s_.1]), (433, .bool true)]) (fun s_ w' => (w'.cell? ⟨gb726, 0, none⟩ = some (.int .i64 t721) ∧ w'.cell? ⟨gb726, 1, none⟩ = some (.slice Ao198 t722.length co198) ∧ w'.cell? ⟨gb720, 0, none⟩ = some (.int .i64 t715) ∧ w'.cell? ⟨gb720, 1, none⟩ = some (.slice (some ad760) t716.length co188) ∧ w'.cell? (ad760.add ((t719).toNat * 3)) = some (.int .i64 ((rd_T40 t716 t719).f0)) ∧ w'.cell? ⟨(ad760.add ((t719).toNat * 3)).block, (ad760.add ((t719).toNat * 3)).off + 1, none⟩ = some (.int .i64 ((rd_T40 t716 t719).f1)) ∧ w'.cell? ⟨(ad760.add ((t719).toNat * 3)).block, (ad760.add ((t719).toNat * 3)).off + 2, none⟩ = some (.int .i64 ((rd_T40 t716 t719).f2))) ∧ (Kd.R k40 40 w' w.heap.size (fun k_ => some k_ ≠ (.slice (some ad760) t716.length co188 : Value).ownBlock ∧ some k_ ≠ (.slice Ao198 t722.length co198 : Value).ownBlock) s_.1 t762) ∧ (Kd.R k40 40 w' w.heap.size (fun k_ => some k_ ≠ (s_.1 : Value).ownBlock ∧ some k_ ≠ (.slice Ao198 t722.length co198 : Value).ownBlock) (.slice (some ad760) t716.length co188) t716) ∧ (Kd.R k40 40 w' w.heap.size (fun k_ => some k_ ≠ (s_.1 : Value).ownBlock ∧ some k_ ≠ (.slice (some ad760) t716.length co188 : Value).ownBlock) (.slice Ao198 t722.length co198) t722) ∧ (w'.heap[gb720]? = some (.cells #[.int .i64 t715, .slice (some ad760) t716.length co188] 28 (0, 0))) ∧ (w'.heap[gb726]? = some (.cells #[.int .i64 t721, .slice Ao198 t722.length co198] 28 (0, 0))) ∧ (w'.heap[s_.2]? = some (.cells #[.int .i64 0, .slice none 0 0] 28 (0, 0))) ∧ (w.heap.size ≤ s_.2) ∧ (w.heap.size ≤ s_.2) ∧ (gb720 ≠ s_.2) ∧ (s_.2 ≠ gb720) ∧ (gb726 ≠ s_.2) ∧ (s_.2 ≠ gb726) ∧ (Below w.heap.size w w')) ?_ ?_
         rotate_left
         ·intro hCont
          refine two_ (i := 6) (j := 10) (Ni := some 431) (Nj := some 63) #[true, true, true, true, true, true, true, false, false, false, false, false, false] #[true, true, true, true, true, true, false, false, false, false, true, false, false] rfl rfl rfl rfl (two_of HT_.out (by kernel_rfl)) (by decide) (by decide) (fun K hK => ?_) (fun K hK => ?_)
          ·skip
           refine goes_ Tryz.func24 (by kernel_rfl) rfl #[.agg #[.int .i64 t721, .slice Ao198 t722.length co198], .agg #[.int .i64 ((rd_T40 t716 t719).f0), .int .i64 ((rd_T40 t716 t719).f1), .int .i64 ((rd_T40 t716 t719).f2)]] (by rfl) rfl rfl (by (try simp only [List.map_toArray, List.map_cons, List.map_nil]); first | done | rfl | (simp only [List.length_drop, List.length_take]; rfl)) ?_
           with_reducible refine (impl_AddClue.calls kj293 t721 _ _ t722 ((rd_T40 t716 t719).f0) ((rd_T40 t716 t719).f1) ((rd_T40 t716 t719).f2) t761 t762 true _ ?side1 ?side2 A301.out).mono ?_
           (case side1 => exact cU (Kd.R_reads' HO_727001.out).2.2)
           (case side2 => exact (Kd.R_reads' HO_727001.out).2.1)
           rintro e w305 ⟨v763, rfl, ho0, hb⟩
           have HS4_ := (hb.cell (World.block_lt_of_cell? _ _ (hHeld.2.2.2.2.1))).trans (hHeld.2.2.2.2.1)
           have HS5_ := (hb.cell (World.block_lt_of_cell? _ _ (hHeld.2.2.2.2.2.1))).trans (hHeld.2.2.2.2.2.1)
           have HS6_ := (hb.cell (World.block_lt_of_cell? _ _ (hHeld.2.2.2.2.2.2))).trans (hHeld.2.2.2.2.2.2)
           refine ⟨_, rfl, ?_⟩
           have n0_ := aM (Kd.R_elder' (rU HO_721001.out) (Kd.R_base ho0) hb)
           have n1_ := aM (Kd.R_elder' (rU HO_727001.out) (Kd.R_base ho0) hb)
           have n2_ := aM (Kd.R_lower (Kd.R_new' (Kd.R_new' ho0 (Kd.R_lt (rU HO_721001.out))) (Kd.R_lt (rU HO_727001.out))) (below_size (bel HB)))
           have n3_ := bB BK720 hb
           have n4_ := bB BK726 hb
           have n5_ := hS HB hb
           clear HO_721001
           clear HO_727001
           clear BK720
           clear BK726
           clear HB
           have HO_721001 := n0_
           have HO_727001 := n1_
           have HO764 := n2_
           have BK720 := n3_
           have BK726 := n4_
           have HB := n5_
           clear n0_ n1_ n2_ n3_ n4_ n5_
           (try clear hb)
           (try clear hb2)
           (try clear hk)
           (try clear hi)
           (try clear ho0)
           refine hK.out _ _ ⟨(blk_cell BK726.out 0).trans rfl, (blk_cell BK726.out 1).trans rfl, (blk_cell BK720.out 0).trans rfl, (blk_cell BK720.out 1).trans rfl, HS4_, HS5_, HS6_⟩ (fun hHeld => ?_)
           clear hK K
           refine norm_ (a' := ?_) ?_ ?_
           rotate_left
           ·show Act.put _ (some 431) _ = _
            simp only [Act.put, List.setIfInBounds_toArray, List.set_cons_zero, List.set_cons_succ, i64_w, i32_w]
            rfl
           refine pU 7 (some 424) (bn 13 255) ?_
           refine pU 8 (some 432) (bn 13 511) ?_
           refine pU 9 (some 433) (bn 13 1023) ?_
           refine one_ (i := 10) (N := some 63) (bn 13 2047) rfl rfl (one_of HT_.out (by kernel_rfl)) (by decide) (fun K hK => ?_)
           refine box_step ?hg (N := 63) ?hd (cs := #[.int .i64 0, .slice none 0 0]) (t := 28) ?hr ?_; (case hd => rfl); (case hg => rfl); (case hr => first | (go_simp; done) | (go_simp; rfl))
           intro gb766 hg w306 hbox hb
           have HS4_ := (hb.cell (World.block_lt_of_cell? _ _ (hHeld.2.2.2.2.1))).trans (hHeld.2.2.2.2.1)
           have HS5_ := (hb.cell (World.block_lt_of_cell? _ _ (hHeld.2.2.2.2.2.1))).trans (hHeld.2.2.2.2.2.1)
           have HS6_ := (hb.cell (World.block_lt_of_cell? _ _ (hHeld.2.2.2.2.2.2))).trans (hHeld.2.2.2.2.2.2)
           have n0_ := rB HO_721001 hb
           have n1_ := rB HO_727001 hb
           have n2_ := rB HO764 hb
           have n3_ := bB BK720 hb
           have n4_ := bB BK726 hb
           have n5_ := hS HB hb
           have n6_ := aM hbox
           have n7_ := gE hg HB
           have n8_ := gE hg HB
           have n9_ := nbL hg BK720
           have n10_ := nbR hg BK720
           have n11_ := nbL hg BK726
           have n12_ := nbR hg BK726
           clear HO_721001
           clear HO_727001
           clear HO764
           clear BK720
           clear BK726
           clear HB
           have HO_721001 := n0_
           have HO_727001 := n1_
           have HO764 := n2_
           have BK720 := n3_
           have BK726 := n4_
           have HB := n5_
           have BK766 := n6_
           have GW766 := n7_
           have GE766 := n8_
           have NB720_766 := n9_
           have NB766_720 := n10_
           have NB726_766 := n11_
           have NB766_726 := n12_
           clear n0_ n1_ n2_ n3_ n4_ n5_ n6_ n7_ n8_ n9_ n10_ n11_ n12_
           clear hb hbox hg
           refine hK.out _ _ ⟨(blk_cell BK726.out 0).trans rfl, (blk_cell BK726.out 1).trans rfl, (blk_cell BK720.out 0).trans rfl, (blk_cell BK720.out 1).trans rfl, HS4_, HS5_, HS6_⟩ (fun hHeld => ?_)
           clear hK K
           refine norm_ (a' := ?_) ?_ ?_
           rotate_left
           ·show Act.put _ (some 63) _ = _
            simp only [Act.put, List.setIfInBounds_toArray, List.set_cons_zero, List.set_cons_succ, i64_w, i32_w]
            rfl
           exact norm_ (by simp only [putAll, Act.put, List.setIfInBounds_toArray, List.set_cons_zero, List.set_cons_succ]) (hCont (v763, gb766) _ ⟨hHeld, (rU (Kd.R_mono HO764.out (fun _ hk => ⟨hk.1.2, hk.2⟩))), (rU (Kd.R_mono HO_721001.out (fun _ hk => ⟨hk.2, hk.1⟩))), (rU (Kd.R_mono HO_727001.out (fun _ hk => ⟨hk.2, hk.1⟩))), (bU BK720.out), (bU BK726.out), (bU BK766.out), GW766.out, GE766.out, NB720_766.out, NB766_720.out, NB726_766.out, NB766_726.out, (bel HB)⟩)
          skip
          refine box_step ?hg (N := 63) ?hd (cs := #[.int .i64 0, .slice none 0 0]) (t := 28) ?hr ?_; (case hd => rfl); (case hg => rfl); (case hr => first | (go_simp; done) | (go_simp; rfl))
          intro gb766 hg w305 hbox hb
          have HS4_ := (hb.cell (World.block_lt_of_cell? _ _ (hHeld.2.2.2.2.1))).trans (hHeld.2.2.2.2.1)
          have HS5_ := (hb.cell (World.block_lt_of_cell? _ _ (hHeld.2.2.2.2.2.1))).trans (hHeld.2.2.2.2.2.1)
          have HS6_ := (hb.cell (World.block_lt_of_cell? _ _ (hHeld.2.2.2.2.2.2))).trans (hHeld.2.2.2.2.2.2)
          have n0_ := rB HO_721001 hb
          have n1_ := rB HO_727001 hb
          have n2_ := bB BK720 hb
          have n3_ := bB BK726 hb
          have n4_ := hS HB hb
          have n5_ := aM hbox
          have n6_ := gE hg HB
          have n7_ := gE hg HB
          have n8_ := nbL hg BK720
          have n9_ := nbR hg BK720
          have n10_ := nbL hg BK726
          have n11_ := nbR hg BK726
          clear HO_721001
          clear HO_727001
          clear BK720
          clear BK726
          clear HB
          have HO_721001 := n0_
          have HO_727001 := n1_
          have BK720 := n2_
          have BK726 := n3_
          have HB := n4_
          have BK766 := n5_
          have GW766 := n6_
          have GE766 := n7_
          have NB720_766 := n8_
          have NB766_720 := n9_
          have NB726_766 := n10_
          have NB766_726 := n11_
          clear n0_ n1_ n2_ n3_ n4_ n5_ n6_ n7_ n8_ n9_ n10_ n11_
          clear hb hbox hg
          refine hK.out _ _ ⟨(blk_cell BK726.out 0).trans rfl, (blk_cell BK726.out 1).trans rfl, (blk_cell BK720.out 0).trans rfl, (blk_cell BK720.out 1).trans rfl, HS4_, HS5_, HS6_⟩ (fun hHeld => ?_)
          clear hK K
          refine norm_ (a' := ?_) ?_ ?_
          rotate_left
          ·show Act.put _ (some 63) _ = _
           simp only [Act.put, List.setIfInBounds_toArray, List.set_cons_zero, List.set_cons_succ, i64_w, i32_w]
           rfl
          refine one_ (i := 6) (N := some 431) (bn 13 1151) rfl rfl (one_of HT_.out (by kernel_rfl)) (by decide) (fun K hK => ?_)
          refine goes_ Tryz.func24 (by kernel_rfl) rfl #[.agg #[.int .i64 t721, .slice Ao198 t722.length co198], .agg #[.int .i64 ((rd_T40 t716 t719).f0), .int .i64 ((rd_T40 t716 t719).f1), .int .i64 ((rd_T40 t716 t719).f2)]] (by rfl) rfl rfl (by (try simp only [List.map_toArray, List.map_cons, List.map_nil]); first | done | rfl | (simp only [List.length_drop, List.length_take]; rfl)) ?_
          with_reducible refine (impl_AddClue.calls kj293 t721 _ _ t722 ((rd_T40 t716 t719).f0) ((rd_T40 t716 t719).f1) ((rd_T40 t716 t719).f2) t761 t762 true _ ?side1 ?side2 A301.out).mono ?_
          (case side1 => exact cU (Kd.R_reads' HO_727001.out).2.2)
          (case side2 => exact (Kd.R_reads' HO_727001.out).2.1)
          rintro e w306 ⟨v763, rfl, ho0, hb⟩
          have HS4_ := (hb.cell (World.block_lt_of_cell? _ _ (hHeld.2.2.2.2.1))).trans (hHeld.2.2.2.2.1)
          have HS5_ := (hb.cell (World.block_lt_of_cell? _ _ (hHeld.2.2.2.2.2.1))).trans (hHeld.2.2.2.2.2.1)
          have HS6_ := (hb.cell (World.block_lt_of_cell? _ _ (hHeld.2.2.2.2.2.2))).trans (hHeld.2.2.2.2.2.2)
          refine ⟨_, rfl, ?_⟩
          have n0_ := aM (Kd.R_elder' (rU HO_721001.out) (Kd.R_base ho0) hb)
          have n1_ := aM (Kd.R_elder' (rU HO_727001.out) (Kd.R_base ho0) hb)
          have n2_ := aM (Kd.R_lower (Kd.R_new' (Kd.R_new' ho0 (Kd.R_lt (rU HO_721001.out))) (Kd.R_lt (rU HO_727001.out))) (below_size (bel HB)))
          have n3_ := bB BK720 hb
          have n4_ := bB BK726 hb
          have n5_ := bB BK766 hb
          have n6_ := hS HB hb
          clear HO_721001
          clear HO_727001
          clear BK720
          clear BK726
          clear BK766
          clear HB
          have HO_721001 := n0_
          have HO_727001 := n1_
          have HO764 := n2_
          have BK720 := n3_
          have BK726 := n4_
          have BK766 := n5_
          have HB := n6_
          clear n0_ n1_ n2_ n3_ n4_ n5_ n6_
          (try clear hb)
          (try clear hb2)
          (try clear hk)
          (try clear hi)
          (try clear ho0)
          refine hK.out _ _ ⟨(blk_cell BK726.out 0).trans rfl, (blk_cell BK726.out 1).trans rfl, (blk_cell BK720.out 0).trans rfl, (blk_cell BK720.out 1).trans rfl, HS4_, HS5_, HS6_⟩ (fun hHeld => ?_)
          clear hK K
          refine norm_ (a' := ?_) ?_ ?_
          rotate_left
          ·show Act.put _ (some 431) _ = _
           simp only [Act.put, List.setIfInBounds_toArray, List.set_cons_zero, List.set_cons_succ, i64_w, i32_w]
           rfl
          refine pU 7 (some 424) (bn 13 1279) ?_
          refine pU 8 (some 432) (bn 13 1535) ?_
          refine pU 9 (some 433) (bn 13 2047) ?_
          exact norm_ (by simp only [putAll, Act.put, List.setIfInBounds_toArray, List.set_cons_zero, List.set_cons_succ]) (hCont (v763, gb766) _ ⟨hHeld, (rU (Kd.R_mono HO764.out (fun _ hk => ⟨hk.1.2, hk.2⟩))), (rU (Kd.R_mono HO_721001.out (fun _ hk => ⟨hk.2, hk.1⟩))), (rU (Kd.R_mono HO_727001.out (fun _ hk => ⟨hk.2, hk.1⟩))), (bU BK720.out), (bU BK726.out), (bU BK766.out), GW766.out, GE766.out, NB720_766.out, NB766_720.out, NB726_766.out, NB766_726.out, (bel HB)⟩)
         rintro ⟨v763, gb766⟩ w307 ⟨hS_, h0_, h1_, h2_, h3_, h4_, h5_, h6_, h7_, h8_, h9_, h10_, h11_, h12_⟩
         have n0_ : Aside0 (Kd.R k40 40 w307 w.heap.size (fun k_ => some k_ ≠ (.slice (some ad760) t716.length co188 : Value).ownBlock ∧ some k_ ≠ (.slice Ao198 t722.length co198 : Value).ownBlock) v763 t762) := ⟨h0_⟩
         have n1_ : Aside0 (Kd.R k40 40 w307 w.heap.size (fun k_ => some k_ ≠ (v763 : Value).ownBlock ∧ some k_ ≠ (.slice Ao198 t722.length co198 : Value).ownBlock) (.slice (some ad760) t716.length co188) t716) := ⟨h1_⟩
         have n2_ : Aside0 (Kd.R k40 40 w307 w.heap.size (fun k_ => some k_ ≠ (v763 : Value).ownBlock ∧ some k_ ≠ (.slice (some ad760) t716.length co188 : Value).ownBlock) (.slice Ao198 t722.length co198) t722) := ⟨h2_⟩
         have n3_ : Aside0 (w307.heap[gb720]? = some (.cells #[.int .i64 t715, .slice (some ad760) t716.length co188] 28 (0, 0))) := ⟨h3_⟩
         have n4_ : Aside0 (w307.heap[gb726]? = some (.cells #[.int .i64 t721, .slice Ao198 t722.length co198] 28 (0, 0))) := ⟨h4_⟩
         have n5_ : Aside0 (w307.heap[gb766]? = some (.cells #[.int .i64 0, .slice none 0 0] 28 (0, 0))) := ⟨h5_⟩
         have n6_ : Ge w gb766 := ⟨h6_⟩
         have n7_ : Ge w gb766 := ⟨h7_⟩
         have n8_ : Ap gb720 gb766 := ⟨h8_⟩
         have n9_ : Ap gb766 gb720 := ⟨h9_⟩
         have n10_ : Ap gb726 gb766 := ⟨h10_⟩
         have n11_ : Ap gb766 gb726 := ⟨h11_⟩
         have n12_ : Aside0 (Below w.heap.size w w307) := ⟨h12_⟩
         clear HO_721001
         clear HO_727001
         clear BK720
         clear BK726
         clear HB
         clear h0_ h1_ h2_ h3_ h4_ h5_ h6_ h7_ h8_ h9_ h10_ h11_ h12_
         have HO764 := n0_
         have HO_721001 := n1_
         have HO_727001 := n2_
         have BK720 := n3_
         have BK726 := n4_
         have BK766 := n5_
         have GW766 := n6_
         have GE766 := n7_
         have NB720_766 := n8_
         have NB766_720 := n9_
         have NB726_766 := n10_
         have NB766_726 := n11_
         have HB := n12_
         clear n0_ n1_ n2_ n3_ n4_ n5_ n6_ n7_ n8_ n9_ n10_ n11_ n12_
         have hHeld : w307.cell? ⟨gb726, 0, none⟩ = some (.int .i64 t721) ∧ w307.cell? ⟨gb726, 1, none⟩ = some (.slice Ao198 t722.length co198) ∧ w307.cell? ⟨gb720, 0, none⟩ = some (.int .i64 t715) ∧ w307.cell? ⟨gb720, 1, none⟩ = some (.slice (some ad760) t716.length co188) ∧ w307.cell? (ad760.add ((t719).toNat * 3)) = some (.int .i64 ((rd_T40 t716 t719).f0)) ∧ w307.cell? ⟨(ad760.add ((t719).toNat * 3)).block, (ad760.add ((t719).toNat * 3)).off + 1, none⟩ = some (.int .i64 ((rd_T40 t716 t719).f1)) ∧ w307.cell? ⟨(ad760.add ((t719).toNat * 3)).block, (ad760.add ((t719).toNat * 3)).off + 2, none⟩ = some (.int .i64 ((rd_T40 t716 t719).f2)) := hS_
         obtain ⟨Ao309, co309, eo309⟩ := Kd.R_slice HO764.out
         (first | subst eo309 | (injection eo309 with f1_ f2_ f3_; have f4_ := f1_.symm; have f5_ := f3_.symm; clear f1_ f2_ f3_; subst f4_; subst f5_))
         refine norm_ (a' := ?_) ?_ ?_
         rotate_left
         ·simp only [putAll, Act.put, List.setIfInBounds_toArray, List.set_cons_zero, List.set_cons_succ]
          rfl
         refine one_ (i := 11) (N := none) (bn 13 4095) rfl rfl (one_of HT_.out (by kernel_rfl)) (by decide) (fun K hK => ?_)
         have hs308 : w307.cell? ⟨gb766, 0, none⟩ = some (.int .i64 0) := (blk_cell BK766.out 0).trans rfl
         have hfs308 := blk_frozen BK766.out 0
         have hns308_0 := NB720_766.out
         have hns308_1 := NB726_766.out
         have hms308_0 := NB766_720.out
         have hms308_1 := NB766_726.out
         have hs310 : w307.cell? ⟨gb766, 1, none⟩ = some (.slice none 0 0) := (blk_cell BK766.out 1).trans rfl
         have hfs310 := blk_frozen BK766.out 1
         have hns310_0 := NB720_766.out
         have hns310_1 := NB726_766.out
         have hms310_0 := NB766_720.out
         have hms310_1 := NB766_726.out
         refine skip_ (w1 := ?_) (by rfl) rfl ?_ ?_
         rotate_left
         ·go_simp
          rfl
         refine hK.out _ _ ⟨((cell_far (p := ⟨gb766, _, none⟩) NB726_766.out _).trans (((cell_far (p := ⟨gb766, _, none⟩) NB726_766.out _).trans (hHeld.1)))), ((cell_far (p := ⟨gb766, _, none⟩) NB726_766.out _).trans (((cell_far (p := ⟨gb766, _, none⟩) NB726_766.out _).trans (hHeld.2.1)))), ((cell_far (p := ⟨gb766, _, none⟩) NB720_766.out _).trans (((cell_far (p := ⟨gb766, _, none⟩) NB720_766.out _).trans (hHeld.2.2.1)))), ((cell_far (p := ⟨gb766, _, none⟩) NB720_766.out _).trans (((cell_far (p := ⟨gb766, _, none⟩) NB720_766.out _).trans (hHeld.2.2.2.1)))), ((cell_far (p := ⟨gb766, _, none⟩) (by first | exact Kd.own_blk (Kd.R_ne HO_721001.out BK766.out (by decide)) | (rw [add_block]; exact Kd.own_blk (Kd.R_ne HO_721001.out BK766.out (by decide))) | (show (Addr.add _ _).block ≠ _; rw [add_block]; exact Kd.own_blk (Kd.R_ne HO_721001.out BK766.out (by decide))) | (dsimp only; exact Kd.own_blk (Kd.R_ne HO_721001.out BK766.out (by decide)))) _).trans (((cell_far (p := ⟨gb766, _, none⟩) (by first | exact Kd.own_blk (Kd.R_ne HO_721001.out BK766.out (by decide)) | (rw [add_block]; exact Kd.own_blk (Kd.R_ne HO_721001.out BK766.out (by decide))) | (show (Addr.add _ _).block ≠ _; rw [add_block]; exact Kd.own_blk (Kd.R_ne HO_721001.out BK766.out (by decide))) | (dsimp only; exact Kd.own_blk (Kd.R_ne HO_721001.out BK766.out (by decide)))) _).trans (hHeld.2.2.2.2.1)))), ((cell_far (p := ⟨gb766, _, none⟩) (by first | exact Kd.own_blk (Kd.R_ne HO_721001.out BK766.out (by decide)) | (rw [add_block]; exact Kd.own_blk (Kd.R_ne HO_721001.out BK766.out (by decide))) | (show (Addr.add _ _).block ≠ _; rw [add_block]; exact Kd.own_blk (Kd.R_ne HO_721001.out BK766.out (by decide))) | (dsimp only; exact Kd.own_blk (Kd.R_ne HO_721001.out BK766.out (by decide)))) _).trans (((cell_far (p := ⟨gb766, _, none⟩) (by first | exact Kd.own_blk (Kd.R_ne HO_721001.out BK766.out (by decide)) | (rw [add_block]; exact Kd.own_blk (Kd.R_ne HO_721001.out BK766.out (by decide))) | (show (Addr.add _ _).block ≠ _; rw [add_block]; exact Kd.own_blk (Kd.R_ne HO_721001.out BK766.out (by decide))) | (dsimp only; exact Kd.own_blk (Kd.R_ne HO_721001.out BK766.out (by decide)))) _).trans (hHeld.2.2.2.2.2.1)))), ((cell_far (p := ⟨gb766, _, none⟩) (by first | exact Kd.own_blk (Kd.R_ne HO_721001.out BK766.out (by decide)) | (rw [add_block]; exact Kd.own_blk (Kd.R_ne HO_721001.out BK766.out (by decide))) | (show (Addr.add _ _).block ≠ _; rw [add_block]; exact Kd.own_blk (Kd.R_ne HO_721001.out BK766.out (by decide))) | (dsimp only; exact Kd.own_blk (Kd.R_ne HO_721001.out BK766.out (by decide)))) _).trans (((cell_far (p := ⟨gb766, _, none⟩) (by first | exact Kd.own_blk (Kd.R_ne HO_721001.out BK766.out (by decide)) | (rw [add_block]; exact Kd.own_blk (Kd.R_ne HO_721001.out BK766.out (by decide))) | (show (Addr.add _ _).block ≠ _; rw [add_block]; exact Kd.own_blk (Kd.R_ne HO_721001.out BK766.out (by decide))) | (dsimp only; exact Kd.own_blk (Kd.R_ne HO_721001.out BK766.out (by decide)))) _).trans (hHeld.2.2.2.2.2.2))))⟩ (fun hHeld => ?_)
         clear hK K
         refine pU 12 (some 64) (bn 13 8191) ?_
         refine done_ (done_of HT_.out (by kernel_rfl)) ?_
         have hnb311 := NB766_720.out
         have hnc311 := NB720_766.out
         have hnb312 := NB766_726.out
         have hnc312 := NB726_766.out
         obtain ⟨hcz313_0, hcz313_1, hfz313_0, hfz313_1⟩ := hC2 BK766
         have hnb314 := NB720_726.out
         have hnc314 := NB726_720.out
         obtain ⟨hcz315_0, hcz315_1, hfz315_0, hfz315_1⟩ := hC2 BK720
         try go_wp2_with (first | (go_at_call 8; (with_reducible refine (laws_xPuzzle.calls kj293 t761 _ _ t762 t715 _ _ t716 t767 _ ?side1 ((Kd.R_reads' HO764.out).2.1) ?side3 ((Kd.R_reads' HO_721001.out).2.1) A303.out).mono ?_); (case side1 => refine (Kd.R_reads' (e := 40) (base := w.heap.size) (ok := fun k_ => (some k_ ≠ (.slice (some ad760) t716.length co188 : Value).ownBlock ∧ some k_ ≠ (.slice Ao198 t722.length co198 : Value).ownBlock)) (n := t762.length) (c := co309) ?_).2.2; exact (rQ2 HO764 BK766)); (case side3 => refine (Kd.R_reads' (e := 40) (base := w.heap.size) (ok := fun k_ => (some k_ ≠ (.slice Ao309 t762.length co309 : Value).ownBlock ∧ some k_ ≠ (.slice Ao198 t722.length co198 : Value).ownBlock)) (n := t716.length) (c := co188) ?_).2.2; exact (rQ2 HO_721001 BK766)); rintro e w316 ⟨rfl, hb⟩; replace HO_721001 := aM (Kd.R_below (rQ2 HO_721001 BK766) hb); replace HO_727001 := aM (Kd.R_below (rQ2 HO_727001 BK766) hb); replace HO764 := aM (Kd.R_below (rQ2 HO764 BK766) hb); replace BK720 := bK BK720 hb; replace BK726 := bK BK726 hb; replace BK766 := aM (blk_below (g := gb766) (o := .cells #[.int .i64 t761, .slice Ao309 t762.length co309] 28 (0, 0)) (bP2 BK766) hb); replace HB := hS HB hb; clear hb))
         go_ret
         exact ⟨eW, bel HB⟩
        obtain rfl := Option.some.inj H
        go_wp2
        go_ret
        exact ⟨eW, bel HB⟩

/-- THE ONE PURE STATEMENT of laws_FnStatesHidden: yours. -/
def laws_FnStatesHidden.Pure : Prop := ∀ (l0 : List Int) (l1 : List Int), l0.length ≤ maxLen → l0.length * 1 ≤ 140737488351232 → (∀ x ∈ l0, (Lit.int .u8 x).wf = true) → l1.length ≤ maxLen → l1.length * 1 ≤ 140737488351232 → (∀ x ∈ l1, (Lit.int .u8 x).wf = true) → ∃ k, laws_FnStatesHidden.f k l0 l1 = some true
end Go.Proofs.YtpdkjehplfgjcabGreatDoor.PHid
