-- squeezed (sq3.py); PRINTED by drive.py (a program of this session's, over the kit's print.py; wip/tools/drive.py). Lean checks it.
import Derived.Test.YtpdkjehplfgjcabGreatDoorQPHidx0
import Derived.Test.YtpdkjehplfgjcabGreatDoorQPHidx2
import Derived.Test.YtpdkjehplfgjcabGreatDoorQPHidx11
import Derived.Test.YtpdkjehplfgjcabGreatDoorQSq
namespace Go.Proofs.YtpdkjehplfgjcabGreatDoor.PHid
open Go.RowKit Go.Proofs.YtpdkjehplfgjcabGreatDoorW.PrintWords Go.Proofs.YtpdkjehplfgjcabGreatDoorW.PrintLast Go.Proofs.YtpdkjehplfgjcabGreatDoorW.PrintMore
attribute [local go_sem] max2_int min2_int max_two min_two max_three min_three max_four min_four   -- for this text's walks alone
set_option linter.unusedVariables false
set_option linter.unusedSimpArgs false

/-! ### spec_l1Cur_puzzle: function 55 -/
def spec_l1Cur_puzzle.l0 : Nat → List Int → Int → Int → Int → List (S40) → Option (Int × (List (S40)) × Int × Int)
 | 0, _, _, _, _, _ => none
 | k + 1, x1000, x1001, x1002, x325000, x325001 => (spec_l1Cur_pick.f x1000 x1001 x1002 2).bind fun bt342 => (if (x325001.length : Int) < (wrap64 (6 + bt342.1)) then (if x325001.length < 5864062014805 then (spec_l1Cur_puzzle.l0 k x1000 bt342.2.1 bt342.2.2 x325000 (x325001 ++ [(⟨4, 0, 1⟩ : S40)])) else (none)) else (some (x325000, x325001, bt342.2.1, bt342.2.2)))
def spec_l1Cur_puzzle.f (k : Nat) (s0_0 : List Int) (s0_1 : Int) (s0_2 : Int) : Option (Int × (List (S40)) × Int × Int) := (spec_l1Cur_surePuzzle.f k s0_0 s0_1 s0_2 5).bind fun bt318 => ((spec_l1Cur_pick.f s0_0 bt318.2.2.1 bt318.2.2.2 12).bind fun bt325 => (if bt325.1 = 0 then ((spec_l1Cur_among.f s0_0 bt325.2.1 bt325.2.2 (([(-1), 0, 1, 7, 8, 4611686018427387904] : List Int))).bind fun bt331 => (some (bt331.1, bt318.2.1, bt331.2.1, bt331.2.2))) else (if bt325.1 = 1 then ((spec_l1Cur_clue.f k s0_0 bt325.2.1 bt325.2.2).bind fun bt334 => (if bt318.2.1.length < 5864062014805 then (some (bt318.1, (bt318.2.1 ++ [(⟨bt334.1, bt334.2.1, bt334.2.2.1⟩ : S40)]), bt334.2.2.2.1, bt334.2.2.2.2)) else (none))) else (if bt325.1 = 2 then (spec_l1Cur_puzzle.l0 k s0_0 bt325.2.1 bt325.2.2 bt318.1 bt318.2.1) else (some (bt318.1, bt318.2.1, bt325.2.1, bt325.2.2))))))
theorem spec_l1Cur_puzzle.mono_l : ∀ k, Mo (spec_l1Cur_puzzle.l0 k) (spec_l1Cur_puzzle.l0 (k + 1))
 | 0 => m0
 | k + 1 => by
  have ih0 := spec_l1Cur_puzzle.mono_l k
  (repeat refine mE fun _ => ?_) <;> first | (unfold spec_l1Cur_puzzle.l0; exact mG)
instance spec_l1Cur_puzzle.mI (k : Nat) : Mo (spec_l1Cur_puzzle.f k) (spec_l1Cur_puzzle.f (k + 1)) := by
 have ih0 := spec_l1Cur_puzzle.mono_l k
 (repeat refine mE fun _ => ?_); unfold spec_l1Cur_puzzle.f; exact mG
theorem spec_l1Cur_puzzle.mono : ∀ a0 a1 a2 k, LeO (spec_l1Cur_puzzle.f k a0 a1 a2) (spec_l1Cur_puzzle.f (k + 1) a0 a1 a2) := fun a0 a1 a2 k => (spec_l1Cur_puzzle.mI k).out a0 a1 a2
def spec_l1Cur_puzzle.T6 : Bool × List (List Nat × List Nat) := (true, [([], []), ([0], [0]), ([], []), ([2], [2]), ([3], [3]), ([1, 4, 3], [1, 4]), ([0, 1, 2, 3, 4, 5], []), ([6, 5, 5, 0, 1, 2, 3, 4, 5], [5, 6])])
def spec_l1Cur_puzzle.B6 : List Nat := [0, 1, 0, 4, 12, 31, 63, 127]
theorem spec_l1Cur_puzzle.tab6 : rtab .any (opsOf Tryz.f55 6) = spec_l1Cur_puzzle.T6 := by kernel_rfl
theorem spec_l1Cur_puzzle.bits6 : waitsOk spec_l1Cur_puzzle.T6.2 spec_l1Cur_puzzle.B6 = true := by kernel_rfl
set_option maxHeartbeats 8000000 in
set_option maxRecDepth 100000 in
theorem spec_l1Cur_puzzle.calls (k : Nat) (g : Nat) (s0_0 : List Int) (s0_1 : Int) (s0_2 : Int) (r1 : Int) (r2 : List (S40)) (r3 : Int) (r4 : Int) (w0 w : World) (hI : IsS66 w0 w g s0_0 s0_1 s0_2) (hB : Below w0.heap.size w0 w) (h : spec_l1Cur_puzzle.f k s0_0 s0_1 s0_2 = some (r1, r2, r3, r4)) :
  Calls Tryz.prog 55 #[.pointer (some ⟨g, 0, none⟩)] w fun e w' => ∃ v1_ : Value, e = .returned (.agg #[.int .i64 r1, v1_]) ∧ Kd.R k40 40 w' w.heap.size (fun _ => True) v1_ r2 ∧ IsS66 w0 w' g s0_0 r3 r4 ∧ Below w0.heap.size w0 w' ∧ KeepBut w w' g none := by
 have hu28 := Tryz.underlying28
 have hu40 := Tryz.underlying40
 have HI0 := sS66 hI
 have GI_HI0 := IsS66.geI HI0
 have HK := aM (KeepBut.refl w g none)
 have HL := aM hB.size
 clear hI
 have HW0 := aM hB.size
 have HB := aM hB
 clear hB
 have H := h
 clear h; unfold spec_l1Cur_puzzle.f at H
 replace H := bC H; obtain ⟨⟨t318, t319, t322, t323⟩, A2, H⟩ := H; try dsimp only at H
 replace H := bC H; obtain ⟨⟨t325, t326, t327⟩, A3, H⟩ := H; try dsimp only at H
 refine iI H ?_ ?_ <;> clear H <;> intro c4 H
 ·have c4b0 := qT c4
  have c4b1 := nF c4
  clear c4
  obtain ⟨y328, Ny328⟩ := yN (([(-1), 0, 1, 7, 8, 4611686018427387904] : List Int) : List Int); rw [← Ny328.out] at H
  replace H := bC H; obtain ⟨⟨t331, t332, t333⟩, A5, H⟩ := H; try dsimp only at H
  simp only [Option.some.injEq, Prod.mk.injEq] at H
  obtain ⟨rfl, rfl, rfl, rfl⟩ := H
  go_enter Tryz.func55, Tryz.ntmps55
  go_wp2_with (first | (refine bX (N := 2) rfl (cs := #[.int .i64 0, .slice none 0 0]) (t := 28) ?_; intro gb317 hg w6 BK317 hb; have GW317 := gK hg HK; have GE317 := gW HW0 (gK hg HK); have NB0_317 := (nbI hg : Ap g gb317); have NB317_0 := (nbJ hg : Ap gb317 g); replace HI0 := bS66 g hb; replace HK := kT HK (KeepBut.of_below hb g none); replace HB := hS HB hb; clear hb hg) | ((with_reducible refine gG 81 (some 5) rfl rfl ?_); refine gD Tryz.func81 (spec_l1Cur_surePuzzle.calls k g s0_0 s0_1 s0_2 5 t318 t319 t322 t323 w0 _ tS66 (bel HB) A2.out) ?_; rintro w7 v320 ⟨ho0, hi, hb, hk⟩; have HO321 := rK ho0 HK; replace BK317 := aM (KeepBut.blk hk (g' := gb317) (o := .cells #[.int .i64 0, .slice none 0 0] 28 (0, 0)) (bU BK317.out) NB317_0.out (by simp)); replace HK := kT HK hk; replace HB := aM (hb); replace HI0 := sS66 (hi); clear hb hk hi ho0) | (refine bX (N := 3) rfl (cs := #[.int .i64 0, .slice none 0 0]) (t := 28) ?_; intro gb324 hg w8 BK324 hb; have GW324 := gK hg HK; have GE324 := gW HW0 (gK hg HK); have NB317_324 := nbL hg BK317; have NB324_317 := nbR hg BK317; have NB0_324 := (nbI hg : Ap g gb324); have NB324_0 := (nbJ hg : Ap gb324 g); replace HO321 := rB HO321 hb; replace HI0 := bS66 g hb; replace BK317 := bB BK317 hb; replace HK := kT HK (KeepBut.of_below hb g none); replace HB := hS HB hb; clear hb hg; have hnb9 := NB324_317.out; have hnc9 := NB317_324.out; have hnb10 := NB324_0.out; have hnc10 := NB0_324.out; obtain ⟨hcz11_0, hcz11_1, hfz11_0, hfz11_1⟩ := hC2 BK324; obtain ⟨Ao12, co12, eo12⟩ := Kd.R_slice HO321.out; subst eo12) | ((with_reducible refine gG 38 (some 7) rfl rfl ?_); refine gC Tryz.func38 (spec_l1Cur_pick.calls g s0_0 t322 t323 12 t325 t326 t327 w0 _ tS66 (bel HB) A3.out) ?_; rintro w13 ⟨hi, hb, hk⟩; replace BK317 := aM (KeepBut.blk hk (g' := gb317) (o := .cells #[.int .i64 0, .slice none 0 0] 28 (0, 0)) (kU BK317.out) NB317_0.out (by simp)); replace HO321 := aM (Kd.R_mono (Kd.R_keep (IsS66.apart (show IsS66 w0 _ g s0_0 t322 t323 from tS66) (rQ2 HO321 BK324) (by decide)) hk (fun _ h => h.2)) (fun _ h => h.1)); replace BK324 := aM (KeepBut.blk hk (g' := gb324) (o := .cells #[.int .i64 t318, .slice Ao12 t319.length co12] 28 (0, 0)) (bP2 BK324) NB324_0.out (by simp)); replace HK := kT HK hk; replace HB := aM (hb); replace HI0 := sS66 (hi); clear hb hk hi) | ((with_reducible refine gate_dst (N := 11) rfl ?_); refine Kd.R_lit (Kd.int .i64) _ 3 ?hg (N := 11) ?hd (xs := ([(-1), 0, 1, 7, 8, 4611686018427387904] : List Int)) (inner := [.int .i64 (-1), .int .i64 0, .int .i64 1, .int .i64 7, .int .i64 8, .int .i64 4611686018427387904]) (ok := fun _ => True) (okp := fun _ => True) ?hr ?hp (fun _ hk => hk) trivial (Below.refl _ _) (Nat.le_refl _) (by simp) ?_; (case hd => rfl); (case hg => rfl); (case hr => first | (go_simp; done) | (go_simp; rfl)); (case hp => exact (Reps.one (show Kd.M (Kd.int .i64) _ _ _ (-1) [.int .i64 (-1)] from rfl) (Reps.one (show Kd.M (Kd.int .i64) _ _ _ 0 [.int .i64 0] from rfl) (Reps.one (show Kd.M (Kd.int .i64) _ _ _ 1 [.int .i64 1] from rfl) (Reps.one (show Kd.M (Kd.int .i64) _ _ _ 7 [.int .i64 7] from rfl) (Reps.one (show Kd.M (Kd.int .i64) _ _ _ 8 [.int .i64 8] from rfl) (Reps.one (show Kd.M (Kd.int .i64) _ _ _ 4611686018427387904 [.int .i64 4611686018427387904] from rfl) (Reps.none _ _)))))))); intro v329 w14 ho15 hb hg_ hnew_; clear hg_ hnew_; (first | rw [← Ny328.out] at ho15 | (simp only [Int.reduceToNat] at ho15; rw [← Ny328.out] at ho15)); have HO330 := rK ho15 HK; replace HO321 := rB HO321 hb; replace HI0 := bS66 g hb; replace BK317 := bB BK317 hb; replace BK324 := bB BK324 hb; replace HK := kT HK (KeepBut.of_below hb g none); replace HB := hS HB hb; clear hb ho15; obtain ⟨Ao16, co16, eo16⟩ := Kd.R_slice HO330.out; subst eo16) | ((with_reducible refine gG 36 (some 12) rfl rfl ?_); refine gC Tryz.func36 (spec_l1Cur_among.calls g s0_0 t326 t327 _ _ y328 t331 t332 t333 w0 _ tS66 (bel HB) (cU ((Kd.R_reads' HO330.out).2.2)) ((Kd.R_reads' HO330.out).2.1) (far_slice (IsS66.own_ne HI0.out HO330.out (by decide))) A5.out) ?_; rintro w17 ⟨hi, hb, hk⟩; replace BK317 := aM (KeepBut.blk hk (g' := gb317) (o := .cells #[.int .i64 0, .slice none 0 0] 28 (0, 0)) (bU BK317.out) NB317_0.out (by simp)); replace HO321 := aM (Kd.R_mono (Kd.R_keep (IsS66.apart (show IsS66 w0 _ g s0_0 t326 t327 from tS66) (rU HO321.out) (by decide)) hk (fun _ h => h.2)) (fun _ h => h.1)); replace BK324 := aM (KeepBut.blk hk (g' := gb324) (o := .cells #[.int .i64 t318, .slice Ao12 t319.length co12] 28 (0, 0)) (bU BK324.out) NB324_0.out (by simp)); replace HO330 := aM (Kd.R_mono (Kd.R_keep (IsS66.apart (show IsS66 w0 _ g s0_0 t326 t327 from tS66) (rU HO330.out) (by decide)) hk (fun _ h => h.2)) (fun _ h => h.1)); replace HK := kT HK hk; replace HB := aM (hb); replace HI0 := sS66 (hi); clear hb hk hi; obtain ⟨hcz18_0, hcz18_1, hfz18_0, hfz18_1⟩ := hC2 BK324; have hnb19 := NB317_0.out; have hnc19 := NB0_317.out; obtain ⟨hcz20_0, hcz20_1, hfz20_0, hfz20_1⟩ := hC2 BK317))
  refine bodyPost_ret (results_cell_row rfl _ _ gb317 28 #[.int .i64 t331, .slice Ao12 t319.length co12] (0, 0) _ rfl (by (with_reducible repeat (first | refine blk_drewN ?_ _ | refine blk_drew ?_ | refine blk_alloc ?_ _)); refine blk_put (cs := #[.int .i64 t331, .slice none 0 0]) ?_ 1 _ rfl; (with_reducible repeat (first | refine blk_drewN ?_ _ | refine blk_drew ?_ | refine blk_alloc ?_ _)); refine blk_put (cs := #[.int .i64 0, .slice none 0 0]) ?_ 0 _ rfl; (with_reducible repeat (first | refine blk_drewN ?_ _ | refine blk_drew ?_ | refine blk_alloc ?_ _)); refine blk_far ?_ NB317_324.out _; (with_reducible repeat (first | refine blk_drewN ?_ _ | refine blk_drew ?_ | refine blk_alloc ?_ _)); exact BK317.out) Tryz.underlying28 rfl (by kernel_rfl)) rfl ?_
  exact ⟨_, eW, rU (Kd.R_mono (Kd.R_far (p := ⟨gb317, 1, none⟩) (Kd.R_far (p := ⟨gb317, 0, none⟩) (Kd.R_far (p := ⟨gb324, 0, none⟩) (Kd.R_types (Kd.R_types HO321.out BK324.out (by decide)) BK317.out (by decide)) (fun _ hk => hk.1.2) (.int .i64 t331)) (fun _ hk => hk.2) (.int .i64 t331)) (fun _ hk => hk.2) (.slice Ao12 t319.length co12)) (fun _ hk => trivial)), tS66, bel HB, kp HK⟩
 have c4b0 := qF c4
 have c4b1 := nT c4
 refine iI H ?_ ?_ <;> clear H <;> intro c21 H
 ·have c21b0 := qT c21
  have c21b1 := nF c21
  clear c21
  replace H := bC H; obtain ⟨⟨t334, t335, t336, t337, t338⟩, A22, H⟩ := H; try dsimp only at H
  refine iY H ?_; clear H; intro c23 H
  have LMc23 := aM c23
  clear c23
  obtain ⟨y339, Ny339⟩ := yN (t319 ++ [(⟨t334, t335, t336⟩ : S40)] : List (S40)); rw [← Ny339.out] at H
  simp only [Option.some.injEq, Prod.mk.injEq] at H
  obtain ⟨rfl, rfl, rfl, rfl⟩ := H
  go_enter Tryz.func55, Tryz.ntmps55
  try go_wp2_with (first | (refine bX (N := 2) rfl (cs := #[.int .i64 0, .slice none 0 0]) (t := 28) ?_; intro gb317 hg w24 BK317 hb; have GW317 := gK hg HK; have GE317 := gW HW0 (gK hg HK); have NB0_317 := (nbI hg : Ap g gb317); have NB317_0 := (nbJ hg : Ap gb317 g); replace HI0 := bS66 g hb; replace HK := kT HK (KeepBut.of_below hb g none); replace HB := hS HB hb; clear hb hg) | ((with_reducible refine gG 81 (some 5) rfl rfl ?_); refine gD Tryz.func81 (spec_l1Cur_surePuzzle.calls k g s0_0 s0_1 s0_2 5 t318 t319 t322 t323 w0 _ tS66 (bel HB) A2.out) ?_; rintro w25 v320 ⟨ho0, hi, hb, hk⟩; have HO321 := rK ho0 HK; replace BK317 := aM (KeepBut.blk hk (g' := gb317) (o := .cells #[.int .i64 0, .slice none 0 0] 28 (0, 0)) (bU BK317.out) NB317_0.out (by simp)); replace HK := kT HK hk; replace HB := aM (hb); replace HI0 := sS66 (hi); clear hb hk hi ho0) | (refine bX (N := 3) rfl (cs := #[.int .i64 0, .slice none 0 0]) (t := 28) ?_; intro gb324 hg w26 BK324 hb; have GW324 := gK hg HK; have GE324 := gW HW0 (gK hg HK); have NB317_324 := nbL hg BK317; have NB324_317 := nbR hg BK317; have NB0_324 := (nbI hg : Ap g gb324); have NB324_0 := (nbJ hg : Ap gb324 g); replace HO321 := rB HO321 hb; replace HI0 := bS66 g hb; replace BK317 := bB BK317 hb; replace HK := kT HK (KeepBut.of_below hb g none); replace HB := hS HB hb; clear hb hg; have hnb27 := NB324_317.out; have hnc27 := NB317_324.out; have hnb28 := NB324_0.out; have hnc28 := NB0_324.out; obtain ⟨hcz29_0, hcz29_1, hfz29_0, hfz29_1⟩ := hC2 BK324; obtain ⟨Ao30, co30, eo30⟩ := Kd.R_slice HO321.out; subst eo30) | ((with_reducible refine gG 38 (some 7) rfl rfl ?_); refine gC Tryz.func38 (spec_l1Cur_pick.calls g s0_0 t322 t323 12 t325 t326 t327 w0 _ tS66 (bel HB) A3.out) ?_; rintro w31 ⟨hi, hb, hk⟩; replace BK317 := aM (KeepBut.blk hk (g' := gb317) (o := .cells #[.int .i64 0, .slice none 0 0] 28 (0, 0)) (kU BK317.out) NB317_0.out (by simp)); replace HO321 := aM (Kd.R_mono (Kd.R_keep (IsS66.apart (show IsS66 w0 _ g s0_0 t322 t323 from tS66) (rQ2 HO321 BK324) (by decide)) hk (fun _ h => h.2)) (fun _ h => h.1)); replace BK324 := aM (KeepBut.blk hk (g' := gb324) (o := .cells #[.int .i64 t318, .slice Ao30 t319.length co30] 28 (0, 0)) (bP2 BK324) NB324_0.out (by simp)); replace HK := kT HK hk; replace HB := aM (hb); replace HI0 := sS66 (hi); clear hb hk hi))
  have n0_ := aM (Kd.R_drew HO321.out)
  have n1_ := aM (blk_drew BK317.out)
  have n2_ := aM (blk_drew BK324.out)
  have n3_ := sS66 (IsS66.drew HI0.out)
  have n4_ := aM (keep_drew HK.out)
  have n5_ := aM (below_drew1 HB.out)
  clear HO321
  clear BK317
  clear BK324
  clear HI0
  clear HK
  clear HB
  have HO321 := n0_
  have BK317 := n1_
  have BK324 := n2_
  have HI0 := n3_
  have HK := n4_
  have HB := n5_
  clear n0_ n1_ n2_ n3_ n4_ n5_
  refine start_ (n := 8) (S := fun w' => w'.cell? ⟨gb324, 0, none⟩ = some (.int .i64 t318) ∧ w'.cell? ⟨gb324, 1, none⟩ = some (.slice Ao30 t319.length co30)) (ds := [7]) (bn 8 0) (by kernel_rfl) rfl rfl ⟨(blk_cell BK324.out 0).trans rfl, (blk_cell BK324.out 1).trans rfl⟩ (fun hHeld => ?_); refine with_tabW spec_l1Cur_puzzle.tab6 spec_l1Cur_puzzle.bits6 (fun HT_ HW_ => ?_)
  generalize w31.drew = w32 at HO321 BK317 BK324 HI0 HK HB hHeld ⊢
  refine pU 0 (some 16) (bn 8 1) ?_
  refine pU 2 (some 18) (bn 8 5) ?_
  refine take_ (i := 1) (N := some 17) (v := ?_) (a' := ?_) (bn 8 7) rfl rfl (take_ofW HT_.out HW_.out (by kernel_rfl)) (fun _ _ _ h => h) (Or.inl ⟨by rfl, ?_⟩) hHeld ?_ ?_
  rotate_left
  ·rintro w' ⟨s0, s1⟩
   go_simp
   with_reducible rfl
  rotate_left
  ·simp only [Act.put, List.setIfInBounds_toArray, List.set_cons_zero, List.set_cons_succ, i64_w, i32_w]
   rfl
  refine one_ (i := 3) (N := some 19) (bn 8 15) rfl rfl (one_of HT_.out (by kernel_rfl)) (by decide) (fun K hK => ?_)
  refine goes_ Tryz.func61 (by kernel_rfl) rfl #[.pointer (some ⟨g, 0, none⟩)] (by rfl) rfl rfl (by (try simp only [List.map_toArray, List.map_cons, List.map_nil]); first | done | rfl | (simp only [List.length_drop, List.length_take]; rfl)) ?_
  with_reducible refine (spec_l1Cur_clue.calls k g s0_0 t326 t327 t334 t335 t336 t337 t338 w0 _ ?side1 ?side2 A22.out).mono ?_
  (case side1 => exact tS66)
  (case side2 => exact bel HB)
  rintro e w33 ⟨rfl, hi, hb, hk⟩
  refine ⟨_, rfl, ?_⟩
  have n0_ := aM (KeepBut.blk hk (g' := gb317) (o := .cells #[.int .i64 0, .slice none 0 0] 28 (0, 0)) (bU BK317.out) NB317_0.out (by simp))
  have n1_ := aM (Kd.R_mono (Kd.R_keep (IsS66.apart (show IsS66 w0 _ g s0_0 t326 t327 from tS66) (rU HO321.out) (by decide)) hk (fun _ h => h.2)) (fun _ h => h.1))
  have n2_ := aM (KeepBut.blk hk (g' := gb324) (o := .cells #[.int .i64 t318, .slice Ao30 t319.length co30] 28 (0, 0)) (bU BK324.out) NB324_0.out (by simp))
  have n3_ := kT HK hk
  have n4_ := aM (hb)
  have n5_ := sS66 (hi)
  clear BK317
  clear HO321
  clear BK324
  clear HK
  clear HB
  clear HI0
  have BK317 := n0_
  have HO321 := n1_
  have BK324 := n2_
  have HK := n3_
  have HB := n4_
  have HI0 := n5_
  clear n0_ n1_ n2_ n3_ n4_ n5_
  (try clear hb)
  (try clear hb2)
  (try clear hk)
  (try clear hi)
  refine hK.out _ _ ⟨(blk_cell BK324.out 0).trans rfl, (blk_cell BK324.out 1).trans rfl⟩ (fun hHeld => ?_)
  clear hK K
  refine norm_ (a' := ?_) ?_ ?_
  rotate_left
  ·show Act.put _ (some 19) _ = _
   simp only [Act.put, List.setIfInBounds_toArray, List.set_cons_zero, List.set_cons_succ, i64_w, i32_w]
   rfl
  refine one_ (i := 4) (N := some 20) (bn 8 31) rfl rfl (one_of HT_.out (by kernel_rfl)) (by decide) (fun K hK => ?_)
  refine value_ (w1 := ?_) (v := ?_) (by rfl) rfl ?_ ?_
  rotate_left 2
  ·go_simp
   constructor
   ·rfl
   rfl
  refine hK.out _ _ ⟨(blk_cell (blk_alloc BK324.out _) 0).trans rfl, (blk_cell (blk_alloc BK324.out _) 1).trans rfl⟩ (fun hHeld => ?_)
  clear hK K
  refine norm_ (a' := ?_) ?_ ?_
  rotate_left
  ·show Act.put _ (some 20) _ = _
   simp only [Act.put, List.setIfInBounds_toArray, List.set_cons_zero, List.set_cons_succ, i64_w, i32_w]
   rfl
  refine one_ (i := 5) (N := some 21) (bn 8 63) rfl rfl (one_of HT_.out (by kernel_rfl)) (by decide) (fun K hK => ?_)
  refine Kd.R_append_step k40 w.heap.size (by rfl) (.tmp 17) (.tmp 20) 26 40 (.agg #[(.int .i64 0), (.int .i64 0), (.int .i64 0)]) 24 rfl Tryz.underlying26 info40 rfl (by decide) (by omega) (.slice Ao30 t319.length co30) t319 (⟨t334, t335, t336⟩ : S40) [.int .i64 t334, .int .i64 t335, .int .i64 t336] (fun _ => True) (fun _ => False) rfl rfl ?aP (fun _ hk => hk.elim) ?aF ?aO (Below.refl _ _) ?aS ?aL ?_
  (case aP => exact k40_mkM _ _ _ (⟨t334, t335, t336⟩ : S40))
  (case aF => exact (fun _ _ => trivial))
  (case aO => exact (rU HO321.out))
  (case aS => exact (keep_size (w := w) (g := g) (row := none) (kp HK)))
  (case aL => have := LMc23.out; omega)
  intro v340 w34 ho hb hg hat
  rw [← Ny339.out] at ho
  have n0_ := sS66 (IsS66.grown (tS66) hg (IsS66.own_ne HI0.out HO321.out (by decide)))
  have n1_ := aM (blk_grown (g := gb317) (o := .cells #[.int .i64 0, .slice none 0 0] 28 (0, 0)) (bU BK317.out) hg (Kd.R_ne HO321.out BK317.out (by decide)))
  have n2_ := aM (blk_grown (g := gb324) (o := .cells #[.int .i64 t318, .slice Ao30 t319.length co30] 28 (0, 0)) (bU BK324.out) hg (Kd.R_ne HO321.out BK324.out (by decide)))
  have n3_ := aM (below_weaken (bel HB) HL.out hb)
  have n4_ := aM (KeepBut.trans (kp HK) (KeepBut.of_grown hg g) (Kd.R_base2 HO321.out))
  have n5_ := aM (ho)
  clear HI0
  clear BK317
  clear BK324
  clear HB
  clear HK
  clear HO321
  have HI0 := n0_
  have BK317 := n1_
  have BK324 := n2_
  have HB := n3_
  have HK := n4_
  have HO341 := n5_
  clear n0_ n1_ n2_ n3_ n4_ n5_
  clear ho hb hg hat
  obtain ⟨Ao35, co35, eo35⟩ := Kd.R_slice HO341.out
  (first | subst eo35 | (injection eo35 with f1_ f2_ f3_; have f4_ := f1_.symm; have f5_ := f3_.symm; clear f1_ f2_ f3_; subst f4_; subst f5_))
  refine hK.out _ _ ⟨(blk_cell BK324.out 0).trans rfl, (blk_cell BK324.out 1).trans rfl⟩ (fun hHeld => ?_)
  clear hK K
  refine norm_ (a' := ?_) ?_ ?_
  rotate_left
  ·show Act.put _ (some 21) _ = _
   simp only [Act.put, List.setIfInBounds_toArray, List.set_cons_zero, List.set_cons_succ, i64_w, i32_w]
   rfl
  refine pU 6 (some 22) (bn 8 127) ?_
  refine last_ (i := 7) (N := none) #[true, true, true, true, true, true, true, true] rfl rfl (one_of HT_.out (by kernel_rfl)) (by decide) (fun K hK => ?_)
  have hs36 : w34.cell? ⟨gb324, 1, none⟩ = some (.slice Ao30 t319.length co30) := (blk_cell BK324.out 1).trans rfl
  have hfs36 := blk_frozen BK324.out 1
  have hns36_0 := NB317_324.out
  have hms36_0 := NB324_317.out
  refine skip_ (w1 := ?_) (by rfl) rfl ?_ ?_
  rotate_left
  ·go_simp
   rfl
  refine hK.out _ _ ?_
  clear hK K
  refine done_ (done_of HT_.out (by kernel_rfl)) ?_
  obtain ⟨hcz37_0, hcz37_1, hfz37_0, hfz37_1⟩ := hC2 BK324
  have hnb38 := NB317_0.out
  have hnc38 := NB0_317.out
  obtain ⟨hcz39_0, hcz39_1, hfz39_0, hfz39_1⟩ := hC2 BK317
  try go_wp2
  refine bodyPost_ret (results_cell_row rfl _ _ gb317 28 #[.int .i64 t318, .slice Ao35 y339.length co35] (0, 0) _ rfl (by (with_reducible repeat (first | refine blk_drewN ?_ _ | refine blk_drew ?_ | refine blk_alloc ?_ _)); refine blk_put (cs := #[.int .i64 t318, .slice none 0 0]) ?_ 1 _ rfl; (with_reducible repeat (first | refine blk_drewN ?_ _ | refine blk_drew ?_ | refine blk_alloc ?_ _)); refine blk_put (cs := #[.int .i64 0, .slice none 0 0]) ?_ 0 _ rfl; (with_reducible repeat (first | refine blk_drewN ?_ _ | refine blk_drew ?_ | refine blk_alloc ?_ _)); refine blk_far ?_ NB317_324.out _; (with_reducible repeat (first | refine blk_drewN ?_ _ | refine blk_drew ?_ | refine blk_alloc ?_ _)); exact BK317.out) Tryz.underlying28 rfl (by kernel_rfl)) rfl ?_
  exact ⟨_, eW, rU (Kd.R_mono (Kd.R_far (p := ⟨gb317, 1, none⟩) (Kd.R_far (p := ⟨gb317, 0, none⟩) (Kd.R_far (p := ⟨gb324, 1, none⟩) (Kd.R_types (Kd.R_types HO341.out BK324.out (by decide)) BK317.out (by decide)) (fun _ hk => hk.1.2) (.slice Ao35 y339.length co35)) (fun _ hk => hk.2) (.int .i64 t318)) (fun _ hk => hk.2) (.slice Ao35 y339.length co35)) (fun _ hk => trivial)), tS66, bel HB, kp HK⟩
 have c21b0 := qF c21
 have c21b1 := nT c21
 refine iI H ?_ ?_ <;> clear H <;> intro c40 H
 ·have c40b0 := qT c40
  have c40b1 := nF c40
  clear c40
  have H' := aM H
  clear H
  go_enter Tryz.func55, Tryz.ntmps55
  go_wp2_with (first | (refine bX (N := 2) rfl (cs := #[.int .i64 0, .slice none 0 0]) (t := 28) ?_; intro gb317 hg w41 BK317 hb; have GW317 := gK hg HK; have GE317 := gW HW0 (gK hg HK); have NB0_317 := (nbI hg : Ap g gb317); have NB317_0 := (nbJ hg : Ap gb317 g); replace HI0 := bS66 g hb; replace HK := kT HK (KeepBut.of_below hb g none); replace HB := hS HB hb; clear hb hg) | ((with_reducible refine gG 81 (some 5) rfl rfl ?_); refine gD Tryz.func81 (spec_l1Cur_surePuzzle.calls k g s0_0 s0_1 s0_2 5 t318 t319 t322 t323 w0 _ tS66 (bel HB) A2.out) ?_; rintro w42 v320 ⟨ho0, hi, hb, hk⟩; have HO321 := rK ho0 HK; replace BK317 := aM (KeepBut.blk hk (g' := gb317) (o := .cells #[.int .i64 0, .slice none 0 0] 28 (0, 0)) (bU BK317.out) NB317_0.out (by simp)); replace HK := kT HK hk; replace HB := aM (hb); replace HI0 := sS66 (hi); clear hb hk hi ho0) | (refine bX (N := 3) rfl (cs := #[.int .i64 0, .slice none 0 0]) (t := 28) ?_; intro gb324 hg w43 BK324 hb; have GW324 := gK hg HK; have GE324 := gW HW0 (gK hg HK); have NB317_324 := nbL hg BK317; have NB324_317 := nbR hg BK317; have NB0_324 := (nbI hg : Ap g gb324); have NB324_0 := (nbJ hg : Ap gb324 g); replace HO321 := rB HO321 hb; replace HI0 := bS66 g hb; replace BK317 := bB BK317 hb; replace HK := kT HK (KeepBut.of_below hb g none); replace HB := hS HB hb; clear hb hg; have hnb44 := NB324_317.out; have hnc44 := NB317_324.out; have hnb45 := NB324_0.out; have hnc45 := NB0_324.out; obtain ⟨hcz46_0, hcz46_1, hfz46_0, hfz46_1⟩ := hC2 BK324; obtain ⟨Ao47, co47, eo47⟩ := Kd.R_slice HO321.out; subst eo47) | ((with_reducible refine gG 38 (some 7) rfl rfl ?_); refine gC Tryz.func38 (spec_l1Cur_pick.calls g s0_0 t322 t323 12 t325 t326 t327 w0 _ tS66 (bel HB) A3.out) ?_; rintro w48 ⟨hi, hb, hk⟩; replace BK317 := aM (KeepBut.blk hk (g' := gb317) (o := .cells #[.int .i64 0, .slice none 0 0] 28 (0, 0)) (kU BK317.out) NB317_0.out (by simp)); replace HO321 := aM (Kd.R_mono (Kd.R_keep (IsS66.apart (show IsS66 w0 _ g s0_0 t322 t323 from tS66) (rQ2 HO321 BK324) (by decide)) hk (fun _ h => h.2)) (fun _ h => h.1)); replace BK324 := aM (KeepBut.blk hk (g' := gb324) (o := .cells #[.int .i64 t318, .slice Ao47 t319.length co47] 28 (0, 0)) (bP2 BK324) NB324_0.out (by simp)); replace HK := kT HK hk; replace HB := aM (hb); replace HI0 := sS66 (hi); clear hb hk hi))
  go_loopg [] k (fun kq w' => ∃ (x1001_1 : Int) (x1002_1 : Int) (x325001_1 : List (S40)) (u325001 : Value), Aside0 (spec_l1Cur_puzzle.l0 kq s0_0 x1001_1 x1002_1 t318 x325001_1 = some (r1, r2, r3, r4)) ∧ Aside0 (kq ≤ k) ∧ Aside0 (Kd.R k40 40 w' w.heap.size (fun _ => True) u325001 x325001_1) ∧ Aside0 (w'.heap[gb317]? = some (.cells #[.int .i64 0, (.slice none 0 0)] 28 (0, 0))) ∧ Aside0 (w'.heap[gb324]? = some (.cells #[.int .i64 t318, u325001] 28 (0, 0))) ∧ IsC66 w0 w' g s0_0 x1001_1 x1002_1 ∧ Aside0 (KeepBut w w' g none) ∧ Aside0 (Below w0.heap.size w0 w'))
  case atStart => exact ⟨(t326), (t327), (t319), (.slice Ao47 t319.length co47), H', kR, ⟨rU HO321.out⟩, ⟨bU BK317.out⟩, ⟨bU BK324.out⟩, ⟨tS66⟩, kV HK, hV HB⟩
  case round =>
   clear H'
   try clear c4;try clear c4b0;try clear c4b1;try clear c21;try clear c21b0;try clear c21b1;try clear c40b0;try clear c40b1;try clear hcz46_0;try clear hcz46_1;try clear hfz46_0;try clear hfz46_1
   obtain ⟨x1001_1, x1002_1, x325001_1, u325001, HA, HK1, HO_325001, BK317, BK324, HI0, HK, HB⟩ := hrel
   obtain rfl | ⟨k1, rfl⟩ := fz gk
   ·exact zA HA
   have H := HA.out
   clear HA
   simp only [spec_l1Cur_puzzle.l0] at H
   replace H := bC H; obtain ⟨⟨t342, t343, t344⟩, A49, H⟩ := H; try dsimp only at H
   refine iI H ?_ ?_ <;> clear H <;> intro c50 H
   ·have c50b0 := dT c50
    clear c50
    refine iY H ?_; clear H; intro c51 H
    have LMc51 := aM c51
    clear c51
    obtain ⟨y345, Ny345⟩ := yN (x325001_1 ++ [(⟨4, 0, 1⟩ : S40)] : List (S40)); rw [← Ny345.out] at H
    have H' := aM H
    clear H
    try go_wp2
    have n0_ := aM (Kd.R_drew HO_325001.out)
    have n1_ := aM (blk_drew BK317.out)
    have n2_ := aM (blk_drew BK324.out)
    have n3_ := sS66 (IsS66.drew HI0.out)
    have n4_ := aM (keep_drew HK.out)
    have n5_ := aM (below_drew1 HB.out)
    clear HO_325001
    clear BK317
    clear BK324
    clear HI0
    clear HK
    clear HB
    have HO_325001 := n0_
    have BK317 := n1_
    have BK324 := n2_
    have HI0 := n3_
    have HK := n4_
    have HB := n5_
    clear n0_ n1_ n2_ n3_ n4_ n5_
    obtain ⟨Ao53, co53, eo53⟩ := Kd.R_slice HO_325001.out
    (first | subst eo53 | (injection eo53 with f1_ f2_ f3_; have f4_ := f1_.symm; have f5_ := f3_.symm; clear f1_ f2_ f3_; subst f4_; subst f5_))
    refine start_ (n := 7) (S := fun w' => w'.cell? ⟨gb324, 0, none⟩ = some (.int .i64 t318) ∧ w'.cell? ⟨gb324, 1, none⟩ = some (.slice Ao53 x325001_1.length co53)) (ds := []) (bn 7 0) (by kernel_rfl) rfl rfl ⟨(blk_cell BK324.out 0).trans rfl, (blk_cell BK324.out 1).trans rfl⟩ (fun hHeld => ?_)
    generalize wr.drew = w52 at HO_325001 BK317 BK324 HI0 HK HB hHeld ⊢
    refine pure_ (i := 0) (N := some 25) (v := ?_) (a' := ?_) (bn 7 1) rfl rfl (by kernel_rfl) (fun _ _ _ h => h) (Or.inl ⟨by rfl, ?_⟩) ?_ ?_
    rotate_left
    ·intro w'
     go_simp
     with_reducible rfl
    rotate_left
    ·simp only [Act.put, List.setIfInBounds_toArray, List.set_cons_zero, List.set_cons_succ, i64_w, i32_w]
     rfl
    refine pure_ (i := 3) (N := some 28) (v := ?_) (a' := ?_) (bn 7 9) rfl rfl (by kernel_rfl) (fun _ _ _ h => h) (Or.inl ⟨by rfl, ?_⟩) ?_ ?_
    rotate_left
    ·intro w'
     go_simp
     with_reducible rfl
    rotate_left
    ·simp only [Act.put, List.setIfInBounds_toArray, List.set_cons_zero, List.set_cons_succ, i64_w, i32_w]
     rfl
    refine take_ (i := 1) (N := some 26) (v := ?_) (a' := ?_) (bn 7 11) rfl rfl (by kernel_rfl) (fun _ _ _ h => h) (Or.inl ⟨by rfl, ?_⟩) hHeld ?_ ?_
    rotate_left
    ·rintro w' ⟨s0, s1⟩
     go_simp
     with_reducible rfl
    rotate_left
    ·simp only [Act.put, List.setIfInBounds_toArray, List.set_cons_zero, List.set_cons_succ, i64_w, i32_w]
     rfl
    refine pure_ (i := 2) (N := some 27) (v := ?_) (a' := ?_) (bn 7 15) rfl rfl (by kernel_rfl) (fun _ _ _ h => h) (Or.inl ⟨by rfl, ?_⟩) ?_ ?_
    rotate_left
    ·intro w'
     go_simp
     with_reducible rfl
    rotate_left
    ·simp only [Act.put, List.setIfInBounds_toArray, List.set_cons_zero, List.set_cons_succ, i64_w, i32_w]
     rfl
    refine one_ (i := 4) (N := some 29) (bn 7 31) rfl rfl (by kernel_rfl) (by decide) (fun K hK => ?_)
    refine goes_ Tryz.func38 (by kernel_rfl) rfl #[.pointer (some ⟨g, 0, none⟩), .int .i64 2] (by rfl) rfl rfl (by (try simp only [List.map_toArray, List.map_cons, List.map_nil]); first | done | rfl | (simp only [List.length_drop, List.length_take]; rfl)) ?_
    with_reducible refine (spec_l1Cur_pick.calls g s0_0 x1001_1 x1002_1 2 t342 t343 t344 w0 _ ?side1 ?side2 A49.out).mono ?_
    (case side1 => exact tS66)
    (case side2 => exact bel HB)
    rintro e w54 ⟨rfl, hi, hb, hk⟩
    refine ⟨_, rfl, ?_⟩
    have n0_ := aM (Kd.R_mono (Kd.R_keep (IsS66.apart (show IsS66 w0 _ g s0_0 x1001_1 x1002_1 from tS66) (rU HO_325001.out) (by decide)) hk (fun _ h => h.2)) (fun _ h => h.1))
    have n1_ := aM (KeepBut.blk hk (g' := gb317) (o := .cells #[.int .i64 0, .slice none 0 0] 28 (0, 0)) (bU BK317.out) NB317_0.out (by simp))
    have n2_ := aM (KeepBut.blk hk (g' := gb324) (o := .cells #[.int .i64 t318, .slice Ao53 x325001_1.length co53] 28 (0, 0)) (bU BK324.out) NB324_0.out (by simp))
    have n3_ := kT HK hk
    have n4_ := aM (hb)
    have n5_ := sS66 (hi)
    clear HO_325001
    clear BK317
    clear BK324
    clear HK
    clear HB
    clear HI0
    have HO_325001 := n0_
    have BK317 := n1_
    have BK324 := n2_
    have HK := n3_
    have HB := n4_
    have HI0 := n5_
    clear n0_ n1_ n2_ n3_ n4_ n5_
    (try clear hb)
    (try clear hb2)
    (try clear hk)
    (try clear hi)
    refine hK.out _ _ ⟨(blk_cell BK324.out 0).trans rfl, (blk_cell BK324.out 1).trans rfl⟩ (fun hHeld => ?_)
    clear hK K
    refine norm_ (a' := ?_) ?_ ?_
    rotate_left
    ·show Act.put _ (some 29) _ = _
     simp only [Act.put, List.setIfInBounds_toArray, List.set_cons_zero, List.set_cons_succ, i64_w, i32_w]
     rfl
    refine pure_ (i := 5) (N := some 30) (v := ?_) (a' := ?_) (bn 7 63) rfl rfl (by kernel_rfl) (fun _ _ _ h => h) (Or.inl ⟨by rfl, ?_⟩) ?_ ?_
    rotate_left
    ·intro w'
     go_simp
     with_reducible rfl
    rotate_left
    ·simp only [Act.put, List.setIfInBounds_toArray, List.set_cons_zero, List.set_cons_succ, i64_w, i32_w]
     rfl
    refine pure_ (i := 6) (N := some 31) (v := ?_) (a' := ?_) (bn 7 127) rfl rfl (by kernel_rfl) (fun _ _ _ h => h) (Or.inl ⟨by rfl, ?_⟩) ?_ ?_
    rotate_left
    ·intro w'
     go_simp
     with_reducible rfl
    rotate_left
    ·simp only [Act.put, List.setIfInBounds_toArray, List.set_cons_zero, List.set_cons_succ, i64_w, i32_w]
     rfl
    refine done_ (by kernel_rfl) ?_
    have hnb55 := NB324_317.out
    have hnc55 := NB317_324.out
    have hnb56 := NB324_0.out
    have hnc56 := NB0_324.out
    obtain ⟨hcz57_0, hcz57_1, hfz57_0, hfz57_1⟩ := hC2 BK324
    try go_wp2_with (first | ((with_reducible refine gate_builtin (b := .append) (xs := #[.tmp 33, .tmp 35]) rfl ?_); at_builtin; refine Kd.R_append k40 w.heap.size rfl (.tmp 33) (.tmp 35) 26 40 (.agg #[(.int .i64 0), (.int .i64 0), (.int .i64 0)]) 24 rfl Tryz.underlying26 info40 rfl (by decide) (by omega) (.slice Ao53 x325001_1.length co53) x325001_1 (⟨4, 0, 1⟩ : S40) [.int .i64 4, .int .i64 0, .int .i64 1] (fun _ => True) (fun _ => False) rfl rfl ?aP (fun _ hk => hk.elim) ?aF ?aO (Below.refl _ _) ?aS ?aL ?_; (case aP => exact k40_mkM _ _ _ (⟨4, 0, 1⟩ : S40)); (case aF => exact (fun _ _ => trivial)); (case aO => exact (rU HO_325001.out)); (case aS => exact (keep_size (w := w) (g := g) (row := none) (kp HK))); (case aL => have := LMc51.out; omega); intro v346 w58 ho hb hg hat; rw [← Ny345.out] at ho; have HO347 := aM (ho); replace BK317 := aM (blk_grown (g := gb317) (o := .cells #[.int .i64 0, .slice none 0 0] 28 (0, 0)) (bU BK317.out) hg (Kd.R_ne HO_325001.out BK317.out (by decide))); replace BK324 := aM (blk_grown (g := gb324) (o := .cells #[.int .i64 t318, .slice Ao53 x325001_1.length co53] 28 (0, 0)) (bU BK324.out) hg (Kd.R_ne HO_325001.out BK324.out (by decide))); replace HI0 := sS66 (IsS66.grown (tS66 (g := g)) hg (IsS66.own_ne HI0.out HO_325001.out (by decide))); replace HB := aM (below_weaken (bel HB) HL.out hb); replace HK := aM (KeepBut.trans (kp HK) (KeepBut.of_grown hg g) (Kd.R_base2 HO_325001.out)); clear HO_325001; clear ho hb hg hat; obtain ⟨Ao59, co59, eo59⟩ := Kd.R_slice HO347.out; subst eo59; obtain ⟨hcz60_0, hcz60_1, hfz60_0, hfz60_1⟩ := hC2 BK324))
    go_roundg k1
    case measure => have := HK1.out; omega
    case rel => exact ⟨(t343), (t344), (y345), (.slice Ao59 y345.length co59), H', ⟨by have := HK1.out; omega⟩, ⟨rU (Kd.R_mono (Kd.R_far (p := ⟨gb324, 1, none⟩) (Kd.R_types HO347.out BK324.out (by decide)) (fun _ hk => hk.2) (.slice Ao59 y345.length co59)) (fun _ hk => trivial))⟩, ⟨by (with_reducible repeat (first | refine blk_drewN ?_ _ | refine blk_drew ?_ | refine blk_alloc ?_ _)); refine blk_far ?_ NB317_324.out _; (with_reducible repeat (first | refine blk_drewN ?_ _ | refine blk_drew ?_ | refine blk_alloc ?_ _)); exact BK317.out⟩, ⟨by (with_reducible repeat (first | refine blk_drewN ?_ _ | refine blk_drew ?_ | refine blk_alloc ?_ _)); refine blk_put (cs := #[.int .i64 t318, .slice Ao53 x325001_1.length co53]) ?_ 1 _ rfl; (with_reducible repeat (first | refine blk_drewN ?_ _ | refine blk_drew ?_ | refine blk_alloc ?_ _)); exact BK324.out⟩, ⟨tS66⟩, kV HK, hV HB⟩
   have c50b0 := dF c50
   clear c50
   simp only [Option.some.injEq, Prod.mk.injEq] at H
   obtain ⟨rfl, rfl, rfl, rfl⟩ := H
   try go_wp2
   have n0_ := aM (Kd.R_drew HO_325001.out)
   have n1_ := aM (blk_drew BK317.out)
   have n2_ := aM (blk_drew BK324.out)
   have n3_ := sS66 (IsS66.drew HI0.out)
   have n4_ := aM (keep_drew HK.out)
   have n5_ := aM (below_drew1 HB.out)
   clear HO_325001
   clear BK317
   clear BK324
   clear HI0
   clear HK
   clear HB
   have HO_325001 := n0_
   have BK317 := n1_
   have BK324 := n2_
   have HI0 := n3_
   have HK := n4_
   have HB := n5_
   clear n0_ n1_ n2_ n3_ n4_ n5_
   obtain ⟨Ao62, co62, eo62⟩ := Kd.R_slice HO_325001.out
   (first | subst eo62 | (injection eo62 with f1_ f2_ f3_; have f4_ := f1_.symm; have f5_ := f3_.symm; clear f1_ f2_ f3_; subst f4_; subst f5_))
   refine start_ (n := 7) (S := fun w' => w'.cell? ⟨gb324, 0, none⟩ = some (.int .i64 t318) ∧ w'.cell? ⟨gb324, 1, none⟩ = some (.slice Ao62 x325001_1.length co62)) (ds := []) (bn 7 0) (by kernel_rfl) rfl rfl ⟨(blk_cell BK324.out 0).trans rfl, (blk_cell BK324.out 1).trans rfl⟩ (fun hHeld => ?_)
   generalize wr.drew = w61 at HO_325001 BK317 BK324 HI0 HK HB hHeld ⊢
   refine pure_ (i := 0) (N := some 25) (v := ?_) (a' := ?_) (bn 7 1) rfl rfl (by kernel_rfl) (fun _ _ _ h => h) (Or.inl ⟨by rfl, ?_⟩) ?_ ?_
   rotate_left
   ·intro w'
    go_simp
    with_reducible rfl
   rotate_left
   ·simp only [Act.put, List.setIfInBounds_toArray, List.set_cons_zero, List.set_cons_succ, i64_w, i32_w]
    rfl
   refine pure_ (i := 3) (N := some 28) (v := ?_) (a' := ?_) (bn 7 9) rfl rfl (by kernel_rfl) (fun _ _ _ h => h) (Or.inl ⟨by rfl, ?_⟩) ?_ ?_
   rotate_left
   ·intro w'
    go_simp
    with_reducible rfl
   rotate_left
   ·simp only [Act.put, List.setIfInBounds_toArray, List.set_cons_zero, List.set_cons_succ, i64_w, i32_w]
    rfl
   refine take_ (i := 1) (N := some 26) (v := ?_) (a' := ?_) (bn 7 11) rfl rfl (by kernel_rfl) (fun _ _ _ h => h) (Or.inl ⟨by rfl, ?_⟩) hHeld ?_ ?_
   rotate_left
   ·rintro w' ⟨s0, s1⟩
    go_simp
    with_reducible rfl
   rotate_left
   ·simp only [Act.put, List.setIfInBounds_toArray, List.set_cons_zero, List.set_cons_succ, i64_w, i32_w]
    rfl
   refine pure_ (i := 2) (N := some 27) (v := ?_) (a' := ?_) (bn 7 15) rfl rfl (by kernel_rfl) (fun _ _ _ h => h) (Or.inl ⟨by rfl, ?_⟩) ?_ ?_
   rotate_left
   ·intro w'
    go_simp
    with_reducible rfl
   rotate_left
   ·simp only [Act.put, List.setIfInBounds_toArray, List.set_cons_zero, List.set_cons_succ, i64_w, i32_w]
    rfl
   refine one_ (i := 4) (N := some 29) (bn 7 31) rfl rfl (by kernel_rfl) (by decide) (fun K hK => ?_)
   refine goes_ Tryz.func38 (by kernel_rfl) rfl #[.pointer (some ⟨g, 0, none⟩), .int .i64 2] (by rfl) rfl rfl (by (try simp only [List.map_toArray, List.map_cons, List.map_nil]); first | done | rfl | (simp only [List.length_drop, List.length_take]; rfl)) ?_
   with_reducible refine (spec_l1Cur_pick.calls g s0_0 x1001_1 x1002_1 2 t342 t343 t344 w0 _ ?side1 ?side2 A49.out).mono ?_
   (case side1 => exact tS66)
   (case side2 => exact bel HB)
   rintro e w63 ⟨rfl, hi, hb, hk⟩
   refine ⟨_, rfl, ?_⟩
   have n0_ := aM (Kd.R_mono (Kd.R_keep (IsS66.apart (show IsS66 w0 _ g s0_0 x1001_1 x1002_1 from tS66) (rU HO_325001.out) (by decide)) hk (fun _ h => h.2)) (fun _ h => h.1))
   have n1_ := aM (KeepBut.blk hk (g' := gb317) (o := .cells #[.int .i64 0, .slice none 0 0] 28 (0, 0)) (bU BK317.out) NB317_0.out (by simp))
   have n2_ := aM (KeepBut.blk hk (g' := gb324) (o := .cells #[.int .i64 t318, .slice Ao62 x325001_1.length co62] 28 (0, 0)) (bU BK324.out) NB324_0.out (by simp))
   have n3_ := kT HK hk
   have n4_ := aM (hb)
   have n5_ := sS66 (hi)
   clear HO_325001
   clear BK317
   clear BK324
   clear HK
   clear HB
   clear HI0
   have HO_325001 := n0_
   have BK317 := n1_
   have BK324 := n2_
   have HK := n3_
   have HB := n4_
   have HI0 := n5_
   clear n0_ n1_ n2_ n3_ n4_ n5_
   (try clear hb)
   (try clear hb2)
   (try clear hk)
   (try clear hi)
   refine hK.out _ _ ⟨(blk_cell BK324.out 0).trans rfl, (blk_cell BK324.out 1).trans rfl⟩ (fun hHeld => ?_)
   clear hK K
   refine norm_ (a' := ?_) ?_ ?_
   rotate_left
   ·show Act.put _ (some 29) _ = _
    simp only [Act.put, List.setIfInBounds_toArray, List.set_cons_zero, List.set_cons_succ, i64_w, i32_w]
    rfl
   refine pure_ (i := 5) (N := some 30) (v := ?_) (a' := ?_) (bn 7 63) rfl rfl (by kernel_rfl) (fun _ _ _ h => h) (Or.inl ⟨by rfl, ?_⟩) ?_ ?_
   rotate_left
   ·intro w'
    go_simp
    with_reducible rfl
   rotate_left
   ·simp only [Act.put, List.setIfInBounds_toArray, List.set_cons_zero, List.set_cons_succ, i64_w, i32_w]
    rfl
   refine pure_ (i := 6) (N := some 31) (v := ?_) (a' := ?_) (bn 7 127) rfl rfl (by kernel_rfl) (fun _ _ _ h => h) (Or.inl ⟨by rfl, ?_⟩) ?_ ?_
   rotate_left
   ·intro w'
    go_simp
    with_reducible rfl
   rotate_left
   ·simp only [Act.put, List.setIfInBounds_toArray, List.set_cons_zero, List.set_cons_succ, i64_w, i32_w]
    rfl
   refine done_ (by kernel_rfl) ?_
   have hnb64 := NB324_317.out
   have hnc64 := NB317_324.out
   have hnb65 := NB324_0.out
   have hnc65 := NB0_324.out
   obtain ⟨hcz66_0, hcz66_1, hfz66_0, hfz66_1⟩ := hC2 BK324
   have hnb67 := NB317_0.out
   have hnc67 := NB0_317.out
   obtain ⟨hcz68_0, hcz68_1, hfz68_0, hfz68_1⟩ := hC2 BK317
   try go_wp2
   refine bodyPost_ret (results_cell_row rfl _ _ gb317 28 #[.int .i64 t318, .slice Ao62 x325001_1.length co62] (0, 0) _ rfl (bP2 BK317) Tryz.underlying28 rfl (by kernel_rfl)) rfl ?_
   exact ⟨_, eW, rU (Kd.R_mono (Kd.R_far (p := ⟨gb317, 1, none⟩) (Kd.R_far (p := ⟨gb317, 0, none⟩) (Kd.R_types HO_325001.out BK317.out (by decide)) (fun _ hk => hk.2) (.int .i64 t318)) (fun _ hk => hk.2) (.slice Ao62 x325001_1.length co62)) (fun _ hk => trivial)), tS66, bel HB, kp HK⟩
 have c40b0 := qF c40
 have c40b1 := nT c40
 simp only [Option.some.injEq, Prod.mk.injEq] at H
 obtain ⟨rfl, rfl, rfl, rfl⟩ := H
 go_enter Tryz.func55, Tryz.ntmps55
 go_wp2_with (first | (refine bX (N := 2) rfl (cs := #[.int .i64 0, .slice none 0 0]) (t := 28) ?_; intro gb317 hg w69 BK317 hb; have GW317 := gK hg HK; have GE317 := gW HW0 (gK hg HK); have NB0_317 := (nbI hg : Ap g gb317); have NB317_0 := (nbJ hg : Ap gb317 g); replace HI0 := bS66 g hb; replace HK := kT HK (KeepBut.of_below hb g none); replace HB := hS HB hb; clear hb hg) | ((with_reducible refine gG 81 (some 5) rfl rfl ?_); refine gD Tryz.func81 (spec_l1Cur_surePuzzle.calls k g s0_0 s0_1 s0_2 5 t318 t319 t322 t323 w0 _ tS66 (bel HB) A2.out) ?_; rintro w70 v320 ⟨ho0, hi, hb, hk⟩; have HO321 := rK ho0 HK; replace BK317 := aM (KeepBut.blk hk (g' := gb317) (o := .cells #[.int .i64 0, .slice none 0 0] 28 (0, 0)) (bU BK317.out) NB317_0.out (by simp)); replace HK := kT HK hk; replace HB := aM (hb); replace HI0 := sS66 (hi); clear hb hk hi ho0) | (refine bX (N := 3) rfl (cs := #[.int .i64 0, .slice none 0 0]) (t := 28) ?_; intro gb324 hg w71 BK324 hb; have GW324 := gK hg HK; have GE324 := gW HW0 (gK hg HK); have NB317_324 := nbL hg BK317; have NB324_317 := nbR hg BK317; have NB0_324 := (nbI hg : Ap g gb324); have NB324_0 := (nbJ hg : Ap gb324 g); replace HO321 := rB HO321 hb; replace HI0 := bS66 g hb; replace BK317 := bB BK317 hb; replace HK := kT HK (KeepBut.of_below hb g none); replace HB := hS HB hb; clear hb hg; have hnb72 := NB324_317.out; have hnc72 := NB317_324.out; have hnb73 := NB324_0.out; have hnc73 := NB0_324.out; obtain ⟨hcz74_0, hcz74_1, hfz74_0, hfz74_1⟩ := hC2 BK324; obtain ⟨Ao75, co75, eo75⟩ := Kd.R_slice HO321.out; subst eo75) | ((with_reducible refine gG 38 (some 7) rfl rfl ?_); refine gC Tryz.func38 (spec_l1Cur_pick.calls g s0_0 t322 t323 12 t325 t326 t327 w0 _ tS66 (bel HB) A3.out) ?_; rintro w76 ⟨hi, hb, hk⟩; replace BK317 := aM (KeepBut.blk hk (g' := gb317) (o := .cells #[.int .i64 0, .slice none 0 0] 28 (0, 0)) (kU BK317.out) NB317_0.out (by simp)); replace HO321 := aM (Kd.R_mono (Kd.R_keep (IsS66.apart (show IsS66 w0 _ g s0_0 t322 t323 from tS66) (rQ2 HO321 BK324) (by decide)) hk (fun _ h => h.2)) (fun _ h => h.1)); replace BK324 := aM (KeepBut.blk hk (g' := gb324) (o := .cells #[.int .i64 t318, .slice Ao75 t319.length co75] 28 (0, 0)) (bP2 BK324) NB324_0.out (by simp)); replace HK := kT HK hk; replace HB := aM (hb); replace HI0 := sS66 (hi); clear hb hk hi; obtain ⟨hcz77_0, hcz77_1, hfz77_0, hfz77_1⟩ := hC2 BK324; have hnb78 := NB317_0.out; have hnc78 := NB0_317.out; obtain ⟨hcz79_0, hcz79_1, hfz79_0, hfz79_1⟩ := hC2 BK317))
 refine bodyPost_ret (results_cell_row rfl _ _ gb317 28 #[.int .i64 t318, .slice Ao75 t319.length co75] (0, 0) _ rfl (bP2 BK317) Tryz.underlying28 rfl (by kernel_rfl)) rfl ?_
 exact ⟨_, eW, rU (Kd.R_mono (Kd.R_far (p := ⟨gb317, 1, none⟩) (Kd.R_far (p := ⟨gb317, 0, none⟩) (Kd.R_types HO321.out BK317.out (by decide)) (fun _ hk => hk.2) (.int .i64 t318)) (fun _ hk => hk.2) (.slice Ao75 t319.length co75)) (fun _ hk => trivial)), tS66, bel HB, kp HK⟩

end Go.Proofs.YtpdkjehplfgjcabGreatDoor.PHid
