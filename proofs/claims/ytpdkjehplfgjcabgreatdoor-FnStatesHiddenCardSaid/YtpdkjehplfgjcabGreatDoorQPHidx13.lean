-- squeezed (sq3.py); PRINTED by drive.py (a program of this session's, over the kit's print.py; wip/tools/drive.py). Lean checks it.
import Derived.Test.YtpdkjehplfgjcabGreatDoorQPHidx0
import Derived.Test.YtpdkjehplfgjcabGreatDoorQPHidx2
import Derived.Test.YtpdkjehplfgjcabGreatDoorQPHidx4
import Derived.Test.YtpdkjehplfgjcabGreatDoorQPHidx7
import Derived.Test.YtpdkjehplfgjcabGreatDoorQPHidx10
import Derived.Test.YtpdkjehplfgjcabGreatDoorQPHidx12
import Derived.Test.YtpdkjehplfgjcabGreatDoorQSq
namespace Go.Proofs.YtpdkjehplfgjcabGreatDoor.PHid
open Go.RowKit Go.Proofs.YtpdkjehplfgjcabGreatDoorW.PrintWords Go.Proofs.YtpdkjehplfgjcabGreatDoorW.PrintLast Go.Proofs.YtpdkjehplfgjcabGreatDoorW.PrintMore
attribute [local go_sem] max2_int min2_int max_two min_two max_three min_three max_four min_four   -- for this text's walks alone
set_option linter.unusedVariables false
set_option linter.unusedSimpArgs false

/-! ### spec_DrawHarderPuzzle: function 17 -/
def spec_DrawHarderPuzzle.f (k : Nat) (l0 : List Int) : Option (Int × (List (S40))) := (spec_l1Cur_one.f l0 0 0 4).bind fun bt350 => (if bt350.1 = true then ((spec_l1Cur_puzzle.f k l0 bt350.2.1 bt350.2.2).bind fun bt353 => (some (bt353.1, bt353.2.1))) else ((spec_l1Cur_hidden.f k l0 bt350.2.1 bt350.2.2).bind fun bt359 => ((spec_l1Cur_pick.f l0 bt359.2.1 bt359.2.2 3).bind fun bt362 => ((spec_l1Cur_pick.f l0 bt362.2.1 bt362.2.2 10000).bind fun bt365 => ((spec_MakePuzzle.f k bt359.1 bt362.1 bt365.1).bind fun bt368 => ((spec_pzOf.f k 3 0 bt359.1).bind fun bt374 => (if bt368.2.1.length < 5864062014805 then (some (bt368.1, (bt368.2.1 ++ [(⟨bt374.1, bt374.2.1, bt374.2.2⟩ : S40)]))) else (none))))))))
instance spec_DrawHarderPuzzle.mI (k : Nat) : Mo (spec_DrawHarderPuzzle.f k) (spec_DrawHarderPuzzle.f (k + 1)) := by
 (repeat refine mE fun _ => ?_); unfold spec_DrawHarderPuzzle.f; exact mG
theorem spec_DrawHarderPuzzle.mono : ∀ a0 k, LeO (spec_DrawHarderPuzzle.f k a0) (spec_DrawHarderPuzzle.f (k + 1) a0) := fun a0 k => (spec_DrawHarderPuzzle.mI k).out a0
def spec_DrawHarderPuzzle.T6 : Bool × List (List Nat × List Nat) := (true, [([], []), ([0], [0]), ([], []), ([2], [2]), ([3], [3]), ([1, 4, 3], [1, 4]), ([0, 1, 2, 3, 4, 5], []), ([6, 5, 5, 0, 1, 2, 3, 4, 5], [5, 6])])
def spec_DrawHarderPuzzle.B6 : List Nat := [0, 1, 0, 4, 12, 31, 63, 127]
theorem spec_DrawHarderPuzzle.tab6 : rtab .any (opsOf Tryz.f17 6) = spec_DrawHarderPuzzle.T6 := by kernel_rfl
theorem spec_DrawHarderPuzzle.bits6 : waitsOk spec_DrawHarderPuzzle.T6.2 spec_DrawHarderPuzzle.B6 = true := by kernel_rfl
set_option maxHeartbeats 8000000 in
set_option maxRecDepth 100000 in
theorem spec_DrawHarderPuzzle.calls (k : Nat) (A0 : Option Addr) (c0 : Nat) (l0 : List Int) (r1 : Int) (r2 : List (S40)) (w : World) (hr0 : Kd.C (Kd.int .u8) w A0 l0.length l0) (hc0 : l0.length ≤ c0) (h : spec_DrawHarderPuzzle.f k l0 = some (r1, r2)) :
  Calls Tryz.prog 17 #[.slice A0 l0.length c0] w fun e w' => ∃ v1_ : Value, e = .returned (.agg #[.int .i64 r1, v1_]) ∧ Kd.R k40 40 w' w.heap.size (fun _ => True) v1_ r2 ∧ Below w.heap.size w w' := by
 have hu28 := Tryz.underlying28
 have hu66 := Tryz.underlying66
 have HR0 := aM hr0
 have HC0 := aM hc0
 clear hr0 hc0
 have HB := aM (Below.refl w.heap.size w)
 have H := h
 clear h; unfold spec_DrawHarderPuzzle.f at H
 replace H := bC H; obtain ⟨⟨t350, t351, t352⟩, A2, H⟩ := H; try dsimp only at H
 refine iB H ?_ ?_ <;> clear H <;> rintro rfl H
 ·replace H := bC H; obtain ⟨⟨t353, t354, t357, t358⟩, A4, H⟩ := H; try dsimp only at H
  simp only [Option.some.injEq, Prod.mk.injEq] at H
  obtain ⟨rfl, rfl⟩ := H
  go_enter Tryz.func17, Tryz.ntmps17
  go_wp2_with (first | (refine bX (N := 2) rfl (cs := #[.int .i64 0, .slice none 0 0]) (t := 28) ?_; intro gb348 hg w5 BK348 hb; have GW348 := gE hg HB; have GE348 := gE hg HB; replace HB := hS HB hb; clear hb hg) | ((with_reducible refine gate_dst (N := 9) rfl ?_); refine box_event ?hg (N := 9) ?hd (cs := #[.slice A0 l0.length c0, .int .i64 0, .int .u64 0]) (t := 66) ?hr ?_; (case hd => rfl); (case hg => rfl); (case hr => first | (go_simp; done) | (go_simp; rfl)); intro gb349 hg w6 hbox hb; have HI349 := sS66 ((show IsS66 w w6 gb349 l0 0 0 from ⟨_, _, hbox, (by rw [hg]; exact (below_size (bel HB)) : w.heap.size ≤ gb349), HR0.out⟩)); have GI_HI349 := IsS66.geI HI349; have NB349_348 := nbR hg BK348; have NB348_349 := nbL hg BK348; replace BK348 := bB BK348 hb; replace HB := hS HB hb; clear hb hbox hg) | ((with_reducible refine gG 34 (some 11) rfl rfl ?_); refine gC Tryz.func34 (spec_l1Cur_one.calls gb349 l0 0 0 4 true t351 t352 w _ tS66 (bel HB) A2.out) ?_; rintro w7 ⟨hi, hb, hk⟩; replace BK348 := aM (KeepBut.blk hk (g' := gb348) (o := .cells #[.int .i64 0, .slice none 0 0] 28 (0, 0)) (bU BK348.out) NB348_349.out (by simp)); replace HB := aM (hb); replace HI349 := sS66 (hi); clear hb hk hi) | ((with_reducible refine gG 55 (some 13) rfl rfl ?_); refine gD Tryz.func55 (spec_l1Cur_puzzle.calls k gb349 l0 t351 t352 t353 t354 t357 t358 w _ tS66 (bel HB) A4.out) ?_; rintro w8 v355 ⟨ho0, hi, hb, hk⟩; have HO356 := rL ho0 HB; replace BK348 := aM (KeepBut.blk hk (g' := gb348) (o := .cells #[.int .i64 0, .slice none 0 0] 28 (0, 0)) (bU BK348.out) NB348_349.out (by simp)); replace HB := aM (hb); replace HI349 := sS66 (hi); clear hb hk hi ho0; have hnb9 := NB348_349.out; have hnc9 := NB349_348.out; obtain ⟨hcz10_0, hcz10_1, hfz10_0, hfz10_1⟩ := hC2 BK348; obtain ⟨Ao11, co11, eo11⟩ := Kd.R_slice HO356.out; subst eo11))
  refine bodyPost_ret (results_cell_row rfl _ _ gb348 28 #[.int .i64 t353, .slice Ao11 t354.length co11] (0, 0) _ rfl (bP2 BK348) Tryz.underlying28 rfl (by kernel_rfl)) rfl ?_
  exact ⟨_, eW, rU (Kd.R_mono (Kd.R_far (p := ⟨gb348, 1, none⟩) (Kd.R_far (p := ⟨gb348, 0, none⟩) (Kd.R_types HO356.out BK348.out (by decide)) (fun _ hk => hk.2) (.int .i64 t353)) (fun _ hk => hk.2) (.slice Ao11 t354.length co11)) (fun _ hk => trivial)), bel HB⟩
 replace H := bC H; obtain ⟨⟨t359, t360, t361⟩, A12, H⟩ := H; try dsimp only at H
 replace H := bC H; obtain ⟨⟨t362, t363, t364⟩, A13, H⟩ := H; try dsimp only at H
 replace H := bC H; obtain ⟨⟨t365, t366, t367⟩, A14, H⟩ := H; try dsimp only at H
 replace H := bC H; obtain ⟨⟨t368, t369, t372⟩, A15, H⟩ := H; try dsimp only at H
 replace H := bC H; obtain ⟨⟨t374, t375, t376⟩, A16, H⟩ := H; try dsimp only at H
 refine iY H ?_; clear H; intro c17 H
 have LMc17 := aM c17
 clear c17
 obtain ⟨y377, Ny377⟩ := yN (t369 ++ [(⟨t374, t375, t376⟩ : S40)] : List (S40)); rw [← Ny377.out] at H
 simp only [Option.some.injEq, Prod.mk.injEq] at H
 obtain ⟨rfl, rfl⟩ := H
 go_enter Tryz.func17, Tryz.ntmps17
 try go_wp2_with (first | (refine bX (N := 2) rfl (cs := #[.int .i64 0, .slice none 0 0]) (t := 28) ?_; intro gb348 hg w18 BK348 hb; have GW348 := gE hg HB; have GE348 := gE hg HB; replace HB := hS HB hb; clear hb hg) | ((with_reducible refine gate_dst (N := 9) rfl ?_); refine box_event ?hg (N := 9) ?hd (cs := #[.slice A0 l0.length c0, .int .i64 0, .int .u64 0]) (t := 66) ?hr ?_; (case hd => rfl); (case hg => rfl); (case hr => first | (go_simp; done) | (go_simp; rfl)); intro gb349 hg w19 hbox hb; have HI349 := sS66 ((show IsS66 w w19 gb349 l0 0 0 from ⟨_, _, hbox, (by rw [hg]; exact (below_size (bel HB)) : w.heap.size ≤ gb349), HR0.out⟩)); have GI_HI349 := IsS66.geI HI349; have NB349_348 := nbR hg BK348; have NB348_349 := nbL hg BK348; replace BK348 := bB BK348 hb; replace HB := hS HB hb; clear hb hbox hg) | ((with_reducible refine gG 34 (some 11) rfl rfl ?_); refine gC Tryz.func34 (spec_l1Cur_one.calls gb349 l0 0 0 4 false t351 t352 w _ tS66 (bel HB) A2.out) ?_; rintro w20 ⟨hi, hb, hk⟩; replace BK348 := aM (KeepBut.blk hk (g' := gb348) (o := .cells #[.int .i64 0, .slice none 0 0] 28 (0, 0)) (bU BK348.out) NB348_349.out (by simp)); replace HB := aM (hb); replace HI349 := sS66 (hi); clear hb hk hi) | ((with_reducible refine gG 37 (some 15) rfl rfl ?_); refine gC Tryz.func37 (spec_l1Cur_hidden.calls k gb349 l0 t351 t352 t359 t360 t361 w _ tS66 (bel HB) A12.out) ?_; rintro w21 ⟨hi, hb, hk⟩; replace BK348 := aM (KeepBut.blk hk (g' := gb348) (o := .cells #[.int .i64 0, .slice none 0 0] 28 (0, 0)) (bU BK348.out) NB348_349.out (by simp)); replace HB := aM (hb); replace HI349 := sS66 (hi); clear hb hk hi) | ((with_reducible refine gG 38 (some 19) rfl rfl ?_); refine gC Tryz.func38 (spec_l1Cur_pick.calls gb349 l0 t360 t361 3 t362 t363 t364 w _ tS66 (bel HB) A13.out) ?_; rintro w22 ⟨hi, hb, hk⟩; replace BK348 := aM (KeepBut.blk hk (g' := gb348) (o := .cells #[.int .i64 0, .slice none 0 0] 28 (0, 0)) (bU BK348.out) NB348_349.out (by simp)); replace HB := aM (hb); replace HI349 := sS66 (hi); clear hb hk hi) | ((with_reducible refine gG 38 (some 21) rfl rfl ?_); refine gC Tryz.func38 (spec_l1Cur_pick.calls gb349 l0 t363 t364 10000 t365 t366 t367 w _ tS66 (bel HB) A14.out) ?_; rintro w23 ⟨hi, hb, hk⟩; replace BK348 := aM (KeepBut.blk hk (g' := gb348) (o := .cells #[.int .i64 0, .slice none 0 0] 28 (0, 0)) (bU BK348.out) NB348_349.out (by simp)); replace HB := aM (hb); replace HI349 := sS66 (hi); clear hb hk hi) | ((with_reducible refine gG 7 (some 22) rfl rfl ?_); refine gD Tryz.func7 (spec_MakePuzzle.calls k t359 t362 t365 t368 t369 t372 _ A15.out) ?_; rintro w24 v370 ⟨ho0, hb⟩; have HO371 := rL ho0 HB; replace BK348 := bB BK348 hb; replace HI349 := bS66 gb349 hb; replace HB := hS HB hb; clear hb ho0) | (refine bX (N := 5) rfl (cs := #[.int .i64 0, .slice none 0 0]) (t := 28) ?_; intro gb373 hg w25 BK373 hb; have GW373 := gE hg HB; have GE373 := gE hg HB; have NB348_373 := nbL hg BK348; have NB373_348 := nbR hg BK348; have NB349_373 := (nbI hg : Ap gb349 gb373); have NB373_349 := (nbJ hg : Ap gb373 gb349); replace HO371 := rB HO371 hb; replace BK348 := bB BK348 hb; replace HI349 := bS66 gb349 hb; replace HB := hS HB hb; clear hb hg; have hnb26 := NB373_348.out; have hnc26 := NB348_373.out; have hnb27 := NB373_349.out; have hnc27 := NB349_373.out; obtain ⟨hcz28_0, hcz28_1, hfz28_0, hfz28_1⟩ := hC2 BK373; obtain ⟨Ao29, co29, eo29⟩ := Kd.R_slice HO371.out; subst eo29))
 have n0_ : Aside0 (Kd.R k40 40 ((w25.setCell ⟨gb373, 0, none⟩ (.int .i64 t368)).setCell ⟨gb373, 1, none⟩ (.slice Ao29 t369.length co29)) w.heap.size (fun _ => True) (.slice Ao29 t369.length co29) t369) := ⟨rU (Kd.R_mono (Kd.R_far (p := ⟨gb373, 1, none⟩) (Kd.R_far (p := ⟨gb373, 0, none⟩) (Kd.R_types HO371.out BK373.out (by decide)) (fun _ hk => hk.2) (.int .i64 t368)) (fun _ hk => hk.2) (.slice Ao29 t369.length co29)) (fun _ hk => trivial))⟩
 have n1_ : Aside0 (((w25.setCell ⟨gb373, 0, none⟩ (.int .i64 t368)).setCell ⟨gb373, 1, none⟩ (.slice Ao29 t369.length co29)).heap[gb348]? = some (.cells #[.int .i64 0, .slice none 0 0] 28 (0, 0))) := ⟨kU BK348.out⟩
 have n2_ : Aside0 (((w25.setCell ⟨gb373, 0, none⟩ (.int .i64 t368)).setCell ⟨gb373, 1, none⟩ (.slice Ao29 t369.length co29)).heap[gb373]? = some (.cells #[.int .i64 t368, .slice Ao29 t369.length co29] 28 (0, 0))) := ⟨bP2 BK373⟩
 have n3_ : IsC66 w ((w25.setCell ⟨gb373, 0, none⟩ (.int .i64 t368)).setCell ⟨gb373, 1, none⟩ (.slice Ao29 t369.length co29)) gb349 l0 t366 t367 := ⟨tS66⟩
 have n4_ : Aside0 (Below w.heap.size w ((w25.setCell ⟨gb373, 0, none⟩ (.int .i64 t368)).setCell ⟨gb373, 1, none⟩ (.slice Ao29 t369.length co29))) := hV HB
 (try clear HO371)
 (try clear BK348)
 (try clear BK373)
 (try clear HI349)
 (try clear HB)
 generalize ((w25.setCell ⟨gb373, 0, none⟩ (.int .i64 t368)).setCell ⟨gb373, 1, none⟩ (.slice Ao29 t369.length co29)) = w30 at n0_ n1_ n2_ n3_ n4_ ⊢
 have HO371 := n0_
 have BK348 := n1_
 have BK373 := n2_
 have HI349 := n3_
 have HB := n4_
 clear n0_ n1_ n2_ n3_ n4_
 have n0_ := aM (Kd.R_drew HO371.out)
 have n1_ := aM (blk_drew BK348.out)
 have n2_ := aM (blk_drew BK373.out)
 have n3_ := sS66 (IsS66.drew HI349.out)
 have n4_ := aM (below_drew1 HB.out)
 clear HO371
 clear BK348
 clear BK373
 clear HI349
 clear HB
 have HO371 := n0_
 have BK348 := n1_
 have BK373 := n2_
 have HI349 := n3_
 have HB := n4_
 clear n0_ n1_ n2_ n3_ n4_
 refine start_ (n := 8) (S := fun w' => w'.cell? ⟨gb373, 0, none⟩ = some (.int .i64 t368) ∧ w'.cell? ⟨gb373, 1, none⟩ = some (.slice Ao29 t369.length co29)) (ds := [7]) (bn 8 0) (by kernel_rfl) rfl rfl ⟨(blk_cell BK373.out 0).trans rfl, (blk_cell BK373.out 1).trans rfl⟩ (fun hHeld => ?_); refine with_tabW spec_DrawHarderPuzzle.tab6 spec_DrawHarderPuzzle.bits6 (fun HT_ HW_ => ?_)
 generalize w30.drew = w31 at HO371 BK348 BK373 HI349 HB hHeld ⊢
 refine pU 0 (some 25) (bn 8 1) ?_
 refine pU 2 (some 27) (bn 8 5) ?_
 refine take_ (i := 1) (N := some 26) (v := ?_) (a' := ?_) (bn 8 7) rfl rfl (take_ofW HT_.out HW_.out (by kernel_rfl)) (fun _ _ _ h => h) (Or.inl ⟨by rfl, ?_⟩) hHeld ?_ ?_
 rotate_left
 ·rintro w' ⟨s0, s1⟩
  go_simp
  with_reducible rfl
 rotate_left
 ·simp only [Act.put, List.setIfInBounds_toArray, List.set_cons_zero, List.set_cons_succ, i64_w, i32_w]
  rfl
 refine one_ (i := 3) (N := some 28) (bn 8 15) rfl rfl (one_of HT_.out (by kernel_rfl)) (by decide) (fun K hK => ?_)
 refine goes_ Tryz.func46 (by kernel_rfl) rfl #[.int .i64 3, .int .i64 0, .string t359] (by rfl) rfl rfl (by (try simp only [List.map_toArray, List.map_cons, List.map_nil]); first | done | rfl | (simp only [List.length_drop, List.length_take]; rfl)) ?_
 with_reducible refine (spec_pzOf.calls k 3 0 t359 t374 t375 t376 _ A16.out).mono ?_
 rintro e w32 ⟨rfl, hb⟩
 refine ⟨_, rfl, ?_⟩
 have n0_ := rB HO371 hb
 have n1_ := bB BK348 hb
 have n2_ := bS66 gb349 hb
 have n3_ := bB BK373 hb
 have n4_ := hS HB hb
 clear HO371
 clear BK348
 clear HI349
 clear BK373
 clear HB
 have HO371 := n0_
 have BK348 := n1_
 have HI349 := n2_
 have BK373 := n3_
 have HB := n4_
 clear n0_ n1_ n2_ n3_ n4_
 (try clear hb)
 (try clear hb2)
 (try clear hk)
 (try clear hi)
 refine hK.out _ _ ⟨(blk_cell BK373.out 0).trans rfl, (blk_cell BK373.out 1).trans rfl⟩ (fun hHeld => ?_)
 clear hK K
 refine norm_ (a' := ?_) ?_ ?_
 rotate_left
 ·show Act.put _ (some 28) _ = _
  simp only [Act.put, List.setIfInBounds_toArray, List.set_cons_zero, List.set_cons_succ, i64_w, i32_w]
  rfl
 refine one_ (i := 4) (N := some 29) (bn 8 31) rfl rfl (one_of HT_.out (by kernel_rfl)) (by decide) (fun K hK => ?_)
 refine value_ (w1 := ?_) (v := ?_) (by rfl) rfl ?_ ?_
 rotate_left 2
 ·go_simp
  constructor
  ·rfl
  rfl
 refine hK.out _ _ ⟨(blk_cell (blk_alloc BK373.out _) 0).trans rfl, (blk_cell (blk_alloc BK373.out _) 1).trans rfl⟩ (fun hHeld => ?_)
 clear hK K
 refine norm_ (a' := ?_) ?_ ?_
 rotate_left
 ·show Act.put _ (some 29) _ = _
  simp only [Act.put, List.setIfInBounds_toArray, List.set_cons_zero, List.set_cons_succ, i64_w, i32_w]
  rfl
 refine one_ (i := 5) (N := some 30) (bn 8 63) rfl rfl (one_of HT_.out (by kernel_rfl)) (by decide) (fun K hK => ?_)
 refine Kd.R_append_step k40 (w0 := w) w.heap.size (by rfl) (.tmp 26) (.tmp 29) 26 40 (.agg #[(.int .i64 0), (.int .i64 0), (.int .i64 0)]) 24 rfl Tryz.underlying26 info40 rfl (by decide) (by omega) (.slice Ao29 t369.length co29) t369 (⟨t374, t375, t376⟩ : S40) [.int .i64 t374, .int .i64 t375, .int .i64 t376] (fun _ => True) (fun _ => False) rfl rfl ?aP (fun _ hk => hk.elim) ?aF ?aO ?aB ?aS ?aL ?_
 (case aP => exact k40_mkM _ _ _ (⟨t374, t375, t376⟩ : S40))
 (case aB => exact (bel HB))
 (case aF => exact (fun _ _ => trivial))
 (case aO => exact (rU HO371.out))
 (case aS => exact (below_size (bel HB)))
 (case aL => have := LMc17.out; omega)
 intro v378 w33 ho hb hg hat
 rw [← Ny377.out] at ho
 have n0_ := aM (blk_grown (g := gb348) (o := .cells #[.int .i64 0, .slice none 0 0] 28 (0, 0)) (bU BK348.out) hg (Kd.R_ne HO371.out BK348.out (by decide)))
 have n1_ := sS66 (IsS66.grown (tS66) hg (IsS66.own_ne HI349.out HO371.out (by decide)))
 have n2_ := aM (blk_grown (g := gb373) (o := .cells #[.int .i64 t368, .slice Ao29 t369.length co29] 28 (0, 0)) (bU BK373.out) hg (Kd.R_ne HO371.out BK373.out (by decide)))
 have n3_ := aM (hb)
 have n4_ := aM (ho)
 clear BK348
 clear HI349
 clear BK373
 clear HB
 clear HO371
 have BK348 := n0_
 have HI349 := n1_
 have BK373 := n2_
 have HB := n3_
 have HO379 := n4_
 clear n0_ n1_ n2_ n3_ n4_
 clear ho hb hg hat
 obtain ⟨Ao34, co34, eo34⟩ := Kd.R_slice HO379.out
 (first | subst eo34 | (injection eo34 with f1_ f2_ f3_; have f4_ := f1_.symm; have f5_ := f3_.symm; clear f1_ f2_ f3_; subst f4_; subst f5_))
 refine hK.out _ _ ⟨(blk_cell BK373.out 0).trans rfl, (blk_cell BK373.out 1).trans rfl⟩ (fun hHeld => ?_)
 clear hK K
 refine norm_ (a' := ?_) ?_ ?_
 rotate_left
 ·show Act.put _ (some 30) _ = _
  simp only [Act.put, List.setIfInBounds_toArray, List.set_cons_zero, List.set_cons_succ, i64_w, i32_w]
  rfl
 refine pU 6 (some 31) (bn 8 127) ?_
 refine last_ (i := 7) (N := none) #[true, true, true, true, true, true, true, true] rfl rfl (one_of HT_.out (by kernel_rfl)) (by decide) (fun K hK => ?_)
 have hs35 : w33.cell? ⟨gb373, 1, none⟩ = some (.slice Ao29 t369.length co29) := (blk_cell BK373.out 1).trans rfl
 have hfs35 := blk_frozen BK373.out 1
 have hns35_0 := NB348_373.out
 have hms35_0 := NB373_348.out
 refine skip_ (w1 := ?_) (by rfl) rfl ?_ ?_
 rotate_left
 ·go_simp
  rfl
 refine hK.out _ _ ?_
 clear hK K
 refine done_ (done_of HT_.out (by kernel_rfl)) ?_
 obtain ⟨hcz36_0, hcz36_1, hfz36_0, hfz36_1⟩ := hC2 BK373
 have hnb37 := NB348_349.out
 have hnc37 := NB349_348.out
 obtain ⟨hcz38_0, hcz38_1, hfz38_0, hfz38_1⟩ := hC2 BK348
 try go_wp2
 refine bodyPost_ret (results_cell_row rfl _ _ gb348 28 #[.int .i64 t368, .slice Ao34 y377.length co34] (0, 0) _ rfl (by (with_reducible repeat (first | refine blk_drewN ?_ _ | refine blk_drew ?_ | refine blk_alloc ?_ _)); refine blk_put (cs := #[.int .i64 t368, .slice none 0 0]) ?_ 1 _ rfl; (with_reducible repeat (first | refine blk_drewN ?_ _ | refine blk_drew ?_ | refine blk_alloc ?_ _)); refine blk_put (cs := #[.int .i64 0, .slice none 0 0]) ?_ 0 _ rfl; (with_reducible repeat (first | refine blk_drewN ?_ _ | refine blk_drew ?_ | refine blk_alloc ?_ _)); refine blk_far ?_ NB348_373.out _; (with_reducible repeat (first | refine blk_drewN ?_ _ | refine blk_drew ?_ | refine blk_alloc ?_ _)); exact BK348.out) Tryz.underlying28 rfl (by kernel_rfl)) rfl ?_
 exact ⟨_, eW, rU (Kd.R_mono (Kd.R_far (p := ⟨gb348, 1, none⟩) (Kd.R_far (p := ⟨gb348, 0, none⟩) (Kd.R_far (p := ⟨gb373, 1, none⟩) (Kd.R_types (Kd.R_types HO379.out BK373.out (by decide)) BK348.out (by decide)) (fun _ hk => hk.1.2) (.slice Ao34 y377.length co34)) (fun _ hk => hk.2) (.int .i64 t368)) (fun _ hk => hk.2) (.slice Ao34 y377.length co34)) (fun _ hk => trivial)), bel HB⟩

/-! ### impl_IsSolved: function 20 -/
def impl_IsSolved.f (a0_0 : Int) (l0_1 : List (S40)) : Option (Bool × Bool) := (impl_Solutions.f a0_0 l0_1).bind fun bt381 => (if bt381.2 = true then (some (((bt381.1.length : Int) == 1), bt381.2)) else (some (false, bt381.2)))
set_option maxHeartbeats 8000000 in
set_option maxRecDepth 100000 in
theorem impl_IsSolved.calls (a0_0 : Int) (A0_1 : Option Addr) (c0_1 : Nat) (l0_1 : List (S40)) (r1 : Bool) (r2 : Bool) (w : World) (hr0_1 : Kd.C k40 w A0_1 l0_1.length l0_1) (hc0_1 : l0_1.length ≤ c0_1) (h : impl_IsSolved.f a0_0 l0_1 = some (r1, r2)) :
  Calls Tryz.prog 20 #[.agg #[.int .i64 a0_0, .slice A0_1 l0_1.length c0_1]] w fun e w' => e = .returned (.tuple #[.bool r1, .bool r2]) ∧ Below w.heap.size w w' := by
 have hu28 := Tryz.underlying28
 have HR0_1 := aM hr0_1
 have HC0_1 := aM hc0_1
 clear hr0_1 hc0_1
 have HB := aM (Below.refl w.heap.size w)
 have H := h
 clear h; unfold impl_IsSolved.f at H
 replace H := bC H; obtain ⟨⟨t381, t384⟩, A2, H⟩ := H; try dsimp only at H
 refine iB H ?_ ?_ <;> clear H <;> rintro rfl H
 ·simp only [Option.some.injEq, Prod.mk.injEq] at H
  obtain ⟨rfl, rfl⟩ := H
  go_enter Tryz.func20, Tryz.ntmps20
  go_wp2_with (first | ((with_reducible refine gate_dst (N := 1) rfl ?_); (try (refine gate_guard (by rfl) ?_; dsimp only)); refine bX (N := 1) rfl (cs := #[.int .i64 a0_0, .slice A0_1 l0_1.length c0_1]) (t := 28) ?_; intro gb380 hg w4 BK380 hb; have GW380 := gE hg HB; have GE380 := gE hg HB; replace HB := hS HB hb; clear hb hg; obtain ⟨hcz5_0, hcz5_1, hfz5_0, hfz5_1⟩ := hC2 BK380) | ((with_reducible refine gG 9 (some 8) rfl rfl ?_); refine gD Tryz.func9 (impl_Solutions.calls a0_0 _ _ l0_1 t381 true _ (cU (Kd.C_below HR0_1.out HB.out)) HC0_1.out A2.out) ?_; rintro w6 v382 ⟨ho0, hb⟩; have HO383 := rL ho0 HB; replace BK380 := bB BK380 hb; replace HB := hS HB hb; clear hb ho0; obtain ⟨Ao7, co7, eo7⟩ := Kd.R_slice HO383.out; subst eo7))
  go_ret2
  exact ⟨eW, bel HB⟩
 simp only [Option.some.injEq, Prod.mk.injEq] at H
 obtain ⟨rfl, rfl⟩ := H
 go_enter Tryz.func20, Tryz.ntmps20
 go_wp2_with (first | ((with_reducible refine gate_dst (N := 1) rfl ?_); (try (refine gate_guard (by rfl) ?_; dsimp only)); refine bX (N := 1) rfl (cs := #[.int .i64 a0_0, .slice A0_1 l0_1.length c0_1]) (t := 28) ?_; intro gb380 hg w8 BK380 hb; have GW380 := gE hg HB; have GE380 := gE hg HB; replace HB := hS HB hb; clear hb hg; obtain ⟨hcz9_0, hcz9_1, hfz9_0, hfz9_1⟩ := hC2 BK380) | ((with_reducible refine gG 9 (some 8) rfl rfl ?_); refine gD Tryz.func9 (impl_Solutions.calls a0_0 _ _ l0_1 t381 false _ (cU (Kd.C_below HR0_1.out HB.out)) HC0_1.out A2.out) ?_; rintro w10 v382 ⟨ho0, hb⟩; have HO383 := rL ho0 HB; replace BK380 := bB BK380 hb; replace HB := hS HB hb; clear hb ho0))
 go_ret2
 exact ⟨eW, bel HB⟩

/-! ### impl_Clue_56: function 56 -/
-- by hand (wip/ext/gen_Clue_clone.tpl)
theorem impl_Clue_56.info : (Tryz.prog.info? 40).map (fun i => (i.zero, i.size, i.bytes)) = some (some (.agg #[(.int .i64 0), (.int .i64 0), (.int .i64 0)]), 3, 24) := by kernel_rfl
def impl_Clue_56.f (l0 : List S40) : Option (List S40) := if l0.length < 5864062014805 then some l0 else none
set_option maxHeartbeats 1000000 in
set_option maxRecDepth 100000 in
theorem impl_Clue_56.calls (A0 : Option Addr) (c0 : Nat) (l0 : List S40) (r : List S40) (w : World) (hr0 : Kd.C k40 w A0 l0.length l0) (hc0 : l0.length ≤ c0) (h : impl_Clue_56.f l0 = some r) :
    Calls Tryz.prog 56 #[.slice A0 l0.length c0] w fun e w' => ∃ v0_ : Value, e = .returned (v0_) ∧ Kd.R k40 40 w' w.heap.size (fun _ => True) v0_ r ∧ Below w.heap.size w w' := by
 unfold impl_Clue_56.f at h
 split at h
 ·rename_i hlim
  obtain rfl := Option.some.inj h
  have hl := hr0.2.1
  cases A0 with
  | none =>
   have h0 : l0 = [] := by
    cases l0 with
    | nil => rfl
    | cons a l => obtain ⟨ad, he, _⟩ := hr0.2.2 (by simp); cases he
   subst h0
   clear hr0 hl
   have he := @Lib.run_eql_slice_nil Tryz.prog
   go_enter Tryz.func56, Tryz.ntmps56
   go_wp2
   go_ret
   exact ⟨_, rfl, Kd.R_nil _ _ _ _ _, Below.refl _ _⟩
  | some ad =>
   have HR0 := aM hr0
   have HB := aM (Below.refl w.heap.size w)
   have HL := aM hlim
   clear hr0 hlim
   have he := @Lib.run_eql_slice_nil Tryz.prog
   go_enter Tryz.func56, Tryz.ntmps56
   go_wp2_with (first
    | ((with_reducible refine gate_dst (N := 5) rfl ?_); refine Kd.R_lit k40 _ 40 ?hg (N := 5) ?hd (xs := ([] : List S40)) (inner := []) (ok := fun _ => True) (okp := fun _ => True) ?hr ?hp (fun _ hk => hk) trivial (Below.refl _ _) (Nat.le_refl _) (by simp) ?_; (case hd => rfl); (case hg => rfl); (case hr => first | (go_simp; done) | (go_simp; rfl)); (case hp => exact (Reps.none _ _)); intro v124 w3 ho4 hb hg_ hnew_; clear hg_ hnew_; have n0_ := aM (Kd.R_lower ho4 (below_size HB.out)); have n1_ := aM (below_step HB.out hb); clear HB; have HO5 := n0_; have HB := n1_; clear n0_ n1_ hb ho4)
    | ((with_reducible refine gate_builtin (b := .append) (xs := #[.tmp 5, .tmp 6]) rfl ?_); at_builtin; refine Kd.R_append_rows k40 (w0 := w) w.heap.size rfl (.tmp 5) (.tmp 6) 26 40 (.agg #[(.int .i64 0), (.int .i64 0), (.int .i64 0)]) 24 rfl Tryz.underlying26 impl_Clue_56.info rfl (by decide) (by omega) v124 [] l0 _ _ _ (fun _ => True) (fun _ => False) rfl rfl HO5.out (Kd.C_below HR0.out HB.out) (fun _ _ h => h) (fun _ h => h.elim) (fun _ _ => trivial) HB.out (below_size HB.out) (by have := HL.out; simp; omega) ?_; intro v127 w5 ho hb hg hat; have n0_ := aM hb; have n1_ := aM ho; clear HB; have HB := n0_; have HO := n1_; clear n0_ n1_ ho hb hg hat))
   go_ret
   exact ⟨_, rfl, HO.out, HB.out⟩
 cases h

/-! ### impl_Clue_82: function 82 -/
-- by hand (wip/ext/gen_Clue_del.tpl)
theorem impl_Clue_82.info : (Tryz.prog.info? 40).map (·.size) = some k40.sz := by kernel_rfl
set_option maxHeartbeats 1000000 in
set_option maxRecDepth 100000 in
theorem impl_Clue_82.one (g n c k : Nat) (l : List S40) (P0 : Nat → Prop) (w0 w : World) (hB : Below w0.heap.size w0 w) (ho : Kd.R k40 40 w w0.heap.size P0 (.slice (some ⟨g, 0, none⟩) n c) l) (hk : k < n) :
    Calls Tryz.prog 82 #[.slice (some ⟨g, 0, none⟩) n c, .int .i64 k, .int .i64 (k + 1)] w fun e w' => e = .returned (.slice (some ⟨g, 0, none⟩) (n - 1) c) ∧ Kd.R k40 40 w' w0.heap.size P0 (.slice (some ⟨g, 0, none⟩) (n - 1) c) (l.eraseIdx k) ∧ Below w0.heap.size w0 w' ∧ w.grownBy w' (some g) := by
  obtain ⟨hn, hnc, _⟩ := Kd.R_reads' ho
  obtain ⟨m, rfl⟩ : ∃ m, n = m + 1 := ⟨n - 1, by omega⟩
  have hcm : c ≤ 9223372036854775807 := by
    obtain ⟨hok, inner, hown, hr⟩ := ho
    rcases hown.2 with ⟨hv, _⟩ | ⟨g', cap', cur, hv, hb, hh, h1, hcm, _⟩
    · cases hv
    · injection hv with _ _ hc'
      rw [hc']; simpa [maxLen] using hcm
  have hkc : k ≤ c := by omega
  have hkc1 : k + 1 ≤ c := by omega
  have hkn1 : k + 1 ≤ m + 1 := hk
  have hi0 : (0 : Int) ≤ (k : Int) + 1 := by omega
  have hi1 : (k : Int) + 1 ≤ (m : Int) + 1 := by omega
  have hne : ¬ c = m := by omega
  have hmc : m ≤ c := by omega
  have hmc1 : m + 1 ≤ c := by omega
  obtain ⟨A, hA⟩ : ∃ A, (if c = k + 1 then (some ⟨g, 0, none⟩ : Option Addr) else some ⟨g, (k + 1) * 3, none⟩) = A := ⟨_, rfl⟩
  have HA := aM (hA.symm.trans (show (if c = k + 1 then (some ⟨g, 0, none⟩ : Option Addr) else some ⟨g, (k + 1) * 3, none⟩) = if c = k + 1 then some ⟨g, 0, none⟩ else (some (⟨g, 0, none⟩ : Addr)).map (·.add ((k + 1) * k40.sz)) from by simp [Addr.add]; rfl))
  have hgb := Kd.R_base ho g (by simp [Value.ownBlock])
  have HO := aM ho
  have HB := aM hB
  have HS := aM hB.size
  clear ho hB hn
  go_enter Tryz.func82, Tryz.ntmps82
  go_wp2_with fail
  go_region_law (refine Kd.R_delete_step k40 (w0 := w0) w0.heap.size rfl (.tmp 22) (.tmp 25) 26 40 rfl Tryz.underlying26 impl_Clue_82.info (g := g) (n := m + 1) (c := c) (k := k) (m := m + 1 - (k + 1)) (c2 := c - (k + 1)) (A := A) (xs := l) (ok := P0) (by simp [Act.eval, Act.put]) (by simp [Act.eval, Act.put]) HA.out rfl (Kd.R_drew HO.out) hk (below_drew1 HB.out) (by exact HS.out) ?_; intro w1 ho hb hg)
  simp only [Nat.add_sub_cancel] at ho ⊢
  obtain ⟨w2, hcl, ho2, hg2⟩ := own_clear k40 w0.heap.size 26 40 (.agg #[.int .i64 0, .int .i64 0, .int .i64 0]) Tryz.underlying26 (fun _ => by rfl) (by kernel_rfl) (by decide +kernel) ho (by omega)
  have hcl' : ∀ ty c1, (Builtin.clear_ #[26] ty #[.slice (some ⟨g, m * 3, none⟩) 1 c1]).run Tryz.prog w1 = .ok (.tuple #[]) w2 := hcl
  have hg3 := World.grownBy.trans hg hg2
  have HG := aM (show w.grownBy w2 (some g) from ⟨hg3.os, hg3.tape, hg3.output, hg3.size, hg3.block⟩)
  have HO2 := aM ho2
  clear ho ho2 hg hg2 hb hcl hg3
  go_wp2
  go_ret
  exact ⟨rfl, HO2.out, HB.out.grown HG.out HS.out (fun k' hk' => by cases hk'; exact hgb), HG.out⟩
def impl_Clue_82.f (l0 : List S40) (a1 a2 : Int) : Option (List S40) := if 0 ≤ a1 ∧ a2 = a1 + 1 ∧ a1 < l0.length then some (l0.eraseIdx a1.toNat) else none
theorem impl_Clue_82.calls (P0_ : Nat → Prop) (u9000_ : Value) (l0 : List S40) (a1 a2 : Int) (r : List S40) (w0 w : World) (hB : Below w0.heap.size w0 w) (ho0 : Kd.R k40 40 w w0.heap.size P0_ u9000_ l0) (h : impl_Clue_82.f l0 a1 a2 = some r) :
    Calls Tryz.prog 82 #[u9000_, .int .i64 a1, .int .i64 a2] w fun e w' => ∃ v0_ : Value, e = .returned (v0_) ∧ Kd.R k40 40 w' w0.heap.size (fun k_ => (P0_ k_ ∨ w.heap.size ≤ k_)) v0_ r ∧ Below w0.heap.size w0 w' ∧ Kept w w' (fun k_ => P0_ k_) := by
 unfold impl_Clue_82.f at h
 split at h
 ·rename_i hc
  obtain ⟨h0, rfl, h1⟩ := hc
  obtain rfl := Option.some.inj h
  obtain ⟨g, c, rfl, _⟩ := Kd.R_form ho0 (by omega)
  obtain ⟨k, rfl⟩ : ∃ k : Nat, a1 = k := ⟨a1.toNat, by omega⟩
  refine (impl_Clue_82.one g l0.length c k l0 P0_ w0 w hB ho0 (by omega)).mono ?_
  rintro e w' ⟨rfl, hr, hb, hg⟩
  have hP := ho0.1 g (by simp [Value.ownBlock])
  exact ⟨_, rfl, Kd.R_mono (by simpa using hr) (fun _ hk => .inl hk), hb, Kept.of_grown hg (Kept.refl _ _) (fun k' hk' => by cases hk'; exact .inl hP)⟩
 cases h

/-! ### impl_Puzzle_without: function 57 -/
def impl_Puzzle_without.f (a0_0 : Int) (l0_1 : List (S40)) (a1 : Int) : Option (Int × (List (S40))) := (impl_Clue_56.f l0_1).bind fun t387 => ((impl_Clue_82.f t387 a1 (wrap64 (a1 + 1))).bind fun t390 => (some (a0_0, t390)))
def impl_Puzzle_without.T1 : Bool × List (List Nat × List Nat) := (true, [([], []), ([0], [0]), ([], []), ([2], [2]), ([3], [3]), ([], []), ([], []), ([6], [6]), ([4, 5, 7, 4], [4, 5, 7]), ([1, 8], [1, 8]), ([9, 8, 0, 1, 2, 3, 4, 5, 6, 7, 8, 9], [9])])
def impl_Puzzle_without.B1 : List Nat := [0, 1, 0, 4, 12, 0, 0, 64, 252, 511, 1023]
theorem impl_Puzzle_without.tab1 : rtab .any (opsOf Tryz.f57 1) = impl_Puzzle_without.T1 := by kernel_rfl
theorem impl_Puzzle_without.bits1 : waitsOk impl_Puzzle_without.T1.2 impl_Puzzle_without.B1 = true := by kernel_rfl
set_option maxHeartbeats 8000000 in
set_option maxRecDepth 100000 in
theorem impl_Puzzle_without.calls (a0_0 : Int) (A0_1 : Option Addr) (c0_1 : Nat) (l0_1 : List (S40)) (a1 : Int) (r1 : Int) (r2 : List (S40)) (w : World) (hr0_1 : Kd.C k40 w A0_1 l0_1.length l0_1) (hc0_1 : l0_1.length ≤ c0_1) (h : impl_Puzzle_without.f a0_0 l0_1 a1 = some (r1, r2)) :
  Calls Tryz.prog 57 #[.agg #[.int .i64 a0_0, .slice A0_1 l0_1.length c0_1], .int .i64 a1] w fun e w' => ∃ v1_ : Value, e = .returned (.agg #[.int .i64 r1, v1_]) ∧ Kd.R k40 40 w' w.heap.size (fun _ => True) v1_ r2 ∧ Below w.heap.size w w' := by
 have hu28 := Tryz.underlying28
 have HR0_1 := aM hr0_1
 have HC0_1 := aM hc0_1
 clear hr0_1 hc0_1
 have HB := aM (Below.refl w.heap.size w)
 have H := h
 clear h; unfold impl_Puzzle_without.f at H
 replace H := bC H; obtain ⟨t387, A3, H⟩ := H
 replace H := bC H; obtain ⟨t390, A4, H⟩ := H
 simp only [Option.some.injEq, Prod.mk.injEq] at H
 obtain ⟨rfl, rfl⟩ := H
 go_enter Tryz.func57, Tryz.ntmps57
 try go_wp2_with (first | (refine bX (N := 2) rfl (cs := #[.int .i64 a0_0, .slice A0_1 l0_1.length c0_1]) (t := 28) ?_; intro gb385 hg w5 BK385 hb; have GW385 := gE hg HB; have GE385 := gE hg HB; replace HB := hS HB hb; clear hb hg) | (refine bX (N := 4) rfl (cs := #[.int .i64 0, .slice none 0 0]) (t := 28) ?_; intro gb386 hg w6 BK386 hb; have GW386 := gE hg HB; have GE386 := gE hg HB; have NB385_386 := nbL hg BK385; have NB386_385 := nbR hg BK385; replace BK385 := bB BK385 hb; replace HB := hS HB hb; clear hb hg))
 have n0_ := aM (blk_drew BK385.out)
 have n1_ := aM (blk_drew BK386.out)
 have n2_ := aM (below_drew1 HB.out)
 clear BK385
 clear BK386
 clear HB
 have BK385 := n0_
 have BK386 := n1_
 have HB := n2_
 clear n0_ n1_ n2_
 refine start_ (n := 11) (S := fun w' => w'.cell? ⟨gb385, 0, none⟩ = some (.int .i64 a0_0) ∧ w'.cell? ⟨gb385, 1, none⟩ = some (.slice A0_1 l0_1.length c0_1)) (ds := []) (bn 11 0) (by kernel_rfl) rfl rfl ⟨(blk_cell BK385.out 0).trans rfl, (blk_cell BK385.out 1).trans rfl⟩ (fun hHeld => ?_); refine with_tabW impl_Puzzle_without.tab1 impl_Puzzle_without.bits1 (fun HT_ HW_ => ?_)
 generalize w6.drew = w7 at BK385 BK386 HB hHeld ⊢
 refine pU 0 (some 5) (bn 11 1) ?_
 refine pU 2 (some 7) (bn 11 5) ?_
 refine pU 5 (some 10) (bn 11 37) ?_
 refine pU 6 (some 11) (bn 11 101) ?_
 refine pU 7 (some 12) (bn 11 229) ?_
 refine take_ (i := 1) (N := some 6) (v := ?_) (a' := ?_) (bn 11 231) rfl rfl (take_ofW HT_.out HW_.out (by kernel_rfl)) (fun _ _ _ h => h) (Or.inl ⟨by rfl, ?_⟩) hHeld ?_ ?_
 rotate_left
 ·rintro w' ⟨s0, s1⟩
  go_simp
  with_reducible rfl
 rotate_left
 ·simp only [Act.put, List.setIfInBounds_toArray, List.set_cons_zero, List.set_cons_succ, i64_w, i32_w]
  rfl
 refine take_ (i := 3) (N := some 8) (v := ?_) (a' := ?_) (bn 11 239) rfl rfl (take_ofW HT_.out HW_.out (by kernel_rfl)) (fun _ _ _ h => h) (Or.inl ⟨by rfl, ?_⟩) hHeld ?_ ?_
 rotate_left
 ·rintro w' ⟨s0, s1⟩
  go_simp
  with_reducible rfl
 rotate_left
 ·simp only [Act.put, List.setIfInBounds_toArray, List.set_cons_zero, List.set_cons_succ, i64_w, i32_w]
  rfl
 refine one_ (i := 4) (N := some 9) (bn 11 255) rfl rfl (one_of HT_.out (by kernel_rfl)) (by decide) (fun K hK => ?_)
 refine goes_ Tryz.func56 (by kernel_rfl) rfl #[.slice A0_1 l0_1.length c0_1] (by rfl) rfl rfl (by (try simp only [List.map_toArray, List.map_cons, List.map_nil]); first | done | rfl | (simp only [List.length_drop, List.length_take]; rfl)) ?_
 with_reducible refine (impl_Clue_56.calls _ _ l0_1 t387 _ ?side1 ?side2 A3.out).mono ?_
 (case side1 => exact cU (Kd.C_below HR0_1.out HB.out))
 (case side2 => exact HC0_1.out)
 rintro e w8 ⟨v388, rfl, ho0, hb⟩
 refine ⟨_, rfl, ?_⟩
 have n0_ := rL ho0 HB
 have n1_ := bB BK385 hb
 have n2_ := bB BK386 hb
 have n3_ := hS HB hb
 clear BK385
 clear BK386
 clear HB
 have HO389 := n0_
 have BK385 := n1_
 have BK386 := n2_
 have HB := n3_
 clear n0_ n1_ n2_ n3_
 (try clear hb)
 (try clear hb2)
 (try clear hk)
 (try clear hi)
 (try clear ho0)
 obtain ⟨Ao9, co9, eo9⟩ := Kd.R_slice HO389.out
 (first | subst eo9 | (injection eo9 with f1_ f2_ f3_; have f4_ := f1_.symm; have f5_ := f3_.symm; clear f1_ f2_ f3_; subst f4_; subst f5_))
 refine hK.out _ _ ⟨(blk_cell BK385.out 0).trans rfl, (blk_cell BK385.out 1).trans rfl⟩ (fun hHeld => ?_)
 clear hK K
 refine norm_ (a' := ?_) ?_ ?_
 rotate_left
 ·show Act.put _ (some 9) _ = _
  simp only [Act.put, List.setIfInBounds_toArray, List.set_cons_zero, List.set_cons_succ, i64_w, i32_w]
  rfl
 refine one_ (i := 8) (N := some 13) (bn 11 511) rfl rfl (one_of HT_.out (by kernel_rfl)) (by decide) (fun K hK => ?_)
 refine goes_ Tryz.func82 (by kernel_rfl) rfl #[.slice Ao9 t387.length co9, .int .i64 a1, .int .i64 (wrap64 (a1 + 1))] (by rfl) rfl rfl (by (try simp only [List.map_toArray, List.map_cons, List.map_nil]); first | done | rfl | (simp only [List.length_drop, List.length_take]; rfl)) ?_
 with_reducible refine (impl_Clue_82.calls (fun k_ => some k_ = (.slice Ao9 t387.length co9 : Value).ownBlock) (.slice Ao9 t387.length co9) t387 a1 (wrap64 (a1 + 1)) t390 w _ ?side1 ?side2 A4.out).mono ?_
 (case side1 => exact bel HB)
 (case side2 => exact Kd.R_tight rfl HO389.out)
 rintro e w10 ⟨v391, rfl, ho0, hb, hkp⟩
 refine ⟨_, rfl, ?_⟩
 have n0_ := aM (blk_kept (bU BK385.out) hkp (fun hs_ => (fun e_ => (Kd.R_ne HO389.out BK385.out (by decide)) e_) hs_))
 have n1_ := aM (blk_kept (bU BK386.out) hkp (fun hs_ => (fun e_ => (Kd.R_ne HO389.out BK386.out (by decide)) e_) hs_))
 have n2_ := aM (Kd.R_mono (ok' := fun k_ => True) ho0 (fun k_ hk_ => trivial))
 have n3_ := aM (hb)
 clear BK385
 clear BK386
 clear HB
 clear HO389
 have BK385 := n0_
 have BK386 := n1_
 have HO392 := n2_
 have HB := n3_
 clear n0_ n1_ n2_ n3_
 (try clear hb)
 (try clear hkp)
 (try clear ho0)
 obtain ⟨Ao11, co11, eo11⟩ := Kd.R_slice HO392.out
 (first | subst eo11 | (injection eo11 with f1_ f2_ f3_; have f4_ := f1_.symm; have f5_ := f3_.symm; clear f1_ f2_ f3_; subst f4_; subst f5_))
 refine hK.out _ _ ⟨(blk_cell BK385.out 0).trans rfl, (blk_cell BK385.out 1).trans rfl⟩ (fun hHeld => ?_)
 clear hK K
 refine norm_ (a' := ?_) ?_ ?_
 rotate_left
 ·show Act.put _ (some 13) _ = _
  simp only [Act.put, List.setIfInBounds_toArray, List.set_cons_zero, List.set_cons_succ, i64_w, i32_w]
  rfl
 refine pU 9 (some 14) (bn 11 1023) ?_
 refine one_ (i := 10) (N := none) (bn 11 2047) rfl rfl (one_of HT_.out (by kernel_rfl)) (by decide) (fun K hK => ?_)
 have hs12 : w10.cell? ⟨gb386, 0, none⟩ = some (.int .i64 0) := (blk_cell BK386.out 0).trans rfl
 have hfs12 := blk_frozen BK386.out 0
 have hns12_0 := NB385_386.out
 have hms12_0 := NB386_385.out
 have hs13 : w10.cell? ⟨gb386, 1, none⟩ = some (.slice none 0 0) := (blk_cell BK386.out 1).trans rfl
 have hfs13 := blk_frozen BK386.out 1
 have hns13_0 := NB385_386.out
 have hms13_0 := NB386_385.out
 refine skip_ (w1 := ?_) (by rfl) rfl ?_ ?_
 rotate_left
 ·go_simp
  rfl
 refine hK.out _ _ ⟨((cell_far (p := ⟨gb386, _, none⟩) NB385_386.out _).trans (((cell_far (p := ⟨gb386, _, none⟩) NB385_386.out _).trans (hHeld.1)))), ((cell_far (p := ⟨gb386, _, none⟩) NB385_386.out _).trans (((cell_far (p := ⟨gb386, _, none⟩) NB385_386.out _).trans (hHeld.2))))⟩ (fun hHeld => ?_)
 clear hK K
 refine done_ (done_of HT_.out (by kernel_rfl)) ?_
 try go_wp2
 refine bodyPost_ret (results_cell_row rfl _ _ gb386 28 #[.int .i64 a0_0, .slice Ao11 t390.length co11] (0, 0) _ rfl (bP2 BK386) Tryz.underlying28 rfl (by kernel_rfl)) rfl ?_
 exact ⟨_, eW, rU (Kd.R_mono (Kd.R_far (p := ⟨gb386, 1, none⟩) (Kd.R_far (p := ⟨gb386, 0, none⟩) (Kd.R_types HO392.out BK386.out (by decide)) (fun _ hk => hk.2) (.int .i64 a0_0)) (fun _ hk => hk.2) (.slice Ao11 t390.length co11)) (fun _ hk => trivial)), bel HB⟩

end Go.Proofs.YtpdkjehplfgjcabGreatDoor.PHid
