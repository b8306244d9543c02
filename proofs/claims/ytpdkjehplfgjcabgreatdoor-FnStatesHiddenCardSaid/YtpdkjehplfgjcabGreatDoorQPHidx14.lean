-- squeezed (sq3.py); PRINTED by drive.py (a program of this session's, over the kit's print.py; wip/tools/drive.py). Lean checks it.
import Derived.Test.YtpdkjehplfgjcabGreatDoorQPHidx0
import Derived.Test.YtpdkjehplfgjcabGreatDoorQPHidx4
import Derived.Test.YtpdkjehplfgjcabGreatDoorQPHidx9
import Derived.Test.YtpdkjehplfgjcabGreatDoorQPHidx10
import Derived.Test.YtpdkjehplfgjcabGreatDoorQPHidx13
import Derived.Test.YtpdkjehplfgjcabGreatDoorQSq
namespace Go.Proofs.YtpdkjehplfgjcabGreatDoor.PHid
open Go.RowKit Go.Proofs.YtpdkjehplfgjcabGreatDoorW.PrintWords Go.Proofs.YtpdkjehplfgjcabGreatDoorW.PrintLast Go.Proofs.YtpdkjehplfgjcabGreatDoorW.PrintMore
attribute [local go_sem] max2_int min2_int max_two min_two max_three min_three max_four min_four   -- for this text's walks alone
set_option linter.unusedVariables false
set_option linter.unusedSimpArgs false

/-! ### impl_HarderPuzzle: function 18 -/
mutual
def impl_HarderPuzzle.j0 : Nat → Bool → Int → List (S40) → Option (Int × (List (S40)) × Bool)
 | 0, _, _, _ => none
 | k + 1, x19, x394000, x394001 => if x19 = true then (some (0, ([] : List (S40)), false)) else ((impl_Clue_56.f x394001).bind fun t397 => (impl_HarderPuzzle.l0 k 0 x394000 t397))
def impl_HarderPuzzle.l0 : Nat → Int → Int → List (S40) → Option (Int × (List (S40)) × Bool)
 | 0, _, _, _ => none
 | k + 1, x7, x401000, x401001 => if x7 < (x401001.length : Int) then ((impl_Puzzle_without.f x401000 x401001 x7).bind fun bt401 => ((impl_Puzzle_solutions.f bt401.1 bt401.2).bind fun t406 => (if (t406.length : Int) = 1 then (impl_HarderPuzzle.l0 k x7 bt401.1 bt401.2) else (impl_HarderPuzzle.l0 k (wrap64 (x7 + 1)) x401000 x401001)))) else (some (x401000, x401001, true))
end
def impl_HarderPuzzle.f (k : Nat) (a0_0 : Int) (l0_1 : List (S40)) : Option (Int × (List (S40)) × Bool) := (impl_IsSolved.f a0_0 l0_1).bind fun bt395 => (if bt395.2 = true then (impl_HarderPuzzle.j0 k (!bt395.1) a0_0 l0_1) else (impl_HarderPuzzle.j0 k true a0_0 l0_1))
theorem impl_HarderPuzzle.mono_l : ∀ k, Mo (impl_HarderPuzzle.j0 k) (impl_HarderPuzzle.j0 (k + 1)) ∧ Mo (impl_HarderPuzzle.l0 k) (impl_HarderPuzzle.l0 (k + 1))
 | 0 => m0
 | k + 1 => by
  have ⟨ih0, ih1⟩ := impl_HarderPuzzle.mono_l k
  refine ⟨?_, ?_⟩ <;> (repeat refine mE fun _ => ?_) <;> first | (unfold impl_HarderPuzzle.j0; exact mG) | (unfold impl_HarderPuzzle.l0; exact mG)
instance impl_HarderPuzzle.mI (k : Nat) : Mo (impl_HarderPuzzle.f k) (impl_HarderPuzzle.f (k + 1)) := by
 have ⟨ih0, ih1⟩ := impl_HarderPuzzle.mono_l k
 (repeat refine mE fun _ => ?_); unfold impl_HarderPuzzle.f; exact mG
theorem impl_HarderPuzzle.mono : ∀ a0 a1 k, LeO (impl_HarderPuzzle.f k a0 a1) (impl_HarderPuzzle.f (k + 1) a0 a1) := fun a0 a1 k => (impl_HarderPuzzle.mI k).out a0 a1
def impl_HarderPuzzle.T4 : Bool × List (List Nat × List Nat) := (true, [([], []), ([0], [0]), ([], []), ([2], [2]), ([3], [3]), ([1, 4], [1, 4]), ([], []), ([6, 5, 4, 0, 1, 2, 3, 4, 5, 6], [5, 6])])
def impl_HarderPuzzle.B4 : List Nat := [0, 1, 0, 4, 12, 31, 0, 127]
theorem impl_HarderPuzzle.tab4 : rtab .any (opsOf Tryz.f18 4) = impl_HarderPuzzle.T4 := by kernel_rfl
theorem impl_HarderPuzzle.bits4 : waitsOk impl_HarderPuzzle.T4.2 impl_HarderPuzzle.B4 = true := by kernel_rfl
set_option maxHeartbeats 8000000 in
set_option maxRecDepth 100000 in
theorem impl_HarderPuzzle.calls (k : Nat) (a0_0 : Int) (A0_1 : Option Addr) (c0_1 : Nat) (l0_1 : List (S40)) (r1 : Int) (r2 : List (S40)) (r3 : Bool) (w : World) (hr0_1 : Kd.C k40 w A0_1 l0_1.length l0_1) (hc0_1 : l0_1.length ≤ c0_1) (h : impl_HarderPuzzle.f k a0_0 l0_1 = some (r1, r2, r3)) :
  Calls Tryz.prog 18 #[.agg #[.int .i64 a0_0, .slice A0_1 l0_1.length c0_1]] w fun e w' => ∃ v1_ : Value, e = .returned (.tuple #[.agg #[.int .i64 r1, v1_], .bool r3]) ∧ Kd.R k40 40 w' w.heap.size (fun _ => True) v1_ r2 ∧ Below w.heap.size w w' := by
 have hu28 := Tryz.underlying28
 have HR0_1 := aM hr0_1
 have HC0_1 := aM hc0_1
 clear hr0_1 hc0_1
 have HB := aM (Below.refl w.heap.size w)
 have H := h
 clear h; unfold impl_HarderPuzzle.f at H
 replace H := bC H; obtain ⟨⟨t395, t396⟩, A2, H⟩ := H; try dsimp only at H
 have HC3 := aM H
 clear H
 go_enter Tryz.func18, Tryz.ntmps18
 go_upto_region 2 with (first | (refine bX (N := 1) rfl (cs := #[.int .i64 a0_0, .slice A0_1 l0_1.length c0_1]) (t := 28) ?_; intro gb393 hg w4 BK393 hb; have GW393 := gE hg HB; have GE393 := gE hg HB; replace HB := hS HB hb; clear hb hg) | (refine bX (N := 2) rfl (cs := #[.int .i64 0, .slice none 0 0]) (t := 28) ?_; intro gb394 hg w5 BK394 hb; have GW394 := gE hg HB; have GE394 := gE hg HB; have NB393_394 := nbL hg BK393; have NB394_393 := nbR hg BK393; replace BK393 := bB BK393 hb; replace HB := hS HB hb; clear hb hg; have hnb6 := NB393_394.out; have hnc6 := NB394_393.out; obtain ⟨hcz7_0, hcz7_1, hfz7_0, hfz7_1⟩ := hC2 BK393) | ((with_reducible refine gG 20 (some 11) rfl rfl ?_); refine gC Tryz.func20 (impl_IsSolved.calls a0_0 _ _ l0_1 t395 t396 _ (cU (Kd.C_below HR0_1.out HB.out)) HC0_1.out A2.out) ?_; rintro w8 hb; replace BK393 := bB BK393 hb; replace BK394 := bB BK394 hb; replace HB := hS HB hb; clear hb))
 (try simp only [Act.put, List.setIfInBounds_toArray, List.set_cons_zero, List.set_cons_succ])
 go_cut [19] (fun v19 wc => ∃ (kq : Nat) (x19_2 : Bool), v19 = .bool x19_2 ∧ Aside0 (impl_HarderPuzzle.j0 kq x19_2 a0_0 l0_1 = some (r1, r2, r3)) ∧ Aside0 (kq ≤ k) ∧ Aside0 (wc.heap[gb393]? = some (.cells #[.int .i64 a0_0, (.slice A0_1 l0_1.length c0_1)] 28 (0, 0))) ∧ Aside0 (wc.heap[gb394]? = some (.cells #[.int .i64 0, (.slice none 0 0)] 28 (0, 0))) ∧ Aside0 (Below w.heap.size w wc))
 case first =>
  have H := HC3.out
  clear HC3
  refine iB H ?_ ?_ <;> clear H <;> rintro rfl H
  ·have H' := aM H
   clear H
   go_wp2
   go_meet
   case rel => exact ⟨_, (!t395), rF, H', kL, ⟨bU BK393.out⟩, ⟨bU BK394.out⟩, hV HB⟩
  have H' := aM H
  clear H
  go_wp2
  go_meet
  case rel => exact ⟨_, (true), rF, H', kL, ⟨bU BK393.out⟩, ⟨bU BK394.out⟩, hV HB⟩
 case rest =>
  clear HC3
  try clear hcz7_0;try clear hcz7_1;try clear hfz7_0;try clear hfz7_1
  obtain ⟨kq, x19_2, rfl, HA, HJ2, BK393, BK394, HB⟩ := hcut
  obtain rfl | ⟨kj2, rfl⟩ := fz kq
  ·exact zA HA
  have H := HA.out
  clear HA
  simp only [impl_HarderPuzzle.j0] at H
  refine iB H ?_ ?_ <;> clear H <;> rintro rfl H
  ·simp only [Option.some.injEq, Prod.mk.injEq] at H
   obtain ⟨rfl, rfl, rfl⟩ := H
   have hnb11 := NB394_393.out
   have hnc11 := NB393_394.out
   obtain ⟨hcz12_0, hcz12_1, hfz12_0, hfz12_1⟩ := hC2 BK394
   go_wp2
   refine bodyPost_ret (results_ct rfl _ _ gb394 28 #[.int .i64 0, .slice none 0 0] (0, 0) _ rfl (bP2 BK394) Tryz.underlying28 rfl (by kernel_rfl)) rfl ?_
   exact ⟨_, eW, by first | exact Kd.R_nil _ _ _ _ _ | exact Kd.N_nil _ _ _ _ _ | exact Kd.V_nil _ _ _ _ _ | exact Kd.Q_nil _ _ _ _ _ | exact Kd.S_nil _ _ _ _ _, bel HB⟩
  replace H := bC H; obtain ⟨t397, A13, H⟩ := H
  have H' := aM H
  clear H
  try go_wp2
  have n0_ := aM (blk_drew BK393.out)
  have n1_ := aM (blk_drew BK394.out)
  have n2_ := aM (below_drew1 HB.out)
  clear BK393
  clear BK394
  clear HB
  have BK393 := n0_
  have BK394 := n1_
  have HB := n2_
  clear n0_ n1_ n2_
  refine start_ (n := 8) (S := fun w' => w'.cell? ⟨gb393, 0, none⟩ = some (.int .i64 a0_0) ∧ w'.cell? ⟨gb393, 1, none⟩ = some (.slice A0_1 l0_1.length c0_1)) (ds := []) (bn 8 0) (by kernel_rfl) rfl rfl ⟨(blk_cell BK393.out 0).trans rfl, (blk_cell BK393.out 1).trans rfl⟩ (fun hHeld => ?_); refine with_tabW impl_HarderPuzzle.tab4 impl_HarderPuzzle.bits4 (fun HT_ HW_ => ?_)
  generalize wc.drew = w14 at BK393 BK394 HB hHeld ⊢
  refine pU 0 (some 21) (bn 8 1) ?_
  refine pU 2 (some 23) (bn 8 5) ?_
  refine take_ (i := 1) (N := some 22) (v := ?_) (a' := ?_) (bn 8 7) rfl rfl (take_ofW HT_.out HW_.out (by kernel_rfl)) (fun _ _ _ h => h) (Or.inl ⟨by rfl, ?_⟩) hHeld ?_ ?_
  rotate_left
  ·rintro w' ⟨s0, s1⟩
   go_simp
   with_reducible rfl
  rotate_left
  ·simp only [Act.put, List.setIfInBounds_toArray, List.set_cons_zero, List.set_cons_succ, i64_w, i32_w]
   rfl
  refine take_ (i := 3) (N := some 24) (v := ?_) (a' := ?_) (bn 8 15) rfl rfl (take_ofW HT_.out HW_.out (by kernel_rfl)) (fun _ _ _ h => h) (Or.inl ⟨by rfl, ?_⟩) hHeld ?_ ?_
  rotate_left
  ·rintro w' ⟨s0, s1⟩
   go_simp
   with_reducible rfl
  rotate_left
  ·simp only [Act.put, List.setIfInBounds_toArray, List.set_cons_zero, List.set_cons_succ, i64_w, i32_w]
   rfl
  refine join_ (σ := Value × Nat) 1 #[true, true, true, true, true, true, true, false] (fun s_ => [(25, s_.1), (6, .pointer (some ⟨s_.2, 0, none⟩)), (26, .agg #[.int .i64 a0_0, s_.1])]) (fun s_ w' => (w'.cell? ⟨gb393, 0, none⟩ = some (.int .i64 a0_0) ∧ w'.cell? ⟨gb393, 1, none⟩ = some (.slice A0_1 l0_1.length c0_1)) ∧ (Kd.R k40 40 w' w.heap.size (fun _ => True) s_.1 t397) ∧ (w'.heap[gb393]? = some (.cells #[.int .i64 a0_0, .slice A0_1 l0_1.length c0_1] 28 (0, 0))) ∧ (w'.heap[gb394]? = some (.cells #[.int .i64 0, .slice none 0 0] 28 (0, 0))) ∧ (w'.heap[s_.2]? = some (.cells #[.int .i64 0, .slice none 0 0] 28 (0, 0))) ∧ (w.heap.size ≤ s_.2) ∧ (w.heap.size ≤ s_.2) ∧ (gb393 ≠ s_.2) ∧ (s_.2 ≠ gb393) ∧ (gb394 ≠ s_.2) ∧ (s_.2 ≠ gb394) ∧ (Below w.heap.size w w')) ?_ ?_
  rotate_left
  ·intro hCont
   refine two_ (i := 4) (j := 6) (Ni := some 25) (Nj := some 6) #[true, true, true, true, true, false, false, false] #[true, true, true, true, false, false, true, false] rfl rfl rfl rfl (two_of HT_.out (by kernel_rfl)) (by decide) (by decide) (fun K hK => ?_) (fun K hK => ?_)
   ·skip
    refine goes_ Tryz.func56 (by kernel_rfl) rfl #[.slice A0_1 l0_1.length c0_1] (by rfl) rfl rfl (by (try simp only [List.map_toArray, List.map_cons, List.map_nil]); first | done | rfl | (simp only [List.length_drop, List.length_take]; rfl)) ?_
    with_reducible refine (impl_Clue_56.calls _ _ l0_1 t397 _ ?side1 ?side2 A13.out).mono ?_
    (case side1 => exact cU (Kd.C_below HR0_1.out HB.out))
    (case side2 => exact HC0_1.out)
    rintro e w15 ⟨v398, rfl, ho0, hb⟩
    refine ⟨_, rfl, ?_⟩
    have n0_ := rL ho0 HB
    have n1_ := bB BK393 hb
    have n2_ := bB BK394 hb
    have n3_ := hS HB hb
    clear BK393
    clear BK394
    clear HB
    have HO399 := n0_
    have BK393 := n1_
    have BK394 := n2_
    have HB := n3_
    clear n0_ n1_ n2_ n3_
    (try clear hb)
    (try clear hb2)
    (try clear hk)
    (try clear hi)
    (try clear ho0)
    obtain ⟨Ao16, co16, eo16⟩ := Kd.R_slice HO399.out
    (first | subst eo16 | (injection eo16 with f1_ f2_ f3_; have f4_ := f1_.symm; have f5_ := f3_.symm; clear f1_ f2_ f3_; subst f4_; subst f5_))
    refine hK.out _ _ ⟨(blk_cell BK393.out 0).trans rfl, (blk_cell BK393.out 1).trans rfl⟩ (fun hHeld => ?_)
    clear hK K
    refine norm_ (a' := ?_) ?_ ?_
    rotate_left
    ·show Act.put _ (some 25) _ = _
     simp only [Act.put, List.setIfInBounds_toArray, List.set_cons_zero, List.set_cons_succ, i64_w, i32_w]
     rfl
    refine pU 5 (some 26) (bn 8 63) ?_
    refine one_ (i := 6) (N := some 6) (bn 8 127) rfl rfl (one_of HT_.out (by kernel_rfl)) (by decide) (fun K hK => ?_)
    refine box_step ?hg (N := 6) ?hd (cs := #[.int .i64 0, .slice none 0 0]) (t := 28) ?hr ?_; (case hd => rfl); (case hg => rfl); (case hr => first | (go_simp; done) | (go_simp; rfl))
    intro gb400 hg w17 hbox hb
    have n0_ := rB HO399 hb
    have n1_ := bB BK393 hb
    have n2_ := bB BK394 hb
    have n3_ := hS HB hb
    have n4_ := aM hbox
    have n5_ := gE hg HB
    have n6_ := gE hg HB
    have n7_ := nbL hg BK393
    have n8_ := nbR hg BK393
    have n9_ := nbL hg BK394
    have n10_ := nbR hg BK394
    clear HO399
    clear BK393
    clear BK394
    clear HB
    have HO399 := n0_
    have BK393 := n1_
    have BK394 := n2_
    have HB := n3_
    have BK400 := n4_
    have GW400 := n5_
    have GE400 := n6_
    have NB393_400 := n7_
    have NB400_393 := n8_
    have NB394_400 := n9_
    have NB400_394 := n10_
    clear n0_ n1_ n2_ n3_ n4_ n5_ n6_ n7_ n8_ n9_ n10_
    clear hb hbox hg
    refine hK.out _ _ ⟨(blk_cell BK393.out 0).trans rfl, (blk_cell BK393.out 1).trans rfl⟩ (fun hHeld => ?_)
    clear hK K
    refine norm_ (a' := ?_) ?_ ?_
    rotate_left
    ·show Act.put _ (some 6) _ = _
     simp only [Act.put, List.setIfInBounds_toArray, List.set_cons_zero, List.set_cons_succ, i64_w, i32_w]
     rfl
    exact norm_ (by simp only [putAll, Act.put, List.setIfInBounds_toArray, List.set_cons_zero, List.set_cons_succ]) (hCont (.slice Ao16 t397.length co16, gb400) _ ⟨hHeld, (rU HO399.out), (bU BK393.out), (bU BK394.out), (bU BK400.out), GW400.out, GE400.out, NB393_400.out, NB400_393.out, NB394_400.out, NB400_394.out, (bel HB)⟩)
   skip
   refine box_step ?hg (N := 6) ?hd (cs := #[.int .i64 0, .slice none 0 0]) (t := 28) ?hr ?_; (case hd => rfl); (case hg => rfl); (case hr => first | (go_simp; done) | (go_simp; rfl))
   intro gb400 hg w15 hbox hb
   have n0_ := bB BK393 hb
   have n1_ := bB BK394 hb
   have n2_ := hS HB hb
   have n3_ := aM hbox
   have n4_ := gE hg HB
   have n5_ := gE hg HB
   have n6_ := nbL hg BK393
   have n7_ := nbR hg BK393
   have n8_ := nbL hg BK394
   have n9_ := nbR hg BK394
   clear BK393
   clear BK394
   clear HB
   have BK393 := n0_
   have BK394 := n1_
   have HB := n2_
   have BK400 := n3_
   have GW400 := n4_
   have GE400 := n5_
   have NB393_400 := n6_
   have NB400_393 := n7_
   have NB394_400 := n8_
   have NB400_394 := n9_
   clear n0_ n1_ n2_ n3_ n4_ n5_ n6_ n7_ n8_ n9_
   clear hb hbox hg
   refine hK.out _ _ ⟨(blk_cell BK393.out 0).trans rfl, (blk_cell BK393.out 1).trans rfl⟩ (fun hHeld => ?_)
   clear hK K
   refine norm_ (a' := ?_) ?_ ?_
   rotate_left
   ·show Act.put _ (some 6) _ = _
    simp only [Act.put, List.setIfInBounds_toArray, List.set_cons_zero, List.set_cons_succ, i64_w, i32_w]
    rfl
   refine one_ (i := 4) (N := some 25) (bn 8 95) rfl rfl (one_of HT_.out (by kernel_rfl)) (by decide) (fun K hK => ?_)
   refine goes_ Tryz.func56 (by kernel_rfl) rfl #[.slice A0_1 l0_1.length c0_1] (by rfl) rfl rfl (by (try simp only [List.map_toArray, List.map_cons, List.map_nil]); first | done | rfl | (simp only [List.length_drop, List.length_take]; rfl)) ?_
   with_reducible refine (impl_Clue_56.calls _ _ l0_1 t397 _ ?side1 ?side2 A13.out).mono ?_
   (case side1 => exact cU (Kd.C_below HR0_1.out HB.out))
   (case side2 => exact HC0_1.out)
   rintro e w16 ⟨v398, rfl, ho0, hb⟩
   refine ⟨_, rfl, ?_⟩
   have n0_ := rL ho0 HB
   have n1_ := bB BK393 hb
   have n2_ := bB BK394 hb
   have n3_ := bB BK400 hb
   have n4_ := hS HB hb
   clear BK393
   clear BK394
   clear BK400
   clear HB
   have HO399 := n0_
   have BK393 := n1_
   have BK394 := n2_
   have BK400 := n3_
   have HB := n4_
   clear n0_ n1_ n2_ n3_ n4_
   (try clear hb)
   (try clear hb2)
   (try clear hk)
   (try clear hi)
   (try clear ho0)
   obtain ⟨Ao17, co17, eo17⟩ := Kd.R_slice HO399.out
   (first | subst eo17 | (injection eo17 with f1_ f2_ f3_; have f4_ := f1_.symm; have f5_ := f3_.symm; clear f1_ f2_ f3_; subst f4_; subst f5_))
   refine hK.out _ _ ⟨(blk_cell BK393.out 0).trans rfl, (blk_cell BK393.out 1).trans rfl⟩ (fun hHeld => ?_)
   clear hK K
   refine norm_ (a' := ?_) ?_ ?_
   rotate_left
   ·show Act.put _ (some 25) _ = _
    simp only [Act.put, List.setIfInBounds_toArray, List.set_cons_zero, List.set_cons_succ, i64_w, i32_w]
    rfl
   refine pU 5 (some 26) (bn 8 127) ?_
   exact norm_ (by simp only [putAll, Act.put, List.setIfInBounds_toArray, List.set_cons_zero, List.set_cons_succ]) (hCont (.slice Ao17 t397.length co17, gb400) _ ⟨hHeld, (rU HO399.out), (bU BK393.out), (bU BK394.out), (bU BK400.out), GW400.out, GE400.out, NB393_400.out, NB400_393.out, NB394_400.out, NB400_394.out, (bel HB)⟩)
  rintro ⟨v398, gb400⟩ w18 ⟨hS_, h0_, h1_, h2_, h3_, h4_, h5_, h6_, h7_, h8_, h9_, h10_⟩
  have n0_ : Aside0 (Kd.R k40 40 w18 w.heap.size (fun _ => True) v398 t397) := ⟨h0_⟩
  have n1_ : Aside0 (w18.heap[gb393]? = some (.cells #[.int .i64 a0_0, .slice A0_1 l0_1.length c0_1] 28 (0, 0))) := ⟨h1_⟩
  have n2_ : Aside0 (w18.heap[gb394]? = some (.cells #[.int .i64 0, .slice none 0 0] 28 (0, 0))) := ⟨h2_⟩
  have n3_ : Aside0 (w18.heap[gb400]? = some (.cells #[.int .i64 0, .slice none 0 0] 28 (0, 0))) := ⟨h3_⟩
  have n4_ : Ge w gb400 := ⟨h4_⟩
  have n5_ : Ge w gb400 := ⟨h5_⟩
  have n6_ : Ap gb393 gb400 := ⟨h6_⟩
  have n7_ : Ap gb400 gb393 := ⟨h7_⟩
  have n8_ : Ap gb394 gb400 := ⟨h8_⟩
  have n9_ : Ap gb400 gb394 := ⟨h9_⟩
  have n10_ : Aside0 (Below w.heap.size w w18) := ⟨h10_⟩
  clear BK393
  clear BK394
  clear HB
  clear h0_ h1_ h2_ h3_ h4_ h5_ h6_ h7_ h8_ h9_ h10_
  have HO399 := n0_
  have BK393 := n1_
  have BK394 := n2_
  have BK400 := n3_
  have GW400 := n4_
  have GE400 := n5_
  have NB393_400 := n6_
  have NB400_393 := n7_
  have NB394_400 := n8_
  have NB400_394 := n9_
  have HB := n10_
  clear n0_ n1_ n2_ n3_ n4_ n5_ n6_ n7_ n8_ n9_ n10_
  have hHeld : w18.cell? ⟨gb393, 0, none⟩ = some (.int .i64 a0_0) ∧ w18.cell? ⟨gb393, 1, none⟩ = some (.slice A0_1 l0_1.length c0_1) := hS_
  obtain ⟨Ao19, co19, eo19⟩ := Kd.R_slice HO399.out
  (first | subst eo19 | (injection eo19 with f1_ f2_ f3_; have f4_ := f1_.symm; have f5_ := f3_.symm; clear f1_ f2_ f3_; subst f4_; subst f5_))
  refine norm_ (a' := ?_) ?_ ?_
  rotate_left
  ·simp only [putAll, Act.put, List.setIfInBounds_toArray, List.set_cons_zero, List.set_cons_succ]
   rfl
  refine one_ (i := 7) (N := none) (bn 8 255) rfl rfl (one_of HT_.out (by kernel_rfl)) (by decide) (fun K hK => ?_)
  have hs20 : w18.cell? ⟨gb400, 0, none⟩ = some (.int .i64 0) := (blk_cell BK400.out 0).trans rfl
  have hfs20 := blk_frozen BK400.out 0
  have hns20_0 := NB393_400.out
  have hns20_1 := NB394_400.out
  have hms20_0 := NB400_393.out
  have hms20_1 := NB400_394.out
  have hs21 : w18.cell? ⟨gb400, 1, none⟩ = some (.slice none 0 0) := (blk_cell BK400.out 1).trans rfl
  have hfs21 := blk_frozen BK400.out 1
  have hns21_0 := NB393_400.out
  have hns21_1 := NB394_400.out
  have hms21_0 := NB400_393.out
  have hms21_1 := NB400_394.out
  refine skip_ (w1 := ?_) (by rfl) rfl ?_ ?_
  rotate_left
  ·go_simp
   rfl
  refine hK.out _ _ ⟨((cell_far (p := ⟨gb400, _, none⟩) NB393_400.out _).trans (((cell_far (p := ⟨gb400, _, none⟩) NB393_400.out _).trans (hHeld.1)))), ((cell_far (p := ⟨gb400, _, none⟩) NB393_400.out _).trans (((cell_far (p := ⟨gb400, _, none⟩) NB393_400.out _).trans (hHeld.2))))⟩ (fun hHeld => ?_)
  clear hK K
  refine done_ (done_of HT_.out (by kernel_rfl)) ?_
  try go_wp2
  go_loopg [7] kj2 (fun kq v7 w' => ∃ (x7_2 : Int) (x401000_2 : Int) (x401001_2 : List (S40)) (u401001 : Value), v7 = .int .i64 x7_2 ∧ Aside0 (impl_HarderPuzzle.l0 kq x7_2 x401000_2 x401001_2 = some (r1, r2, r3)) ∧ Aside0 (kq ≤ kj2) ∧ Aside0 (Kd.R k40 40 w' w.heap.size (fun _ => True) u401001 x401001_2) ∧ Aside0 (w'.heap[gb393]? = some (.cells #[.int .i64 a0_0, (.slice A0_1 l0_1.length c0_1)] 28 (0, 0))) ∧ Aside0 (w'.heap[gb394]? = some (.cells #[.int .i64 0, (.slice none 0 0)] 28 (0, 0))) ∧ Aside0 (w'.heap[gb400]? = some (.cells #[.int .i64 x401000_2, u401001] 28 (0, 0))) ∧ Aside0 (Below w.heap.size w w'))
  case atStart => exact ⟨(0), (a0_0), (t397), (.slice Ao19 t397.length co19), rF, H', kR, ⟨rU (Kd.R_mono (Kd.R_far (p := ⟨gb400, 1, none⟩) (Kd.R_far (p := ⟨gb400, 0, none⟩) (Kd.R_types HO399.out BK400.out (by decide)) (fun _ hk => hk.2) (.int .i64 a0_0)) (fun _ hk => hk.2) (.slice Ao19 t397.length co19)) (fun _ hk => trivial))⟩, ⟨kU BK393.out⟩, ⟨kU BK394.out⟩, ⟨bP2 BK400⟩, hV HB⟩
  case round =>
   clear H'
   obtain ⟨x7_2, x401000_2, x401001_2, u401001, rfl, HA, HK2, HO_401001, BK393, BK394, BK400, HB⟩ := hrel
   obtain rfl | ⟨k2, rfl⟩ := fz gk
   ·exact zA HA
   have H := HA.out
   clear HA
   simp only [impl_HarderPuzzle.l0] at H
   refine iI H ?_ ?_ <;> clear H <;> intro c22 H
   ·have c22b0 := dT c22
    clear c22
    replace H := bC H; obtain ⟨⟨t401, t402⟩, A23, H⟩ := H; try dsimp only at H
    replace H := bC H; obtain ⟨t406, A24, H⟩ := H
    refine iI H ?_ ?_ <;> clear H <;> intro c25 H
    ·have c25b0 := qT c25
     have c25b1 := nF c25
     clear c25
     have H' := aM H
     clear H
     have hnb26 := NB400_393.out
     have hnc26 := NB393_400.out
     have hnb27 := NB400_394.out
     have hnc27 := NB394_400.out
     obtain ⟨hcz28_0, hcz28_1, hfz28_0, hfz28_1⟩ := hC2 BK400
     obtain ⟨Ao29, co29, eo29⟩ := Kd.R_slice HO_401001.out
     subst eo29
     go_wp2_with (first | ((with_reducible refine gG 57 (some 34) rfl rfl ?_); refine gD Tryz.func57 (impl_Puzzle_without.calls x401000_2 _ _ x401001_2 x7_2 t401 t402 _ (cU ((Kd.R_reads' HO_401001.out).2.2)) ((Kd.R_reads' HO_401001.out).2.1) A23.out) ?_; rintro w30 v403 ⟨ho0, hb⟩; have HO404 := aM (Kd.R_lower (Kd.R_new' ho0 (Kd.R_lt (rU HO_401001.out))) (below_size (bel HB))); replace HO_401001 := aM (Kd.R_elder' (rU HO_401001.out) (Kd.R_base ho0) hb); replace BK393 := bB BK393 hb; replace BK394 := bB BK394 hb; replace BK400 := bB BK400 hb; replace HB := hS HB hb; clear hb ho0) | (refine bX (N := 8) rfl (cs := #[.int .i64 0, .slice none 0 0]) (t := 28) ?_; intro gb405 hg w31 BK405 hb; have GW405 := gE hg HB; have GE405 := gE hg HB; have NB393_405 := nbL hg BK393; have NB405_393 := nbR hg BK393; have NB394_405 := nbL hg BK394; have NB405_394 := nbR hg BK394; have NB400_405 := nbL hg BK400; have NB405_400 := nbR hg BK400; replace HO_401001 := rB HO_401001 hb; replace HO404 := rB HO404 hb; replace BK393 := bB BK393 hb; replace BK394 := bB BK394 hb; replace BK400 := bB BK400 hb; replace HB := hS HB hb; clear hb hg; have hnb32 := NB405_393.out; have hnc32 := NB393_405.out; have hnb33 := NB405_394.out; have hnc33 := NB394_405.out; have hnb34 := NB405_400.out; have hnc34 := NB400_405.out; obtain ⟨hcz35_0, hcz35_1, hfz35_0, hfz35_1⟩ := hC2 BK405; obtain ⟨Ao36, co36, eo36⟩ := Kd.R_slice HO404.out; subst eo36) | ((with_reducible refine gG 47 (some 36) rfl rfl ?_); refine gL Tryz.func47 #[.agg #[.int .i64 t401, .slice Ao36 t402.length co36]] ?_; (with_reducible refine (impl_Puzzle_solutions.calls t401 _ _ t402 t406 _ ?side1 ((Kd.R_reads' HO404.out).2.1) A24.out).mono ?_); (case side1 => refine (Kd.R_reads' (e := 40) (base := w.heap.size) (ok := fun k_ => (True ∧ some k_ ≠ (.slice Ao29 x401001_2.length co29 : Value).ownBlock)) (n := t402.length) (c := co36) ?_).2.2; exact (rQ2 HO404 BK405)); rintro e w37 ⟨v407, rfl, ho0, hb⟩; refine ⟨_, rfl, ?_⟩; have HO408 := rL ho0 HB; replace HO_401001 := aM (Kd.R_below (rQ2 HO_401001 BK405) hb); replace HO404 := aM (Kd.R_below (rQ2 HO404 BK405) hb); replace BK393 := bK BK393 hb; replace BK394 := bK BK394 hb; replace BK400 := bK BK400 hb; replace BK405 := aM (blk_below (g := gb405) (o := .cells #[.int .i64 t401, .slice Ao36 t402.length co36] 28 (0, 0)) (bP2 BK405) hb); replace HB := hS HB hb; clear hb ho0; obtain ⟨Ao38, co38, eo38⟩ := Kd.R_slice HO408.out; subst eo38; obtain ⟨hcz39_0, hcz39_1, hfz39_0, hfz39_1⟩ := hC2 BK405; obtain ⟨hcz40_0, hcz40_1, hfz40_0, hfz40_1⟩ := hC2 BK400))
     go_roundg k2
     case measure => have := HJ2.out; have := HK2.out; omega
     case rel => exact ⟨(x7_2), (t401), (t402), (.slice Ao36 t402.length co36), rF, H', ⟨by have := HJ2.out; have := HK2.out; omega⟩, ⟨rU (Kd.R_mono (Kd.R_far (p := ⟨gb400, 1, none⟩) (Kd.R_far (p := ⟨gb400, 0, none⟩) (Kd.R_types HO404.out BK400.out (by decide)) (fun _ hk => hk.2) (.int .i64 t401)) (fun _ hk => hk.2) (.slice Ao36 t402.length co36)) (fun _ hk => trivial))⟩, ⟨kU BK393.out⟩, ⟨kU BK394.out⟩, ⟨bP2 BK400⟩, hV HB⟩
    have c25b0 := qF c25
    have c25b1 := nT c25
    have H' := aM H
    clear H
    have hnb41 := NB400_393.out
    have hnc41 := NB393_400.out
    have hnb42 := NB400_394.out
    have hnc42 := NB394_400.out
    obtain ⟨hcz43_0, hcz43_1, hfz43_0, hfz43_1⟩ := hC2 BK400
    obtain ⟨Ao44, co44, eo44⟩ := Kd.R_slice HO_401001.out
    subst eo44
    go_wp2_with (first | ((with_reducible refine gG 57 (some 34) rfl rfl ?_); refine gD Tryz.func57 (impl_Puzzle_without.calls x401000_2 _ _ x401001_2 x7_2 t401 t402 _ (cU ((Kd.R_reads' HO_401001.out).2.2)) ((Kd.R_reads' HO_401001.out).2.1) A23.out) ?_; rintro w45 v403 ⟨ho0, hb⟩; have HO404 := aM (Kd.R_lower (Kd.R_new' ho0 (Kd.R_lt (rU HO_401001.out))) (below_size (bel HB))); replace HO_401001 := aM (Kd.R_elder' (rU HO_401001.out) (Kd.R_base ho0) hb); replace BK393 := bB BK393 hb; replace BK394 := bB BK394 hb; replace BK400 := bB BK400 hb; replace HB := hS HB hb; clear hb ho0) | (refine bX (N := 8) rfl (cs := #[.int .i64 0, .slice none 0 0]) (t := 28) ?_; intro gb405 hg w46 BK405 hb; have GW405 := gE hg HB; have GE405 := gE hg HB; have NB393_405 := nbL hg BK393; have NB405_393 := nbR hg BK393; have NB394_405 := nbL hg BK394; have NB405_394 := nbR hg BK394; have NB400_405 := nbL hg BK400; have NB405_400 := nbR hg BK400; replace HO_401001 := rB HO_401001 hb; replace HO404 := rB HO404 hb; replace BK393 := bB BK393 hb; replace BK394 := bB BK394 hb; replace BK400 := bB BK400 hb; replace HB := hS HB hb; clear hb hg; have hnb47 := NB405_393.out; have hnc47 := NB393_405.out; have hnb48 := NB405_394.out; have hnc48 := NB394_405.out; have hnb49 := NB405_400.out; have hnc49 := NB400_405.out; obtain ⟨hcz50_0, hcz50_1, hfz50_0, hfz50_1⟩ := hC2 BK405; obtain ⟨Ao51, co51, eo51⟩ := Kd.R_slice HO404.out; subst eo51) | ((with_reducible refine gG 47 (some 36) rfl rfl ?_); refine gL Tryz.func47 #[.agg #[.int .i64 t401, .slice Ao51 t402.length co51]] ?_; (with_reducible refine (impl_Puzzle_solutions.calls t401 _ _ t402 t406 _ ?side1 ((Kd.R_reads' HO404.out).2.1) A24.out).mono ?_); (case side1 => refine (Kd.R_reads' (e := 40) (base := w.heap.size) (ok := fun k_ => (True ∧ some k_ ≠ (.slice Ao44 x401001_2.length co44 : Value).ownBlock)) (n := t402.length) (c := co51) ?_).2.2; exact (rQ2 HO404 BK405)); rintro e w52 ⟨v407, rfl, ho0, hb⟩; refine ⟨_, rfl, ?_⟩; have HO408 := rL ho0 HB; replace HO_401001 := aM (Kd.R_below (rQ2 HO_401001 BK405) hb); replace HO404 := aM (Kd.R_below (rQ2 HO404 BK405) hb); replace BK393 := bK BK393 hb; replace BK394 := bK BK394 hb; replace BK400 := bK BK400 hb; replace BK405 := aM (blk_below (g := gb405) (o := .cells #[.int .i64 t401, .slice Ao51 t402.length co51] 28 (0, 0)) (bP2 BK405) hb); replace HB := hS HB hb; clear hb ho0; obtain ⟨Ao53, co53, eo53⟩ := Kd.R_slice HO408.out; subst eo53))
    go_roundg k2
    case measure => have := HJ2.out; have := HK2.out; omega
    case rel => exact ⟨(wrap64 (x7_2 + 1)), (x401000_2), (x401001_2), (.slice Ao44 x401001_2.length co44), rF, H', ⟨by have := HJ2.out; have := HK2.out; omega⟩, ⟨rU (Kd.R_mono HO_401001.out (fun _ hk => trivial))⟩, ⟨bU BK393.out⟩, ⟨bU BK394.out⟩, ⟨bU BK400.out⟩, hV HB⟩
   have c22b0 := dF c22
   clear c22
   simp only [Option.some.injEq, Prod.mk.injEq] at H
   obtain ⟨rfl, rfl, rfl⟩ := H
   have hnb54 := NB400_393.out
   have hnc54 := NB393_400.out
   have hnb55 := NB400_394.out
   have hnc55 := NB394_400.out
   obtain ⟨hcz56_0, hcz56_1, hfz56_0, hfz56_1⟩ := hC2 BK400
   obtain ⟨Ao57, co57, eo57⟩ := Kd.R_slice HO_401001.out
   subst eo57
   have hnb58 := NB394_393.out
   have hnc58 := NB393_394.out
   obtain ⟨hcz59_0, hcz59_1, hfz59_0, hfz59_1⟩ := hC2 BK394
   go_wp2
   refine bodyPost_ret (results_ct rfl _ _ gb394 28 #[.int .i64 x401000_2, .slice Ao57 x401001_2.length co57] (0, 0) _ rfl (bP2 BK394) Tryz.underlying28 rfl (by kernel_rfl)) rfl ?_
   exact ⟨_, eW, rU (Kd.R_mono (Kd.R_far (p := ⟨gb394, 1, none⟩) (Kd.R_far (p := ⟨gb394, 0, none⟩) (Kd.R_types HO_401001.out BK394.out (by decide)) (fun _ hk => hk.2) (.int .i64 x401000_2)) (fun _ hk => hk.2) (.slice Ao57 x401001_2.length co57)) (fun _ hk => trivial)), bel HB⟩

/-! ### spec_pzRings: function 64 -/
def spec_pzRings.f (a0 : Int) : Option (Bool) := (spec_l1In.f a0 1 7).bind fun t409 => (some t409)
set_option maxHeartbeats 8000000 in
set_option maxRecDepth 100000 in
theorem spec_pzRings.calls (a0 : Int) (r : Bool) (w : World) (h : spec_pzRings.f a0 = some r) :
  Calls Tryz.prog 64 #[.int .i64 a0] w fun e w' => e = .returned (.bool r) ∧ Drawn0 w w' := by
 have H := h
 clear h; unfold spec_pzRings.f at H
 replace H := bC H; obtain ⟨t409, A2, H⟩ := H
 obtain rfl := Option.some.inj H
 go_enter Tryz.func64, Tryz.ntmps64
 go_wp2_with (first | ((with_reducible refine gG 44 (some 4) rfl rfl ?_); refine gL Tryz.func44 #[.int .i64 a0, .int .i64 1, .int .i64 7] ?_; (with_reducible refine (spec_l1In.calls a0 1 7 t409 _ A2.out).mono ?_); rintro e w' ⟨rfl, ⟨nd, rfl⟩⟩; refine ⟨_, rfl, ?_⟩))
 go_ret
 exact ⟨rF, d0⟩

/-! ### spec_pzGood: function 58 -/
mutual
def spec_pzGood.j0 : Nat → Bool → Int → List (S40) → Option (Bool)
 | 0, _, _, _ => none
 | k + 1, x14, x411000, x411001 => if x14 = true then (some false) else (spec_pzGood.l0 k x411001 (x411001.length : Int) 0 x411000 x411001)
def spec_pzGood.l0 : Nat → List (S40) → Int → Int → Int → List (S40) → Option (Bool)
 | 0, _, _, _, _, _ => none
 | k + 1, x16, x17, x18, x411000, x411001 => if x18 < x17 then (if 0 ≤ x18 then (if x18 < (x16.length : Int) then ((spec_pzClue.f k x411000 ((rd_T40 x16 x18).f0) ((rd_T40 x16 x18).f1) ((rd_T40 x16 x18).f2)).bind fun t414 => (if t414 = true then (spec_pzGood.l0 k x16 x17 (wrap64 (x18 + 1)) x411000 x411001) else (some false))) else (none)) else (none)) else (some true)
end
def spec_pzGood.f (k : Nat) (a0_0 : Int) (l0_1 : List (S40)) : Option (Bool) := (spec_pzRings.f a0_0).bind fun t411 => (if t411 = true then (spec_pzGood.j0 k (decide ((l0_1.length : Int) > 6)) a0_0 l0_1) else (spec_pzGood.j0 k true a0_0 l0_1))
theorem spec_pzGood.mono_l : ∀ k, Mo (spec_pzGood.j0 k) (spec_pzGood.j0 (k + 1)) ∧ Mo (spec_pzGood.l0 k) (spec_pzGood.l0 (k + 1))
 | 0 => m0
 | k + 1 => by
  have ⟨ih0, ih1⟩ := spec_pzGood.mono_l k
  refine ⟨?_, ?_⟩ <;> (repeat refine mE fun _ => ?_) <;> first | (unfold spec_pzGood.j0; exact mG) | (unfold spec_pzGood.l0; exact mG)
instance spec_pzGood.mI (k : Nat) : Mo (spec_pzGood.f k) (spec_pzGood.f (k + 1)) := by
 have ⟨ih0, ih1⟩ := spec_pzGood.mono_l k
 (repeat refine mE fun _ => ?_); unfold spec_pzGood.f; exact mG
theorem spec_pzGood.mono : ∀ a0 a1 k, LeO (spec_pzGood.f k a0 a1) (spec_pzGood.f (k + 1) a0 a1) := fun a0 a1 k => (spec_pzGood.mI k).out a0 a1
set_option maxHeartbeats 8000000 in
set_option maxRecDepth 100000 in
theorem spec_pzGood.calls (k : Nat) (a0_0 : Int) (A0_1 : Option Addr) (c0_1 : Nat) (l0_1 : List (S40)) (r : Bool) (w : World) (hr0_1 : Kd.C k40 w A0_1 l0_1.length l0_1) (hc0_1 : l0_1.length ≤ c0_1) (h : spec_pzGood.f k a0_0 l0_1 = some r) :
  Calls Tryz.prog 58 #[.agg #[.int .i64 a0_0, .slice A0_1 l0_1.length c0_1]] w fun e w' => e = .returned (.bool r) ∧ Below w.heap.size w w' := by
 have hu28 := Tryz.underlying28
 have hu40 := Tryz.underlying40
 have HR0_1 := aM hr0_1
 have HC0_1 := aM hc0_1
 clear hr0_1 hc0_1
 have HB := aM (Below.refl w.heap.size w)
 have H := h
 clear h; unfold spec_pzGood.f at H
 have HC2 := aM H
 clear H
 go_enter Tryz.func58, Tryz.ntmps58
 go_upto_region 1 with (first | ((with_reducible refine gate_dst (N := 1) rfl ?_); (try (refine gate_guard (by rfl) ?_; dsimp only)); refine bX (N := 1) rfl (cs := #[.int .i64 a0_0, .slice A0_1 l0_1.length c0_1]) (t := 28) ?_; intro gb410 hg w3 BK410 hb; have GW410 := gE hg HB; have GE410 := gE hg HB; replace HB := hS HB hb; clear hb hg))
 (try simp only [Act.put, List.setIfInBounds_toArray, List.set_cons_zero, List.set_cons_succ])
 go_cut [14] (fun v14 wc => ∃ (kq : Nat) (x14_1 : Bool), v14 = .bool x14_1 ∧ Aside0 (spec_pzGood.j0 kq x14_1 a0_0 l0_1 = some r) ∧ Aside0 (kq ≤ k) ∧ Aside0 (wc.heap[gb410]? = some (.cells #[.int .i64 a0_0, (.slice A0_1 l0_1.length c0_1)] 28 (0, 0))) ∧ Aside0 (Below w.heap.size w wc))
 case first =>
  have H := HC2.out
  clear HC2
  replace H := bC H; obtain ⟨t411, A4, H⟩ := H
  refine iB H ?_ ?_ <;> clear H <;> rintro rfl H
  ·have H' := aM H
   clear H
   obtain ⟨hcz6_0, hcz6_1, hfz6_0, hfz6_1⟩ := hC2 BK410
   go_wp2_with (first | ((with_reducible refine gG 64 (some 7) rfl rfl ?_); refine gL Tryz.func64 #[.int .i64 a0_0] ?_; (with_reducible refine (spec_pzRings.calls a0_0 true _ A4.out).mono ?_); rintro e w' ⟨rfl, ⟨nd, rfl⟩⟩; refine ⟨_, rfl, ?_⟩))
   go_meet
   case rel => exact ⟨_, (decide ((l0_1.length : Int) > 6)), rF, H', kL, ⟨bU BK410.out⟩, hV HB⟩
  have H' := aM H
  clear H
  obtain ⟨hcz7_0, hcz7_1, hfz7_0, hfz7_1⟩ := hC2 BK410
  go_wp2_with (first | ((with_reducible refine gG 64 (some 7) rfl rfl ?_); refine gL Tryz.func64 #[.int .i64 a0_0] ?_; (with_reducible refine (spec_pzRings.calls a0_0 false _ A4.out).mono ?_); rintro e w' ⟨rfl, ⟨nd, rfl⟩⟩; refine ⟨_, rfl, ?_⟩))
  go_meet
  case rel => exact ⟨_, (true), rF, H', kL, ⟨bU BK410.out⟩, hV HB⟩
 case rest =>
  clear HC2
  obtain ⟨kq, x14_1, rfl, HA, HJ1, BK410, HB⟩ := hcut
  obtain rfl | ⟨kj1, rfl⟩ := fz kq
  ·exact zA HA
  have H := HA.out
  clear HA
  simp only [spec_pzGood.j0] at H
  refine iB H ?_ ?_ <;> clear H <;> rintro rfl H
  ·obtain rfl := Option.some.inj H
   go_wp2
   go_ret
   exact ⟨eW, bel HB⟩
  have H' := aM H
  clear H
  obtain ⟨hcz9_0, hcz9_1, hfz9_0, hfz9_1⟩ := hC2 BK410
  go_wp2
  go_loopg [18] kj1 (fun kq v18 w' => ∃ (x18_2 : Int), v18 = .int .i64 x18_2 ∧ Aside0 (spec_pzGood.l0 kq l0_1 (l0_1.length : Int) x18_2 a0_0 l0_1 = some r) ∧ Aside0 (kq ≤ kj1) ∧ Aside0 (w'.heap[gb410]? = some (.cells #[.int .i64 a0_0, (.slice A0_1 l0_1.length c0_1)] 28 (0, 0))) ∧ Aside0 (Below w.heap.size w w'))
  case atStart => exact ⟨(0), rF, H', kR, ⟨bU BK410.out⟩, hV HB⟩
  case round =>
   clear H'
   try clear hcz9_0;try clear hcz9_1;try clear hfz9_0;try clear hfz9_1
   obtain ⟨x18_2, rfl, HA, HK2, BK410, HB⟩ := hrel
   obtain rfl | ⟨k2, rfl⟩ := fz gk
   ·exact zA HA
   have H := HA.out
   clear HA
   simp only [spec_pzGood.l0] at H
   refine iI H ?_ ?_ <;> clear H <;> intro c10 H
   ·have c10b0 := dT c10
    clear c10
    refine iY H ?_; clear H; intro c11 H
    have c11b0 := dT c11
    clear c11
    refine iY H ?_; clear H; intro c12 H
    have c12b0 := dT c12
    clear c12
    replace H := bC H; obtain ⟨t414, A13, H⟩ := H
    refine iB H ?_ ?_ <;> clear H <;> rintro rfl H
    ·have H' := aM H
     clear H
     have p412 : 0 ≤ (x18_2 : Int) := oD
     have q412 : x18_2 < (l0_1.length : Int) := oD
     obtain ⟨ad412, e412, hx412_0, hx412_1, hx412_2⟩ := at_T40 HR0_1.out x18_2 p412 q412
     cases e412
     replace hx412_0 := (HB.out.cell (World.block_lt_of_cell? w _ hx412_0)).trans hx412_0
     replace hx412_1 := (HB.out.cell (World.block_lt_of_cell? w _ hx412_1)).trans hx412_1
     replace hx412_2 := (HB.out.cell (World.block_lt_of_cell? w _ hx412_2)).trans hx412_2
     replace p412 := eq_true p412
     replace q412 := eq_true q412
     go_wp2_with (first | ((with_reducible refine gate_dst (N := 4) rfl ?_); (try (refine gate_guard (by rfl) ?_; dsimp only)); refine bX (N := 4) rfl (cs := #[.int .i64 0, .int .i64 0, .int .i64 0]) (t := 40) ?_; intro gb413 hg w15 BK413 hb; have GW413 := gE hg HB; have GE413 := gE hg HB; have NB410_413 := nbL hg BK410; have NB413_410 := nbR hg BK410; replace BK410 := bB BK410 hb; replace HB := hS HB hb; clear hb hg; have hnb16 := NB413_410.out; have hnc16 := NB410_413.out; obtain ⟨hcz17_0, hcz17_1, hcz17_2, hfz17_0, hfz17_1, hfz17_2⟩ := hC3 BK413; obtain ⟨hcz18_0, hcz18_1, hfz18_0, hfz18_1⟩ := hC2 BK410) | ((with_reducible refine gG 62 (some 25) rfl rfl ?_); refine gC Tryz.func62 (spec_pzClue.calls k2 a0_0 ((rd_T40 l0_1 x18_2).f0) ((rd_T40 l0_1 x18_2).f1) ((rd_T40 l0_1 x18_2).f2) true _ A13.out) ?_; rintro w19 hb; replace BK410 := aM (blk_below (g := gb410) (o := .cells #[.int .i64 a0_0, .slice (some ad412) l0_1.length c0_1] 28 (0, 0)) (by (with_reducible repeat (first | refine blk_drewN ?_ _ | refine blk_drew ?_ | refine blk_alloc ?_ _)); refine blk_far ?_ NB410_413.out _; (with_reducible repeat (first | refine blk_drewN ?_ _ | refine blk_drew ?_ | refine blk_alloc ?_ _)); refine blk_far ?_ NB410_413.out _; (with_reducible repeat (first | refine blk_drewN ?_ _ | refine blk_drew ?_ | refine blk_alloc ?_ _)); refine blk_far ?_ NB410_413.out _; (with_reducible repeat (first | refine blk_drewN ?_ _ | refine blk_drew ?_ | refine blk_alloc ?_ _)); exact BK410.out) hb); replace BK413 := aM (blk_below (g := gb413) (o := .cells #[.int .i64 ((rd_T40 l0_1 x18_2).f0), .int .i64 ((rd_T40 l0_1 x18_2).f1), .int .i64 ((rd_T40 l0_1 x18_2).f2)] 40 (0, 0)) (by (with_reducible repeat (first | refine blk_drewN ?_ _ | refine blk_drew ?_ | refine blk_alloc ?_ _)); refine blk_put (cs := #[.int .i64 ((rd_T40 l0_1 x18_2).f0), .int .i64 ((rd_T40 l0_1 x18_2).f1), .int .i64 0]) ?_ 2 _ rfl; (with_reducible repeat (first | refine blk_drewN ?_ _ | refine blk_drew ?_ | refine blk_alloc ?_ _)); refine blk_put (cs := #[.int .i64 ((rd_T40 l0_1 x18_2).f0), .int .i64 0, .int .i64 0]) ?_ 1 _ rfl; (with_reducible repeat (first | refine blk_drewN ?_ _ | refine blk_drew ?_ | refine blk_alloc ?_ _)); refine blk_put (cs := #[.int .i64 0, .int .i64 0, .int .i64 0]) ?_ 0 _ rfl; (with_reducible repeat (first | refine blk_drewN ?_ _ | refine blk_drew ?_ | refine blk_alloc ?_ _)); exact BK413.out) hb); replace HB := hS HB hb; clear hb))
     go_roundg k2
     case measure => have := HJ1.out; have := HK2.out; omega
     case rel => exact ⟨(wrap64 (x18_2 + 1)), rF, H', ⟨by have := HJ1.out; have := HK2.out; omega⟩, ⟨bU BK410.out⟩, hV HB⟩
    obtain rfl := Option.some.inj H
    have p412 : 0 ≤ (x18_2 : Int) := oD
    have q412 : x18_2 < (l0_1.length : Int) := oD
    obtain ⟨ad412, e412, hx412_0, hx412_1, hx412_2⟩ := at_T40 HR0_1.out x18_2 p412 q412
    cases e412
    replace hx412_0 := (HB.out.cell (World.block_lt_of_cell? w _ hx412_0)).trans hx412_0
    replace hx412_1 := (HB.out.cell (World.block_lt_of_cell? w _ hx412_1)).trans hx412_1
    replace hx412_2 := (HB.out.cell (World.block_lt_of_cell? w _ hx412_2)).trans hx412_2
    replace p412 := eq_true p412
    replace q412 := eq_true q412
    go_wp2_with (first | ((with_reducible refine gate_dst (N := 4) rfl ?_); (try (refine gate_guard (by rfl) ?_; dsimp only)); refine bX (N := 4) rfl (cs := #[.int .i64 0, .int .i64 0, .int .i64 0]) (t := 40) ?_; intro gb413 hg w20 BK413 hb; have GW413 := gE hg HB; have GE413 := gE hg HB; have NB410_413 := nbL hg BK410; have NB413_410 := nbR hg BK410; replace BK410 := bB BK410 hb; replace HB := hS HB hb; clear hb hg; have hnb21 := NB413_410.out; have hnc21 := NB410_413.out; obtain ⟨hcz22_0, hcz22_1, hcz22_2, hfz22_0, hfz22_1, hfz22_2⟩ := hC3 BK413; obtain ⟨hcz23_0, hcz23_1, hfz23_0, hfz23_1⟩ := hC2 BK410) | ((with_reducible refine gG 62 (some 25) rfl rfl ?_); refine gC Tryz.func62 (spec_pzClue.calls k2 a0_0 ((rd_T40 l0_1 x18_2).f0) ((rd_T40 l0_1 x18_2).f1) ((rd_T40 l0_1 x18_2).f2) false _ A13.out) ?_; rintro w24 hb; replace BK410 := aM (blk_below (g := gb410) (o := .cells #[.int .i64 a0_0, .slice (some ad412) l0_1.length c0_1] 28 (0, 0)) (by (with_reducible repeat (first | refine blk_drewN ?_ _ | refine blk_drew ?_ | refine blk_alloc ?_ _)); refine blk_far ?_ NB410_413.out _; (with_reducible repeat (first | refine blk_drewN ?_ _ | refine blk_drew ?_ | refine blk_alloc ?_ _)); refine blk_far ?_ NB410_413.out _; (with_reducible repeat (first | refine blk_drewN ?_ _ | refine blk_drew ?_ | refine blk_alloc ?_ _)); refine blk_far ?_ NB410_413.out _; (with_reducible repeat (first | refine blk_drewN ?_ _ | refine blk_drew ?_ | refine blk_alloc ?_ _)); exact BK410.out) hb); replace BK413 := aM (blk_below (g := gb413) (o := .cells #[.int .i64 ((rd_T40 l0_1 x18_2).f0), .int .i64 ((rd_T40 l0_1 x18_2).f1), .int .i64 ((rd_T40 l0_1 x18_2).f2)] 40 (0, 0)) (by (with_reducible repeat (first | refine blk_drewN ?_ _ | refine blk_drew ?_ | refine blk_alloc ?_ _)); refine blk_put (cs := #[.int .i64 ((rd_T40 l0_1 x18_2).f0), .int .i64 ((rd_T40 l0_1 x18_2).f1), .int .i64 0]) ?_ 2 _ rfl; (with_reducible repeat (first | refine blk_drewN ?_ _ | refine blk_drew ?_ | refine blk_alloc ?_ _)); refine blk_put (cs := #[.int .i64 ((rd_T40 l0_1 x18_2).f0), .int .i64 0, .int .i64 0]) ?_ 1 _ rfl; (with_reducible repeat (first | refine blk_drewN ?_ _ | refine blk_drew ?_ | refine blk_alloc ?_ _)); refine blk_put (cs := #[.int .i64 0, .int .i64 0, .int .i64 0]) ?_ 0 _ rfl; (with_reducible repeat (first | refine blk_drewN ?_ _ | refine blk_drew ?_ | refine blk_alloc ?_ _)); exact BK413.out) hb); replace HB := hS HB hb; clear hb))
    go_ret
    exact ⟨eW, bel HB⟩
   have c10b0 := dF c10
   clear c10
   obtain rfl := Option.some.inj H
   go_wp2
   go_ret
   exact ⟨eW, bel HB⟩

/-! ### spec_pzSolved: function 59 -/
def spec_pzSolved.f (k : Nat) (a0 : Int) (l1 : List (S40)) : Option (Bool) := (spec_pzAll.f k a0 l1).bind fun t415 => (some ((t415.length : Int) == 1))
instance spec_pzSolved.mI (k : Nat) : Mo (spec_pzSolved.f k) (spec_pzSolved.f (k + 1)) := by
 (repeat refine mE fun _ => ?_); unfold spec_pzSolved.f; exact mG
theorem spec_pzSolved.mono : ∀ a0 a1 k, LeO (spec_pzSolved.f k a0 a1) (spec_pzSolved.f (k + 1) a0 a1) := fun a0 a1 k => (spec_pzSolved.mI k).out a0 a1
set_option maxHeartbeats 8000000 in
set_option maxRecDepth 100000 in
theorem spec_pzSolved.calls (k : Nat) (a0 : Int) (A1 : Option Addr) (c1 : Nat) (l1 : List (S40)) (r : Bool) (w : World) (hr1 : Kd.C k40 w A1 l1.length l1) (hc1 : l1.length ≤ c1) (h : spec_pzSolved.f k a0 l1 = some r) :
  Calls Tryz.prog 59 #[.int .i64 a0, .slice A1 l1.length c1] w fun e w' => e = .returned (.bool r) ∧ Below w.heap.size w w' := by
 have HR1 := aM hr1
 have HC1 := aM hc1
 clear hr1 hc1
 have HB := aM (Below.refl w.heap.size w)
 have H := h
 clear h; unfold spec_pzSolved.f at H
 replace H := bC H; obtain ⟨t415, A3, H⟩ := H
 obtain rfl := Option.some.inj H
 go_enter Tryz.func59, Tryz.ntmps59
 go_wp2_with (first | ((with_reducible refine gG 83 (some 7) rfl rfl ?_); refine gD Tryz.func83 (spec_pzAll.calls k a0 _ _ l1 t415 _ (cU HR1.out) HC1.out A3.out) ?_; rintro w4 v416 ⟨ho0, hb⟩; have HO417 := rL ho0 HB; replace HB := hS HB hb; clear hb ho0; obtain ⟨Ao5, co5, eo5⟩ := Kd.R_slice HO417.out; subst eo5))
 go_ret
 exact ⟨eW, bel HB⟩

end Go.Proofs.YtpdkjehplfgjcabGreatDoor.PHid
