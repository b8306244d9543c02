-- squeezed (sq3.py); PRINTED by drive.py (a program of this session's, over the kit's print.py; wip/tools/drive.py). Lean checks it.
import Derived.Test.YtpdkjehplfgjcabGreatDoorQPHidx0
import Derived.Test.YtpdkjehplfgjcabGreatDoorQPHidx4
import Derived.Test.YtpdkjehplfgjcabGreatDoorQPHidx6
import Derived.Test.YtpdkjehplfgjcabGreatDoorQSq
namespace Go.Proofs.YtpdkjehplfgjcabGreatDoor.PHid
open Go.RowKit Go.Proofs.YtpdkjehplfgjcabGreatDoorW.PrintWords Go.Proofs.YtpdkjehplfgjcabGreatDoorW.PrintLast Go.Proofs.YtpdkjehplfgjcabGreatDoorW.PrintMore
attribute [local go_sem] max2_int min2_int max_two min_two max_three min_three max_four min_four   -- for this text's walks alone
set_option linter.unusedVariables false
set_option linter.unusedSimpArgs false

/-! ### spec_MakePuzzle: function 7 -/
mutual
def spec_MakePuzzle.j0 : Nat → ByteArray → Int → Int → Bool → Option (Int × (List (S40)) × Bool)
 | 0, _, _, _, _ => none
 | k + 1, x0, x1, x2, x24 => if x24 = true then (some (0, ([] : List (S40)), false)) else (spec_MakePuzzle.l0 k x0 x1 x2 (x0.size : Int) ([] : List (S40)))
def spec_MakePuzzle.l0 : Nat → ByteArray → Int → Int → Int → List (S40) → Option (Int × (List (S40)) × Bool)
 | 0, _, _, _, _, _ => none
 | k + 1, x0, x1, x9, x194000, x194001 => if x1 > 0 then ((spec_pzNext.f x9).bind fun t194 => ((spec_pzNext.f t194).bind fun t195 => (if (x0.size : Int) = 0 then (none) else (if (Int.tmod t194 5) = 2 then ((spec_pzOf.f k (Int.tmod t194 5) (wrap64 ((Int.tmod t195 8) + 2)) x0).bind fun bt196 => (if x194001.length < 5864062014805 then (spec_MakePuzzle.l0 k x0 (wrap64 (x1 - 1)) t195 x194000 (x194001 ++ [(⟨bt196.1, bt196.2.1, bt196.2.2⟩ : S40)])) else (none))) else (if (Int.tmod t194 5) = 3 then (if (shl .i64 1 (x0.size : Int)) = 0 then (none) else ((spec_pzOf.f k (Int.tmod t194 5) (Int.tmod t195 (shl .i64 1 (x0.size : Int))) x0).bind fun bt202 => (if x194001.length < 5864062014805 then (spec_MakePuzzle.l0 k x0 (wrap64 (x1 - 1)) t195 x194000 (x194001 ++ [(⟨bt202.1, bt202.2.1, bt202.2.2⟩ : S40)])) else (none)))) else ((spec_pzOf.f k (Int.tmod t194 5) (Int.tmod t195 (x0.size : Int)) x0).bind fun bt208 => (if x194001.length < 5864062014805 then (spec_MakePuzzle.l0 k x0 (wrap64 (x1 - 1)) t195 x194000 (x194001 ++ [(⟨bt208.1, bt208.2.1, bt208.2.2⟩ : S40)])) else (none)))))))) else (some (x194000, x194001, true))
end
def spec_MakePuzzle.f (k : Nat) (a0 : ByteArray) (a1 : Int) (a2 : Int) : Option (Int × (List (S40)) × Bool) := (spec_pzHidden.f k a0).bind fun t190 => (if t190 = true then ((spec_l1In.f a1 0 6).bind fun t191 => (if t191 = true then ((spec_l1In.f a2 0 9999).bind fun t192 => (spec_MakePuzzle.j0 k a0 a1 a2 (!t192))) else (spec_MakePuzzle.j0 k a0 a1 a2 true))) else (spec_MakePuzzle.j0 k a0 a1 a2 true))
theorem spec_MakePuzzle.mono_l : ∀ k, Mo (spec_MakePuzzle.j0 k) (spec_MakePuzzle.j0 (k + 1)) ∧ Mo (spec_MakePuzzle.l0 k) (spec_MakePuzzle.l0 (k + 1))
 | 0 => m0
 | k + 1 => by
  have ⟨ih0, ih1⟩ := spec_MakePuzzle.mono_l k
  refine ⟨?_, ?_⟩ <;> (repeat refine mE fun _ => ?_) <;> first | (unfold spec_MakePuzzle.j0; exact mG) | (unfold spec_MakePuzzle.l0; exact mG)
instance spec_MakePuzzle.mI (k : Nat) : Mo (spec_MakePuzzle.f k) (spec_MakePuzzle.f (k + 1)) := by
 have ⟨ih0, ih1⟩ := spec_MakePuzzle.mono_l k
 (repeat refine mE fun _ => ?_); unfold spec_MakePuzzle.f; exact mG
theorem spec_MakePuzzle.mono : ∀ a0 a1 a2 k, LeO (spec_MakePuzzle.f k a0 a1 a2) (spec_MakePuzzle.f (k + 1) a0 a1 a2) := fun a0 a1 a2 k => (spec_MakePuzzle.mI k).out a0 a1 a2
def spec_MakePuzzle.T16 : Bool × List (List Nat × List Nat) := (true, [([], []), ([0], [0]), ([], []), ([], []), ([], []), ([2, 3, 4], [2, 3, 4]), ([5], [5]), ([1, 6, 5], [1, 6]), ([0, 1, 2, 3, 4, 5, 6, 7], []), ([8, 7, 7, 0, 1, 2, 3, 4, 5, 6, 7], [7, 8])])
def spec_MakePuzzle.B16 : List Nat := [0, 1, 0, 0, 0, 28, 60, 127, 255, 511]
theorem spec_MakePuzzle.tab16 : rtab .any (opsOf Tryz.f7 16) = spec_MakePuzzle.T16 := by kernel_rfl
theorem spec_MakePuzzle.bits16 : waitsOk spec_MakePuzzle.T16.2 spec_MakePuzzle.B16 = true := by kernel_rfl
set_option maxHeartbeats 8000000 in
set_option maxRecDepth 100000 in
theorem spec_MakePuzzle.calls (k : Nat) (a0 : ByteArray) (a1 : Int) (a2 : Int) (r1 : Int) (r2 : List (S40)) (r3 : Bool) (w : World) (h : spec_MakePuzzle.f k a0 a1 a2 = some (r1, r2, r3)) :
  Calls Tryz.prog 7 #[.string a0, .int .i64 a1, .int .i64 a2] w fun e w' => ∃ v1_ : Value, e = .returned (.tuple #[.agg #[.int .i64 r1, v1_], .bool r3]) ∧ Kd.R k40 40 w' w.heap.size (fun _ => True) v1_ r2 ∧ Below w.heap.size w w' := by
 have hu28 := Tryz.underlying28
 have HB := aM (Below.refl w.heap.size w)
 have H := h
 clear h; unfold spec_MakePuzzle.f at H
 have HC4 := aM H
 clear H
 go_enter Tryz.func7, Tryz.ntmps7
 go_upto_region 1 with (first | (refine bX (N := 6) rfl (cs := #[.int .i64 0, .slice none 0 0]) (t := 28) ?_; intro gb189 hg w5 BK189 hb; have GW189 := gE hg HB; have GE189 := gE hg HB; replace HB := hS HB hb; clear hb hg))
 (try simp only [Act.put, List.setIfInBounds_toArray, List.set_cons_zero, List.set_cons_succ])
 go_cut [24] (fun v24 wc => ∃ (kq : Nat) (x24_3 : Bool), v24 = .bool x24_3 ∧ Aside0 (spec_MakePuzzle.j0 kq a0 a1 a2 x24_3 = some (r1, r2, r3)) ∧ Aside0 (kq ≤ k) ∧ Aside0 (wc.heap[gb189]? = some (.cells #[.int .i64 0, (.slice none 0 0)] 28 (0, 0))) ∧ Aside0 (Below w.heap.size w wc))
 case first =>
  have H := HC4.out
  clear HC4
  replace H := bC H; obtain ⟨t190, A6, H⟩ := H
  refine iB H ?_ ?_ <;> clear H <;> rintro rfl H
  ·replace H := bC H; obtain ⟨t191, A8, H⟩ := H
   refine iB H ?_ ?_ <;> clear H <;> rintro rfl H
   ·replace H := bC H; obtain ⟨t192, A10, H⟩ := H
    have H' := aM H
    clear H
    go_wp2_with (first | ((with_reducible refine gG 43 (some 13) rfl rfl ?_); refine gL Tryz.func43 #[.string a0] ?_; (with_reducible refine (spec_pzHidden.calls k a0 true _ A6.out).mono ?_); rintro e w' ⟨rfl, ⟨nd, rfl⟩⟩; refine ⟨_, rfl, ?_⟩) | (go_at_call 44; (with_reducible refine (spec_l1In.calls a1 0 6 true _ A8.out).mono ?_); rintro e w' ⟨rfl, ⟨nd, rfl⟩⟩) | (go_at_call 44; (with_reducible refine (spec_l1In.calls a2 0 9999 t192 _ A10.out).mono ?_); rintro e w' ⟨rfl, ⟨nd, rfl⟩⟩))
    go_meet
    case rel => exact ⟨_, (!t192), rF, H', kL, ⟨bU BK189.out⟩, hV HB⟩
   have H' := aM H
   clear H
   go_wp2_with (first | ((with_reducible refine gG 43 (some 13) rfl rfl ?_); refine gL Tryz.func43 #[.string a0] ?_; (with_reducible refine (spec_pzHidden.calls k a0 true _ A6.out).mono ?_); rintro e w' ⟨rfl, ⟨nd, rfl⟩⟩; refine ⟨_, rfl, ?_⟩) | (go_at_call 44; (with_reducible refine (spec_l1In.calls a1 0 6 false _ A8.out).mono ?_); rintro e w' ⟨rfl, ⟨nd, rfl⟩⟩))
   go_meet
   case rel => exact ⟨_, (true), rF, H', kL, ⟨bU BK189.out⟩, hV HB⟩
  have H' := aM H
  clear H
  go_wp2_with (first | ((with_reducible refine gG 43 (some 13) rfl rfl ?_); refine gL Tryz.func43 #[.string a0] ?_; (with_reducible refine (spec_pzHidden.calls k a0 false _ A6.out).mono ?_); rintro e w' ⟨rfl, ⟨nd, rfl⟩⟩; refine ⟨_, rfl, ?_⟩))
  go_meet
  case rel => exact ⟨_, (true), rF, H', kL, ⟨bU BK189.out⟩, hV HB⟩
 case rest =>
  clear HC4
  obtain ⟨kq, x24_3, rfl, HA, HJ3, BK189, HB⟩ := hcut
  obtain rfl | ⟨kj3, rfl⟩ := fz kq
  ·exact zA HA
  have H := HA.out
  clear HA
  simp only [spec_MakePuzzle.j0] at H
  refine iB H ?_ ?_ <;> clear H <;> rintro rfl H
  ·simp only [Option.some.injEq, Prod.mk.injEq] at H
   obtain ⟨rfl, rfl, rfl⟩ := H
   obtain ⟨hcz12_0, hcz12_1, hfz12_0, hfz12_1⟩ := hC2 BK189
   go_wp2
   refine bodyPost_ret (results_ct rfl _ _ gb189 28 #[.int .i64 0, .slice none 0 0] (0, 0) _ rfl (bP2 BK189) Tryz.underlying28 rfl (by kernel_rfl)) rfl ?_
   exact ⟨_, eW, by first | exact Kd.R_nil _ _ _ _ _ | exact Kd.N_nil _ _ _ _ _ | exact Kd.V_nil _ _ _ _ _ | exact Kd.Q_nil _ _ _ _ _ | exact Kd.S_nil _ _ _ _ _, bel HB⟩
  have H' := aM H
  clear H
  go_wp2_with (first | (refine bX (N := 8) rfl (cs := #[.int .i64 0, .slice none 0 0]) (t := 28) ?_; intro gb193 hg w13 BK193 hb; have GW193 := gE hg HB; have GE193 := gE hg HB; have NB189_193 := nbL hg BK189; have NB193_189 := nbR hg BK189; replace BK189 := bB BK189 hb; replace HB := hS HB hb; clear hb hg; have hnb14 := NB193_189.out; have hnc14 := NB189_193.out; obtain ⟨hcz15_0, hcz15_1, hfz15_0, hfz15_1⟩ := hC2 BK193))
  go_loopg [1, 9] kj3 (fun kq v1 v9 w' => ∃ (x1_2 : Int) (x9_2 : Int) (x194001_2 : List (S40)) (u194001 : Value), v1 = .int .i64 x1_2 ∧ v9 = .int .i64 x9_2 ∧ Aside0 (spec_MakePuzzle.l0 kq a0 x1_2 x9_2 (a0.size : Int) x194001_2 = some (r1, r2, r3)) ∧ Aside0 (kq ≤ kj3) ∧ Aside0 (Kd.R k40 40 w' w.heap.size (fun _ => True) u194001 x194001_2) ∧ Aside0 (w'.heap[gb189]? = some (.cells #[.int .i64 0, (.slice none 0 0)] 28 (0, 0))) ∧ Aside0 (w'.heap[gb193]? = some (.cells #[.int .i64 (a0.size : Int), u194001] 28 (0, 0))) ∧ Aside0 (Below w.heap.size w w'))
  case atStart => exact ⟨(a1), (a2), (([] : List (S40))), (.slice none 0 0), rF, rF, H', kR, ⟨by first | exact Kd.R_nil _ _ _ _ _ | exact Kd.N_nil _ _ _ _ _ | exact Kd.V_nil _ _ _ _ _ | exact Kd.Q_nil _ _ _ _ _ | exact Kd.S_nil _ _ _ _ _⟩, ⟨kU BK189.out⟩, ⟨bP2 BK193⟩, hV HB⟩
  case round =>
   clear H'
   try clear hcz15_0;try clear hcz15_1;try clear hfz15_0;try clear hfz15_1
   obtain ⟨x1_2, x9_2, x194001_2, u194001, rfl, rfl, HA, HK2, HO_194001, BK189, BK193, HB⟩ := hrel
   obtain rfl | ⟨k2, rfl⟩ := fz gk
   ·exact zA HA
   have H := HA.out
   clear HA
   simp only [spec_MakePuzzle.l0] at H
   refine iI H ?_ ?_ <;> clear H <;> intro c16 H
   ·have c16b0 := gT c16
    clear c16
    replace H := bC H; obtain ⟨t194, A17, H⟩ := H
    replace H := bC H; obtain ⟨t195, A18, H⟩ := H
    refine iN H ?_; clear H; intro c19 H
    have c19b0 := qF c19
    have c19b1 := nT c19
    refine iI H ?_ ?_ <;> clear H <;> intro c20 H
    ·have c20b0 := qT c20
     have c20b1 := nF c20
     clear c20
     replace H := bC H; obtain ⟨⟨t196, t197, t198⟩, A21, H⟩ := H; try dsimp only at H
     refine iY H ?_; clear H; intro c22 H
     have LMc22 := aM c22
     clear c22
     obtain ⟨y199, Ny199⟩ := yN (x194001_2 ++ [(⟨t196, t197, t198⟩ : S40)] : List (S40)); rw [← Ny199.out] at H
     have H' := aM H
     clear H
     try go_wp2_with (first | ((with_reducible refine gG 45 (some 35) rfl rfl ?_); refine gL Tryz.func45 #[.int .i64 x9_2] ?_; (with_reducible refine (spec_pzNext.calls x9_2 t194 _ A17.out).mono ?_); rintro e w' ⟨rfl, ⟨nd, rfl⟩⟩; refine ⟨_, rfl, ?_⟩; (try (rw [drewN_self wr]; generalize hq_ : World.drewN wr _ = wr; have n0_ : Aside0 (Kd.R k40 40 wr w.heap.size (fun _ => True) u194001 x194001_2) := ⟨by rw [← hq_]; exact (rU HO_194001.out)⟩; have n1_ : Aside0 (wr.heap[gb189]? = some (.cells #[.int .i64 0, .slice none 0 0] 28 (0, 0))) := ⟨by rw [← hq_]; exact (bU BK189.out)⟩; have n2_ : Aside0 (wr.heap[gb193]? = some (.cells #[.int .i64 (a0.size : Int), u194001] 28 (0, 0))) := ⟨by rw [← hq_]; exact (bU BK193.out)⟩; have n3_ : Aside0 (Below w.heap.size w wr) := ⟨by rw [← hq_]; exact (bel HB)⟩; clear HO_194001 BK189 BK193 HB hq_; have HO_194001 := n0_; have BK189 := n1_; have BK193 := n2_; have HB := n3_; clear n0_ n1_ n2_ n3_))) | ((with_reducible refine gG 45 (some 39) rfl rfl ?_); refine gL Tryz.func45 #[.int .i64 t194] ?_; (with_reducible refine (spec_pzNext.calls t194 t195 _ A18.out).mono ?_); rintro e w' ⟨rfl, ⟨nd, rfl⟩⟩; refine ⟨_, rfl, ?_⟩; (try (rw [drewN_self wr]; generalize hq_ : World.drewN wr _ = wr; have n0_ : Aside0 (Kd.R k40 40 wr w.heap.size (fun _ => True) u194001 x194001_2) := ⟨by rw [← hq_]; exact (rU HO_194001.out)⟩; have n1_ : Aside0 (wr.heap[gb189]? = some (.cells #[.int .i64 0, .slice none 0 0] 28 (0, 0))) := ⟨by rw [← hq_]; exact (bU BK189.out)⟩; have n2_ : Aside0 (wr.heap[gb193]? = some (.cells #[.int .i64 (a0.size : Int), u194001] 28 (0, 0))) := ⟨by rw [← hq_]; exact (bU BK193.out)⟩; have n3_ : Aside0 (Below w.heap.size w wr) := ⟨by rw [← hq_]; exact (bel HB)⟩; clear HO_194001 BK189 BK193 HB hq_; have HO_194001 := n0_; have BK189 := n1_; have BK193 := n2_; have HB := n3_; clear n0_ n1_ n2_ n3_))))
     have n0_ := aM (Kd.R_drew HO_194001.out)
     have n1_ := aM (blk_drew BK189.out)
     have n2_ := aM (blk_drew BK193.out)
     have n3_ := aM (below_drew1 HB.out)
     clear HO_194001
     clear BK189
     clear BK193
     clear HB
     have HO_194001 := n0_
     have BK189 := n1_
     have BK193 := n2_
     have HB := n3_
     clear n0_ n1_ n2_ n3_
     refine start_ (n := 10) (S := fun w' => w'.cell? ⟨gb193, 0, none⟩ = some (.int .i64 (a0.size : Int)) ∧ w'.cell? ⟨gb193, 1, none⟩ = some (u194001)) (ds := [9]) (bn 10 0) (by kernel_rfl) rfl rfl ⟨(blk_cell BK193.out 0).trans rfl, (blk_cell BK193.out 1).trans rfl⟩ (fun hHeld => ?_); refine with_tabW spec_MakePuzzle.tab16 spec_MakePuzzle.bits16 (fun HT_ HW_ => ?_)
     generalize wr.drew = w23 at HO_194001 BK189 BK193 HB hHeld ⊢
     refine pU 0 (some 57) (bn 10 1) ?_
     refine pU 2 (some 59) (bn 10 5) ?_
     refine pU 3 (some 60) (bn 10 13) ?_
     refine pU 4 (some 61) (bn 10 29) ?_
     refine take_ (i := 1) (N := some 58) (v := ?_) (a' := ?_) (bn 10 31) rfl rfl (take_ofW HT_.out HW_.out (by kernel_rfl)) (fun _ _ _ h => h) (Or.inl ⟨by rfl, ?_⟩) hHeld ?_ ?_
     rotate_left
     ·rintro w' ⟨s0, s1⟩
      go_simp
      with_reducible rfl
     rotate_left
     ·simp only [Act.put, List.setIfInBounds_toArray, List.set_cons_zero, List.set_cons_succ, i64_w, i32_w]
      rfl
     refine one_ (i := 5) (N := some 62) (bn 10 63) rfl rfl (one_of HT_.out (by kernel_rfl)) (by decide) (fun K hK => ?_)
     refine goes_ Tryz.func46 (by kernel_rfl) rfl #[.int .i64 (Int.tmod t194 5), .int .i64 (wrap64 ((Int.tmod t195 8) + 2)), .string a0] (by rfl) rfl rfl (by (try simp only [List.map_toArray, List.map_cons, List.map_nil]); first | done | rfl | (simp only [List.length_drop, List.length_take]; rfl)) ?_
     with_reducible refine (spec_pzOf.calls k2 (Int.tmod t194 5) (wrap64 ((Int.tmod t195 8) + 2)) a0 t196 t197 t198 _ A21.out).mono ?_
     rintro e w24 ⟨rfl, hb⟩
     refine ⟨_, rfl, ?_⟩
     have n0_ := rB HO_194001 hb
     have n1_ := bB BK189 hb
     have n2_ := bB BK193 hb
     have n3_ := hS HB hb
     clear HO_194001
     clear BK189
     clear BK193
     clear HB
     have HO_194001 := n0_
     have BK189 := n1_
     have BK193 := n2_
     have HB := n3_
     clear n0_ n1_ n2_ n3_
     (try clear hb)
     (try clear hb2)
     (try clear hk)
     (try clear hi)
     refine hK.out _ _ ⟨(blk_cell BK193.out 0).trans rfl, (blk_cell BK193.out 1).trans rfl⟩ (fun hHeld => ?_)
     clear hK K
     refine norm_ (a' := ?_) ?_ ?_
     rotate_left
     ·show Act.put _ (some 62) _ = _
      simp only [Act.put, List.setIfInBounds_toArray, List.set_cons_zero, List.set_cons_succ, i64_w, i32_w]
      rfl
     refine one_ (i := 6) (N := some 63) (bn 10 127) rfl rfl (one_of HT_.out (by kernel_rfl)) (by decide) (fun K hK => ?_)
     refine value_ (w1 := ?_) (v := ?_) (by rfl) rfl ?_ ?_
     rotate_left 2
     ·go_simp
      constructor
      ·rfl
      rfl
     refine hK.out _ _ ⟨(blk_cell (blk_alloc BK193.out _) 0).trans rfl, (blk_cell (blk_alloc BK193.out _) 1).trans rfl⟩ (fun hHeld => ?_)
     clear hK K
     refine norm_ (a' := ?_) ?_ ?_
     rotate_left
     ·show Act.put _ (some 63) _ = _
      simp only [Act.put, List.setIfInBounds_toArray, List.set_cons_zero, List.set_cons_succ, i64_w, i32_w]
      rfl
     refine one_ (i := 7) (N := some 64) (bn 10 255) rfl rfl (one_of HT_.out (by kernel_rfl)) (by decide) (fun K hK => ?_)
     refine Kd.R_append_step k40 (w0 := w) w.heap.size (by rfl) (.tmp 58) (.tmp 63) 26 40 (.agg #[(.int .i64 0), (.int .i64 0), (.int .i64 0)]) 24 rfl Tryz.underlying26 info40 rfl (by decide) (by omega) u194001 x194001_2 (⟨t196, t197, t198⟩ : S40) [.int .i64 t196, .int .i64 t197, .int .i64 t198] (fun _ => True) (fun _ => False) rfl rfl ?aP (fun _ hk => hk.elim) ?aF ?aO ?aB ?aS ?aL ?_
     (case aP => exact k40_mkM _ _ _ (⟨t196, t197, t198⟩ : S40))
     (case aB => exact (bel HB))
     (case aF => exact (fun _ _ => trivial))
     (case aO => exact (rU HO_194001.out))
     (case aS => exact (below_size (bel HB)))
     (case aL => have := LMc22.out; omega)
     intro v200 w25 ho hb hg hat
     rw [← Ny199.out] at ho
     have n0_ := aM (blk_grown (g := gb189) (o := .cells #[.int .i64 0, .slice none 0 0] 28 (0, 0)) (bU BK189.out) hg (Kd.R_ne HO_194001.out BK189.out (by decide)))
     have n1_ := aM (blk_grown (g := gb193) (o := .cells #[.int .i64 (a0.size : Int), u194001] 28 (0, 0)) (bU BK193.out) hg (Kd.R_ne HO_194001.out BK193.out (by decide)))
     have n2_ := aM (hb)
     have n3_ := aM (ho)
     clear BK189
     clear BK193
     clear HB
     clear HO_194001
     have BK189 := n0_
     have BK193 := n1_
     have HB := n2_
     have HO201 := n3_
     clear n0_ n1_ n2_ n3_
     clear ho hb hg hat
     obtain ⟨Ao26, co26, eo26⟩ := Kd.R_slice HO201.out
     (first | subst eo26 | (injection eo26 with f1_ f2_ f3_; have f4_ := f1_.symm; have f5_ := f3_.symm; clear f1_ f2_ f3_; subst f4_; subst f5_))
     refine hK.out _ _ ⟨(blk_cell BK193.out 0).trans rfl, (blk_cell BK193.out 1).trans rfl⟩ (fun hHeld => ?_)
     clear hK K
     refine norm_ (a' := ?_) ?_ ?_
     rotate_left
     ·show Act.put _ (some 64) _ = _
      simp only [Act.put, List.setIfInBounds_toArray, List.set_cons_zero, List.set_cons_succ, i64_w, i32_w]
      rfl
     refine pU 8 (some 65) (bn 10 511) ?_
     refine last_ (i := 9) (N := none) #[true, true, true, true, true, true, true, true, true, true] rfl rfl (one_of HT_.out (by kernel_rfl)) (by decide) (fun K hK => ?_)
     have hs27 : w25.cell? ⟨gb193, 1, none⟩ = some (u194001) := (blk_cell BK193.out 1).trans rfl
     have hfs27 := blk_frozen BK193.out 1
     have hns27_0 := NB189_193.out
     have hms27_0 := NB193_189.out
     refine skip_ (w1 := ?_) (by rfl) rfl ?_ ?_
     rotate_left
     ·go_simp
      rfl
     refine hK.out _ _ ?_
     clear hK K
     refine done_ (done_of HT_.out (by kernel_rfl)) ?_
     try go_wp2
     go_roundg k2
     case measure => have := HJ3.out; have := HK2.out; omega
     case rel => exact ⟨(wrap64 (x1_2 - 1)), (t195), (y199), (.slice Ao26 y199.length co26), rF, rF, H', ⟨by have := HJ3.out; have := HK2.out; omega⟩, ⟨rU (Kd.R_mono (Kd.R_far (p := ⟨gb193, 1, none⟩) (Kd.R_types HO201.out BK193.out (by decide)) (fun _ hk => hk.2) (.slice Ao26 y199.length co26)) (fun _ hk => trivial))⟩, ⟨by (with_reducible repeat (first | refine blk_drewN ?_ _ | refine blk_drew ?_ | refine blk_alloc ?_ _)); refine blk_far ?_ NB189_193.out _; (with_reducible repeat (first | refine blk_drewN ?_ _ | refine blk_drew ?_ | refine blk_alloc ?_ _)); exact BK189.out⟩, ⟨by (with_reducible repeat (first | refine blk_drewN ?_ _ | refine blk_drew ?_ | refine blk_alloc ?_ _)); refine blk_put (cs := #[.int .i64 (a0.size : Int), u194001]) ?_ 1 _ rfl; (with_reducible repeat (first | refine blk_drewN ?_ _ | refine blk_drew ?_ | refine blk_alloc ?_ _)); exact BK193.out⟩, hV HB⟩
    have c20b0 := qF c20
    have c20b1 := nT c20
    refine iI H ?_ ?_ <;> clear H <;> intro c28 H
    ·have c28b0 := qT c28
     have c28b1 := nF c28
     clear c28
     obtain ⟨ji29, hji29⟩ := jN (shl .i64 1 (a0.size : Int))
     first | rw [hji29] at H | simp only [hji29] at H
     (try rw [hji29] at A17)
     (try rw [hji29] at A18)
     have hji29_ : (IntKind.i64.wrap (1 * 2 ^ min (a0.size : Int).toNat 64)) = ji29 := hji29
     have hji29z : (a0.size : Int) ≤ 64 → (IntKind.i64.wrap (1 * 2 ^ (a0.size : Int).toNat)) = ji29 := shl_small hji29
     have hji29u : (IntKind.i64.wrap (2 ^ min (a0.size : Int).toNat 64)) = ji29 := by have h_ := hji29_; rw [Int.one_mul] at h_; exact h_
     have hji29v : (a0.size : Int) ≤ 64 → (IntKind.i64.wrap (2 ^ (a0.size : Int).toNat)) = ji29 := fun hle_ => by have h_ := hji29z hle_; rw [Int.one_mul] at h_; exact h_
     have hji29y : (wrap64 (1 * 2 ^ min (a0.size : Int).toNat 64)) = ji29 := (i64_w _).symm.trans hji29_
     have hji29q : wrap64 (2 ^ min a0.size 64) = ji29 := by have h_ := hji29y; rw [Int.one_mul, Int.toNat_natCast] at h_; exact h_
     have hji29p : IntKind.i64.wrap (2 ^ min a0.size 64) = ji29 := by have h_ := hji29u; rw [Int.toNat_natCast] at h_; exact h_
     have hji29x : (a0.size : Int) ≤ 64 → (wrap64 (1 * 2 ^ (a0.size : Int).toNat)) = ji29 := fun h_ => (i64_w _).symm.trans (hji29z h_)
     refine iN H ?_; clear H; intro c30 H
     have c30b0 := qF c30
     have c30b1 := nT c30
     replace H := bC H; obtain ⟨⟨t202, t203, t204⟩, A31, H⟩ := H; try dsimp only at H
     refine iY H ?_; clear H; intro c32 H
     have LMc32 := aM c32
     clear c32
     obtain ⟨y205, Ny205⟩ := yN (x194001_2 ++ [(⟨t202, t203, t204⟩ : S40)] : List (S40)); rw [← Ny205.out] at H
     have H' := aM H
     clear H
     try go_wp2_with (first | ((with_reducible refine gG 45 (some 35) rfl rfl ?_); refine gL Tryz.func45 #[.int .i64 x9_2] ?_; (with_reducible refine (spec_pzNext.calls x9_2 t194 _ A17.out).mono ?_); rintro e w' ⟨rfl, ⟨nd, rfl⟩⟩; refine ⟨_, rfl, ?_⟩; (try (rw [drewN_self wr]; generalize hq_ : World.drewN wr _ = wr; have n0_ : Aside0 (Kd.R k40 40 wr w.heap.size (fun _ => True) u194001 x194001_2) := ⟨by rw [← hq_]; exact (rU HO_194001.out)⟩; have n1_ : Aside0 (wr.heap[gb189]? = some (.cells #[.int .i64 0, .slice none 0 0] 28 (0, 0))) := ⟨by rw [← hq_]; exact (bU BK189.out)⟩; have n2_ : Aside0 (wr.heap[gb193]? = some (.cells #[.int .i64 (a0.size : Int), u194001] 28 (0, 0))) := ⟨by rw [← hq_]; exact (bU BK193.out)⟩; have n3_ : Aside0 (Below w.heap.size w wr) := ⟨by rw [← hq_]; exact (bel HB)⟩; clear HO_194001 BK189 BK193 HB hq_; have HO_194001 := n0_; have BK189 := n1_; have BK193 := n2_; have HB := n3_; clear n0_ n1_ n2_ n3_))) | ((with_reducible refine gG 45 (some 39) rfl rfl ?_); refine gL Tryz.func45 #[.int .i64 t194] ?_; (with_reducible refine (spec_pzNext.calls t194 t195 _ A18.out).mono ?_); rintro e w' ⟨rfl, ⟨nd, rfl⟩⟩; refine ⟨_, rfl, ?_⟩; (try (rw [drewN_self wr]; generalize hq_ : World.drewN wr _ = wr; have n0_ : Aside0 (Kd.R k40 40 wr w.heap.size (fun _ => True) u194001 x194001_2) := ⟨by rw [← hq_]; exact (rU HO_194001.out)⟩; have n1_ : Aside0 (wr.heap[gb189]? = some (.cells #[.int .i64 0, .slice none 0 0] 28 (0, 0))) := ⟨by rw [← hq_]; exact (bU BK189.out)⟩; have n2_ : Aside0 (wr.heap[gb193]? = some (.cells #[.int .i64 (a0.size : Int), u194001] 28 (0, 0))) := ⟨by rw [← hq_]; exact (bU BK193.out)⟩; have n3_ : Aside0 (Below w.heap.size w wr) := ⟨by rw [← hq_]; exact (bel HB)⟩; clear HO_194001 BK189 BK193 HB hq_; have HO_194001 := n0_; have BK189 := n1_; have BK193 := n2_; have HB := n3_; clear n0_ n1_ n2_ n3_))))
     have n0_ := aM (Kd.R_drew HO_194001.out)
     have n1_ := aM (blk_drew BK189.out)
     have n2_ := aM (blk_drew BK193.out)
     have n3_ := aM (below_drew1 HB.out)
     clear HO_194001
     clear BK189
     clear BK193
     clear HB
     have HO_194001 := n0_
     have BK189 := n1_
     have BK193 := n2_
     have HB := n3_
     clear n0_ n1_ n2_ n3_
     refine start_ (n := 10) (S := fun w' => w'.cell? ⟨gb193, 0, none⟩ = some (.int .i64 (a0.size : Int)) ∧ w'.cell? ⟨gb193, 1, none⟩ = some (u194001)) (ds := [9]) (bn 10 0) (by kernel_rfl) rfl rfl ⟨(blk_cell BK193.out 0).trans rfl, (blk_cell BK193.out 1).trans rfl⟩ (fun hHeld => ?_); refine with_tabW spec_MakePuzzle.tab16 spec_MakePuzzle.bits16 (fun HT_ HW_ => ?_)
     generalize wr.drew = w33 at HO_194001 BK189 BK193 HB hHeld ⊢
     refine pU 0 (some 57) (bn 10 1) ?_
     refine pU 2 (some 59) (bn 10 5) ?_
     refine pU 3 (some 60) (bn 10 13) ?_
     refine pU 4 (some 61) (bn 10 29) ?_
     refine take_ (i := 1) (N := some 58) (v := ?_) (a' := ?_) (bn 10 31) rfl rfl (take_ofW HT_.out HW_.out (by kernel_rfl)) (fun _ _ _ h => h) (Or.inl ⟨by rfl, ?_⟩) hHeld ?_ ?_
     rotate_left
     ·rintro w' ⟨s0, s1⟩
      go_simp
      with_reducible rfl
     rotate_left
     ·simp only [Act.put, List.setIfInBounds_toArray, List.set_cons_zero, List.set_cons_succ, i64_w, i32_w]
      rfl
     refine one_ (i := 5) (N := some 62) (bn 10 63) rfl rfl (one_of HT_.out (by kernel_rfl)) (by decide) (fun K hK => ?_)
     refine goes_ Tryz.func46 (by kernel_rfl) rfl #[.int .i64 (Int.tmod t194 5), .int .i64 (Int.tmod t195 (ji29)), .string a0] (by rfl) rfl rfl (by (try simp only [List.map_toArray, List.map_cons, List.map_nil]); first | done | (simp only [hji29]; rfl) | rfl | (simp only [List.length_drop, List.length_take]; rfl)) ?_
     with_reducible refine (spec_pzOf.calls k2 (Int.tmod t194 5) (Int.tmod t195 (ji29)) a0 t202 t203 t204 _ A31.out).mono ?_
     rintro e w34 ⟨rfl, hb⟩
     refine ⟨_, rfl, ?_⟩
     have n0_ := rB HO_194001 hb
     have n1_ := bB BK189 hb
     have n2_ := bB BK193 hb
     have n3_ := hS HB hb
     clear HO_194001
     clear BK189
     clear BK193
     clear HB
     have HO_194001 := n0_
     have BK189 := n1_
     have BK193 := n2_
     have HB := n3_
     clear n0_ n1_ n2_ n3_
     (try clear hb)
     (try clear hb2)
     (try clear hk)
     (try clear hi)
     refine hK.out _ _ ⟨(blk_cell BK193.out 0).trans rfl, (blk_cell BK193.out 1).trans rfl⟩ (fun hHeld => ?_)
     clear hK K
     refine norm_ (a' := ?_) ?_ ?_
     rotate_left
     ·show Act.put _ (some 62) _ = _
      simp only [Act.put, List.setIfInBounds_toArray, List.set_cons_zero, List.set_cons_succ, i64_w, i32_w]
      rfl
     refine one_ (i := 6) (N := some 63) (bn 10 127) rfl rfl (one_of HT_.out (by kernel_rfl)) (by decide) (fun K hK => ?_)
     refine value_ (w1 := ?_) (v := ?_) (by rfl) rfl ?_ ?_
     rotate_left 2
     ·go_simp
      constructor
      ·rfl
      rfl
     refine hK.out _ _ ⟨(blk_cell (blk_alloc BK193.out _) 0).trans rfl, (blk_cell (blk_alloc BK193.out _) 1).trans rfl⟩ (fun hHeld => ?_)
     clear hK K
     refine norm_ (a' := ?_) ?_ ?_
     rotate_left
     ·show Act.put _ (some 63) _ = _
      simp only [Act.put, List.setIfInBounds_toArray, List.set_cons_zero, List.set_cons_succ, i64_w, i32_w]
      rfl
     refine one_ (i := 7) (N := some 64) (bn 10 255) rfl rfl (one_of HT_.out (by kernel_rfl)) (by decide) (fun K hK => ?_)
     refine Kd.R_append_step k40 (w0 := w) w.heap.size (by rfl) (.tmp 58) (.tmp 63) 26 40 (.agg #[(.int .i64 0), (.int .i64 0), (.int .i64 0)]) 24 rfl Tryz.underlying26 info40 rfl (by decide) (by omega) u194001 x194001_2 (⟨t202, t203, t204⟩ : S40) [.int .i64 t202, .int .i64 t203, .int .i64 t204] (fun _ => True) (fun _ => False) rfl rfl ?aP (fun _ hk => hk.elim) ?aF ?aO ?aB ?aS ?aL ?_
     (case aP => exact k40_mkM _ _ _ (⟨t202, t203, t204⟩ : S40))
     (case aB => exact (bel HB))
     (case aF => exact (fun _ _ => trivial))
     (case aO => exact (rU HO_194001.out))
     (case aS => exact (below_size (bel HB)))
     (case aL => have := LMc32.out; omega)
     intro v206 w35 ho hb hg hat
     rw [← Ny205.out] at ho
     have n0_ := aM (blk_grown (g := gb189) (o := .cells #[.int .i64 0, .slice none 0 0] 28 (0, 0)) (bU BK189.out) hg (Kd.R_ne HO_194001.out BK189.out (by decide)))
     have n1_ := aM (blk_grown (g := gb193) (o := .cells #[.int .i64 (a0.size : Int), u194001] 28 (0, 0)) (bU BK193.out) hg (Kd.R_ne HO_194001.out BK193.out (by decide)))
     have n2_ := aM (hb)
     have n3_ := aM (ho)
     clear BK189
     clear BK193
     clear HB
     clear HO_194001
     have BK189 := n0_
     have BK193 := n1_
     have HB := n2_
     have HO207 := n3_
     clear n0_ n1_ n2_ n3_
     clear ho hb hg hat
     obtain ⟨Ao36, co36, eo36⟩ := Kd.R_slice HO207.out
     (first | subst eo36 | (injection eo36 with f1_ f2_ f3_; have f4_ := f1_.symm; have f5_ := f3_.symm; clear f1_ f2_ f3_; subst f4_; subst f5_))
     refine hK.out _ _ ⟨(blk_cell BK193.out 0).trans rfl, (blk_cell BK193.out 1).trans rfl⟩ (fun hHeld => ?_)
     clear hK K
     refine norm_ (a' := ?_) ?_ ?_
     rotate_left
     ·show Act.put _ (some 64) _ = _
      simp only [Act.put, List.setIfInBounds_toArray, List.set_cons_zero, List.set_cons_succ, i64_w, i32_w]
      rfl
     refine pU 8 (some 65) (bn 10 511) ?_
     refine last_ (i := 9) (N := none) #[true, true, true, true, true, true, true, true, true, true] rfl rfl (one_of HT_.out (by kernel_rfl)) (by decide) (fun K hK => ?_)
     have hs37 : w35.cell? ⟨gb193, 1, none⟩ = some (u194001) := (blk_cell BK193.out 1).trans rfl
     have hfs37 := blk_frozen BK193.out 1
     have hns37_0 := NB189_193.out
     have hms37_0 := NB193_189.out
     refine skip_ (w1 := ?_) (by rfl) rfl ?_ ?_
     rotate_left
     ·go_simp
      rfl
     refine hK.out _ _ ?_
     clear hK K
     refine done_ (done_of HT_.out (by kernel_rfl)) ?_
     try go_wp2
     go_roundg k2
     case measure => have := HJ3.out; have := HK2.out; omega
     case rel => exact ⟨(wrap64 (x1_2 - 1)), (t195), (y205), (.slice Ao36 y205.length co36), rF, rF, H', ⟨by have := HJ3.out; have := HK2.out; omega⟩, ⟨rU (Kd.R_mono (Kd.R_far (p := ⟨gb193, 1, none⟩) (Kd.R_types HO207.out BK193.out (by decide)) (fun _ hk => hk.2) (.slice Ao36 y205.length co36)) (fun _ hk => trivial))⟩, ⟨by (with_reducible repeat (first | refine blk_drewN ?_ _ | refine blk_drew ?_ | refine blk_alloc ?_ _)); refine blk_far ?_ NB189_193.out _; (with_reducible repeat (first | refine blk_drewN ?_ _ | refine blk_drew ?_ | refine blk_alloc ?_ _)); exact BK189.out⟩, ⟨by (with_reducible repeat (first | refine blk_drewN ?_ _ | refine blk_drew ?_ | refine blk_alloc ?_ _)); refine blk_put (cs := #[.int .i64 (a0.size : Int), u194001]) ?_ 1 _ rfl; (with_reducible repeat (first | refine blk_drewN ?_ _ | refine blk_drew ?_ | refine blk_alloc ?_ _)); exact BK193.out⟩, hV HB⟩
    have c28b0 := qF c28
    have c28b1 := nT c28
    replace H := bC H; obtain ⟨⟨t208, t209, t210⟩, A38, H⟩ := H; try dsimp only at H
    refine iY H ?_; clear H; intro c39 H
    have LMc39 := aM c39
    clear c39
    obtain ⟨y211, Ny211⟩ := yN (x194001_2 ++ [(⟨t208, t209, t210⟩ : S40)] : List (S40)); rw [← Ny211.out] at H
    have H' := aM H
    clear H
    try go_wp2_with (first | ((with_reducible refine gG 45 (some 35) rfl rfl ?_); refine gL Tryz.func45 #[.int .i64 x9_2] ?_; (with_reducible refine (spec_pzNext.calls x9_2 t194 _ A17.out).mono ?_); rintro e w' ⟨rfl, ⟨nd, rfl⟩⟩; refine ⟨_, rfl, ?_⟩; (try (rw [drewN_self wr]; generalize hq_ : World.drewN wr _ = wr; have n0_ : Aside0 (Kd.R k40 40 wr w.heap.size (fun _ => True) u194001 x194001_2) := ⟨by rw [← hq_]; exact (rU HO_194001.out)⟩; have n1_ : Aside0 (wr.heap[gb189]? = some (.cells #[.int .i64 0, .slice none 0 0] 28 (0, 0))) := ⟨by rw [← hq_]; exact (bU BK189.out)⟩; have n2_ : Aside0 (wr.heap[gb193]? = some (.cells #[.int .i64 (a0.size : Int), u194001] 28 (0, 0))) := ⟨by rw [← hq_]; exact (bU BK193.out)⟩; have n3_ : Aside0 (Below w.heap.size w wr) := ⟨by rw [← hq_]; exact (bel HB)⟩; clear HO_194001 BK189 BK193 HB hq_; have HO_194001 := n0_; have BK189 := n1_; have BK193 := n2_; have HB := n3_; clear n0_ n1_ n2_ n3_))) | ((with_reducible refine gG 45 (some 39) rfl rfl ?_); refine gL Tryz.func45 #[.int .i64 t194] ?_; (with_reducible refine (spec_pzNext.calls t194 t195 _ A18.out).mono ?_); rintro e w' ⟨rfl, ⟨nd, rfl⟩⟩; refine ⟨_, rfl, ?_⟩; (try (rw [drewN_self wr]; generalize hq_ : World.drewN wr _ = wr; have n0_ : Aside0 (Kd.R k40 40 wr w.heap.size (fun _ => True) u194001 x194001_2) := ⟨by rw [← hq_]; exact (rU HO_194001.out)⟩; have n1_ : Aside0 (wr.heap[gb189]? = some (.cells #[.int .i64 0, .slice none 0 0] 28 (0, 0))) := ⟨by rw [← hq_]; exact (bU BK189.out)⟩; have n2_ : Aside0 (wr.heap[gb193]? = some (.cells #[.int .i64 (a0.size : Int), u194001] 28 (0, 0))) := ⟨by rw [← hq_]; exact (bU BK193.out)⟩; have n3_ : Aside0 (Below w.heap.size w wr) := ⟨by rw [← hq_]; exact (bel HB)⟩; clear HO_194001 BK189 BK193 HB hq_; have HO_194001 := n0_; have BK189 := n1_; have BK193 := n2_; have HB := n3_; clear n0_ n1_ n2_ n3_))))
    have n0_ := aM (Kd.R_drew HO_194001.out)
    have n1_ := aM (blk_drew BK189.out)
    have n2_ := aM (blk_drew BK193.out)
    have n3_ := aM (below_drew1 HB.out)
    clear HO_194001
    clear BK189
    clear BK193
    clear HB
    have HO_194001 := n0_
    have BK189 := n1_
    have BK193 := n2_
    have HB := n3_
    clear n0_ n1_ n2_ n3_
    refine start_ (n := 10) (S := fun w' => w'.cell? ⟨gb193, 0, none⟩ = some (.int .i64 (a0.size : Int)) ∧ w'.cell? ⟨gb193, 1, none⟩ = some (u194001)) (ds := [9]) (bn 10 0) (by kernel_rfl) rfl rfl ⟨(blk_cell BK193.out 0).trans rfl, (blk_cell BK193.out 1).trans rfl⟩ (fun hHeld => ?_); refine with_tabW spec_MakePuzzle.tab16 spec_MakePuzzle.bits16 (fun HT_ HW_ => ?_)
    generalize wr.drew = w40 at HO_194001 BK189 BK193 HB hHeld ⊢
    refine pU 0 (some 57) (bn 10 1) ?_
    refine pU 2 (some 59) (bn 10 5) ?_
    refine pU 3 (some 60) (bn 10 13) ?_
    refine pU 4 (some 61) (bn 10 29) ?_
    refine take_ (i := 1) (N := some 58) (v := ?_) (a' := ?_) (bn 10 31) rfl rfl (take_ofW HT_.out HW_.out (by kernel_rfl)) (fun _ _ _ h => h) (Or.inl ⟨by rfl, ?_⟩) hHeld ?_ ?_
    rotate_left
    ·rintro w' ⟨s0, s1⟩
     go_simp
     with_reducible rfl
    rotate_left
    ·simp only [Act.put, List.setIfInBounds_toArray, List.set_cons_zero, List.set_cons_succ, i64_w, i32_w]
     rfl
    refine one_ (i := 5) (N := some 62) (bn 10 63) rfl rfl (one_of HT_.out (by kernel_rfl)) (by decide) (fun K hK => ?_)
    refine goes_ Tryz.func46 (by kernel_rfl) rfl #[.int .i64 (Int.tmod t194 5), .int .i64 (Int.tmod t195 (a0.size : Int)), .string a0] (by rfl) rfl rfl (by (try simp only [List.map_toArray, List.map_cons, List.map_nil]); first | done | rfl | (simp only [List.length_drop, List.length_take]; rfl)) ?_
    with_reducible refine (spec_pzOf.calls k2 (Int.tmod t194 5) (Int.tmod t195 (a0.size : Int)) a0 t208 t209 t210 _ A38.out).mono ?_
    rintro e w41 ⟨rfl, hb⟩
    refine ⟨_, rfl, ?_⟩
    have n0_ := rB HO_194001 hb
    have n1_ := bB BK189 hb
    have n2_ := bB BK193 hb
    have n3_ := hS HB hb
    clear HO_194001
    clear BK189
    clear BK193
    clear HB
    have HO_194001 := n0_
    have BK189 := n1_
    have BK193 := n2_
    have HB := n3_
    clear n0_ n1_ n2_ n3_
    (try clear hb)
    (try clear hb2)
    (try clear hk)
    (try clear hi)
    refine hK.out _ _ ⟨(blk_cell BK193.out 0).trans rfl, (blk_cell BK193.out 1).trans rfl⟩ (fun hHeld => ?_)
    clear hK K
    refine norm_ (a' := ?_) ?_ ?_
    rotate_left
    ·show Act.put _ (some 62) _ = _
     simp only [Act.put, List.setIfInBounds_toArray, List.set_cons_zero, List.set_cons_succ, i64_w, i32_w]
     rfl
    refine one_ (i := 6) (N := some 63) (bn 10 127) rfl rfl (one_of HT_.out (by kernel_rfl)) (by decide) (fun K hK => ?_)
    refine value_ (w1 := ?_) (v := ?_) (by rfl) rfl ?_ ?_
    rotate_left 2
    ·go_simp
     constructor
     ·rfl
     rfl
    refine hK.out _ _ ⟨(blk_cell (blk_alloc BK193.out _) 0).trans rfl, (blk_cell (blk_alloc BK193.out _) 1).trans rfl⟩ (fun hHeld => ?_)
    clear hK K
    refine norm_ (a' := ?_) ?_ ?_
    rotate_left
    ·show Act.put _ (some 63) _ = _
     simp only [Act.put, List.setIfInBounds_toArray, List.set_cons_zero, List.set_cons_succ, i64_w, i32_w]
     rfl
    refine one_ (i := 7) (N := some 64) (bn 10 255) rfl rfl (one_of HT_.out (by kernel_rfl)) (by decide) (fun K hK => ?_)
    refine Kd.R_append_step k40 (w0 := w) w.heap.size (by rfl) (.tmp 58) (.tmp 63) 26 40 (.agg #[(.int .i64 0), (.int .i64 0), (.int .i64 0)]) 24 rfl Tryz.underlying26 info40 rfl (by decide) (by omega) u194001 x194001_2 (⟨t208, t209, t210⟩ : S40) [.int .i64 t208, .int .i64 t209, .int .i64 t210] (fun _ => True) (fun _ => False) rfl rfl ?aP (fun _ hk => hk.elim) ?aF ?aO ?aB ?aS ?aL ?_
    (case aP => exact k40_mkM _ _ _ (⟨t208, t209, t210⟩ : S40))
    (case aB => exact (bel HB))
    (case aF => exact (fun _ _ => trivial))
    (case aO => exact (rU HO_194001.out))
    (case aS => exact (below_size (bel HB)))
    (case aL => have := LMc39.out; omega)
    intro v212 w42 ho hb hg hat
    rw [← Ny211.out] at ho
    have n0_ := aM (blk_grown (g := gb189) (o := .cells #[.int .i64 0, .slice none 0 0] 28 (0, 0)) (bU BK189.out) hg (Kd.R_ne HO_194001.out BK189.out (by decide)))
    have n1_ := aM (blk_grown (g := gb193) (o := .cells #[.int .i64 (a0.size : Int), u194001] 28 (0, 0)) (bU BK193.out) hg (Kd.R_ne HO_194001.out BK193.out (by decide)))
    have n2_ := aM (hb)
    have n3_ := aM (ho)
    clear BK189
    clear BK193
    clear HB
    clear HO_194001
    have BK189 := n0_
    have BK193 := n1_
    have HB := n2_
    have HO213 := n3_
    clear n0_ n1_ n2_ n3_
    clear ho hb hg hat
    obtain ⟨Ao43, co43, eo43⟩ := Kd.R_slice HO213.out
    (first | subst eo43 | (injection eo43 with f1_ f2_ f3_; have f4_ := f1_.symm; have f5_ := f3_.symm; clear f1_ f2_ f3_; subst f4_; subst f5_))
    refine hK.out _ _ ⟨(blk_cell BK193.out 0).trans rfl, (blk_cell BK193.out 1).trans rfl⟩ (fun hHeld => ?_)
    clear hK K
    refine norm_ (a' := ?_) ?_ ?_
    rotate_left
    ·show Act.put _ (some 64) _ = _
     simp only [Act.put, List.setIfInBounds_toArray, List.set_cons_zero, List.set_cons_succ, i64_w, i32_w]
     rfl
    refine pU 8 (some 65) (bn 10 511) ?_
    refine last_ (i := 9) (N := none) #[true, true, true, true, true, true, true, true, true, true] rfl rfl (one_of HT_.out (by kernel_rfl)) (by decide) (fun K hK => ?_)
    have hs44 : w42.cell? ⟨gb193, 1, none⟩ = some (u194001) := (blk_cell BK193.out 1).trans rfl
    have hfs44 := blk_frozen BK193.out 1
    have hns44_0 := NB189_193.out
    have hms44_0 := NB193_189.out
    refine skip_ (w1 := ?_) (by rfl) rfl ?_ ?_
    rotate_left
    ·go_simp
     rfl
    refine hK.out _ _ ?_
    clear hK K
    refine done_ (done_of HT_.out (by kernel_rfl)) ?_
    try go_wp2
    go_roundg k2
    case measure => have := HJ3.out; have := HK2.out; omega
    case rel => exact ⟨(wrap64 (x1_2 - 1)), (t195), (y211), (.slice Ao43 y211.length co43), rF, rF, H', ⟨by have := HJ3.out; have := HK2.out; omega⟩, ⟨rU (Kd.R_mono (Kd.R_far (p := ⟨gb193, 1, none⟩) (Kd.R_types HO213.out BK193.out (by decide)) (fun _ hk => hk.2) (.slice Ao43 y211.length co43)) (fun _ hk => trivial))⟩, ⟨by (with_reducible repeat (first | refine blk_drewN ?_ _ | refine blk_drew ?_ | refine blk_alloc ?_ _)); refine blk_far ?_ NB189_193.out _; (with_reducible repeat (first | refine blk_drewN ?_ _ | refine blk_drew ?_ | refine blk_alloc ?_ _)); exact BK189.out⟩, ⟨by (with_reducible repeat (first | refine blk_drewN ?_ _ | refine blk_drew ?_ | refine blk_alloc ?_ _)); refine blk_put (cs := #[.int .i64 (a0.size : Int), u194001]) ?_ 1 _ rfl; (with_reducible repeat (first | refine blk_drewN ?_ _ | refine blk_drew ?_ | refine blk_alloc ?_ _)); exact BK193.out⟩, hV HB⟩
   have c16b0 := gF c16
   clear c16
   simp only [Option.some.injEq, Prod.mk.injEq] at H
   obtain ⟨rfl, rfl, rfl⟩ := H
   have hnb45 := NB193_189.out
   have hnc45 := NB189_193.out
   obtain ⟨hcz46_0, hcz46_1, hfz46_0, hfz46_1⟩ := hC2 BK193
   obtain ⟨hcz47_0, hcz47_1, hfz47_0, hfz47_1⟩ := hC2 BK189
   obtain ⟨Ao48, co48, eo48⟩ := Kd.R_slice HO_194001.out
   subst eo48
   go_wp2
   refine bodyPost_ret (results_ct rfl _ _ gb189 28 #[.int .i64 (a0.size : Int), .slice Ao48 x194001_2.length co48] (0, 0) _ rfl (bP2 BK189) Tryz.underlying28 rfl (by kernel_rfl)) rfl ?_
   exact ⟨_, eW, rU (Kd.R_mono (Kd.R_far (p := ⟨gb189, 1, none⟩) (Kd.R_far (p := ⟨gb189, 0, none⟩) (Kd.R_types HO_194001.out BK189.out (by decide)) (fun _ hk => hk.2) (.int .i64 (a0.size : Int))) (fun _ hk => hk.2) (.slice Ao48 x194001_2.length co48)) (fun _ hk => trivial)), bel HB⟩

end Go.Proofs.YtpdkjehplfgjcabGreatDoor.PHid
