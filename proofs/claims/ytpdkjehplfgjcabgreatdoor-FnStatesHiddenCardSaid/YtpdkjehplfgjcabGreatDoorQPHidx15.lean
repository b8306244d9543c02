-- squeezed (sq3.py); PRINTED by drive.py (a program of this session's, over the kit's print.py; wip/tools/drive.py). Lean checks it.
import Derived.Test.YtpdkjehplfgjcabGreatDoorQPHidx0
import Derived.Test.YtpdkjehplfgjcabGreatDoorQPHidx9
import Derived.Test.YtpdkjehplfgjcabGreatDoorQPHidx10
import Derived.Test.YtpdkjehplfgjcabGreatDoorQPHidx13
import Derived.Test.YtpdkjehplfgjcabGreatDoorQPHidx14
import Derived.Test.YtpdkjehplfgjcabGreatDoorQSq
namespace Go.Proofs.YtpdkjehplfgjcabGreatDoor.PHid
open Go.RowKit Go.Proofs.YtpdkjehplfgjcabGreatDoorW.PrintWords Go.Proofs.YtpdkjehplfgjcabGreatDoorW.PrintLast Go.Proofs.YtpdkjehplfgjcabGreatDoorW.PrintMore
attribute [local go_sem] max2_int min2_int max_two min_two max_three min_three max_four min_four   -- for this text's walks alone
set_option linter.unusedVariables false
set_option linter.unusedSimpArgs false

/-! ### spec_pzWithout: function 60 -/
def spec_pzWithout.f (l0 : List (S40)) (a1 : Int) : Option ((List (S40))) := (some (([] : List (S40)) : List (S40))).bind fun y418 => (if 0 ≤ a1 then (if a1 ≤ (l0.length : Int) then ((some (l0.take (a1 : Int).toNat : List (S40))).bind fun y421 => (if y418.length + y421.length < 5864062014805 then ((some (y418 ++ y421 : List (S40))).bind fun y425 => (if 0 ≤ (wrap64 (a1 + 1)) then (if (wrap64 (a1 + 1)) ≤ (l0.length : Int) then ((some (l0.drop ((wrap64 (a1 + 1)) : Int).toNat : List (S40))).bind fun y428 => (if y425.length + y428.length < 5864062014805 then (some (y425 ++ y428)) else (none))) else (none)) else (none))) else (none))) else (none)) else (none))
def spec_pzWithout.T1 : Bool × List (List Nat × List Nat) := (true, [([], []), ([], []), ([], []), ([1, 2], [1, 2]), ([0, 3], [0, 3]), ([], []), ([], []), ([6], [6]), ([5, 7], [5, 7]), ([4, 8, 4], [4, 8]), ([9, 9, 0, 1, 2, 3, 4, 5, 6, 7, 8, 9], [9])])
def spec_pzWithout.B1 : List Nat := [0, 0, 0, 6, 15, 0, 0, 64, 224, 511, 1023]
theorem spec_pzWithout.tab1 : rtab .any (opsOf Tryz.f60 1) = spec_pzWithout.T1 := by kernel_rfl
theorem spec_pzWithout.bits1 : waitsOk spec_pzWithout.T1.2 spec_pzWithout.B1 = true := by kernel_rfl
set_option maxHeartbeats 8000000 in
set_option maxRecDepth 100000 in
theorem spec_pzWithout.calls (A0 : Option Addr) (c0 : Nat) (l0 : List (S40)) (a1 : Int) (r : List (S40)) (w : World) (hr0 : Kd.C k40 w A0 l0.length l0) (hc0 : l0.length ≤ c0) (h : spec_pzWithout.f l0 a1 = some r) :
  Calls Tryz.prog 60 #[.slice A0 l0.length c0, .int .i64 a1] w fun e w' => ∃ v0_ : Value, e = .returned (v0_) ∧ Kd.R k40 40 w' w.heap.size (fun _ => True) v0_ r ∧ Below w.heap.size w w' := by
 have HR0 := aM hr0
 have HC0 := aM hc0
 clear hr0 hc0
 have HB := aM (Below.refl w.heap.size w)
 have H := h
 clear h; unfold spec_pzWithout.f at H
 replace H := yB H; obtain ⟨y418, Ny418, H⟩ := H
 refine iY H ?_; clear H; intro c3 H
 have c3b0 := eq_true c3
 have c3b1 := dT c3
 clear c3
 refine iY H ?_; clear H; intro c4 H
 have c4b0 := eq_true c4
 have c4b1 := dT c4
 clear c4
 replace H := yB H; obtain ⟨y421, Ny421, H⟩ := H
 refine iY H ?_; clear H; intro c5 H
 have LMc5 := aM c5
 clear c5
 replace H := yB H; obtain ⟨y425, Ny425, H⟩ := H
 obtain ⟨ji6, hji6⟩ := jN (wrap64 (a1 + 1))
 first | rw [hji6] at H | simp only [hji6] at H
 have hji6w : (IntKind.i64.wrap (a1 + 1)) = ji6 := (i64_w _).trans hji6
 refine iY H ?_; clear H; intro c7 H
 have c7b0 := eq_true c7
 have c7b1 := dT c7
 clear c7
 refine iY H ?_; clear H; intro c8 H
 have c8b0 := eq_true c8
 have c8b1 := dT c8
 clear c8
 replace H := yB H; obtain ⟨y428, Ny428, H⟩ := H
 refine iY H ?_; clear H; intro c9 H
 have LMc9 := aM c9
 clear c9
 obtain ⟨y432, Ny432⟩ := yN (y425 ++ y428 : List (S40)); rw [← Ny432.out] at H
 obtain rfl := Option.some.inj H
 go_enter Tryz.func60, Tryz.ntmps60
 try go_wp2
 have n0_ := aM (below_drew1 HB.out)
 clear HB
 have HB := n0_
 clear n0_
 have q11 : (a1 : Int) ≤ ((l0.length : Int) : Int) := oD
 obtain ⟨i011, hi011, _, hsz11, _⟩ := info_parts info40
 have hroom11 : l0.length ≤ c0 := HC0.out
 have hC11 : Kd.C k40 _ A0 l0.length l0 := HR0.out
 have hcut11 := cut_to (P := Tryz.prog) 26 40 .i64 Tryz.underlying26 hi011 A0 l0.length c0 a1 oD q11 hroom11
 have hr11 := Kd.C_take (m := (a1 : Int).toNat) hC11 (by omega)
 have hy11 : y421.length = (a1 : Int).toNat := (by rw [Ny421.out, List.length_take]; omega)
 rw [← Ny421.out] at hr11
 rw [← hy11] at hcut11
 have HR424 := aM hr11
 have HC424 := aM (show y421.length ≤ c0 from by omega)
 clear hr11 hC11 hroom11 hi011 hsz11
 have KY11 := aM hy11
 clear hy11
 replace q11 := eq_true q11
 have q12 : ((ji6) : Int) ≤ ((l0.length : Int) : Int) := oD
 obtain ⟨i012, hi012, _, hsz12, _⟩ := info_parts info40
 have hroom12 : l0.length ≤ c0 := HC0.out
 have hC12 : Kd.C k40 _ A0 l0.length l0 := HR0.out
 have q012 : (0 : Int) ≤ ((ji6) : Int) := oD
 have hcut12 := cut_from (P := Tryz.prog) 26 40 .i64 Tryz.underlying26 hi012 3 hsz12 A0 l0.length c0 (ji6) q012 q12
 have hr12 := Kd.C_drop (m := ((ji6) : Int).toNat) (c := c0) hC12 (by omega) hroom12
 obtain ⟨A12, hA12⟩ : ∃ A1, A1 = (if c0 = ((ji6) : Int).toNat then A0 else (A0 : Option Addr).map (·.add (((ji6) : Int).toNat * 3))) := ⟨_, rfl⟩
 obtain ⟨c12, hc12⟩ : ∃ c1, c1 = c0 - ((ji6) : Int).toNat := ⟨_, rfl⟩
 have hy12 : y428.length = l0.length - ((ji6) : Int).toNat := (by rw [Ny428.out, List.length_drop] <;> omega)
 rw [show (l0).drop ((ji6) : Int).toNat = y428 from Ny428.out.symm] at hr12
 replace hr12 : Kd.C k40 _ A12 y428.length y428 := (by rw [hA12]; exact hr12)
 rw [← hy12, ← hA12, ← hc12] at hcut12
 have HR431 := aM hr12
 have HC431 := aM (show y428.length ≤ c12 from by rw [hy12, hc12]; exact Nat.sub_le_sub_right hroom12 _)
 clear hr12 hC12 hroom12 hi012 hsz12 hc12
 have KY12 := aM hy12
 have KA12 := aM hA12
 clear hy12 hA12
 replace q12 := eq_true q12
 refine start_ (n := 11) (S := fun w' => True) (ds := []) (bn 11 0) (by kernel_rfl) rfl rfl trivial (fun hHeld => ?_); refine with_tabW spec_pzWithout.tab1 spec_pzWithout.bits1 (fun HT_ HW_ => ?_)
 generalize w.drew = w10 at HB HR424 HR431 hHeld ⊢
 refine pU 1 (some 6) (bn 11 2) ?_
 refine pU 2 (some 7) (bn 11 6) ?_
 refine pU 3 (some 8) (bn 11 14) ?_
 refine pU 5 (some 10) (bn 11 46) ?_
 refine pU 6 (some 11) (bn 11 110) ?_
 refine pU 7 (some 12) (bn 11 238) ?_
 refine pU 8 (some 13) (bn 11 494) ?_
 refine one_ (i := 0) (N := some 5) (bn 11 495) rfl rfl (one_of HT_.out (by kernel_rfl)) (by decide) (fun K hK => ?_)
 refine Kd.R_lit_step k40 _ 40 ?hg (N := 5) ?hd (xs := ([] : List (S40))) (inner := []) (ok := fun _ => True) (okp := fun _ => True) ?hr ?hp (fun _ hk => hk) trivial (Below.refl _ _) (Nat.le_refl _) (by simp) ?_; (case hd => rfl); (case hg => rfl); (case hr => first | (go_simp; done) | (go_simp; rfl)); (case hp => exact (Reps.none _ _))
 intro v419 w13 ho14 hb hg_ hnew_
 clear hg_ hnew_
 (first | rw [← Ny418.out] at ho14 | (simp only [Int.reduceToNat] at ho14; rw [← Ny418.out] at ho14))
 have n0_ := rL ho14 HB
 have n1_ := hS HB hb
 clear HB
 have HO420 := n0_
 have HB := n1_
 clear n0_ n1_
 clear hb ho14
 refine hK.out _ _ trivial (fun hHeld => ?_)
 clear hK K
 refine norm_ (a' := ?_) ?_ ?_
 rotate_left
 ·show Act.put _ (some 5) _ = _
  simp only [Act.put, List.setIfInBounds_toArray, List.set_cons_zero, List.set_cons_succ, i64_w, i32_w]
  rfl
 refine one_ (i := 4) (N := some 9) (bn 11 511) rfl rfl (one_of HT_.out (by kernel_rfl)) (by decide) (fun K hK => ?_)
 refine Kd.R_append_rows_step k40 (w0 := w) w.heap.size (by rfl) (.tmp 5) (.tmp 8) 26 40 (.agg #[(.int .i64 0), (.int .i64 0), (.int .i64 0)]) 24 rfl Tryz.underlying26 info40 rfl (by decide) (by omega) v419 y418 y421 _ _ _ (fun _ => True) (fun _ => False) rfl rfl ?aO ?aR (fun _ _ h => h) (fun _ h => h.elim) ?aF ?aB ?aS ?aL ?_
 (case aR => exact cU (Kd.C_below HR424.out HB.out))
 (case aB => exact (bel HB))
 (case aF => exact (fun _ _ => trivial))
 (case aO => exact (rU HO420.out))
 (case aS => exact (below_size (bel HB)))
 (case aL => have := LMc5.out; omega)
 intro v426 w15 ho hb hg hat
 rw [← Ny425.out] at ho
 have n0_ := aM (hb)
 have n1_ := aM (ho)
 clear HB
 clear HO420
 have HB := n0_
 have HO427 := n1_
 clear n0_ n1_
 clear ho hb hg hat
 refine hK.out _ _ trivial (fun hHeld => ?_)
 clear hK K
 refine norm_ (a' := ?_) ?_ ?_
 rotate_left
 ·show Act.put _ (some 9) _ = _
  simp only [Act.put, List.setIfInBounds_toArray, List.set_cons_zero, List.set_cons_succ, i64_w, i32_w]
  rfl
 refine one_ (i := 9) (N := some 14) (bn 11 1023) rfl rfl (one_of HT_.out (by kernel_rfl)) (by decide) (fun K hK => ?_)
 refine Kd.R_append_rows_step k40 (w0 := w) w.heap.size (by rfl) (.tmp 9) (.tmp 13) 26 40 (.agg #[(.int .i64 0), (.int .i64 0), (.int .i64 0)]) 24 rfl Tryz.underlying26 info40 rfl (by decide) (by omega) v426 y425 y428 _ _ _ (fun _ => True) (fun _ => False) rfl rfl ?aO ?aR (fun _ _ h => h) (fun _ h => h.elim) ?aF ?aB ?aS ?aL ?_
 (case aR => exact cU (Kd.C_below HR431.out HB.out))
 (case aB => exact (bel HB))
 (case aF => exact (fun _ _ => trivial))
 (case aO => exact (rU HO427.out))
 (case aS => exact (below_size (bel HB)))
 (case aL => have := LMc9.out; omega)
 intro v433 w16 ho hb hg hat
 rw [← Ny432.out] at ho
 have n0_ := aM (hb)
 have n1_ := aM (ho)
 clear HB
 clear HO427
 have HB := n0_
 have HO434 := n1_
 clear n0_ n1_
 clear ho hb hg hat
 refine hK.out _ _ trivial (fun hHeld => ?_)
 clear hK K
 refine norm_ (a' := ?_) ?_ ?_
 rotate_left
 ·show Act.put _ (some 14) _ = _
  simp only [Act.put, List.setIfInBounds_toArray, List.set_cons_zero, List.set_cons_succ, i64_w, i32_w]
  rfl
 refine pU 10 (some 4) (bn 11 2047) ?_
 refine done_ (done_of HT_.out (by kernel_rfl)) ?_
 try go_wp2
 go_ret
 exact ⟨_, by first | rfl | (simp [errW_none, errW_some] <;> rfl) | (simp only [← hji6]; first | rfl | (simp [errW_none, errW_some] <;> rfl)) | (simp [*, errW_none, errW_some] <;> rfl), rU HO434.out, bel HB⟩

/-! ### spec_HarderPuzzle: function 19 -/
mutual
def spec_HarderPuzzle.j0 : Nat → Bool → Int → List (S40) → Option (Int × (List (S40)) × Bool)
 | 0, _, _, _ => none
 | k + 1, x17, x436000, x436001 => if x17 = true then (some (0, ([] : List (S40)), false)) else ((some (([] : List (S40)) : List (S40))).bind fun y439 => (if y439.length + x436001.length < 5864062014805 then (spec_HarderPuzzle.l0 k (y439 ++ x436001) 0 x436000 x436001) else (none)))
def spec_HarderPuzzle.l0 : Nat → List (S40) → Int → Int → List (S40) → Option (Int × (List (S40)) × Bool)
 | 0, _, _, _, _ => none
 | k + 1, x4, x5, x436000, x436001 => if x5 < (x4.length : Int) then ((spec_pzWithout.f x4 x5).bind fun t445 => ((spec_pzSolved.f k x436000 t445).bind fun t448 => (if t448 = true then (spec_HarderPuzzle.l0 k t445 x5 x436000 x436001) else (spec_HarderPuzzle.l0 k x4 (wrap64 (x5 + 1)) x436000 x436001)))) else (some (x436000, x4, true))
end
def spec_HarderPuzzle.f (k : Nat) (a0_0 : Int) (l0_1 : List (S40)) : Option (Int × (List (S40)) × Bool) := (spec_pzGood.f k a0_0 l0_1).bind fun t437 => (if t437 = true then ((spec_pzSolved.f k a0_0 l0_1).bind fun t438 => (spec_HarderPuzzle.j0 k (!t438) a0_0 l0_1)) else (spec_HarderPuzzle.j0 k true a0_0 l0_1))
theorem spec_HarderPuzzle.mono_l : ∀ k, Mo (spec_HarderPuzzle.j0 k) (spec_HarderPuzzle.j0 (k + 1)) ∧ Mo (spec_HarderPuzzle.l0 k) (spec_HarderPuzzle.l0 (k + 1))
 | 0 => m0
 | k + 1 => by
  have ⟨ih0, ih1⟩ := spec_HarderPuzzle.mono_l k
  refine ⟨?_, ?_⟩ <;> (repeat refine mE fun _ => ?_) <;> first | (unfold spec_HarderPuzzle.j0; exact mG) | (unfold spec_HarderPuzzle.l0; exact mG)
instance spec_HarderPuzzle.mI (k : Nat) : Mo (spec_HarderPuzzle.f k) (spec_HarderPuzzle.f (k + 1)) := by
 have ⟨ih0, ih1⟩ := spec_HarderPuzzle.mono_l k
 (repeat refine mE fun _ => ?_); unfold spec_HarderPuzzle.f; exact mG
theorem spec_HarderPuzzle.mono : ∀ a0 a1 k, LeO (spec_HarderPuzzle.f k a0 a1) (spec_HarderPuzzle.f (k + 1) a0 a1) := fun a0 a1 k => (spec_HarderPuzzle.mI k).out a0 a1
set_option maxHeartbeats 8000000 in
set_option maxRecDepth 100000 in
theorem spec_HarderPuzzle.calls (k : Nat) (a0_0 : Int) (A0_1 : Option Addr) (c0_1 : Nat) (l0_1 : List (S40)) (r1 : Int) (r2 : List (S40)) (r3 : Bool) (w : World) (hr0_1 : Kd.C k40 w A0_1 l0_1.length l0_1) (hc0_1 : l0_1.length ≤ c0_1) (h : spec_HarderPuzzle.f k a0_0 l0_1 = some (r1, r2, r3)) :
  Calls Tryz.prog 19 #[.agg #[.int .i64 a0_0, .slice A0_1 l0_1.length c0_1]] w fun e w' => ∃ v1_ : Value, e = .returned (.tuple #[.agg #[.int .i64 r1, v1_], .bool r3]) ∧ Kd.R k40 40 w' w.heap.size (fun _ => True) v1_ r2 ∧ Below w.heap.size w w' := by
 have hu28 := Tryz.underlying28
 have HR0_1 := aM hr0_1
 have HC0_1 := aM hc0_1
 clear hr0_1 hc0_1
 have HB := aM (Below.refl w.heap.size w)
 have H := h
 clear h; unfold spec_HarderPuzzle.f at H
 have HC2 := aM H
 clear H
 go_enter Tryz.func19, Tryz.ntmps19
 go_upto_region 1 with (first | (refine bX (N := 1) rfl (cs := #[.int .i64 a0_0, .slice A0_1 l0_1.length c0_1]) (t := 28) ?_; intro gb435 hg w3 BK435 hb; have GW435 := gE hg HB; have GE435 := gE hg HB; replace HB := hS HB hb; clear hb hg) | (refine bX (N := 2) rfl (cs := #[.int .i64 0, .slice none 0 0]) (t := 28) ?_; intro gb436 hg w4 BK436 hb; have GW436 := gE hg HB; have GE436 := gE hg HB; have NB435_436 := nbL hg BK435; have NB436_435 := nbR hg BK435; replace BK435 := bB BK435 hb; replace HB := hS HB hb; clear hb hg))
 (try simp only [Act.put, List.setIfInBounds_toArray, List.set_cons_zero, List.set_cons_succ])
 go_cut [17] (fun v17 wc => ∃ (kq : Nat) (x17_1 : Bool), v17 = .bool x17_1 ∧ Aside0 (spec_HarderPuzzle.j0 kq x17_1 a0_0 l0_1 = some (r1, r2, r3)) ∧ Aside0 (kq ≤ k) ∧ Aside0 (wc.heap[gb435]? = some (.cells #[.int .i64 a0_0, (.slice A0_1 l0_1.length c0_1)] 28 (0, 0))) ∧ Aside0 (wc.heap[gb436]? = some (.cells #[.int .i64 0, (.slice none 0 0)] 28 (0, 0))) ∧ Aside0 (Below w.heap.size w wc))
 case first =>
  have H := HC2.out
  clear HC2
  replace H := bC H; obtain ⟨t437, A5, H⟩ := H
  refine iB H ?_ ?_ <;> clear H <;> rintro rfl H
  ·replace H := bC H; obtain ⟨t438, A7, H⟩ := H
   have H' := aM H
   clear H
   have hnb8 := NB435_436.out
   have hnc8 := NB436_435.out
   obtain ⟨hcz9_0, hcz9_1, hfz9_0, hfz9_1⟩ := hC2 BK435
   go_wp2_with (first | ((with_reducible refine gG 58 (some 8) rfl rfl ?_); refine gC Tryz.func58 (spec_pzGood.calls k a0_0 _ _ l0_1 true _ (cU (Kd.C_below HR0_1.out HB.out)) HC0_1.out A5.out) ?_; rintro w10 hb; replace BK435 := bB BK435 hb; replace BK436 := bB BK436 hb; replace HB := hS HB hb; clear hb; obtain ⟨hcz11_0, hcz11_1, hfz11_0, hfz11_1⟩ := hC2 BK435) | (go_at_call 59; (with_reducible refine (spec_pzSolved.calls k a0_0 _ _ l0_1 t438 _ (cU (Kd.C_below HR0_1.out HB.out)) HC0_1.out A7.out).mono ?_); rintro e w12 ⟨rfl, hb⟩; replace BK435 := bB BK435 hb; replace BK436 := bB BK436 hb; replace HB := hS HB hb; clear hb))
   go_meet
   case rel => exact ⟨_, (!t438), rF, H', kL, ⟨bU BK435.out⟩, ⟨bU BK436.out⟩, hV HB⟩
  have H' := aM H
  clear H
  have hnb13 := NB435_436.out
  have hnc13 := NB436_435.out
  obtain ⟨hcz14_0, hcz14_1, hfz14_0, hfz14_1⟩ := hC2 BK435
  go_wp2_with (first | ((with_reducible refine gG 58 (some 8) rfl rfl ?_); refine gC Tryz.func58 (spec_pzGood.calls k a0_0 _ _ l0_1 false _ (cU (Kd.C_below HR0_1.out HB.out)) HC0_1.out A5.out) ?_; rintro w15 hb; replace BK435 := bB BK435 hb; replace BK436 := bB BK436 hb; replace HB := hS HB hb; clear hb))
  go_meet
  case rel => exact ⟨_, (true), rF, H', kL, ⟨bU BK435.out⟩, ⟨bU BK436.out⟩, hV HB⟩
 case rest =>
  clear HC2
  obtain ⟨kq, x17_1, rfl, HA, HJ1, BK435, BK436, HB⟩ := hcut
  obtain rfl | ⟨kj1, rfl⟩ := fz kq
  ·exact zA HA
  have H := HA.out
  clear HA
  simp only [spec_HarderPuzzle.j0] at H
  refine iB H ?_ ?_ <;> clear H <;> rintro rfl H
  ·simp only [Option.some.injEq, Prod.mk.injEq] at H
   obtain ⟨rfl, rfl, rfl⟩ := H
   have hnb17 := NB436_435.out
   have hnc17 := NB435_436.out
   obtain ⟨hcz18_0, hcz18_1, hfz18_0, hfz18_1⟩ := hC2 BK436
   go_wp2
   refine bodyPost_ret (results_ct rfl _ _ gb436 28 #[.int .i64 0, .slice none 0 0] (0, 0) _ rfl (bP2 BK436) Tryz.underlying28 rfl (by kernel_rfl)) rfl ?_
   exact ⟨_, eW, by first | exact Kd.R_nil _ _ _ _ _ | exact Kd.N_nil _ _ _ _ _ | exact Kd.V_nil _ _ _ _ _ | exact Kd.Q_nil _ _ _ _ _ | exact Kd.S_nil _ _ _ _ _, bel HB⟩
  replace H := yB H; obtain ⟨y439, Ny439, H⟩ := H
  refine iY H ?_; clear H; intro c19 H
  have LMc19 := aM c19
  clear c19
  obtain ⟨y442, Ny442⟩ := yN (y439 ++ l0_1 : List (S40)); rw [← Ny442.out] at H
  have H' := aM H
  clear H
  go_wp2_with (first | ((with_reducible refine gate_dst (N := 19) rfl ?_); refine Kd.R_lit k40 _ 40 ?hg (N := 19) ?hd (xs := ([] : List (S40))) (inner := []) (ok := fun _ => True) (okp := fun _ => True) ?hr ?hp (fun _ hk => hk) trivial (Below.refl _ _) (Nat.le_refl _) (by simp) ?_; (case hd => rfl); (case hg => rfl); (case hr => first | (go_simp; done) | (go_simp; rfl)); (case hp => exact (Reps.none _ _)); intro v440 w20 ho21 hb hg_ hnew_; clear hg_ hnew_; (first | rw [← Ny439.out] at ho21 | (simp only [Int.reduceToNat] at ho21; rw [← Ny439.out] at ho21)); have HO441 := rL ho21 HB; replace BK435 := bB BK435 hb; replace BK436 := bB BK436 hb; replace HB := hS HB hb; clear hb ho21; have hnb22 := NB435_436.out; have hnc22 := NB436_435.out; obtain ⟨hcz23_0, hcz23_1, hfz23_0, hfz23_1⟩ := hC2 BK435) | ((with_reducible refine gate_builtin (b := .append) (xs := #[.tmp 19, .tmp 21]) rfl ?_); at_builtin; refine Kd.R_append_rows k40 (w0 := w) w.heap.size rfl (.tmp 19) (.tmp 21) 26 40 (.agg #[(.int .i64 0), (.int .i64 0), (.int .i64 0)]) 24 rfl Tryz.underlying26 info40 rfl (by decide) (by omega) v440 y439 l0_1 _ _ _ (fun _ => True) (fun _ => False) rfl rfl ?aO ?aR (fun _ _ h => h) (fun _ h => h.elim) ?aF ?aB ?aS ?aL ?_; (case aR => exact cU (Kd.C_below HR0_1.out HB.out)); (case aB => exact (bel HB)); (case aF => exact (fun _ _ => trivial)); (case aO => exact (rU HO441.out)); (case aS => exact (below_size (bel HB))); (case aL => have := LMc19.out; omega); intro v443 w24 ho hb hg hat; rw [← Ny442.out] at ho; have HO444 := aM (ho); replace BK435 := aM (blk_grown (g := gb435) (o := .cells #[.int .i64 a0_0, .slice A0_1 l0_1.length c0_1] 28 (0, 0)) (bU BK435.out) hg (Kd.R_ne HO441.out BK435.out (by decide))); replace BK436 := aM (blk_grown (g := gb436) (o := .cells #[.int .i64 0, .slice none 0 0] 28 (0, 0)) (bU BK436.out) hg (Kd.R_ne HO441.out BK436.out (by decide))); replace HB := aM (hb); clear HO441; clear ho hb hg hat))
  go_loopg [4, 5] kj1 (fun kq v4 v5 w' => ∃ (x4_2 : List (S40)) (x5_2 : Int), v5 = .int .i64 x5_2 ∧ Aside0 (spec_HarderPuzzle.l0 kq x4_2 x5_2 a0_0 l0_1 = some (r1, r2, r3)) ∧ Aside0 (kq ≤ kj1) ∧ Aside0 (Kd.R k40 40 w' w.heap.size (fun _ => True) v4 x4_2) ∧ Aside0 (w'.heap[gb435]? = some (.cells #[.int .i64 a0_0, (.slice A0_1 l0_1.length c0_1)] 28 (0, 0))) ∧ Aside0 (w'.heap[gb436]? = some (.cells #[.int .i64 0, (.slice none 0 0)] 28 (0, 0))) ∧ Aside0 (Below w.heap.size w w'))
  case atStart => exact ⟨(y442), (0), rF, H', kR, ⟨rU HO444.out⟩, ⟨bU BK435.out⟩, ⟨bU BK436.out⟩, hV HB⟩
  case round =>
   clear H'
   try clear hcz23_0;try clear hcz23_1;try clear hfz23_0;try clear hfz23_1
   obtain ⟨x4_2, x5_2, rfl, HA, HK2, HO_4, BK435, BK436, HB⟩ := hrel
   obtain rfl | ⟨k2, rfl⟩ := fz gk
   ·exact zA HA
   have H := HA.out
   clear HA
   simp only [spec_HarderPuzzle.l0] at H
   refine iI H ?_ ?_ <;> clear H <;> intro c25 H
   ·have c25b0 := dT c25
    clear c25
    replace H := bC H; obtain ⟨t445, A26, H⟩ := H
    replace H := bC H; obtain ⟨t448, A27, H⟩ := H
    refine iB H ?_ ?_ <;> clear H <;> rintro rfl H
    ·have H' := aM H
     clear H
     obtain ⟨Ao29, co29, eo29⟩ := Kd.R_slice HO_4.out
     subst eo29
     go_wp2_with (first | ((with_reducible refine gG 60 (some 29) rfl rfl ?_); refine gD Tryz.func60 (spec_pzWithout.calls _ _ x4_2 x5_2 t445 _ (cU ((Kd.R_reads' HO_4.out).2.2)) ((Kd.R_reads' HO_4.out).2.1) A26.out) ?_; rintro w30 v446 ⟨ho0, hb⟩; have HO447 := aM (Kd.R_lower (Kd.R_new' ho0 (Kd.R_lt (rU HO_4.out))) (below_size (bel HB))); replace HO_4 := aM (Kd.R_elder' (rU HO_4.out) (Kd.R_base ho0) hb); replace BK435 := bB BK435 hb; replace BK436 := bB BK436 hb; replace HB := hS HB hb; clear hb ho0; have hnb31 := NB435_436.out; have hnc31 := NB436_435.out; obtain ⟨hcz32_0, hcz32_1, hfz32_0, hfz32_1⟩ := hC2 BK435; obtain ⟨Ao33, co33, eo33⟩ := Kd.R_slice HO447.out; subst eo33) | ((with_reducible refine gG 59 (some 33) rfl rfl ?_); refine gC Tryz.func59 (spec_pzSolved.calls k2 a0_0 _ _ t445 true _ (cU ((Kd.R_reads' HO447.out).2.2)) ((Kd.R_reads' HO447.out).2.1) A27.out) ?_; rintro w34 hb; replace HO_4 := rB HO_4 hb; replace HO447 := rB HO447 hb; replace BK435 := bB BK435 hb; replace BK436 := bB BK436 hb; replace HB := hS HB hb; clear hb))
     go_roundg k2
     case measure => have := HJ1.out; have := HK2.out; omega
     case rel => exact ⟨(t445), (x5_2), rF, H', ⟨by have := HJ1.out; have := HK2.out; omega⟩, ⟨rU (Kd.R_mono HO447.out (fun _ hk => trivial))⟩, ⟨bU BK435.out⟩, ⟨bU BK436.out⟩, hV HB⟩
    have H' := aM H
    clear H
    obtain ⟨Ao35, co35, eo35⟩ := Kd.R_slice HO_4.out
    subst eo35
    go_wp2_with (first | ((with_reducible refine gG 60 (some 29) rfl rfl ?_); refine gD Tryz.func60 (spec_pzWithout.calls _ _ x4_2 x5_2 t445 _ (cU ((Kd.R_reads' HO_4.out).2.2)) ((Kd.R_reads' HO_4.out).2.1) A26.out) ?_; rintro w36 v446 ⟨ho0, hb⟩; have HO447 := aM (Kd.R_lower (Kd.R_new' ho0 (Kd.R_lt (rU HO_4.out))) (below_size (bel HB))); replace HO_4 := aM (Kd.R_elder' (rU HO_4.out) (Kd.R_base ho0) hb); replace BK435 := bB BK435 hb; replace BK436 := bB BK436 hb; replace HB := hS HB hb; clear hb ho0; have hnb37 := NB435_436.out; have hnc37 := NB436_435.out; obtain ⟨hcz38_0, hcz38_1, hfz38_0, hfz38_1⟩ := hC2 BK435; obtain ⟨Ao39, co39, eo39⟩ := Kd.R_slice HO447.out; subst eo39) | ((with_reducible refine gG 59 (some 33) rfl rfl ?_); refine gC Tryz.func59 (spec_pzSolved.calls k2 a0_0 _ _ t445 false _ (cU ((Kd.R_reads' HO447.out).2.2)) ((Kd.R_reads' HO447.out).2.1) A27.out) ?_; rintro w40 hb; replace HO_4 := rB HO_4 hb; replace HO447 := rB HO447 hb; replace BK435 := bB BK435 hb; replace BK436 := bB BK436 hb; replace HB := hS HB hb; clear hb))
    go_roundg k2
    case measure => have := HJ1.out; have := HK2.out; omega
    case rel => exact ⟨(x4_2), (wrap64 (x5_2 + 1)), rF, H', ⟨by have := HJ1.out; have := HK2.out; omega⟩, ⟨rU (Kd.R_mono HO_4.out (fun _ hk => trivial))⟩, ⟨bU BK435.out⟩, ⟨bU BK436.out⟩, hV HB⟩
   have c25b0 := dF c25
   clear c25
   simp only [Option.some.injEq, Prod.mk.injEq] at H
   obtain ⟨rfl, rfl, rfl⟩ := H
   obtain ⟨Ao41, co41, eo41⟩ := Kd.R_slice HO_4.out
   subst eo41
   have hnb42 := NB435_436.out
   have hnc42 := NB436_435.out
   obtain ⟨hcz43_0, hcz43_1, hfz43_0, hfz43_1⟩ := hC2 BK435
   obtain ⟨hcz44_0, hcz44_1, hfz44_0, hfz44_1⟩ := hC2 BK436
   go_wp2
   refine bodyPost_ret (results_ct rfl _ _ gb436 28 #[.int .i64 a0_0, .slice Ao41 x4_2.length co41] (0, 0) _ rfl (bP2 BK436) Tryz.underlying28 rfl (by kernel_rfl)) rfl ?_
   exact ⟨_, eW, rU (Kd.R_mono (Kd.R_far (p := ⟨gb436, 1, none⟩) (Kd.R_far (p := ⟨gb436, 0, none⟩) (Kd.R_types HO_4.out BK436.out (by decide)) (fun _ hk => hk.2) (.int .i64 a0_0)) (fun _ hk => hk.2) (.slice Ao41 x4_2.length co41)) (fun _ hk => trivial)), bel HB⟩

/-! ### impl_NeedlessClues: function 21 -/
def impl_NeedlessClues.l0 : Nat → Int → List Int → Int → Int → Int → List (S40) → Option (List Int × Bool)
 | 0, _, _, _, _, _, _ => none
 | k + 1, x4, x5, x15, x16, x450000, x450001 => if x16 < x15 then ((impl_Puzzle_without.f x450000 x450001 x16).bind fun bt454 => ((impl_Puzzle_solutions.f bt454.1 bt454.2).bind fun t458 => (if (t458.length : Int) = x4 then (if x5.length < 17592186044416 then (impl_NeedlessClues.l0 k x4 (x5 ++ [x16]) x15 (wrap64 (x16 + 1)) x450000 x450001) else (none)) else (impl_NeedlessClues.l0 k x4 x5 x15 (wrap64 (x16 + 1)) x450000 x450001)))) else (some (x5, true))
def impl_NeedlessClues.f (k : Nat) (a0_0 : Int) (l0_1 : List (S40)) : Option (List Int × Bool) := (impl_IsPuzzle.f a0_0 l0_1).bind fun t450 => (if t450 = true then ((impl_Puzzle_solutions.f a0_0 l0_1).bind fun t451 => (impl_NeedlessClues.l0 k (t451.length : Int) ([] : List Int) (l0_1.length : Int) 0 a0_0 l0_1)) else (some (([] : List Int), false)))
theorem impl_NeedlessClues.mono_l : ∀ k, Mo (impl_NeedlessClues.l0 k) (impl_NeedlessClues.l0 (k + 1))
 | 0 => m0
 | k + 1 => by
  have ih0 := impl_NeedlessClues.mono_l k
  (repeat refine mE fun _ => ?_) <;> first | (unfold impl_NeedlessClues.l0; exact mG)
instance impl_NeedlessClues.mI (k : Nat) : Mo (impl_NeedlessClues.f k) (impl_NeedlessClues.f (k + 1)) := by
 have ih0 := impl_NeedlessClues.mono_l k
 (repeat refine mE fun _ => ?_); unfold impl_NeedlessClues.f; exact mG
theorem impl_NeedlessClues.mono : ∀ a0 a1 k, LeO (impl_NeedlessClues.f k a0 a1) (impl_NeedlessClues.f (k + 1) a0 a1) := fun a0 a1 k => (impl_NeedlessClues.mI k).out a0 a1
set_option maxHeartbeats 8000000 in
set_option maxRecDepth 100000 in
theorem impl_NeedlessClues.calls (k : Nat) (a0_0 : Int) (A0_1 : Option Addr) (c0_1 : Nat) (l0_1 : List (S40)) (r1 : List Int) (r2 : Bool) (w : World) (hr0_1 : Kd.C k40 w A0_1 l0_1.length l0_1) (hc0_1 : l0_1.length ≤ c0_1) (h : impl_NeedlessClues.f k a0_0 l0_1 = some (r1, r2)) :
  Calls Tryz.prog 21 #[.agg #[.int .i64 a0_0, .slice A0_1 l0_1.length c0_1]] w fun e w' => ∃ v0_ : Value, e = .returned (.tuple #[v0_, .bool r2]) ∧ Kd.R (Kd.int .i64) 3 w' w.heap.size (fun _ => True) v0_ r1 ∧ Below w.heap.size w w' := by
 have hu28 := Tryz.underlying28
 have HR0_1 := aM hr0_1
 have HC0_1 := aM hc0_1
 clear hr0_1 hc0_1
 have HB := aM (Below.refl w.heap.size w)
 have H := h
 clear h; unfold impl_NeedlessClues.f at H
 replace H := bC H; obtain ⟨t450, A2, H⟩ := H
 refine iB H ?_ ?_ <;> clear H <;> rintro rfl H
 ·replace H := bC H; obtain ⟨t451, A4, H⟩ := H
  have H' := aM H
  clear H
  go_enter Tryz.func21, Tryz.ntmps21
  go_wp2_with (first | (refine bX (N := 1) rfl (cs := #[.int .i64 a0_0, .slice A0_1 l0_1.length c0_1]) (t := 28) ?_; intro gb449 hg w5 BK449 hb; have GW449 := gE hg HB; have GE449 := gE hg HB; replace HB := hS HB hb; clear hb hg; obtain ⟨hcz6_0, hcz6_1, hfz6_0, hfz6_1⟩ := hC2 BK449) | ((with_reducible refine gG 14 (some 8) rfl rfl ?_); refine gC Tryz.func14 (impl_IsPuzzle.calls a0_0 _ _ l0_1 true _ (cU (Kd.C_below HR0_1.out HB.out)) HC0_1.out A2.out) ?_; rintro w7 hb; replace BK449 := bB BK449 hb; replace HB := hS HB hb; clear hb; obtain ⟨hcz8_0, hcz8_1, hfz8_0, hfz8_1⟩ := hC2 BK449) | ((with_reducible refine gG 47 (some 11) rfl rfl ?_); refine gD Tryz.func47 (impl_Puzzle_solutions.calls a0_0 _ _ l0_1 t451 _ (cU (Kd.C_below HR0_1.out HB.out)) HC0_1.out A4.out) ?_; rintro w9 v452 ⟨ho0, hb⟩; have HO453 := rL ho0 HB; replace BK449 := bB BK449 hb; replace HB := hS HB hb; clear hb ho0; obtain ⟨Ao10, co10, eo10⟩ := Kd.R_slice HO453.out; subst eo10; obtain ⟨hcz11_0, hcz11_1, hfz11_0, hfz11_1⟩ := hC2 BK449))
  go_loopg [5, 16] k (fun kq v5 v16 w' => ∃ (x5_1 : List Int) (x16_1 : Int), v16 = .int .i64 x16_1 ∧ Aside0 (impl_NeedlessClues.l0 kq (t451.length : Int) x5_1 (l0_1.length : Int) x16_1 a0_0 l0_1 = some (r1, r2)) ∧ Aside0 (kq ≤ k) ∧ Aside0 (Kd.R (Kd.int .i64) 3 w' w.heap.size (fun _ => True) v5 x5_1) ∧ Aside0 (w'.heap[gb449]? = some (.cells #[.int .i64 a0_0, (.slice A0_1 l0_1.length c0_1)] 28 (0, 0))) ∧ Aside0 (Below w.heap.size w w'))
  case atStart => exact ⟨(([] : List Int)), (0), rF, H', kR, ⟨by first | exact Kd.R_nil _ _ _ _ _ | exact Kd.N_nil _ _ _ _ _ | exact Kd.V_nil _ _ _ _ _ | exact Kd.Q_nil _ _ _ _ _ | exact Kd.S_nil _ _ _ _ _⟩, ⟨bU BK449.out⟩, hV HB⟩
  case round =>
   clear H'
   try clear hcz11_0;try clear hcz11_1;try clear hcz6_0;try clear hcz6_1;try clear hcz8_0;try clear hcz8_1;try clear hfz11_0;try clear hfz11_1;try clear hfz6_0;try clear hfz6_1;try clear hfz8_0;try clear hfz8_1
   obtain ⟨x5_1, x16_1, rfl, HA, HK1, HO_5, BK449, HB⟩ := hrel
   obtain rfl | ⟨k1, rfl⟩ := fz gk
   ·exact zA HA
   have H := HA.out
   clear HA
   simp only [impl_NeedlessClues.l0] at H
   refine iI H ?_ ?_ <;> clear H <;> intro c12 H
   ·have c12b0 := dT c12
    clear c12
    replace H := bC H; obtain ⟨⟨t454, t455⟩, A13, H⟩ := H; try dsimp only at H
    replace H := bC H; obtain ⟨t458, A14, H⟩ := H
    refine iI H ?_ ?_ <;> clear H <;> intro c15 H
    ·have c15b0 := qT c15
     have c15b1 := nF c15
     have c15b2 : (t458.length == t451.length) = true := by first | simpa using c15 | (simp at c15 ⊢; omega)
     clear c15
     refine iY H ?_; clear H; intro c16 H
     have LMc16 := aM c16
     clear c16
     obtain ⟨y461, Ny461⟩ := yN (x5_1 ++ [x16_1] : List Int); rw [← Ny461.out] at H
     have H' := aM H
     clear H
     obtain ⟨hcz17_0, hcz17_1, hfz17_0, hfz17_1⟩ := hC2 BK449
     go_wp2_with (first | ((with_reducible refine gG 57 (some 21) rfl rfl ?_); refine gD Tryz.func57 (impl_Puzzle_without.calls a0_0 _ _ l0_1 x16_1 t454 t455 _ (cU (Kd.C_below HR0_1.out HB.out)) HC0_1.out A13.out) ?_; rintro w18 v456 ⟨ho0, hb⟩; have HO457 := rL ho0 HB; replace HO_5 := rB HO_5 hb; replace BK449 := bB BK449 hb; replace HB := hS HB hb; clear hb ho0; obtain ⟨Ao19, co19, eo19⟩ := Kd.R_slice HO457.out; subst eo19) | ((with_reducible refine gG 47 (some 22) rfl rfl ?_); refine gD Tryz.func47 (impl_Puzzle_solutions.calls t454 _ _ t455 t458 _ (cU ((Kd.R_reads' HO457.out).2.2)) ((Kd.R_reads' HO457.out).2.1) A14.out) ?_; rintro w20 v459 ⟨ho0, hb⟩; have HO460 := rL ho0 HB; replace HO_5 := rB HO_5 hb; replace HO457 := rB HO457 hb; replace BK449 := bB BK449 hb; replace HB := hS HB hb; clear hb ho0; obtain ⟨Ao21, co21, eo21⟩ := Kd.R_slice HO460.out; subst eo21) | ((with_reducible refine gate_builtin (b := .append) (xs := #[.tmp 26, .tmp 28]) rfl ?_); at_builtin; refine Kd.R_append (Kd.int .i64) (w0 := w) w.heap.size rfl (.tmp 26) (.tmp 28) 41 3 (.int .i64 0) 8 rfl Tryz.underlying41 info3 rfl (by decide) (by omega) u5 x5_1 x16_1 [.int .i64 x16_1] (fun _ => True) (fun _ => False) rfl rfl ?aP (fun _ hk => hk.elim) ?aF ?aO ?aB ?aS ?aL ?_; (case aP => exact rfl); (case aB => exact (bel HB)); (case aF => exact (fun _ _ => trivial)); (case aO => exact (rU HO_5.out)); (case aS => exact (below_size (bel HB))); (case aL => have := LMc16.out; omega); intro v462 w22 ho hb hg hat; rw [← Ny461.out] at ho; have HO463 := aM (ho); replace BK449 := aM (blk_grown (g := gb449) (o := .cells #[.int .i64 a0_0, .slice A0_1 l0_1.length c0_1] 28 (0, 0)) (bU BK449.out) hg (Kd.R_ne HO_5.out BK449.out (by decide))); replace HO457 := aM (Kd.R_over' (rU HO457.out) (Kd.R_typed (rU HO_5.out)) (by decide) hg); replace HO460 := aM (Kd.R_over' (rU HO460.out) (Kd.R_typed (rU HO_5.out)) (by decide) hg); replace HB := aM (hb); clear HO_5; clear ho hb hg hat))
     go_roundg k1
     case measure => have := HK1.out; omega
     case rel => exact ⟨(y461), (wrap64 (x16_1 + 1)), rF, H', ⟨by have := HK1.out; omega⟩, ⟨rU HO463.out⟩, ⟨bU BK449.out⟩, hV HB⟩
    have c15b0 := qF c15
    have c15b1 := nT c15
    have c15b2 : (t458.length == t451.length) = false := by first | simpa using c15 | (simp at c15 ⊢; omega)
    have H' := aM H
    clear H
    obtain ⟨hcz23_0, hcz23_1, hfz23_0, hfz23_1⟩ := hC2 BK449
    go_wp2_with (first | ((with_reducible refine gG 57 (some 21) rfl rfl ?_); refine gD Tryz.func57 (impl_Puzzle_without.calls a0_0 _ _ l0_1 x16_1 t454 t455 _ (cU (Kd.C_below HR0_1.out HB.out)) HC0_1.out A13.out) ?_; rintro w24 v456 ⟨ho0, hb⟩; have HO457 := rL ho0 HB; replace HO_5 := rB HO_5 hb; replace BK449 := bB BK449 hb; replace HB := hS HB hb; clear hb ho0; obtain ⟨Ao25, co25, eo25⟩ := Kd.R_slice HO457.out; subst eo25) | ((with_reducible refine gG 47 (some 22) rfl rfl ?_); refine gD Tryz.func47 (impl_Puzzle_solutions.calls t454 _ _ t455 t458 _ (cU ((Kd.R_reads' HO457.out).2.2)) ((Kd.R_reads' HO457.out).2.1) A14.out) ?_; rintro w26 v459 ⟨ho0, hb⟩; have HO460 := rL ho0 HB; replace HO_5 := rB HO_5 hb; replace HO457 := rB HO457 hb; replace BK449 := bB BK449 hb; replace HB := hS HB hb; clear hb ho0; obtain ⟨Ao27, co27, eo27⟩ := Kd.R_slice HO460.out; subst eo27))
    go_roundg k1
    case measure => have := HK1.out; omega
    case rel => exact ⟨(x5_1), (wrap64 (x16_1 + 1)), rF, H', ⟨by have := HK1.out; omega⟩, ⟨rU HO_5.out⟩, ⟨bU BK449.out⟩, hV HB⟩
   have c12b0 := dF c12
   clear c12
   simp only [Option.some.injEq, Prod.mk.injEq] at H
   obtain ⟨rfl, rfl⟩ := H
   go_wp2
   go_ret2
   exact ⟨_, eW, rU HO_5.out, bel HB⟩
 simp only [Option.some.injEq, Prod.mk.injEq] at H
 obtain ⟨rfl, rfl⟩ := H
 go_enter Tryz.func21, Tryz.ntmps21
 go_wp2_with (first | (refine bX (N := 1) rfl (cs := #[.int .i64 a0_0, .slice A0_1 l0_1.length c0_1]) (t := 28) ?_; intro gb449 hg w28 BK449 hb; have GW449 := gE hg HB; have GE449 := gE hg HB; replace HB := hS HB hb; clear hb hg; obtain ⟨hcz29_0, hcz29_1, hfz29_0, hfz29_1⟩ := hC2 BK449) | ((with_reducible refine gG 14 (some 8) rfl rfl ?_); refine gC Tryz.func14 (impl_IsPuzzle.calls a0_0 _ _ l0_1 false _ (cU (Kd.C_below HR0_1.out HB.out)) HC0_1.out A2.out) ?_; rintro w30 hb; replace BK449 := bB BK449 hb; replace HB := hS HB hb; clear hb))
 go_ret2
 exact ⟨_, eW, by first | exact Kd.R_nil _ _ _ _ _ | exact Kd.N_nil _ _ _ _ _ | exact Kd.V_nil _ _ _ _ _ | exact Kd.Q_nil _ _ _ _ _ | exact Kd.S_nil _ _ _ _ _, bel HB⟩

/-! ### laws_xTexts: function 22 -/
def laws_xTexts.l0 : Nat → List ByteArray → List ByteArray → Int → Int → Option (Bool)
 | 0, _, _, _, _ => none
 | k + 1, x0, x1, x12, x13 => if x13 < x12 then (if 0 ≤ x13 then (if x13 < (x0.length : Int) then (if x13 < (x1.length : Int) then (if (rdOf ByteArray.empty x0 x13).toList = (rdOf ByteArray.empty x1 x13).toList then (laws_xTexts.l0 k x0 x1 x12 (wrap64 (x13 + 1))) else (some false)) else (none)) else (none)) else (none)) else (some true)
def laws_xTexts.f (k : Nat) (l0 : List ByteArray) (l1 : List ByteArray) : Option (Bool) := if (l0.length : Int) = (l1.length : Int) then (laws_xTexts.l0 k l0 l1 (l0.length : Int) 0) else (some false)
theorem laws_xTexts.mono_l : ∀ k, Mo (laws_xTexts.l0 k) (laws_xTexts.l0 (k + 1))
 | 0 => m0
 | k + 1 => by
  have ih0 := laws_xTexts.mono_l k
  (repeat refine mE fun _ => ?_) <;> first | (unfold laws_xTexts.l0; exact mG)
instance laws_xTexts.mI (k : Nat) : Mo (laws_xTexts.f k) (laws_xTexts.f (k + 1)) := by
 have ih0 := laws_xTexts.mono_l k
 (repeat refine mE fun _ => ?_); unfold laws_xTexts.f; exact mG
theorem laws_xTexts.mono : ∀ a0 a1 k, LeO (laws_xTexts.f k a0 a1) (laws_xTexts.f (k + 1) a0 a1) := fun a0 a1 k => (laws_xTexts.mI k).out a0 a1
set_option maxHeartbeats 8000000 in
set_option maxRecDepth 100000 in
theorem laws_xTexts.calls (k : Nat) (A0 : Option Addr) (c0 : Nat) (l0 : List ByteArray) (A1 : Option Addr) (c1 : Nat) (l1 : List ByteArray) (r : Bool) (w : World) (hr0 : Kd.C Kd.string w A0 l0.length l0) (hc0 : l0.length ≤ c0) (hr1 : Kd.C Kd.string w A1 l1.length l1) (hc1 : l1.length ≤ c1) (h : laws_xTexts.f k l0 l1 = some r) :
  Calls Tryz.prog 22 #[.slice A0 l0.length c0, .slice A1 l1.length c1] w fun e w' => e = .returned (.bool r) ∧ Drawn0 w w' := by
 have HR0 := aM hr0
 have HC0 := aM hc0
 clear hr0 hc0
 have HR1 := aM hr1
 have HC1 := aM hc1
 clear hr1 hc1
 have H := h
 clear h; unfold laws_xTexts.f at H
 refine iI H ?_ ?_ <;> clear H <;> intro c3 H
 ·have c3b0 := qT c3
  have c3b1 := nF c3
  have c3b2 : (l0.length == l1.length) = true := by first | simpa using c3 | (simp at c3 ⊢; omega)
  clear c3
  have H' := aM H
  clear H
  go_enter Tryz.func22, Tryz.ntmps22
  go_wp2
  repeat (go_quiet (fail); try go_wp2)
  go_loopg [13] k (fun kq v13 w' => ∃ (x13_1 : Int), v13 = .int .i64 x13_1 ∧ Aside0 (laws_xTexts.l0 kq l0 l1 (l0.length : Int) x13_1 = some r) ∧ Aside0 (kq ≤ k) ∧ Drawn0 w w')
  case atStart => exact ⟨(0), rF, H', kR, d0⟩
  case round =>
   clear H'
   try clear c1;try clear c3b0;try clear c3b1;try clear c3b2
   obtain ⟨x13_1, rfl, HA, HK1, ⟨m1, rfl⟩⟩ := hrel
   obtain rfl | ⟨k1, rfl⟩ := fz gk
   ·exact zA HA
   have H := HA.out
   clear HA
   simp only [laws_xTexts.l0] at H
   refine iI H ?_ ?_ <;> clear H <;> intro c4 H
   ·have c4b0 := dT c4
    clear c4
    refine iY H ?_; clear H; intro c5 H
    have c5b0 := dT c5
    clear c5
    refine iY H ?_; clear H; intro c6 H
    have c6b0 := dT c6
    clear c6
    refine iY H ?_; clear H; intro c7 H
    have c7b0 := dT c7
    clear c7
    refine iI H ?_ ?_ <;> clear H <;> intro c8 H
    ·have c8b0 := qT c8
     have c8b1 := nF c8
     clear c8
     have H' := aM H
     clear H
     have p464 : 0 ≤ (x13_1 : Int) := oD
     have q464 : x13_1 < (l0.length : Int) := oD
     obtain ⟨ad464, e464, hx464_0⟩ := Kd.at_string HR0.out x13_1 p464 q464
     cases e464
     replace p464 := eq_true p464
     replace q464 := eq_true q464
     have p465 : 0 ≤ (x13_1 : Int) := oD
     have q465 : x13_1 < (l1.length : Int) := oD
     obtain ⟨ad465, e465, hx465_0⟩ := Kd.at_string HR1.out x13_1 p465 q465
     cases e465
     replace p465 := eq_true p465
     replace q465 := eq_true q465
     go_wp2
     repeat (go_quiet (fail); try go_wp2)
     go_roundg k1
     case measure => have := HK1.out; omega
     case rel => exact ⟨(wrap64 (x13_1 + 1)), rF, H', ⟨by have := HK1.out; omega⟩, d0⟩
    have c8b0 := qF c8
    have c8b1 := nT c8
    obtain rfl := Option.some.inj H
    have p464 : 0 ≤ (x13_1 : Int) := oD
    have q464 : x13_1 < (l0.length : Int) := oD
    obtain ⟨ad464, e464, hx464_0⟩ := Kd.at_string HR0.out x13_1 p464 q464
    cases e464
    replace p464 := eq_true p464
    replace q464 := eq_true q464
    have p465 : 0 ≤ (x13_1 : Int) := oD
    have q465 : x13_1 < (l1.length : Int) := oD
    obtain ⟨ad465, e465, hx465_0⟩ := Kd.at_string HR1.out x13_1 p465 q465
    cases e465
    replace p465 := eq_true p465
    replace q465 := eq_true q465
    go_wp2
    repeat (go_quiet (fail); try go_wp2)
    go_ret
    exact ⟨rF, d0⟩
   have c4b0 := dF c4
   clear c4
   obtain rfl := Option.some.inj H
   go_wp2
   repeat (go_quiet (fail); try go_wp2)
   go_ret
   exact ⟨rF, d0⟩
 have c3b0 := qF c3
 have c3b1 := nT c3
 have c3b2 : (l0.length == l1.length) = false := by first | simpa using c3 | (simp at c3 ⊢; omega)
 obtain rfl := Option.some.inj H
 go_enter Tryz.func22, Tryz.ntmps22
 go_wp2
 repeat (go_quiet (fail); try go_wp2)
 go_ret
 exact ⟨rF, d0⟩

end Go.Proofs.YtpdkjehplfgjcabGreatDoor.PHid
