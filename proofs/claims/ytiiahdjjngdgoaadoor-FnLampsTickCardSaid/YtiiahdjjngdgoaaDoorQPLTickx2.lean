-- squeezed (sq3.py); PRINTED by drive.py (a program of this session's, over the kit's print.py; wip/tools/drive.py). Lean checks it.
import Derived.Test.YtiiahdjjngdgoaaDoorQPLTickx0
import Derived.Test.YtiiahdjjngdgoaaDoorQPLTickx1
import Derived.Test.YtiiahdjjngdgoaaDoorQSq
namespace Go.Proofs.YtiiahdjjngdgoaaDoor.PLTick
open Go.RowKit Go.Proofs.YtiiahdjjngdgoaaDoorW.PrintWords Go.Proofs.YtiiahdjjngdgoaaDoorW.PrintLast Go.Proofs.YtiiahdjjngdgoaaDoorW.PrintMore
attribute [local go_sem] max2_int min2_int max_two min_two max_three min_three max_four min_four   -- for this text's walks alone
set_option linter.unusedVariables false
set_option linter.unusedSimpArgs false

/-! ### spec_RunningLamps: function 155 -/
mutual
def spec_RunningLamps.j0 : Nat → Int → Bool → Option (List ByteArray × Bool)
 | 0, _, _ => none
 | k + 1, x0, x12 => if x12 = true then (some (([] : List ByteArray), false)) else ((spec_riAll.f k (wrap64 (x0 - 2)) (⟨#[63]⟩ : ByteArray)).bind fun t123 => (if 1 + t123.size ≤ 9223372036854775807 then (if ((⟨#[49]⟩ : ByteArray) ++ t123).size + 1 ≤ 9223372036854775807 then (spec_RunningLamps.l0 k x0 1 (([((⟨#[49]⟩ : ByteArray) ++ t123) ++ (⟨#[48]⟩ : ByteArray)] : List ByteArray))) else (none)) else (none)))
def spec_RunningLamps.l0 : Nat → Int → Int → List ByteArray → Option (List ByteArray × Bool)
 | 0, _, _, _ => none
 | k + 1, x0, x5, x128000 => if x5 < x0 then ((spec_riAll.f k (wrap64 (x5 - 1)) (⟨#[63]⟩ : ByteArray)).bind fun t128 => (if t128.size + 2 ≤ 9223372036854775807 then ((spec_riAll.f k (wrap64 ((wrap64 (x0 - 1)) - x5)) (⟨#[63]⟩ : ByteArray)).bind fun t129 => (if (t128 ++ (⟨#[49, 48]⟩ : ByteArray)).size + t129.size ≤ 9223372036854775807 then (if x128000.length < 8796093022208 then (spec_RunningLamps.l0 k x0 (wrap64 (x5 + 1)) (x128000 ++ [(t128 ++ (⟨#[49, 48]⟩ : ByteArray)) ++ t129])) else (none)) else (none))) else (none))) else (some (x128000, true))
end
def spec_RunningLamps.f (k : Nat) (a0 : Int) : Option (List ByteArray × Bool) := (spec_laCount.f a0).bind fun t122 => (if t122 = true then (spec_RunningLamps.j0 k a0 (decide (a0 < 2))) else (spec_RunningLamps.j0 k a0 true))
theorem spec_RunningLamps.mono_l : ∀ k, Mo (spec_RunningLamps.j0 k) (spec_RunningLamps.j0 (k + 1)) ∧ Mo (spec_RunningLamps.l0 k) (spec_RunningLamps.l0 (k + 1))
 | 0 => m0
 | k + 1 => by
  have ⟨ih0, ih1⟩ := spec_RunningLamps.mono_l k
  refine ⟨?_, ?_⟩ <;> (repeat refine mE fun _ => ?_) <;> first | (unfold spec_RunningLamps.j0; exact mG) | (unfold spec_RunningLamps.l0; exact mG)
instance spec_RunningLamps.mI (k : Nat) : Mo (spec_RunningLamps.f k) (spec_RunningLamps.f (k + 1)) := by
 have ⟨ih0, ih1⟩ := spec_RunningLamps.mono_l k
 (repeat refine mE fun _ => ?_); unfold spec_RunningLamps.f; exact mG
theorem spec_RunningLamps.mono : ∀ a0 k, LeO (spec_RunningLamps.f k a0) (spec_RunningLamps.f (k + 1) a0) := fun a0 k => (spec_RunningLamps.mI k).out a0
def spec_RunningLamps.T7 : Bool × List (List Nat × List Nat) := (true, [([], []), ([0], [0]), ([], []), ([2], [2]), ([3], [3]), ([4], [4]), ([], []), ([6], [6]), ([], []), ([7, 8], [7, 8]), ([9, 4], [9]), ([5, 10], [5, 10]), ([11], [11]), ([1, 12, 10], [1, 12]), ([0, 1, 2, 3, 4, 5, 6, 7, 8, 9, 10, 11, 12, 13], []), ([14, 13, 13, 0, 1, 2, 3, 4, 5, 6, 7, 8, 9, 10, 11, 12, 13], [13, 14])])
def spec_RunningLamps.B7 : List Nat := [0, 1, 0, 4, 12, 28, 0, 64, 0, 448, 988, 2044, 4092, 8191, 16383, 32767]
theorem spec_RunningLamps.tab7 : rtab .any (opsOf Tryd.f155 7) = spec_RunningLamps.T7 := by kernel_rfl
theorem spec_RunningLamps.bits7 : waitsOk spec_RunningLamps.T7.2 spec_RunningLamps.B7 = true := by kernel_rfl
set_option maxHeartbeats 8000000 in
set_option maxRecDepth 100000 in
theorem spec_RunningLamps.calls (k : Nat) (a0 : Int) (r1 : List ByteArray) (r2 : Bool) (w : World) (h : spec_RunningLamps.f k a0 = some (r1, r2)) :
  Calls Tryd.prog 155 #[.int .i64 a0] w fun e w' => ∃ v0_ : Value, e = .returned (.tuple #[.agg #[v0_], .bool r2]) ∧ Kd.R Kd.string 9 w' w.heap.size (fun _ => True) v0_ r1 ∧ Below w.heap.size w w' := by
 have hu26 := Tryd.underlying26
 have HB := aM (Below.refl w.heap.size w)
 have H := h
 clear h; unfold spec_RunningLamps.f at H
 have HC2 := aM H
 clear H
 go_enter Tryd.func155, Tryd.ntmps155
 go_upto_region 1 with (first | (refine bX (N := 2) rfl (cs := #[.slice none 0 0]) (t := 26) ?_; intro gb121 hg w3 BK121 hb; have GW121 := gE hg HB; have GE121 := gE hg HB; replace HB := hS HB hb; clear hb hg))
 (try simp only [Act.put, List.setIfInBounds_toArray, List.set_cons_zero, List.set_cons_succ])
 go_cut [12] (fun v12 wc => ∃ (kq : Nat) (x12_1 : Bool), v12 = .bool x12_1 ∧ Aside0 (spec_RunningLamps.j0 kq a0 x12_1 = some (r1, r2)) ∧ Aside0 (kq ≤ k) ∧ Aside0 (wc.heap[gb121]? = some (.cells #[(.slice none 0 0)] 26 (0, 0))) ∧ Aside0 (Below w.heap.size w wc))
 case first =>
  have H := HC2.out
  clear HC2
  replace H := bC H; obtain ⟨t122, A4, H⟩ := H
  refine iB H ?_ ?_ <;> clear H <;> rintro rfl H
  ·have H' := aM H
   clear H
   go_wp2_with (first | ((with_reducible refine gG 156 (some 7) rfl rfl ?_); refine gL Tryd.func156 #[.int .i64 a0] ?_; (with_reducible refine (spec_laCount.calls a0 true _ A4.out).mono ?_); rintro e w' ⟨rfl, ⟨nd, rfl⟩⟩; refine ⟨_, rfl, ?_⟩))
   go_meet
   case rel => exact ⟨_, (decide (a0 < 2)), rF, H', kL, ⟨bU BK121.out⟩, hV HB⟩
  have H' := aM H
  clear H
  go_wp2_with (first | ((with_reducible refine gG 156 (some 7) rfl rfl ?_); refine gL Tryd.func156 #[.int .i64 a0] ?_; (with_reducible refine (spec_laCount.calls a0 false _ A4.out).mono ?_); rintro e w' ⟨rfl, ⟨nd, rfl⟩⟩; refine ⟨_, rfl, ?_⟩))
  go_meet
  case rel => exact ⟨_, (true), rF, H', kL, ⟨bU BK121.out⟩, hV HB⟩
 case rest =>
  clear HC2
  obtain ⟨kq, x12_1, rfl, HA, HJ1, BK121, HB⟩ := hcut
  obtain rfl | ⟨kj1, rfl⟩ := fz kq
  ·exact zA HA
  have H := HA.out
  clear HA
  simp only [spec_RunningLamps.j0] at H
  refine iB H ?_ ?_ <;> clear H <;> rintro rfl H
  ·simp only [Option.some.injEq, Prod.mk.injEq] at H
   obtain ⟨rfl, rfl⟩ := H
   obtain ⟨hcz7_0, hfz7_0⟩ := hC1 BK121
   go_wp2
   refine bodyPost_ret (results_ct rfl _ _ gb121 26 #[.slice none 0 0] (0, 0) _ rfl (by (with_reducible repeat (first | refine blk_drewN ?_ _ | refine blk_drew ?_ | refine blk_alloc ?_ _)); refine blk_put (cs := #[.slice none 0 0]) ?_ 0 _ rfl; (with_reducible repeat (first | refine blk_drewN ?_ _ | refine blk_drew ?_ | refine blk_alloc ?_ _)); exact BK121.out) Tryd.underlying26 rfl (by kernel_rfl)) rfl ?_
   exact ⟨_, eW, by first | exact Kd.R_nil _ _ _ _ _ | exact Kd.N_nil _ _ _ _ _ | exact Kd.V_nil _ _ _ _ _ | exact Kd.Q_nil _ _ _ _ _ | exact Kd.S_nil _ _ _ _ _, bel HB⟩
  replace H := bC H; obtain ⟨t123, A8, H⟩ := H
  refine iY H ?_; clear H; intro c9 H
  have c9b0 := eq_true c9
  have c9b1 := dT c9
  try have c9b2 : (9223372036854775807 < 1 + t123.size) = False := eq_false (Nat.not_lt.2 c9)
  refine iY H ?_; clear H; intro c10 H
  have c10b0 := eq_true c10
  have c10b1 := dT c10
  try have c10b2 : (9223372036854775807 < ((⟨#[49]⟩ : ByteArray) ++ t123).size + 1) = False := eq_false (Nat.not_lt.2 c10)
  try have c10q : (9223372036854775807 < 1 + t123.size + 1) = False := eq_false (Nat.not_lt.2 (by have h_ := c10; (try simp only [ByteArray.size_append] at h_); exact h_))
  obtain ⟨y124, Ny124⟩ := yN (([((⟨#[49]⟩ : ByteArray) ++ t123) ++ (⟨#[48]⟩ : ByteArray)] : List ByteArray) : List ByteArray); rw [← Ny124.out] at H
  have H' := aM H
  clear H
  go_wp2_with (first | ((with_reducible refine gG 157 (some 16) rfl rfl ?_); refine gL Tryd.func157 #[.int .i64 (wrap64 (a0 - 2)), .string (⟨#[63]⟩ : ByteArray)] ?_; (with_reducible refine (spec_riAll.calls kj1 (wrap64 (a0 - 2)) (⟨#[63]⟩ : ByteArray) t123 _ A8.out).mono ?_); rintro e w' ⟨rfl, ⟨nd, rfl⟩⟩; refine ⟨_, rfl, ?_⟩; (try (rw [drewN_self wc]; generalize hq_ : World.drewN wc _ = wc; have n0_ : Aside0 (wc.heap[gb121]? = some (.cells #[.slice none 0 0] 26 (0, 0))) := ⟨by rw [← hq_]; exact (bU BK121.out)⟩; have n1_ : Aside0 (Below w.heap.size w wc) := ⟨by rw [← hq_]; exact (bel HB)⟩; clear BK121 HB hq_; have BK121 := n0_; have HB := n1_; clear n0_ n1_))) | ((with_reducible refine gate_dst (N := 19) rfl ?_); refine Kd.R_lit Kd.string _ 9 ?hg (N := 19) ?hd (xs := ([((⟨#[49]⟩ : ByteArray) ++ t123) ++ (⟨#[48]⟩ : ByteArray)] : List ByteArray)) (inner := [.string (((⟨#[49]⟩ : ByteArray) ++ t123) ++ (⟨#[48]⟩ : ByteArray))]) (ok := fun _ => True) (okp := fun _ => True) ?hr ?hp (fun _ hk => hk) trivial (Below.refl _ _) (Nat.le_refl _) (by simp) ?_; (case hd => rfl); (case hg => rfl); (case hr => first | (go_simp; done) | (go_simp; rfl)); (case hp => exact (Reps.one (show Kd.M Kd.string _ _ _ (((⟨#[49]⟩ : ByteArray) ++ t123) ++ (⟨#[48]⟩ : ByteArray)) [.string (((⟨#[49]⟩ : ByteArray) ++ t123) ++ (⟨#[48]⟩ : ByteArray))] from rfl) (Reps.none _ _))); intro v125 w11 ho12 hb hg_ hnew_; clear hg_ hnew_; (first | rw [← Ny124.out] at ho12 | (simp only [Int.reduceToNat] at ho12; rw [← Ny124.out] at ho12)); have HO126 := rL ho12 HB; replace BK121 := bB BK121 hb; replace HB := hS HB hb; clear hb ho12; obtain ⟨Ao13, co13, eo13⟩ := Kd.R_slice HO126.out; subst eo13) | (refine bX (N := 4) rfl (cs := #[.slice none 0 0]) (t := 26) ?_; intro gb127 hg w14 BK127 hb; have GW127 := gE hg HB; have GE127 := gE hg HB; have NB121_127 := nbL hg BK121; have NB127_121 := nbR hg BK121; replace HO126 := rB HO126 hb; replace BK121 := bB BK121 hb; replace HB := hS HB hb; clear hb hg; have hnb15 := NB127_121.out; have hnc15 := NB121_127.out; obtain ⟨hcz16_0, hfz16_0⟩ := hC1 BK127))
  go_loopg [5] kj1 (fun kq v5 w' => ∃ (x5_2 : Int) (x128000_2 : List ByteArray) (u128000 : Value), v5 = .int .i64 x5_2 ∧ Aside0 (spec_RunningLamps.l0 kq a0 x5_2 x128000_2 = some (r1, r2)) ∧ Aside0 (kq ≤ kj1) ∧ Aside0 (Kd.R Kd.string 9 w' w.heap.size (fun _ => True) u128000 x128000_2) ∧ Aside0 (w'.heap[gb121]? = some (.cells #[(.slice none 0 0)] 26 (0, 0))) ∧ Aside0 (w'.heap[gb127]? = some (.cells #[u128000] 26 (0, 0))) ∧ Aside0 (Below w.heap.size w w'))
  case atStart => exact ⟨(1), (y124), (.slice Ao13 y124.length co13), rF, H', kR, ⟨rU (Kd.R_mono (Kd.R_far (p := ⟨gb127, 0, none⟩) (Kd.R_types HO126.out BK127.out (by decide)) (fun _ hk => hk.2) (.slice Ao13 y124.length co13)) (fun _ hk => trivial))⟩, ⟨by (with_reducible repeat (first | refine blk_drewN ?_ _ | refine blk_drew ?_ | refine blk_alloc ?_ _)); refine blk_far ?_ NB121_127.out _; (with_reducible repeat (first | refine blk_drewN ?_ _ | refine blk_drew ?_ | refine blk_alloc ?_ _)); exact BK121.out⟩, ⟨by (with_reducible repeat (first | refine blk_drewN ?_ _ | refine blk_drew ?_ | refine blk_alloc ?_ _)); refine blk_put (cs := #[.slice none 0 0]) ?_ 0 _ rfl; (with_reducible repeat (first | refine blk_drewN ?_ _ | refine blk_drew ?_ | refine blk_alloc ?_ _)); exact BK127.out⟩, hV HB⟩
  case round =>
   clear H'
   try clear c9;try clear c9b0;try clear c9b1;try clear c9b2;try clear c10;try clear c10b0;try clear c10b1;try clear c10b2;try clear hcz16_0;try clear hfz16_0
   obtain ⟨x5_2, x128000_2, u128000, rfl, HA, HK2, HO_128000, BK121, BK127, HB⟩ := hrel
   obtain rfl | ⟨k2, rfl⟩ := fz gk
   ·exact zA HA
   have H := HA.out
   clear HA
   simp only [spec_RunningLamps.l0] at H
   refine iI H ?_ ?_ <;> clear H <;> intro c17 H
   ·have c17b0 := dT c17
    clear c17
    replace H := bC H; obtain ⟨t128, A18, H⟩ := H
    refine iY H ?_; clear H; intro c19 H
    have c19b0 := eq_true c19
    have c19b1 := dT c19
    try have c19b2 : (9223372036854775807 < t128.size + 2) = False := eq_false (Nat.not_lt.2 c19)
    replace H := bC H; obtain ⟨t129, A20, H⟩ := H
    refine iY H ?_; clear H; intro c21 H
    have c21b0 := eq_true c21
    have c21b1 := dT c21
    try have c21b2 : (9223372036854775807 < (t128 ++ (⟨#[49, 48]⟩ : ByteArray)).size + t129.size) = False := eq_false (Nat.not_lt.2 c21)
    try have c21q : (9223372036854775807 < t128.size + 2 + t129.size) = False := eq_false (Nat.not_lt.2 (by have h_ := c21; (try simp only [ByteArray.size_append] at h_); exact h_))
    refine iY H ?_; clear H; intro c22 H
    have LMc22 := aM c22
    clear c22
    obtain ⟨y130, Ny130⟩ := yN (x128000_2 ++ [(t128 ++ (⟨#[49, 48]⟩ : ByteArray)) ++ t129] : List ByteArray); rw [← Ny130.out] at H
    have H' := aM H
    clear H
    try go_wp2
    have n0_ := aM (Kd.R_drew HO_128000.out)
    have n1_ := aM (blk_drew BK121.out)
    have n2_ := aM (blk_drew BK127.out)
    have n3_ := aM (below_drew1 HB.out)
    clear HO_128000
    clear BK121
    clear BK127
    clear HB
    have HO_128000 := n0_
    have BK121 := n1_
    have BK127 := n2_
    have HB := n3_
    clear n0_ n1_ n2_ n3_
    refine start_ (n := 16) (S := fun w' => w'.cell? ⟨gb127, 0, none⟩ = some (u128000)) (ds := [15]) #[false, false, false, false, false, false, false, false, false, false, false, false, false, false, false, false] (by kernel_rfl) rfl rfl ((blk_cell BK127.out 0).trans rfl) (fun hHeld => ?_); refine with_tabW spec_RunningLamps.tab7 spec_RunningLamps.bits7 (fun HT_ HW_ => ?_)
    generalize wr.drew = w23 at HO_128000 BK121 BK127 HB hHeld ⊢
    refine pure_ (i := 0) (N := some 26) (v := ?_) (a' := ?_) #[true, false, false, false, false, false, false, false, false, false, false, false, false, false, false, false] rfl rfl (any_of HT_.out (by kernel_rfl)) (fun _ _ _ h => h) (Or.inl ⟨by rfl, ?_⟩) ?_ ?_
    rotate_left
    ·intro w'
     go_simp
     with_reducible rfl
    rotate_left
    ·simp only [Act.put, List.setIfInBounds_toArray, List.set_cons_zero, List.set_cons_succ, i64_w, i32_w]
     rfl
    refine pure_ (i := 2) (N := some 28) (v := ?_) (a' := ?_) #[true, false, true, false, false, false, false, false, false, false, false, false, false, false, false, false] rfl rfl (any_of HT_.out (by kernel_rfl)) (fun _ _ _ h => h) (Or.inl ⟨by rfl, ?_⟩) ?_ ?_
    rotate_left
    ·intro w'
     go_simp
     with_reducible rfl
    rotate_left
    ·simp only [Act.put, List.setIfInBounds_toArray, List.set_cons_zero, List.set_cons_succ, i64_w, i32_w]
     rfl
    refine pure_ (i := 3) (N := some 29) (v := ?_) (a' := ?_) #[true, false, true, true, false, false, false, false, false, false, false, false, false, false, false, false] rfl rfl (any_of HT_.out (by kernel_rfl)) (fun _ _ _ h => h) (Or.inl ⟨by rfl, ?_⟩) ?_ ?_
    rotate_left
    ·intro w'
     go_simp
     with_reducible rfl
    rotate_left
    ·simp only [Act.put, List.setIfInBounds_toArray, List.set_cons_zero, List.set_cons_succ, i64_w, i32_w]
     rfl
    refine pure_ (i := 6) (N := some 32) (v := ?_) (a' := ?_) #[true, false, true, true, false, false, true, false, false, false, false, false, false, false, false, false] rfl rfl (any_of HT_.out (by kernel_rfl)) (fun _ _ _ h => h) (Or.inl ⟨by rfl, ?_⟩) ?_ ?_
    rotate_left
    ·intro w'
     go_simp
     with_reducible rfl
    rotate_left
    ·simp only [Act.put, List.setIfInBounds_toArray, List.set_cons_zero, List.set_cons_succ, i64_w, i32_w]
     rfl
    refine pure_ (i := 7) (N := some 33) (v := ?_) (a' := ?_) #[true, false, true, true, false, false, true, true, false, false, false, false, false, false, false, false] rfl rfl (any_of HT_.out (by kernel_rfl)) (fun _ _ _ h => h) (Or.inl ⟨by rfl, ?_⟩) ?_ ?_
    rotate_left
    ·intro w'
     go_simp
     with_reducible rfl
    rotate_left
    ·simp only [Act.put, List.setIfInBounds_toArray, List.set_cons_zero, List.set_cons_succ, i64_w, i32_w]
     rfl
    refine pure_ (i := 8) (N := some 34) (v := ?_) (a' := ?_) #[true, false, true, true, false, false, true, true, true, false, false, false, false, false, false, false] rfl rfl (any_of HT_.out (by kernel_rfl)) (fun _ _ _ h => h) (Or.inl ⟨by rfl, ?_⟩) ?_ ?_
    rotate_left
    ·intro w'
     go_simp
     with_reducible rfl
    rotate_left
    ·simp only [Act.put, List.setIfInBounds_toArray, List.set_cons_zero, List.set_cons_succ, i64_w, i32_w]
     rfl
    refine pure_ (i := 9) (N := some 35) (v := ?_) (a' := ?_) #[true, false, true, true, false, false, true, true, true, true, false, false, false, false, false, false] rfl rfl (any_of HT_.out (by kernel_rfl)) (fun _ _ _ h => h) (Or.inl ⟨by rfl, ?_⟩) ?_ ?_
    rotate_left
    ·intro w'
     go_simp
     with_reducible rfl
    rotate_left
    ·simp only [Act.put, List.setIfInBounds_toArray, List.set_cons_zero, List.set_cons_succ, i64_w, i32_w]
     rfl
    refine take_ (i := 1) (N := some 27) (v := ?_) (a' := ?_) #[true, true, true, true, false, false, true, true, true, true, false, false, false, false, false, false] rfl rfl (take_ofW HT_.out HW_.out (by kernel_rfl)) (fun _ _ _ h => h) (Or.inl ⟨by rfl, ?_⟩) hHeld ?_ ?_
    rotate_left
    ·intro w' s0
     go_simp
     with_reducible rfl
    rotate_left
    ·simp only [Act.put, List.setIfInBounds_toArray, List.set_cons_zero, List.set_cons_succ, i64_w, i32_w]
     rfl
    refine one_ (i := 4) (N := some 30) #[true, true, true, true, true, false, true, true, true, true, false, false, false, false, false, false] rfl rfl (one_of HT_.out (by kernel_rfl)) (by decide) (fun K hK => ?_)
    refine goes_ Tryd.func157 (by kernel_rfl) rfl #[.int .i64 (wrap64 (x5_2 - 1)), .string (⟨#[63]⟩ : ByteArray)] (by rfl) rfl rfl (by (try simp only [List.map_toArray, List.map_cons, List.map_nil]); first | done | rfl | (simp only [List.length_drop, List.length_take]; rfl)) ?_
    with_reducible refine (spec_riAll.calls k2 (wrap64 (x5_2 - 1)) (⟨#[63]⟩ : ByteArray) t128 _ A18.out).mono ?_
    rintro e w' ⟨rfl, ⟨nd, rfl⟩⟩
    refine ⟨_, rfl, ?_⟩
    refine hK.out _ _ ((blk_cell BK127.out 0).trans rfl) (fun hHeld => ?_)
    clear hK K
    refine norm_ (a' := ?_) ?_ ?_
    rotate_left
    ·show Act.put _ (some 30) _ = _
     simp only [Act.put, List.setIfInBounds_toArray, List.set_cons_zero, List.set_cons_succ, i64_w, i32_w]
     rfl
    refine pure_ (i := 5) (N := some 31) (v := ?_) (a' := ?_) #[true, true, true, true, true, true, true, true, true, true, false, false, false, false, false, false] rfl rfl (any_of HT_.out (by kernel_rfl)) (fun _ _ _ h => h) (Or.inl ⟨by rfl, ?_⟩) ?_ ?_
    rotate_left
    ·intro w'
     go_simp
     with_reducible rfl
    rotate_left
    ·simp only [Act.put, List.setIfInBounds_toArray, List.set_cons_zero, List.set_cons_succ, i64_w, i32_w]
     rfl
    refine one_ (i := 10) (N := some 36) #[true, true, true, true, true, true, true, true, true, true, true, false, false, false, false, false] rfl rfl (one_of HT_.out (by kernel_rfl)) (by decide) (fun K hK => ?_)
    refine goes_ Tryd.func157 (by kernel_rfl) rfl #[.int .i64 (wrap64 ((wrap64 (a0 - 1)) - x5_2)), .string (⟨#[63]⟩ : ByteArray)] (by rfl) rfl rfl (by (try simp only [List.map_toArray, List.map_cons, List.map_nil]); first | done | rfl | (simp only [List.length_drop, List.length_take]; rfl)) ?_
    with_reducible refine (spec_riAll.calls k2 (wrap64 ((wrap64 (a0 - 1)) - x5_2)) (⟨#[63]⟩ : ByteArray) t129 _ A20.out).mono ?_
    rintro e w' ⟨rfl, ⟨nd, rfl⟩⟩
    refine ⟨_, rfl, ?_⟩
    refine hK.out _ _ ((blk_cell BK127.out 0).trans rfl) (fun hHeld => ?_)
    clear hK K
    refine norm_ (a' := ?_) ?_ ?_
    rotate_left
    ·show Act.put _ (some 36) _ = _
     simp only [Act.put, List.setIfInBounds_toArray, List.set_cons_zero, List.set_cons_succ, i64_w, i32_w]
     rfl
    refine pure_ (i := 11) (N := some 37) (v := ?_) (a' := ?_) #[true, true, true, true, true, true, true, true, true, true, true, true, false, false, false, false] rfl rfl (any_of HT_.out (by kernel_rfl)) (fun _ _ _ h => h) (Or.inl ⟨by rfl, ?_⟩) ?_ ?_
    rotate_left
    ·intro w'
     go_simp
     with_reducible rfl
    rotate_left
    ·simp only [Act.put, List.setIfInBounds_toArray, List.set_cons_zero, List.set_cons_succ, i64_w, i32_w]
     rfl
    refine one_ (i := 12) (N := some 38) #[true, true, true, true, true, true, true, true, true, true, true, true, true, false, false, false] rfl rfl (one_of HT_.out (by kernel_rfl)) (by decide) (fun K hK => ?_)
    refine value_ (w1 := ?_) (v := ?_) (by rfl) rfl ?_ ?_
    rotate_left 2
    ·go_simp
     constructor
     ·rfl
     rfl
    refine hK.out _ _ ((blk_cell (blk_alloc BK127.out _) 0).trans rfl) (fun hHeld => ?_)
    clear hK K
    refine norm_ (a' := ?_) ?_ ?_
    rotate_left
    ·show Act.put _ (some 38) _ = _
     simp only [Act.put, List.setIfInBounds_toArray, List.set_cons_zero, List.set_cons_succ, i64_w, i32_w]
     rfl
    refine one_ (i := 13) (N := some 39) #[true, true, true, true, true, true, true, true, true, true, true, true, true, true, false, false] rfl rfl (one_of HT_.out (by kernel_rfl)) (by decide) (fun K hK => ?_)
    refine Kd.R_append_step Kd.string (w0 := w) w.heap.size (by rfl) (.tmp 27) (.tmp 38) 24 9 (.string ⟨#[]⟩) 16 rfl Tryd.underlying24 info9 rfl (by decide) (by omega) u128000 x128000_2 ((t128 ++ (⟨#[49, 48]⟩ : ByteArray)) ++ t129) [.string ((t128 ++ (⟨#[49, 48]⟩ : ByteArray)) ++ t129)] (fun _ => True) (fun _ => False) rfl rfl ?aP (fun _ hk => hk.elim) ?aF ?aO ?aB ?aS ?aL ?_
    (case aP => exact rfl)
    (case aB => exact (bel HB))
    (case aF => exact (fun _ _ => trivial))
    (case aO => exact (rU HO_128000.out))
    (case aS => exact (below_size (bel HB)))
    (case aL => have := LMc22.out; omega)
    intro v131 w24 ho hb hg hat
    rw [← Ny130.out] at ho
    have n0_ := aM (blk_grown (g := gb121) (o := .cells #[.slice none 0 0] 26 (0, 0)) (bU BK121.out) hg (Kd.R_ne HO_128000.out BK121.out (by decide)))
    have n1_ := aM (blk_grown (g := gb127) (o := .cells #[u128000] 26 (0, 0)) (bU BK127.out) hg (Kd.R_ne HO_128000.out BK127.out (by decide)))
    have n2_ := aM (hb)
    have n3_ := aM (ho)
    clear BK121
    clear BK127
    clear HB
    clear HO_128000
    have BK121 := n0_
    have BK127 := n1_
    have HB := n2_
    have HO132 := n3_
    clear n0_ n1_ n2_ n3_
    clear ho hb hg hat
    obtain ⟨Ao25, co25, eo25⟩ := Kd.R_slice HO132.out
    (first | subst eo25 | (injection eo25 with f1_ f2_ f3_; have f4_ := f1_.symm; have f5_ := f3_.symm; clear f1_ f2_ f3_; subst f4_; subst f5_))
    refine hK.out _ _ ((blk_cell BK127.out 0).trans rfl) (fun hHeld => ?_)
    clear hK K
    refine norm_ (a' := ?_) ?_ ?_
    rotate_left
    ·show Act.put _ (some 39) _ = _
     simp only [Act.put, List.setIfInBounds_toArray, List.set_cons_zero, List.set_cons_succ, i64_w, i32_w]
     rfl
    refine pure_ (i := 14) (N := some 40) (v := ?_) (a' := ?_) #[true, true, true, true, true, true, true, true, true, true, true, true, true, true, true, false] rfl rfl (any_of HT_.out (by kernel_rfl)) (fun _ _ _ h => h) (Or.inl ⟨by rfl, ?_⟩) ?_ ?_
    rotate_left
    ·intro w'
     go_simp
     with_reducible rfl
    rotate_left
    ·simp only [Act.put, List.setIfInBounds_toArray, List.set_cons_zero, List.set_cons_succ, i64_w, i32_w]
     rfl
    refine last_ (i := 15) (N := none) #[true, true, true, true, true, true, true, true, true, true, true, true, true, true, true, true] rfl rfl (one_of HT_.out (by kernel_rfl)) (by decide) (fun K hK => ?_)
    have hs26 : w24.cell? ⟨gb127, 0, none⟩ = some (u128000) := (blk_cell BK127.out 0).trans rfl
    have hfs26 := blk_frozen BK127.out 0
    have hns26_0 := NB121_127.out
    have hms26_0 := NB127_121.out
    refine skip_ (w1 := ?_) (by rfl) rfl ?_ ?_
    rotate_left
    ·go_simp
     rfl
    refine hK.out _ _ ?_
    clear hK K
    refine done_ (done_of HT_.out (by kernel_rfl)) ?_
    try go_wp2
    go_roundg k2
    case measure => have := HJ1.out; have := HK2.out; omega
    case rel => exact ⟨(wrap64 (x5_2 + 1)), (y130), (.slice Ao25 y130.length co25), rF, H', ⟨by have := HJ1.out; have := HK2.out; omega⟩, ⟨rU (Kd.R_mono (Kd.R_far (p := ⟨gb127, 0, none⟩) (Kd.R_types HO132.out BK127.out (by decide)) (fun _ hk => hk.2) (.slice Ao25 y130.length co25)) (fun _ hk => trivial))⟩, ⟨by (with_reducible repeat (first | refine blk_drewN ?_ _ | refine blk_drew ?_ | refine blk_alloc ?_ _)); refine blk_far ?_ NB121_127.out _; (with_reducible repeat (first | refine blk_drewN ?_ _ | refine blk_drew ?_ | refine blk_alloc ?_ _)); exact BK121.out⟩, ⟨by (with_reducible repeat (first | refine blk_drewN ?_ _ | refine blk_drew ?_ | refine blk_alloc ?_ _)); refine blk_put (cs := #[u128000]) ?_ 0 _ rfl; (with_reducible repeat (first | refine blk_drewN ?_ _ | refine blk_drew ?_ | refine blk_alloc ?_ _)); exact BK127.out⟩, hV HB⟩
   have c17b0 := dF c17
   clear c17
   simp only [Option.some.injEq, Prod.mk.injEq] at H
   obtain ⟨rfl, rfl⟩ := H
   have hnb27 := NB127_121.out
   have hnc27 := NB121_127.out
   obtain ⟨hcz28_0, hfz28_0⟩ := hC1 BK127
   obtain ⟨Ao29, co29, eo29⟩ := Kd.R_slice HO_128000.out
   subst eo29
   obtain ⟨hcz30_0, hfz30_0⟩ := hC1 BK121
   go_wp2
   refine bodyPost_ret (results_ct rfl _ _ gb121 26 #[.slice Ao29 x128000_2.length co29] (0, 0) _ rfl (by (with_reducible repeat (first | refine blk_drewN ?_ _ | refine blk_drew ?_ | refine blk_alloc ?_ _)); refine blk_put (cs := #[.slice none 0 0]) ?_ 0 _ rfl; (with_reducible repeat (first | refine blk_drewN ?_ _ | refine blk_drew ?_ | refine blk_alloc ?_ _)); exact BK121.out) Tryd.underlying26 rfl (by kernel_rfl)) rfl ?_
   exact ⟨_, eW, rU (Kd.R_mono (Kd.R_far (p := ⟨gb121, 0, none⟩) (Kd.R_types HO_128000.out BK121.out (by decide)) (fun _ hk => hk.2) (.slice Ao29 x128000_2.length co29)) (fun _ hk => trivial)), bel HB⟩

/-! ### spec_l1Cur_sureLamps: function 137 -/
mutual
def spec_l1Cur_sureLamps.l0 : Nat → Int → Int → List Int → Int → Int → List ByteArray → Option (List ByteArray × Int × Int)
 | 0, _, _, _, _, _, _ => none
 | k + 1, x3, x9, x1000, x1001, x1002, x151000 => if x9 < x3 then (spec_l1Cur_sureLamps.l1 k x3 x9 (⟨#[]⟩ : ByteArray) 0 x1000 x1001 x1002 x151000) else (some (x151000, x1001, x1002))
def spec_l1Cur_sureLamps.l1 : Nat → Int → Int → ByteArray → Int → List Int → Int → Int → List ByteArray → Option (List ByteArray × Int × Int)
 | 0, _, _, _, _, _, _, _, _ => none
 | k + 1, x3, x9, x10, x11, x1000, x1001, x1002, x151000 => if x11 < x3 then ((spec_l1Cur_of.f x1000 x1001 x1002 (([(⟨#[63]⟩ : ByteArray), (⟨#[63]⟩ : ByteArray), (⟨#[48]⟩ : ByteArray), (⟨#[49]⟩ : ByteArray)] : List ByteArray))).bind fun bt154 => (if x10.size + bt154.1.size ≤ 9223372036854775807 then (spec_l1Cur_sureLamps.l1 k x3 x9 (x10 ++ bt154.1) (wrap64 (x11 + 1)) x1000 bt154.2.1 bt154.2.2 x151000) else (none))) else (if x151000.length < 8796093022208 then (spec_l1Cur_sureLamps.l0 k x3 (wrap64 (x9 + 1)) x1000 x1001 x1002 (x151000 ++ [x10])) else (none))
end
def spec_l1Cur_sureLamps.f (k : Nat) (s0_0 : List Int) (s0_1 : Int) (s0_2 : Int) : Option (List ByteArray × Int × Int) := (spec_l1Cur_pick.f s0_0 s0_1 s0_2 6).bind fun bt134 => ((spec_l1Cur_pick.f s0_0 bt134.2.1 bt134.2.2 5).bind fun bt137 => (if bt137.1 = 0 then ((spec_CountingLamps.f k (wrap64 (1 + bt134.1))).bind fun bt140 => (some (bt140.1, bt137.2.1, bt137.2.2))) else (if bt137.1 = 1 then ((spec_RunningLamps.f k (wrap64 ((wrap64 (1 + bt134.1)) + 1))).bind fun bt145 => (some (bt145.1, bt137.2.1, bt137.2.2))) else (spec_l1Cur_sureLamps.l0 k (wrap64 (1 + bt134.1)) 0 s0_0 bt137.2.1 bt137.2.2 ([] : List ByteArray)))))
theorem spec_l1Cur_sureLamps.mono_l : ∀ k, Mo (spec_l1Cur_sureLamps.l0 k) (spec_l1Cur_sureLamps.l0 (k + 1)) ∧ Mo (spec_l1Cur_sureLamps.l1 k) (spec_l1Cur_sureLamps.l1 (k + 1))
 | 0 => m0
 | k + 1 => by
  have ⟨ih0, ih1⟩ := spec_l1Cur_sureLamps.mono_l k
  refine ⟨?_, ?_⟩ <;> (repeat refine mE fun _ => ?_) <;> first | (unfold spec_l1Cur_sureLamps.l0; exact mG) | (unfold spec_l1Cur_sureLamps.l1; exact mG)
instance spec_l1Cur_sureLamps.mI (k : Nat) : Mo (spec_l1Cur_sureLamps.f k) (spec_l1Cur_sureLamps.f (k + 1)) := by
 have ⟨ih0, ih1⟩ := spec_l1Cur_sureLamps.mono_l k
 (repeat refine mE fun _ => ?_); unfold spec_l1Cur_sureLamps.f; exact mG
theorem spec_l1Cur_sureLamps.mono : ∀ a0 a1 a2 k, LeO (spec_l1Cur_sureLamps.f k a0 a1 a2) (spec_l1Cur_sureLamps.f (k + 1) a0 a1 a2) := fun a0 a1 a2 k => (spec_l1Cur_sureLamps.mI k).out a0 a1 a2
set_option maxHeartbeats 8000000 in
set_option maxRecDepth 100000 in
theorem spec_l1Cur_sureLamps.calls (k : Nat) (g : Nat) (s0_0 : List Int) (s0_1 : Int) (s0_2 : Int) (r1 : List ByteArray) (r2 : Int) (r3 : Int) (w0 w : World) (hI : IsS73 w0 w g s0_0 s0_1 s0_2) (hB : Below w0.heap.size w0 w) (h : spec_l1Cur_sureLamps.f k s0_0 s0_1 s0_2 = some (r1, r2, r3)) :
  Calls Tryd.prog 137 #[.pointer (some ⟨g, 0, none⟩)] w fun e w' => ∃ v0_ : Value, e = .returned (.agg #[v0_]) ∧ Kd.R Kd.string 9 w' w.heap.size (fun _ => True) v0_ r1 ∧ IsS73 w0 w' g s0_0 r2 r3 ∧ Below w0.heap.size w0 w' ∧ KeepBut w w' g none := by
 have hu26 := Tryd.underlying26
 have HI0 := sS73 hI
 have GI_HI0 := IsS73.geI HI0
 have HK := aM (KeepBut.refl w g none)
 have HL := aM hB.size
 clear hI
 have HW0 := aM hB.size
 have HB := aM hB
 clear hB
 have H := h
 clear h; unfold spec_l1Cur_sureLamps.f at H
 replace H := bC H; obtain ⟨⟨t134, t135, t136⟩, A2, H⟩ := H; try dsimp only at H
 replace H := bC H; obtain ⟨⟨t137, t138, t139⟩, A3, H⟩ := H; try dsimp only at H
 refine iI H ?_ ?_ <;> clear H <;> intro c4 H
 ·have c4b0 := qT c4
  have c4b1 := nF c4
  clear c4
  replace H := bC H; obtain ⟨⟨t140, t143⟩, A5, H⟩ := H; try dsimp only at H
  simp only [Option.some.injEq, Prod.mk.injEq] at H
  obtain ⟨rfl, rfl, rfl⟩ := H
  go_enter Tryd.func137, Tryd.ntmps137
  go_wp2_with (first | (refine bX (N := 2) rfl (cs := #[.slice none 0 0]) (t := 26) ?_; intro gb133 hg w6 BK133 hb; have GW133 := gK hg HK; have GE133 := gW HW0 (gK hg HK); have NB0_133 := (nbI hg : Ap g gb133); have NB133_0 := (nbJ hg : Ap gb133 g); replace HI0 := bS73 g hb; replace HK := kT HK (KeepBut.of_below hb g none); replace HB := hS HB hb; clear hb hg) | ((with_reducible refine gG 91 (some 13) rfl rfl ?_); refine gC Tryd.func91 (spec_l1Cur_pick.calls g s0_0 s0_1 s0_2 6 t134 t135 t136 w0 _ tS73 (bel HB) A2.out) ?_; rintro w7 ⟨hi, hb, hk⟩; replace BK133 := aM (KeepBut.blk hk (g' := gb133) (o := .cells #[.slice none 0 0] 26 (0, 0)) (bU BK133.out) NB133_0.out (by simp)); replace HK := kT HK hk; replace HB := aM (hb); replace HI0 := sS73 (hi); clear hb hk hi) | ((with_reducible refine gG 91 (some 16) rfl rfl ?_); refine gC Tryd.func91 (spec_l1Cur_pick.calls g s0_0 t135 t136 5 t137 t138 t139 w0 _ tS73 (bel HB) A3.out) ?_; rintro w8 ⟨hi, hb, hk⟩; replace BK133 := aM (KeepBut.blk hk (g' := gb133) (o := .cells #[.slice none 0 0] 26 (0, 0)) (bU BK133.out) NB133_0.out (by simp)); replace HK := kT HK hk; replace HB := aM (hb); replace HI0 := sS73 (hi); clear hb hk hi) | ((with_reducible refine gG 139 (some 21) rfl rfl ?_); refine gD Tryd.func139 (spec_CountingLamps.calls k (wrap64 (1 + t134)) t140 t143 _ A5.out) ?_; rintro w9 v141 ⟨ho0, hb⟩; have HO142 := rK ho0 HK; replace HI0 := bS73 g hb; replace BK133 := bB BK133 hb; replace HK := kT HK (KeepBut.of_below hb g none); replace HB := hS HB hb; clear hb ho0) | (refine bX (N := 4) rfl (cs := #[.slice none 0 0]) (t := 26) ?_; intro gb144 hg w10 BK144 hb; have GW144 := gK hg HK; have GE144 := gW HW0 (gK hg HK); have NB133_144 := nbL hg BK133; have NB144_133 := nbR hg BK133; have NB0_144 := (nbI hg : Ap g gb144); have NB144_0 := (nbJ hg : Ap gb144 g); replace HO142 := rB HO142 hb; replace HI0 := bS73 g hb; replace BK133 := bB BK133 hb; replace HK := kT HK (KeepBut.of_below hb g none); replace HB := hS HB hb; clear hb hg; obtain ⟨Ao11, co11, eo11⟩ := Kd.R_slice HO142.out; subst eo11; have hnb12 := NB144_133.out; have hnc12 := NB133_144.out; have hnb13 := NB144_0.out; have hnc13 := NB0_144.out; obtain ⟨hcz14_0, hfz14_0⟩ := hC1 BK144; have hnb15 := NB133_0.out; have hnc15 := NB0_133.out; obtain ⟨hcz16_0, hfz16_0⟩ := hC1 BK133))
  refine bodyPost_ret (results_cell_row rfl _ _ gb133 26 #[.slice Ao11 t140.length co11] (0, 0) _ rfl (by (with_reducible repeat (first | refine blk_drewN ?_ _ | refine blk_drew ?_ | refine blk_alloc ?_ _)); refine blk_put (cs := #[.slice none 0 0]) ?_ 0 _ rfl; (with_reducible repeat (first | refine blk_drewN ?_ _ | refine blk_drew ?_ | refine blk_alloc ?_ _)); refine blk_far ?_ NB133_144.out _; (with_reducible repeat (first | refine blk_drewN ?_ _ | refine blk_drew ?_ | refine blk_alloc ?_ _)); exact BK133.out) Tryd.underlying26 rfl (by kernel_rfl)) rfl ?_
  exact ⟨_, eW, rU (Kd.R_mono (Kd.R_far (p := ⟨gb133, 0, none⟩) (Kd.R_far (p := ⟨gb144, 0, none⟩) (Kd.R_types (Kd.R_types HO142.out BK144.out (by decide)) BK133.out (by decide)) (fun _ hk => hk.1.2) (.slice Ao11 t140.length co11)) (fun _ hk => hk.2) (.slice Ao11 t140.length co11)) (fun _ hk => trivial)), tS73, bel HB, kp HK⟩
 have c4b0 := qF c4
 have c4b1 := nT c4
 refine iI H ?_ ?_ <;> clear H <;> intro c17 H
 ·have c17b0 := qT c17
  have c17b1 := nF c17
  clear c17
  replace H := bC H; obtain ⟨⟨t145, t148⟩, A18, H⟩ := H; try dsimp only at H
  simp only [Option.some.injEq, Prod.mk.injEq] at H
  obtain ⟨rfl, rfl, rfl⟩ := H
  go_enter Tryd.func137, Tryd.ntmps137
  go_wp2_with (first | (refine bX (N := 2) rfl (cs := #[.slice none 0 0]) (t := 26) ?_; intro gb133 hg w19 BK133 hb; have GW133 := gK hg HK; have GE133 := gW HW0 (gK hg HK); have NB0_133 := (nbI hg : Ap g gb133); have NB133_0 := (nbJ hg : Ap gb133 g); replace HI0 := bS73 g hb; replace HK := kT HK (KeepBut.of_below hb g none); replace HB := hS HB hb; clear hb hg) | ((with_reducible refine gG 91 (some 13) rfl rfl ?_); refine gC Tryd.func91 (spec_l1Cur_pick.calls g s0_0 s0_1 s0_2 6 t134 t135 t136 w0 _ tS73 (bel HB) A2.out) ?_; rintro w20 ⟨hi, hb, hk⟩; replace BK133 := aM (KeepBut.blk hk (g' := gb133) (o := .cells #[.slice none 0 0] 26 (0, 0)) (bU BK133.out) NB133_0.out (by simp)); replace HK := kT HK hk; replace HB := aM (hb); replace HI0 := sS73 (hi); clear hb hk hi) | ((with_reducible refine gG 91 (some 16) rfl rfl ?_); refine gC Tryd.func91 (spec_l1Cur_pick.calls g s0_0 t135 t136 5 t137 t138 t139 w0 _ tS73 (bel HB) A3.out) ?_; rintro w21 ⟨hi, hb, hk⟩; replace BK133 := aM (KeepBut.blk hk (g' := gb133) (o := .cells #[.slice none 0 0] 26 (0, 0)) (bU BK133.out) NB133_0.out (by simp)); replace HK := kT HK hk; replace HB := aM (hb); replace HI0 := sS73 (hi); clear hb hk hi) | ((with_reducible refine gG 155 (some 30) rfl rfl ?_); refine gD Tryd.func155 (spec_RunningLamps.calls k (wrap64 ((wrap64 (1 + t134)) + 1)) t145 t148 _ A18.out) ?_; rintro w22 v146 ⟨ho0, hb⟩; have HO147 := rK ho0 HK; replace HI0 := bS73 g hb; replace BK133 := bB BK133 hb; replace HK := kT HK (KeepBut.of_below hb g none); replace HB := hS HB hb; clear hb ho0) | (refine bX (N := 6) rfl (cs := #[.slice none 0 0]) (t := 26) ?_; intro gb149 hg w23 BK149 hb; have GW149 := gK hg HK; have GE149 := gW HW0 (gK hg HK); have NB133_149 := nbL hg BK133; have NB149_133 := nbR hg BK133; have NB0_149 := (nbI hg : Ap g gb149); have NB149_0 := (nbJ hg : Ap gb149 g); replace HO147 := rB HO147 hb; replace HI0 := bS73 g hb; replace BK133 := bB BK133 hb; replace HK := kT HK (KeepBut.of_below hb g none); replace HB := hS HB hb; clear hb hg; obtain ⟨Ao24, co24, eo24⟩ := Kd.R_slice HO147.out; subst eo24; have hnb25 := NB149_133.out; have hnc25 := NB133_149.out; have hnb26 := NB149_0.out; have hnc26 := NB0_149.out; obtain ⟨hcz27_0, hfz27_0⟩ := hC1 BK149; have hnb28 := NB133_0.out; have hnc28 := NB0_133.out; obtain ⟨hcz29_0, hfz29_0⟩ := hC1 BK133))
  refine bodyPost_ret (results_cell_row rfl _ _ gb133 26 #[.slice Ao24 t145.length co24] (0, 0) _ rfl (by (with_reducible repeat (first | refine blk_drewN ?_ _ | refine blk_drew ?_ | refine blk_alloc ?_ _)); refine blk_put (cs := #[.slice none 0 0]) ?_ 0 _ rfl; (with_reducible repeat (first | refine blk_drewN ?_ _ | refine blk_drew ?_ | refine blk_alloc ?_ _)); refine blk_far ?_ NB133_149.out _; (with_reducible repeat (first | refine blk_drewN ?_ _ | refine blk_drew ?_ | refine blk_alloc ?_ _)); exact BK133.out) Tryd.underlying26 rfl (by kernel_rfl)) rfl ?_
  exact ⟨_, eW, rU (Kd.R_mono (Kd.R_far (p := ⟨gb133, 0, none⟩) (Kd.R_far (p := ⟨gb149, 0, none⟩) (Kd.R_types (Kd.R_types HO147.out BK149.out (by decide)) BK133.out (by decide)) (fun _ hk => hk.1.2) (.slice Ao24 t145.length co24)) (fun _ hk => hk.2) (.slice Ao24 t145.length co24)) (fun _ hk => trivial)), tS73, bel HB, kp HK⟩
 have c17b0 := qF c17
 have c17b1 := nT c17
 have H' := aM H
 clear H
 go_enter Tryd.func137, Tryd.ntmps137
 go_wp2_with (first | (refine bX (N := 2) rfl (cs := #[.slice none 0 0]) (t := 26) ?_; intro gb133 hg w30 BK133 hb; have GW133 := gK hg HK; have GE133 := gW HW0 (gK hg HK); have NB0_133 := (nbI hg : Ap g gb133); have NB133_0 := (nbJ hg : Ap gb133 g); replace HI0 := bS73 g hb; replace HK := kT HK (KeepBut.of_below hb g none); replace HB := hS HB hb; clear hb hg) | ((with_reducible refine gG 91 (some 13) rfl rfl ?_); refine gC Tryd.func91 (spec_l1Cur_pick.calls g s0_0 s0_1 s0_2 6 t134 t135 t136 w0 _ tS73 (bel HB) A2.out) ?_; rintro w31 ⟨hi, hb, hk⟩; replace BK133 := aM (KeepBut.blk hk (g' := gb133) (o := .cells #[.slice none 0 0] 26 (0, 0)) (bU BK133.out) NB133_0.out (by simp)); replace HK := kT HK hk; replace HB := aM (hb); replace HI0 := sS73 (hi); clear hb hk hi) | ((with_reducible refine gG 91 (some 16) rfl rfl ?_); refine gC Tryd.func91 (spec_l1Cur_pick.calls g s0_0 t135 t136 5 t137 t138 t139 w0 _ tS73 (bel HB) A3.out) ?_; rintro w32 ⟨hi, hb, hk⟩; replace BK133 := aM (KeepBut.blk hk (g' := gb133) (o := .cells #[.slice none 0 0] 26 (0, 0)) (bU BK133.out) NB133_0.out (by simp)); replace HK := kT HK hk; replace HB := aM (hb); replace HI0 := sS73 (hi); clear hb hk hi) | (refine bX (N := 8) rfl (cs := #[.slice none 0 0]) (t := 26) ?_; intro gb150 hg w33 BK150 hb; have GW150 := gK hg HK; have GE150 := gW HW0 (gK hg HK); have NB133_150 := nbL hg BK133; have NB150_133 := nbR hg BK133; have NB0_150 := (nbI hg : Ap g gb150); have NB150_0 := (nbJ hg : Ap gb150 g); replace HI0 := bS73 g hb; replace BK133 := bB BK133 hb; replace HK := kT HK (KeepBut.of_below hb g none); replace HB := hS HB hb; clear hb hg))
 go_loopg [9] k (fun kq v9 w' => ∃ (x9_1 : Int) (x1001_1 : Int) (x1002_1 : Int) (x151000_1 : List ByteArray) (u151000 : Value), v9 = .int .i64 x9_1 ∧ Aside0 (spec_l1Cur_sureLamps.l0 kq (wrap64 (1 + t134)) x9_1 s0_0 x1001_1 x1002_1 x151000_1 = some (r1, r2, r3)) ∧ Aside0 (kq ≤ k) ∧ Aside0 (Kd.R Kd.string 9 w' w.heap.size (fun _ => True) u151000 x151000_1) ∧ Aside0 (w'.heap[gb133]? = some (.cells #[(.slice none 0 0)] 26 (0, 0))) ∧ Aside0 (w'.heap[gb150]? = some (.cells #[u151000] 26 (0, 0))) ∧ IsC73 w0 w' g s0_0 x1001_1 x1002_1 ∧ Aside0 (KeepBut w w' g none) ∧ Aside0 (Below w0.heap.size w0 w'))
 case atStart => exact ⟨(0), (t138), (t139), (([] : List ByteArray)), (.slice none 0 0), rF, H', kR, ⟨by first | exact Kd.R_nil _ _ _ _ _ | exact Kd.N_nil _ _ _ _ _ | exact Kd.V_nil _ _ _ _ _ | exact Kd.Q_nil _ _ _ _ _ | exact Kd.S_nil _ _ _ _ _⟩, ⟨bU BK133.out⟩, ⟨bU BK150.out⟩, ⟨tS73⟩, kV HK, hV HB⟩
 case round =>
  clear H'
  try clear c4;try clear c4b0;try clear c4b1;try clear c17;try clear c17b0;try clear c17b1
  obtain ⟨x9_1, x1001_1, x1002_1, x151000_1, u151000, rfl, HA, HK1, HO_151000, BK133, BK150, HI0, HK, HB⟩ := hrel
  obtain rfl | ⟨k1, rfl⟩ := fz gk
  ·exact zA HA
  have H := HA.out
  clear HA
  simp only [spec_l1Cur_sureLamps.l0] at H
  refine iI H ?_ ?_ <;> clear H <;> intro c34 H
  ·have c34b0 := dT c34
   clear c34
   have H' := aM H
   clear H
   go_wp2
   go_loopg [10, 11] k1 (fun kq v10 v11 w' => ∃ (x10_2 : ByteArray) (x11_2 : Int) (x1001_2 : Int) (x1002_2 : Int), v10 = .string x10_2 ∧ v11 = .int .i64 x11_2 ∧ Aside0 (spec_l1Cur_sureLamps.l1 kq (wrap64 (1 + t134)) x9_1 x10_2 x11_2 s0_0 x1001_2 x1002_2 x151000_1 = some (r1, r2, r3)) ∧ Aside0 (kq ≤ k1) ∧ Aside0 (Kd.R Kd.string 9 w' w.heap.size (fun _ => True) u151000 x151000_1) ∧ Aside0 (w'.heap[gb133]? = some (.cells #[(.slice none 0 0)] 26 (0, 0))) ∧ Aside0 (w'.heap[gb150]? = some (.cells #[u151000] 26 (0, 0))) ∧ IsC73 w0 w' g s0_0 x1001_2 x1002_2 ∧ Aside0 (KeepBut w w' g none) ∧ Aside0 (Below w0.heap.size w0 w'))
   case atStart => exact ⟨((⟨#[]⟩ : ByteArray)), (0), (x1001_1), (x1002_1), rF, rF, H', kR, ⟨rU HO_151000.out⟩, ⟨bU BK133.out⟩, ⟨bU BK150.out⟩, ⟨tS73⟩, kV HK, hV HB⟩
   case round =>
    clear H'
    try clear c34b0
    obtain ⟨x10_2, x11_2, x1001_2, x1002_2, rfl, rfl, HA, HK2, HO_151000, BK133, BK150, HI0, HK, HB⟩ := hrel
    obtain rfl | ⟨k2, rfl⟩ := fz gk
    ·exact zA HA
    have H := HA.out
    clear HA
    simp only [spec_l1Cur_sureLamps.l1] at H
    refine iI H ?_ ?_ <;> clear H <;> intro c35 H
    ·have c35b0 := dT c35
     clear c35
     obtain ⟨y151, Ny151⟩ := yN (([(⟨#[63]⟩ : ByteArray), (⟨#[63]⟩ : ByteArray), (⟨#[48]⟩ : ByteArray), (⟨#[49]⟩ : ByteArray)] : List ByteArray) : List ByteArray); rw [← Ny151.out] at H
     replace H := bC H; obtain ⟨⟨t154, t155, t156⟩, A36, H⟩ := H; try dsimp only at H
     refine iY H ?_; clear H; intro c37 H
     have c37b0 := eq_true c37
     have c37b1 := dT c37
     try have c37b2 : (9223372036854775807 < x10_2.size + t154.size) = False := eq_false (Nat.not_lt.2 c37)
     have H' := aM H
     clear H
     go_wp2_with (first | ((with_reducible refine gate_dst (N := 46) rfl ?_); refine Kd.R_lit Kd.string _ 9 ?hg (N := 46) ?hd (xs := ([(⟨#[63]⟩ : ByteArray), (⟨#[63]⟩ : ByteArray), (⟨#[48]⟩ : ByteArray), (⟨#[49]⟩ : ByteArray)] : List ByteArray)) (inner := [.string (⟨#[63]⟩ : ByteArray), .string (⟨#[63]⟩ : ByteArray), .string (⟨#[48]⟩ : ByteArray), .string (⟨#[49]⟩ : ByteArray)]) (ok := fun _ => True) (okp := fun _ => True) ?hr ?hp (fun _ hk => hk) trivial (Below.refl _ _) (Nat.le_refl _) (by simp) ?_; (case hd => rfl); (case hg => rfl); (case hr => first | (go_simp; done) | (go_simp; rfl)); (case hp => exact (Reps.one (show Kd.M Kd.string _ _ _ (⟨#[63]⟩ : ByteArray) [.string (⟨#[63]⟩ : ByteArray)] from rfl) (Reps.one (show Kd.M Kd.string _ _ _ (⟨#[63]⟩ : ByteArray) [.string (⟨#[63]⟩ : ByteArray)] from rfl) (Reps.one (show Kd.M Kd.string _ _ _ (⟨#[48]⟩ : ByteArray) [.string (⟨#[48]⟩ : ByteArray)] from rfl) (Reps.one (show Kd.M Kd.string _ _ _ (⟨#[49]⟩ : ByteArray) [.string (⟨#[49]⟩ : ByteArray)] from rfl) (Reps.none _ _)))))); intro v152 w38 ho39 hb hg_ hnew_; clear hg_ hnew_; (first | rw [← Ny151.out] at ho39 | (simp only [Int.reduceToNat] at ho39; rw [← Ny151.out] at ho39)); have HO153 := aM (Kd.R_lower (Kd.R_new' ho39 (Kd.R_lt (rU HO_151000.out))) (keep_size (w := w) (g := g) (row := none) (kp HK))); replace HO_151000 := aM (Kd.R_elder' (rU HO_151000.out) (Kd.R_base ho39) hb); replace BK133 := bB BK133 hb; replace BK150 := bB BK150 hb; replace HI0 := bS73 g hb; replace HK := kT HK (KeepBut.of_below hb g none); replace HB := hS HB hb; clear hb ho39; obtain ⟨Ao40, co40, eo40⟩ := Kd.R_slice HO153.out; subst eo40) | ((with_reducible refine gG 130 (some 47) rfl rfl ?_); refine gC Tryd.func130 (spec_l1Cur_of.calls g s0_0 x1001_2 x1002_2 _ _ y151 t154 t155 t156 w0 _ tS73 (bel HB) (cU ((Kd.R_reads' HO153.out).2.2)) ((Kd.R_reads' HO153.out).2.1) (far_slice (IsS73.own_ne HI0.out HO153.out (by decide))) A36.out) ?_; rintro w41 ⟨hi, hb, hk⟩; replace HO_151000 := aM (Kd.R_mono (Kd.R_keep (IsS73.apart (show IsS73 w0 _ g s0_0 x1001_2 x1002_2 from tS73) (rU HO_151000.out) (by decide)) hk (fun _ h => h.2)) (fun _ h => h.1)); replace BK133 := aM (KeepBut.blk hk (g' := gb133) (o := .cells #[.slice none 0 0] 26 (0, 0)) (bU BK133.out) NB133_0.out (by simp)); replace BK150 := aM (KeepBut.blk hk (g' := gb150) (o := .cells #[u151000] 26 (0, 0)) (bU BK150.out) NB150_0.out (by simp)); replace HO153 := aM (Kd.R_mono (Kd.R_keep (IsS73.apart (show IsS73 w0 _ g s0_0 x1001_2 x1002_2 from tS73) (rU HO153.out) (by decide)) hk (fun _ h => h.2)) (fun _ h => h.1)); replace HK := kT HK hk; replace HB := aM (hb); replace HI0 := sS73 (hi); clear hb hk hi))
     go_roundg k2
     case measure => have := HK1.out; have := HK2.out; omega
     case rel => exact ⟨(x10_2 ++ t154), (wrap64 (x11_2 + 1)), (t155), (t156), rF, rF, H', ⟨by have := HK1.out; have := HK2.out; omega⟩, ⟨rU (Kd.R_mono HO_151000.out (fun _ hk => trivial))⟩, ⟨bU BK133.out⟩, ⟨bU BK150.out⟩, ⟨tS73⟩, kV HK, hV HB⟩
    have c35b0 := dF c35
    clear c35
    refine iY H ?_; clear H; intro c42 H
    have LMc42 := aM c42
    clear c42
    obtain ⟨y157, Ny157⟩ := yN (x151000_1 ++ [x10_2] : List ByteArray); rw [← Ny157.out] at H
    have H' := aM H
    clear H
    have hnb43 := NB150_133.out
    have hnc43 := NB133_150.out
    have hnb44 := NB150_0.out
    have hnc44 := NB0_150.out
    obtain ⟨hcz45_0, hfz45_0⟩ := hC1 BK150
    go_wp2_with (first | ((with_reducible refine gate_builtin (b := .append) (xs := #[.tmp 50, .tmp 52]) rfl ?_); at_builtin; refine Kd.R_append Kd.string w.heap.size rfl (.tmp 50) (.tmp 52) 24 9 (.string ⟨#[]⟩) 16 rfl Tryd.underlying24 info9 rfl (by decide) (by omega) u151000 x151000_1 x10_2 [.string x10_2] (fun _ => True) (fun _ => False) rfl rfl ?aP (fun _ hk => hk.elim) ?aF ?aO (Below.refl _ _) ?aS ?aL ?_; (case aP => exact rfl); (case aF => exact (fun _ _ => trivial)); (case aO => exact (rU HO_151000.out)); (case aS => exact (keep_size (w := w) (g := g) (row := none) (kp HK))); (case aL => have := LMc42.out; omega); intro v158 w46 ho hb hg hat; rw [← Ny157.out] at ho; have HO159 := aM (ho); replace BK133 := aM (blk_grown (g := gb133) (o := .cells #[.slice none 0 0] 26 (0, 0)) (bU BK133.out) hg (Kd.R_ne HO_151000.out BK133.out (by decide))); replace BK150 := aM (blk_grown (g := gb150) (o := .cells #[u151000] 26 (0, 0)) (bU BK150.out) hg (Kd.R_ne HO_151000.out BK150.out (by decide))); replace HI0 := sS73 (IsS73.grown (tS73 (g := g)) hg (IsS73.own_ne HI0.out HO_151000.out (by decide))); replace HB := aM (below_weaken (bel HB) HL.out hb); replace HK := aM (KeepBut.trans (kp HK) (KeepBut.of_grown hg g) (Kd.R_base2 HO_151000.out)); clear HO_151000; clear ho hb hg hat; obtain ⟨Ao47, co47, eo47⟩ := Kd.R_slice HO159.out; subst eo47; obtain ⟨hcz48_0, hfz48_0⟩ := hC1 BK150))
    go_roundg k2
    case measure => have := HK1.out; have := HK2.out; omega
    case rel => exact ⟨(wrap64 (x9_1 + 1)), (x1001_2), (x1002_2), (y157), (.slice Ao47 y157.length co47), rF, H', ⟨by have := HK1.out; have := HK2.out; omega⟩, ⟨rU (Kd.R_mono (Kd.R_far (p := ⟨gb150, 0, none⟩) (Kd.R_types HO159.out BK150.out (by decide)) (fun _ hk => hk.2) (.slice Ao47 y157.length co47)) (fun _ hk => trivial))⟩, ⟨by (with_reducible repeat (first | refine blk_drewN ?_ _ | refine blk_drew ?_ | refine blk_alloc ?_ _)); refine blk_far ?_ NB133_150.out _; (with_reducible repeat (first | refine blk_drewN ?_ _ | refine blk_drew ?_ | refine blk_alloc ?_ _)); exact BK133.out⟩, ⟨by (with_reducible repeat (first | refine blk_drewN ?_ _ | refine blk_drew ?_ | refine blk_alloc ?_ _)); refine blk_put (cs := #[u151000]) ?_ 0 _ rfl; (with_reducible repeat (first | refine blk_drewN ?_ _ | refine blk_drew ?_ | refine blk_alloc ?_ _)); exact BK150.out⟩, ⟨tS73⟩, kV HK, hV HB⟩
  have c34b0 := dF c34
  clear c34
  simp only [Option.some.injEq, Prod.mk.injEq] at H
  obtain ⟨rfl, rfl, rfl⟩ := H
  have hnb49 := NB150_133.out
  have hnc49 := NB133_150.out
  have hnb50 := NB150_0.out
  have hnc50 := NB0_150.out
  obtain ⟨hcz51_0, hfz51_0⟩ := hC1 BK150
  obtain ⟨Ao52, co52, eo52⟩ := Kd.R_slice HO_151000.out
  subst eo52
  have hnb53 := NB133_0.out
  have hnc53 := NB0_133.out
  obtain ⟨hcz54_0, hfz54_0⟩ := hC1 BK133
  go_wp2
  refine bodyPost_ret (results_cell_row rfl _ _ gb133 26 #[.slice Ao52 x151000_1.length co52] (0, 0) _ rfl (by (with_reducible repeat (first | refine blk_drewN ?_ _ | refine blk_drew ?_ | refine blk_alloc ?_ _)); refine blk_put (cs := #[.slice none 0 0]) ?_ 0 _ rfl; (with_reducible repeat (first | refine blk_drewN ?_ _ | refine blk_drew ?_ | refine blk_alloc ?_ _)); exact BK133.out) Tryd.underlying26 rfl (by kernel_rfl)) rfl ?_
  exact ⟨_, eW, rU (Kd.R_mono (Kd.R_far (p := ⟨gb133, 0, none⟩) (Kd.R_types HO_151000.out BK133.out (by decide)) (fun _ hk => hk.2) (.slice Ao52 x151000_1.length co52)) (fun _ hk => trivial)), tS73, bel HB, kp HK⟩

end Go.Proofs.YtiiahdjjngdgoaaDoor.PLTick
