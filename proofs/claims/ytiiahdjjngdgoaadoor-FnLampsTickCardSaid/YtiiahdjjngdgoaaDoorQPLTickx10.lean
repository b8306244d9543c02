-- squeezed (sq3.py); PRINTED by drive.py (a program of this session's, over the kit's print.py; wip/tools/drive.py). Lean checks it.
import Derived.Test.YtiiahdjjngdgoaaDoorQPLTickx0
import Derived.Test.YtiiahdjjngdgoaaDoorQPLTickx4
import Derived.Test.YtiiahdjjngdgoaaDoorQPLTickx5
import Derived.Test.YtiiahdjjngdgoaaDoorQPLTickx6
import Derived.Test.YtiiahdjjngdgoaaDoorQSq
namespace Go.Proofs.YtiiahdjjngdgoaaDoor.PLTick
open Go.RowKit Go.Proofs.YtiiahdjjngdgoaaDoorW.PrintWords Go.Proofs.YtiiahdjjngdgoaaDoorW.PrintLast Go.Proofs.YtiiahdjjngdgoaaDoorW.PrintMore
attribute [local go_sem] max2_int min2_int max_two min_two max_three min_three max_four min_four   -- for this text's walks alone
set_option linter.unusedVariables false
set_option linter.unusedSimpArgs false

/-! ### spec_CycleOfLamps: function 18 -/
def spec_CycleOfLamps.l0 : Nat → List ByteArray → Int → List ByteArray → Int → Int → Option (List ByteArray × Bool)
 | 0, _, _, _, _, _ => none
 | k + 1, x8, x9, x25, x26, x27 => if x27 < x26 then (if 0 ≤ x27 then (if x27 < (x25.length : Int) then (if 0 ≤ x9 then (if x9 < (x8.length : Int) then (if (Op.bytesLess ((rdOf ByteArray.empty x25 x27).toList) ((rdOf ByteArray.empty x8 x9).toList)) = true then (spec_CycleOfLamps.l0 k x8 x27 x25 x26 (wrap64 (x27 + 1))) else (spec_CycleOfLamps.l0 k x8 x9 x25 x26 (wrap64 (x27 + 1)))) else (none)) else (none)) else (none)) else (none)) else ((some (([] : List ByteArray) : List ByteArray)).bind fun y346 => (if 0 ≤ x9 then (if x9 ≤ (x8.length : Int) then (if y346.length + (x8.drop (x9 : Int).toNat).length < 8796093022208 then ((some (y346 ++ (x8.drop (x9 : Int).toNat) : List ByteArray)).bind fun y350 => (if y350.length + (x8.take (x9 : Int).toNat).length < 8796093022208 then (some ((y350 ++ (x8.take (x9 : Int).toNat)), true)) else (none))) else (none)) else (none)) else (none)))
def spec_CycleOfLamps.f (k : Nat) (l0_0 : List ByteArray) (a1 : ByteArray) : Option (List ByteArray × Bool) := (spec_laAsked.f l0_0 a1).bind fun t335 => (if t335 = true then ((spec_laPath.f k l0_0 a1).bind fun bt336 => (if 0 ≤ bt336.2 then (if bt336.2 ≤ (bt336.1.length : Int) then ((some (bt336.1.drop (bt336.2 : Int).toNat : List ByteArray)).bind fun y340 => (spec_CycleOfLamps.l0 k y340 0 y340 (y340.length : Int) 0)) else (none)) else (none))) else (some (([] : List ByteArray), false)))
theorem spec_CycleOfLamps.mono_l : ∀ k, Mo (spec_CycleOfLamps.l0 k) (spec_CycleOfLamps.l0 (k + 1))
 | 0 => m0
 | k + 1 => by
  have ih0 := spec_CycleOfLamps.mono_l k
  (repeat refine mE fun _ => ?_) <;> first | (unfold spec_CycleOfLamps.l0; exact mG)
instance spec_CycleOfLamps.mI (k : Nat) : Mo (spec_CycleOfLamps.f k) (spec_CycleOfLamps.f (k + 1)) := by
 have ih0 := spec_CycleOfLamps.mono_l k
 (repeat refine mE fun _ => ?_); unfold spec_CycleOfLamps.f; exact mG
theorem spec_CycleOfLamps.mono : ∀ a0 a1 k, LeO (spec_CycleOfLamps.f k a0 a1) (spec_CycleOfLamps.f (k + 1) a0 a1) := fun a0 a1 k => (spec_CycleOfLamps.mI k).out a0 a1
def spec_CycleOfLamps.T12 : Bool × List (List Nat × List Nat) := (true, [([], []), ([], []), ([], []), ([1, 2], [1, 2]), ([0, 3], [0, 3]), ([], []), ([], []), ([5, 6], [5, 6]), ([4, 7, 4], [4, 7]), ([8, 8, 0, 1, 2, 3, 4, 5, 6, 7, 8], [8]), ([9, 0, 1, 2, 3, 4, 5, 6, 7, 8, 9], [])])
def spec_CycleOfLamps.B12 : List Nat := [0, 0, 0, 6, 15, 0, 0, 96, 255, 511, 1023]
theorem spec_CycleOfLamps.tab12 : rtab .any (opsOf Tryd.f18 12) = spec_CycleOfLamps.T12 := by kernel_rfl
theorem spec_CycleOfLamps.bits12 : waitsOk spec_CycleOfLamps.T12.2 spec_CycleOfLamps.B12 = true := by kernel_rfl
set_option maxHeartbeats 8000000 in
set_option maxRecDepth 100000 in
theorem spec_CycleOfLamps.calls (k : Nat) (A0_0 : Option Addr) (c0_0 : Nat) (l0_0 : List ByteArray) (a1 : ByteArray) (r1 : List ByteArray) (r2 : Bool) (w : World) (hr0_0 : Kd.C Kd.string w A0_0 l0_0.length l0_0) (hc0_0 : l0_0.length ≤ c0_0) (h : spec_CycleOfLamps.f k l0_0 a1 = some (r1, r2)) :
  Calls Tryd.prog 18 #[.agg #[.slice A0_0 l0_0.length c0_0], .string a1] w fun e w' => ∃ v0_ : Value, e = .returned (.tuple #[v0_, .bool r2]) ∧ Kd.R Kd.string 9 w' w.heap.size (fun _ => True) v0_ r1 ∧ Below w.heap.size w w' := by
 have hu26 := Tryd.underlying26
 have HR0_0 := aM hr0_0
 have HC0_0 := aM hc0_0
 clear hr0_0 hc0_0
 have HB := aM (Below.refl w.heap.size w)
 have H := h
 clear h; unfold spec_CycleOfLamps.f at H
 replace H := bC H; obtain ⟨t335, A3, H⟩ := H
 refine iB H ?_ ?_ <;> clear H <;> rintro rfl H
 ·replace H := bC H; obtain ⟨⟨t336, t339⟩, A5, H⟩ := H; try dsimp only at H
  refine iY H ?_; clear H; intro c6 H
  have c6b0 := eq_true c6
  have c6b1 := dT c6
  clear c6
  refine iY H ?_; clear H; intro c7 H
  have c7b0 := eq_true c7
  have c7b1 := dT c7
  clear c7
  replace H := yB H; obtain ⟨y340, Ny340, H⟩ := H
  have H' := aM H
  clear H
  go_enter Tryd.func18, Tryd.ntmps18
  go_wp2_with (first | (refine bX (N := 2) rfl (cs := #[.slice A0_0 l0_0.length c0_0]) (t := 26) ?_; intro gb334 hg w8 BK334 hb; have GW334 := gE hg HB; have GE334 := gE hg HB; replace HB := hS HB hb; clear hb hg; obtain ⟨hcz9_0, hfz9_0⟩ := hC1 BK334) | ((with_reducible refine gG 75 (some 14) rfl rfl ?_); refine gC Tryd.func75 (spec_laAsked.calls _ _ l0_0 a1 true _ (cU (Kd.C_below HR0_0.out HB.out)) HC0_0.out A3.out) ?_; rintro w10 hb; replace BK334 := bB BK334 hb; replace HB := hS HB hb; clear hb; obtain ⟨hcz11_0, hfz11_0⟩ := hC1 BK334) | ((with_reducible refine gG 77 (some 19) rfl rfl ?_); refine gD Tryd.func77 (spec_laPath.calls k _ _ l0_0 a1 t336 t339 _ (cU (Kd.C_below HR0_0.out HB.out)) HC0_0.out A5.out) ?_; rintro w12 v337 ⟨ho0, hb⟩; have HO338 := rL ho0 HB; replace BK334 := bB BK334 hb; replace HB := hS HB hb; clear hb ho0; obtain ⟨Ao14, co14, eo14⟩ := Kd.R_slice HO338.out; subst eo14; have q13 : (t339 : Int) ≤ ((t336.length : Int) : Int) := oD; obtain ⟨i013, hi013, _, hsz13, _⟩ := info_parts info9; have hroom13 : t336.length ≤ co14 := (Kd.R_reads' HO338.out).2.1; have hC13 : Kd.C Kd.string _ Ao14 t336.length t336 := (Kd.R_reads' HO338.out).2.2; have q013 : (0 : Int) ≤ (t339 : Int) := oD; have hcut13 := cut_from (P := Tryd.prog) 24 9 .i64 Tryd.underlying24 hi013 1 hsz13 Ao14 t336.length co14 t339 q013 q13; have hr13 := Kd.C_drop (m := (t339 : Int).toNat) (c := co14) hC13 (by omega) hroom13; obtain ⟨A13, hA13⟩ : ∃ A1, A1 = (if co14 = (t339 : Int).toNat then Ao14 else (Ao14 : Option Addr).map (·.add ((t339 : Int).toNat * 1))) := ⟨_, rfl⟩; obtain ⟨c13, hc13⟩ : ∃ c1, c1 = co14 - (t339 : Int).toNat := ⟨_, rfl⟩; have hy13 : y340.length = t336.length - (t339 : Int).toNat := (by rw [Ny340.out, List.length_drop] <;> omega); rw [show (t336).drop (t339 : Int).toNat = y340 from Ny340.out.symm] at hr13; replace hr13 : Kd.C Kd.string _ A13 y340.length y340 := (by rw [hA13]; exact hr13); rw [← hy13, ← hA13, ← hc13] at hcut13; have HR343 := aM hr13; have HC343 := aM (show y340.length ≤ c13 from by rw [hy13, hc13]; exact Nat.sub_le_sub_right hroom13 _); clear hr13 hC13 hroom13 hi013 hsz13 hc13; have KY13 := aM hy13; have KA13 := aM hA13; clear hy13 hA13; have KL13 := aM (show (t339 : Int).toNat ≤ t336.length from by omega); replace q13 := eq_true q13))
  go_loopg [9, 27] k (fun kq v9 v27 w' => ∃ (x9_1 : Int) (x27_1 : Int), v9 = .int .i64 x9_1 ∧ v27 = .int .i64 x27_1 ∧ Aside0 (spec_CycleOfLamps.l0 kq y340 x9_1 y340 (y340.length : Int) x27_1 = some (r1, r2)) ∧ Aside0 (kq ≤ k) ∧ Aside0 (w'.heap[gb334]? = some (.cells #[(.slice A0_0 l0_0.length c0_0)] 26 (0, 0))) ∧ Aside0 (Kd.C Kd.string w' A13 y340.length y340) ∧ Aside0 (Below w.heap.size w w'))
  case atStart => exact ⟨(0), (0), rF, rF, H', kR, ⟨bU BK334.out⟩, ⟨by repeat (first | (with_reducible exact HR343.out) | (with_reducible refine Kd.C_alloc ?_ _) | (with_reducible refine Kd.C_drewN ?_ _) | (with_reducible refine Kd.C_drew ?_) | exact HR343.out)⟩, hV HB⟩
  case round =>
   clear H'
   try clear c6b0;try clear c6b1;try clear c7b0;try clear c7b1;try clear c13;try clear q13;try clear hcz11_0;try clear hcz9_0;try clear hfz11_0;try clear hfz9_0;try clear q013
   obtain ⟨x9_1, x27_1, rfl, rfl, HA, HK1, BK334, HR343, HB⟩ := hrel
   obtain rfl | ⟨k1, rfl⟩ := fz gk
   ·exact zA HA
   have H := HA.out
   clear HA
   simp only [spec_CycleOfLamps.l0] at H
   refine iI H ?_ ?_ <;> clear H <;> intro c15 H
   ·have c15b0 := dT c15
    clear c15
    refine iY H ?_; clear H; intro c16 H
    have c16b0 := dT c16
    clear c16
    refine iY H ?_; clear H; intro c17 H
    have c17b0 := dT c17
    clear c17
    refine iY H ?_; clear H; intro c18 H
    have c18b0 := dT c18
    clear c18
    refine iY H ?_; clear H; intro c19 H
    have c19b0 := dT c19
    clear c19
    refine iI H ?_ ?_ <;> clear H <;> intro c20 H
    ·have c20b0 : (Op.bytesLess ((rdOf ByteArray.empty y340 x27_1).toList) ((rdOf ByteArray.empty y340 x9_1).toList)) = true := c20
     clear c20
     have H' := aM H
     clear H
     have p344 : 0 ≤ (x27_1 : Int) := oD
     have q344 : x27_1 < (y340.length : Int) := oD
     obtain ⟨ad344, e344, hx344_0⟩ := Kd.at_string HR343.out x27_1 p344 q344
     cases e344
     replace p344 := eq_true p344
     replace q344 := eq_true q344
     have p345 : 0 ≤ (x9_1 : Int) := oD
     have q345 : x9_1 < (y340.length : Int) := oD
     obtain ⟨ad345, e345, hx345_0⟩ := Kd.at_string HR343.out x9_1 p345 q345
     obtain rfl : ad344 = ad345 := (by injection e345)
     replace p345 := eq_true p345
     replace q345 := eq_true q345
     go_wp2
     go_roundg k1
     case measure => have := HK1.out; omega
     case rel => exact ⟨(x27_1), (wrap64 (x27_1 + 1)), rF, rF, H', ⟨by have := HK1.out; omega⟩, ⟨bU BK334.out⟩, ⟨by repeat (first | (with_reducible exact HR343.out) | (with_reducible refine Kd.C_alloc ?_ _) | (with_reducible refine Kd.C_drewN ?_ _) | (with_reducible refine Kd.C_drew ?_) | exact HR343.out)⟩, hV HB⟩
    have c20b0 := bF c20
    clear c20
    have H' := aM H
    clear H
    have p344 : 0 ≤ (x27_1 : Int) := oD
    have q344 : x27_1 < (y340.length : Int) := oD
    obtain ⟨ad344, e344, hx344_0⟩ := Kd.at_string HR343.out x27_1 p344 q344
    cases e344
    replace p344 := eq_true p344
    replace q344 := eq_true q344
    have p345 : 0 ≤ (x9_1 : Int) := oD
    have q345 : x9_1 < (y340.length : Int) := oD
    obtain ⟨ad345, e345, hx345_0⟩ := Kd.at_string HR343.out x9_1 p345 q345
    obtain rfl : ad344 = ad345 := (by injection e345)
    replace p345 := eq_true p345
    replace q345 := eq_true q345
    go_wp2
    go_roundg k1
    case measure => have := HK1.out; omega
    case rel => exact ⟨(x9_1), (wrap64 (x27_1 + 1)), rF, rF, H', ⟨by have := HK1.out; omega⟩, ⟨bU BK334.out⟩, ⟨by repeat (first | (with_reducible exact HR343.out) | (with_reducible refine Kd.C_alloc ?_ _) | (with_reducible refine Kd.C_drewN ?_ _) | (with_reducible refine Kd.C_drew ?_) | exact HR343.out)⟩, hV HB⟩
   have c15b0 := dF c15
   clear c15
   replace H := yB H; obtain ⟨y346, Ny346, H⟩ := H
   refine iY H ?_; clear H; intro c21 H
   have c21b0 := eq_true c21
   have c21b1 := dT c21
   clear c21
   refine iY H ?_; clear H; intro c22 H
   have c22b0 := eq_true c22
   have c22b1 := dT c22
   clear c22
   refine iY H ?_; clear H; intro c23 H
   have LMc23 := aM c23
   clear c23
   replace H := yB H; obtain ⟨y350, Ny350, H⟩ := H
   have c24b0 := eq_true (oD : 0 ≤ x9_1)
   have c25b0 := eq_true (oD : x9_1 ≤ (y340.length : Int))
   refine iY H ?_; clear H; intro c26 H
   have LMc26 := aM c26
   clear c26
   obtain ⟨y354, Ny354⟩ := yN (y350 ++ (y340.take (x9_1 : Int).toNat) : List ByteArray); rw [← Ny354.out] at H
   simp only [Option.some.injEq, Prod.mk.injEq] at H
   obtain ⟨rfl, rfl⟩ := H
   try go_wp2
   have n0_ := aM (blk_drew BK334.out)
   have n1_ := aM (Kd.C_drew HR343.out)
   have n2_ := aM (below_drew1 HB.out)
   clear BK334
   clear HR343
   clear HB
   have BK334 := n0_
   have HR343 := n1_
   have HB := n2_
   clear n0_ n1_ n2_
   obtain ⟨i028, hi028, _, hsz28, _⟩ := info_parts info9
   obtain ⟨A28, hcut28, hA28, hC28⟩ := print_drop_of (P := Tryd.prog) Value.string (⟨#[]⟩ : ByteArray) 24 9 .i64 Tryd.underlying24 hi028 hsz28 A13 c13 y340 x9_1 oD oD HC343.out
   have HR349 := aM (Kd.C_of_reads (h1 := fun _ => rfl) (hA28 _ (Kd.reads_of_C HR343.out)))
   have HC349 := aM hC28
   clear hA28 hC28 hi028 hsz28
   obtain ⟨i029, hi029, _, hsz29, _⟩ := info_parts info9
   obtain ⟨hcut29, hA29, hC29⟩ := print_take_of (P := Tryd.prog) Value.string (⟨#[]⟩ : ByteArray) 24 9 .i64 Tryd.underlying24 hi029 hsz29 A13 c13 y340 x9_1 oD oD HC343.out
   have HR353 := aM (Kd.C_of_reads (h1 := fun _ => rfl) (hA29 _ (Kd.reads_of_C HR343.out)))
   have HC353 := aM hC29
   clear hA29 hC29 hi029 hsz29
   refine start_ (n := 11) (S := fun w' => True) (ds := []) #[false, false, false, false, false, false, false, false, false, false, false] (by kernel_rfl) rfl rfl trivial (fun hHeld => ?_); refine with_tabW spec_CycleOfLamps.tab12 spec_CycleOfLamps.bits12 (fun HT_ HW_ => ?_)
   generalize wr.drew = w27 at BK334 HR343 HB HR349 HR353 hHeld ⊢
   have HB00 := HB
   have HBa := aM (Below.refl w27.heap.size w27)
   refine pure_ (i := 1) (N := some 41) (v := ?_) (a' := ?_) #[false, true, false, false, false, false, false, false, false, false, false] rfl rfl (any_of HT_.out (by kernel_rfl)) (fun _ _ _ h => h) (Or.inl ⟨by rfl, ?_⟩) ?_ ?_
   rotate_left
   ·intro w'
    go_simp
    with_reducible rfl
   rotate_left
   ·simp only [Act.put, List.setIfInBounds_toArray, List.set_cons_zero, List.set_cons_succ, i64_w, i32_w]
    rfl
   refine pure_ (i := 2) (N := some 42) (v := ?_) (a' := ?_) #[false, true, true, false, false, false, false, false, false, false, false] rfl rfl (any_of HT_.out (by kernel_rfl)) (fun _ _ _ h => h) (Or.inl ⟨by rfl, ?_⟩) ?_ ?_
   rotate_left
   ·intro w'
    go_simp
    with_reducible rfl
   rotate_left
   ·simp only [Act.put, List.setIfInBounds_toArray, List.set_cons_zero, List.set_cons_succ, i64_w, i32_w]
    rfl
   refine pure_ (i := 3) (N := some 43) (v := ?_) (a' := ?_) #[false, true, true, true, false, false, false, false, false, false, false] rfl rfl (any_of HT_.out (by kernel_rfl)) (fun _ _ _ h => h) (Or.inl ⟨by rfl, ?_⟩) ?_ ?_
   rotate_left
   ·intro w'
    go_simp
    with_reducible rfl
   rotate_left
   ·simp only [Act.put, List.setIfInBounds_toArray, List.set_cons_zero, List.set_cons_succ, i64_w, i32_w]
    rfl
   refine pure_ (i := 5) (N := some 45) (v := ?_) (a' := ?_) #[false, true, true, true, false, true, false, false, false, false, false] rfl rfl (any_of HT_.out (by kernel_rfl)) (fun _ _ _ h => h) (Or.inl ⟨by rfl, ?_⟩) ?_ ?_
   rotate_left
   ·intro w'
    go_simp
    with_reducible rfl
   rotate_left
   ·simp only [Act.put, List.setIfInBounds_toArray, List.set_cons_zero, List.set_cons_succ, i64_w, i32_w]
    rfl
   refine pure_ (i := 6) (N := some 46) (v := ?_) (a' := ?_) #[false, true, true, true, false, true, true, false, false, false, false] rfl rfl (any_of HT_.out (by kernel_rfl)) (fun _ _ _ h => h) (Or.inl ⟨by rfl, ?_⟩) ?_ ?_
   rotate_left
   ·intro w'
    go_simp
    with_reducible rfl
   rotate_left
   ·simp only [Act.put, List.setIfInBounds_toArray, List.set_cons_zero, List.set_cons_succ, i64_w, i32_w]
    rfl
   refine pure_ (i := 7) (N := some 47) (v := ?_) (a' := ?_) #[false, true, true, true, false, true, true, true, false, false, false] rfl rfl (any_of HT_.out (by kernel_rfl)) (fun _ _ _ h => h) (Or.inl ⟨by rfl, ?_⟩) ?_ ?_
   rotate_left
   ·intro w'
    go_simp
    with_reducible rfl
   rotate_left
   ·simp only [Act.put, List.setIfInBounds_toArray, List.set_cons_zero, List.set_cons_succ, i64_w, i32_w]
    rfl
   refine one_ (i := 0) (N := some 40) #[true, true, true, true, false, true, true, true, false, false, false] rfl rfl (one_of HT_.out (by kernel_rfl)) (by decide) (fun K hK => ?_)
   refine Kd.R_lit_step Kd.string _ 9 ?hg (N := 40) ?hd (xs := ([] : List ByteArray)) (inner := []) (ok := fun _ => True) (okp := fun _ => True) ?hr ?hp (fun _ hk => hk) trivial (Below.refl _ _) (Nat.le_refl _) (by simp) ?_; (case hd => rfl); (case hg => rfl); (case hr => first | (go_simp; done) | (go_simp; rfl)); (case hp => exact (Reps.none _ _))
   intro v347 w30 ho31 hb hg_ hnew_
   clear hg_ hnew_
   (first | rw [← Ny346.out] at ho31 | (simp only [Int.reduceToNat] at ho31; rw [← Ny346.out] at ho31))
   have n0_ := aM ho31
   have HBa := aM hb
   have n1_ := bB BK334 hb
   have n2_ := aM (Kd.C_below (by repeat (first | (with_reducible exact HR343.out) | (with_reducible refine Kd.C_alloc ?_ _) | (with_reducible refine Kd.C_drewN ?_ _) | (with_reducible refine Kd.C_drew ?_) | exact HR343.out)) hb)
   have n3_ := hS HB hb
   clear BK334
   clear HR343
   clear HB
   have HO348 := n0_
   have BK334 := n1_
   have HR343 := n2_
   have HB := n3_
   clear n0_ n1_ n2_ n3_
   clear hb ho31
   refine hK.out _ _ trivial (fun hHeld => ?_)
   clear hK K
   refine norm_ (a' := ?_) ?_ ?_
   rotate_left
   ·show Act.put _ (some 40) _ = _
    simp only [Act.put, List.setIfInBounds_toArray, List.set_cons_zero, List.set_cons_succ, i64_w, i32_w]
    rfl
   refine one_ (i := 4) (N := some 44) #[true, true, true, true, true, true, true, true, false, false, false] rfl rfl (one_of HT_.out (by kernel_rfl)) (by decide) (fun K hK => ?_)
   refine Kd.R_append_rows_step Kd.string (w0 := w27) w27.heap.size (by rfl) (.tmp 40) (.tmp 43) 24 9 (.string ⟨#[]⟩) 16 rfl Tryd.underlying24 info9 rfl (by decide) (by omega) v347 y346 (y340.drop (x9_1 : Int).toNat) _ _ _ (fun _ => True) (fun _ => False) rfl rfl ?aO ?aR (fun _ _ h => h) (fun _ h => h.elim) ?aF ?aB ?aS ?aL ?_
   (case aR => first | (rw [← show (y340.drop (x9_1 : Int).toNat).length = (y340.length - x9_1.toNat) from List.length_drop]; exact cU (Kd.C_below HR349.out HBa.out)) | (exact cU (Kd.C_below HR349.out HBa.out)))
   (case aB => exact HBa.out)
   (case aF => exact (fun _ _ => trivial))
   (case aO => exact (rU HO348.out))
   (case aS => exact (below_size HBa.out))
   (case aL => have := LMc23.out; have hlx_ := (show (y340.drop (x9_1 : Int).toNat).length = (y340.length - x9_1.toNat) from List.length_drop); omega)
   intro v351 w32 ho hb hg hat
   rw [← Ny350.out] at ho
   have n0_ := aM (blk_grown (g := gb334) (o := .cells #[.slice A0_0 l0_0.length c0_0] 26 (0, 0)) (bU BK334.out) hg (Kd.R_ne HO348.out BK334.out (by decide)))
   have n1_ := aM (below_step HB00.out hb)
   have HBa := aM hb
   have n2_ := aM (ho)
   clear BK334
   clear HB
   clear HO348
   have BK334 := n0_
   have HB := n1_
   have HO352 := n2_
   clear n0_ n1_ n2_
   clear ho hb hg hat
   refine hK.out _ _ trivial (fun hHeld => ?_)
   clear hK K
   refine norm_ (a' := ?_) ?_ ?_
   rotate_left
   ·show Act.put _ (some 44) _ = _
    simp only [Act.put, List.setIfInBounds_toArray, List.set_cons_zero, List.set_cons_succ, i64_w, i32_w]
    rfl
   refine one_ (i := 8) (N := some 48) #[true, true, true, true, true, true, true, true, true, false, false] rfl rfl (one_of HT_.out (by kernel_rfl)) (by decide) (fun K hK => ?_)
   refine Kd.R_append_rows_step Kd.string (w0 := w27) w27.heap.size (by rfl) (.tmp 44) (.tmp 47) 24 9 (.string ⟨#[]⟩) 16 rfl Tryd.underlying24 info9 rfl (by decide) (by omega) v351 y350 (y340.take (x9_1 : Int).toNat) _ _ _ (fun _ => True) (fun _ => False) rfl rfl ?aO ?aR (fun _ _ h => h) (fun _ h => h.elim) ?aF ?aB ?aS ?aL ?_
   (case aR => (have hl_ := (show (y340.take (x9_1 : Int).toNat).length = x9_1.toNat from (by rw [List.length_take]; have h_ : (x9_1 : Int) ≤ (y340.length : Int) := oD; omega)); have hr_ := Kd.C_below HR353.out HBa.out; rw [hl_] at hr_; exact hr_))
   (case aB => exact HBa.out)
   (case aF => exact (fun _ _ => trivial))
   (case aO => exact (rU HO352.out))
   (case aS => exact (below_size HBa.out))
   (case aL => have := LMc26.out; have hlx_ := (show (y340.take (x9_1 : Int).toNat).length = x9_1.toNat from (by rw [List.length_take]; have h_ : (x9_1 : Int) ≤ (y340.length : Int) := oD; omega)); omega)
   intro v355 w33 ho hb hg hat
   rw [← Ny354.out] at ho
   have n0_ := aM (blk_grown (g := gb334) (o := .cells #[.slice A0_0 l0_0.length c0_0] 26 (0, 0)) (bU BK334.out) hg (Kd.R_ne HO352.out BK334.out (by decide)))
   have n1_ := aM (below_step HB00.out hb)
   have HBa := aM hb
   have n2_ := aM (ho)
   clear BK334
   clear HB
   clear HO352
   have BK334 := n0_
   have HB := n1_
   have HO356 := n2_
   clear n0_ n1_ n2_
   clear ho hb hg hat
   refine hK.out _ _ trivial (fun hHeld => ?_)
   clear hK K
   refine norm_ (a' := ?_) ?_ ?_
   rotate_left
   ·show Act.put _ (some 48) _ = _
    simp only [Act.put, List.setIfInBounds_toArray, List.set_cons_zero, List.set_cons_succ, i64_w, i32_w]
    rfl
   refine pure_ (i := 9) (N := some 4) (v := ?_) (a' := ?_) #[true, true, true, true, true, true, true, true, true, true, false] rfl rfl (any_of HT_.out (by kernel_rfl)) (fun _ _ _ h => h) (Or.inl ⟨by rfl, ?_⟩) ?_ ?_
   rotate_left
   ·intro w'
    go_simp
    with_reducible rfl
   rotate_left
   ·simp only [Act.put, List.setIfInBounds_toArray, List.set_cons_zero, List.set_cons_succ, i64_w, i32_w]
    rfl
   refine pure_ (i := 10) (N := some 5) (v := ?_) (a' := ?_) #[true, true, true, true, true, true, true, true, true, true, true] rfl rfl (any_of HT_.out (by kernel_rfl)) (fun _ _ _ h => h) (Or.inl ⟨by rfl, ?_⟩) ?_ ?_
   rotate_left
   ·intro w'
    go_simp
    with_reducible rfl
   rotate_left
   ·simp only [Act.put, List.setIfInBounds_toArray, List.set_cons_zero, List.set_cons_succ, i64_w, i32_w]
    rfl
   refine done_ (done_of HT_.out (by kernel_rfl)) ?_
   try go_wp2
   go_ret2
   exact ⟨_, eW, Kd.R_lower HO356.out (below_size HB00.out), bel HB⟩
 simp only [Option.some.injEq, Prod.mk.injEq] at H
 obtain ⟨rfl, rfl⟩ := H
 go_enter Tryd.func18, Tryd.ntmps18
 go_wp2_with (first | (refine bX (N := 2) rfl (cs := #[.slice A0_0 l0_0.length c0_0]) (t := 26) ?_; intro gb334 hg w34 BK334 hb; have GW334 := gE hg HB; have GE334 := gE hg HB; replace HB := hS HB hb; clear hb hg; obtain ⟨hcz35_0, hfz35_0⟩ := hC1 BK334) | ((with_reducible refine gG 75 (some 14) rfl rfl ?_); refine gC Tryd.func75 (spec_laAsked.calls _ _ l0_0 a1 false _ (cU (Kd.C_below HR0_0.out HB.out)) HC0_0.out A3.out) ?_; rintro w36 hb; replace BK334 := bB BK334 hb; replace HB := hS HB hb; clear hb))
 go_ret2
 exact ⟨_, eW, by first | exact Kd.R_nil _ _ _ _ _ | exact Kd.N_nil _ _ _ _ _ | exact Kd.V_nil _ _ _ _ _ | exact Kd.Q_nil _ _ _ _ _ | exact Kd.S_nil _ _ _ _ _, bel HB⟩

/-! ### impl_LeadOfLamps: function 19 -/
def impl_LeadOfLamps.f (l0_0 : List ByteArray) (a1 : ByteArray) : Option (Int × Int × Bool) := (impl_Lamps_lit.f l0_0 a1).bind fun t358 => (if t358 = true then ((impl_Lamps_course.f l0_0 a1).bind fun bt359 => (some (bt359.2, wrap64 ((bt359.1.length : Int) - bt359.2), true))) else (some (0, 0, false)))
set_option maxHeartbeats 8000000 in
set_option maxRecDepth 100000 in
theorem impl_LeadOfLamps.calls (A0_0 : Option Addr) (c0_0 : Nat) (l0_0 : List ByteArray) (a1 : ByteArray) (r1 : Int) (r2 : Int) (r3 : Bool) (w : World) (hr0_0 : Kd.C Kd.string w A0_0 l0_0.length l0_0) (hc0_0 : l0_0.length ≤ c0_0) (h : impl_LeadOfLamps.f l0_0 a1 = some (r1, r2, r3)) :
  Calls Tryd.prog 19 #[.agg #[.slice A0_0 l0_0.length c0_0], .string a1] w fun e w' => e = .returned (.tuple #[.int .i64 r1, .int .i64 r2, .bool r3]) ∧ Below w.heap.size w w' := by
 have hu26 := Tryd.underlying26
 have HR0_0 := aM hr0_0
 have HC0_0 := aM hc0_0
 clear hr0_0 hc0_0
 have HB := aM (Below.refl w.heap.size w)
 have H := h
 clear h; unfold impl_LeadOfLamps.f at H
 replace H := bC H; obtain ⟨t358, A3, H⟩ := H
 refine iB H ?_ ?_ <;> clear H <;> rintro rfl H
 ·replace H := bC H; obtain ⟨⟨t359, t362⟩, A5, H⟩ := H; try dsimp only at H
  simp only [Option.some.injEq, Prod.mk.injEq] at H
  obtain ⟨rfl, rfl, rfl⟩ := H
  go_enter Tryd.func19, Tryd.ntmps19
  go_wp2_with (first | (refine bX (N := 2) rfl (cs := #[.slice A0_0 l0_0.length c0_0]) (t := 26) ?_; intro gb357 hg w6 BK357 hb; have GW357 := gE hg HB; have GE357 := gE hg HB; replace HB := hS HB hb; clear hb hg; obtain ⟨hcz7_0, hfz7_0⟩ := hC1 BK357) | ((with_reducible refine gG 71 (some 11) rfl rfl ?_); refine gC Tryd.func71 (impl_Lamps_lit.calls _ _ l0_0 a1 true _ (cU (Kd.C_below HR0_0.out HB.out)) HC0_0.out A3.out) ?_; rintro w8 hb; replace BK357 := bB BK357 hb; replace HB := hS HB hb; clear hb; obtain ⟨hcz9_0, hfz9_0⟩ := hC1 BK357) | ((with_reducible refine gG 73 (some 16) rfl rfl ?_); refine gD Tryd.func73 (impl_Lamps_course.calls _ _ l0_0 a1 t359 t362 _ (cU (Kd.C_below HR0_0.out HB.out)) HC0_0.out A5.out) ?_; rintro w10 v360 ⟨ho0, hb⟩; have HO361 := rL ho0 HB; replace BK357 := bB BK357 hb; replace HB := hS HB hb; clear hb ho0; obtain ⟨Ao11, co11, eo11⟩ := Kd.R_slice HO361.out; subst eo11))
  go_ret3
  exact ⟨eW, bel HB⟩
 simp only [Option.some.injEq, Prod.mk.injEq] at H
 obtain ⟨rfl, rfl, rfl⟩ := H
 go_enter Tryd.func19, Tryd.ntmps19
 go_wp2_with (first | (refine bX (N := 2) rfl (cs := #[.slice A0_0 l0_0.length c0_0]) (t := 26) ?_; intro gb357 hg w12 BK357 hb; have GW357 := gE hg HB; have GE357 := gE hg HB; replace HB := hS HB hb; clear hb hg; obtain ⟨hcz13_0, hfz13_0⟩ := hC1 BK357) | ((with_reducible refine gG 71 (some 11) rfl rfl ?_); refine gC Tryd.func71 (impl_Lamps_lit.calls _ _ l0_0 a1 false _ (cU (Kd.C_below HR0_0.out HB.out)) HC0_0.out A3.out) ?_; rintro w14 hb; replace BK357 := bB BK357 hb; replace HB := hS HB hb; clear hb))
 go_ret3
 exact ⟨eW, bel HB⟩

/-! ### spec_LeadOfLamps: function 20 -/
def spec_LeadOfLamps.f (k : Nat) (l0_0 : List ByteArray) (a1 : ByteArray) : Option (Int × Int × Bool) := (spec_laAsked.f l0_0 a1).bind fun t364 => (if t364 = true then ((spec_laPath.f k l0_0 a1).bind fun bt365 => (some (bt365.2, wrap64 ((bt365.1.length : Int) - bt365.2), true))) else (some (0, 0, false)))
instance spec_LeadOfLamps.mI (k : Nat) : Mo (spec_LeadOfLamps.f k) (spec_LeadOfLamps.f (k + 1)) := by
 (repeat refine mE fun _ => ?_); unfold spec_LeadOfLamps.f; exact mG
theorem spec_LeadOfLamps.mono : ∀ a0 a1 k, LeO (spec_LeadOfLamps.f k a0 a1) (spec_LeadOfLamps.f (k + 1) a0 a1) := fun a0 a1 k => (spec_LeadOfLamps.mI k).out a0 a1
set_option maxHeartbeats 8000000 in
set_option maxRecDepth 100000 in
theorem spec_LeadOfLamps.calls (k : Nat) (A0_0 : Option Addr) (c0_0 : Nat) (l0_0 : List ByteArray) (a1 : ByteArray) (r1 : Int) (r2 : Int) (r3 : Bool) (w : World) (hr0_0 : Kd.C Kd.string w A0_0 l0_0.length l0_0) (hc0_0 : l0_0.length ≤ c0_0) (h : spec_LeadOfLamps.f k l0_0 a1 = some (r1, r2, r3)) :
  Calls Tryd.prog 20 #[.agg #[.slice A0_0 l0_0.length c0_0], .string a1] w fun e w' => e = .returned (.tuple #[.int .i64 r1, .int .i64 r2, .bool r3]) ∧ Below w.heap.size w w' := by
 have hu26 := Tryd.underlying26
 have HR0_0 := aM hr0_0
 have HC0_0 := aM hc0_0
 clear hr0_0 hc0_0
 have HB := aM (Below.refl w.heap.size w)
 have H := h
 clear h; unfold spec_LeadOfLamps.f at H
 replace H := bC H; obtain ⟨t364, A3, H⟩ := H
 refine iB H ?_ ?_ <;> clear H <;> rintro rfl H
 ·replace H := bC H; obtain ⟨⟨t365, t368⟩, A5, H⟩ := H; try dsimp only at H
  simp only [Option.some.injEq, Prod.mk.injEq] at H
  obtain ⟨rfl, rfl, rfl⟩ := H
  go_enter Tryd.func20, Tryd.ntmps20
  go_wp2_with (first | (refine bX (N := 2) rfl (cs := #[.slice A0_0 l0_0.length c0_0]) (t := 26) ?_; intro gb363 hg w6 BK363 hb; have GW363 := gE hg HB; have GE363 := gE hg HB; replace HB := hS HB hb; clear hb hg; obtain ⟨hcz7_0, hfz7_0⟩ := hC1 BK363) | ((with_reducible refine gG 75 (some 11) rfl rfl ?_); refine gC Tryd.func75 (spec_laAsked.calls _ _ l0_0 a1 true _ (cU (Kd.C_below HR0_0.out HB.out)) HC0_0.out A3.out) ?_; rintro w8 hb; replace BK363 := bB BK363 hb; replace HB := hS HB hb; clear hb; obtain ⟨hcz9_0, hfz9_0⟩ := hC1 BK363) | ((with_reducible refine gG 77 (some 16) rfl rfl ?_); refine gD Tryd.func77 (spec_laPath.calls k _ _ l0_0 a1 t365 t368 _ (cU (Kd.C_below HR0_0.out HB.out)) HC0_0.out A5.out) ?_; rintro w10 v366 ⟨ho0, hb⟩; have HO367 := rL ho0 HB; replace BK363 := bB BK363 hb; replace HB := hS HB hb; clear hb ho0; obtain ⟨Ao11, co11, eo11⟩ := Kd.R_slice HO367.out; subst eo11))
  go_ret3
  exact ⟨eW, bel HB⟩
 simp only [Option.some.injEq, Prod.mk.injEq] at H
 obtain ⟨rfl, rfl, rfl⟩ := H
 go_enter Tryd.func20, Tryd.ntmps20
 go_wp2_with (first | (refine bX (N := 2) rfl (cs := #[.slice A0_0 l0_0.length c0_0]) (t := 26) ?_; intro gb363 hg w12 BK363 hb; have GW363 := gE hg HB; have GE363 := gE hg HB; replace HB := hS HB hb; clear hb hg; obtain ⟨hcz13_0, hfz13_0⟩ := hC1 BK363) | ((with_reducible refine gG 75 (some 11) rfl rfl ?_); refine gC Tryd.func75 (spec_laAsked.calls _ _ l0_0 a1 false _ (cU (Kd.C_below HR0_0.out HB.out)) HC0_0.out A3.out) ?_; rintro w14 hb; replace BK363 := bB BK363 hb; replace HB := hS HB hb; clear hb))
 go_ret3
 exact ⟨eW, bel HB⟩

/-! ### spec_TickOnce: function 21 -/
def spec_TickOnce.f (l0_0 : List ByteArray) (a1 : ByteArray) : Option (ByteArray × Bool) := (spec_laAsked.f l0_0 a1).bind fun t370 => (if t370 = true then ((spec_laTick.f l0_0 a1).bind fun t371 => (some (t371, true))) else (some ((⟨#[]⟩ : ByteArray), false)))
set_option maxHeartbeats 8000000 in
set_option maxRecDepth 100000 in
theorem spec_TickOnce.calls (A0_0 : Option Addr) (c0_0 : Nat) (l0_0 : List ByteArray) (a1 : ByteArray) (r1 : ByteArray) (r2 : Bool) (w : World) (hr0_0 : Kd.C Kd.string w A0_0 l0_0.length l0_0) (hc0_0 : l0_0.length ≤ c0_0) (h : spec_TickOnce.f l0_0 a1 = some (r1, r2)) :
  Calls Tryd.prog 21 #[.agg #[.slice A0_0 l0_0.length c0_0], .string a1] w fun e w' => e = .returned (.tuple #[.string r1, .bool r2]) ∧ Below w.heap.size w w' := by
 have hu26 := Tryd.underlying26
 have HR0_0 := aM hr0_0
 have HC0_0 := aM hc0_0
 clear hr0_0 hc0_0
 have HB := aM (Below.refl w.heap.size w)
 have H := h
 clear h; unfold spec_TickOnce.f at H
 replace H := bC H; obtain ⟨t370, A3, H⟩ := H
 refine iB H ?_ ?_ <;> clear H <;> rintro rfl H
 ·replace H := bC H; obtain ⟨t371, A5, H⟩ := H
  simp only [Option.some.injEq, Prod.mk.injEq] at H
  obtain ⟨rfl, rfl⟩ := H
  go_enter Tryd.func21, Tryd.ntmps21
  go_wp2_with (first | (refine bX (N := 2) rfl (cs := #[.slice A0_0 l0_0.length c0_0]) (t := 26) ?_; intro gb369 hg w6 BK369 hb; have GW369 := gE hg HB; have GE369 := gE hg HB; replace HB := hS HB hb; clear hb hg; obtain ⟨hcz7_0, hfz7_0⟩ := hC1 BK369) | ((with_reducible refine gG 75 (some 8) rfl rfl ?_); refine gC Tryd.func75 (spec_laAsked.calls _ _ l0_0 a1 true _ (cU (Kd.C_below HR0_0.out HB.out)) HC0_0.out A3.out) ?_; rintro w8 hb; replace BK369 := bB BK369 hb; replace HB := hS HB hb; clear hb; obtain ⟨hcz9_0, hfz9_0⟩ := hC1 BK369) | ((with_reducible refine gG 90 (some 12) rfl rfl ?_); refine gC Tryd.func90 (spec_laTick.calls _ _ l0_0 a1 t371 _ (cU (Kd.C_below HR0_0.out HB.out)) HC0_0.out A5.out) ?_; rintro w10 hb; replace BK369 := bB BK369 hb; replace HB := hS HB hb; clear hb))
  go_ret2
  exact ⟨eW, bel HB⟩
 simp only [Option.some.injEq, Prod.mk.injEq] at H
 obtain ⟨rfl, rfl⟩ := H
 go_enter Tryd.func21, Tryd.ntmps21
 go_wp2_with (first | (refine bX (N := 2) rfl (cs := #[.slice A0_0 l0_0.length c0_0]) (t := 26) ?_; intro gb369 hg w11 BK369 hb; have GW369 := gE hg HB; have GE369 := gE hg HB; replace HB := hS HB hb; clear hb hg; obtain ⟨hcz12_0, hfz12_0⟩ := hC1 BK369) | ((with_reducible refine gG 75 (some 8) rfl rfl ?_); refine gC Tryd.func75 (spec_laAsked.calls _ _ l0_0 a1 false _ (cU (Kd.C_below HR0_0.out HB.out)) HC0_0.out A3.out) ?_; rintro w13 hb; replace BK369 := bB BK369 hb; replace HB := hS HB hb; clear hb))
 go_ret2
 exact ⟨eW, bel HB⟩

/-! ### spec_l1Least: function 92 -/
def spec_l1Least.f (a0 : Int) (a1 : Int) : Option (Int) := if a0 < a1 then (some a0) else (some a1)
set_option maxHeartbeats 8000000 in
set_option maxRecDepth 100000 in
theorem spec_l1Least.calls (a0 : Int) (a1 : Int) (r : Int) (w : World) (h : spec_l1Least.f a0 a1 = some r) :
  Calls Tryd.prog 92 #[.int .i64 a0, .int .i64 a1] w fun e w' => e = .returned (.int .i64 r) ∧ Drawn0 w w' := by
 have H := h
 clear h; unfold spec_l1Least.f at H
 refine iI H ?_ ?_ <;> clear H <;> intro c3 H
 ·have c3b0 := dT c3
  clear c3
  obtain rfl := Option.some.inj H
  go_enter Tryd.func92, Tryd.ntmps92
  go_wp2
  go_ret
  exact ⟨rF, d0⟩
 have c3b0 := dF c3
 clear c3
 obtain rfl := Option.some.inj H
 go_enter Tryd.func92, Tryd.ntmps92
 go_wp2
 go_ret
 exact ⟨rF, d0⟩

/-! ### spec_l1Most: function 93 -/
def spec_l1Most.f (a0 : Int) (a1 : Int) : Option (Int) := if a0 > a1 then (some a0) else (some a1)
set_option maxHeartbeats 8000000 in
set_option maxRecDepth 100000 in
theorem spec_l1Most.calls (a0 : Int) (a1 : Int) (r : Int) (w : World) (h : spec_l1Most.f a0 a1 = some r) :
  Calls Tryd.prog 93 #[.int .i64 a0, .int .i64 a1] w fun e w' => e = .returned (.int .i64 r) ∧ Drawn0 w w' := by
 have H := h
 clear h; unfold spec_l1Most.f at H
 refine iI H ?_ ?_ <;> clear H <;> intro c3 H
 ·have c3b0 := gT c3
  clear c3
  obtain rfl := Option.some.inj H
  go_enter Tryd.func93, Tryd.ntmps93
  go_wp2
  go_ret
  exact ⟨rF, d0⟩
 have c3b0 := gF c3
 clear c3
 obtain rfl := Option.some.inj H
 go_enter Tryd.func93, Tryd.ntmps93
 go_wp2
 go_ret
 exact ⟨rF, d0⟩

end Go.Proofs.YtiiahdjjngdgoaaDoor.PLTick
