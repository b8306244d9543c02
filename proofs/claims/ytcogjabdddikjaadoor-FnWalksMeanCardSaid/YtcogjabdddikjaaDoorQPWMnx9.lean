-- squeezed (sq3.py); PRINTED by drive.py (a program of this session's, over the kit's print.py; wip/tools/drive.py). Lean checks it.
import Derived.Test.YtcogjabdddikjaaDoorQPWMnx0
import Derived.Test.YtcogjabdddikjaaDoorQPWMnx2
import Derived.Test.YtcogjabdddikjaaDoorQPWMnx4
import Derived.Test.YtcogjabdddikjaaDoorQPWMnx6
import Derived.Test.YtcogjabdddikjaaDoorQPWMnx7
import Derived.Test.YtcogjabdddikjaaDoorQPWMnx8
import Derived.Test.YtcogjabdddikjaaDoorQSq
namespace Go.Proofs.YtcogjabdddikjaaDoor.PWMn
open Go.RowKit Go.Proofs.YtcogjabdddikjaaDoorW.PrintWords Go.Proofs.YtcogjabdddikjaaDoorW.PrintLast Go.Proofs.YtcogjabdddikjaaDoorW.PrintMore
attribute [local go_sem] max2_int min2_int max_two min_two max_three min_three max_four min_four   -- for this text's walks alone
set_option linter.unusedVariables false
set_option linter.unusedSimpArgs false

/-! ### spec_LikeliestAfter: function 47 -/
mutual
def spec_LikeliestAfter.l0 : Nat → ByteArray → List Int → Int → List Int → Int → Int → Option (List ByteArray × Bool)
 | 0, _, _, _, _, _, _ => none
 | k + 1, x0, x6, x7, x26, x27, x28 => if x28 < x27 then (if 0 ≤ x28 then (if x28 < (x26.length : Int) then ((spec_l1Most.f x7 (rd x26 x28)).bind fun t344 => (spec_LikeliestAfter.l0 k x0 x6 t344 x26 x27 (wrap64 (x28 + 1)))) else (none)) else (none)) else (spec_LikeliestAfter.l1 k x0 x7 ([] : List ByteArray) x6 (x6.length : Int) 0)
def spec_LikeliestAfter.l1 : Nat → ByteArray → Int → List ByteArray → List Int → Int → Int → Option (List ByteArray × Bool)
 | 0, _, _, _, _, _, _ => none
 | k + 1, x0, x7, x10, x36, x37, x38 => if x38 < x37 then (if 0 ≤ x38 then (if x38 < (x36.length : Int) then (if (rd x36 x38) = x7 then ((spec_riState.f k (x0.size : Int) x38).bind fun t346 => (if x10.length < 8796093022208 then (spec_LikeliestAfter.l1 k x0 x7 (x10 ++ [t346]) x36 x37 (wrap64 (x38 + 1))) else (none))) else (spec_LikeliestAfter.l1 k x0 x7 x10 x36 x37 (wrap64 (x38 + 1)))) else (none)) else (none)) else (some (x10, true))
end
def spec_LikeliestAfter.f (k : Nat) (a0 : ByteArray) (a1 : Int) : Option (List ByteArray × Bool) := (spec_waSmall.f k a0 a0 a1).bind fun t338 => (if t338 = true then ((spec_riNumber.f k a0).bind fun t339 => ((spec_waChances.f k t339 (wrap64 ((shl .i64 1 (a0.size : Int)) - 1)) a1).bind fun t340 => (spec_LikeliestAfter.l0 k a0 t340 0 t340 (t340.length : Int) 0))) else (some (([] : List ByteArray), false)))
theorem spec_LikeliestAfter.mono_l : ∀ k, Mo (spec_LikeliestAfter.l0 k) (spec_LikeliestAfter.l0 (k + 1)) ∧ Mo (spec_LikeliestAfter.l1 k) (spec_LikeliestAfter.l1 (k + 1))
 | 0 => m0
 | k + 1 => by
  have ⟨ih0, ih1⟩ := spec_LikeliestAfter.mono_l k
  refine ⟨?_, ?_⟩ <;> (repeat refine mE fun _ => ?_) <;> first | (unfold spec_LikeliestAfter.l0; exact mG) | (unfold spec_LikeliestAfter.l1; exact mG)
instance spec_LikeliestAfter.mI (k : Nat) : Mo (spec_LikeliestAfter.f k) (spec_LikeliestAfter.f (k + 1)) := by
 have ⟨ih0, ih1⟩ := spec_LikeliestAfter.mono_l k
 (repeat refine mE fun _ => ?_); unfold spec_LikeliestAfter.f; exact mG
theorem spec_LikeliestAfter.mono : ∀ a0 a1 k, LeO (spec_LikeliestAfter.f k a0 a1) (spec_LikeliestAfter.f (k + 1) a0 a1) := fun a0 a1 k => (spec_LikeliestAfter.mI k).out a0 a1
def spec_LikeliestAfter.T3 : Bool × List (List Nat × List Nat) := (true, [([], []), ([0], [0]), ([], []), ([2], [2]), ([3], [3]), ([4], [4]), ([], []), ([1, 5, 6, 1], [1, 5, 6]), ([7, 7, 0, 1, 2, 3, 4, 5, 6, 7], [7])])
def spec_LikeliestAfter.B3 : List Nat := [0, 1, 0, 4, 12, 28, 0, 127, 255]
theorem spec_LikeliestAfter.tab3 : rtab .any (opsOf Tryd.f47 3) = spec_LikeliestAfter.T3 := by kernel_rfl
theorem spec_LikeliestAfter.bits3 : waitsOk spec_LikeliestAfter.T3.2 spec_LikeliestAfter.B3 = true := by kernel_rfl
set_option maxHeartbeats 8000000 in
set_option maxRecDepth 100000 in
theorem spec_LikeliestAfter.calls (k : Nat) (a0 : ByteArray) (a1 : Int) (r1 : List ByteArray) (r2 : Bool) (w : World) (h : spec_LikeliestAfter.f k a0 a1 = some (r1, r2)) :
  Calls Tryd.prog 47 #[.string a0, .int .i64 a1] w fun e w' => ∃ v0_ : Value, e = .returned (.tuple #[v0_, .bool r2]) ∧ Kd.R Kd.string 9 w' w.heap.size (fun _ => True) v0_ r1 ∧ Below w.heap.size w w' := by
 have HB := aM (Below.refl w.heap.size w)
 have H := h
 clear h; unfold spec_LikeliestAfter.f at H
 replace H := bC H; obtain ⟨t338, A3, H⟩ := H
 refine iB H ?_ ?_ <;> clear H <;> rintro rfl H
 ·replace H := bC H; obtain ⟨t339, A5, H⟩ := H
  obtain ⟨ji6, hji6⟩ := jN (shl .i64 1 (a0.size : Int))
  first | rw [hji6] at H | simp only [hji6] at H
  (try rw [hji6] at A3)
  (try rw [hji6] at A5)
  have hji6_ : (IntKind.i64.wrap (1 * 2 ^ min (a0.size : Int).toNat 64)) = ji6 := hji6
  have hji6z : (a0.size : Int) ≤ 64 → (IntKind.i64.wrap (1 * 2 ^ (a0.size : Int).toNat)) = ji6 := shl_small hji6
  have hji6u : (IntKind.i64.wrap (2 ^ min (a0.size : Int).toNat 64)) = ji6 := by have h_ := hji6_; rw [Int.one_mul] at h_; exact h_
  have hji6v : (a0.size : Int) ≤ 64 → (IntKind.i64.wrap (2 ^ (a0.size : Int).toNat)) = ji6 := fun hle_ => by have h_ := hji6z hle_; rw [Int.one_mul] at h_; exact h_
  have hji6y : (wrap64 (1 * 2 ^ min (a0.size : Int).toNat 64)) = ji6 := (i64_w _).symm.trans hji6_
  have hji6q : wrap64 (2 ^ min a0.size 64) = ji6 := by have h_ := hji6y; rw [Int.one_mul, Int.toNat_natCast] at h_; exact h_
  have hji6p : IntKind.i64.wrap (2 ^ min a0.size 64) = ji6 := by have h_ := hji6u; rw [Int.toNat_natCast] at h_; exact h_
  have hji6x : (a0.size : Int) ≤ 64 → (wrap64 (1 * 2 ^ (a0.size : Int).toNat)) = ji6 := fun h_ => (i64_w _).symm.trans (hji6z h_)
  replace H := bC H; obtain ⟨t340, A7, H⟩ := H
  have H' := aM H
  clear H
  go_enter Tryd.func47, Tryd.ntmps47
  try go_wp2_with (first | ((with_reducible refine gG 106 (some 16) rfl rfl ?_); refine gL Tryd.func106 #[.string a0, .string a0, .int .i64 a1] ?_; (with_reducible refine (spec_waSmall.calls k a0 a0 a1 true _ A3.out).mono ?_); rintro e wD ⟨rfl, hdr_⟩; have HB1_ := aM (below_step HB.out (Drawn0.below hdr_)); clear HB; have HB := HB1_; clear HB1_ hdr_; refine ⟨_, rfl, ?_⟩))
  have n0_ := aM (below_drew1 HB.out)
  clear HB
  have HB := n0_
  clear n0_
  refine start_ (n := 9) (S := fun w' => True) (ds := []) #[false, false, false, false, false, false, false, false, false] (by kernel_rfl) rfl rfl trivial (fun hHeld => ?_); refine with_tabW spec_LikeliestAfter.tab3 spec_LikeliestAfter.bits3 (fun HT_ HW_ => ?_)
  generalize wD.drew = w8 at HB hHeld ⊢
  refine pure_ (i := 0) (N := some 18) (v := ?_) (a' := ?_) #[true, false, false, false, false, false, false, false, false] rfl rfl (any_of HT_.out (by kernel_rfl)) (fun _ _ _ h => h) (Or.inl ⟨by rfl, ?_⟩) ?_ ?_
  rotate_left
  ·intro w'
   go_simp
   with_reducible rfl
  rotate_left
  ·simp only [Act.put, List.setIfInBounds_toArray, List.set_cons_zero, List.set_cons_succ, i64_w, i32_w]
   rfl
  refine pure_ (i := 2) (N := some 20) (v := ?_) (a' := ?_) #[true, false, true, false, false, false, false, false, false] rfl rfl (any_of HT_.out (by kernel_rfl)) (fun _ _ _ h => h) (Or.inl ⟨by rfl, ?_⟩) ?_ ?_
  rotate_left
  ·intro w'
   go_simp
   with_reducible rfl
  rotate_left
  ·simp only [Act.put, List.setIfInBounds_toArray, List.set_cons_zero, List.set_cons_succ, i64_w, i32_w]
   rfl
  refine pure_ (i := 3) (N := some 21) (v := ?_) (a' := ?_) #[true, false, true, true, false, false, false, false, false] rfl rfl (any_of HT_.out (by kernel_rfl)) (fun _ _ _ h => h) (Or.inl ⟨by rfl, ?_⟩) ?_ ?_
  rotate_left
  ·intro w'
   go_simp
   with_reducible rfl
  rotate_left
  ·simp only [Act.put, List.setIfInBounds_toArray, List.set_cons_zero, List.set_cons_succ, i64_w, i32_w]
   rfl
  refine pure_ (i := 4) (N := some 22) (v := ?_) (a' := ?_) #[true, false, true, true, true, false, false, false, false] rfl rfl (any_of HT_.out (by kernel_rfl)) (fun _ _ _ h => h) (Or.inl ⟨by rfl, ?_⟩) ?_ ?_
  rotate_left
  ·intro w'
   go_simp
   with_reducible rfl
  rotate_left
  ·simp only [Act.put, List.setIfInBounds_toArray, List.set_cons_zero, List.set_cons_succ, i64_w, i32_w]
   rfl
  refine pure_ (i := 5) (N := some 23) (v := ?_) (a' := ?_) #[true, false, true, true, true, true, false, false, false] rfl rfl (any_of HT_.out (by kernel_rfl)) (fun _ _ _ h => h) (Or.inl ⟨by rfl, ?_⟩) ?_ ?_
  rotate_left
  ·intro w'
   go_simp
   with_reducible rfl
  rotate_left
  ·simp only [Act.put, List.setIfInBounds_toArray, List.set_cons_zero, List.set_cons_succ, i64_w, i32_w]
   rfl
  refine pure_ (i := 6) (N := some 24) (v := ?_) (a' := ?_) #[true, false, true, true, true, true, true, false, false] rfl rfl (any_of HT_.out (by kernel_rfl)) (fun _ _ _ h => h) (Or.inl ⟨by rfl, ?_⟩) ?_ ?_
  rotate_left
  ·intro w'
   go_simp
   with_reducible rfl
  rotate_left
  ·simp only [Act.put, List.setIfInBounds_toArray, List.set_cons_zero, List.set_cons_succ, i64_w, i32_w]
   rfl
  refine one_ (i := 1) (N := some 19) #[true, true, true, true, true, true, true, false, false] rfl rfl (one_of HT_.out (by kernel_rfl)) (by decide) (fun K hK => ?_)
  refine goes_ Tryd.func98 (by kernel_rfl) rfl #[.string a0] (by rfl) rfl rfl (by (try simp only [List.map_toArray, List.map_cons, List.map_nil]); first | done | rfl | (simp only [List.length_drop, List.length_take]; rfl)) ?_
  with_reducible refine (spec_riNumber.calls k a0 t339 _ A5.out).mono ?_
  rintro e w' ⟨rfl, ⟨nd, rfl⟩⟩
  refine ⟨_, rfl, ?_⟩
  refine hK.out _ _ trivial (fun hHeld => ?_)
  clear hK K
  refine norm_ (a' := ?_) ?_ ?_
  rotate_left
  ·show Act.put _ (some 19) _ = _
   simp only [Act.put, List.setIfInBounds_toArray, List.set_cons_zero, List.set_cons_succ, i64_w, i32_w]
   rfl
  refine one_ (i := 7) (N := some 25) #[true, true, true, true, true, true, true, true, false] rfl rfl (one_of HT_.out (by kernel_rfl)) (by decide) (fun K hK => ?_)
  refine goes_ Tryd.func108 (by kernel_rfl) rfl #[.int .i64 t339, .int .i64 (wrap64 ((ji6) - 1)), .int .i64 a1] (by rfl) rfl rfl (by (try simp only [List.map_toArray, List.map_cons, List.map_nil]); first | done | (simp only [hji6]; rfl) | rfl | (simp only [List.length_drop, List.length_take]; rfl)) ?_
  with_reducible refine (spec_waChances.calls k t339 (wrap64 ((ji6) - 1)) a1 t340 _ A7.out).mono ?_
  rintro e w9 ⟨v341, rfl, ho0, hb⟩
  refine ⟨_, rfl, ?_⟩
  have n0_ := rL ho0 HB
  have n1_ := hS HB hb
  clear HB
  have HO342 := n0_
  have HB := n1_
  clear n0_ n1_
  (try clear hb)
  (try clear hb2)
  (try clear hk)
  (try clear hi)
  (try clear ho0)
  refine hK.out _ _ trivial (fun hHeld => ?_)
  clear hK K
  refine norm_ (a' := ?_) ?_ ?_
  rotate_left
  ·show Act.put _ (some 25) _ = _
   simp only [Act.put, List.setIfInBounds_toArray, List.set_cons_zero, List.set_cons_succ, i64_w, i32_w]
   rfl
  refine pure_ (i := 8) (N := some 6) (v := ?_) (a' := ?_) #[true, true, true, true, true, true, true, true, true] rfl rfl (any_of HT_.out (by kernel_rfl)) (fun _ _ _ h => h) (Or.inl ⟨by rfl, ?_⟩) ?_ ?_
  rotate_left
  ·intro w'
   go_simp
   with_reducible rfl
  rotate_left
  ·simp only [Act.put, List.setIfInBounds_toArray, List.set_cons_zero, List.set_cons_succ, i64_w, i32_w]
   rfl
  refine done_ (done_of HT_.out (by kernel_rfl)) ?_
  obtain ⟨Ao10, co10, eo10⟩ := Kd.R_slice HO342.out
  subst eo10
  try go_wp2
  go_loopg [7, 28] k (fun kq v7 v28 w' => ∃ (x7_1 : Int) (x28_1 : Int), v7 = .int .i64 x7_1 ∧ v28 = .int .i64 x28_1 ∧ Aside0 (spec_LikeliestAfter.l0 kq a0 t340 x7_1 t340 (t340.length : Int) x28_1 = some (r1, r2)) ∧ Aside0 (kq ≤ k) ∧ Aside0 (Kd.R (Kd.int .i64) 3 w' w.heap.size (fun _ => True) (.slice Ao10 t340.length co10) t340) ∧ Aside0 (Kd.R (Kd.int .i64) 3 w' w.heap.size (fun _ => True) (.slice Ao10 t340.length co10) t340) ∧ Aside0 (Below w.heap.size w w'))
  case atStart => exact ⟨(0), (0), rF, rF, H', kR, ⟨rU HO342.out⟩, ⟨rU HO342.out⟩, hV HB⟩
  case round =>
   clear H'
   obtain ⟨x7_1, x28_1, rfl, rfl, HA, HK1, HO_6, HO_26, HB⟩ := hrel
   obtain rfl | ⟨k1, rfl⟩ := fz gk
   ·exact zA HA
   have H := HA.out
   clear HA
   simp only [spec_LikeliestAfter.l0] at H
   refine iI H ?_ ?_ <;> clear H <;> intro c11 H
   ·have c11b0 := dT c11
    clear c11
    refine iY H ?_; clear H; intro c12 H
    have c12b0 := dT c12
    clear c12
    refine iY H ?_; clear H; intro c13 H
    have c13b0 := dT c13
    clear c13
    replace H := bC H; obtain ⟨t344, A14, H⟩ := H
    have H' := aM H
    clear H
    have p343 : 0 ≤ (x28_1 : Int) := oD
    have q343 : x28_1 < (t340.length : Int) := oD
    obtain ⟨ad343, e343, hx343_0⟩ := Kd.at_int (Kd.R_reads' HO_26.out).2.2 x28_1 p343 q343
    cases e343
    replace p343 := eq_true p343
    replace q343 := eq_true q343
    go_wp2_with (first | ((with_reducible refine gG 90 (some 34) rfl rfl ?_); refine gL Tryd.func90 #[.int .i64 x7_1, .int .i64 (rd t340 x28_1)] ?_; (with_reducible refine (spec_l1Most.calls x7_1 (rd t340 x28_1) t344 _ A14.out).mono ?_); rintro e w' ⟨rfl, ⟨nd, rfl⟩⟩; refine ⟨_, rfl, ?_⟩))
    go_roundg k1
    case measure => have := HK1.out; omega
    case rel => exact ⟨(t344), (wrap64 (x28_1 + 1)), rF, rF, H', ⟨by have := HK1.out; omega⟩, ⟨rU HO_6.out⟩, ⟨rU HO_26.out⟩, hV HB⟩
   have c11b0 := dF c11
   clear c11
   have H' := aM H
   clear H
   go_wp2
   go_loopg [10, 38] k1 (fun kq v10 v38 w' => ∃ (x10_2 : List ByteArray) (x38_2 : Int), v38 = .int .i64 x38_2 ∧ Aside0 (spec_LikeliestAfter.l1 kq a0 x7_1 x10_2 t340 (t340.length : Int) x38_2 = some (r1, r2)) ∧ Aside0 (kq ≤ k1) ∧ Aside0 (Kd.R Kd.string 9 w' w.heap.size (fun _ => True) v10 x10_2) ∧ Aside0 (Kd.R (Kd.int .i64) 3 w' w.heap.size (fun _ => True) (.slice Ao10 t340.length co10) t340) ∧ Aside0 (Below w.heap.size w w'))
   case atStart => exact ⟨(([] : List ByteArray)), (0), rF, H', kR, ⟨by first | exact Kd.R_nil _ _ _ _ _ | exact Kd.N_nil _ _ _ _ _ | exact Kd.V_nil _ _ _ _ _ | exact Kd.Q_nil _ _ _ _ _ | exact Kd.S_nil _ _ _ _ _⟩, ⟨rU HO_6.out⟩, hV HB⟩
   case round =>
    clear H'
    try clear c11b0
    obtain ⟨x10_2, x38_2, rfl, HA, HK2, HO_10, HO_36, HB⟩ := hrel
    obtain rfl | ⟨k2, rfl⟩ := fz gk
    ·exact zA HA
    have H := HA.out
    clear HA
    simp only [spec_LikeliestAfter.l1] at H
    refine iI H ?_ ?_ <;> clear H <;> intro c15 H
    ·have c15b0 := dT c15
     clear c15
     refine iY H ?_; clear H; intro c16 H
     have c16b0 := dT c16
     clear c16
     refine iY H ?_; clear H; intro c17 H
     have c17b0 := dT c17
     clear c17
     refine iI H ?_ ?_ <;> clear H <;> intro c18 H
     ·have c18b0 := qT c18
      have c18b1 := nF c18
      clear c18
      replace H := bC H; obtain ⟨t346, A19, H⟩ := H
      refine iY H ?_; clear H; intro c20 H
      have LMc20 := aM c20
      clear c20
      obtain ⟨y347, Ny347⟩ := yN (x10_2 ++ [t346] : List ByteArray); rw [← Ny347.out] at H
      have H' := aM H
      clear H
      have p345 : 0 ≤ (x38_2 : Int) := oD
      have q345 : x38_2 < (t340.length : Int) := oD
      obtain ⟨ad345, e345, hx345_0⟩ := Kd.at_int (Kd.R_reads' HO_36.out).2.2 x38_2 p345 q345
      cases e345
      replace p345 := eq_true p345
      replace q345 := eq_true q345
      go_wp2_with (first | ((with_reducible refine gG 74 (some 50) rfl rfl ?_); refine gL Tryd.func74 #[.int .i64 (a0.size : Int), .int .i64 x38_2] ?_; (with_reducible refine (spec_riState.calls k2 (a0.size : Int) x38_2 t346 _ A19.out).mono ?_); rintro e w' ⟨rfl, ⟨nd, rfl⟩⟩; refine ⟨_, rfl, ?_⟩) | ((with_reducible refine gate_builtin (b := .append) (xs := #[.tmp 46, .tmp 51]) rfl ?_); at_builtin; refine Kd.R_append Kd.string (w0 := w) w.heap.size rfl (.tmp 46) (.tmp 51) 26 9 (.string ⟨#[]⟩) 16 rfl Tryd.underlying26 info9 rfl (by decide) (by omega) u10 x10_2 t346 [.string t346] (fun _ => True) (fun _ => False) rfl rfl ?aP (fun _ hk => hk.elim) ?aF ?aO ?aB ?aS ?aL ?_; (case aP => exact rfl); (case aB => exact (bel HB)); (case aF => exact (fun _ _ => trivial)); (case aO => exact (rU HO_10.out)); (case aS => exact (below_size (bel HB))); (case aL => have := LMc20.out; omega); intro v348 w21 ho hb hg hat; rw [← Ny347.out] at ho; have HO349 := aM (ho); replace HO_36 := aM (Kd.R_over' (rU HO_36.out) (Kd.R_typed (rU HO_10.out)) (by decide) hg); replace HB := aM (hb); clear HO_10; clear ho hb hg hat))
      go_roundg k2
      case measure => have := HK1.out; have := HK2.out; omega
      case rel => exact ⟨(y347), (wrap64 (x38_2 + 1)), rF, H', ⟨by have := HK1.out; have := HK2.out; omega⟩, ⟨rU HO349.out⟩, ⟨rU HO_36.out⟩, hV HB⟩
     have c18b0 := qF c18
     have c18b1 := nT c18
     have H' := aM H
     clear H
     have p345 : 0 ≤ (x38_2 : Int) := oD
     have q345 : x38_2 < (t340.length : Int) := oD
     obtain ⟨ad345, e345, hx345_0⟩ := Kd.at_int (Kd.R_reads' HO_36.out).2.2 x38_2 p345 q345
     cases e345
     replace p345 := eq_true p345
     replace q345 := eq_true q345
     go_wp2
     go_roundg k2
     case measure => have := HK1.out; have := HK2.out; omega
     case rel => exact ⟨(x10_2), (wrap64 (x38_2 + 1)), rF, H', ⟨by have := HK1.out; have := HK2.out; omega⟩, ⟨rU HO_10.out⟩, ⟨rU HO_36.out⟩, hV HB⟩
    have c15b0 := dF c15
    clear c15
    simp only [Option.some.injEq, Prod.mk.injEq] at H
    obtain ⟨rfl, rfl⟩ := H
    go_wp2
    go_ret2
    exact ⟨_, by first | rfl | (simp [errW_none, errW_some] <;> rfl) | (simp only [← hji6]; first | rfl | (simp [errW_none, errW_some] <;> rfl)) | (simp [*, errW_none, errW_some] <;> rfl), rU HO_10.out, bel HB⟩
 simp only [Option.some.injEq, Prod.mk.injEq] at H
 obtain ⟨rfl, rfl⟩ := H
 go_enter Tryd.func47, Tryd.ntmps47
 go_wp2_with (first | ((with_reducible refine gG 106 (some 16) rfl rfl ?_); refine gL Tryd.func106 #[.string a0, .string a0, .int .i64 a1] ?_; (with_reducible refine (spec_waSmall.calls k a0 a0 a1 false _ A3.out).mono ?_); rintro e w' ⟨rfl, ⟨nd, rfl⟩⟩; refine ⟨_, rfl, ?_⟩))
 go_ret2
 exact ⟨_, eW, by first | exact Kd.R_nil _ _ _ _ _ | exact Kd.N_nil _ _ _ _ _ | exact Kd.V_nil _ _ _ _ _ | exact Kd.Q_nil _ _ _ _ _ | exact Kd.S_nil _ _ _ _ _, bel HB⟩

end Go.Proofs.YtcogjabdddikjaaDoor.PWMn
