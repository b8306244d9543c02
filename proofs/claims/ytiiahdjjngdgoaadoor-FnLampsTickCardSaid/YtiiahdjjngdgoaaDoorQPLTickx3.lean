-- squeezed (sq3.py); PRINTED by drive.py (a program of this session's, over the kit's print.py; wip/tools/drive.py). Lean checks it.
import Derived.Test.YtiiahdjjngdgoaaDoorQPLTickx0
import Derived.Test.YtiiahdjjngdgoaaDoorQPLTickx1
import Derived.Test.YtiiahdjjngdgoaaDoorQPLTickx2
import Derived.Test.YtiiahdjjngdgoaaDoorQSq
namespace Go.Proofs.YtiiahdjjngdgoaaDoor.PLTick
open Go.RowKit Go.Proofs.YtiiahdjjngdgoaaDoorW.PrintWords Go.Proofs.YtiiahdjjngdgoaaDoorW.PrintLast Go.Proofs.YtiiahdjjngdgoaaDoorW.PrintMore
attribute [local go_sem] max2_int min2_int max_two min_two max_three min_three max_four min_four   -- for this text's walks alone
set_option linter.unusedVariables false
set_option linter.unusedSimpArgs false

/-! ### spec_l1Cur_spoilt: function 138 -/
mutual
def spec_l1Cur_spoilt.l0 : Nat → ByteArray → ByteArray → Int → List Int → Int → Int → Option (ByteArray × Int × Int)
 | 0, _, _, _, _, _, _ => none
 | k + 1, x1, x2, x7, x1000, x1001, x1002 => if x7 > 0 then (spec_l1Cur_spoilt.j1 k x1 x2 x7 (decide ((x1.size : Int) > 0)) x1000 x1001 x1002) else (spec_l1Cur_spoilt.j1 k x1 x2 x7 false x1000 x1001 x1002)
def spec_l1Cur_spoilt.j1 : Nat → ByteArray → ByteArray → Int → Bool → List Int → Int → Int → Option (ByteArray × Int × Int)
 | 0, _, _, _, _, _, _, _ => none
 | k + 1, x1, x2, x7, x19, x1000, x1001, x1002 => if x19 = true then ((spec_l1Cur_pick.f x1000 x1001 x1002 (x1.size : Int)).bind fun bt163 => ((spec_l1Cur_pick.f x1000 bt163.2.1 bt163.2.2 (x2.size : Int)).bind fun bt166 => (if 0 ≤ bt166.1 then (if bt166.1 < (x2.size : Int) then ((some (([bt x2 bt166.1] : List Int) : List Int)).bind fun y169 => ((spec_l1Cur_pick.f x1000 bt166.2.1 bt166.2.2 3).bind fun bt172 => (if bt172.1 = 0 then (if 0 ≤ bt163.1 then (if bt163.1 ≤ (x1.size : Int) then (if (x1.extract 0 (bt163.1 : Int).toNat).size + (strOfNums y169).size ≤ 9223372036854775807 then (if ((x1.extract 0 (bt163.1 : Int).toNat) ++ (strOfNums y169)).size + (x1.extract (bt163.1 : Int).toNat x1.size).size ≤ 9223372036854775807 then (spec_l1Cur_spoilt.l0 k (((x1.extract 0 (bt163.1 : Int).toNat) ++ (strOfNums y169)) ++ (x1.extract (bt163.1 : Int).toNat x1.size)) x2 (wrap64 (x7 - 1)) x1000 bt172.2.1 bt172.2.2) else (none)) else (none)) else (none)) else (none)) else (if bt172.1 = 1 then (if 0 ≤ bt163.1 then (if bt163.1 ≤ (x1.size : Int) then (if (x1.extract 0 (bt163.1 : Int).toNat).size + (strOfNums y169).size ≤ 9223372036854775807 then (if 0 ≤ (wrap64 (bt163.1 + 1)) then (if (wrap64 (bt163.1 + 1)) ≤ (x1.size : Int) then (if ((x1.extract 0 (bt163.1 : Int).toNat) ++ (strOfNums y169)).size + (x1.extract ((wrap64 (bt163.1 + 1)) : Int).toNat x1.size).size ≤ 9223372036854775807 then (spec_l1Cur_spoilt.l0 k (((x1.extract 0 (bt163.1 : Int).toNat) ++ (strOfNums y169)) ++ (x1.extract ((wrap64 (bt163.1 + 1)) : Int).toNat x1.size)) x2 (wrap64 (x7 - 1)) x1000 bt172.2.1 bt172.2.2) else (none)) else (none)) else (none)) else (none)) else (none)) else (none)) else (if 0 ≤ bt163.1 then (if bt163.1 ≤ (x1.size : Int) then (if 0 ≤ (wrap64 (bt163.1 + 1)) then (if (wrap64 (bt163.1 + 1)) ≤ (x1.size : Int) then (if (x1.extract 0 (bt163.1 : Int).toNat).size + (x1.extract ((wrap64 (bt163.1 + 1)) : Int).toNat x1.size).size ≤ 9223372036854775807 then (spec_l1Cur_spoilt.l0 k ((x1.extract 0 (bt163.1 : Int).toNat) ++ (x1.extract ((wrap64 (bt163.1 + 1)) : Int).toNat x1.size)) x2 (wrap64 (x7 - 1)) x1000 bt172.2.1 bt172.2.2) else (none)) else (none)) else (none)) else (none)) else (none)))))) else (none)) else (none)))) else (some (x1, x1001, x1002))
end
def spec_l1Cur_spoilt.f (k : Nat) (s0_0 : List Int) (s0_1 : Int) (s0_2 : Int) (a1 : ByteArray) (a2 : ByteArray) : Option (ByteArray × Int × Int) := (spec_l1Cur_pick.f s0_0 s0_1 s0_2 2).bind fun bt160 => (spec_l1Cur_spoilt.l0 k a1 a2 (wrap64 (1 + bt160.1)) s0_0 bt160.2.1 bt160.2.2)
theorem spec_l1Cur_spoilt.mono_l : ∀ k, Mo (spec_l1Cur_spoilt.l0 k) (spec_l1Cur_spoilt.l0 (k + 1)) ∧ Mo (spec_l1Cur_spoilt.j1 k) (spec_l1Cur_spoilt.j1 (k + 1))
 | 0 => m0
 | k + 1 => by
  have ⟨ih0, ih1⟩ := spec_l1Cur_spoilt.mono_l k
  refine ⟨?_, ?_⟩ <;> (repeat refine mE fun _ => ?_) <;> first | (unfold spec_l1Cur_spoilt.l0; exact mG) | (unfold spec_l1Cur_spoilt.j1; exact mG)
instance spec_l1Cur_spoilt.mI (k : Nat) : Mo (spec_l1Cur_spoilt.f k) (spec_l1Cur_spoilt.f (k + 1)) := by
 have ⟨ih0, ih1⟩ := spec_l1Cur_spoilt.mono_l k
 (repeat refine mE fun _ => ?_); unfold spec_l1Cur_spoilt.f; exact mG
theorem spec_l1Cur_spoilt.mono : ∀ a0 a1 a2 a3 a4 k, LeO (spec_l1Cur_spoilt.f k a0 a1 a2 a3 a4) (spec_l1Cur_spoilt.f (k + 1) a0 a1 a2 a3 a4) := fun a0 a1 a2 a3 a4 k => (spec_l1Cur_spoilt.mI k).out a0 a1 a2 a3 a4
set_option maxHeartbeats 8000000 in
set_option maxRecDepth 100000 in
theorem spec_l1Cur_spoilt.calls (k : Nat) (g : Nat) (s0_0 : List Int) (s0_1 : Int) (s0_2 : Int) (a1 : ByteArray) (a2 : ByteArray) (r1 : ByteArray) (r2 : Int) (r3 : Int) (w0 w : World) (hI : IsS73 w0 w g s0_0 s0_1 s0_2) (hB : Below w0.heap.size w0 w) (h : spec_l1Cur_spoilt.f k s0_0 s0_1 s0_2 a1 a2 = some (r1, r2, r3)) :
  Calls Tryd.prog 138 #[.pointer (some ⟨g, 0, none⟩), .string a1, .string a2] w fun e w' => e = .returned (.string r1) ∧ IsS73 w0 w' g s0_0 r2 r3 ∧ Below w0.heap.size w0 w' ∧ KeepBut w w' g none := by
 have HI0 := sS73 hI
 have GI_HI0 := IsS73.geI HI0
 have HK := aM (KeepBut.refl w g none)
 have HL := aM hB.size
 clear hI
 have HW0 := aM hB.size
 have HB := aM hB
 clear hB
 have H := h
 clear h; unfold spec_l1Cur_spoilt.f at H
 replace H := bC H; obtain ⟨⟨t160, t161, t162⟩, A4, H⟩ := H; try dsimp only at H
 have H' := aM H
 clear H
 go_enter Tryd.func138, Tryd.ntmps138
 go_wp2_with (first | (go_at_call 91; (with_reducible refine (spec_l1Cur_pick.calls g s0_0 s0_1 s0_2 2 t160 t161 t162 w0 _ tS73 (bel HB) A4.out).mono ?_); rintro e w5 ⟨rfl, hi, hb, hk⟩; replace HK := kT HK hk; replace HB := aM (hb); replace HI0 := sS73 (hi); clear hb hk hi))
 repeat (go_quiet (first | (go_at_call 91; (with_reducible refine (spec_l1Cur_pick.calls g s0_0 s0_1 s0_2 2 t160 t161 t162 w0 _ tS73 (bel HB) A4.out).mono ?_); rintro e w5 ⟨rfl, hi, hb, hk⟩; replace HK := kT HK hk; replace HB := aM (hb); replace HI0 := sS73 (hi); clear hb hk hi)); try go_wp2_with (first | (go_at_call 91; (with_reducible refine (spec_l1Cur_pick.calls g s0_0 s0_1 s0_2 2 t160 t161 t162 w0 _ tS73 (bel HB) A4.out).mono ?_); rintro e w5 ⟨rfl, hi, hb, hk⟩; replace HK := kT HK hk; replace HB := aM (hb); replace HI0 := sS73 (hi); clear hb hk hi)))
 go_loopg [1, 7] k (fun kq v1 v7 w' => ∃ (x1_1 : ByteArray) (x7_1 : Int) (x1001_1 : Int) (x1002_1 : Int), v1 = .string x1_1 ∧ v7 = .int .i64 x7_1 ∧ Aside0 (spec_l1Cur_spoilt.l0 kq x1_1 a2 x7_1 s0_0 x1001_1 x1002_1 = some (r1, r2, r3)) ∧ Aside0 (kq ≤ k) ∧ IsC73 w0 w' g s0_0 x1001_1 x1002_1 ∧ Aside0 (KeepBut w w' g none) ∧ Aside0 (Below w0.heap.size w0 w'))
 case atStart => exact ⟨(a1), (wrap64 (1 + t160)), (t161), (t162), rF, rF, H', kR, ⟨tS73⟩, kV HK, hV HB⟩
 case round =>
  clear H'
  obtain ⟨x1_1, x7_1, x1001_1, x1002_1, rfl, rfl, HA, HK1, HI0, HK, HB⟩ := hrel
  obtain rfl | ⟨k1, rfl⟩ := fz gk
  ·exact zA HA
  have H := HA.out
  clear HA
  simp only [spec_l1Cur_spoilt.l0] at H
  have HC6 := aM H
  clear H
  go_upto_region 2 with (fail)
  repeat (go_quiet (fail); go_upto_region 2 with (fail))
  go_cut [19] (fun v19 wc => ∃ (kq : Nat) (x19_5 : Bool), v19 = .bool x19_5 ∧ Aside0 (spec_l1Cur_spoilt.j1 kq x1_1 a2 x7_1 x19_5 s0_0 x1001_1 x1002_1 = some (r1, r2, r3)) ∧ Aside0 (kq ≤ k1) ∧ IsC73 w0 wc g s0_0 x1001_1 x1002_1 ∧ Aside0 (KeepBut w wc g none) ∧ Aside0 (Below w0.heap.size w0 wc))
  case first =>
   have H := HC6.out
   clear HC6
   refine iI H ?_ ?_ <;> clear H <;> intro c7 H
   ·have c7b0 := gT c7
    clear c7
    (first | rw [c7b0] | (simp only [i64_w, i32_w]; rw [c7b0]) | skip)
    have H' := aM H
    clear H
    go_wp2
    repeat (go_quiet (fail); try go_wp2)
    go_meet
    case rel => exact ⟨_, (decide ((x1_1.size : Int) > 0)), rF, H', ⟨by have := HK1.out; first | omega | exact Nat.le_refl _⟩, ⟨tS73⟩, kV HK, hV HB⟩
   have c7b0 := gF c7
   clear c7
   (first | rw [c7b0] | (simp only [i64_w, i32_w]; rw [c7b0]) | skip)
   have H' := aM H
   clear H
   go_wp2
   repeat (go_quiet (fail); try go_wp2)
   go_meet
   case rel => exact ⟨_, (false), rF, H', ⟨by have := HK1.out; first | omega | exact Nat.le_refl _⟩, ⟨tS73⟩, kV HK, hV HB⟩
  case rest =>
   clear HC6
   obtain ⟨kq, x19_5, rfl, HA, HJ5, HI0, HK, HB⟩ := hcut
   obtain rfl | ⟨kj5, rfl⟩ := fz kq
   ·exact zA HA
   have H := HA.out
   clear HA
   simp only [spec_l1Cur_spoilt.j1] at H
   refine iB H ?_ ?_ <;> clear H <;> rintro rfl H
   ·replace H := bC H; obtain ⟨⟨t163, t164, t165⟩, A9, H⟩ := H; try dsimp only at H
    replace H := bC H; obtain ⟨⟨t166, t167, t168⟩, A10, H⟩ := H; try dsimp only at H
    refine iY H ?_; clear H; intro c11 H
    have c11b0 := dT c11
    clear c11
    refine iY H ?_; clear H; intro c12 H
    have c12b0 := dT c12
    clear c12
    replace H := yB H; obtain ⟨y169, Ny169, H⟩ := H
    replace H := bC H; obtain ⟨⟨t172, t173, t174⟩, A14, H⟩ := H; try dsimp only at H
    refine iI H ?_ ?_ <;> clear H <;> intro c15 H
    ·have c15b0 := qT c15
     have c15b1 := nF c15
     clear c15
     refine iY H ?_; clear H; intro c16 H
     have c16b0 := eq_true c16
     have c16b1 := dT c16
     clear c16
     refine iY H ?_; clear H; intro c17 H
     have c17b0 := eq_true c17
     have c17b1 := dT c17
     clear c17
     refine iY H ?_; clear H; intro c18 H
     have c18b0 := eq_true c18
     have c18b1 := dT c18
     try have c18b2 : (9223372036854775807 < (x1_1.extract 0 (t163 : Int).toNat).size + (strOfNums y169).size) = False := eq_false (Nat.not_lt.2 c18)
     have c19b0 := eq_true (oD : 0 ≤ t163)
     have c20b0 := eq_true (oD : t163 ≤ (x1_1.size : Int))
     refine iY H ?_; clear H; intro c21 H
     have c21b0 := eq_true c21
     have c21b1 := dT c21
     try have c21b2 : (9223372036854775807 < ((x1_1.extract 0 (t163 : Int).toNat) ++ (strOfNums y169)).size + (x1_1.extract (t163 : Int).toNat x1_1.size).size) = False := eq_false (Nat.not_lt.2 c21)
     try have c21q : (9223372036854775807 < (x1_1.extract 0 (t163 : Int).toNat).size + (strOfNums y169).size + (x1_1.extract (t163 : Int).toNat x1_1.size).size) = False := eq_false (Nat.not_lt.2 (by have h_ := c21; (try simp only [ByteArray.size_append] at h_); exact h_))
     have H' := aM H
     clear H
     go_wp2_with (first | (go_at_call 91; (with_reducible refine (spec_l1Cur_pick.calls g s0_0 x1001_1 x1002_1 (x1_1.size : Int) t163 t164 t165 w0 _ tS73 (bel HB) A9.out).mono ?_); rintro e w22 ⟨rfl, hi, hb, hk⟩; replace HK := kT HK hk; replace HB := aM (hb); replace HI0 := sS73 (hi); clear hb hk hi) | (go_at_call 91; (with_reducible refine (spec_l1Cur_pick.calls g s0_0 t164 t165 (a2.size : Int) t166 t167 t168 w0 _ tS73 (bel HB) A10.out).mono ?_); rintro e w23 ⟨rfl, hi, hb, hk⟩; replace HK := kT HK hk; replace HB := aM (hb); replace HI0 := sS73 (hi); clear hb hk hi; have p13 : 0 ≤ (t166 : Int) := oD; have q13 : t166 < (a2.size : Int) := oD; have hx13 := bt_at a2 t166; replace p13 := eq_true p13; replace q13 := eq_true q13) | ((with_reducible refine gate_dst (N := 32) rfl ?_); (try (refine gate_guard (by rfl) ?_; dsimp only)); refine Kd.R_lit (Kd.int .u8) _ 5 ?hg (N := 32) ?hd (xs := ([bt a2 t166] : List Int)) (inner := [.int .u8 (bt a2 t166)]) (ok := fun _ => True) (okp := fun _ => True) ?hr ?hp (fun _ hk => hk) trivial (Below.refl _ _) (Nat.le_refl _) (by simp) ?_; (case hd => rfl); (case hg => rfl); (case hr => first | (go_simp; done) | (go_simp; rfl)); (case hp => exact (Reps.one (show Kd.M (Kd.int .u8) _ _ _ (bt a2 t166) [.int .u8 (bt a2 t166)] from rfl) (Reps.none _ _))); intro v170 w24 ho25 hb hg_ hnew_; clear hg_ hnew_; (first | rw [← Ny169.out] at ho25 | (simp only [Int.reduceToNat] at ho25; rw [← Ny169.out] at ho25)); have HO171 := rK ho25 HK; replace HI0 := bS73 g hb; replace HK := kT HK (KeepBut.of_below hb g none); replace HB := hS HB hb; clear hb ho25; have hcv26 := own_string (P := Tryd.prog) Tryd.underlying22 Tryd.underlying5 Tryd.underlying9 (Kd.own_of_R HO171.out)) | (go_at_call 91; (with_reducible refine (spec_l1Cur_pick.calls g s0_0 t167 t168 3 t172 t173 t174 w0 _ tS73 (bel HB) A14.out).mono ?_); rintro e w27 ⟨rfl, hi, hb, hk⟩; replace HO171 := aM (Kd.R_mono (Kd.R_keep (IsS73.apart (show IsS73 w0 _ g s0_0 t167 t168 from tS73) (rU HO171.out) (by decide)) hk (fun _ h => h.2)) (fun _ h => h.1)); replace HK := kT HK hk; replace HB := aM (hb); replace HI0 := sS73 (hi); clear hb hk hi))
     repeat (go_quiet (first | (go_at_call 91; (with_reducible refine (spec_l1Cur_pick.calls g s0_0 x1001_1 x1002_1 (x1_1.size : Int) t163 t164 t165 w0 _ tS73 (bel HB) A9.out).mono ?_); rintro e w22 ⟨rfl, hi, hb, hk⟩; replace HK := kT HK hk; replace HB := aM (hb); replace HI0 := sS73 (hi); clear hb hk hi) | (go_at_call 91; (with_reducible refine (spec_l1Cur_pick.calls g s0_0 t164 t165 (a2.size : Int) t166 t167 t168 w0 _ tS73 (bel HB) A10.out).mono ?_); rintro e w23 ⟨rfl, hi, hb, hk⟩; replace HK := kT HK hk; replace HB := aM (hb); replace HI0 := sS73 (hi); clear hb hk hi; have p13 : 0 ≤ (t166 : Int) := oD; have q13 : t166 < (a2.size : Int) := oD; have hx13 := bt_at a2 t166; replace p13 := eq_true p13; replace q13 := eq_true q13) | (go_at_call 91; (with_reducible refine (spec_l1Cur_pick.calls g s0_0 t167 t168 3 t172 t173 t174 w0 _ tS73 (bel HB) A14.out).mono ?_); rintro e w27 ⟨rfl, hi, hb, hk⟩; replace HO171 := aM (Kd.R_mono (Kd.R_keep (IsS73.apart (show IsS73 w0 _ g s0_0 t167 t168 from tS73) (rU HO171.out) (by decide)) hk (fun _ h => h.2)) (fun _ h => h.1)); replace HK := kT HK hk; replace HB := aM (hb); replace HI0 := sS73 (hi); clear hb hk hi)); try go_wp2_with (first | (go_at_call 91; (with_reducible refine (spec_l1Cur_pick.calls g s0_0 x1001_1 x1002_1 (x1_1.size : Int) t163 t164 t165 w0 _ tS73 (bel HB) A9.out).mono ?_); rintro e w22 ⟨rfl, hi, hb, hk⟩; replace HK := kT HK hk; replace HB := aM (hb); replace HI0 := sS73 (hi); clear hb hk hi) | (go_at_call 91; (with_reducible refine (spec_l1Cur_pick.calls g s0_0 t164 t165 (a2.size : Int) t166 t167 t168 w0 _ tS73 (bel HB) A10.out).mono ?_); rintro e w23 ⟨rfl, hi, hb, hk⟩; replace HK := kT HK hk; replace HB := aM (hb); replace HI0 := sS73 (hi); clear hb hk hi; have p13 : 0 ≤ (t166 : Int) := oD; have q13 : t166 < (a2.size : Int) := oD; have hx13 := bt_at a2 t166; replace p13 := eq_true p13; replace q13 := eq_true q13) | ((with_reducible refine gate_dst (N := 32) rfl ?_); (try (refine gate_guard (by rfl) ?_; dsimp only)); refine Kd.R_lit (Kd.int .u8) _ 5 ?hg (N := 32) ?hd (xs := ([bt a2 t166] : List Int)) (inner := [.int .u8 (bt a2 t166)]) (ok := fun _ => True) (okp := fun _ => True) ?hr ?hp (fun _ hk => hk) trivial (Below.refl _ _) (Nat.le_refl _) (by simp) ?_; (case hd => rfl); (case hg => rfl); (case hr => first | (go_simp; done) | (go_simp; rfl)); (case hp => exact (Reps.one (show Kd.M (Kd.int .u8) _ _ _ (bt a2 t166) [.int .u8 (bt a2 t166)] from rfl) (Reps.none _ _))); intro v170 w24 ho25 hb hg_ hnew_; clear hg_ hnew_; (first | rw [← Ny169.out] at ho25 | (simp only [Int.reduceToNat] at ho25; rw [← Ny169.out] at ho25)); have HO171 := rK ho25 HK; replace HI0 := bS73 g hb; replace HK := kT HK (KeepBut.of_below hb g none); replace HB := hS HB hb; clear hb ho25; have hcv26 := own_string (P := Tryd.prog) Tryd.underlying22 Tryd.underlying5 Tryd.underlying9 (Kd.own_of_R HO171.out)) | (go_at_call 91; (with_reducible refine (spec_l1Cur_pick.calls g s0_0 t167 t168 3 t172 t173 t174 w0 _ tS73 (bel HB) A14.out).mono ?_); rintro e w27 ⟨rfl, hi, hb, hk⟩; replace HO171 := aM (Kd.R_mono (Kd.R_keep (IsS73.apart (show IsS73 w0 _ g s0_0 t167 t168 from tS73) (rU HO171.out) (by decide)) hk (fun _ h => h.2)) (fun _ h => h.1)); replace HK := kT HK hk; replace HB := aM (hb); replace HI0 := sS73 (hi); clear hb hk hi)))
     go_roundg kj5
     case measure => have := HK1.out; have := HJ5.out; omega
     case rel => exact ⟨(((x1_1.extract 0 (t163 : Int).toNat) ++ (strOfNums y169)) ++ (x1_1.extract (t163 : Int).toNat x1_1.size)), (wrap64 (x7_1 - 1)), (t173), (t174), rF, rF, H', ⟨by have := HK1.out; have := HJ5.out; omega⟩, ⟨tS73⟩, kV HK, hV HB⟩
    have c15b0 := qF c15
    have c15b1 := nT c15
    refine iI H ?_ ?_ <;> clear H <;> intro c28 H
    ·have c28b0 := qT c28
     have c28b1 := nF c28
     clear c28
     refine iY H ?_; clear H; intro c29 H
     have c29b0 := eq_true c29
     have c29b1 := dT c29
     clear c29
     refine iY H ?_; clear H; intro c30 H
     have c30b0 := eq_true c30
     have c30b1 := dT c30
     clear c30
     refine iY H ?_; clear H; intro c31 H
     have c31b0 := eq_true c31
     have c31b1 := dT c31
     try have c31b2 : (9223372036854775807 < (x1_1.extract 0 (t163 : Int).toNat).size + (strOfNums y169).size) = False := eq_false (Nat.not_lt.2 c31)
     obtain ⟨ji32, hji32⟩ := jN (wrap64 (t163 + 1))
     first | rw [hji32] at H | simp only [hji32] at H
     (try rw [hji32] at A9)
     (try rw [hji32] at A10)
     (try rw [hji32] at A14)
     have hji32w : (IntKind.i64.wrap (t163 + 1)) = ji32 := (i64_w _).trans hji32
     refine iY H ?_; clear H; intro c33 H
     have c33b0 := eq_true c33
     have c33b1 := dT c33
     clear c33
     refine iY H ?_; clear H; intro c34 H
     have c34b0 := eq_true c34
     have c34b1 := dT c34
     clear c34
     refine iY H ?_; clear H; intro c35 H
     have c35b0 := eq_true c35
     have c35b1 := dT c35
     try have c35b2 : (9223372036854775807 < ((x1_1.extract 0 (t163 : Int).toNat) ++ (strOfNums y169)).size + (x1_1.extract ((ji32) : Int).toNat x1_1.size).size) = False := eq_false (Nat.not_lt.2 c35)
     try have c35q : (9223372036854775807 < (x1_1.extract 0 (t163 : Int).toNat).size + (strOfNums y169).size + (x1_1.extract ((ji32) : Int).toNat x1_1.size).size) = False := eq_false (Nat.not_lt.2 (by have h_ := c35; (try simp only [ByteArray.size_append] at h_); exact h_))
     have H' := aM H
     clear H
     go_wp2_with (first | (go_at_call 91; (with_reducible refine (spec_l1Cur_pick.calls g s0_0 x1001_1 x1002_1 (x1_1.size : Int) t163 t164 t165 w0 _ tS73 (bel HB) A9.out).mono ?_); rintro e w36 ⟨rfl, hi, hb, hk⟩; replace HK := kT HK hk; replace HB := aM (hb); replace HI0 := sS73 (hi); clear hb hk hi) | (go_at_call 91; (with_reducible refine (spec_l1Cur_pick.calls g s0_0 t164 t165 (a2.size : Int) t166 t167 t168 w0 _ tS73 (bel HB) A10.out).mono ?_); rintro e w37 ⟨rfl, hi, hb, hk⟩; replace HK := kT HK hk; replace HB := aM (hb); replace HI0 := sS73 (hi); clear hb hk hi; have p13 : 0 ≤ (t166 : Int) := oD; have q13 : t166 < (a2.size : Int) := oD; have hx13 := bt_at a2 t166; replace p13 := eq_true p13; replace q13 := eq_true q13) | ((with_reducible refine gate_dst (N := 32) rfl ?_); (try (refine gate_guard (by rfl) ?_; dsimp only)); refine Kd.R_lit (Kd.int .u8) _ 5 ?hg (N := 32) ?hd (xs := ([bt a2 t166] : List Int)) (inner := [.int .u8 (bt a2 t166)]) (ok := fun _ => True) (okp := fun _ => True) ?hr ?hp (fun _ hk => hk) trivial (Below.refl _ _) (Nat.le_refl _) (by simp) ?_; (case hd => rfl); (case hg => rfl); (case hr => first | (go_simp; done) | (go_simp; rfl)); (case hp => exact (Reps.one (show Kd.M (Kd.int .u8) _ _ _ (bt a2 t166) [.int .u8 (bt a2 t166)] from rfl) (Reps.none _ _))); intro v170 w38 ho39 hb hg_ hnew_; clear hg_ hnew_; (first | rw [← Ny169.out] at ho39 | (simp only [Int.reduceToNat] at ho39; rw [← Ny169.out] at ho39)); have HO171 := rK ho39 HK; replace HI0 := bS73 g hb; replace HK := kT HK (KeepBut.of_below hb g none); replace HB := hS HB hb; clear hb ho39; have hcv40 := own_string (P := Tryd.prog) Tryd.underlying22 Tryd.underlying5 Tryd.underlying9 (Kd.own_of_R HO171.out)) | (go_at_call 91; (with_reducible refine (spec_l1Cur_pick.calls g s0_0 t167 t168 3 t172 t173 t174 w0 _ tS73 (bel HB) A14.out).mono ?_); rintro e w41 ⟨rfl, hi, hb, hk⟩; replace HO171 := aM (Kd.R_mono (Kd.R_keep (IsS73.apart (show IsS73 w0 _ g s0_0 t167 t168 from tS73) (rU HO171.out) (by decide)) hk (fun _ h => h.2)) (fun _ h => h.1)); replace HK := kT HK hk; replace HB := aM (hb); replace HI0 := sS73 (hi); clear hb hk hi))
     repeat (go_quiet (first | (go_at_call 91; (with_reducible refine (spec_l1Cur_pick.calls g s0_0 x1001_1 x1002_1 (x1_1.size : Int) t163 t164 t165 w0 _ tS73 (bel HB) A9.out).mono ?_); rintro e w36 ⟨rfl, hi, hb, hk⟩; replace HK := kT HK hk; replace HB := aM (hb); replace HI0 := sS73 (hi); clear hb hk hi) | (go_at_call 91; (with_reducible refine (spec_l1Cur_pick.calls g s0_0 t164 t165 (a2.size : Int) t166 t167 t168 w0 _ tS73 (bel HB) A10.out).mono ?_); rintro e w37 ⟨rfl, hi, hb, hk⟩; replace HK := kT HK hk; replace HB := aM (hb); replace HI0 := sS73 (hi); clear hb hk hi; have p13 : 0 ≤ (t166 : Int) := oD; have q13 : t166 < (a2.size : Int) := oD; have hx13 := bt_at a2 t166; replace p13 := eq_true p13; replace q13 := eq_true q13) | (go_at_call 91; (with_reducible refine (spec_l1Cur_pick.calls g s0_0 t167 t168 3 t172 t173 t174 w0 _ tS73 (bel HB) A14.out).mono ?_); rintro e w41 ⟨rfl, hi, hb, hk⟩; replace HO171 := aM (Kd.R_mono (Kd.R_keep (IsS73.apart (show IsS73 w0 _ g s0_0 t167 t168 from tS73) (rU HO171.out) (by decide)) hk (fun _ h => h.2)) (fun _ h => h.1)); replace HK := kT HK hk; replace HB := aM (hb); replace HI0 := sS73 (hi); clear hb hk hi)); try go_wp2_with (first | (go_at_call 91; (with_reducible refine (spec_l1Cur_pick.calls g s0_0 x1001_1 x1002_1 (x1_1.size : Int) t163 t164 t165 w0 _ tS73 (bel HB) A9.out).mono ?_); rintro e w36 ⟨rfl, hi, hb, hk⟩; replace HK := kT HK hk; replace HB := aM (hb); replace HI0 := sS73 (hi); clear hb hk hi) | (go_at_call 91; (with_reducible refine (spec_l1Cur_pick.calls g s0_0 t164 t165 (a2.size : Int) t166 t167 t168 w0 _ tS73 (bel HB) A10.out).mono ?_); rintro e w37 ⟨rfl, hi, hb, hk⟩; replace HK := kT HK hk; replace HB := aM (hb); replace HI0 := sS73 (hi); clear hb hk hi; have p13 : 0 ≤ (t166 : Int) := oD; have q13 : t166 < (a2.size : Int) := oD; have hx13 := bt_at a2 t166; replace p13 := eq_true p13; replace q13 := eq_true q13) | ((with_reducible refine gate_dst (N := 32) rfl ?_); (try (refine gate_guard (by rfl) ?_; dsimp only)); refine Kd.R_lit (Kd.int .u8) _ 5 ?hg (N := 32) ?hd (xs := ([bt a2 t166] : List Int)) (inner := [.int .u8 (bt a2 t166)]) (ok := fun _ => True) (okp := fun _ => True) ?hr ?hp (fun _ hk => hk) trivial (Below.refl _ _) (Nat.le_refl _) (by simp) ?_; (case hd => rfl); (case hg => rfl); (case hr => first | (go_simp; done) | (go_simp; rfl)); (case hp => exact (Reps.one (show Kd.M (Kd.int .u8) _ _ _ (bt a2 t166) [.int .u8 (bt a2 t166)] from rfl) (Reps.none _ _))); intro v170 w38 ho39 hb hg_ hnew_; clear hg_ hnew_; (first | rw [← Ny169.out] at ho39 | (simp only [Int.reduceToNat] at ho39; rw [← Ny169.out] at ho39)); have HO171 := rK ho39 HK; replace HI0 := bS73 g hb; replace HK := kT HK (KeepBut.of_below hb g none); replace HB := hS HB hb; clear hb ho39; have hcv40 := own_string (P := Tryd.prog) Tryd.underlying22 Tryd.underlying5 Tryd.underlying9 (Kd.own_of_R HO171.out)) | (go_at_call 91; (with_reducible refine (spec_l1Cur_pick.calls g s0_0 t167 t168 3 t172 t173 t174 w0 _ tS73 (bel HB) A14.out).mono ?_); rintro e w41 ⟨rfl, hi, hb, hk⟩; replace HO171 := aM (Kd.R_mono (Kd.R_keep (IsS73.apart (show IsS73 w0 _ g s0_0 t167 t168 from tS73) (rU HO171.out) (by decide)) hk (fun _ h => h.2)) (fun _ h => h.1)); replace HK := kT HK hk; replace HB := aM (hb); replace HI0 := sS73 (hi); clear hb hk hi)))
     go_roundg kj5
     case measure => have := HK1.out; have := HJ5.out; omega
     case rel => exact ⟨(((x1_1.extract 0 (t163 : Int).toNat) ++ (strOfNums y169)) ++ (x1_1.extract ((ji32) : Int).toNat x1_1.size)), (wrap64 (x7_1 - 1)), (t173), (t174), (by first | rfl | (simp; done) | (simp only [← hji32] <;> (first | rfl | simp)) | (simp [*]; done)), rF, H', ⟨by have := HK1.out; have := HJ5.out; omega⟩, ⟨tS73⟩, kV HK, hV HB⟩
    have c28b0 := qF c28
    have c28b1 := nT c28
    refine iY H ?_; clear H; intro c42 H
    have c42b0 := eq_true c42
    have c42b1 := dT c42
    clear c42
    refine iY H ?_; clear H; intro c43 H
    have c43b0 := eq_true c43
    have c43b1 := dT c43
    clear c43
    obtain ⟨ji44, hji44⟩ := jN (wrap64 (t163 + 1))
    first | rw [hji44] at H | simp only [hji44] at H
    (try rw [hji44] at A9)
    (try rw [hji44] at A10)
    (try rw [hji44] at A14)
    have hji44w : (IntKind.i64.wrap (t163 + 1)) = ji44 := (i64_w _).trans hji44
    refine iY H ?_; clear H; intro c45 H
    have c45b0 := eq_true c45
    have c45b1 := dT c45
    clear c45
    refine iY H ?_; clear H; intro c46 H
    have c46b0 := eq_true c46
    have c46b1 := dT c46
    clear c46
    refine iY H ?_; clear H; intro c47 H
    have c47b0 := eq_true c47
    have c47b1 := dT c47
    try have c47b2 : (9223372036854775807 < (x1_1.extract 0 (t163 : Int).toNat).size + (x1_1.extract ((ji44) : Int).toNat x1_1.size).size) = False := eq_false (Nat.not_lt.2 c47)
    have H' := aM H
    clear H
    go_wp2_with (first | (go_at_call 91; (with_reducible refine (spec_l1Cur_pick.calls g s0_0 x1001_1 x1002_1 (x1_1.size : Int) t163 t164 t165 w0 _ tS73 (bel HB) A9.out).mono ?_); rintro e w48 ⟨rfl, hi, hb, hk⟩; replace HK := kT HK hk; replace HB := aM (hb); replace HI0 := sS73 (hi); clear hb hk hi) | (go_at_call 91; (with_reducible refine (spec_l1Cur_pick.calls g s0_0 t164 t165 (a2.size : Int) t166 t167 t168 w0 _ tS73 (bel HB) A10.out).mono ?_); rintro e w49 ⟨rfl, hi, hb, hk⟩; replace HK := kT HK hk; replace HB := aM (hb); replace HI0 := sS73 (hi); clear hb hk hi; have p13 : 0 ≤ (t166 : Int) := oD; have q13 : t166 < (a2.size : Int) := oD; have hx13 := bt_at a2 t166; replace p13 := eq_true p13; replace q13 := eq_true q13) | ((with_reducible refine gate_dst (N := 32) rfl ?_); (try (refine gate_guard (by rfl) ?_; dsimp only)); refine Kd.R_lit (Kd.int .u8) _ 5 ?hg (N := 32) ?hd (xs := ([bt a2 t166] : List Int)) (inner := [.int .u8 (bt a2 t166)]) (ok := fun _ => True) (okp := fun _ => True) ?hr ?hp (fun _ hk => hk) trivial (Below.refl _ _) (Nat.le_refl _) (by simp) ?_; (case hd => rfl); (case hg => rfl); (case hr => first | (go_simp; done) | (go_simp; rfl)); (case hp => exact (Reps.one (show Kd.M (Kd.int .u8) _ _ _ (bt a2 t166) [.int .u8 (bt a2 t166)] from rfl) (Reps.none _ _))); intro v170 w50 ho51 hb hg_ hnew_; clear hg_ hnew_; (first | rw [← Ny169.out] at ho51 | (simp only [Int.reduceToNat] at ho51; rw [← Ny169.out] at ho51)); have HO171 := rK ho51 HK; replace HI0 := bS73 g hb; replace HK := kT HK (KeepBut.of_below hb g none); replace HB := hS HB hb; clear hb ho51; have hcv52 := own_string (P := Tryd.prog) Tryd.underlying22 Tryd.underlying5 Tryd.underlying9 (Kd.own_of_R HO171.out)) | (go_at_call 91; (with_reducible refine (spec_l1Cur_pick.calls g s0_0 t167 t168 3 t172 t173 t174 w0 _ tS73 (bel HB) A14.out).mono ?_); rintro e w53 ⟨rfl, hi, hb, hk⟩; replace HO171 := aM (Kd.R_mono (Kd.R_keep (IsS73.apart (show IsS73 w0 _ g s0_0 t167 t168 from tS73) (rU HO171.out) (by decide)) hk (fun _ h => h.2)) (fun _ h => h.1)); replace HK := kT HK hk; replace HB := aM (hb); replace HI0 := sS73 (hi); clear hb hk hi))
    repeat (go_quiet (first | (go_at_call 91; (with_reducible refine (spec_l1Cur_pick.calls g s0_0 x1001_1 x1002_1 (x1_1.size : Int) t163 t164 t165 w0 _ tS73 (bel HB) A9.out).mono ?_); rintro e w48 ⟨rfl, hi, hb, hk⟩; replace HK := kT HK hk; replace HB := aM (hb); replace HI0 := sS73 (hi); clear hb hk hi) | (go_at_call 91; (with_reducible refine (spec_l1Cur_pick.calls g s0_0 t164 t165 (a2.size : Int) t166 t167 t168 w0 _ tS73 (bel HB) A10.out).mono ?_); rintro e w49 ⟨rfl, hi, hb, hk⟩; replace HK := kT HK hk; replace HB := aM (hb); replace HI0 := sS73 (hi); clear hb hk hi; have p13 : 0 ≤ (t166 : Int) := oD; have q13 : t166 < (a2.size : Int) := oD; have hx13 := bt_at a2 t166; replace p13 := eq_true p13; replace q13 := eq_true q13) | (go_at_call 91; (with_reducible refine (spec_l1Cur_pick.calls g s0_0 t167 t168 3 t172 t173 t174 w0 _ tS73 (bel HB) A14.out).mono ?_); rintro e w53 ⟨rfl, hi, hb, hk⟩; replace HO171 := aM (Kd.R_mono (Kd.R_keep (IsS73.apart (show IsS73 w0 _ g s0_0 t167 t168 from tS73) (rU HO171.out) (by decide)) hk (fun _ h => h.2)) (fun _ h => h.1)); replace HK := kT HK hk; replace HB := aM (hb); replace HI0 := sS73 (hi); clear hb hk hi)); try go_wp2_with (first | (go_at_call 91; (with_reducible refine (spec_l1Cur_pick.calls g s0_0 x1001_1 x1002_1 (x1_1.size : Int) t163 t164 t165 w0 _ tS73 (bel HB) A9.out).mono ?_); rintro e w48 ⟨rfl, hi, hb, hk⟩; replace HK := kT HK hk; replace HB := aM (hb); replace HI0 := sS73 (hi); clear hb hk hi) | (go_at_call 91; (with_reducible refine (spec_l1Cur_pick.calls g s0_0 t164 t165 (a2.size : Int) t166 t167 t168 w0 _ tS73 (bel HB) A10.out).mono ?_); rintro e w49 ⟨rfl, hi, hb, hk⟩; replace HK := kT HK hk; replace HB := aM (hb); replace HI0 := sS73 (hi); clear hb hk hi; have p13 : 0 ≤ (t166 : Int) := oD; have q13 : t166 < (a2.size : Int) := oD; have hx13 := bt_at a2 t166; replace p13 := eq_true p13; replace q13 := eq_true q13) | ((with_reducible refine gate_dst (N := 32) rfl ?_); (try (refine gate_guard (by rfl) ?_; dsimp only)); refine Kd.R_lit (Kd.int .u8) _ 5 ?hg (N := 32) ?hd (xs := ([bt a2 t166] : List Int)) (inner := [.int .u8 (bt a2 t166)]) (ok := fun _ => True) (okp := fun _ => True) ?hr ?hp (fun _ hk => hk) trivial (Below.refl _ _) (Nat.le_refl _) (by simp) ?_; (case hd => rfl); (case hg => rfl); (case hr => first | (go_simp; done) | (go_simp; rfl)); (case hp => exact (Reps.one (show Kd.M (Kd.int .u8) _ _ _ (bt a2 t166) [.int .u8 (bt a2 t166)] from rfl) (Reps.none _ _))); intro v170 w50 ho51 hb hg_ hnew_; clear hg_ hnew_; (first | rw [← Ny169.out] at ho51 | (simp only [Int.reduceToNat] at ho51; rw [← Ny169.out] at ho51)); have HO171 := rK ho51 HK; replace HI0 := bS73 g hb; replace HK := kT HK (KeepBut.of_below hb g none); replace HB := hS HB hb; clear hb ho51; have hcv52 := own_string (P := Tryd.prog) Tryd.underlying22 Tryd.underlying5 Tryd.underlying9 (Kd.own_of_R HO171.out)) | (go_at_call 91; (with_reducible refine (spec_l1Cur_pick.calls g s0_0 t167 t168 3 t172 t173 t174 w0 _ tS73 (bel HB) A14.out).mono ?_); rintro e w53 ⟨rfl, hi, hb, hk⟩; replace HO171 := aM (Kd.R_mono (Kd.R_keep (IsS73.apart (show IsS73 w0 _ g s0_0 t167 t168 from tS73) (rU HO171.out) (by decide)) hk (fun _ h => h.2)) (fun _ h => h.1)); replace HK := kT HK hk; replace HB := aM (hb); replace HI0 := sS73 (hi); clear hb hk hi)))
    go_roundg kj5
    case measure => have := HK1.out; have := HJ5.out; omega
    case rel => exact ⟨((x1_1.extract 0 (t163 : Int).toNat) ++ (x1_1.extract ((ji44) : Int).toNat x1_1.size)), (wrap64 (x7_1 - 1)), (t173), (t174), (by first | rfl | (simp; done) | (simp only [← hji44] <;> (first | rfl | simp)) | (simp [*]; done)), rF, H', ⟨by have := HK1.out; have := HJ5.out; omega⟩, ⟨tS73⟩, kV HK, hV HB⟩
   simp only [Option.some.injEq, Prod.mk.injEq] at H
   obtain ⟨rfl, rfl, rfl⟩ := H
   go_wp2
   repeat (go_quiet (fail); try go_wp2)
   go_ret
   exact ⟨eW, tS73, bel HB, kp HK⟩

/-! ### spec_l1Cur_lamps: function 68 -/
def spec_l1Cur_lamps.f (k : Nat) (s0_0 : List Int) (s0_1 : Int) (s0_2 : Int) : Option (List ByteArray × Int × Int) := (spec_l1Cur_sureLamps.f k s0_0 s0_1 s0_2).bind fun bt176 => ((spec_l1Cur_pick.f s0_0 bt176.2.1 bt176.2.2 16).bind fun bt182 => (if bt182.1 = 0 then (if bt176.1.length < 8796093022208 then (some ((bt176.1 ++ [(⟨#[63]⟩ : ByteArray)]), bt182.2.1, bt182.2.2)) else (none)) else (if bt182.1 = 1 then (some (([] : List ByteArray), bt182.2.1, bt182.2.2)) else (if bt182.1 = 2 then (if 0 < (bt176.1.length : Int) then ((spec_l1Cur_spoilt.f k s0_0 bt182.2.1 bt182.2.2 (rdOf ByteArray.empty bt176.1 0) (⟨#[48, 49, 63, 120]⟩ : ByteArray)).bind fun bt189 => (some ((bt176.1.set (0 : Int).toNat bt189.1), bt189.2.1, bt189.2.2))) else (none)) else (if bt182.1 = 3 then ((spec_CountingLamps.f k 10).bind fun bt193 => (some (bt193.1, bt182.2.1, bt182.2.2))) else (some (bt176.1, bt182.2.1, bt182.2.2)))))))
instance spec_l1Cur_lamps.mI (k : Nat) : Mo (spec_l1Cur_lamps.f k) (spec_l1Cur_lamps.f (k + 1)) := by
 (repeat refine mE fun _ => ?_); unfold spec_l1Cur_lamps.f; exact mG
theorem spec_l1Cur_lamps.mono : ∀ a0 a1 a2 k, LeO (spec_l1Cur_lamps.f k a0 a1 a2) (spec_l1Cur_lamps.f (k + 1) a0 a1 a2) := fun a0 a1 a2 k => (spec_l1Cur_lamps.mI k).out a0 a1 a2
def spec_l1Cur_lamps.T8 : Bool × List (List Nat × List Nat) := (true, [([], []), ([0], [0]), ([], []), ([], []), ([3], [3]), ([4], [4]), ([5], [5]), ([2, 6], [2, 6]), ([1, 0, 1, 2, 3, 4, 5, 6, 7], [1]), ([8, 7, 7, 0, 1, 2, 3, 4, 5, 6, 7], [7, 8])])
def spec_l1Cur_lamps.B8 : List Nat := [0, 1, 0, 0, 8, 24, 56, 124, 255, 511]
theorem spec_l1Cur_lamps.tab8 : rtab .any (opsOf Tryd.f68 8) = spec_l1Cur_lamps.T8 := by kernel_rfl
theorem spec_l1Cur_lamps.bits8 : waitsOk spec_l1Cur_lamps.T8.2 spec_l1Cur_lamps.B8 = true := by kernel_rfl
set_option maxHeartbeats 8000000 in
set_option maxRecDepth 100000 in
theorem spec_l1Cur_lamps.calls (k : Nat) (g : Nat) (s0_0 : List Int) (s0_1 : Int) (s0_2 : Int) (r1 : List ByteArray) (r2 : Int) (r3 : Int) (w0 w : World) (hI : IsS73 w0 w g s0_0 s0_1 s0_2) (hB : Below w0.heap.size w0 w) (h : spec_l1Cur_lamps.f k s0_0 s0_1 s0_2 = some (r1, r2, r3)) :
  Calls Tryd.prog 68 #[.pointer (some ⟨g, 0, none⟩)] w fun e w' => ∃ v0_ : Value, e = .returned (.agg #[v0_]) ∧ Kd.R Kd.string 9 w' w.heap.size (fun _ => True) v0_ r1 ∧ IsS73 w0 w' g s0_0 r2 r3 ∧ Below w0.heap.size w0 w' ∧ KeepBut w w' g none := by
 have hu26 := Tryd.underlying26
 have HI0 := sS73 hI
 have GI_HI0 := IsS73.geI HI0
 have HK := aM (KeepBut.refl w g none)
 have HL := aM hB.size
 clear hI
 have HW0 := aM hB.size
 have HB := aM hB
 clear hB
 have H := h
 clear h; unfold spec_l1Cur_lamps.f at H
 replace H := bC H; obtain ⟨⟨t176, t179, t180⟩, A2, H⟩ := H; try dsimp only at H
 replace H := bC H; obtain ⟨⟨t182, t183, t184⟩, A3, H⟩ := H; try dsimp only at H
 refine iI H ?_ ?_ <;> clear H <;> intro c4 H
 ·have c4b0 := qT c4
  have c4b1 := nF c4
  clear c4
  refine iY H ?_; clear H; intro c5 H
  have LMc5 := aM c5
  clear c5
  obtain ⟨y185, Ny185⟩ := yN (t176 ++ [(⟨#[63]⟩ : ByteArray)] : List ByteArray); rw [← Ny185.out] at H
  simp only [Option.some.injEq, Prod.mk.injEq] at H
  obtain ⟨rfl, rfl, rfl⟩ := H
  go_enter Tryd.func68, Tryd.ntmps68
  go_wp2_with (first | (refine bX (N := 2) rfl (cs := #[.slice none 0 0]) (t := 26) ?_; intro gb175 hg w6 BK175 hb; have GW175 := gK hg HK; have GE175 := gW HW0 (gK hg HK); have NB0_175 := (nbI hg : Ap g gb175); have NB175_0 := (nbJ hg : Ap gb175 g); replace HI0 := bS73 g hb; replace HK := kT HK (KeepBut.of_below hb g none); replace HB := hS HB hb; clear hb hg) | ((with_reducible refine gG 137 (some 7) rfl rfl ?_); refine gD Tryd.func137 (spec_l1Cur_sureLamps.calls k g s0_0 s0_1 s0_2 t176 t179 t180 w0 _ tS73 (bel HB) A2.out) ?_; rintro w7 v177 ⟨ho0, hi, hb, hk⟩; have HO178 := rK ho0 HK; replace BK175 := aM (KeepBut.blk hk (g' := gb175) (o := .cells #[.slice none 0 0] 26 (0, 0)) (bU BK175.out) NB175_0.out (by simp)); replace HK := kT HK hk; replace HB := aM (hb); replace HI0 := sS73 (hi); clear hb hk hi ho0) | (refine bX (N := 3) rfl (cs := #[.slice none 0 0]) (t := 26) ?_; intro gb181 hg w8 BK181 hb; have GW181 := gK hg HK; have GE181 := gW HW0 (gK hg HK); have NB175_181 := nbL hg BK175; have NB181_175 := nbR hg BK175; have NB0_181 := (nbI hg : Ap g gb181); have NB181_0 := (nbJ hg : Ap gb181 g); replace HO178 := rB HO178 hb; replace HI0 := bS73 g hb; replace BK175 := bB BK175 hb; replace HK := kT HK (KeepBut.of_below hb g none); replace HB := hS HB hb; clear hb hg; obtain ⟨Ao9, co9, eo9⟩ := Kd.R_slice HO178.out; subst eo9; have hnb10 := NB181_175.out; have hnc10 := NB175_181.out; have hnb11 := NB181_0.out; have hnc11 := NB0_181.out; obtain ⟨hcz12_0, hfz12_0⟩ := hC1 BK181) | ((with_reducible refine gG 91 (some 9) rfl rfl ?_); refine gC Tryd.func91 (spec_l1Cur_pick.calls g s0_0 t179 t180 16 t182 t183 t184 w0 _ tS73 (bel HB) A3.out) ?_; rintro w13 ⟨hi, hb, hk⟩; replace BK175 := aM (KeepBut.blk hk (g' := gb175) (o := .cells #[.slice none 0 0] 26 (0, 0)) (by (with_reducible repeat (first | refine blk_drewN ?_ _ | refine blk_drew ?_ | refine blk_alloc ?_ _)); refine blk_far ?_ NB175_181.out _; (with_reducible repeat (first | refine blk_drewN ?_ _ | refine blk_drew ?_ | refine blk_alloc ?_ _)); exact BK175.out) NB175_0.out (by simp)); replace HO178 := aM (Kd.R_mono (Kd.R_keep (IsS73.apart (show IsS73 w0 _ g s0_0 t179 t180 from tS73) (rU (Kd.R_mono (Kd.R_far (p := ⟨gb181, 0, none⟩) (Kd.R_types HO178.out BK181.out (by decide)) (fun _ hk => hk.2) (.slice Ao9 t176.length co9)) (fun _ h_ => h_.1))) (by decide)) hk (fun _ h => h.2)) (fun _ h => h.1)); replace BK181 := aM (KeepBut.blk hk (g' := gb181) (o := .cells #[.slice Ao9 t176.length co9] 26 (0, 0)) (by (with_reducible repeat (first | refine blk_drewN ?_ _ | refine blk_drew ?_ | refine blk_alloc ?_ _)); refine blk_put (cs := #[.slice none 0 0]) ?_ 0 _ rfl; (with_reducible repeat (first | refine blk_drewN ?_ _ | refine blk_drew ?_ | refine blk_alloc ?_ _)); exact BK181.out) NB181_0.out (by simp)); replace HK := kT HK hk; replace HB := aM (hb); replace HI0 := sS73 (hi); clear hb hk hi; obtain ⟨hcz14_0, hfz14_0⟩ := hC1 BK181) | ((with_reducible refine gate_builtin (b := .append) (xs := #[.tmp 13, .tmp 14]) rfl ?_); at_builtin; refine Kd.R_append Kd.string w.heap.size rfl (.tmp 13) (.tmp 14) 24 9 (.string ⟨#[]⟩) 16 rfl Tryd.underlying24 info9 rfl (by decide) (by omega) (.slice Ao9 t176.length co9) t176 (⟨#[63]⟩ : ByteArray) [.string (⟨#[63]⟩ : ByteArray)] (fun _ => True) (fun _ => False) rfl rfl ?aP (fun _ hk => hk.elim) ?aF ?aO (Below.refl _ _) ?aS ?aL ?_; (case aP => exact rfl); (case aF => exact (fun _ _ => trivial)); (case aO => exact (rU HO178.out)); (case aS => exact (keep_size (w := w) (g := g) (row := none) (kp HK))); (case aL => have := LMc5.out; omega); intro v186 w15 ho hb hg hat; rw [← Ny185.out] at ho; have HO187 := aM (ho); replace HI0 := sS73 (IsS73.grown (tS73 (g := g)) hg (IsS73.own_ne HI0.out HO178.out (by decide))); replace BK175 := aM (blk_grown (g := gb175) (o := .cells #[.slice none 0 0] 26 (0, 0)) (bU BK175.out) hg (Kd.R_ne HO178.out BK175.out (by decide))); replace BK181 := aM (blk_grown (g := gb181) (o := .cells #[.slice Ao9 t176.length co9] 26 (0, 0)) (bU BK181.out) hg (Kd.R_ne HO178.out BK181.out (by decide))); replace HB := aM (below_weaken (bel HB) HL.out hb); replace HK := aM (KeepBut.trans (kp HK) (KeepBut.of_grown hg g) (Kd.R_base2 HO178.out)); clear HO178; clear ho hb hg hat; obtain ⟨Ao16, co16, eo16⟩ := Kd.R_slice HO187.out; subst eo16; obtain ⟨hcz17_0, hfz17_0⟩ := hC1 BK181; have hnb18 := NB175_0.out; have hnc18 := NB0_175.out; obtain ⟨hcz19_0, hfz19_0⟩ := hC1 BK175))
  refine bodyPost_ret (results_cell_row rfl _ _ gb175 26 #[.slice Ao16 y185.length co16] (0, 0) _ rfl (by (with_reducible repeat (first | refine blk_drewN ?_ _ | refine blk_drew ?_ | refine blk_alloc ?_ _)); refine blk_put (cs := #[.slice none 0 0]) ?_ 0 _ rfl; (with_reducible repeat (first | refine blk_drewN ?_ _ | refine blk_drew ?_ | refine blk_alloc ?_ _)); refine blk_far ?_ NB175_181.out _; (with_reducible repeat (first | refine blk_drewN ?_ _ | refine blk_drew ?_ | refine blk_alloc ?_ _)); exact BK175.out) Tryd.underlying26 rfl (by kernel_rfl)) rfl ?_
  exact ⟨_, eW, rU (Kd.R_mono (Kd.R_far (p := ⟨gb175, 0, none⟩) (Kd.R_far (p := ⟨gb181, 0, none⟩) (Kd.R_types (Kd.R_types HO187.out BK181.out (by decide)) BK175.out (by decide)) (fun _ hk => hk.1.2) (.slice Ao16 y185.length co16)) (fun _ hk => hk.2) (.slice Ao16 y185.length co16)) (fun _ hk => trivial)), tS73, bel HB, kp HK⟩
 have c4b0 := qF c4
 have c4b1 := nT c4
 refine iI H ?_ ?_ <;> clear H <;> intro c20 H
 ·have c20b0 := qT c20
  have c20b1 := nF c20
  clear c20
  simp only [Option.some.injEq, Prod.mk.injEq] at H
  obtain ⟨rfl, rfl, rfl⟩ := H
  go_enter Tryd.func68, Tryd.ntmps68
  go_wp2_with (first | (refine bX (N := 2) rfl (cs := #[.slice none 0 0]) (t := 26) ?_; intro gb175 hg w21 BK175 hb; have GW175 := gK hg HK; have GE175 := gW HW0 (gK hg HK); have NB0_175 := (nbI hg : Ap g gb175); have NB175_0 := (nbJ hg : Ap gb175 g); replace HI0 := bS73 g hb; replace HK := kT HK (KeepBut.of_below hb g none); replace HB := hS HB hb; clear hb hg) | ((with_reducible refine gG 137 (some 7) rfl rfl ?_); refine gD Tryd.func137 (spec_l1Cur_sureLamps.calls k g s0_0 s0_1 s0_2 t176 t179 t180 w0 _ tS73 (bel HB) A2.out) ?_; rintro w22 v177 ⟨ho0, hi, hb, hk⟩; have HO178 := rK ho0 HK; replace BK175 := aM (KeepBut.blk hk (g' := gb175) (o := .cells #[.slice none 0 0] 26 (0, 0)) (bU BK175.out) NB175_0.out (by simp)); replace HK := kT HK hk; replace HB := aM (hb); replace HI0 := sS73 (hi); clear hb hk hi ho0) | (refine bX (N := 3) rfl (cs := #[.slice none 0 0]) (t := 26) ?_; intro gb181 hg w23 BK181 hb; have GW181 := gK hg HK; have GE181 := gW HW0 (gK hg HK); have NB175_181 := nbL hg BK175; have NB181_175 := nbR hg BK175; have NB0_181 := (nbI hg : Ap g gb181); have NB181_0 := (nbJ hg : Ap gb181 g); replace HO178 := rB HO178 hb; replace HI0 := bS73 g hb; replace BK175 := bB BK175 hb; replace HK := kT HK (KeepBut.of_below hb g none); replace HB := hS HB hb; clear hb hg; obtain ⟨Ao24, co24, eo24⟩ := Kd.R_slice HO178.out; subst eo24; have hnb25 := NB181_175.out; have hnc25 := NB175_181.out; have hnb26 := NB181_0.out; have hnc26 := NB0_181.out; obtain ⟨hcz27_0, hfz27_0⟩ := hC1 BK181) | ((with_reducible refine gG 91 (some 9) rfl rfl ?_); refine gC Tryd.func91 (spec_l1Cur_pick.calls g s0_0 t179 t180 16 t182 t183 t184 w0 _ tS73 (bel HB) A3.out) ?_; rintro w28 ⟨hi, hb, hk⟩; replace BK175 := aM (KeepBut.blk hk (g' := gb175) (o := .cells #[.slice none 0 0] 26 (0, 0)) (by (with_reducible repeat (first | refine blk_drewN ?_ _ | refine blk_drew ?_ | refine blk_alloc ?_ _)); refine blk_far ?_ NB175_181.out _; (with_reducible repeat (first | refine blk_drewN ?_ _ | refine blk_drew ?_ | refine blk_alloc ?_ _)); exact BK175.out) NB175_0.out (by simp)); replace HO178 := aM (Kd.R_mono (Kd.R_keep (IsS73.apart (show IsS73 w0 _ g s0_0 t179 t180 from tS73) (rU (Kd.R_mono (Kd.R_far (p := ⟨gb181, 0, none⟩) (Kd.R_types HO178.out BK181.out (by decide)) (fun _ hk => hk.2) (.slice Ao24 t176.length co24)) (fun _ h_ => h_.1))) (by decide)) hk (fun _ h => h.2)) (fun _ h => h.1)); replace BK181 := aM (KeepBut.blk hk (g' := gb181) (o := .cells #[.slice Ao24 t176.length co24] 26 (0, 0)) (by (with_reducible repeat (first | refine blk_drewN ?_ _ | refine blk_drew ?_ | refine blk_alloc ?_ _)); refine blk_put (cs := #[.slice none 0 0]) ?_ 0 _ rfl; (with_reducible repeat (first | refine blk_drewN ?_ _ | refine blk_drew ?_ | refine blk_alloc ?_ _)); exact BK181.out) NB181_0.out (by simp)); replace HK := kT HK hk; replace HB := aM (hb); replace HI0 := sS73 (hi); clear hb hk hi; have hnb29 := NB175_0.out; have hnc29 := NB0_175.out; obtain ⟨hcz30_0, hfz30_0⟩ := hC1 BK175))
  refine bodyPost_ret (results_cell_row rfl _ _ gb175 26 #[.slice none 0 0] (0, 0) _ rfl (by (with_reducible repeat (first | refine blk_drewN ?_ _ | refine blk_drew ?_ | refine blk_alloc ?_ _)); refine blk_put (cs := #[.slice none 0 0]) ?_ 0 _ rfl; (with_reducible repeat (first | refine blk_drewN ?_ _ | refine blk_drew ?_ | refine blk_alloc ?_ _)); exact BK175.out) Tryd.underlying26 rfl (by kernel_rfl)) rfl ?_
  exact ⟨_, eW, by first | exact Kd.R_nil _ _ _ _ _ | exact Kd.N_nil _ _ _ _ _ | exact Kd.V_nil _ _ _ _ _ | exact Kd.Q_nil _ _ _ _ _ | exact Kd.S_nil _ _ _ _ _, tS73, bel HB, kp HK⟩
 have c20b0 := qF c20
 have c20b1 := nT c20
 refine iI H ?_ ?_ <;> clear H <;> intro c31 H
 ·have c31b0 := qT c31
  have c31b1 := nF c31
  clear c31
  refine iY H ?_; clear H; intro c32 H
  have c32b0 := dT c32
  have c32b1 : decide (0 < t176.length) = true := decide_eq_true (by omega)
  clear c32
  replace H := bC H; obtain ⟨⟨t189, t190, t191⟩, A33, H⟩ := H; try dsimp only at H
  obtain ⟨y192, Ny192⟩ := yN (t176.set (0 : Int).toNat t189 : List ByteArray); rw [← Ny192.out] at H
  simp only [Option.some.injEq, Prod.mk.injEq] at H
  obtain ⟨rfl, rfl, rfl⟩ := H
  go_enter Tryd.func68, Tryd.ntmps68
  try go_wp2_with (first | (refine bX (N := 2) rfl (cs := #[.slice none 0 0]) (t := 26) ?_; intro gb175 hg w35 BK175 hb; have GW175 := gK hg HK; have GE175 := gW HW0 (gK hg HK); have NB0_175 := (nbI hg : Ap g gb175); have NB175_0 := (nbJ hg : Ap gb175 g); replace HI0 := bS73 g hb; replace HK := kT HK (KeepBut.of_below hb g none); replace HB := hS HB hb; clear hb hg) | ((with_reducible refine gG 137 (some 7) rfl rfl ?_); refine gD Tryd.func137 (spec_l1Cur_sureLamps.calls k g s0_0 s0_1 s0_2 t176 t179 t180 w0 _ tS73 (bel HB) A2.out) ?_; rintro w36 v177 ⟨ho0, hi, hb, hk⟩; have HO178 := rK ho0 HK; replace BK175 := aM (KeepBut.blk hk (g' := gb175) (o := .cells #[.slice none 0 0] 26 (0, 0)) (bU BK175.out) NB175_0.out (by simp)); replace HK := kT HK hk; replace HB := aM (hb); replace HI0 := sS73 (hi); clear hb hk hi ho0) | (refine bX (N := 3) rfl (cs := #[.slice none 0 0]) (t := 26) ?_; intro gb181 hg w37 BK181 hb; have GW181 := gK hg HK; have GE181 := gW HW0 (gK hg HK); have NB175_181 := nbL hg BK175; have NB181_175 := nbR hg BK175; have NB0_181 := (nbI hg : Ap g gb181); have NB181_0 := (nbJ hg : Ap gb181 g); replace HO178 := rB HO178 hb; replace HI0 := bS73 g hb; replace BK175 := bB BK175 hb; replace HK := kT HK (KeepBut.of_below hb g none); replace HB := hS HB hb; clear hb hg; obtain ⟨Ao38, co38, eo38⟩ := Kd.R_slice HO178.out; subst eo38; have hnb39 := NB181_175.out; have hnc39 := NB175_181.out; have hnb40 := NB181_0.out; have hnc40 := NB0_181.out; obtain ⟨hcz41_0, hfz41_0⟩ := hC1 BK181) | ((with_reducible refine gG 91 (some 9) rfl rfl ?_); refine gC Tryd.func91 (spec_l1Cur_pick.calls g s0_0 t179 t180 16 t182 t183 t184 w0 _ tS73 (bel HB) A3.out) ?_; rintro w42 ⟨hi, hb, hk⟩; replace BK175 := aM (KeepBut.blk hk (g' := gb175) (o := .cells #[.slice none 0 0] 26 (0, 0)) (by (with_reducible repeat (first | refine blk_drewN ?_ _ | refine blk_drew ?_ | refine blk_alloc ?_ _)); refine blk_far ?_ NB175_181.out _; (with_reducible repeat (first | refine blk_drewN ?_ _ | refine blk_drew ?_ | refine blk_alloc ?_ _)); exact BK175.out) NB175_0.out (by simp)); replace HO178 := aM (Kd.R_mono (Kd.R_keep (IsS73.apart (show IsS73 w0 _ g s0_0 t179 t180 from tS73) (rU (Kd.R_mono (Kd.R_far (p := ⟨gb181, 0, none⟩) (Kd.R_types HO178.out BK181.out (by decide)) (fun _ hk => hk.2) (.slice Ao38 t176.length co38)) (fun _ h_ => h_.1))) (by decide)) hk (fun _ h => h.2)) (fun _ h => h.1)); replace BK181 := aM (KeepBut.blk hk (g' := gb181) (o := .cells #[.slice Ao38 t176.length co38] 26 (0, 0)) (by (with_reducible repeat (first | refine blk_drewN ?_ _ | refine blk_drew ?_ | refine blk_alloc ?_ _)); refine blk_put (cs := #[.slice none 0 0]) ?_ 0 _ rfl; (with_reducible repeat (first | refine blk_drewN ?_ _ | refine blk_drew ?_ | refine blk_alloc ?_ _)); exact BK181.out) NB181_0.out (by simp)); replace HK := kT HK hk; replace HB := aM (hb); replace HI0 := sS73 (hi); clear hb hk hi))
  have n0_ := aM (Kd.R_drew HO178.out)
  have n1_ := aM (blk_drew BK175.out)
  have n2_ := aM (blk_drew BK181.out)
  have n3_ := sS73 (IsS73.drew HI0.out)
  have n4_ := aM (keep_drew HK.out)
  have n5_ := aM (below_drew1 HB.out)
  clear HO178
  clear BK175
  clear BK181
  clear HI0
  clear HK
  clear HB
  have HO178 := n0_
  have BK175 := n1_
  have BK181 := n2_
  have HI0 := n3_
  have HK := n4_
  have HB := n5_
  clear n0_ n1_ n2_ n3_ n4_ n5_
  have p188 : 0 ≤ (0 : Int) := (by omega)
  have q188 : 0 < (t176.length : Int) := oD
  obtain ⟨ad188, e188, hx188_0⟩ := Kd.at_string (Kd.R_reads' HO178.out).2.2 0 p188 q188
  cases e188
  have qi188 : (0 < t176.length) = True := eq_true (by omega)
  (try rw [show ((0 : Int)).toNat = 0 from rfl] at hx188_0)
  (try rw [Addr.add_zero'] at hx188_0)
  replace p188 := eq_true p188
  replace q188 := eq_true q188
  refine start_ (n := 10) (S := fun w' => w'.cell? ⟨gb181, 0, none⟩ = some (.slice (some ad188) t176.length co38) ∧ w'.cell? ad188 = some (.string (rdOf ByteArray.empty t176 0))) (ds := [9]) #[false, false, false, false, false, false, false, false, false, false] (by kernel_rfl) rfl rfl ⟨(blk_cell BK181.out 0).trans rfl, hx188_0⟩ (fun hHeld => ?_); refine with_tabW spec_l1Cur_lamps.tab8 spec_l1Cur_lamps.bits8 (fun HT_ HW_ => ?_)
  generalize w42.drew = w43 at HO178 BK175 BK181 HI0 HK HB hx188_0 hHeld ⊢
  refine pure_ (i := 0) (N := some 22) (v := ?_) (a' := ?_) #[true, false, false, false, false, false, false, false, false, false] rfl rfl (any_of HT_.out (by kernel_rfl)) (fun _ _ _ h => h) (Or.inl ⟨by rfl, ?_⟩) ?_ ?_
  rotate_left
  ·intro w'
   go_simp
   with_reducible rfl
  rotate_left
  ·simp only [Act.put, List.setIfInBounds_toArray, List.set_cons_zero, List.set_cons_succ, i64_w, i32_w]
   rfl
  refine pure_ (i := 2) (N := some 24) (v := ?_) (a' := ?_) #[true, false, true, false, false, false, false, false, false, false] rfl rfl (any_of HT_.out (by kernel_rfl)) (fun _ _ _ h => h) (Or.inl ⟨by rfl, ?_⟩) ?_ ?_
  rotate_left
  ·intro w'
   go_simp
   with_reducible rfl
  rotate_left
  ·simp only [Act.put, List.setIfInBounds_toArray, List.set_cons_zero, List.set_cons_succ, i64_w, i32_w]
   rfl
  refine pure_ (i := 3) (N := some 25) (v := ?_) (a' := ?_) #[true, false, true, true, false, false, false, false, false, false] rfl rfl (any_of HT_.out (by kernel_rfl)) (fun _ _ _ h => h) (Or.inl ⟨by rfl, ?_⟩) ?_ ?_
  rotate_left
  ·intro w'
   go_simp
   with_reducible rfl
  rotate_left
  ·simp only [Act.put, List.setIfInBounds_toArray, List.set_cons_zero, List.set_cons_succ, i64_w, i32_w]
   rfl
  refine take_ (i := 1) (N := some 23) (v := ?_) (a' := ?_) #[true, true, true, true, false, false, false, false, false, false] rfl rfl (take_ofW HT_.out HW_.out (by kernel_rfl)) (fun _ _ _ h => h) (Or.inl ⟨by rfl, ?_⟩) hHeld ?_ ?_
  rotate_left
  ·rintro w' ⟨s0, s1⟩
   go_simp
   with_reducible rfl
  rotate_left
  ·simp only [Act.put, List.setIfInBounds_toArray, List.set_cons_zero, List.set_cons_succ, i64_w, i32_w]
   rfl
  refine take_ (i := 4) (N := some 26) (v := ?_) (a' := ?_) #[true, true, true, true, true, false, false, false, false, false] rfl rfl (take_ofW HT_.out HW_.out (by kernel_rfl)) (fun _ _ _ h => h) (Or.inl ⟨by rfl, ?_⟩) hHeld ?_ ?_
  rotate_left
  ·rintro w' ⟨s0, s1⟩
   go_simp
   with_reducible rfl
  rotate_left
  ·simp only [Act.put, List.setIfInBounds_toArray, List.set_cons_zero, List.set_cons_succ, i64_w, i32_w]
   rfl
  refine pure_ (i := 5) (N := some 27) (v := ?_) (a' := ?_) #[true, true, true, true, true, true, false, false, false, false] rfl rfl (any_of HT_.out (by kernel_rfl)) (fun _ _ _ h => h) (Or.inl ⟨by rfl, ?_⟩) ?_ ?_
  rotate_left
  ·intro w'
   go_simp
   with_reducible rfl
  rotate_left
  ·simp only [Act.put, List.setIfInBounds_toArray, List.set_cons_zero, List.set_cons_succ, i64_w, i32_w]
   rfl
  refine take_ (i := 6) (N := some 28) (v := ?_) (a' := ?_) #[true, true, true, true, true, true, true, false, false, false] rfl rfl (take_ofW HT_.out HW_.out (by kernel_rfl)) (fun _ _ _ h => h) (Or.inl ⟨by rfl, ?_⟩) hHeld ?_ ?_
  rotate_left
  ·rintro w' ⟨s0, s1⟩
   go_simp
   with_reducible rfl
  rotate_left
  ·simp only [Act.put, List.setIfInBounds_toArray, List.set_cons_zero, List.set_cons_succ, i64_w, i32_w]
   rfl
  refine one_ (i := 7) (N := some 29) #[true, true, true, true, true, true, true, true, false, false] rfl rfl (one_of HT_.out (by kernel_rfl)) (by decide) (fun K hK => ?_)
  refine goes_ Tryd.func138 (by kernel_rfl) rfl #[.pointer (some ⟨g, 0, none⟩), .string (rdOf ByteArray.empty t176 0), .string (⟨#[48, 49, 63, 120]⟩ : ByteArray)] (by rfl) rfl rfl (by (try simp only [List.map_toArray, List.map_cons, List.map_nil]); first | done | rfl | (simp only [List.length_drop, List.length_take]; rfl)) ?_
  with_reducible refine (spec_l1Cur_spoilt.calls k g s0_0 t183 t184 (rdOf ByteArray.empty t176 0) (⟨#[48, 49, 63, 120]⟩ : ByteArray) t189 t190 t191 w0 _ ?side1 ?side2 A33.out).mono ?_
  (case side1 => exact tS73)
  (case side2 => exact bel HB)
  rintro e w44 ⟨rfl, hi, hb, hk⟩
  have HS1_ := keep_cell hk (hHeld.2) (by first | (rw [add_block]; exact Kd.own_blk (IsS73.own_ne HI0.out HO178.out (by decide))) | (show (Addr.add _ _).block ≠ _; rw [add_block]; exact Kd.own_blk (IsS73.own_ne HI0.out HO178.out (by decide))) | exact Kd.own_blk (IsS73.own_ne HI0.out HO178.out (by decide)))
  refine ⟨_, rfl, ?_⟩
  have n0_ := aM (KeepBut.blk hk (g' := gb175) (o := .cells #[.slice none 0 0] 26 (0, 0)) (bU BK175.out) NB175_0.out (by simp))
  have n1_ := aM (Kd.R_mono (Kd.R_keep (IsS73.apart (show IsS73 w0 _ g s0_0 t183 t184 from tS73) (rU HO178.out) (by decide)) hk (fun _ h => h.2)) (fun _ h => h.1))
  have n2_ := aM (KeepBut.blk hk (g' := gb181) (o := .cells #[.slice (some ad188) t176.length co38] 26 (0, 0)) (bU BK181.out) NB181_0.out (by simp))
  have n3_ := kT HK hk
  have n4_ := aM (hb)
  have n5_ := sS73 (hi)
  clear BK175
  clear HO178
  clear BK181
  clear HK
  clear HB
  clear HI0
  have BK175 := n0_
  have HO178 := n1_
  have BK181 := n2_
  have HK := n3_
  have HB := n4_
  have HI0 := n5_
  clear n0_ n1_ n2_ n3_ n4_ n5_
  (try clear hb)
  (try clear hb2)
  (try clear hk)
  (try clear hi)
  have p34 : 0 ≤ (0 : Int) := (by omega)
  have q34 : (0 : Int) < ((t176.length : Int) : Int) := oD
  have qi34 : (0 < t176.length) = True := eq_true (by omega)
  obtain ⟨go34, co34, eo34, gb34, gl34, cl34, HG34⟩ := Kd.R_form HO178.out (by omega)
  (first | cases eo34 | (injection eo34 with ea_ en_ ec_; (first | subst ea_ | (injection ea_ with ea_; subst ea_)); subst ec_; clear en_))
  have GB34 := aM gb34
  have GG34 := aM HG34
  clear gb34 gl34 HG34
  (first | simp only [add_plain] at hx188_0 | skip)
  obtain ⟨hx34_0, hf34_0⟩ := Kd.R_celln (⟨#[]⟩ : ByteArray) HO178.out (0 : Int) p34 q34
  (try rw [show ((0 : Int)).toNat = 0 from rfl] at hx34_0)
  (try simp only [Nat.reduceMul, Nat.zero_mul, Nat.zero_add, Nat.reduceAdd] at hx34_0)
  (try rw [show ((0 : Int)).toNat = 0 from rfl] at hf34_0)
  (try simp only [Nat.reduceMul, Nat.zero_mul, Nat.zero_add, Nat.reduceAdd] at hf34_0)
  replace p34 := eq_true p34
  replace q34 := eq_true q34
  have HN0_go34 := aM (show g ≠ go34 from by have h_ := IsS73.own_ne HI0.out HO178.out (by decide); intro e_; exact h_ (by rw [e_]; rfl))
  have HP45 := Kd.R_putn HO178.out (0 : Int) t189
  rw [← Ny192.out] at HP45
  have HQ45 := aM HP45
  clear HP45
  refine hK.out _ _ ⟨(blk_cell BK181.out 0).trans rfl, HS1_⟩ (fun hHeld => ?_)
  clear hK K
  refine norm_ (a' := ?_) ?_ ?_
  rotate_left
  ·show Act.put _ (some 29) _ = _
   simp only [Act.put, List.setIfInBounds_toArray, List.set_cons_zero, List.set_cons_succ, i64_w, i32_w]
   rfl
  refine pure_ (i := 8) (N := some 30) (v := ?_) (a' := ?_) #[true, true, true, true, true, true, true, true, true, false] rfl rfl (any_of HT_.out (by kernel_rfl)) (fun _ _ _ h => h) (Or.inl ⟨by rfl, ?_⟩) ?_ ?_
  rotate_left
  ·intro w'
   go_simp
   with_reducible rfl
  rotate_left
  ·simp only [Act.put, List.setIfInBounds_toArray, List.set_cons_zero, List.set_cons_succ, i64_w, i32_w]
   rfl
  refine last_ (i := 9) (N := none) #[true, true, true, true, true, true, true, true, true, true] rfl rfl (one_of HT_.out (by kernel_rfl)) (by decide) (fun K hK => ?_)
  refine skip_ (w1 := ?_) (by rfl) rfl ?_ ?_
  rotate_left
  ·go_simp
   rfl
  refine hK.out _ _ ?_
  clear hK K
  refine done_ (done_of HT_.out (by kernel_rfl)) ?_
  have n0_ : Aside0 (Kd.R Kd.string 9 (w44.setCell ⟨go34, 0, none⟩ (.string t189)) w.heap.size (fun _ => True) (.slice (some ⟨go34, 0, none⟩) t176.length co38) y192) := ⟨by (with_reducible repeat (first | apply Kd.R_alloc | apply Kd.R_drewN | apply Kd.R_drew)); exact HQ45.out⟩
  have n1_ : Aside0 ((w44.setCell ⟨go34, 0, none⟩ (.string t189)).heap[gb175]? = some (.cells #[.slice none 0 0] 26 (0, 0))) := ⟨by (with_reducible repeat (first | refine blk_drewN ?_ _ | refine blk_drew ?_ | refine blk_alloc ?_ _)); refine blk_far ?_ (by have h_ := Kd.R_ne HO178.out BK175.out (by decide); intro e_; exact h_ (by rw [e_]; rfl)) _; (with_reducible repeat (first | refine blk_drewN ?_ _ | refine blk_drew ?_ | refine blk_alloc ?_ _)); exact BK175.out⟩
  have n2_ : Aside0 ((w44.setCell ⟨go34, 0, none⟩ (.string t189)).heap[gb181]? = some (.cells #[.slice (some ⟨go34, 0, none⟩) t176.length co38] 26 (0, 0))) := ⟨by (with_reducible repeat (first | refine blk_drewN ?_ _ | refine blk_drew ?_ | refine blk_alloc ?_ _)); refine blk_far ?_ (by have h_ := Kd.R_ne HO178.out BK181.out (by decide); intro e_; exact h_ (by rw [e_]; rfl)) _; (with_reducible repeat (first | refine blk_drewN ?_ _ | refine blk_drew ?_ | refine blk_alloc ?_ _)); exact BK181.out⟩
  have n3_ : IsC73 w0 (w44.setCell ⟨go34, 0, none⟩ (.string t189)) g s0_0 t190 t191 := ⟨by repeat (first | (with_reducible first | exact HI0.out | apply IsS73.alloc | apply IsS73.drewN | apply IsS73.drew | apply IsS73.set_1 | apply IsS73.set_2 | refine IsS73.far ?_ HN0_go34.out _ | refine IsS73.far ?_ NB0_175.out _ | refine IsS73.far ?_ NB0_181.out _) | exact HI0.out)⟩
  have n4_ : Aside0 (KeepBut w (w44.setCell ⟨go34, 0, none⟩ (.string t189)) g none) := ⟨by repeat (first | (with_reducible first | exact HK.out | apply KeepBut.set_ | apply keep_drewN | apply keep_drew | apply keep_alloc | refine keep_far ?_ GB34.out _ | refine keep_far ?_ GW175.out _ | refine keep_far ?_ GW181.out _) | exact HK.out)⟩
  have n5_ : Aside0 (Below w0.heap.size w0 (w44.setCell ⟨go34, 0, none⟩ (.string t189))) := ⟨by repeat (first | (with_reducible first | exact HB.out | apply below_alloc | apply pw_below_drewN | apply below_drew1 | refine below_set ?_ (Nat.le_trans HL.out GB34.out) | refine below_set ?_ (IsS73.ge HI0.out) | refine below_set ?_ GE175.out | refine below_set ?_ GE181.out) | exact HB.out)⟩
  (try clear HO178)
  (try clear BK175)
  (try clear BK181)
  (try clear HI0)
  (try clear HK)
  (try clear HB)
  generalize (w44.setCell ⟨go34, 0, none⟩ (.string t189)) = w46 at n0_ n1_ n2_ n3_ n4_ n5_ ⊢
  have HO178 := n0_
  have BK175 := n1_
  have BK181 := n2_
  have HI0 := n3_
  have HK := n4_
  have HB := n5_
  clear n0_ n1_ n2_ n3_ n4_ n5_
  obtain ⟨hcz47_0, hfz47_0⟩ := hC1 BK181
  have hnb48 := NB175_0.out
  have hnc48 := NB0_175.out
  obtain ⟨hcz49_0, hfz49_0⟩ := hC1 BK175
  try go_wp2
  refine bodyPost_ret (results_cell_row rfl _ _ gb175 26 #[.slice (some ⟨go34, 0, none⟩) t176.length co38] (0, 0) _ rfl (by (with_reducible repeat (first | refine blk_drewN ?_ _ | refine blk_drew ?_ | refine blk_alloc ?_ _)); refine blk_put (cs := #[.slice none 0 0]) ?_ 0 _ rfl; (with_reducible repeat (first | refine blk_drewN ?_ _ | refine blk_drew ?_ | refine blk_alloc ?_ _)); exact BK175.out) Tryd.underlying26 rfl (by kernel_rfl)) rfl ?_
  exact ⟨_, eW, rU (Kd.R_mono (Kd.R_far (p := ⟨gb175, 0, none⟩) (Kd.R_types HO178.out BK175.out (by decide)) (fun _ hk => hk.2) (.slice (some ⟨go34, 0, none⟩) t176.length co38)) (fun _ hk => trivial)), tS73, bel HB, kp HK⟩
 have c31b0 := qF c31
 have c31b1 := nT c31
 refine iI H ?_ ?_ <;> clear H <;> intro c50 H
 ·have c50b0 := qT c50
  have c50b1 := nF c50
  clear c50
  replace H := bC H; obtain ⟨⟨t193, t196⟩, A51, H⟩ := H; try dsimp only at H
  simp only [Option.some.injEq, Prod.mk.injEq] at H
  obtain ⟨rfl, rfl, rfl⟩ := H
  go_enter Tryd.func68, Tryd.ntmps68
  go_wp2_with (first | (refine bX (N := 2) rfl (cs := #[.slice none 0 0]) (t := 26) ?_; intro gb175 hg w52 BK175 hb; have GW175 := gK hg HK; have GE175 := gW HW0 (gK hg HK); have NB0_175 := (nbI hg : Ap g gb175); have NB175_0 := (nbJ hg : Ap gb175 g); replace HI0 := bS73 g hb; replace HK := kT HK (KeepBut.of_below hb g none); replace HB := hS HB hb; clear hb hg) | ((with_reducible refine gG 137 (some 7) rfl rfl ?_); refine gD Tryd.func137 (spec_l1Cur_sureLamps.calls k g s0_0 s0_1 s0_2 t176 t179 t180 w0 _ tS73 (bel HB) A2.out) ?_; rintro w53 v177 ⟨ho0, hi, hb, hk⟩; have HO178 := rK ho0 HK; replace BK175 := aM (KeepBut.blk hk (g' := gb175) (o := .cells #[.slice none 0 0] 26 (0, 0)) (bU BK175.out) NB175_0.out (by simp)); replace HK := kT HK hk; replace HB := aM (hb); replace HI0 := sS73 (hi); clear hb hk hi ho0) | (refine bX (N := 3) rfl (cs := #[.slice none 0 0]) (t := 26) ?_; intro gb181 hg w54 BK181 hb; have GW181 := gK hg HK; have GE181 := gW HW0 (gK hg HK); have NB175_181 := nbL hg BK175; have NB181_175 := nbR hg BK175; have NB0_181 := (nbI hg : Ap g gb181); have NB181_0 := (nbJ hg : Ap gb181 g); replace HO178 := rB HO178 hb; replace HI0 := bS73 g hb; replace BK175 := bB BK175 hb; replace HK := kT HK (KeepBut.of_below hb g none); replace HB := hS HB hb; clear hb hg; obtain ⟨Ao55, co55, eo55⟩ := Kd.R_slice HO178.out; subst eo55; have hnb56 := NB181_175.out; have hnc56 := NB175_181.out; have hnb57 := NB181_0.out; have hnc57 := NB0_181.out; obtain ⟨hcz58_0, hfz58_0⟩ := hC1 BK181) | ((with_reducible refine gG 91 (some 9) rfl rfl ?_); refine gC Tryd.func91 (spec_l1Cur_pick.calls g s0_0 t179 t180 16 t182 t183 t184 w0 _ tS73 (bel HB) A3.out) ?_; rintro w59 ⟨hi, hb, hk⟩; replace BK175 := aM (KeepBut.blk hk (g' := gb175) (o := .cells #[.slice none 0 0] 26 (0, 0)) (by (with_reducible repeat (first | refine blk_drewN ?_ _ | refine blk_drew ?_ | refine blk_alloc ?_ _)); refine blk_far ?_ NB175_181.out _; (with_reducible repeat (first | refine blk_drewN ?_ _ | refine blk_drew ?_ | refine blk_alloc ?_ _)); exact BK175.out) NB175_0.out (by simp)); replace HO178 := aM (Kd.R_mono (Kd.R_keep (IsS73.apart (show IsS73 w0 _ g s0_0 t179 t180 from tS73) (rU (Kd.R_mono (Kd.R_far (p := ⟨gb181, 0, none⟩) (Kd.R_types HO178.out BK181.out (by decide)) (fun _ hk => hk.2) (.slice Ao55 t176.length co55)) (fun _ h_ => h_.1))) (by decide)) hk (fun _ h => h.2)) (fun _ h => h.1)); replace BK181 := aM (KeepBut.blk hk (g' := gb181) (o := .cells #[.slice Ao55 t176.length co55] 26 (0, 0)) (by (with_reducible repeat (first | refine blk_drewN ?_ _ | refine blk_drew ?_ | refine blk_alloc ?_ _)); refine blk_put (cs := #[.slice none 0 0]) ?_ 0 _ rfl; (with_reducible repeat (first | refine blk_drewN ?_ _ | refine blk_drew ?_ | refine blk_alloc ?_ _)); exact BK181.out) NB181_0.out (by simp)); replace HK := kT HK hk; replace HB := aM (hb); replace HI0 := sS73 (hi); clear hb hk hi) | ((with_reducible refine gG 139 (some 34) rfl rfl ?_); refine gD Tryd.func139 (spec_CountingLamps.calls k 10 t193 t196 _ A51.out) ?_; rintro w60 v194 ⟨ho0, hb⟩; have HO195 := aM (Kd.R_lower (Kd.R_new' ho0 (Kd.R_lt (rU HO178.out))) (keep_size (w := w) (g := g) (row := none) (kp HK))); replace HO178 := aM (Kd.R_elder' (rU HO178.out) (Kd.R_base ho0) hb); replace HI0 := bS73 g hb; replace BK175 := bB BK175 hb; replace BK181 := bB BK181 hb; replace HK := kT HK (KeepBut.of_below hb g none); replace HB := hS HB hb; clear hb ho0) | (refine bX (N := 4) rfl (cs := #[.slice none 0 0]) (t := 26) ?_; intro gb197 hg w61 BK197 hb; have GW197 := gK hg HK; have GE197 := gW HW0 (gK hg HK); have NB175_197 := nbL hg BK175; have NB197_175 := nbR hg BK175; have NB181_197 := nbL hg BK181; have NB197_181 := nbR hg BK181; have NB0_197 := (nbI hg : Ap g gb197); have NB197_0 := (nbJ hg : Ap gb197 g); replace HO178 := rB HO178 hb; replace HO195 := rB HO195 hb; replace HI0 := bS73 g hb; replace BK175 := bB BK175 hb; replace BK181 := bB BK181 hb; replace HK := kT HK (KeepBut.of_below hb g none); replace HB := hS HB hb; clear hb hg; obtain ⟨Ao62, co62, eo62⟩ := Kd.R_slice HO195.out; subst eo62; have hnb63 := NB197_175.out; have hnc63 := NB175_197.out; have hnb64 := NB197_181.out; have hnc64 := NB181_197.out; have hnb65 := NB197_0.out; have hnc65 := NB0_197.out; obtain ⟨hcz66_0, hfz66_0⟩ := hC1 BK197; have hnb67 := NB175_0.out; have hnc67 := NB0_175.out; obtain ⟨hcz68_0, hfz68_0⟩ := hC1 BK175))
  refine bodyPost_ret (results_cell_row rfl _ _ gb175 26 #[.slice Ao62 t193.length co62] (0, 0) _ rfl (by (with_reducible repeat (first | refine blk_drewN ?_ _ | refine blk_drew ?_ | refine blk_alloc ?_ _)); refine blk_put (cs := #[.slice none 0 0]) ?_ 0 _ rfl; (with_reducible repeat (first | refine blk_drewN ?_ _ | refine blk_drew ?_ | refine blk_alloc ?_ _)); refine blk_far ?_ NB175_197.out _; (with_reducible repeat (first | refine blk_drewN ?_ _ | refine blk_drew ?_ | refine blk_alloc ?_ _)); exact BK175.out) Tryd.underlying26 rfl (by kernel_rfl)) rfl ?_
  exact ⟨_, eW, rU (Kd.R_mono (Kd.R_far (p := ⟨gb175, 0, none⟩) (Kd.R_far (p := ⟨gb197, 0, none⟩) (Kd.R_types (Kd.R_types HO195.out BK197.out (by decide)) BK175.out (by decide)) (fun _ hk => hk.1.2) (.slice Ao62 t193.length co62)) (fun _ hk => hk.2) (.slice Ao62 t193.length co62)) (fun _ hk => trivial)), tS73, bel HB, kp HK⟩
 have c50b0 := qF c50
 have c50b1 := nT c50
 simp only [Option.some.injEq, Prod.mk.injEq] at H
 obtain ⟨rfl, rfl, rfl⟩ := H
 go_enter Tryd.func68, Tryd.ntmps68
 go_wp2_with (first | (refine bX (N := 2) rfl (cs := #[.slice none 0 0]) (t := 26) ?_; intro gb175 hg w69 BK175 hb; have GW175 := gK hg HK; have GE175 := gW HW0 (gK hg HK); have NB0_175 := (nbI hg : Ap g gb175); have NB175_0 := (nbJ hg : Ap gb175 g); replace HI0 := bS73 g hb; replace HK := kT HK (KeepBut.of_below hb g none); replace HB := hS HB hb; clear hb hg) | ((with_reducible refine gG 137 (some 7) rfl rfl ?_); refine gD Tryd.func137 (spec_l1Cur_sureLamps.calls k g s0_0 s0_1 s0_2 t176 t179 t180 w0 _ tS73 (bel HB) A2.out) ?_; rintro w70 v177 ⟨ho0, hi, hb, hk⟩; have HO178 := rK ho0 HK; replace BK175 := aM (KeepBut.blk hk (g' := gb175) (o := .cells #[.slice none 0 0] 26 (0, 0)) (bU BK175.out) NB175_0.out (by simp)); replace HK := kT HK hk; replace HB := aM (hb); replace HI0 := sS73 (hi); clear hb hk hi ho0) | (refine bX (N := 3) rfl (cs := #[.slice none 0 0]) (t := 26) ?_; intro gb181 hg w71 BK181 hb; have GW181 := gK hg HK; have GE181 := gW HW0 (gK hg HK); have NB175_181 := nbL hg BK175; have NB181_175 := nbR hg BK175; have NB0_181 := (nbI hg : Ap g gb181); have NB181_0 := (nbJ hg : Ap gb181 g); replace HO178 := rB HO178 hb; replace HI0 := bS73 g hb; replace BK175 := bB BK175 hb; replace HK := kT HK (KeepBut.of_below hb g none); replace HB := hS HB hb; clear hb hg; obtain ⟨Ao72, co72, eo72⟩ := Kd.R_slice HO178.out; subst eo72; have hnb73 := NB181_175.out; have hnc73 := NB175_181.out; have hnb74 := NB181_0.out; have hnc74 := NB0_181.out; obtain ⟨hcz75_0, hfz75_0⟩ := hC1 BK181) | ((with_reducible refine gG 91 (some 9) rfl rfl ?_); refine gC Tryd.func91 (spec_l1Cur_pick.calls g s0_0 t179 t180 16 t182 t183 t184 w0 _ tS73 (bel HB) A3.out) ?_; rintro w76 ⟨hi, hb, hk⟩; replace BK175 := aM (KeepBut.blk hk (g' := gb175) (o := .cells #[.slice none 0 0] 26 (0, 0)) (by (with_reducible repeat (first | refine blk_drewN ?_ _ | refine blk_drew ?_ | refine blk_alloc ?_ _)); refine blk_far ?_ NB175_181.out _; (with_reducible repeat (first | refine blk_drewN ?_ _ | refine blk_drew ?_ | refine blk_alloc ?_ _)); exact BK175.out) NB175_0.out (by simp)); replace HO178 := aM (Kd.R_mono (Kd.R_keep (IsS73.apart (show IsS73 w0 _ g s0_0 t179 t180 from tS73) (rU (Kd.R_mono (Kd.R_far (p := ⟨gb181, 0, none⟩) (Kd.R_types HO178.out BK181.out (by decide)) (fun _ hk => hk.2) (.slice Ao72 t176.length co72)) (fun _ h_ => h_.1))) (by decide)) hk (fun _ h => h.2)) (fun _ h => h.1)); replace BK181 := aM (KeepBut.blk hk (g' := gb181) (o := .cells #[.slice Ao72 t176.length co72] 26 (0, 0)) (by (with_reducible repeat (first | refine blk_drewN ?_ _ | refine blk_drew ?_ | refine blk_alloc ?_ _)); refine blk_put (cs := #[.slice none 0 0]) ?_ 0 _ rfl; (with_reducible repeat (first | refine blk_drewN ?_ _ | refine blk_drew ?_ | refine blk_alloc ?_ _)); exact BK181.out) NB181_0.out (by simp)); replace HK := kT HK hk; replace HB := aM (hb); replace HI0 := sS73 (hi); clear hb hk hi; obtain ⟨hcz77_0, hfz77_0⟩ := hC1 BK181; have hnb78 := NB175_0.out; have hnc78 := NB0_175.out; obtain ⟨hcz79_0, hfz79_0⟩ := hC1 BK175))
 refine bodyPost_ret (results_cell_row rfl _ _ gb175 26 #[.slice Ao72 t176.length co72] (0, 0) _ rfl (by (with_reducible repeat (first | refine blk_drewN ?_ _ | refine blk_drew ?_ | refine blk_alloc ?_ _)); refine blk_put (cs := #[.slice none 0 0]) ?_ 0 _ rfl; (with_reducible repeat (first | refine blk_drewN ?_ _ | refine blk_drew ?_ | refine blk_alloc ?_ _)); exact BK175.out) Tryd.underlying26 rfl (by kernel_rfl)) rfl ?_
 exact ⟨_, eW, rU (Kd.R_mono (Kd.R_far (p := ⟨gb175, 0, none⟩) (Kd.R_types HO178.out BK175.out (by decide)) (fun _ hk => hk.2) (.slice Ao72 t176.length co72)) (fun _ hk => trivial)), tS73, bel HB, kp HK⟩

/-! ### spec_l1Cur_one: function 140 -/
def spec_l1Cur_one.f (s0_0 : List Int) (s0_1 : Int) (s0_2 : Int) (a1 : Int) : Option (Bool × Int × Int) := (spec_l1Cur_pick.f s0_0 s0_1 s0_2 a1).bind fun bt198 => (some ((bt198.1 == 0), bt198.2.1, bt198.2.2))
set_option maxHeartbeats 8000000 in
set_option maxRecDepth 100000 in
theorem spec_l1Cur_one.calls (g : Nat) (s0_0 : List Int) (s0_1 : Int) (s0_2 : Int) (a1 : Int) (r1 : Bool) (r2 : Int) (r3 : Int) (w0 w : World) (hI : IsS73 w0 w g s0_0 s0_1 s0_2) (hB : Below w0.heap.size w0 w) (h : spec_l1Cur_one.f s0_0 s0_1 s0_2 a1 = some (r1, r2, r3)) :
  Calls Tryd.prog 140 #[.pointer (some ⟨g, 0, none⟩), .int .i64 a1] w fun e w' => e = .returned (.bool r1) ∧ IsS73 w0 w' g s0_0 r2 r3 ∧ Below w0.heap.size w0 w' ∧ KeepBut w w' g none := by
 have HI0 := sS73 hI
 have GI_HI0 := IsS73.geI HI0
 have HK := aM (KeepBut.refl w g none)
 have HL := aM hB.size
 clear hI
 have HW0 := aM hB.size
 have HB := aM hB
 clear hB
 have H := h
 clear h; unfold spec_l1Cur_one.f at H
 replace H := bC H; obtain ⟨⟨t198, t199, t200⟩, A3, H⟩ := H; try dsimp only at H
 simp only [Option.some.injEq, Prod.mk.injEq] at H
 obtain ⟨rfl, rfl, rfl⟩ := H
 go_enter Tryd.func140, Tryd.ntmps140
 go_wp2_with (first | ((with_reducible refine gG 91 (some 7) rfl rfl ?_); refine gC Tryd.func91 (spec_l1Cur_pick.calls g s0_0 s0_1 s0_2 a1 t198 t199 t200 w0 _ tS73 (bel HB) A3.out) ?_; rintro w4 ⟨hi, hb, hk⟩; replace HK := kT HK hk; replace HB := aM (hb); replace HI0 := sS73 (hi); clear hb hk hi))
 go_ret
 exact ⟨eW, tS73, bel HB, kp HK⟩

end Go.Proofs.YtiiahdjjngdgoaaDoor.PLTick
