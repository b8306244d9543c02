-- PRINTED by drive.py (a program of this session's, over the kit's print.py; wip/tools/drive.py). Lean checks it.
import Derived.Test.YtifdgebdkhdmhaaDoorZSq
import Derived.Test.YtifdgebdkhdmhaaDoorZPLTickx0
import Derived.Test.YtifdgebdkhdmhaaDoorZPLTickx7
import Derived.Test.YtifdgebdkhdmhaaDoorZPLTickx8
import Derived.Test.YtifdgebdkhdmhaaDoorZPLTickx9
namespace Go.Proofs.YtifdgebdkhdmhaaDoor.PLTick
open Go.RowKit Go.Proofs.YtifdgebdkhdmhaaDoorW.PrintWords Go.Proofs.YtifdgebdkhdmhaaDoorW.PrintLast Go.Proofs.YtifdgebdkhdmhaaDoorW.PrintMore
attribute [local go_sem] max2_int min2_int max_two min_two max_three min_three max_four min_four   -- for this text's walks alone
set_option linter.unusedVariables false
set_option linter.unusedSimpArgs false

/-! ### spec_l1Cur_spoilt: function 202 -/
mutual
def spec_l1Cur_spoilt.l0 : Nat → ByteArray → ByteArray → Int → List Int → Int → Int → Option (ByteArray × Int × Int)
 | 0, _, _, _, _, _, _ => none
 | k + 1, x1, x2, x7, x1000, x1001, x1002 => if x7 > 0 then (spec_l1Cur_spoilt.j1 k x1 x2 x7 (decide ((x1.size : Int) > 0)) x1000 x1001 x1002) else (spec_l1Cur_spoilt.j1 k x1 x2 x7 false x1000 x1001 x1002)
def spec_l1Cur_spoilt.j1 : Nat → ByteArray → ByteArray → Int → Bool → List Int → Int → Int → Option (ByteArray × Int × Int)
 | 0, _, _, _, _, _, _, _ => none
 | k + 1, x1, x2, x7, x19, x1000, x1001, x1002 => if x19 = true then ((spec_l1Cur_pick.f x1000 x1001 x1002 (x1.size : Int)).bind fun bt294 => ((spec_l1Cur_pick.f x1000 bt294.2.1 bt294.2.2 (x2.size : Int)).bind fun bt297 => (if 0 ≤ bt297.1 then (if bt297.1 < (x2.size : Int) then ((some (([bt x2 bt297.1] : List Int) : List Int)).bind fun y300 => ((spec_l1Cur_pick.f x1000 bt297.2.1 bt297.2.2 3).bind fun bt303 => (if bt303.1 = 0 then (if 0 ≤ bt294.1 then (if bt294.1 ≤ (x1.size : Int) then (if (x1.extract 0 (bt294.1 : Int).toNat).size + (strOfNums y300).size ≤ 9223372036854775807 then (if ((x1.extract 0 (bt294.1 : Int).toNat) ++ (strOfNums y300)).size + (x1.extract (bt294.1 : Int).toNat x1.size).size ≤ 9223372036854775807 then (spec_l1Cur_spoilt.l0 k (((x1.extract 0 (bt294.1 : Int).toNat) ++ (strOfNums y300)) ++ (x1.extract (bt294.1 : Int).toNat x1.size)) x2 (wrap64 (x7 - 1)) x1000 bt303.2.1 bt303.2.2) else (none)) else (none)) else (none)) else (none)) else (if bt303.1 = 1 then (if 0 ≤ bt294.1 then (if bt294.1 ≤ (x1.size : Int) then (if (x1.extract 0 (bt294.1 : Int).toNat).size + (strOfNums y300).size ≤ 9223372036854775807 then (if 0 ≤ (wrap64 (bt294.1 + 1)) then (if (wrap64 (bt294.1 + 1)) ≤ (x1.size : Int) then (if ((x1.extract 0 (bt294.1 : Int).toNat) ++ (strOfNums y300)).size + (x1.extract ((wrap64 (bt294.1 + 1)) : Int).toNat x1.size).size ≤ 9223372036854775807 then (spec_l1Cur_spoilt.l0 k (((x1.extract 0 (bt294.1 : Int).toNat) ++ (strOfNums y300)) ++ (x1.extract ((wrap64 (bt294.1 + 1)) : Int).toNat x1.size)) x2 (wrap64 (x7 - 1)) x1000 bt303.2.1 bt303.2.2) else (none)) else (none)) else (none)) else (none)) else (none)) else (none)) else (if 0 ≤ bt294.1 then (if bt294.1 ≤ (x1.size : Int) then (if 0 ≤ (wrap64 (bt294.1 + 1)) then (if (wrap64 (bt294.1 + 1)) ≤ (x1.size : Int) then (if (x1.extract 0 (bt294.1 : Int).toNat).size + (x1.extract ((wrap64 (bt294.1 + 1)) : Int).toNat x1.size).size ≤ 9223372036854775807 then (spec_l1Cur_spoilt.l0 k ((x1.extract 0 (bt294.1 : Int).toNat) ++ (x1.extract ((wrap64 (bt294.1 + 1)) : Int).toNat x1.size)) x2 (wrap64 (x7 - 1)) x1000 bt303.2.1 bt303.2.2) else (none)) else (none)) else (none)) else (none)) else (none)))))) else (none)) else (none)))) else (some (x1, x1001, x1002))
end
def spec_l1Cur_spoilt.f (k : Nat) (s0_0 : List Int) (s0_1 : Int) (s0_2 : Int) (a1 : ByteArray) (a2 : ByteArray) : Option (ByteArray × Int × Int) := (spec_l1Cur_pick.f s0_0 s0_1 s0_2 2).bind fun bt291 => (spec_l1Cur_spoilt.l0 k a1 a2 (wrap64 (1 + bt291.1)) s0_0 bt291.2.1 bt291.2.2)
theorem spec_l1Cur_spoilt.mono_l : ∀ k, (∀ y0 y1 y2 y3 y4 y5, LeO (spec_l1Cur_spoilt.l0 k y0 y1 y2 y3 y4 y5) (spec_l1Cur_spoilt.l0 (k + 1) y0 y1 y2 y3 y4 y5)) ∧ (∀ y0 y1 y2 y3 y4 y5 y6, LeO (spec_l1Cur_spoilt.j1 k y0 y1 y2 y3 y4 y5 y6) (spec_l1Cur_spoilt.j1 (k + 1) y0 y1 y2 y3 y4 y5 y6))
 | 0 => ⟨fun _ _ _ _ _ _ r h => by simp [spec_l1Cur_spoilt.l0] at h, fun _ _ _ _ _ _ _ r h => by simp [spec_l1Cur_spoilt.j1] at h⟩
 | k + 1 => by
  obtain ⟨ih0, ih1⟩ := spec_l1Cur_spoilt.mono_l k
  refine ⟨?_, ?_⟩
  ·intro y0 y1 y2 y3 y4 y5
   unfold spec_l1Cur_spoilt.l0
   repeat' first
   | wE ih0 _ _ _ _ _ _
   | wE ih1 _ _ _ _ _ _ _
   | wE LeO.refl _
   | wE LeO.none _
   | wR LeO.ite ?_ ?_
   | wR LeO.bind ?_ (fun _ => ?_)
   | exact ih0 _ _ _ _ _ _
   | exact ih1 _ _ _ _ _ _ _
   | exact LeO.none _
   | refine LeO.ite ?_ ?_
   | refine LeO.bind ?_ (fun _ => ?_)
  ·intro y0 y1 y2 y3 y4 y5 y6
   unfold spec_l1Cur_spoilt.j1
   repeat' first
   | wE ih0 _ _ _ _ _ _
   | wE ih1 _ _ _ _ _ _ _
   | wE LeO.refl _
   | wE LeO.none _
   | wR LeO.ite ?_ ?_
   | wR LeO.bind ?_ (fun _ => ?_)
   | exact ih0 _ _ _ _ _ _
   | exact ih1 _ _ _ _ _ _ _
   | exact LeO.none _
   | refine LeO.ite ?_ ?_
   | refine LeO.bind ?_ (fun _ => ?_)
theorem spec_l1Cur_spoilt.mono : ∀ a0 a1 a2 a3 a4 k, LeO (spec_l1Cur_spoilt.f k a0 a1 a2 a3 a4) (spec_l1Cur_spoilt.f (k + 1) a0 a1 a2 a3 a4) := by
 intro a0 a1 a2 a3 a4 k
 obtain ⟨ih0, ih1⟩ := spec_l1Cur_spoilt.mono_l k
 unfold spec_l1Cur_spoilt.f
 repeat' first
   | wE ih0 _ _ _ _ _ _
   | wE ih1 _ _ _ _ _ _ _
   | wE LeO.refl _
   | wE LeO.none _
   | wR LeO.ite ?_ ?_
   | wR LeO.bind ?_ (fun _ => ?_)
   | exact ih0 _ _ _ _ _ _
   | exact ih1 _ _ _ _ _ _ _
   | exact LeO.none _
   | refine LeO.ite ?_ ?_
   | refine LeO.bind ?_ (fun _ => ?_)
set_option maxHeartbeats 8000000 in
set_option maxRecDepth 100000 in
theorem spec_l1Cur_spoilt.calls (k : Nat) (g : Nat) (s0_0 : List Int) (s0_1 : Int) (s0_2 : Int) (a1 : ByteArray) (a2 : ByteArray) (r1 : ByteArray) (r2 : Int) (r3 : Int) (w0 w : World) (hI : IsS147 w0 w g s0_0 s0_1 s0_2) (hB : Below w0.heap.size w0 w) (h : spec_l1Cur_spoilt.f k s0_0 s0_1 s0_2 a1 a2 = some (r1, r2, r3)) :
  Calls Tryd.prog 202 #[.pointer (some ⟨g, 0, none⟩), .string a1, .string a2] w fun e w' => e = .returned (.string r1) ∧ IsS147 w0 w' g s0_0 r2 r3 ∧ Below w0.heap.size w0 w' ∧ KeepBut w w' g none := by
 have HI0 := aM hI
 have HK := aM (KeepBut.refl w g none)
 have HL := aM hB.size
 clear hI
 have HW0 := aM hB.size
 have HB := aM hB
 clear hB
 have H : ((spec_l1Cur_pick.f s0_0 s0_1 s0_2 2).bind fun bt291 => (spec_l1Cur_spoilt.l0 k a1 a2 (wrap64 (1 + bt291.1)) s0_0 bt291.2.1 bt291.2.2)) = some (r1, r2, r3) := h
 clear h
 replace H := Option.bind_eq_some_iff.mp H
 obtain ⟨⟨t291, t292, t293⟩, A40, H⟩ := H
 dsimp only at H
 have A4 := aM A40
 clear A40
 have H' := aM H
 clear H
 go_enter Tryd.func202, Tryd.ntmps202
 go_wp2_with (first | (go_at_call 168; (with_reducible refine (spec_l1Cur_pick.calls g s0_0 s0_1 s0_2 2 t291 t292 t293 w0 _ ?side1 ?side2 A4.out).mono ?_); (case side1 => iI); (case side2 => iB); rintro e w5 ⟨rfl, hi, hb, hk⟩; have n0_ := aM (KeepBut.trans (by iK) hk (.inl rfl)); have n1_ := aM (hb); have n2_ := aM (hi); clear HK; clear HB; clear HI0; have HK := n0_; have HB := n1_; have HI0 := n2_; clear n0_ n1_ n2_; cX))
 repeat (go_quiet (first | (go_at_call 168; (with_reducible refine (spec_l1Cur_pick.calls g s0_0 s0_1 s0_2 2 t291 t292 t293 w0 _ ?side1 ?side2 A4.out).mono ?_); (case side1 => iI); (case side2 => iB); rintro e w5 ⟨rfl, hi, hb, hk⟩; have n0_ := aM (KeepBut.trans (by iK) hk (.inl rfl)); have n1_ := aM (hb); have n2_ := aM (hi); clear HK; clear HB; clear HI0; have HK := n0_; have HB := n1_; have HI0 := n2_; clear n0_ n1_ n2_; cX)); try go_wp2_with (first | (go_at_call 168; (with_reducible refine (spec_l1Cur_pick.calls g s0_0 s0_1 s0_2 2 t291 t292 t293 w0 _ ?side1 ?side2 A4.out).mono ?_); (case side1 => iI); (case side2 => iB); rintro e w5 ⟨rfl, hi, hb, hk⟩; have n0_ := aM (KeepBut.trans (by iK) hk (.inl rfl)); have n1_ := aM (hb); have n2_ := aM (hi); clear HK; clear HB; clear HI0; have HK := n0_; have HB := n1_; have HI0 := n2_; clear n0_ n1_ n2_; cX)))
 go_loopg [1, 7] k (fun kq v1 v7 w' => ∃ (x1_1 : ByteArray) (x7_1 : Int) (x1001_1 : Int) (x1002_1 : Int), v1 = .string x1_1 ∧ v7 = .int .i64 x7_1 ∧ Aside0 (spec_l1Cur_spoilt.l0 kq x1_1 a2 x7_1 s0_0 x1001_1 x1002_1 = some (r1, r2, r3)) ∧ Aside0 (kq ≤ k) ∧ Aside0 (IsS147 w0 w' g s0_0 x1001_1 x1002_1) ∧ Aside0 (KeepBut w w' g none) ∧ Aside0 (Below w0.heap.size w0 w'))
 case atStart => exact ⟨(a1), (wrap64 (1 + t291)), (t292), (t293), (by rF), (by rF), H', ⟨Nat.le_refl _⟩, ⟨by iI⟩, ⟨by iK⟩, ⟨by iB⟩⟩
 case round =>
  clear H'
  try clear c2
  try clear p2
  obtain ⟨x1_1, x7_1, x1001_1, x1002_1, rfl, rfl, HA, HK1, HI0, HK, HB⟩ := hrel
  cases gk with
  | zero => exact absurd HA.out (by simp [spec_l1Cur_spoilt.l0])
  | succ k1 =>
   have H := HA.out
   clear HA
   simp only [spec_l1Cur_spoilt.l0] at H
   have HC6 := aM H
   clear H
   go_upto_region 2 with (fail)
   repeat (go_quiet (fail); go_upto_region 2 with (fail))
   go_cut [19] (fun v19 wc => ∃ (kq : Nat) (x19_5 : Bool), v19 = .bool x19_5 ∧ Aside0 (spec_l1Cur_spoilt.j1 kq x1_1 a2 x7_1 x19_5 s0_0 x1001_1 x1002_1 = some (r1, r2, r3)) ∧ Aside0 (kq ≤ k1) ∧ Aside0 (IsS147 w0 wc g s0_0 x1001_1 x1002_1) ∧ Aside0 (KeepBut w wc g none) ∧ Aside0 (Below w0.heap.size w0 wc))
   case first =>
    have H := HC6.out
    clear HC6
    by_cases c7 : x7_1 > 0
    ·rw [if_pos c7] at H
     have c7b0 : decide (0 < x7_1) = true := decide_eq_true c7
     clear c7
     (first | rw [c7b0] | (simp only [i64_w, i32_w]; rw [c7b0]) | skip)
     have H' := aM H
     clear H
     go_wp2
     repeat (go_quiet (fail); try go_wp2)
     go_meet
     case rel => exact ⟨_, (decide ((x1_1.size : Int) > 0)), (by rF), H', ⟨by have := HK1.out; first | omega | exact Nat.le_refl _⟩, ⟨by iI⟩, ⟨by iK⟩, ⟨by iB⟩⟩
    ·rw [if_neg c7] at H
     have c7b0 : decide (0 < x7_1) = false := decide_eq_false c7
     clear c7
     (first | rw [c7b0] | (simp only [i64_w, i32_w]; rw [c7b0]) | skip)
     have H' := aM H
     clear H
     go_wp2
     repeat (go_quiet (fail); try go_wp2)
     go_meet
     case rel => exact ⟨_, (false), (by rF), H', ⟨by have := HK1.out; first | omega | exact Nat.le_refl _⟩, ⟨by iI⟩, ⟨by iK⟩, ⟨by iB⟩⟩
   case rest =>
    clear HC6
    try clear c2
    try clear p2
    try clear p6
    try clear c7
    try clear c7b0
    try clear p2
    obtain ⟨kq, x19_5, rfl, HA, HJ5, HI0, HK, HB⟩ := hcut
    cases kq with
    | zero => exact absurd HA.out (by simp [spec_l1Cur_spoilt.j1])
    | succ kj5 =>
     have H := HA.out
     clear HA
     simp only [spec_l1Cur_spoilt.j1] at H
     by_cases c8 : x19_5 = true
     ·subst c8
      rw [if_pos rfl] at H
      replace H := Option.bind_eq_some_iff.mp H
      obtain ⟨⟨t294, t295, t296⟩, A90, H⟩ := H
      dsimp only at H
      have A9 := aM A90
      clear A90
      replace H := Option.bind_eq_some_iff.mp H
      obtain ⟨⟨t297, t298, t299⟩, A100, H⟩ := H
      dsimp only at H
      have A10 := aM A100
      clear A100
      by_cases c11 : 0 ≤ t297
      ·rw [if_pos c11] at H
       have c11b0 : decide (0 ≤ t297) = true := decide_eq_true c11
       clear c11
       by_cases c12 : t297 < (a2.size : Int)
       ·rw [if_pos c12] at H
        have c12b0 : decide (t297 < (a2.size : Int)) = true := decide_eq_true c12
        clear c12
        obtain ⟨y300, hy300⟩ : ∃ y_ : List Int, y_ = (([bt a2 t297] : List Int)) := ⟨_, rfl⟩
        replace H : ((spec_l1Cur_pick.f s0_0 t298 t299 3).bind fun bt303 => (if bt303.1 = 0 then (if 0 ≤ t294 then (if t294 ≤ (x1_1.size : Int) then (if (x1_1.extract 0 (t294 : Int).toNat).size + (strOfNums y300).size ≤ 9223372036854775807 then (if ((x1_1.extract 0 (t294 : Int).toNat) ++ (strOfNums y300)).size + (x1_1.extract (t294 : Int).toNat x1_1.size).size ≤ 9223372036854775807 then (spec_l1Cur_spoilt.l0 kj5 (((x1_1.extract 0 (t294 : Int).toNat) ++ (strOfNums y300)) ++ (x1_1.extract (t294 : Int).toNat x1_1.size)) a2 (wrap64 (x7_1 - 1)) s0_0 bt303.2.1 bt303.2.2) else (none)) else (none)) else (none)) else (none)) else (if bt303.1 = 1 then (if 0 ≤ t294 then (if t294 ≤ (x1_1.size : Int) then (if (x1_1.extract 0 (t294 : Int).toNat).size + (strOfNums y300).size ≤ 9223372036854775807 then (if 0 ≤ (wrap64 (t294 + 1)) then (if (wrap64 (t294 + 1)) ≤ (x1_1.size : Int) then (if ((x1_1.extract 0 (t294 : Int).toNat) ++ (strOfNums y300)).size + (x1_1.extract ((wrap64 (t294 + 1)) : Int).toNat x1_1.size).size ≤ 9223372036854775807 then (spec_l1Cur_spoilt.l0 kj5 (((x1_1.extract 0 (t294 : Int).toNat) ++ (strOfNums y300)) ++ (x1_1.extract ((wrap64 (t294 + 1)) : Int).toNat x1_1.size)) a2 (wrap64 (x7_1 - 1)) s0_0 bt303.2.1 bt303.2.2) else (none)) else (none)) else (none)) else (none)) else (none)) else (none)) else (if 0 ≤ t294 then (if t294 ≤ (x1_1.size : Int) then (if 0 ≤ (wrap64 (t294 + 1)) then (if (wrap64 (t294 + 1)) ≤ (x1_1.size : Int) then (if (x1_1.extract 0 (t294 : Int).toNat).size + (x1_1.extract ((wrap64 (t294 + 1)) : Int).toNat x1_1.size).size ≤ 9223372036854775807 then (spec_l1Cur_spoilt.l0 kj5 ((x1_1.extract 0 (t294 : Int).toNat) ++ (x1_1.extract ((wrap64 (t294 + 1)) : Int).toNat x1_1.size)) a2 (wrap64 (x7_1 - 1)) s0_0 bt303.2.1 bt303.2.2) else (none)) else (none)) else (none)) else (none)) else (none))))) = some (r1, r2, r3) := by fH hy300
        have Ny300 := aM hy300
        clear hy300
        replace H := Option.bind_eq_some_iff.mp H
        obtain ⟨⟨t303, t304, t305⟩, A140, H⟩ := H
        dsimp only at H
        have A14 := aM A140
        clear A140
        by_cases c15 : t303 = 0
        ·rw [if_pos c15] at H
         have c15b0 : (t303 == 0) = true := beq_iff_eq.mpr c15
         have c15b1 : (t303 != 0) = false := bne_eq_false_iff_eq.mpr c15
         clear c15
         by_cases c16 : 0 ≤ t294
         ·rw [if_pos c16] at H
          have c16b0 := eq_true c16
          have c16b1 : decide (0 ≤ t294) = true := decide_eq_true c16
          clear c16
          by_cases c17 : t294 ≤ (x1_1.size : Int)
          ·rw [if_pos c17] at H
           have c17b0 := eq_true c17
           have c17b1 : decide (t294 ≤ (x1_1.size : Int)) = true := decide_eq_true c17
           clear c17
           by_cases c18 : (x1_1.extract 0 (t294 : Int).toNat).size + (strOfNums y300).size ≤ 9223372036854775807
           ·rw [if_pos c18] at H
            have c18b0 := eq_true c18
            have c18b1 : decide ((x1_1.extract 0 (t294 : Int).toNat).size + (strOfNums y300).size ≤ 9223372036854775807) = true := decide_eq_true c18
            try have c18b2 : (9223372036854775807 < (x1_1.extract 0 (t294 : Int).toNat).size + (strOfNums y300).size) = False := eq_false (Nat.not_lt.2 c18)
            have c19b0 := eq_true (of_decide_eq_true (by first | (with_reducible assumption) | assumption) : 0 ≤ t294)
            have c20b0 := eq_true (of_decide_eq_true (by first | (with_reducible assumption) | assumption) : t294 ≤ (x1_1.size : Int))
            by_cases c21 : ((x1_1.extract 0 (t294 : Int).toNat) ++ (strOfNums y300)).size + (x1_1.extract (t294 : Int).toNat x1_1.size).size ≤ 9223372036854775807
            ·rw [if_pos c21] at H
             have c21b0 := eq_true c21
             have c21b1 : decide (((x1_1.extract 0 (t294 : Int).toNat) ++ (strOfNums y300)).size + (x1_1.extract (t294 : Int).toNat x1_1.size).size ≤ 9223372036854775807) = true := decide_eq_true c21
             try have c21b2 : (9223372036854775807 < ((x1_1.extract 0 (t294 : Int).toNat) ++ (strOfNums y300)).size + (x1_1.extract (t294 : Int).toNat x1_1.size).size) = False := eq_false (Nat.not_lt.2 c21)
             try have c21q : (9223372036854775807 < (x1_1.extract 0 (t294 : Int).toNat).size + (strOfNums y300).size + (x1_1.extract (t294 : Int).toNat x1_1.size).size) = False := eq_false (Nat.not_lt.2 (by have h_ := c21; (try simp only [ByteArray.size_append] at h_); exact h_))
             have H' := aM H
             clear H
             go_wp2_with (first | (go_at_call 168; (with_reducible refine (spec_l1Cur_pick.calls g s0_0 x1001_1 x1002_1 (x1_1.size : Int) t294 t295 t296 w0 _ ?side1 ?side2 A9.out).mono ?_); (case side1 => iI); (case side2 => iB); rintro e w22 ⟨rfl, hi, hb, hk⟩; have n0_ := aM (KeepBut.trans (by iK) hk (.inl rfl)); have n1_ := aM (hb); have n2_ := aM (hi); clear HK; clear HB; clear HI0; have HK := n0_; have HB := n1_; have HI0 := n2_; clear n0_ n1_ n2_; cX) | (go_at_call 168; (with_reducible refine (spec_l1Cur_pick.calls g s0_0 t295 t296 (a2.size : Int) t297 t298 t299 w0 _ ?side1 ?side2 A10.out).mono ?_); (case side1 => iI); (case side2 => iB); rintro e w23 ⟨rfl, hi, hb, hk⟩; have n0_ := aM (KeepBut.trans (by iK) hk (.inl rfl)); have n1_ := aM (hb); have n2_ := aM (hi); clear HK; clear HB; clear HI0; have HK := n0_; have HB := n1_; have HI0 := n2_; clear n0_ n1_ n2_; cX; have p13 : 0 ≤ (t297 : Int) := of_decide_eq_true (by first | (with_reducible assumption) | assumption); have q13 : t297 < (a2.size : Int) := of_decide_eq_true (by first | (with_reducible assumption) | assumption); have hx13 := bt_at a2 t297; replace p13 := eq_true p13; replace q13 := eq_true q13) | ((with_reducible refine gate_dst (N := 32) rfl ?_); (try (refine gate_guard (by rfl) ?_; dsimp only)); refine Kd.R_lit (Kd.int .u8) _ 5 ?hg (N := 32) ?hd (xs := ([bt a2 t297] : List Int)) (inner := [.int .u8 (bt a2 t297)]) (ok := fun _ => True) (okp := fun _ => True) ?hr ?hp (fun _ hk => hk) trivial (Below.refl _ _) (Nat.le_refl _) (by simp) ?_; (case hd => rfl); (case hg => rfl); (case hr => first | (go_simp; done) | (go_simp; rfl)); (case hp => exact (Reps.one (show Kd.M (Kd.int .u8) _ _ _ (bt a2 t297) [.int .u8 (bt a2 t297)] from rfl) (Reps.none _ _))); intro v301 w24 ho25 hb hg_ hnew_; clear hg_ hnew_; (first | rw [← Ny300.out] at ho25 | (simp only [Int.reduceToNat] at ho25; rw [← Ny300.out] at ho25)); have n0_ := aM (Kd.R_lower ho25 (keep_size (w := w) (g := g) (row := none) (by iK))); have n1_ := aM (IsS147.below (by iI) hb); have n2_ := aM (KeepBut.trans (by iK) (KeepBut.of_below hb g none) (.inl rfl)); have n3_ := aM (below_step (by iB) hb); clear HI0; clear HK; clear HB; have HO302 := n0_; have HI0 := n1_; have HK := n2_; have HB := n3_; clear n0_ n1_ n2_ n3_; clear hb ho25; have hcv26 := own_string (P := Tryd.prog) Tryd.underlying77 Tryd.underlying5 Tryd.underlying9 (Kd.own_of_R HO302.out)) | (go_at_call 168; (with_reducible refine (spec_l1Cur_pick.calls g s0_0 t298 t299 3 t303 t304 t305 w0 _ ?side1 ?side2 A14.out).mono ?_); (case side1 => iI); (case side2 => iB); rintro e w27 ⟨rfl, hi, hb, hk⟩; have n0_ := aM (Kd.R_mono (Kd.R_keep (IsS147.apart (show IsS147 w0 _ g s0_0 t298 t299 from by iI) (by (rX); exact HO302.out) (by decide)) hk (fun _ h => h.2)) (fun _ h => h.1)); have n1_ := aM (KeepBut.trans (by iK) hk (.inl rfl)); have n2_ := aM (hb); have n3_ := aM (hi); clear HO302; clear HK; clear HB; clear HI0; have HO302 := n0_; have HK := n1_; have HB := n2_; have HI0 := n3_; clear n0_ n1_ n2_ n3_; cX))
             repeat (go_quiet (first | (go_at_call 168; (with_reducible refine (spec_l1Cur_pick.calls g s0_0 x1001_1 x1002_1 (x1_1.size : Int) t294 t295 t296 w0 _ ?side1 ?side2 A9.out).mono ?_); (case side1 => iI); (case side2 => iB); rintro e w22 ⟨rfl, hi, hb, hk⟩; have n0_ := aM (KeepBut.trans (by iK) hk (.inl rfl)); have n1_ := aM (hb); have n2_ := aM (hi); clear HK; clear HB; clear HI0; have HK := n0_; have HB := n1_; have HI0 := n2_; clear n0_ n1_ n2_; cX) | (go_at_call 168; (with_reducible refine (spec_l1Cur_pick.calls g s0_0 t295 t296 (a2.size : Int) t297 t298 t299 w0 _ ?side1 ?side2 A10.out).mono ?_); (case side1 => iI); (case side2 => iB); rintro e w23 ⟨rfl, hi, hb, hk⟩; have n0_ := aM (KeepBut.trans (by iK) hk (.inl rfl)); have n1_ := aM (hb); have n2_ := aM (hi); clear HK; clear HB; clear HI0; have HK := n0_; have HB := n1_; have HI0 := n2_; clear n0_ n1_ n2_; cX; have p13 : 0 ≤ (t297 : Int) := of_decide_eq_true (by first | (with_reducible assumption) | assumption); have q13 : t297 < (a2.size : Int) := of_decide_eq_true (by first | (with_reducible assumption) | assumption); have hx13 := bt_at a2 t297; replace p13 := eq_true p13; replace q13 := eq_true q13) | ((with_reducible refine gate_dst (N := 32) rfl ?_); (try (refine gate_guard (by rfl) ?_; dsimp only)); refine Kd.R_lit (Kd.int .u8) _ 5 ?hg (N := 32) ?hd (xs := ([bt a2 t297] : List Int)) (inner := [.int .u8 (bt a2 t297)]) (ok := fun _ => True) (okp := fun _ => True) ?hr ?hp (fun _ hk => hk) trivial (Below.refl _ _) (Nat.le_refl _) (by simp) ?_; (case hd => rfl); (case hg => rfl); (case hr => first | (go_simp; done) | (go_simp; rfl)); (case hp => exact (Reps.one (show Kd.M (Kd.int .u8) _ _ _ (bt a2 t297) [.int .u8 (bt a2 t297)] from rfl) (Reps.none _ _))); intro v301 w24 ho25 hb hg_ hnew_; clear hg_ hnew_; (first | rw [← Ny300.out] at ho25 | (simp only [Int.reduceToNat] at ho25; rw [← Ny300.out] at ho25)); have n0_ := aM (Kd.R_lower ho25 (keep_size (w := w) (g := g) (row := none) (by iK))); have n1_ := aM (IsS147.below (by iI) hb); have n2_ := aM (KeepBut.trans (by iK) (KeepBut.of_below hb g none) (.inl rfl)); have n3_ := aM (below_step (by iB) hb); clear HI0; clear HK; clear HB; have HO302 := n0_; have HI0 := n1_; have HK := n2_; have HB := n3_; clear n0_ n1_ n2_ n3_; clear hb ho25; have hcv26 := own_string (P := Tryd.prog) Tryd.underlying77 Tryd.underlying5 Tryd.underlying9 (Kd.own_of_R HO302.out)) | (go_at_call 168; (with_reducible refine (spec_l1Cur_pick.calls g s0_0 t298 t299 3 t303 t304 t305 w0 _ ?side1 ?side2 A14.out).mono ?_); (case side1 => iI); (case side2 => iB); rintro e w27 ⟨rfl, hi, hb, hk⟩; have n0_ := aM (Kd.R_mono (Kd.R_keep (IsS147.apart (show IsS147 w0 _ g s0_0 t298 t299 from by iI) (by (rX); exact HO302.out) (by decide)) hk (fun _ h => h.2)) (fun _ h => h.1)); have n1_ := aM (KeepBut.trans (by iK) hk (.inl rfl)); have n2_ := aM (hb); have n3_ := aM (hi); clear HO302; clear HK; clear HB; clear HI0; have HO302 := n0_; have HK := n1_; have HB := n2_; have HI0 := n3_; clear n0_ n1_ n2_ n3_; cX)); try go_wp2_with (first | (go_at_call 168; (with_reducible refine (spec_l1Cur_pick.calls g s0_0 x1001_1 x1002_1 (x1_1.size : Int) t294 t295 t296 w0 _ ?side1 ?side2 A9.out).mono ?_); (case side1 => iI); (case side2 => iB); rintro e w22 ⟨rfl, hi, hb, hk⟩; have n0_ := aM (KeepBut.trans (by iK) hk (.inl rfl)); have n1_ := aM (hb); have n2_ := aM (hi); clear HK; clear HB; clear HI0; have HK := n0_; have HB := n1_; have HI0 := n2_; clear n0_ n1_ n2_; cX) | (go_at_call 168; (with_reducible refine (spec_l1Cur_pick.calls g s0_0 t295 t296 (a2.size : Int) t297 t298 t299 w0 _ ?side1 ?side2 A10.out).mono ?_); (case side1 => iI); (case side2 => iB); rintro e w23 ⟨rfl, hi, hb, hk⟩; have n0_ := aM (KeepBut.trans (by iK) hk (.inl rfl)); have n1_ := aM (hb); have n2_ := aM (hi); clear HK; clear HB; clear HI0; have HK := n0_; have HB := n1_; have HI0 := n2_; clear n0_ n1_ n2_; cX; have p13 : 0 ≤ (t297 : Int) := of_decide_eq_true (by first | (with_reducible assumption) | assumption); have q13 : t297 < (a2.size : Int) := of_decide_eq_true (by first | (with_reducible assumption) | assumption); have hx13 := bt_at a2 t297; replace p13 := eq_true p13; replace q13 := eq_true q13) | ((with_reducible refine gate_dst (N := 32) rfl ?_); (try (refine gate_guard (by rfl) ?_; dsimp only)); refine Kd.R_lit (Kd.int .u8) _ 5 ?hg (N := 32) ?hd (xs := ([bt a2 t297] : List Int)) (inner := [.int .u8 (bt a2 t297)]) (ok := fun _ => True) (okp := fun _ => True) ?hr ?hp (fun _ hk => hk) trivial (Below.refl _ _) (Nat.le_refl _) (by simp) ?_; (case hd => rfl); (case hg => rfl); (case hr => first | (go_simp; done) | (go_simp; rfl)); (case hp => exact (Reps.one (show Kd.M (Kd.int .u8) _ _ _ (bt a2 t297) [.int .u8 (bt a2 t297)] from rfl) (Reps.none _ _))); intro v301 w24 ho25 hb hg_ hnew_; clear hg_ hnew_; (first | rw [← Ny300.out] at ho25 | (simp only [Int.reduceToNat] at ho25; rw [← Ny300.out] at ho25)); have n0_ := aM (Kd.R_lower ho25 (keep_size (w := w) (g := g) (row := none) (by iK))); have n1_ := aM (IsS147.below (by iI) hb); have n2_ := aM (KeepBut.trans (by iK) (KeepBut.of_below hb g none) (.inl rfl)); have n3_ := aM (below_step (by iB) hb); clear HI0; clear HK; clear HB; have HO302 := n0_; have HI0 := n1_; have HK := n2_; have HB := n3_; clear n0_ n1_ n2_ n3_; clear hb ho25; have hcv26 := own_string (P := Tryd.prog) Tryd.underlying77 Tryd.underlying5 Tryd.underlying9 (Kd.own_of_R HO302.out)) | (go_at_call 168; (with_reducible refine (spec_l1Cur_pick.calls g s0_0 t298 t299 3 t303 t304 t305 w0 _ ?side1 ?side2 A14.out).mono ?_); (case side1 => iI); (case side2 => iB); rintro e w27 ⟨rfl, hi, hb, hk⟩; have n0_ := aM (Kd.R_mono (Kd.R_keep (IsS147.apart (show IsS147 w0 _ g s0_0 t298 t299 from by iI) (by (rX); exact HO302.out) (by decide)) hk (fun _ h => h.2)) (fun _ h => h.1)); have n1_ := aM (KeepBut.trans (by iK) hk (.inl rfl)); have n2_ := aM (hb); have n3_ := aM (hi); clear HO302; clear HK; clear HB; clear HI0; have HO302 := n0_; have HK := n1_; have HB := n2_; have HI0 := n3_; clear n0_ n1_ n2_ n3_; cX)))
             go_roundg kj5
             case measure => have := HK1.out; have := HJ5.out; omega
             case rel => exact ⟨(((x1_1.extract 0 (t294 : Int).toNat) ++ (strOfNums y300)) ++ (x1_1.extract (t294 : Int).toNat x1_1.size)), (wrap64 (x7_1 - 1)), (t304), (t305), (by rF), (by rF), H', ⟨by have := HK1.out; have := HJ5.out; omega⟩, ⟨by iI⟩, ⟨by iK⟩, ⟨by iB⟩⟩
            ·rw [if_neg c21] at H
             exact absurd H (by simp)
           ·rw [if_neg c18] at H
            exact absurd H (by simp)
          ·rw [if_neg c17] at H
           exact absurd H (by simp)
         ·rw [if_neg c16] at H
          exact absurd H (by simp)
        ·rw [if_neg c15] at H
         have c15b0 : (t303 == 0) = false := beq_eq_false_iff_ne.mpr c15
         have c15b1 : (t303 != 0) = true := bne_iff_ne.mpr c15
         by_cases c28 : t303 = 1
         ·rw [if_pos c28] at H
          have c28b0 : (t303 == 1) = true := beq_iff_eq.mpr c28
          have c28b1 : (t303 != 1) = false := bne_eq_false_iff_eq.mpr c28
          clear c28
          by_cases c29 : 0 ≤ t294
          ·rw [if_pos c29] at H
           have c29b0 := eq_true c29
           have c29b1 : decide (0 ≤ t294) = true := decide_eq_true c29
           clear c29
           by_cases c30 : t294 ≤ (x1_1.size : Int)
           ·rw [if_pos c30] at H
            have c30b0 := eq_true c30
            have c30b1 : decide (t294 ≤ (x1_1.size : Int)) = true := decide_eq_true c30
            clear c30
            by_cases c31 : (x1_1.extract 0 (t294 : Int).toNat).size + (strOfNums y300).size ≤ 9223372036854775807
            ·rw [if_pos c31] at H
             have c31b0 := eq_true c31
             have c31b1 : decide ((x1_1.extract 0 (t294 : Int).toNat).size + (strOfNums y300).size ≤ 9223372036854775807) = true := decide_eq_true c31
             try have c31b2 : (9223372036854775807 < (x1_1.extract 0 (t294 : Int).toNat).size + (strOfNums y300).size) = False := eq_false (Nat.not_lt.2 c31)
             obtain ⟨ji32, hji32⟩ : ∃ j_ : Int, (wrap64 (t294 + 1)) = j_ := ⟨_, rfl⟩
             replace H : (if 0 ≤ (ji32) then (if (ji32) ≤ (x1_1.size : Int) then (if ((x1_1.extract 0 (t294 : Int).toNat) ++ (strOfNums y300)).size + (x1_1.extract ((ji32) : Int).toNat x1_1.size).size ≤ 9223372036854775807 then (spec_l1Cur_spoilt.l0 kj5 (((x1_1.extract 0 (t294 : Int).toNat) ++ (strOfNums y300)) ++ (x1_1.extract ((ji32) : Int).toNat x1_1.size)) a2 (wrap64 (x7_1 - 1)) s0_0 t304 t305) else (none)) else (none)) else (none)) = some (r1, r2, r3) := by first | (rw [hji32] at H; exact H) | (simp only [hji32] at H ⊢; exact H)
             (try rw [hji32] at A9)
             (try rw [hji32] at A10)
             (try rw [hji32] at A14)
             have hji32w : (IntKind.i64.wrap (t294 + 1)) = ji32 := (i64_w _).trans hji32
             by_cases c33 : 0 ≤ (ji32)
             ·rw [if_pos c33] at H
              have c33b0 := eq_true c33
              have c33b1 : decide (0 ≤ (ji32)) = true := decide_eq_true c33
              clear c33
              by_cases c34 : (ji32) ≤ (x1_1.size : Int)
              ·rw [if_pos c34] at H
               have c34b0 := eq_true c34
               have c34b1 : decide ((ji32) ≤ (x1_1.size : Int)) = true := decide_eq_true c34
               clear c34
               by_cases c35 : ((x1_1.extract 0 (t294 : Int).toNat) ++ (strOfNums y300)).size + (x1_1.extract ((ji32) : Int).toNat x1_1.size).size ≤ 9223372036854775807
               ·rw [if_pos c35] at H
                have c35b0 := eq_true c35
                have c35b1 : decide (((x1_1.extract 0 (t294 : Int).toNat) ++ (strOfNums y300)).size + (x1_1.extract ((ji32) : Int).toNat x1_1.size).size ≤ 9223372036854775807) = true := decide_eq_true c35
                try have c35b2 : (9223372036854775807 < ((x1_1.extract 0 (t294 : Int).toNat) ++ (strOfNums y300)).size + (x1_1.extract ((ji32) : Int).toNat x1_1.size).size) = False := eq_false (Nat.not_lt.2 c35)
                try have c35q : (9223372036854775807 < (x1_1.extract 0 (t294 : Int).toNat).size + (strOfNums y300).size + (x1_1.extract ((ji32) : Int).toNat x1_1.size).size) = False := eq_false (Nat.not_lt.2 (by have h_ := c35; (try simp only [ByteArray.size_append] at h_); exact h_))
                have H' := aM H
                clear H
                go_wp2_with (first | (go_at_call 168; (with_reducible refine (spec_l1Cur_pick.calls g s0_0 x1001_1 x1002_1 (x1_1.size : Int) t294 t295 t296 w0 _ ?side1 ?side2 A9.out).mono ?_); (case side1 => iI); (case side2 => iB); rintro e w36 ⟨rfl, hi, hb, hk⟩; have n0_ := aM (KeepBut.trans (by iK) hk (.inl rfl)); have n1_ := aM (hb); have n2_ := aM (hi); clear HK; clear HB; clear HI0; have HK := n0_; have HB := n1_; have HI0 := n2_; clear n0_ n1_ n2_; cX) | (go_at_call 168; (with_reducible refine (spec_l1Cur_pick.calls g s0_0 t295 t296 (a2.size : Int) t297 t298 t299 w0 _ ?side1 ?side2 A10.out).mono ?_); (case side1 => iI); (case side2 => iB); rintro e w37 ⟨rfl, hi, hb, hk⟩; have n0_ := aM (KeepBut.trans (by iK) hk (.inl rfl)); have n1_ := aM (hb); have n2_ := aM (hi); clear HK; clear HB; clear HI0; have HK := n0_; have HB := n1_; have HI0 := n2_; clear n0_ n1_ n2_; cX; have p13 : 0 ≤ (t297 : Int) := of_decide_eq_true (by first | (with_reducible assumption) | assumption); have q13 : t297 < (a2.size : Int) := of_decide_eq_true (by first | (with_reducible assumption) | assumption); have hx13 := bt_at a2 t297; replace p13 := eq_true p13; replace q13 := eq_true q13) | ((with_reducible refine gate_dst (N := 32) rfl ?_); (try (refine gate_guard (by rfl) ?_; dsimp only)); refine Kd.R_lit (Kd.int .u8) _ 5 ?hg (N := 32) ?hd (xs := ([bt a2 t297] : List Int)) (inner := [.int .u8 (bt a2 t297)]) (ok := fun _ => True) (okp := fun _ => True) ?hr ?hp (fun _ hk => hk) trivial (Below.refl _ _) (Nat.le_refl _) (by simp) ?_; (case hd => rfl); (case hg => rfl); (case hr => first | (go_simp; done) | (go_simp; rfl)); (case hp => exact (Reps.one (show Kd.M (Kd.int .u8) _ _ _ (bt a2 t297) [.int .u8 (bt a2 t297)] from rfl) (Reps.none _ _))); intro v301 w38 ho39 hb hg_ hnew_; clear hg_ hnew_; (first | rw [← Ny300.out] at ho39 | (simp only [Int.reduceToNat] at ho39; rw [← Ny300.out] at ho39)); have n0_ := aM (Kd.R_lower ho39 (keep_size (w := w) (g := g) (row := none) (by iK))); have n1_ := aM (IsS147.below (by iI) hb); have n2_ := aM (KeepBut.trans (by iK) (KeepBut.of_below hb g none) (.inl rfl)); have n3_ := aM (below_step (by iB) hb); clear HI0; clear HK; clear HB; have HO302 := n0_; have HI0 := n1_; have HK := n2_; have HB := n3_; clear n0_ n1_ n2_ n3_; clear hb ho39; have hcv40 := own_string (P := Tryd.prog) Tryd.underlying77 Tryd.underlying5 Tryd.underlying9 (Kd.own_of_R HO302.out)) | (go_at_call 168; (with_reducible refine (spec_l1Cur_pick.calls g s0_0 t298 t299 3 t303 t304 t305 w0 _ ?side1 ?side2 A14.out).mono ?_); (case side1 => iI); (case side2 => iB); rintro e w41 ⟨rfl, hi, hb, hk⟩; have n0_ := aM (Kd.R_mono (Kd.R_keep (IsS147.apart (show IsS147 w0 _ g s0_0 t298 t299 from by iI) (by (rX); exact HO302.out) (by decide)) hk (fun _ h => h.2)) (fun _ h => h.1)); have n1_ := aM (KeepBut.trans (by iK) hk (.inl rfl)); have n2_ := aM (hb); have n3_ := aM (hi); clear HO302; clear HK; clear HB; clear HI0; have HO302 := n0_; have HK := n1_; have HB := n2_; have HI0 := n3_; clear n0_ n1_ n2_ n3_; cX))
                repeat (go_quiet (first | (go_at_call 168; (with_reducible refine (spec_l1Cur_pick.calls g s0_0 x1001_1 x1002_1 (x1_1.size : Int) t294 t295 t296 w0 _ ?side1 ?side2 A9.out).mono ?_); (case side1 => iI); (case side2 => iB); rintro e w36 ⟨rfl, hi, hb, hk⟩; have n0_ := aM (KeepBut.trans (by iK) hk (.inl rfl)); have n1_ := aM (hb); have n2_ := aM (hi); clear HK; clear HB; clear HI0; have HK := n0_; have HB := n1_; have HI0 := n2_; clear n0_ n1_ n2_; cX) | (go_at_call 168; (with_reducible refine (spec_l1Cur_pick.calls g s0_0 t295 t296 (a2.size : Int) t297 t298 t299 w0 _ ?side1 ?side2 A10.out).mono ?_); (case side1 => iI); (case side2 => iB); rintro e w37 ⟨rfl, hi, hb, hk⟩; have n0_ := aM (KeepBut.trans (by iK) hk (.inl rfl)); have n1_ := aM (hb); have n2_ := aM (hi); clear HK; clear HB; clear HI0; have HK := n0_; have HB := n1_; have HI0 := n2_; clear n0_ n1_ n2_; cX; have p13 : 0 ≤ (t297 : Int) := of_decide_eq_true (by first | (with_reducible assumption) | assumption); have q13 : t297 < (a2.size : Int) := of_decide_eq_true (by first | (with_reducible assumption) | assumption); have hx13 := bt_at a2 t297; replace p13 := eq_true p13; replace q13 := eq_true q13) | ((with_reducible refine gate_dst (N := 32) rfl ?_); (try (refine gate_guard (by rfl) ?_; dsimp only)); refine Kd.R_lit (Kd.int .u8) _ 5 ?hg (N := 32) ?hd (xs := ([bt a2 t297] : List Int)) (inner := [.int .u8 (bt a2 t297)]) (ok := fun _ => True) (okp := fun _ => True) ?hr ?hp (fun _ hk => hk) trivial (Below.refl _ _) (Nat.le_refl _) (by simp) ?_; (case hd => rfl); (case hg => rfl); (case hr => first | (go_simp; done) | (go_simp; rfl)); (case hp => exact (Reps.one (show Kd.M (Kd.int .u8) _ _ _ (bt a2 t297) [.int .u8 (bt a2 t297)] from rfl) (Reps.none _ _))); intro v301 w38 ho39 hb hg_ hnew_; clear hg_ hnew_; (first | rw [← Ny300.out] at ho39 | (simp only [Int.reduceToNat] at ho39; rw [← Ny300.out] at ho39)); have n0_ := aM (Kd.R_lower ho39 (keep_size (w := w) (g := g) (row := none) (by iK))); have n1_ := aM (IsS147.below (by iI) hb); have n2_ := aM (KeepBut.trans (by iK) (KeepBut.of_below hb g none) (.inl rfl)); have n3_ := aM (below_step (by iB) hb); clear HI0; clear HK; clear HB; have HO302 := n0_; have HI0 := n1_; have HK := n2_; have HB := n3_; clear n0_ n1_ n2_ n3_; clear hb ho39; have hcv40 := own_string (P := Tryd.prog) Tryd.underlying77 Tryd.underlying5 Tryd.underlying9 (Kd.own_of_R HO302.out)) | (go_at_call 168; (with_reducible refine (spec_l1Cur_pick.calls g s0_0 t298 t299 3 t303 t304 t305 w0 _ ?side1 ?side2 A14.out).mono ?_); (case side1 => iI); (case side2 => iB); rintro e w41 ⟨rfl, hi, hb, hk⟩; have n0_ := aM (Kd.R_mono (Kd.R_keep (IsS147.apart (show IsS147 w0 _ g s0_0 t298 t299 from by iI) (by (rX); exact HO302.out) (by decide)) hk (fun _ h => h.2)) (fun _ h => h.1)); have n1_ := aM (KeepBut.trans (by iK) hk (.inl rfl)); have n2_ := aM (hb); have n3_ := aM (hi); clear HO302; clear HK; clear HB; clear HI0; have HO302 := n0_; have HK := n1_; have HB := n2_; have HI0 := n3_; clear n0_ n1_ n2_ n3_; cX)); try go_wp2_with (first | (go_at_call 168; (with_reducible refine (spec_l1Cur_pick.calls g s0_0 x1001_1 x1002_1 (x1_1.size : Int) t294 t295 t296 w0 _ ?side1 ?side2 A9.out).mono ?_); (case side1 => iI); (case side2 => iB); rintro e w36 ⟨rfl, hi, hb, hk⟩; have n0_ := aM (KeepBut.trans (by iK) hk (.inl rfl)); have n1_ := aM (hb); have n2_ := aM (hi); clear HK; clear HB; clear HI0; have HK := n0_; have HB := n1_; have HI0 := n2_; clear n0_ n1_ n2_; cX) | (go_at_call 168; (with_reducible refine (spec_l1Cur_pick.calls g s0_0 t295 t296 (a2.size : Int) t297 t298 t299 w0 _ ?side1 ?side2 A10.out).mono ?_); (case side1 => iI); (case side2 => iB); rintro e w37 ⟨rfl, hi, hb, hk⟩; have n0_ := aM (KeepBut.trans (by iK) hk (.inl rfl)); have n1_ := aM (hb); have n2_ := aM (hi); clear HK; clear HB; clear HI0; have HK := n0_; have HB := n1_; have HI0 := n2_; clear n0_ n1_ n2_; cX; have p13 : 0 ≤ (t297 : Int) := of_decide_eq_true (by first | (with_reducible assumption) | assumption); have q13 : t297 < (a2.size : Int) := of_decide_eq_true (by first | (with_reducible assumption) | assumption); have hx13 := bt_at a2 t297; replace p13 := eq_true p13; replace q13 := eq_true q13) | ((with_reducible refine gate_dst (N := 32) rfl ?_); (try (refine gate_guard (by rfl) ?_; dsimp only)); refine Kd.R_lit (Kd.int .u8) _ 5 ?hg (N := 32) ?hd (xs := ([bt a2 t297] : List Int)) (inner := [.int .u8 (bt a2 t297)]) (ok := fun _ => True) (okp := fun _ => True) ?hr ?hp (fun _ hk => hk) trivial (Below.refl _ _) (Nat.le_refl _) (by simp) ?_; (case hd => rfl); (case hg => rfl); (case hr => first | (go_simp; done) | (go_simp; rfl)); (case hp => exact (Reps.one (show Kd.M (Kd.int .u8) _ _ _ (bt a2 t297) [.int .u8 (bt a2 t297)] from rfl) (Reps.none _ _))); intro v301 w38 ho39 hb hg_ hnew_; clear hg_ hnew_; (first | rw [← Ny300.out] at ho39 | (simp only [Int.reduceToNat] at ho39; rw [← Ny300.out] at ho39)); have n0_ := aM (Kd.R_lower ho39 (keep_size (w := w) (g := g) (row := none) (by iK))); have n1_ := aM (IsS147.below (by iI) hb); have n2_ := aM (KeepBut.trans (by iK) (KeepBut.of_below hb g none) (.inl rfl)); have n3_ := aM (below_step (by iB) hb); clear HI0; clear HK; clear HB; have HO302 := n0_; have HI0 := n1_; have HK := n2_; have HB := n3_; clear n0_ n1_ n2_ n3_; clear hb ho39; have hcv40 := own_string (P := Tryd.prog) Tryd.underlying77 Tryd.underlying5 Tryd.underlying9 (Kd.own_of_R HO302.out)) | (go_at_call 168; (with_reducible refine (spec_l1Cur_pick.calls g s0_0 t298 t299 3 t303 t304 t305 w0 _ ?side1 ?side2 A14.out).mono ?_); (case side1 => iI); (case side2 => iB); rintro e w41 ⟨rfl, hi, hb, hk⟩; have n0_ := aM (Kd.R_mono (Kd.R_keep (IsS147.apart (show IsS147 w0 _ g s0_0 t298 t299 from by iI) (by (rX); exact HO302.out) (by decide)) hk (fun _ h => h.2)) (fun _ h => h.1)); have n1_ := aM (KeepBut.trans (by iK) hk (.inl rfl)); have n2_ := aM (hb); have n3_ := aM (hi); clear HO302; clear HK; clear HB; clear HI0; have HO302 := n0_; have HK := n1_; have HB := n2_; have HI0 := n3_; clear n0_ n1_ n2_ n3_; cX)))
                go_roundg kj5
                case measure => have := HK1.out; have := HJ5.out; omega
                case rel => exact ⟨(((x1_1.extract 0 (t294 : Int).toNat) ++ (strOfNums y300)) ++ (x1_1.extract ((ji32) : Int).toNat x1_1.size)), (wrap64 (x7_1 - 1)), (t304), (t305), (by first | rfl | (simp; done) | (simp only [← hji32] <;> (first | rfl | simp)) | (simp [*]; done)), (by rF), H', ⟨by have := HK1.out; have := HJ5.out; omega⟩, ⟨by iI⟩, ⟨by iK⟩, ⟨by iB⟩⟩
               ·rw [if_neg c35] at H
                exact absurd H (by simp)
              ·rw [if_neg c34] at H
               exact absurd H (by simp)
             ·rw [if_neg c33] at H
              exact absurd H (by simp)
            ·rw [if_neg c31] at H
             exact absurd H (by simp)
           ·rw [if_neg c30] at H
            exact absurd H (by simp)
          ·rw [if_neg c29] at H
           exact absurd H (by simp)
         ·rw [if_neg c28] at H
          have c28b0 : (t303 == 1) = false := beq_eq_false_iff_ne.mpr c28
          have c28b1 : (t303 != 1) = true := bne_iff_ne.mpr c28
          by_cases c42 : 0 ≤ t294
          ·rw [if_pos c42] at H
           have c42b0 := eq_true c42
           have c42b1 : decide (0 ≤ t294) = true := decide_eq_true c42
           clear c42
           by_cases c43 : t294 ≤ (x1_1.size : Int)
           ·rw [if_pos c43] at H
            have c43b0 := eq_true c43
            have c43b1 : decide (t294 ≤ (x1_1.size : Int)) = true := decide_eq_true c43
            clear c43
            obtain ⟨ji44, hji44⟩ : ∃ j_ : Int, (wrap64 (t294 + 1)) = j_ := ⟨_, rfl⟩
            replace H : (if 0 ≤ (ji44) then (if (ji44) ≤ (x1_1.size : Int) then (if (x1_1.extract 0 (t294 : Int).toNat).size + (x1_1.extract ((ji44) : Int).toNat x1_1.size).size ≤ 9223372036854775807 then (spec_l1Cur_spoilt.l0 kj5 ((x1_1.extract 0 (t294 : Int).toNat) ++ (x1_1.extract ((ji44) : Int).toNat x1_1.size)) a2 (wrap64 (x7_1 - 1)) s0_0 t304 t305) else (none)) else (none)) else (none)) = some (r1, r2, r3) := by first | (rw [hji44] at H; exact H) | (simp only [hji44] at H ⊢; exact H)
            (try rw [hji44] at A9)
            (try rw [hji44] at A10)
            (try rw [hji44] at A14)
            have hji44w : (IntKind.i64.wrap (t294 + 1)) = ji44 := (i64_w _).trans hji44
            try clear hji32w
            try clear hji32
            by_cases c45 : 0 ≤ (ji44)
            ·rw [if_pos c45] at H
             have c45b0 := eq_true c45
             have c45b1 : decide (0 ≤ (ji44)) = true := decide_eq_true c45
             clear c45
             by_cases c46 : (ji44) ≤ (x1_1.size : Int)
             ·rw [if_pos c46] at H
              have c46b0 := eq_true c46
              have c46b1 : decide ((ji44) ≤ (x1_1.size : Int)) = true := decide_eq_true c46
              clear c46
              by_cases c47 : (x1_1.extract 0 (t294 : Int).toNat).size + (x1_1.extract ((ji44) : Int).toNat x1_1.size).size ≤ 9223372036854775807
              ·rw [if_pos c47] at H
               have c47b0 := eq_true c47
               have c47b1 : decide ((x1_1.extract 0 (t294 : Int).toNat).size + (x1_1.extract ((ji44) : Int).toNat x1_1.size).size ≤ 9223372036854775807) = true := decide_eq_true c47
               try have c47b2 : (9223372036854775807 < (x1_1.extract 0 (t294 : Int).toNat).size + (x1_1.extract ((ji44) : Int).toNat x1_1.size).size) = False := eq_false (Nat.not_lt.2 c47)
               have H' := aM H
               clear H
               go_wp2_with (first | (go_at_call 168; (with_reducible refine (spec_l1Cur_pick.calls g s0_0 x1001_1 x1002_1 (x1_1.size : Int) t294 t295 t296 w0 _ ?side1 ?side2 A9.out).mono ?_); (case side1 => iI); (case side2 => iB); rintro e w48 ⟨rfl, hi, hb, hk⟩; have n0_ := aM (KeepBut.trans (by iK) hk (.inl rfl)); have n1_ := aM (hb); have n2_ := aM (hi); clear HK; clear HB; clear HI0; have HK := n0_; have HB := n1_; have HI0 := n2_; clear n0_ n1_ n2_; cX) | (go_at_call 168; (with_reducible refine (spec_l1Cur_pick.calls g s0_0 t295 t296 (a2.size : Int) t297 t298 t299 w0 _ ?side1 ?side2 A10.out).mono ?_); (case side1 => iI); (case side2 => iB); rintro e w49 ⟨rfl, hi, hb, hk⟩; have n0_ := aM (KeepBut.trans (by iK) hk (.inl rfl)); have n1_ := aM (hb); have n2_ := aM (hi); clear HK; clear HB; clear HI0; have HK := n0_; have HB := n1_; have HI0 := n2_; clear n0_ n1_ n2_; cX; have p13 : 0 ≤ (t297 : Int) := of_decide_eq_true (by first | (with_reducible assumption) | assumption); have q13 : t297 < (a2.size : Int) := of_decide_eq_true (by first | (with_reducible assumption) | assumption); have hx13 := bt_at a2 t297; replace p13 := eq_true p13; replace q13 := eq_true q13) | ((with_reducible refine gate_dst (N := 32) rfl ?_); (try (refine gate_guard (by rfl) ?_; dsimp only)); refine Kd.R_lit (Kd.int .u8) _ 5 ?hg (N := 32) ?hd (xs := ([bt a2 t297] : List Int)) (inner := [.int .u8 (bt a2 t297)]) (ok := fun _ => True) (okp := fun _ => True) ?hr ?hp (fun _ hk => hk) trivial (Below.refl _ _) (Nat.le_refl _) (by simp) ?_; (case hd => rfl); (case hg => rfl); (case hr => first | (go_simp; done) | (go_simp; rfl)); (case hp => exact (Reps.one (show Kd.M (Kd.int .u8) _ _ _ (bt a2 t297) [.int .u8 (bt a2 t297)] from rfl) (Reps.none _ _))); intro v301 w50 ho51 hb hg_ hnew_; clear hg_ hnew_; (first | rw [← Ny300.out] at ho51 | (simp only [Int.reduceToNat] at ho51; rw [← Ny300.out] at ho51)); have n0_ := aM (Kd.R_lower ho51 (keep_size (w := w) (g := g) (row := none) (by iK))); have n1_ := aM (IsS147.below (by iI) hb); have n2_ := aM (KeepBut.trans (by iK) (KeepBut.of_below hb g none) (.inl rfl)); have n3_ := aM (below_step (by iB) hb); clear HI0; clear HK; clear HB; have HO302 := n0_; have HI0 := n1_; have HK := n2_; have HB := n3_; clear n0_ n1_ n2_ n3_; clear hb ho51; have hcv52 := own_string (P := Tryd.prog) Tryd.underlying77 Tryd.underlying5 Tryd.underlying9 (Kd.own_of_R HO302.out)) | (go_at_call 168; (with_reducible refine (spec_l1Cur_pick.calls g s0_0 t298 t299 3 t303 t304 t305 w0 _ ?side1 ?side2 A14.out).mono ?_); (case side1 => iI); (case side2 => iB); rintro e w53 ⟨rfl, hi, hb, hk⟩; have n0_ := aM (Kd.R_mono (Kd.R_keep (IsS147.apart (show IsS147 w0 _ g s0_0 t298 t299 from by iI) (by (rX); exact HO302.out) (by decide)) hk (fun _ h => h.2)) (fun _ h => h.1)); have n1_ := aM (KeepBut.trans (by iK) hk (.inl rfl)); have n2_ := aM (hb); have n3_ := aM (hi); clear HO302; clear HK; clear HB; clear HI0; have HO302 := n0_; have HK := n1_; have HB := n2_; have HI0 := n3_; clear n0_ n1_ n2_ n3_; cX))
               repeat (go_quiet (first | (go_at_call 168; (with_reducible refine (spec_l1Cur_pick.calls g s0_0 x1001_1 x1002_1 (x1_1.size : Int) t294 t295 t296 w0 _ ?side1 ?side2 A9.out).mono ?_); (case side1 => iI); (case side2 => iB); rintro e w48 ⟨rfl, hi, hb, hk⟩; have n0_ := aM (KeepBut.trans (by iK) hk (.inl rfl)); have n1_ := aM (hb); have n2_ := aM (hi); clear HK; clear HB; clear HI0; have HK := n0_; have HB := n1_; have HI0 := n2_; clear n0_ n1_ n2_; cX) | (go_at_call 168; (with_reducible refine (spec_l1Cur_pick.calls g s0_0 t295 t296 (a2.size : Int) t297 t298 t299 w0 _ ?side1 ?side2 A10.out).mono ?_); (case side1 => iI); (case side2 => iB); rintro e w49 ⟨rfl, hi, hb, hk⟩; have n0_ := aM (KeepBut.trans (by iK) hk (.inl rfl)); have n1_ := aM (hb); have n2_ := aM (hi); clear HK; clear HB; clear HI0; have HK := n0_; have HB := n1_; have HI0 := n2_; clear n0_ n1_ n2_; cX; have p13 : 0 ≤ (t297 : Int) := of_decide_eq_true (by first | (with_reducible assumption) | assumption); have q13 : t297 < (a2.size : Int) := of_decide_eq_true (by first | (with_reducible assumption) | assumption); have hx13 := bt_at a2 t297; replace p13 := eq_true p13; replace q13 := eq_true q13) | ((with_reducible refine gate_dst (N := 32) rfl ?_); (try (refine gate_guard (by rfl) ?_; dsimp only)); refine Kd.R_lit (Kd.int .u8) _ 5 ?hg (N := 32) ?hd (xs := ([bt a2 t297] : List Int)) (inner := [.int .u8 (bt a2 t297)]) (ok := fun _ => True) (okp := fun _ => True) ?hr ?hp (fun _ hk => hk) trivial (Below.refl _ _) (Nat.le_refl _) (by simp) ?_; (case hd => rfl); (case hg => rfl); (case hr => first | (go_simp; done) | (go_simp; rfl)); (case hp => exact (Reps.one (show Kd.M (Kd.int .u8) _ _ _ (bt a2 t297) [.int .u8 (bt a2 t297)] from rfl) (Reps.none _ _))); intro v301 w50 ho51 hb hg_ hnew_; clear hg_ hnew_; (first | rw [← Ny300.out] at ho51 | (simp only [Int.reduceToNat] at ho51; rw [← Ny300.out] at ho51)); have n0_ := aM (Kd.R_lower ho51 (keep_size (w := w) (g := g) (row := none) (by iK))); have n1_ := aM (IsS147.below (by iI) hb); have n2_ := aM (KeepBut.trans (by iK) (KeepBut.of_below hb g none) (.inl rfl)); have n3_ := aM (below_step (by iB) hb); clear HI0; clear HK; clear HB; have HO302 := n0_; have HI0 := n1_; have HK := n2_; have HB := n3_; clear n0_ n1_ n2_ n3_; clear hb ho51; have hcv52 := own_string (P := Tryd.prog) Tryd.underlying77 Tryd.underlying5 Tryd.underlying9 (Kd.own_of_R HO302.out)) | (go_at_call 168; (with_reducible refine (spec_l1Cur_pick.calls g s0_0 t298 t299 3 t303 t304 t305 w0 _ ?side1 ?side2 A14.out).mono ?_); (case side1 => iI); (case side2 => iB); rintro e w53 ⟨rfl, hi, hb, hk⟩; have n0_ := aM (Kd.R_mono (Kd.R_keep (IsS147.apart (show IsS147 w0 _ g s0_0 t298 t299 from by iI) (by (rX); exact HO302.out) (by decide)) hk (fun _ h => h.2)) (fun _ h => h.1)); have n1_ := aM (KeepBut.trans (by iK) hk (.inl rfl)); have n2_ := aM (hb); have n3_ := aM (hi); clear HO302; clear HK; clear HB; clear HI0; have HO302 := n0_; have HK := n1_; have HB := n2_; have HI0 := n3_; clear n0_ n1_ n2_ n3_; cX)); try go_wp2_with (first | (go_at_call 168; (with_reducible refine (spec_l1Cur_pick.calls g s0_0 x1001_1 x1002_1 (x1_1.size : Int) t294 t295 t296 w0 _ ?side1 ?side2 A9.out).mono ?_); (case side1 => iI); (case side2 => iB); rintro e w48 ⟨rfl, hi, hb, hk⟩; have n0_ := aM (KeepBut.trans (by iK) hk (.inl rfl)); have n1_ := aM (hb); have n2_ := aM (hi); clear HK; clear HB; clear HI0; have HK := n0_; have HB := n1_; have HI0 := n2_; clear n0_ n1_ n2_; cX) | (go_at_call 168; (with_reducible refine (spec_l1Cur_pick.calls g s0_0 t295 t296 (a2.size : Int) t297 t298 t299 w0 _ ?side1 ?side2 A10.out).mono ?_); (case side1 => iI); (case side2 => iB); rintro e w49 ⟨rfl, hi, hb, hk⟩; have n0_ := aM (KeepBut.trans (by iK) hk (.inl rfl)); have n1_ := aM (hb); have n2_ := aM (hi); clear HK; clear HB; clear HI0; have HK := n0_; have HB := n1_; have HI0 := n2_; clear n0_ n1_ n2_; cX; have p13 : 0 ≤ (t297 : Int) := of_decide_eq_true (by first | (with_reducible assumption) | assumption); have q13 : t297 < (a2.size : Int) := of_decide_eq_true (by first | (with_reducible assumption) | assumption); have hx13 := bt_at a2 t297; replace p13 := eq_true p13; replace q13 := eq_true q13) | ((with_reducible refine gate_dst (N := 32) rfl ?_); (try (refine gate_guard (by rfl) ?_; dsimp only)); refine Kd.R_lit (Kd.int .u8) _ 5 ?hg (N := 32) ?hd (xs := ([bt a2 t297] : List Int)) (inner := [.int .u8 (bt a2 t297)]) (ok := fun _ => True) (okp := fun _ => True) ?hr ?hp (fun _ hk => hk) trivial (Below.refl _ _) (Nat.le_refl _) (by simp) ?_; (case hd => rfl); (case hg => rfl); (case hr => first | (go_simp; done) | (go_simp; rfl)); (case hp => exact (Reps.one (show Kd.M (Kd.int .u8) _ _ _ (bt a2 t297) [.int .u8 (bt a2 t297)] from rfl) (Reps.none _ _))); intro v301 w50 ho51 hb hg_ hnew_; clear hg_ hnew_; (first | rw [← Ny300.out] at ho51 | (simp only [Int.reduceToNat] at ho51; rw [← Ny300.out] at ho51)); have n0_ := aM (Kd.R_lower ho51 (keep_size (w := w) (g := g) (row := none) (by iK))); have n1_ := aM (IsS147.below (by iI) hb); have n2_ := aM (KeepBut.trans (by iK) (KeepBut.of_below hb g none) (.inl rfl)); have n3_ := aM (below_step (by iB) hb); clear HI0; clear HK; clear HB; have HO302 := n0_; have HI0 := n1_; have HK := n2_; have HB := n3_; clear n0_ n1_ n2_ n3_; clear hb ho51; have hcv52 := own_string (P := Tryd.prog) Tryd.underlying77 Tryd.underlying5 Tryd.underlying9 (Kd.own_of_R HO302.out)) | (go_at_call 168; (with_reducible refine (spec_l1Cur_pick.calls g s0_0 t298 t299 3 t303 t304 t305 w0 _ ?side1 ?side2 A14.out).mono ?_); (case side1 => iI); (case side2 => iB); rintro e w53 ⟨rfl, hi, hb, hk⟩; have n0_ := aM (Kd.R_mono (Kd.R_keep (IsS147.apart (show IsS147 w0 _ g s0_0 t298 t299 from by iI) (by (rX); exact HO302.out) (by decide)) hk (fun _ h => h.2)) (fun _ h => h.1)); have n1_ := aM (KeepBut.trans (by iK) hk (.inl rfl)); have n2_ := aM (hb); have n3_ := aM (hi); clear HO302; clear HK; clear HB; clear HI0; have HO302 := n0_; have HK := n1_; have HB := n2_; have HI0 := n3_; clear n0_ n1_ n2_ n3_; cX)))
               go_roundg kj5
               case measure => have := HK1.out; have := HJ5.out; omega
               case rel => exact ⟨((x1_1.extract 0 (t294 : Int).toNat) ++ (x1_1.extract ((ji44) : Int).toNat x1_1.size)), (wrap64 (x7_1 - 1)), (t304), (t305), (by first | rfl | (simp; done) | (simp only [← hji44] <;> (first | rfl | simp)) | (simp [*]; done)), (by rF), H', ⟨by have := HK1.out; have := HJ5.out; omega⟩, ⟨by iI⟩, ⟨by iK⟩, ⟨by iB⟩⟩
              ·rw [if_neg c47] at H
               exact absurd H (by simp)
             ·rw [if_neg c46] at H
              exact absurd H (by simp)
            ·rw [if_neg c45] at H
             exact absurd H (by simp)
           ·rw [if_neg c43] at H
            exact absurd H (by simp)
          ·rw [if_neg c42] at H
           exact absurd H (by simp)
       ·rw [if_neg c12] at H
        exact absurd H (by simp)
      ·rw [if_neg c11] at H
       exact absurd H (by simp)
     ·replace c8 := Bool.eq_false_iff.mpr c8
      subst c8
      rw [if_neg (show ¬ (false = true) by decide)] at H
      simp only [Option.some.injEq, Prod.mk.injEq] at H
      obtain ⟨rfl, rfl, rfl⟩ := H
      go_wp2
      repeat (go_quiet (fail); try go_wp2)
      go_ret
      exact ⟨by eW, by iI, by iB, by iK⟩

/-! ### spec_l1Cur_lamps: function 164 -/
def spec_l1Cur_lamps.f (k : Nat) (s0_0 : List Int) (s0_1 : Int) (s0_2 : Int) : Option (List ByteArray × Int × Int) := (spec_l1Cur_sureLamps.f k s0_0 s0_1 s0_2).bind fun bt307 => ((spec_l1Cur_pick.f s0_0 bt307.2.1 bt307.2.2 16).bind fun bt313 => (if bt313.1 = 0 then (if bt307.1.length < 8796093022208 then (some ((bt307.1 ++ [(⟨#[63]⟩ : ByteArray)]), bt313.2.1, bt313.2.2)) else (none)) else (if bt313.1 = 1 then (some (([] : List ByteArray), bt313.2.1, bt313.2.2)) else (if bt313.1 = 2 then (if 0 < (bt307.1.length : Int) then ((spec_l1Cur_spoilt.f k s0_0 bt313.2.1 bt313.2.2 (rdOf ByteArray.empty bt307.1 0) (⟨#[48, 49, 63, 120]⟩ : ByteArray)).bind fun bt320 => (some ((bt307.1.set (0 : Int).toNat bt320.1), bt320.2.1, bt320.2.2))) else (none)) else (if bt313.1 = 3 then ((spec_CountingLamps.f k 10).bind fun bt324 => (some (bt324.1, bt313.2.1, bt313.2.2))) else (some (bt307.1, bt313.2.1, bt313.2.2)))))))
theorem spec_l1Cur_lamps.mono : ∀ a0 a1 a2 k, LeO (spec_l1Cur_lamps.f k a0 a1 a2) (spec_l1Cur_lamps.f (k + 1) a0 a1 a2) := by
 intro a0 a1 a2 k
 unfold spec_l1Cur_lamps.f
 repeat' first
   | wE spec_CountingLamps.mono _ _
   | wE spec_l1Cur_spoilt.mono _ _ _ _ _ _
   | wE spec_l1Cur_sureLamps.mono _ _ _ _
   | wE LeO.refl _
   | wE LeO.none _
   | wR LeO.ite ?_ ?_
   | wR LeO.bind ?_ (fun _ => ?_)
   | exact spec_CountingLamps.mono _ _
   | exact spec_l1Cur_spoilt.mono _ _ _ _ _ _
   | exact spec_l1Cur_sureLamps.mono _ _ _ _
   | exact LeO.none _
   | refine LeO.ite ?_ ?_
   | refine LeO.bind ?_ (fun _ => ?_)
def spec_l1Cur_lamps.T8 : Bool × List (List Nat × List Nat) := (true, [([], []), ([0], [0]), ([], []), ([], []), ([3], [3]), ([4], [4]), ([5], [5]), ([2, 6], [2, 6]), ([1, 0, 1, 2, 3, 4, 5, 6, 7], [1]), ([8, 7, 7, 0, 1, 2, 3, 4, 5, 6, 7], [7, 8])])
def spec_l1Cur_lamps.B8 : List Nat := [0, 1, 0, 0, 8, 24, 56, 124, 255, 511]
theorem spec_l1Cur_lamps.tab8 : rtab .any (opsOf Tryd.f164 8) = spec_l1Cur_lamps.T8 := by kernel_rfl
theorem spec_l1Cur_lamps.bits8 : waitsOk spec_l1Cur_lamps.T8.2 spec_l1Cur_lamps.B8 = true := by kernel_rfl
set_option maxHeartbeats 8000000 in
set_option maxRecDepth 100000 in
theorem spec_l1Cur_lamps.calls (k : Nat) (g : Nat) (s0_0 : List Int) (s0_1 : Int) (s0_2 : Int) (r1 : List ByteArray) (r2 : Int) (r3 : Int) (w0 w : World) (hI : IsS147 w0 w g s0_0 s0_1 s0_2) (hB : Below w0.heap.size w0 w) (h : spec_l1Cur_lamps.f k s0_0 s0_1 s0_2 = some (r1, r2, r3)) :
  Calls Tryd.prog 164 #[.pointer (some ⟨g, 0, none⟩)] w fun e w' => ∃ v0_ : Value, e = .returned (.agg #[v0_]) ∧ Kd.R Kd.string 9 w' w.heap.size (fun _ => True) v0_ r1 ∧ IsS147 w0 w' g s0_0 r2 r3 ∧ Below w0.heap.size w0 w' ∧ KeepBut w w' g none := by
 have hu29 := Tryd.underlying29
 have HI0 := aM hI
 have HK := aM (KeepBut.refl w g none)
 have HL := aM hB.size
 clear hI
 have HW0 := aM hB.size
 have HB := aM hB
 clear hB
 have H : ((spec_l1Cur_sureLamps.f k s0_0 s0_1 s0_2).bind fun bt307 => ((spec_l1Cur_pick.f s0_0 bt307.2.1 bt307.2.2 16).bind fun bt313 => (if bt313.1 = 0 then (if bt307.1.length < 8796093022208 then (some ((bt307.1 ++ [(⟨#[63]⟩ : ByteArray)]), bt313.2.1, bt313.2.2)) else (none)) else (if bt313.1 = 1 then (some (([] : List ByteArray), bt313.2.1, bt313.2.2)) else (if bt313.1 = 2 then (if 0 < (bt307.1.length : Int) then ((spec_l1Cur_spoilt.f k s0_0 bt313.2.1 bt313.2.2 (rdOf ByteArray.empty bt307.1 0) (⟨#[48, 49, 63, 120]⟩ : ByteArray)).bind fun bt320 => (some ((bt307.1.set (0 : Int).toNat bt320.1), bt320.2.1, bt320.2.2))) else (none)) else (if bt313.1 = 3 then ((spec_CountingLamps.f k 10).bind fun bt324 => (some (bt324.1, bt313.2.1, bt313.2.2))) else (some (bt307.1, bt313.2.1, bt313.2.2)))))))) = some (r1, r2, r3) := h
 clear h
 replace H := Option.bind_eq_some_iff.mp H
 obtain ⟨⟨t307, t310, t311⟩, A20, H⟩ := H
 dsimp only at H
 have A2 := aM A20
 clear A20
 replace H := Option.bind_eq_some_iff.mp H
 obtain ⟨⟨t313, t314, t315⟩, A30, H⟩ := H
 dsimp only at H
 have A3 := aM A30
 clear A30
 by_cases c4 : t313 = 0
 ·rw [if_pos c4] at H
  have c4b0 : (t313 == 0) = true := beq_iff_eq.mpr c4
  have c4b1 : (t313 != 0) = false := bne_eq_false_iff_eq.mpr c4
  clear c4
  by_cases c5 : t307.length < 8796093022208
  ·rw [if_pos c5] at H
   have LMc5 := aM c5
   clear c5
   obtain ⟨y316, hy316⟩ : ∃ y_ : List ByteArray, y_ = (t307 ++ [(⟨#[63]⟩ : ByteArray)]) := ⟨_, rfl⟩
   replace H : (some (y316, t314, t315)) = some (r1, r2, r3) := by fH hy316
   have Ny316 := aM hy316
   clear hy316
   simp only [Option.some.injEq, Prod.mk.injEq] at H
   obtain ⟨rfl, rfl, rfl⟩ := H
   go_enter Tryd.func164, Tryd.ntmps164
   go_wp2_with (first | ((with_reducible refine gate_dst (N := 2) rfl ?_); refine box_event ?hg (N := 2) ?hd (cs := #[.slice none 0 0]) (t := 29) ?hr ?_; (case hd => rfl); (case hg => rfl); (case hr => first | (go_simp; done) | (go_simp; rfl)); intro gb306 hg w6 hbox hb; have n0_ := aM (IsS147.below (by iI) hb); have n1_ := aM (KeepBut.trans (by iK) (KeepBut.of_below hb g none) (.inl rfl)); have n2_ := aM (below_step (by iB) hb); have n3_ := aM (hbox); have n4_ := aM ((by rw [hg]; exact (keep_size (w := w) (g := g) (row := none) (by iK)) : w.heap.size ≤ gb306)); have n5_ := aM ((Nat.le_trans HW0.out (by rw [hg]; exact (keep_size (w := w) (g := g) (row := none) (by iK)) : w.heap.size ≤ gb306) : w0.heap.size ≤ gb306)); have n6_ := aM ((by rw [hg]; exact Nat.ne_of_lt (IsS147.lt (show IsS147 w0 _ g s0_0 s0_1 s0_2 from by iI)) : g ≠ gb306)); have n7_ := aM ((by rw [hg]; exact Nat.ne_of_gt (IsS147.lt (show IsS147 w0 _ g s0_0 s0_1 s0_2 from by iI)) : gb306 ≠ g)); clear HI0; clear HK; clear HB; have HI0 := n0_; have HK := n1_; have HB := n2_; have BK306 := n3_; have GW306 := n4_; have GE306 := n5_; have NB0_306 := n6_; have NB306_0 := n7_; clear n0_ n1_ n2_ n3_ n4_ n5_ n6_ n7_; clear hb hbox hg) | ((with_reducible refine gate_callee (f := 201) rfl ?_); refine goesL_ (some 7) rfl rfl Tryd.func201 (by kernel_rfl) rfl #[.pointer (some ⟨g, 0, none⟩)] rfl (by mA) ?_; (with_reducible refine (spec_l1Cur_sureLamps.calls k g s0_0 s0_1 s0_2 t307 t310 t311 w0 _ ?side1 ?side2 A2.out).mono ?_); (case side1 => repeat (first | (with_reducible first | exact HI0.out | apply IsS147.alloc | apply IsS147.drewN | apply IsS147.drew | apply IsS147.set_1 | apply IsS147.set_2 | refine IsS147.far ?_ NB0_306.out _) | exact HI0.out)); (case side2 => repeat (first | (with_reducible first | exact HB.out | apply below_alloc | apply pw_below_drewN | apply below_drew1 | refine below_set ?_ (IsS147.ge HI0.out) | refine below_set ?_ GE306.out) | exact HB.out)); rintro e w7 ⟨v308, rfl, ho0, hi, hb, hk⟩; refine ⟨_, rfl, ?_⟩; have n0_ := aM (KeepBut.blk hk (g' := gb306) (o := .cells #[.slice none 0 0] 29 (0, 0)) (by (with_reducible repeat (first | refine blk_drewN ?_ _ | refine blk_drew ?_ | refine blk_alloc ?_ _)); exact BK306.out) NB306_0.out (by simp)); have n1_ := aM (Kd.R_lower ho0 (keep_size (w := w) (g := g) (row := none) (by repeat (first | (with_reducible first | exact HK.out | apply KeepBut.set_ | apply keep_drewN | apply keep_drew | apply keep_alloc | refine keep_far ?_ GW306.out _) | exact HK.out)))); have n2_ := aM (KeepBut.trans (by repeat (first | (with_reducible first | exact HK.out | apply KeepBut.set_ | apply keep_drewN | apply keep_drew | apply keep_alloc | refine keep_far ?_ GW306.out _) | exact HK.out)) hk (.inl rfl)); have n3_ := aM (hb); have n4_ := aM (hi); clear BK306; clear HK; clear HB; clear HI0; have BK306 := n0_; have HO309 := n1_; have HK := n2_; have HB := n3_; have HI0 := n4_; clear n0_ n1_ n2_ n3_ n4_; cX; (try clear ho0)) | ((with_reducible refine gate_dst (N := 3) rfl ?_); refine box_event ?hg (N := 3) ?hd (cs := #[.slice none 0 0]) (t := 29) ?hr ?_; (case hd => rfl); (case hg => rfl); (case hr => first | (go_simp; done) | (go_simp; rfl)); intro gb312 hg w8 hbox hb; have n0_ := aM (Kd.R_below (by (rX); exact HO309.out) hb); have n1_ := aM (IsS147.below (by repeat (first | (with_reducible first | exact HI0.out | apply IsS147.alloc | apply IsS147.drewN | apply IsS147.drew | apply IsS147.set_1 | apply IsS147.set_2 | refine IsS147.far ?_ NB0_306.out _) | exact HI0.out)) hb); have n2_ := aM (blk_below (g := gb306) (o := .cells #[.slice none 0 0] 29 (0, 0)) (by (with_reducible repeat (first | refine blk_drewN ?_ _ | refine blk_drew ?_ | refine blk_alloc ?_ _)); exact BK306.out) hb); have n3_ := aM (KeepBut.trans (by repeat (first | (with_reducible first | exact HK.out | apply KeepBut.set_ | apply keep_drewN | apply keep_drew | apply keep_alloc | refine keep_far ?_ GW306.out _) | exact HK.out)) (KeepBut.of_below hb g none) (.inl rfl)); have n4_ := aM (below_step (by repeat (first | (with_reducible first | exact HB.out | apply below_alloc | apply pw_below_drewN | apply below_drew1 | refine below_set ?_ (IsS147.ge HI0.out) | refine below_set ?_ GE306.out) | exact HB.out)) hb); have n5_ := aM (hbox); have n6_ := aM ((by rw [hg]; exact (keep_size (w := w) (g := g) (row := none) (by repeat (first | (with_reducible first | exact HK.out | apply KeepBut.set_ | apply keep_drewN | apply keep_drew | apply keep_alloc | refine keep_far ?_ GW306.out _) | exact HK.out))) : w.heap.size ≤ gb312)); have n7_ := aM ((Nat.le_trans HW0.out (by rw [hg]; exact (keep_size (w := w) (g := g) (row := none) (by repeat (first | (with_reducible first | exact HK.out | apply KeepBut.set_ | apply keep_drewN | apply keep_drew | apply keep_alloc | refine keep_far ?_ GW306.out _) | exact HK.out))) : w.heap.size ≤ gb312) : w0.heap.size ≤ gb312)); have n8_ := aM ((by rw [hg]; exact Nat.ne_of_lt (blk_lt (g := gb306) (o := .cells #[.slice none 0 0] 29 (0, 0)) (by (with_reducible repeat (first | refine blk_drewN ?_ _ | refine blk_drew ?_ | refine blk_alloc ?_ _)); exact BK306.out)) : gb306 ≠ gb312)); have n9_ := aM ((by rw [hg]; exact Nat.ne_of_gt (blk_lt (g := gb306) (o := .cells #[.slice none 0 0] 29 (0, 0)) (by (with_reducible repeat (first | refine blk_drewN ?_ _ | refine blk_drew ?_ | refine blk_alloc ?_ _)); exact BK306.out)) : gb312 ≠ gb306)); have n10_ := aM ((by rw [hg]; exact Nat.ne_of_lt (IsS147.lt (show IsS147 w0 _ g s0_0 t310 t311 from by repeat (first | (with_reducible first | exact HI0.out | apply IsS147.alloc | apply IsS147.drewN | apply IsS147.drew | apply IsS147.set_1 | apply IsS147.set_2 | refine IsS147.far ?_ NB0_306.out _) | exact HI0.out))) : g ≠ gb312)); have n11_ := aM ((by rw [hg]; exact Nat.ne_of_gt (IsS147.lt (show IsS147 w0 _ g s0_0 t310 t311 from by repeat (first | (with_reducible first | exact HI0.out | apply IsS147.alloc | apply IsS147.drewN | apply IsS147.drew | apply IsS147.set_1 | apply IsS147.set_2 | refine IsS147.far ?_ NB0_306.out _) | exact HI0.out))) : gb312 ≠ g)); clear HO309; clear HI0; clear BK306; clear HK; clear HB; have HO309 := n0_; have HI0 := n1_; have BK306 := n2_; have HK := n3_; have HB := n4_; have BK312 := n5_; have GW312 := n6_; have GE312 := n7_; have NB306_312 := n8_; have NB312_306 := n9_; have NB0_312 := n10_; have NB312_0 := n11_; clear n0_ n1_ n2_ n3_ n4_ n5_ n6_ n7_ n8_ n9_ n10_ n11_; clear hb hbox hg; obtain ⟨Ao9, co9, eo9⟩ := Kd.R_slice HO309.out; subst eo9; have hnb10 := NB312_306.out; have hnc10 := NB306_312.out; have hnb11 := NB312_0.out; have hnc11 := NB0_312.out; have hcz12_0 : w8.cell? ⟨gb312, 0, none⟩ = some (.slice none 0 0) := (blk_cell BK312.out 0).trans rfl; have hfz12_0 := blk_frozen BK312.out 0) | ((with_reducible refine gate_callee (f := 168) rfl ?_); refine goesL_ (some 9) rfl rfl Tryd.func168 (by kernel_rfl) rfl #[.pointer (some ⟨g, 0, none⟩), .int .i64 16] rfl (by mA) ?_; (with_reducible refine (spec_l1Cur_pick.calls g s0_0 t310 t311 16 t313 t314 t315 w0 _ ?side1 ?side2 A3.out).mono ?_); (case side1 => repeat (first | (with_reducible first | exact HI0.out | apply IsS147.alloc | apply IsS147.drewN | apply IsS147.drew | apply IsS147.set_1 | apply IsS147.set_2 | refine IsS147.far ?_ NB0_306.out _ | refine IsS147.far ?_ NB0_312.out _) | exact HI0.out)); (case side2 => repeat (first | (with_reducible first | exact HB.out | apply below_alloc | apply pw_below_drewN | apply below_drew1 | refine below_set ?_ (IsS147.ge HI0.out) | refine below_set ?_ GE306.out | refine below_set ?_ GE312.out) | exact HB.out)); rintro e w13 ⟨rfl, hi, hb, hk⟩; refine ⟨_, rfl, ?_⟩; have n0_ := aM (KeepBut.blk hk (g' := gb306) (o := .cells #[.slice none 0 0] 29 (0, 0)) (by (with_reducible repeat (first | refine blk_drewN ?_ _ | refine blk_drew ?_ | refine blk_alloc ?_ _)); refine blk_far ?_ NB306_312.out _; (with_reducible repeat (first | refine blk_drewN ?_ _ | refine blk_drew ?_ | refine blk_alloc ?_ _)); exact BK306.out) NB306_0.out (by simp)); have n1_ := aM (Kd.R_mono (Kd.R_keep (IsS147.apart (show IsS147 w0 _ g s0_0 t310 t311 from by repeat (first | (with_reducible first | exact HI0.out | apply IsS147.alloc | apply IsS147.drewN | apply IsS147.drew | apply IsS147.set_1 | apply IsS147.set_2 | refine IsS147.far ?_ NB0_306.out _ | refine IsS147.far ?_ NB0_312.out _) | exact HI0.out)) (by (rX); exact (Kd.R_mono (Kd.R_far (p := ⟨gb312, 0, none⟩) (Kd.R_types HO309.out BK312.out (by decide)) (fun _ hk => hk.2) (.slice Ao9 t307.length co9)) (fun _ h_ => h_.1))) (by decide)) hk (fun _ h => h.2)) (fun _ h => h.1)); have n2_ := aM (KeepBut.blk hk (g' := gb312) (o := .cells #[.slice Ao9 t307.length co9] 29 (0, 0)) (by (with_reducible repeat (first | refine blk_drewN ?_ _ | refine blk_drew ?_ | refine blk_alloc ?_ _)); refine blk_put (cs := #[.slice none 0 0]) ?_ 0 _ rfl; (with_reducible repeat (first | refine blk_drewN ?_ _ | refine blk_drew ?_ | refine blk_alloc ?_ _)); exact BK312.out) NB312_0.out (by simp)); have n3_ := aM (KeepBut.trans (by repeat (first | (with_reducible first | exact HK.out | apply KeepBut.set_ | apply keep_drewN | apply keep_drew | apply keep_alloc | refine keep_far ?_ GW306.out _ | refine keep_far ?_ GW312.out _) | exact HK.out)) hk (.inl rfl)); have n4_ := aM (hb); have n5_ := aM (hi); clear BK306; clear HO309; clear BK312; clear HK; clear HB; clear HI0; have BK306 := n0_; have HO309 := n1_; have BK312 := n2_; have HK := n3_; have HB := n4_; have HI0 := n5_; clear n0_ n1_ n2_ n3_ n4_ n5_; cX; have hcz14_0 : w13.cell? ⟨gb312, 0, none⟩ = some (.slice Ao9 t307.length co9) := (blk_cell BK312.out 0).trans rfl; have hfz14_0 := blk_frozen BK312.out 0) | ((with_reducible refine gate_builtin (b := .append) (xs := #[.tmp 13, .tmp 14]) rfl ?_); at_builtin; refine Kd.R_append Kd.string w.heap.size rfl (.tmp 13) (.tmp 14) 22 9 (.string ⟨#[]⟩) 16 rfl Tryd.underlying22 info9 rfl (by decide) (by omega) (.slice Ao9 t307.length co9) t307 (⟨#[63]⟩ : ByteArray) [.string (⟨#[63]⟩ : ByteArray)] (fun _ => True) (fun _ => False) rfl rfl ?aP (fun _ hk => hk.elim) ?aF ?aO (Below.refl _ _) ?aS ?aL ?_; (case aP => exact rfl); (case aF => exact (fun _ _ => trivial)); (case aO => exact (by (rX); exact HO309.out)); (case aS => exact (keep_size (w := w) (g := g) (row := none) (by repeat (first | (with_reducible first | exact HK.out | apply KeepBut.set_ | apply keep_drewN | apply keep_drew | apply keep_alloc | refine keep_far ?_ GW306.out _ | refine keep_far ?_ GW312.out _) | exact HK.out)))); (case aL => have := LMc5.out; omega); intro v317 w15 ho hb hg hat; rw [← Ny316.out] at ho; have n0_ := aM (IsS147.grown (by repeat (first | (with_reducible first | exact HI0.out | apply IsS147.alloc | apply IsS147.drewN | apply IsS147.drew | apply IsS147.set_1 | apply IsS147.set_2 | refine IsS147.far ?_ NB0_306.out _ | refine IsS147.far ?_ NB0_312.out _) | exact HI0.out)) hg (IsS147.own_ne HI0.out HO309.out (by decide))); have n1_ := aM (blk_grown (g := gb306) (o := .cells #[.slice none 0 0] 29 (0, 0)) (by (with_reducible repeat (first | refine blk_drewN ?_ _ | refine blk_drew ?_ | refine blk_alloc ?_ _)); exact BK306.out) hg (Kd.R_ne HO309.out BK306.out (by decide))); have n2_ := aM (blk_grown (g := gb312) (o := .cells #[.slice Ao9 t307.length co9] 29 (0, 0)) (by (with_reducible repeat (first | refine blk_drewN ?_ _ | refine blk_drew ?_ | refine blk_alloc ?_ _)); exact BK312.out) hg (Kd.R_ne HO309.out BK312.out (by decide))); have n3_ := aM (below_weaken (by repeat (first | (with_reducible first | exact HB.out | apply below_alloc | apply pw_below_drewN | apply below_drew1 | refine below_set ?_ (IsS147.ge HI0.out) | refine below_set ?_ GE306.out | refine below_set ?_ GE312.out) | exact HB.out)) HL.out hb); have n4_ := aM (KeepBut.trans (by repeat (first | (with_reducible first | exact HK.out | apply KeepBut.set_ | apply keep_drewN | apply keep_drew | apply keep_alloc | refine keep_far ?_ GW306.out _ | refine keep_far ?_ GW312.out _) | exact HK.out)) (KeepBut.of_grown hg g) (Kd.R_base2 HO309.out)); have n5_ := aM (ho); clear HI0; clear BK306; clear BK312; clear HB; clear HK; clear HO309; have HI0 := n0_; have BK306 := n1_; have BK312 := n2_; have HB := n3_; have HK := n4_; have HO318 := n5_; clear n0_ n1_ n2_ n3_ n4_ n5_; clear ho hb hg hat; obtain ⟨Ao16, co16, eo16⟩ := Kd.R_slice HO318.out; subst eo16; have hcz17_0 : w15.cell? ⟨gb312, 0, none⟩ = some (.slice Ao9 t307.length co9) := (blk_cell BK312.out 0).trans rfl; have hfz17_0 := blk_frozen BK312.out 0; have hnb18 := NB306_0.out; have hnc18 := NB0_306.out; have hcz19_0 : w15.cell? ⟨gb306, 0, none⟩ = some (.slice none 0 0) := (blk_cell BK306.out 0).trans rfl; have hfz19_0 := blk_frozen BK306.out 0))
   refine bodyPost_ret (results_cell_row rfl _ _ gb306 29 #[.slice Ao16 y316.length co16] (0, 0) _ rfl (by (with_reducible repeat (first | refine blk_drewN ?_ _ | refine blk_drew ?_ | refine blk_alloc ?_ _)); refine blk_put (cs := #[.slice none 0 0]) ?_ 0 _ rfl; (with_reducible repeat (first | refine blk_drewN ?_ _ | refine blk_drew ?_ | refine blk_alloc ?_ _)); refine blk_far ?_ NB306_312.out _; (with_reducible repeat (first | refine blk_drewN ?_ _ | refine blk_drew ?_ | refine blk_alloc ?_ _)); exact BK306.out) Tryd.underlying29 rfl (by kernel_rfl)) rfl ?_
   exact ⟨_, by eW, by (rX); exact Kd.R_mono (Kd.R_far (p := ⟨gb306, 0, none⟩) (Kd.R_far (p := ⟨gb312, 0, none⟩) (Kd.R_types (Kd.R_types HO318.out BK312.out (by decide)) BK306.out (by decide)) (fun _ hk => hk.1.2) (.slice Ao16 y316.length co16)) (fun _ hk => hk.2) (.slice Ao16 y316.length co16)) (fun _ hk => trivial), by repeat (first | (with_reducible first | exact HI0.out | apply IsS147.alloc | apply IsS147.drewN | apply IsS147.drew | apply IsS147.set_1 | apply IsS147.set_2 | refine IsS147.far ?_ NB0_306.out _ | refine IsS147.far ?_ NB0_312.out _) | exact HI0.out), by repeat (first | (with_reducible first | exact HB.out | apply below_alloc | apply pw_below_drewN | apply below_drew1 | refine below_set ?_ (IsS147.ge HI0.out) | refine below_set ?_ GE306.out | refine below_set ?_ GE312.out) | exact HB.out), by repeat (first | (with_reducible first | exact HK.out | apply KeepBut.set_ | apply keep_drewN | apply keep_drew | apply keep_alloc | refine keep_far ?_ GW306.out _ | refine keep_far ?_ GW312.out _) | exact HK.out)⟩
  ·rw [if_neg c5] at H
   exact absurd H (by simp)
 ·rw [if_neg c4] at H
  have c4b0 : (t313 == 0) = false := beq_eq_false_iff_ne.mpr c4
  have c4b1 : (t313 != 0) = true := bne_iff_ne.mpr c4
  by_cases c20 : t313 = 1
  ·rw [if_pos c20] at H
   have c20b0 : (t313 == 1) = true := beq_iff_eq.mpr c20
   have c20b1 : (t313 != 1) = false := bne_eq_false_iff_eq.mpr c20
   clear c20
   simp only [Option.some.injEq, Prod.mk.injEq] at H
   obtain ⟨rfl, rfl, rfl⟩ := H
   go_enter Tryd.func164, Tryd.ntmps164
   go_wp2_with (first | ((with_reducible refine gate_dst (N := 2) rfl ?_); refine box_event ?hg (N := 2) ?hd (cs := #[.slice none 0 0]) (t := 29) ?hr ?_; (case hd => rfl); (case hg => rfl); (case hr => first | (go_simp; done) | (go_simp; rfl)); intro gb306 hg w21 hbox hb; have n0_ := aM (IsS147.below (by iI) hb); have n1_ := aM (KeepBut.trans (by iK) (KeepBut.of_below hb g none) (.inl rfl)); have n2_ := aM (below_step (by iB) hb); have n3_ := aM (hbox); have n4_ := aM ((by rw [hg]; exact (keep_size (w := w) (g := g) (row := none) (by iK)) : w.heap.size ≤ gb306)); have n5_ := aM ((Nat.le_trans HW0.out (by rw [hg]; exact (keep_size (w := w) (g := g) (row := none) (by iK)) : w.heap.size ≤ gb306) : w0.heap.size ≤ gb306)); have n6_ := aM ((by rw [hg]; exact Nat.ne_of_lt (IsS147.lt (show IsS147 w0 _ g s0_0 s0_1 s0_2 from by iI)) : g ≠ gb306)); have n7_ := aM ((by rw [hg]; exact Nat.ne_of_gt (IsS147.lt (show IsS147 w0 _ g s0_0 s0_1 s0_2 from by iI)) : gb306 ≠ g)); clear HI0; clear HK; clear HB; have HI0 := n0_; have HK := n1_; have HB := n2_; have BK306 := n3_; have GW306 := n4_; have GE306 := n5_; have NB0_306 := n6_; have NB306_0 := n7_; clear n0_ n1_ n2_ n3_ n4_ n5_ n6_ n7_; clear hb hbox hg) | ((with_reducible refine gate_callee (f := 201) rfl ?_); refine goesL_ (some 7) rfl rfl Tryd.func201 (by kernel_rfl) rfl #[.pointer (some ⟨g, 0, none⟩)] rfl (by mA) ?_; (with_reducible refine (spec_l1Cur_sureLamps.calls k g s0_0 s0_1 s0_2 t307 t310 t311 w0 _ ?side1 ?side2 A2.out).mono ?_); (case side1 => repeat (first | (with_reducible first | exact HI0.out | apply IsS147.alloc | apply IsS147.drewN | apply IsS147.drew | apply IsS147.set_1 | apply IsS147.set_2 | refine IsS147.far ?_ NB0_306.out _) | exact HI0.out)); (case side2 => repeat (first | (with_reducible first | exact HB.out | apply below_alloc | apply pw_below_drewN | apply below_drew1 | refine below_set ?_ (IsS147.ge HI0.out) | refine below_set ?_ GE306.out) | exact HB.out)); rintro e w22 ⟨v308, rfl, ho0, hi, hb, hk⟩; refine ⟨_, rfl, ?_⟩; have n0_ := aM (KeepBut.blk hk (g' := gb306) (o := .cells #[.slice none 0 0] 29 (0, 0)) (by (with_reducible repeat (first | refine blk_drewN ?_ _ | refine blk_drew ?_ | refine blk_alloc ?_ _)); exact BK306.out) NB306_0.out (by simp)); have n1_ := aM (Kd.R_lower ho0 (keep_size (w := w) (g := g) (row := none) (by repeat (first | (with_reducible first | exact HK.out | apply KeepBut.set_ | apply keep_drewN | apply keep_drew | apply keep_alloc | refine keep_far ?_ GW306.out _) | exact HK.out)))); have n2_ := aM (KeepBut.trans (by repeat (first | (with_reducible first | exact HK.out | apply KeepBut.set_ | apply keep_drewN | apply keep_drew | apply keep_alloc | refine keep_far ?_ GW306.out _) | exact HK.out)) hk (.inl rfl)); have n3_ := aM (hb); have n4_ := aM (hi); clear BK306; clear HK; clear HB; clear HI0; have BK306 := n0_; have HO309 := n1_; have HK := n2_; have HB := n3_; have HI0 := n4_; clear n0_ n1_ n2_ n3_ n4_; cX; (try clear ho0)) | ((with_reducible refine gate_dst (N := 3) rfl ?_); refine box_event ?hg (N := 3) ?hd (cs := #[.slice none 0 0]) (t := 29) ?hr ?_; (case hd => rfl); (case hg => rfl); (case hr => first | (go_simp; done) | (go_simp; rfl)); intro gb312 hg w23 hbox hb; have n0_ := aM (Kd.R_below (by (rX); exact HO309.out) hb); have n1_ := aM (IsS147.below (by repeat (first | (with_reducible first | exact HI0.out | apply IsS147.alloc | apply IsS147.drewN | apply IsS147.drew | apply IsS147.set_1 | apply IsS147.set_2 | refine IsS147.far ?_ NB0_306.out _) | exact HI0.out)) hb); have n2_ := aM (blk_below (g := gb306) (o := .cells #[.slice none 0 0] 29 (0, 0)) (by (with_reducible repeat (first | refine blk_drewN ?_ _ | refine blk_drew ?_ | refine blk_alloc ?_ _)); exact BK306.out) hb); have n3_ := aM (KeepBut.trans (by repeat (first | (with_reducible first | exact HK.out | apply KeepBut.set_ | apply keep_drewN | apply keep_drew | apply keep_alloc | refine keep_far ?_ GW306.out _) | exact HK.out)) (KeepBut.of_below hb g none) (.inl rfl)); have n4_ := aM (below_step (by repeat (first | (with_reducible first | exact HB.out | apply below_alloc | apply pw_below_drewN | apply below_drew1 | refine below_set ?_ (IsS147.ge HI0.out) | refine below_set ?_ GE306.out) | exact HB.out)) hb); have n5_ := aM (hbox); have n6_ := aM ((by rw [hg]; exact (keep_size (w := w) (g := g) (row := none) (by repeat (first | (with_reducible first | exact HK.out | apply KeepBut.set_ | apply keep_drewN | apply keep_drew | apply keep_alloc | refine keep_far ?_ GW306.out _) | exact HK.out))) : w.heap.size ≤ gb312)); have n7_ := aM ((Nat.le_trans HW0.out (by rw [hg]; exact (keep_size (w := w) (g := g) (row := none) (by repeat (first | (with_reducible first | exact HK.out | apply KeepBut.set_ | apply keep_drewN | apply keep_drew | apply keep_alloc | refine keep_far ?_ GW306.out _) | exact HK.out))) : w.heap.size ≤ gb312) : w0.heap.size ≤ gb312)); have n8_ := aM ((by rw [hg]; exact Nat.ne_of_lt (blk_lt (g := gb306) (o := .cells #[.slice none 0 0] 29 (0, 0)) (by (with_reducible repeat (first | refine blk_drewN ?_ _ | refine blk_drew ?_ | refine blk_alloc ?_ _)); exact BK306.out)) : gb306 ≠ gb312)); have n9_ := aM ((by rw [hg]; exact Nat.ne_of_gt (blk_lt (g := gb306) (o := .cells #[.slice none 0 0] 29 (0, 0)) (by (with_reducible repeat (first | refine blk_drewN ?_ _ | refine blk_drew ?_ | refine blk_alloc ?_ _)); exact BK306.out)) : gb312 ≠ gb306)); have n10_ := aM ((by rw [hg]; exact Nat.ne_of_lt (IsS147.lt (show IsS147 w0 _ g s0_0 t310 t311 from by repeat (first | (with_reducible first | exact HI0.out | apply IsS147.alloc | apply IsS147.drewN | apply IsS147.drew | apply IsS147.set_1 | apply IsS147.set_2 | refine IsS147.far ?_ NB0_306.out _) | exact HI0.out))) : g ≠ gb312)); have n11_ := aM ((by rw [hg]; exact Nat.ne_of_gt (IsS147.lt (show IsS147 w0 _ g s0_0 t310 t311 from by repeat (first | (with_reducible first | exact HI0.out | apply IsS147.alloc | apply IsS147.drewN | apply IsS147.drew | apply IsS147.set_1 | apply IsS147.set_2 | refine IsS147.far ?_ NB0_306.out _) | exact HI0.out))) : gb312 ≠ g)); clear HO309; clear HI0; clear BK306; clear HK; clear HB; have HO309 := n0_; have HI0 := n1_; have BK306 := n2_; have HK := n3_; have HB := n4_; have BK312 := n5_; have GW312 := n6_; have GE312 := n7_; have NB306_312 := n8_; have NB312_306 := n9_; have NB0_312 := n10_; have NB312_0 := n11_; clear n0_ n1_ n2_ n3_ n4_ n5_ n6_ n7_ n8_ n9_ n10_ n11_; clear hb hbox hg; obtain ⟨Ao24, co24, eo24⟩ := Kd.R_slice HO309.out; subst eo24; have hnb25 := NB312_306.out; have hnc25 := NB306_312.out; have hnb26 := NB312_0.out; have hnc26 := NB0_312.out; have hcz27_0 : w23.cell? ⟨gb312, 0, none⟩ = some (.slice none 0 0) := (blk_cell BK312.out 0).trans rfl; have hfz27_0 := blk_frozen BK312.out 0) | ((with_reducible refine gate_callee (f := 168) rfl ?_); refine goesL_ (some 9) rfl rfl Tryd.func168 (by kernel_rfl) rfl #[.pointer (some ⟨g, 0, none⟩), .int .i64 16] rfl (by mA) ?_; (with_reducible refine (spec_l1Cur_pick.calls g s0_0 t310 t311 16 t313 t314 t315 w0 _ ?side1 ?side2 A3.out).mono ?_); (case side1 => repeat (first | (with_reducible first | exact HI0.out | apply IsS147.alloc | apply IsS147.drewN | apply IsS147.drew | apply IsS147.set_1 | apply IsS147.set_2 | refine IsS147.far ?_ NB0_306.out _ | refine IsS147.far ?_ NB0_312.out _) | exact HI0.out)); (case side2 => repeat (first | (with_reducible first | exact HB.out | apply below_alloc | apply pw_below_drewN | apply below_drew1 | refine below_set ?_ (IsS147.ge HI0.out) | refine below_set ?_ GE306.out | refine below_set ?_ GE312.out) | exact HB.out)); rintro e w28 ⟨rfl, hi, hb, hk⟩; refine ⟨_, rfl, ?_⟩; have n0_ := aM (KeepBut.blk hk (g' := gb306) (o := .cells #[.slice none 0 0] 29 (0, 0)) (by (with_reducible repeat (first | refine blk_drewN ?_ _ | refine blk_drew ?_ | refine blk_alloc ?_ _)); refine blk_far ?_ NB306_312.out _; (with_reducible repeat (first | refine blk_drewN ?_ _ | refine blk_drew ?_ | refine blk_alloc ?_ _)); exact BK306.out) NB306_0.out (by simp)); have n1_ := aM (Kd.R_mono (Kd.R_keep (IsS147.apart (show IsS147 w0 _ g s0_0 t310 t311 from by repeat (first | (with_reducible first | exact HI0.out | apply IsS147.alloc | apply IsS147.drewN | apply IsS147.drew | apply IsS147.set_1 | apply IsS147.set_2 | refine IsS147.far ?_ NB0_306.out _ | refine IsS147.far ?_ NB0_312.out _) | exact HI0.out)) (by (rX); exact (Kd.R_mono (Kd.R_far (p := ⟨gb312, 0, none⟩) (Kd.R_types HO309.out BK312.out (by decide)) (fun _ hk => hk.2) (.slice Ao24 t307.length co24)) (fun _ h_ => h_.1))) (by decide)) hk (fun _ h => h.2)) (fun _ h => h.1)); have n2_ := aM (KeepBut.blk hk (g' := gb312) (o := .cells #[.slice Ao24 t307.length co24] 29 (0, 0)) (by (with_reducible repeat (first | refine blk_drewN ?_ _ | refine blk_drew ?_ | refine blk_alloc ?_ _)); refine blk_put (cs := #[.slice none 0 0]) ?_ 0 _ rfl; (with_reducible repeat (first | refine blk_drewN ?_ _ | refine blk_drew ?_ | refine blk_alloc ?_ _)); exact BK312.out) NB312_0.out (by simp)); have n3_ := aM (KeepBut.trans (by repeat (first | (with_reducible first | exact HK.out | apply KeepBut.set_ | apply keep_drewN | apply keep_drew | apply keep_alloc | refine keep_far ?_ GW306.out _ | refine keep_far ?_ GW312.out _) | exact HK.out)) hk (.inl rfl)); have n4_ := aM (hb); have n5_ := aM (hi); clear BK306; clear HO309; clear BK312; clear HK; clear HB; clear HI0; have BK306 := n0_; have HO309 := n1_; have BK312 := n2_; have HK := n3_; have HB := n4_; have HI0 := n5_; clear n0_ n1_ n2_ n3_ n4_ n5_; cX; have hnb29 := NB306_0.out; have hnc29 := NB0_306.out; have hcz30_0 : w28.cell? ⟨gb306, 0, none⟩ = some (.slice none 0 0) := (blk_cell BK306.out 0).trans rfl; have hfz30_0 := blk_frozen BK306.out 0))
   refine bodyPost_ret (results_cell_row rfl _ _ gb306 29 #[.slice none 0 0] (0, 0) _ rfl (by (with_reducible repeat (first | refine blk_drewN ?_ _ | refine blk_drew ?_ | refine blk_alloc ?_ _)); refine blk_put (cs := #[.slice none 0 0]) ?_ 0 _ rfl; (with_reducible repeat (first | refine blk_drewN ?_ _ | refine blk_drew ?_ | refine blk_alloc ?_ _)); exact BK306.out) Tryd.underlying29 rfl (by kernel_rfl)) rfl ?_
   exact ⟨_, by eW, by first | exact Kd.R_nil _ _ _ _ _ | exact Kd.N_nil _ _ _ _ _ | exact Kd.V_nil _ _ _ _ _ | exact Kd.Q_nil _ _ _ _ _ | exact Kd.S_nil _ _ _ _ _, by repeat (first | (with_reducible first | exact HI0.out | apply IsS147.alloc | apply IsS147.drewN | apply IsS147.drew | apply IsS147.set_1 | apply IsS147.set_2 | refine IsS147.far ?_ NB0_306.out _ | refine IsS147.far ?_ NB0_312.out _) | exact HI0.out), by repeat (first | (with_reducible first | exact HB.out | apply below_alloc | apply pw_below_drewN | apply below_drew1 | refine below_set ?_ (IsS147.ge HI0.out) | refine below_set ?_ GE306.out | refine below_set ?_ GE312.out) | exact HB.out), by repeat (first | (with_reducible first | exact HK.out | apply KeepBut.set_ | apply keep_drewN | apply keep_drew | apply keep_alloc | refine keep_far ?_ GW306.out _ | refine keep_far ?_ GW312.out _) | exact HK.out)⟩
  ·rw [if_neg c20] at H
   have c20b0 : (t313 == 1) = false := beq_eq_false_iff_ne.mpr c20
   have c20b1 : (t313 != 1) = true := bne_iff_ne.mpr c20
   by_cases c31 : t313 = 2
   ·rw [if_pos c31] at H
    have c31b0 : (t313 == 2) = true := beq_iff_eq.mpr c31
    have c31b1 : (t313 != 2) = false := bne_eq_false_iff_eq.mpr c31
    clear c31
    by_cases c32 : 0 < (t307.length : Int)
    ·rw [if_pos c32] at H
     have c32b0 : decide (0 < (t307.length : Int)) = true := decide_eq_true c32
     have c32b1 : decide (0 < t307.length) = true := decide_eq_true (by omega)
     clear c32
     replace H := Option.bind_eq_some_iff.mp H
     obtain ⟨⟨t320, t321, t322⟩, A330, H⟩ := H
     dsimp only at H
     have A33 := aM A330
     clear A330
     obtain ⟨y323, hy323⟩ : ∃ y_ : List ByteArray, y_ = (t307.set (0 : Int).toNat t320) := ⟨_, rfl⟩
     replace H : (some (y323, t321, t322)) = some (r1, r2, r3) := by fH hy323
     have Ny323 := aM hy323
     clear hy323
     simp only [Option.some.injEq, Prod.mk.injEq] at H
     obtain ⟨rfl, rfl, rfl⟩ := H
     go_enter Tryd.func164, Tryd.ntmps164
     try go_wp2_with (first | ((with_reducible refine gate_dst (N := 2) rfl ?_); refine box_event ?hg (N := 2) ?hd (cs := #[.slice none 0 0]) (t := 29) ?hr ?_; (case hd => rfl); (case hg => rfl); (case hr => first | (go_simp; done) | (go_simp; rfl)); intro gb306 hg w35 hbox hb; have n0_ := aM (IsS147.below (by iI) hb); have n1_ := aM (KeepBut.trans (by iK) (KeepBut.of_below hb g none) (.inl rfl)); have n2_ := aM (below_step (by iB) hb); have n3_ := aM (hbox); have n4_ := aM ((by rw [hg]; exact (keep_size (w := w) (g := g) (row := none) (by iK)) : w.heap.size ≤ gb306)); have n5_ := aM ((Nat.le_trans HW0.out (by rw [hg]; exact (keep_size (w := w) (g := g) (row := none) (by iK)) : w.heap.size ≤ gb306) : w0.heap.size ≤ gb306)); have n6_ := aM ((by rw [hg]; exact Nat.ne_of_lt (IsS147.lt (show IsS147 w0 _ g s0_0 s0_1 s0_2 from by iI)) : g ≠ gb306)); have n7_ := aM ((by rw [hg]; exact Nat.ne_of_gt (IsS147.lt (show IsS147 w0 _ g s0_0 s0_1 s0_2 from by iI)) : gb306 ≠ g)); clear HI0; clear HK; clear HB; have HI0 := n0_; have HK := n1_; have HB := n2_; have BK306 := n3_; have GW306 := n4_; have GE306 := n5_; have NB0_306 := n6_; have NB306_0 := n7_; clear n0_ n1_ n2_ n3_ n4_ n5_ n6_ n7_; clear hb hbox hg) | ((with_reducible refine gate_callee (f := 201) rfl ?_); refine goesL_ (some 7) rfl rfl Tryd.func201 (by kernel_rfl) rfl #[.pointer (some ⟨g, 0, none⟩)] rfl (by mA) ?_; (with_reducible refine (spec_l1Cur_sureLamps.calls k g s0_0 s0_1 s0_2 t307 t310 t311 w0 _ ?side1 ?side2 A2.out).mono ?_); (case side1 => repeat (first | (with_reducible first | exact HI0.out | apply IsS147.alloc | apply IsS147.drewN | apply IsS147.drew | apply IsS147.set_1 | apply IsS147.set_2 | refine IsS147.far ?_ NB0_306.out _) | exact HI0.out)); (case side2 => repeat (first | (with_reducible first | exact HB.out | apply below_alloc | apply pw_below_drewN | apply below_drew1 | refine below_set ?_ (IsS147.ge HI0.out) | refine below_set ?_ GE306.out) | exact HB.out)); rintro e w36 ⟨v308, rfl, ho0, hi, hb, hk⟩; refine ⟨_, rfl, ?_⟩; have n0_ := aM (KeepBut.blk hk (g' := gb306) (o := .cells #[.slice none 0 0] 29 (0, 0)) (by (with_reducible repeat (first | refine blk_drewN ?_ _ | refine blk_drew ?_ | refine blk_alloc ?_ _)); exact BK306.out) NB306_0.out (by simp)); have n1_ := aM (Kd.R_lower ho0 (keep_size (w := w) (g := g) (row := none) (by repeat (first | (with_reducible first | exact HK.out | apply KeepBut.set_ | apply keep_drewN | apply keep_drew | apply keep_alloc | refine keep_far ?_ GW306.out _) | exact HK.out)))); have n2_ := aM (KeepBut.trans (by repeat (first | (with_reducible first | exact HK.out | apply KeepBut.set_ | apply keep_drewN | apply keep_drew | apply keep_alloc | refine keep_far ?_ GW306.out _) | exact HK.out)) hk (.inl rfl)); have n3_ := aM (hb); have n4_ := aM (hi); clear BK306; clear HK; clear HB; clear HI0; have BK306 := n0_; have HO309 := n1_; have HK := n2_; have HB := n3_; have HI0 := n4_; clear n0_ n1_ n2_ n3_ n4_; cX; (try clear ho0)) | ((with_reducible refine gate_dst (N := 3) rfl ?_); refine box_event ?hg (N := 3) ?hd (cs := #[.slice none 0 0]) (t := 29) ?hr ?_; (case hd => rfl); (case hg => rfl); (case hr => first | (go_simp; done) | (go_simp; rfl)); intro gb312 hg w37 hbox hb; have n0_ := aM (Kd.R_below (by (rX); exact HO309.out) hb); have n1_ := aM (IsS147.below (by repeat (first | (with_reducible first | exact HI0.out | apply IsS147.alloc | apply IsS147.drewN | apply IsS147.drew | apply IsS147.set_1 | apply IsS147.set_2 | refine IsS147.far ?_ NB0_306.out _) | exact HI0.out)) hb); have n2_ := aM (blk_below (g := gb306) (o := .cells #[.slice none 0 0] 29 (0, 0)) (by (with_reducible repeat (first | refine blk_drewN ?_ _ | refine blk_drew ?_ | refine blk_alloc ?_ _)); exact BK306.out) hb); have n3_ := aM (KeepBut.trans (by repeat (first | (with_reducible first | exact HK.out | apply KeepBut.set_ | apply keep_drewN | apply keep_drew | apply keep_alloc | refine keep_far ?_ GW306.out _) | exact HK.out)) (KeepBut.of_below hb g none) (.inl rfl)); have n4_ := aM (below_step (by repeat (first | (with_reducible first | exact HB.out | apply below_alloc | apply pw_below_drewN | apply below_drew1 | refine below_set ?_ (IsS147.ge HI0.out) | refine below_set ?_ GE306.out) | exact HB.out)) hb); have n5_ := aM (hbox); have n6_ := aM ((by rw [hg]; exact (keep_size (w := w) (g := g) (row := none) (by repeat (first | (with_reducible first | exact HK.out | apply KeepBut.set_ | apply keep_drewN | apply keep_drew | apply keep_alloc | refine keep_far ?_ GW306.out _) | exact HK.out))) : w.heap.size ≤ gb312)); have n7_ := aM ((Nat.le_trans HW0.out (by rw [hg]; exact (keep_size (w := w) (g := g) (row := none) (by repeat (first | (with_reducible first | exact HK.out | apply KeepBut.set_ | apply keep_drewN | apply keep_drew | apply keep_alloc | refine keep_far ?_ GW306.out _) | exact HK.out))) : w.heap.size ≤ gb312) : w0.heap.size ≤ gb312)); have n8_ := aM ((by rw [hg]; exact Nat.ne_of_lt (blk_lt (g := gb306) (o := .cells #[.slice none 0 0] 29 (0, 0)) (by (with_reducible repeat (first | refine blk_drewN ?_ _ | refine blk_drew ?_ | refine blk_alloc ?_ _)); exact BK306.out)) : gb306 ≠ gb312)); have n9_ := aM ((by rw [hg]; exact Nat.ne_of_gt (blk_lt (g := gb306) (o := .cells #[.slice none 0 0] 29 (0, 0)) (by (with_reducible repeat (first | refine blk_drewN ?_ _ | refine blk_drew ?_ | refine blk_alloc ?_ _)); exact BK306.out)) : gb312 ≠ gb306)); have n10_ := aM ((by rw [hg]; exact Nat.ne_of_lt (IsS147.lt (show IsS147 w0 _ g s0_0 t310 t311 from by repeat (first | (with_reducible first | exact HI0.out | apply IsS147.alloc | apply IsS147.drewN | apply IsS147.drew | apply IsS147.set_1 | apply IsS147.set_2 | refine IsS147.far ?_ NB0_306.out _) | exact HI0.out))) : g ≠ gb312)); have n11_ := aM ((by rw [hg]; exact Nat.ne_of_gt (IsS147.lt (show IsS147 w0 _ g s0_0 t310 t311 from by repeat (first | (with_reducible first | exact HI0.out | apply IsS147.alloc | apply IsS147.drewN | apply IsS147.drew | apply IsS147.set_1 | apply IsS147.set_2 | refine IsS147.far ?_ NB0_306.out _) | exact HI0.out))) : gb312 ≠ g)); clear HO309; clear HI0; clear BK306; clear HK; clear HB; have HO309 := n0_; have HI0 := n1_; have BK306 := n2_; have HK := n3_; have HB := n4_; have BK312 := n5_; have GW312 := n6_; have GE312 := n7_; have NB306_312 := n8_; have NB312_306 := n9_; have NB0_312 := n10_; have NB312_0 := n11_; clear n0_ n1_ n2_ n3_ n4_ n5_ n6_ n7_ n8_ n9_ n10_ n11_; clear hb hbox hg; obtain ⟨Ao38, co38, eo38⟩ := Kd.R_slice HO309.out; subst eo38; have hnb39 := NB312_306.out; have hnc39 := NB306_312.out; have hnb40 := NB312_0.out; have hnc40 := NB0_312.out; have hcz41_0 : w37.cell? ⟨gb312, 0, none⟩ = some (.slice none 0 0) := (blk_cell BK312.out 0).trans rfl; have hfz41_0 := blk_frozen BK312.out 0) | ((with_reducible refine gate_callee (f := 168) rfl ?_); refine goesL_ (some 9) rfl rfl Tryd.func168 (by kernel_rfl) rfl #[.pointer (some ⟨g, 0, none⟩), .int .i64 16] rfl (by mA) ?_; (with_reducible refine (spec_l1Cur_pick.calls g s0_0 t310 t311 16 t313 t314 t315 w0 _ ?side1 ?side2 A3.out).mono ?_); (case side1 => repeat (first | (with_reducible first | exact HI0.out | apply IsS147.alloc | apply IsS147.drewN | apply IsS147.drew | apply IsS147.set_1 | apply IsS147.set_2 | refine IsS147.far ?_ NB0_306.out _ | refine IsS147.far ?_ NB0_312.out _) | exact HI0.out)); (case side2 => repeat (first | (with_reducible first | exact HB.out | apply below_alloc | apply pw_below_drewN | apply below_drew1 | refine below_set ?_ (IsS147.ge HI0.out) | refine below_set ?_ GE306.out | refine below_set ?_ GE312.out) | exact HB.out)); rintro e w42 ⟨rfl, hi, hb, hk⟩; refine ⟨_, rfl, ?_⟩; have n0_ := aM (KeepBut.blk hk (g' := gb306) (o := .cells #[.slice none 0 0] 29 (0, 0)) (by (with_reducible repeat (first | refine blk_drewN ?_ _ | refine blk_drew ?_ | refine blk_alloc ?_ _)); refine blk_far ?_ NB306_312.out _; (with_reducible repeat (first | refine blk_drewN ?_ _ | refine blk_drew ?_ | refine blk_alloc ?_ _)); exact BK306.out) NB306_0.out (by simp)); have n1_ := aM (Kd.R_mono (Kd.R_keep (IsS147.apart (show IsS147 w0 _ g s0_0 t310 t311 from by repeat (first | (with_reducible first | exact HI0.out | apply IsS147.alloc | apply IsS147.drewN | apply IsS147.drew | apply IsS147.set_1 | apply IsS147.set_2 | refine IsS147.far ?_ NB0_306.out _ | refine IsS147.far ?_ NB0_312.out _) | exact HI0.out)) (by (rX); exact (Kd.R_mono (Kd.R_far (p := ⟨gb312, 0, none⟩) (Kd.R_types HO309.out BK312.out (by decide)) (fun _ hk => hk.2) (.slice Ao38 t307.length co38)) (fun _ h_ => h_.1))) (by decide)) hk (fun _ h => h.2)) (fun _ h => h.1)); have n2_ := aM (KeepBut.blk hk (g' := gb312) (o := .cells #[.slice Ao38 t307.length co38] 29 (0, 0)) (by (with_reducible repeat (first | refine blk_drewN ?_ _ | refine blk_drew ?_ | refine blk_alloc ?_ _)); refine blk_put (cs := #[.slice none 0 0]) ?_ 0 _ rfl; (with_reducible repeat (first | refine blk_drewN ?_ _ | refine blk_drew ?_ | refine blk_alloc ?_ _)); exact BK312.out) NB312_0.out (by simp)); have n3_ := aM (KeepBut.trans (by repeat (first | (with_reducible first | exact HK.out | apply KeepBut.set_ | apply keep_drewN | apply keep_drew | apply keep_alloc | refine keep_far ?_ GW306.out _ | refine keep_far ?_ GW312.out _) | exact HK.out)) hk (.inl rfl)); have n4_ := aM (hb); have n5_ := aM (hi); clear BK306; clear HO309; clear BK312; clear HK; clear HB; clear HI0; have BK306 := n0_; have HO309 := n1_; have BK312 := n2_; have HK := n3_; have HB := n4_; have HI0 := n5_; clear n0_ n1_ n2_ n3_ n4_ n5_; cX))
     have n0_ := aM (Kd.R_drew HO309.out)
     have n1_ := aM (blk_drew BK306.out)
     have n2_ := aM (blk_drew BK312.out)
     have n3_ := aM (IsS147.drew HI0.out)
     have n4_ := aM (keep_drew HK.out)
     have n5_ := aM (below_drew1 HB.out)
     clear HO309
     clear BK306
     clear BK312
     clear HI0
     clear HK
     clear HB
     have HO309 := n0_
     have BK306 := n1_
     have BK312 := n2_
     have HI0 := n3_
     have HK := n4_
     have HB := n5_
     clear n0_ n1_ n2_ n3_ n4_ n5_
     have p319 : 0 ≤ (0 : Int) := (by omega)
     have q319 : 0 < (t307.length : Int) := of_decide_eq_true (by first | (with_reducible assumption) | assumption)
     obtain ⟨ad319, e319, hx319_0⟩ := Kd.at_string (Kd.R_reads' HO309.out).2.2 0 p319 q319
     cases e319
     have qi319 : (0 < t307.length) = True := eq_true (by omega)
     (try rw [show ((0 : Int)).toNat = 0 from rfl] at hx319_0)
     (try rw [Addr.add_zero'] at hx319_0)
     replace p319 := eq_true p319
     replace q319 := eq_true q319
     refine start_ (n := 10) (S := fun w' => w'.cell? ⟨gb312, 0, none⟩ = some (.slice (some ad319) t307.length co38) ∧ w'.cell? ad319 = some (.string (rdOf ByteArray.empty t307 0))) (ds := [9]) #[false, false, false, false, false, false, false, false, false, false] (by kernel_rfl) rfl rfl ⟨(blk_cell BK312.out 0).trans rfl, hx319_0⟩ (fun hHeld => ?_); refine with_tabW spec_l1Cur_lamps.tab8 spec_l1Cur_lamps.bits8 (fun HT_ HW_ => ?_)
     generalize w42.drew = w43 at HO309 BK306 BK312 HI0 HK HB hx319_0 hHeld ⊢
     pU 0 (some 22) #[true, false, false, false, false, false, false, false, false, false]
     rotate_left
     ·intro w'
      go_simp
      with_reducible rfl
     rotate_left
     ·simp only [Act.put, List.setIfInBounds_toArray, List.set_cons_zero, List.set_cons_succ, i64_w, i32_w]
      rfl
     pU 2 (some 24) #[true, false, true, false, false, false, false, false, false, false]
     rotate_left
     ·intro w'
      go_simp
      with_reducible rfl
     rotate_left
     ·simp only [Act.put, List.setIfInBounds_toArray, List.set_cons_zero, List.set_cons_succ, i64_w, i32_w]
      rfl
     pU 3 (some 25) #[true, false, true, true, false, false, false, false, false, false]
     rotate_left
     ·intro w'
      go_simp
      with_reducible rfl
     rotate_left
     ·simp only [Act.put, List.setIfInBounds_toArray, List.set_cons_zero, List.set_cons_succ, i64_w, i32_w]
      rfl
     refine take_ (i := 1) (N := some 23) (v := ?_) (a' := ?_) #[true, true, true, true, false, false, false, false, false, false] rfl rfl (take_ofW HT_.out HW_.out (by kernel_rfl)) (fun _ _ _ h => h) (Or.inl ⟨by rfl, ?_⟩) hHeld ?_ ?_
     rotate_left
     ·rintro w' ⟨s0, s1⟩
      go_simp
      with_reducible rfl
     rotate_left
     ·simp only [Act.put, List.setIfInBounds_toArray, List.set_cons_zero, List.set_cons_succ, i64_w, i32_w]
      rfl
     refine take_ (i := 4) (N := some 26) (v := ?_) (a' := ?_) #[true, true, true, true, true, false, false, false, false, false] rfl rfl (take_ofW HT_.out HW_.out (by kernel_rfl)) (fun _ _ _ h => h) (Or.inl ⟨by rfl, ?_⟩) hHeld ?_ ?_
     rotate_left
     ·rintro w' ⟨s0, s1⟩
      go_simp
      with_reducible rfl
     rotate_left
     ·simp only [Act.put, List.setIfInBounds_toArray, List.set_cons_zero, List.set_cons_succ, i64_w, i32_w]
      rfl
     pU 5 (some 27) #[true, true, true, true, true, true, false, false, false, false]
     rotate_left
     ·intro w'
      go_simp
      with_reducible rfl
     rotate_left
     ·simp only [Act.put, List.setIfInBounds_toArray, List.set_cons_zero, List.set_cons_succ, i64_w, i32_w]
      rfl
     refine take_ (i := 6) (N := some 28) (v := ?_) (a' := ?_) #[true, true, true, true, true, true, true, false, false, false] rfl rfl (take_ofW HT_.out HW_.out (by kernel_rfl)) (fun _ _ _ h => h) (Or.inl ⟨by rfl, ?_⟩) hHeld ?_ ?_
     rotate_left
     ·rintro w' ⟨s0, s1⟩
      go_simp
      with_reducible rfl
     rotate_left
     ·simp only [Act.put, List.setIfInBounds_toArray, List.set_cons_zero, List.set_cons_succ, i64_w, i32_w]
      rfl
     refine one_ (i := 7) (N := some 29) #[true, true, true, true, true, true, true, true, false, false] rfl rfl (one_of HT_.out (by kernel_rfl)) (by decide) (fun K hK => ?_)
     refine goes_ Tryd.func202 (by kernel_rfl) rfl #[.pointer (some ⟨g, 0, none⟩), .string (rdOf ByteArray.empty t307 0), .string (⟨#[48, 49, 63, 120]⟩ : ByteArray)] (by rfl) rfl rfl (by mA) ?_
     with_reducible refine (spec_l1Cur_spoilt.calls k g s0_0 t314 t315 (rdOf ByteArray.empty t307 0) (⟨#[48, 49, 63, 120]⟩ : ByteArray) t320 t321 t322 w0 _ ?side1 ?side2 A33.out).mono ?_
     (case side1 => repeat (first | (with_reducible first | exact HI0.out | apply IsS147.alloc | apply IsS147.drewN | apply IsS147.drew | apply IsS147.set_1 | apply IsS147.set_2 | refine IsS147.far ?_ NB0_306.out _ | refine IsS147.far ?_ NB0_312.out _) | exact HI0.out))
     (case side2 => repeat (first | (with_reducible first | exact HB.out | apply below_alloc | apply pw_below_drewN | apply below_drew1 | refine below_set ?_ (IsS147.ge HI0.out) | refine below_set ?_ GE306.out | refine below_set ?_ GE312.out) | exact HB.out))
     rintro e w44 ⟨rfl, hi, hb, hk⟩
     have HS1_ := keep_cell hk (hHeld.2) (by first | (rw [add_block]; exact Kd.own_blk (IsS147.own_ne HI0.out HO309.out (by decide))) | (show (Addr.add _ _).block ≠ _; rw [add_block]; exact Kd.own_blk (IsS147.own_ne HI0.out HO309.out (by decide))) | exact Kd.own_blk (IsS147.own_ne HI0.out HO309.out (by decide)))
     refine ⟨_, rfl, ?_⟩
     have n0_ := aM (KeepBut.blk hk (g' := gb306) (o := .cells #[.slice none 0 0] 29 (0, 0)) (by (with_reducible repeat (first | refine blk_drewN ?_ _ | refine blk_drew ?_ | refine blk_alloc ?_ _)); exact BK306.out) NB306_0.out (by simp))
     have n1_ := aM (Kd.R_mono (Kd.R_keep (IsS147.apart (show IsS147 w0 _ g s0_0 t314 t315 from by repeat (first | (with_reducible first | exact HI0.out | apply IsS147.alloc | apply IsS147.drewN | apply IsS147.drew | apply IsS147.set_1 | apply IsS147.set_2 | refine IsS147.far ?_ NB0_306.out _ | refine IsS147.far ?_ NB0_312.out _) | exact HI0.out)) (by (rX); exact HO309.out) (by decide)) hk (fun _ h => h.2)) (fun _ h => h.1))
     have n2_ := aM (KeepBut.blk hk (g' := gb312) (o := .cells #[.slice (some ad319) t307.length co38] 29 (0, 0)) (by (with_reducible repeat (first | refine blk_drewN ?_ _ | refine blk_drew ?_ | refine blk_alloc ?_ _)); exact BK312.out) NB312_0.out (by simp))
     have n3_ := aM (KeepBut.trans (by repeat (first | (with_reducible first | exact HK.out | apply KeepBut.set_ | apply keep_drewN | apply keep_drew | apply keep_alloc | refine keep_far ?_ GW306.out _ | refine keep_far ?_ GW312.out _) | exact HK.out)) hk (.inl rfl))
     have n4_ := aM (hb)
     have n5_ := aM (hi)
     clear BK306
     clear HO309
     clear BK312
     clear HK
     clear HB
     clear HI0
     have BK306 := n0_
     have HO309 := n1_
     have BK312 := n2_
     have HK := n3_
     have HB := n4_
     have HI0 := n5_
     clear n0_ n1_ n2_ n3_ n4_ n5_
     (try clear hb)
     (try clear hb2)
     (try clear hk)
     (try clear hi)
     have p34 : 0 ≤ (0 : Int) := (by omega)
     have q34 : (0 : Int) < ((t307.length : Int) : Int) := of_decide_eq_true (by first | (with_reducible assumption) | assumption)
     have qi34 : (0 < t307.length) = True := eq_true (by omega)
     obtain ⟨go34, co34, eo34, gb34, gl34, cl34, HG34⟩ := Kd.R_form HO309.out (by omega)
     (first | cases eo34 | (injection eo34 with ea_ en_ ec_; (first | subst ea_ | (injection ea_ with ea_; subst ea_)); subst ec_; clear en_))
     have GB34 := aM gb34
     have GG34 := aM HG34
     clear gb34 gl34 HG34
     (first | simp only [add_plain] at hx319_0 | skip)
     obtain ⟨hx34_0, hf34_0⟩ := Kd.R_celln (⟨#[]⟩ : ByteArray) HO309.out (0 : Int) p34 q34
     (try rw [show ((0 : Int)).toNat = 0 from rfl] at hx34_0)
     (try simp only [Nat.reduceMul, Nat.zero_mul, Nat.zero_add, Nat.reduceAdd] at hx34_0)
     (try rw [show ((0 : Int)).toNat = 0 from rfl] at hf34_0)
     (try simp only [Nat.reduceMul, Nat.zero_mul, Nat.zero_add, Nat.reduceAdd] at hf34_0)
     replace p34 := eq_true p34
     replace q34 := eq_true q34
     have HN0_go34 := aM (show g ≠ go34 from by have h_ := IsS147.own_ne HI0.out HO309.out (by decide); intro e_; exact h_ (by rw [e_]; rfl))
     have HP45 := Kd.R_putn HO309.out (0 : Int) t320
     rw [← Ny323.out] at HP45
     have HQ45 := aM HP45
     clear HP45
     refine hK.out _ _ ⟨(blk_cell BK312.out 0).trans rfl, HS1_⟩ (fun hHeld => ?_)
     clear hK K
     refine norm_ (a' := ?_) ?_ ?_
     rotate_left
     ·show Act.put _ (some 29) _ = _
      simp only [Act.put, List.setIfInBounds_toArray, List.set_cons_zero, List.set_cons_succ, i64_w, i32_w]
      rfl
     pU 8 (some 30) #[true, true, true, true, true, true, true, true, true, false]
     rotate_left
     ·intro w'
      go_simp
      with_reducible rfl
     rotate_left
     ·simp only [Act.put, List.setIfInBounds_toArray, List.set_cons_zero, List.set_cons_succ, i64_w, i32_w]
      rfl
     refine last_ (i := 9) (N := none) #[true, true, true, true, true, true, true, true, true, true] rfl rfl (one_of HT_.out (by kernel_rfl)) (by decide) (fun K hK => ?_)
     refine skip_ (w1 := ?_) (by rfl) rfl ?_ ?_
     rotate_left
     ·go_simp
      rfl
     refine hK.out _ _ ?_
     clear hK K
     refine done_ (done_of HT_.out (by kernel_rfl)) ?_
     have n0_ : Aside0 (Kd.R Kd.string 9 (w44.setCell ⟨go34, 0, none⟩ (.string t320)) w.heap.size (fun _ => True) (.slice (some ⟨go34, 0, none⟩) t307.length co38) y323) := ⟨by (rX); exact HQ45.out⟩
     have n1_ : Aside0 ((w44.setCell ⟨go34, 0, none⟩ (.string t320)).heap[gb306]? = some (.cells #[.slice none 0 0] 29 (0, 0))) := ⟨by (with_reducible repeat (first | refine blk_drewN ?_ _ | refine blk_drew ?_ | refine blk_alloc ?_ _)); refine blk_far ?_ (by have h_ := Kd.R_ne HO309.out BK306.out (by decide); intro e_; exact h_ (by rw [e_]; rfl)) _; (with_reducible repeat (first | refine blk_drewN ?_ _ | refine blk_drew ?_ | refine blk_alloc ?_ _)); exact BK306.out⟩
     have n2_ : Aside0 ((w44.setCell ⟨go34, 0, none⟩ (.string t320)).heap[gb312]? = some (.cells #[.slice (some ⟨go34, 0, none⟩) t307.length co38] 29 (0, 0))) := ⟨by (with_reducible repeat (first | refine blk_drewN ?_ _ | refine blk_drew ?_ | refine blk_alloc ?_ _)); refine blk_far ?_ (by have h_ := Kd.R_ne HO309.out BK312.out (by decide); intro e_; exact h_ (by rw [e_]; rfl)) _; (with_reducible repeat (first | refine blk_drewN ?_ _ | refine blk_drew ?_ | refine blk_alloc ?_ _)); exact BK312.out⟩
     have n3_ : Aside0 (IsS147 w0 (w44.setCell ⟨go34, 0, none⟩ (.string t320)) g s0_0 t321 t322) := ⟨by repeat (first | (with_reducible first | exact HI0.out | apply IsS147.alloc | apply IsS147.drewN | apply IsS147.drew | apply IsS147.set_1 | apply IsS147.set_2 | refine IsS147.far ?_ HN0_go34.out _ | refine IsS147.far ?_ NB0_306.out _ | refine IsS147.far ?_ NB0_312.out _) | exact HI0.out)⟩
     have n4_ : Aside0 (KeepBut w (w44.setCell ⟨go34, 0, none⟩ (.string t320)) g none) := ⟨by repeat (first | (with_reducible first | exact HK.out | apply KeepBut.set_ | apply keep_drewN | apply keep_drew | apply keep_alloc | refine keep_far ?_ GB34.out _ | refine keep_far ?_ GW306.out _ | refine keep_far ?_ GW312.out _) | exact HK.out)⟩
     have n5_ : Aside0 (Below w0.heap.size w0 (w44.setCell ⟨go34, 0, none⟩ (.string t320))) := ⟨by repeat (first | (with_reducible first | exact HB.out | apply below_alloc | apply pw_below_drewN | apply below_drew1 | refine below_set ?_ (Nat.le_trans HL.out GB34.out) | refine below_set ?_ (IsS147.ge HI0.out) | refine below_set ?_ GE306.out | refine below_set ?_ GE312.out) | exact HB.out)⟩
     (try clear HO309)
     (try clear BK306)
     (try clear BK312)
     (try clear HI0)
     (try clear HK)
     (try clear HB)
     generalize (w44.setCell ⟨go34, 0, none⟩ (.string t320)) = w46 at n0_ n1_ n2_ n3_ n4_ n5_ ⊢
     have HO309 := n0_
     have BK306 := n1_
     have BK312 := n2_
     have HI0 := n3_
     have HK := n4_
     have HB := n5_
     clear n0_ n1_ n2_ n3_ n4_ n5_
     have hcz47_0 : w46.cell? ⟨gb312, 0, none⟩ = some (.slice (some ⟨go34, 0, none⟩) t307.length co38) := (blk_cell BK312.out 0).trans rfl
     have hfz47_0 := blk_frozen BK312.out 0
     have hnb48 := NB306_0.out
     have hnc48 := NB0_306.out
     have hcz49_0 : w46.cell? ⟨gb306, 0, none⟩ = some (.slice none 0 0) := (blk_cell BK306.out 0).trans rfl
     have hfz49_0 := blk_frozen BK306.out 0
     try go_wp2
     refine bodyPost_ret (results_cell_row rfl _ _ gb306 29 #[.slice (some ⟨go34, 0, none⟩) t307.length co38] (0, 0) _ rfl (by (with_reducible repeat (first | refine blk_drewN ?_ _ | refine blk_drew ?_ | refine blk_alloc ?_ _)); refine blk_put (cs := #[.slice none 0 0]) ?_ 0 _ rfl; (with_reducible repeat (first | refine blk_drewN ?_ _ | refine blk_drew ?_ | refine blk_alloc ?_ _)); exact BK306.out) Tryd.underlying29 rfl (by kernel_rfl)) rfl ?_
     exact ⟨_, by eW, by (rX); exact Kd.R_mono (Kd.R_far (p := ⟨gb306, 0, none⟩) (Kd.R_types HO309.out BK306.out (by decide)) (fun _ hk => hk.2) (.slice (some ⟨go34, 0, none⟩) t307.length co38)) (fun _ hk => trivial), by repeat (first | (with_reducible first | exact HI0.out | apply IsS147.alloc | apply IsS147.drewN | apply IsS147.drew | apply IsS147.set_1 | apply IsS147.set_2 | refine IsS147.far ?_ NB0_306.out _ | refine IsS147.far ?_ NB0_312.out _) | exact HI0.out), by repeat (first | (with_reducible first | exact HB.out | apply below_alloc | apply pw_below_drewN | apply below_drew1 | refine below_set ?_ (IsS147.ge HI0.out) | refine below_set ?_ GE306.out | refine below_set ?_ GE312.out) | exact HB.out), by repeat (first | (with_reducible first | exact HK.out | apply KeepBut.set_ | apply keep_drewN | apply keep_drew | apply keep_alloc | refine keep_far ?_ GW306.out _ | refine keep_far ?_ GW312.out _) | exact HK.out)⟩
    ·rw [if_neg c32] at H
     exact absurd H (by simp)
   ·rw [if_neg c31] at H
    have c31b0 : (t313 == 2) = false := beq_eq_false_iff_ne.mpr c31
    have c31b1 : (t313 != 2) = true := bne_iff_ne.mpr c31
    by_cases c50 : t313 = 3
    ·rw [if_pos c50] at H
     have c50b0 : (t313 == 3) = true := beq_iff_eq.mpr c50
     have c50b1 : (t313 != 3) = false := bne_eq_false_iff_eq.mpr c50
     clear c50
     replace H := Option.bind_eq_some_iff.mp H
     obtain ⟨⟨t324, t327⟩, A510, H⟩ := H
     dsimp only at H
     have A51 := aM A510
     clear A510
     simp only [Option.some.injEq, Prod.mk.injEq] at H
     obtain ⟨rfl, rfl, rfl⟩ := H
     go_enter Tryd.func164, Tryd.ntmps164
     go_wp2_with (first | ((with_reducible refine gate_dst (N := 2) rfl ?_); refine box_event ?hg (N := 2) ?hd (cs := #[.slice none 0 0]) (t := 29) ?hr ?_; (case hd => rfl); (case hg => rfl); (case hr => first | (go_simp; done) | (go_simp; rfl)); intro gb306 hg w52 hbox hb; have n0_ := aM (IsS147.below (by iI) hb); have n1_ := aM (KeepBut.trans (by iK) (KeepBut.of_below hb g none) (.inl rfl)); have n2_ := aM (below_step (by iB) hb); have n3_ := aM (hbox); have n4_ := aM ((by rw [hg]; exact (keep_size (w := w) (g := g) (row := none) (by iK)) : w.heap.size ≤ gb306)); have n5_ := aM ((Nat.le_trans HW0.out (by rw [hg]; exact (keep_size (w := w) (g := g) (row := none) (by iK)) : w.heap.size ≤ gb306) : w0.heap.size ≤ gb306)); have n6_ := aM ((by rw [hg]; exact Nat.ne_of_lt (IsS147.lt (show IsS147 w0 _ g s0_0 s0_1 s0_2 from by iI)) : g ≠ gb306)); have n7_ := aM ((by rw [hg]; exact Nat.ne_of_gt (IsS147.lt (show IsS147 w0 _ g s0_0 s0_1 s0_2 from by iI)) : gb306 ≠ g)); clear HI0; clear HK; clear HB; have HI0 := n0_; have HK := n1_; have HB := n2_; have BK306 := n3_; have GW306 := n4_; have GE306 := n5_; have NB0_306 := n6_; have NB306_0 := n7_; clear n0_ n1_ n2_ n3_ n4_ n5_ n6_ n7_; clear hb hbox hg) | ((with_reducible refine gate_callee (f := 201) rfl ?_); refine goesL_ (some 7) rfl rfl Tryd.func201 (by kernel_rfl) rfl #[.pointer (some ⟨g, 0, none⟩)] rfl (by mA) ?_; (with_reducible refine (spec_l1Cur_sureLamps.calls k g s0_0 s0_1 s0_2 t307 t310 t311 w0 _ ?side1 ?side2 A2.out).mono ?_); (case side1 => repeat (first | (with_reducible first | exact HI0.out | apply IsS147.alloc | apply IsS147.drewN | apply IsS147.drew | apply IsS147.set_1 | apply IsS147.set_2 | refine IsS147.far ?_ NB0_306.out _) | exact HI0.out)); (case side2 => repeat (first | (with_reducible first | exact HB.out | apply below_alloc | apply pw_below_drewN | apply below_drew1 | refine below_set ?_ (IsS147.ge HI0.out) | refine below_set ?_ GE306.out) | exact HB.out)); rintro e w53 ⟨v308, rfl, ho0, hi, hb, hk⟩; refine ⟨_, rfl, ?_⟩; have n0_ := aM (KeepBut.blk hk (g' := gb306) (o := .cells #[.slice none 0 0] 29 (0, 0)) (by (with_reducible repeat (first | refine blk_drewN ?_ _ | refine blk_drew ?_ | refine blk_alloc ?_ _)); exact BK306.out) NB306_0.out (by simp)); have n1_ := aM (Kd.R_lower ho0 (keep_size (w := w) (g := g) (row := none) (by repeat (first | (with_reducible first | exact HK.out | apply KeepBut.set_ | apply keep_drewN | apply keep_drew | apply keep_alloc | refine keep_far ?_ GW306.out _) | exact HK.out)))); have n2_ := aM (KeepBut.trans (by repeat (first | (with_reducible first | exact HK.out | apply KeepBut.set_ | apply keep_drewN | apply keep_drew | apply keep_alloc | refine keep_far ?_ GW306.out _) | exact HK.out)) hk (.inl rfl)); have n3_ := aM (hb); have n4_ := aM (hi); clear BK306; clear HK; clear HB; clear HI0; have BK306 := n0_; have HO309 := n1_; have HK := n2_; have HB := n3_; have HI0 := n4_; clear n0_ n1_ n2_ n3_ n4_; cX; (try clear ho0)) | ((with_reducible refine gate_dst (N := 3) rfl ?_); refine box_event ?hg (N := 3) ?hd (cs := #[.slice none 0 0]) (t := 29) ?hr ?_; (case hd => rfl); (case hg => rfl); (case hr => first | (go_simp; done) | (go_simp; rfl)); intro gb312 hg w54 hbox hb; have n0_ := aM (Kd.R_below (by (rX); exact HO309.out) hb); have n1_ := aM (IsS147.below (by repeat (first | (with_reducible first | exact HI0.out | apply IsS147.alloc | apply IsS147.drewN | apply IsS147.drew | apply IsS147.set_1 | apply IsS147.set_2 | refine IsS147.far ?_ NB0_306.out _) | exact HI0.out)) hb); have n2_ := aM (blk_below (g := gb306) (o := .cells #[.slice none 0 0] 29 (0, 0)) (by (with_reducible repeat (first | refine blk_drewN ?_ _ | refine blk_drew ?_ | refine blk_alloc ?_ _)); exact BK306.out) hb); have n3_ := aM (KeepBut.trans (by repeat (first | (with_reducible first | exact HK.out | apply KeepBut.set_ | apply keep_drewN | apply keep_drew | apply keep_alloc | refine keep_far ?_ GW306.out _) | exact HK.out)) (KeepBut.of_below hb g none) (.inl rfl)); have n4_ := aM (below_step (by repeat (first | (with_reducible first | exact HB.out | apply below_alloc | apply pw_below_drewN | apply below_drew1 | refine below_set ?_ (IsS147.ge HI0.out) | refine below_set ?_ GE306.out) | exact HB.out)) hb); have n5_ := aM (hbox); have n6_ := aM ((by rw [hg]; exact (keep_size (w := w) (g := g) (row := none) (by repeat (first | (with_reducible first | exact HK.out | apply KeepBut.set_ | apply keep_drewN | apply keep_drew | apply keep_alloc | refine keep_far ?_ GW306.out _) | exact HK.out))) : w.heap.size ≤ gb312)); have n7_ := aM ((Nat.le_trans HW0.out (by rw [hg]; exact (keep_size (w := w) (g := g) (row := none) (by repeat (first | (with_reducible first | exact HK.out | apply KeepBut.set_ | apply keep_drewN | apply keep_drew | apply keep_alloc | refine keep_far ?_ GW306.out _) | exact HK.out))) : w.heap.size ≤ gb312) : w0.heap.size ≤ gb312)); have n8_ := aM ((by rw [hg]; exact Nat.ne_of_lt (blk_lt (g := gb306) (o := .cells #[.slice none 0 0] 29 (0, 0)) (by (with_reducible repeat (first | refine blk_drewN ?_ _ | refine blk_drew ?_ | refine blk_alloc ?_ _)); exact BK306.out)) : gb306 ≠ gb312)); have n9_ := aM ((by rw [hg]; exact Nat.ne_of_gt (blk_lt (g := gb306) (o := .cells #[.slice none 0 0] 29 (0, 0)) (by (with_reducible repeat (first | refine blk_drewN ?_ _ | refine blk_drew ?_ | refine blk_alloc ?_ _)); exact BK306.out)) : gb312 ≠ gb306)); have n10_ := aM ((by rw [hg]; exact Nat.ne_of_lt (IsS147.lt (show IsS147 w0 _ g s0_0 t310 t311 from by repeat (first | (with_reducible first | exact HI0.out | apply IsS147.alloc | apply IsS147.drewN | apply IsS147.drew | apply IsS147.set_1 | apply IsS147.set_2 | refine IsS147.far ?_ NB0_306.out _) | exact HI0.out))) : g ≠ gb312)); have n11_ := aM ((by rw [hg]; exact Nat.ne_of_gt (IsS147.lt (show IsS147 w0 _ g s0_0 t310 t311 from by repeat (first | (with_reducible first | exact HI0.out | apply IsS147.alloc | apply IsS147.drewN | apply IsS147.drew | apply IsS147.set_1 | apply IsS147.set_2 | refine IsS147.far ?_ NB0_306.out _) | exact HI0.out))) : gb312 ≠ g)); clear HO309; clear HI0; clear BK306; clear HK; clear HB; have HO309 := n0_; have HI0 := n1_; have BK306 := n2_; have HK := n3_; have HB := n4_; have BK312 := n5_; have GW312 := n6_; have GE312 := n7_; have NB306_312 := n8_; have NB312_306 := n9_; have NB0_312 := n10_; have NB312_0 := n11_; clear n0_ n1_ n2_ n3_ n4_ n5_ n6_ n7_ n8_ n9_ n10_ n11_; clear hb hbox hg; obtain ⟨Ao55, co55, eo55⟩ := Kd.R_slice HO309.out; subst eo55; have hnb56 := NB312_306.out; have hnc56 := NB306_312.out; have hnb57 := NB312_0.out; have hnc57 := NB0_312.out; have hcz58_0 : w54.cell? ⟨gb312, 0, none⟩ = some (.slice none 0 0) := (blk_cell BK312.out 0).trans rfl; have hfz58_0 := blk_frozen BK312.out 0) | ((with_reducible refine gate_callee (f := 168) rfl ?_); refine goesL_ (some 9) rfl rfl Tryd.func168 (by kernel_rfl) rfl #[.pointer (some ⟨g, 0, none⟩), .int .i64 16] rfl (by mA) ?_; (with_reducible refine (spec_l1Cur_pick.calls g s0_0 t310 t311 16 t313 t314 t315 w0 _ ?side1 ?side2 A3.out).mono ?_); (case side1 => repeat (first | (with_reducible first | exact HI0.out | apply IsS147.alloc | apply IsS147.drewN | apply IsS147.drew | apply IsS147.set_1 | apply IsS147.set_2 | refine IsS147.far ?_ NB0_306.out _ | refine IsS147.far ?_ NB0_312.out _) | exact HI0.out)); (case side2 => repeat (first | (with_reducible first | exact HB.out | apply below_alloc | apply pw_below_drewN | apply below_drew1 | refine below_set ?_ (IsS147.ge HI0.out) | refine below_set ?_ GE306.out | refine below_set ?_ GE312.out) | exact HB.out)); rintro e w59 ⟨rfl, hi, hb, hk⟩; refine ⟨_, rfl, ?_⟩; have n0_ := aM (KeepBut.blk hk (g' := gb306) (o := .cells #[.slice none 0 0] 29 (0, 0)) (by (with_reducible repeat (first | refine blk_drewN ?_ _ | refine blk_drew ?_ | refine blk_alloc ?_ _)); refine blk_far ?_ NB306_312.out _; (with_reducible repeat (first | refine blk_drewN ?_ _ | refine blk_drew ?_ | refine blk_alloc ?_ _)); exact BK306.out) NB306_0.out (by simp)); have n1_ := aM (Kd.R_mono (Kd.R_keep (IsS147.apart (show IsS147 w0 _ g s0_0 t310 t311 from by repeat (first | (with_reducible first | exact HI0.out | apply IsS147.alloc | apply IsS147.drewN | apply IsS147.drew | apply IsS147.set_1 | apply IsS147.set_2 | refine IsS147.far ?_ NB0_306.out _ | refine IsS147.far ?_ NB0_312.out _) | exact HI0.out)) (by (rX); exact (Kd.R_mono (Kd.R_far (p := ⟨gb312, 0, none⟩) (Kd.R_types HO309.out BK312.out (by decide)) (fun _ hk => hk.2) (.slice Ao55 t307.length co55)) (fun _ h_ => h_.1))) (by decide)) hk (fun _ h => h.2)) (fun _ h => h.1)); have n2_ := aM (KeepBut.blk hk (g' := gb312) (o := .cells #[.slice Ao55 t307.length co55] 29 (0, 0)) (by (with_reducible repeat (first | refine blk_drewN ?_ _ | refine blk_drew ?_ | refine blk_alloc ?_ _)); refine blk_put (cs := #[.slice none 0 0]) ?_ 0 _ rfl; (with_reducible repeat (first | refine blk_drewN ?_ _ | refine blk_drew ?_ | refine blk_alloc ?_ _)); exact BK312.out) NB312_0.out (by simp)); have n3_ := aM (KeepBut.trans (by repeat (first | (with_reducible first | exact HK.out | apply KeepBut.set_ | apply keep_drewN | apply keep_drew | apply keep_alloc | refine keep_far ?_ GW306.out _ | refine keep_far ?_ GW312.out _) | exact HK.out)) hk (.inl rfl)); have n4_ := aM (hb); have n5_ := aM (hi); clear BK306; clear HO309; clear BK312; clear HK; clear HB; clear HI0; have BK306 := n0_; have HO309 := n1_; have BK312 := n2_; have HK := n3_; have HB := n4_; have HI0 := n5_; clear n0_ n1_ n2_ n3_ n4_ n5_; cX) | ((with_reducible refine gate_callee (f := 203) rfl ?_); refine goesL_ (some 34) rfl rfl Tryd.func203 (by kernel_rfl) rfl #[.int .i64 10] rfl (by mA) ?_; (with_reducible refine (spec_CountingLamps.calls k 10 t324 t327 _ A51.out).mono ?_); rintro e w60 ⟨v325, rfl, ho0, hb⟩; refine ⟨_, rfl, ?_⟩; have n0_ := aM (Kd.R_elder' (by (rX); exact HO309.out) (Kd.R_base ho0) hb); have n1_ := aM (Kd.R_lower (Kd.R_new' ho0 (Kd.R_lt (by (rX); exact HO309.out))) (keep_size (w := w) (g := g) (row := none) (by repeat (first | (with_reducible first | exact HK.out | apply KeepBut.set_ | apply keep_drewN | apply keep_drew | apply keep_alloc | refine keep_far ?_ GW306.out _ | refine keep_far ?_ GW312.out _) | exact HK.out)))); have n2_ := aM (IsS147.below (by repeat (first | (with_reducible first | exact HI0.out | apply IsS147.alloc | apply IsS147.drewN | apply IsS147.drew | apply IsS147.set_1 | apply IsS147.set_2 | refine IsS147.far ?_ NB0_306.out _ | refine IsS147.far ?_ NB0_312.out _) | exact HI0.out)) hb); have n3_ := aM (blk_below (g := gb306) (o := .cells #[.slice none 0 0] 29 (0, 0)) (by (with_reducible repeat (first | refine blk_drewN ?_ _ | refine blk_drew ?_ | refine blk_alloc ?_ _)); exact BK306.out) hb); have n4_ := aM (blk_below (g := gb312) (o := .cells #[.slice Ao55 t307.length co55] 29 (0, 0)) (by (with_reducible repeat (first | refine blk_drewN ?_ _ | refine blk_drew ?_ | refine blk_alloc ?_ _)); exact BK312.out) hb); have n5_ := aM (KeepBut.trans (by repeat (first | (with_reducible first | exact HK.out | apply KeepBut.set_ | apply keep_drewN | apply keep_drew | apply keep_alloc | refine keep_far ?_ GW306.out _ | refine keep_far ?_ GW312.out _) | exact HK.out)) (KeepBut.of_below hb g none) (.inl rfl)); have n6_ := aM (below_step (by repeat (first | (with_reducible first | exact HB.out | apply below_alloc | apply pw_below_drewN | apply below_drew1 | refine below_set ?_ (IsS147.ge HI0.out) | refine below_set ?_ GE306.out | refine below_set ?_ GE312.out) | exact HB.out)) hb); clear HO309; clear HI0; clear BK306; clear BK312; clear HK; clear HB; have HO309 := n0_; have HO326 := n1_; have HI0 := n2_; have BK306 := n3_; have BK312 := n4_; have HK := n5_; have HB := n6_; clear n0_ n1_ n2_ n3_ n4_ n5_ n6_; cX; (try clear ho0)) | ((with_reducible refine gate_dst (N := 4) rfl ?_); refine box_event ?hg (N := 4) ?hd (cs := #[.slice none 0 0]) (t := 29) ?hr ?_; (case hd => rfl); (case hg => rfl); (case hr => first | (go_simp; done) | (go_simp; rfl)); intro gb328 hg w61 hbox hb; have n0_ := aM (Kd.R_below (by (rX); exact HO309.out) hb); have n1_ := aM (Kd.R_below (by (rX); exact HO326.out) hb); have n2_ := aM (IsS147.below (by repeat (first | (with_reducible first | exact HI0.out | apply IsS147.alloc | apply IsS147.drewN | apply IsS147.drew | apply IsS147.set_1 | apply IsS147.set_2 | refine IsS147.far ?_ NB0_306.out _ | refine IsS147.far ?_ NB0_312.out _) | exact HI0.out)) hb); have n3_ := aM (blk_below (g := gb306) (o := .cells #[.slice none 0 0] 29 (0, 0)) (by (with_reducible repeat (first | refine blk_drewN ?_ _ | refine blk_drew ?_ | refine blk_alloc ?_ _)); exact BK306.out) hb); have n4_ := aM (blk_below (g := gb312) (o := .cells #[.slice Ao55 t307.length co55] 29 (0, 0)) (by (with_reducible repeat (first | refine blk_drewN ?_ _ | refine blk_drew ?_ | refine blk_alloc ?_ _)); exact BK312.out) hb); have n5_ := aM (KeepBut.trans (by repeat (first | (with_reducible first | exact HK.out | apply KeepBut.set_ | apply keep_drewN | apply keep_drew | apply keep_alloc | refine keep_far ?_ GW306.out _ | refine keep_far ?_ GW312.out _) | exact HK.out)) (KeepBut.of_below hb g none) (.inl rfl)); have n6_ := aM (below_step (by repeat (first | (with_reducible first | exact HB.out | apply below_alloc | apply pw_below_drewN | apply below_drew1 | refine below_set ?_ (IsS147.ge HI0.out) | refine below_set ?_ GE306.out | refine below_set ?_ GE312.out) | exact HB.out)) hb); have n7_ := aM (hbox); have n8_ := aM ((by rw [hg]; exact (keep_size (w := w) (g := g) (row := none) (by repeat (first | (with_reducible first | exact HK.out | apply KeepBut.set_ | apply keep_drewN | apply keep_drew | apply keep_alloc | refine keep_far ?_ GW306.out _ | refine keep_far ?_ GW312.out _) | exact HK.out))) : w.heap.size ≤ gb328)); have n9_ := aM ((Nat.le_trans HW0.out (by rw [hg]; exact (keep_size (w := w) (g := g) (row := none) (by repeat (first | (with_reducible first | exact HK.out | apply KeepBut.set_ | apply keep_drewN | apply keep_drew | apply keep_alloc | refine keep_far ?_ GW306.out _ | refine keep_far ?_ GW312.out _) | exact HK.out))) : w.heap.size ≤ gb328) : w0.heap.size ≤ gb328)); have n10_ := aM ((by rw [hg]; exact Nat.ne_of_lt (blk_lt (g := gb306) (o := .cells #[.slice none 0 0] 29 (0, 0)) (by (with_reducible repeat (first | refine blk_drewN ?_ _ | refine blk_drew ?_ | refine blk_alloc ?_ _)); exact BK306.out)) : gb306 ≠ gb328)); have n11_ := aM ((by rw [hg]; exact Nat.ne_of_gt (blk_lt (g := gb306) (o := .cells #[.slice none 0 0] 29 (0, 0)) (by (with_reducible repeat (first | refine blk_drewN ?_ _ | refine blk_drew ?_ | refine blk_alloc ?_ _)); exact BK306.out)) : gb328 ≠ gb306)); have n12_ := aM ((by rw [hg]; exact Nat.ne_of_lt (blk_lt (g := gb312) (o := .cells #[.slice Ao55 t307.length co55] 29 (0, 0)) (by (with_reducible repeat (first | refine blk_drewN ?_ _ | refine blk_drew ?_ | refine blk_alloc ?_ _)); exact BK312.out)) : gb312 ≠ gb328)); have n13_ := aM ((by rw [hg]; exact Nat.ne_of_gt (blk_lt (g := gb312) (o := .cells #[.slice Ao55 t307.length co55] 29 (0, 0)) (by (with_reducible repeat (first | refine blk_drewN ?_ _ | refine blk_drew ?_ | refine blk_alloc ?_ _)); exact BK312.out)) : gb328 ≠ gb312)); have n14_ := aM ((by rw [hg]; exact Nat.ne_of_lt (IsS147.lt (show IsS147 w0 _ g s0_0 t314 t315 from by repeat (first | (with_reducible first | exact HI0.out | apply IsS147.alloc | apply IsS147.drewN | apply IsS147.drew | apply IsS147.set_1 | apply IsS147.set_2 | refine IsS147.far ?_ NB0_306.out _ | refine IsS147.far ?_ NB0_312.out _) | exact HI0.out))) : g ≠ gb328)); have n15_ := aM ((by rw [hg]; exact Nat.ne_of_gt (IsS147.lt (show IsS147 w0 _ g s0_0 t314 t315 from by repeat (first | (with_reducible first | exact HI0.out | apply IsS147.alloc | apply IsS147.drewN | apply IsS147.drew | apply IsS147.set_1 | apply IsS147.set_2 | refine IsS147.far ?_ NB0_306.out _ | refine IsS147.far ?_ NB0_312.out _) | exact HI0.out))) : gb328 ≠ g)); clear HO309; clear HO326; clear HI0; clear BK306; clear BK312; clear HK; clear HB; have HO309 := n0_; have HO326 := n1_; have HI0 := n2_; have BK306 := n3_; have BK312 := n4_; have HK := n5_; have HB := n6_; have BK328 := n7_; have GW328 := n8_; have GE328 := n9_; have NB306_328 := n10_; have NB328_306 := n11_; have NB312_328 := n12_; have NB328_312 := n13_; have NB0_328 := n14_; have NB328_0 := n15_; clear n0_ n1_ n2_ n3_ n4_ n5_ n6_ n7_ n8_ n9_ n10_ n11_ n12_ n13_ n14_ n15_; clear hb hbox hg; obtain ⟨Ao62, co62, eo62⟩ := Kd.R_slice HO326.out; subst eo62; have hnb63 := NB328_306.out; have hnc63 := NB306_328.out; have hnb64 := NB328_312.out; have hnc64 := NB312_328.out; have hnb65 := NB328_0.out; have hnc65 := NB0_328.out; have hcz66_0 : w61.cell? ⟨gb328, 0, none⟩ = some (.slice none 0 0) := (blk_cell BK328.out 0).trans rfl; have hfz66_0 := blk_frozen BK328.out 0; have hnb67 := NB306_0.out; have hnc67 := NB0_306.out; have hcz68_0 : w61.cell? ⟨gb306, 0, none⟩ = some (.slice none 0 0) := (blk_cell BK306.out 0).trans rfl; have hfz68_0 := blk_frozen BK306.out 0))
     refine bodyPost_ret (results_cell_row rfl _ _ gb306 29 #[.slice Ao62 t324.length co62] (0, 0) _ rfl (by (with_reducible repeat (first | refine blk_drewN ?_ _ | refine blk_drew ?_ | refine blk_alloc ?_ _)); refine blk_put (cs := #[.slice none 0 0]) ?_ 0 _ rfl; (with_reducible repeat (first | refine blk_drewN ?_ _ | refine blk_drew ?_ | refine blk_alloc ?_ _)); refine blk_far ?_ NB306_328.out _; (with_reducible repeat (first | refine blk_drewN ?_ _ | refine blk_drew ?_ | refine blk_alloc ?_ _)); exact BK306.out) Tryd.underlying29 rfl (by kernel_rfl)) rfl ?_
     exact ⟨_, by eW, by (rX); exact Kd.R_mono (Kd.R_far (p := ⟨gb306, 0, none⟩) (Kd.R_far (p := ⟨gb328, 0, none⟩) (Kd.R_types (Kd.R_types HO326.out BK328.out (by decide)) BK306.out (by decide)) (fun _ hk => hk.1.2) (.slice Ao62 t324.length co62)) (fun _ hk => hk.2) (.slice Ao62 t324.length co62)) (fun _ hk => trivial), by repeat (first | (with_reducible first | exact HI0.out | apply IsS147.alloc | apply IsS147.drewN | apply IsS147.drew | apply IsS147.set_1 | apply IsS147.set_2 | refine IsS147.far ?_ NB0_306.out _ | refine IsS147.far ?_ NB0_312.out _ | refine IsS147.far ?_ NB0_328.out _) | exact HI0.out), by repeat (first | (with_reducible first | exact HB.out | apply below_alloc | apply pw_below_drewN | apply below_drew1 | refine below_set ?_ (IsS147.ge HI0.out) | refine below_set ?_ GE306.out | refine below_set ?_ GE312.out | refine below_set ?_ GE328.out) | exact HB.out), by repeat (first | (with_reducible first | exact HK.out | apply KeepBut.set_ | apply keep_drewN | apply keep_drew | apply keep_alloc | refine keep_far ?_ GW306.out _ | refine keep_far ?_ GW312.out _ | refine keep_far ?_ GW328.out _) | exact HK.out)⟩
    ·rw [if_neg c50] at H
     have c50b0 : (t313 == 3) = false := beq_eq_false_iff_ne.mpr c50
     have c50b1 : (t313 != 3) = true := bne_iff_ne.mpr c50
     simp only [Option.some.injEq, Prod.mk.injEq] at H
     obtain ⟨rfl, rfl, rfl⟩ := H
     go_enter Tryd.func164, Tryd.ntmps164
     go_wp2_with (first | ((with_reducible refine gate_dst (N := 2) rfl ?_); refine box_event ?hg (N := 2) ?hd (cs := #[.slice none 0 0]) (t := 29) ?hr ?_; (case hd => rfl); (case hg => rfl); (case hr => first | (go_simp; done) | (go_simp; rfl)); intro gb306 hg w69 hbox hb; have n0_ := aM (IsS147.below (by iI) hb); have n1_ := aM (KeepBut.trans (by iK) (KeepBut.of_below hb g none) (.inl rfl)); have n2_ := aM (below_step (by iB) hb); have n3_ := aM (hbox); have n4_ := aM ((by rw [hg]; exact (keep_size (w := w) (g := g) (row := none) (by iK)) : w.heap.size ≤ gb306)); have n5_ := aM ((Nat.le_trans HW0.out (by rw [hg]; exact (keep_size (w := w) (g := g) (row := none) (by iK)) : w.heap.size ≤ gb306) : w0.heap.size ≤ gb306)); have n6_ := aM ((by rw [hg]; exact Nat.ne_of_lt (IsS147.lt (show IsS147 w0 _ g s0_0 s0_1 s0_2 from by iI)) : g ≠ gb306)); have n7_ := aM ((by rw [hg]; exact Nat.ne_of_gt (IsS147.lt (show IsS147 w0 _ g s0_0 s0_1 s0_2 from by iI)) : gb306 ≠ g)); clear HI0; clear HK; clear HB; have HI0 := n0_; have HK := n1_; have HB := n2_; have BK306 := n3_; have GW306 := n4_; have GE306 := n5_; have NB0_306 := n6_; have NB306_0 := n7_; clear n0_ n1_ n2_ n3_ n4_ n5_ n6_ n7_; clear hb hbox hg) | ((with_reducible refine gate_callee (f := 201) rfl ?_); refine goesL_ (some 7) rfl rfl Tryd.func201 (by kernel_rfl) rfl #[.pointer (some ⟨g, 0, none⟩)] rfl (by mA) ?_; (with_reducible refine (spec_l1Cur_sureLamps.calls k g s0_0 s0_1 s0_2 t307 t310 t311 w0 _ ?side1 ?side2 A2.out).mono ?_); (case side1 => repeat (first | (with_reducible first | exact HI0.out | apply IsS147.alloc | apply IsS147.drewN | apply IsS147.drew | apply IsS147.set_1 | apply IsS147.set_2 | refine IsS147.far ?_ NB0_306.out _) | exact HI0.out)); (case side2 => repeat (first | (with_reducible first | exact HB.out | apply below_alloc | apply pw_below_drewN | apply below_drew1 | refine below_set ?_ (IsS147.ge HI0.out) | refine below_set ?_ GE306.out) | exact HB.out)); rintro e w70 ⟨v308, rfl, ho0, hi, hb, hk⟩; refine ⟨_, rfl, ?_⟩; have n0_ := aM (KeepBut.blk hk (g' := gb306) (o := .cells #[.slice none 0 0] 29 (0, 0)) (by (with_reducible repeat (first | refine blk_drewN ?_ _ | refine blk_drew ?_ | refine blk_alloc ?_ _)); exact BK306.out) NB306_0.out (by simp)); have n1_ := aM (Kd.R_lower ho0 (keep_size (w := w) (g := g) (row := none) (by repeat (first | (with_reducible first | exact HK.out | apply KeepBut.set_ | apply keep_drewN | apply keep_drew | apply keep_alloc | refine keep_far ?_ GW306.out _) | exact HK.out)))); have n2_ := aM (KeepBut.trans (by repeat (first | (with_reducible first | exact HK.out | apply KeepBut.set_ | apply keep_drewN | apply keep_drew | apply keep_alloc | refine keep_far ?_ GW306.out _) | exact HK.out)) hk (.inl rfl)); have n3_ := aM (hb); have n4_ := aM (hi); clear BK306; clear HK; clear HB; clear HI0; have BK306 := n0_; have HO309 := n1_; have HK := n2_; have HB := n3_; have HI0 := n4_; clear n0_ n1_ n2_ n3_ n4_; cX; (try clear ho0)) | ((with_reducible refine gate_dst (N := 3) rfl ?_); refine box_event ?hg (N := 3) ?hd (cs := #[.slice none 0 0]) (t := 29) ?hr ?_; (case hd => rfl); (case hg => rfl); (case hr => first | (go_simp; done) | (go_simp; rfl)); intro gb312 hg w71 hbox hb; have n0_ := aM (Kd.R_below (by (rX); exact HO309.out) hb); have n1_ := aM (IsS147.below (by repeat (first | (with_reducible first | exact HI0.out | apply IsS147.alloc | apply IsS147.drewN | apply IsS147.drew | apply IsS147.set_1 | apply IsS147.set_2 | refine IsS147.far ?_ NB0_306.out _) | exact HI0.out)) hb); have n2_ := aM (blk_below (g := gb306) (o := .cells #[.slice none 0 0] 29 (0, 0)) (by (with_reducible repeat (first | refine blk_drewN ?_ _ | refine blk_drew ?_ | refine blk_alloc ?_ _)); exact BK306.out) hb); have n3_ := aM (KeepBut.trans (by repeat (first | (with_reducible first | exact HK.out | apply KeepBut.set_ | apply keep_drewN | apply keep_drew | apply keep_alloc | refine keep_far ?_ GW306.out _) | exact HK.out)) (KeepBut.of_below hb g none) (.inl rfl)); have n4_ := aM (below_step (by repeat (first | (with_reducible first | exact HB.out | apply below_alloc | apply pw_below_drewN | apply below_drew1 | refine below_set ?_ (IsS147.ge HI0.out) | refine below_set ?_ GE306.out) | exact HB.out)) hb); have n5_ := aM (hbox); have n6_ := aM ((by rw [hg]; exact (keep_size (w := w) (g := g) (row := none) (by repeat (first | (with_reducible first | exact HK.out | apply KeepBut.set_ | apply keep_drewN | apply keep_drew | apply keep_alloc | refine keep_far ?_ GW306.out _) | exact HK.out))) : w.heap.size ≤ gb312)); have n7_ := aM ((Nat.le_trans HW0.out (by rw [hg]; exact (keep_size (w := w) (g := g) (row := none) (by repeat (first | (with_reducible first | exact HK.out | apply KeepBut.set_ | apply keep_drewN | apply keep_drew | apply keep_alloc | refine keep_far ?_ GW306.out _) | exact HK.out))) : w.heap.size ≤ gb312) : w0.heap.size ≤ gb312)); have n8_ := aM ((by rw [hg]; exact Nat.ne_of_lt (blk_lt (g := gb306) (o := .cells #[.slice none 0 0] 29 (0, 0)) (by (with_reducible repeat (first | refine blk_drewN ?_ _ | refine blk_drew ?_ | refine blk_alloc ?_ _)); exact BK306.out)) : gb306 ≠ gb312)); have n9_ := aM ((by rw [hg]; exact Nat.ne_of_gt (blk_lt (g := gb306) (o := .cells #[.slice none 0 0] 29 (0, 0)) (by (with_reducible repeat (first | refine blk_drewN ?_ _ | refine blk_drew ?_ | refine blk_alloc ?_ _)); exact BK306.out)) : gb312 ≠ gb306)); have n10_ := aM ((by rw [hg]; exact Nat.ne_of_lt (IsS147.lt (show IsS147 w0 _ g s0_0 t310 t311 from by repeat (first | (with_reducible first | exact HI0.out | apply IsS147.alloc | apply IsS147.drewN | apply IsS147.drew | apply IsS147.set_1 | apply IsS147.set_2 | refine IsS147.far ?_ NB0_306.out _) | exact HI0.out))) : g ≠ gb312)); have n11_ := aM ((by rw [hg]; exact Nat.ne_of_gt (IsS147.lt (show IsS147 w0 _ g s0_0 t310 t311 from by repeat (first | (with_reducible first | exact HI0.out | apply IsS147.alloc | apply IsS147.drewN | apply IsS147.drew | apply IsS147.set_1 | apply IsS147.set_2 | refine IsS147.far ?_ NB0_306.out _) | exact HI0.out))) : gb312 ≠ g)); clear HO309; clear HI0; clear BK306; clear HK; clear HB; have HO309 := n0_; have HI0 := n1_; have BK306 := n2_; have HK := n3_; have HB := n4_; have BK312 := n5_; have GW312 := n6_; have GE312 := n7_; have NB306_312 := n8_; have NB312_306 := n9_; have NB0_312 := n10_; have NB312_0 := n11_; clear n0_ n1_ n2_ n3_ n4_ n5_ n6_ n7_ n8_ n9_ n10_ n11_; clear hb hbox hg; obtain ⟨Ao72, co72, eo72⟩ := Kd.R_slice HO309.out; subst eo72; have hnb73 := NB312_306.out; have hnc73 := NB306_312.out; have hnb74 := NB312_0.out; have hnc74 := NB0_312.out; have hcz75_0 : w71.cell? ⟨gb312, 0, none⟩ = some (.slice none 0 0) := (blk_cell BK312.out 0).trans rfl; have hfz75_0 := blk_frozen BK312.out 0) | ((with_reducible refine gate_callee (f := 168) rfl ?_); refine goesL_ (some 9) rfl rfl Tryd.func168 (by kernel_rfl) rfl #[.pointer (some ⟨g, 0, none⟩), .int .i64 16] rfl (by mA) ?_; (with_reducible refine (spec_l1Cur_pick.calls g s0_0 t310 t311 16 t313 t314 t315 w0 _ ?side1 ?side2 A3.out).mono ?_); (case side1 => repeat (first | (with_reducible first | exact HI0.out | apply IsS147.alloc | apply IsS147.drewN | apply IsS147.drew | apply IsS147.set_1 | apply IsS147.set_2 | refine IsS147.far ?_ NB0_306.out _ | refine IsS147.far ?_ NB0_312.out _) | exact HI0.out)); (case side2 => repeat (first | (with_reducible first | exact HB.out | apply below_alloc | apply pw_below_drewN | apply below_drew1 | refine below_set ?_ (IsS147.ge HI0.out) | refine below_set ?_ GE306.out | refine below_set ?_ GE312.out) | exact HB.out)); rintro e w76 ⟨rfl, hi, hb, hk⟩; refine ⟨_, rfl, ?_⟩; have n0_ := aM (KeepBut.blk hk (g' := gb306) (o := .cells #[.slice none 0 0] 29 (0, 0)) (by (with_reducible repeat (first | refine blk_drewN ?_ _ | refine blk_drew ?_ | refine blk_alloc ?_ _)); refine blk_far ?_ NB306_312.out _; (with_reducible repeat (first | refine blk_drewN ?_ _ | refine blk_drew ?_ | refine blk_alloc ?_ _)); exact BK306.out) NB306_0.out (by simp)); have n1_ := aM (Kd.R_mono (Kd.R_keep (IsS147.apart (show IsS147 w0 _ g s0_0 t310 t311 from by repeat (first | (with_reducible first | exact HI0.out | apply IsS147.alloc | apply IsS147.drewN | apply IsS147.drew | apply IsS147.set_1 | apply IsS147.set_2 | refine IsS147.far ?_ NB0_306.out _ | refine IsS147.far ?_ NB0_312.out _) | exact HI0.out)) (by (rX); exact (Kd.R_mono (Kd.R_far (p := ⟨gb312, 0, none⟩) (Kd.R_types HO309.out BK312.out (by decide)) (fun _ hk => hk.2) (.slice Ao72 t307.length co72)) (fun _ h_ => h_.1))) (by decide)) hk (fun _ h => h.2)) (fun _ h => h.1)); have n2_ := aM (KeepBut.blk hk (g' := gb312) (o := .cells #[.slice Ao72 t307.length co72] 29 (0, 0)) (by (with_reducible repeat (first | refine blk_drewN ?_ _ | refine blk_drew ?_ | refine blk_alloc ?_ _)); refine blk_put (cs := #[.slice none 0 0]) ?_ 0 _ rfl; (with_reducible repeat (first | refine blk_drewN ?_ _ | refine blk_drew ?_ | refine blk_alloc ?_ _)); exact BK312.out) NB312_0.out (by simp)); have n3_ := aM (KeepBut.trans (by repeat (first | (with_reducible first | exact HK.out | apply KeepBut.set_ | apply keep_drewN | apply keep_drew | apply keep_alloc | refine keep_far ?_ GW306.out _ | refine keep_far ?_ GW312.out _) | exact HK.out)) hk (.inl rfl)); have n4_ := aM (hb); have n5_ := aM (hi); clear BK306; clear HO309; clear BK312; clear HK; clear HB; clear HI0; have BK306 := n0_; have HO309 := n1_; have BK312 := n2_; have HK := n3_; have HB := n4_; have HI0 := n5_; clear n0_ n1_ n2_ n3_ n4_ n5_; cX; have hcz77_0 : w76.cell? ⟨gb312, 0, none⟩ = some (.slice Ao72 t307.length co72) := (blk_cell BK312.out 0).trans rfl; have hfz77_0 := blk_frozen BK312.out 0; have hnb78 := NB306_0.out; have hnc78 := NB0_306.out; have hcz79_0 : w76.cell? ⟨gb306, 0, none⟩ = some (.slice none 0 0) := (blk_cell BK306.out 0).trans rfl; have hfz79_0 := blk_frozen BK306.out 0))
     refine bodyPost_ret (results_cell_row rfl _ _ gb306 29 #[.slice Ao72 t307.length co72] (0, 0) _ rfl (by (with_reducible repeat (first | refine blk_drewN ?_ _ | refine blk_drew ?_ | refine blk_alloc ?_ _)); refine blk_put (cs := #[.slice none 0 0]) ?_ 0 _ rfl; (with_reducible repeat (first | refine blk_drewN ?_ _ | refine blk_drew ?_ | refine blk_alloc ?_ _)); exact BK306.out) Tryd.underlying29 rfl (by kernel_rfl)) rfl ?_
     exact ⟨_, by eW, by (rX); exact Kd.R_mono (Kd.R_far (p := ⟨gb306, 0, none⟩) (Kd.R_types HO309.out BK306.out (by decide)) (fun _ hk => hk.2) (.slice Ao72 t307.length co72)) (fun _ hk => trivial), by repeat (first | (with_reducible first | exact HI0.out | apply IsS147.alloc | apply IsS147.drewN | apply IsS147.drew | apply IsS147.set_1 | apply IsS147.set_2 | refine IsS147.far ?_ NB0_306.out _ | refine IsS147.far ?_ NB0_312.out _) | exact HI0.out), by repeat (first | (with_reducible first | exact HB.out | apply below_alloc | apply pw_below_drewN | apply below_drew1 | refine below_set ?_ (IsS147.ge HI0.out) | refine below_set ?_ GE306.out | refine below_set ?_ GE312.out) | exact HB.out), by repeat (first | (with_reducible first | exact HK.out | apply KeepBut.set_ | apply keep_drewN | apply keep_drew | apply keep_alloc | refine keep_far ?_ GW306.out _ | refine keep_far ?_ GW312.out _) | exact HK.out)⟩

/-! ### spec_l1Cur_one: function 204 -/
def spec_l1Cur_one.f (s0_0 : List Int) (s0_1 : Int) (s0_2 : Int) (a1 : Int) : Option (Bool × Int × Int) := (spec_l1Cur_pick.f s0_0 s0_1 s0_2 a1).bind fun bt329 => (some ((bt329.1 == 0), bt329.2.1, bt329.2.2))
set_option maxHeartbeats 8000000 in
set_option maxRecDepth 100000 in
theorem spec_l1Cur_one.calls (g : Nat) (s0_0 : List Int) (s0_1 : Int) (s0_2 : Int) (a1 : Int) (r1 : Bool) (r2 : Int) (r3 : Int) (w0 w : World) (hI : IsS147 w0 w g s0_0 s0_1 s0_2) (hB : Below w0.heap.size w0 w) (h : spec_l1Cur_one.f s0_0 s0_1 s0_2 a1 = some (r1, r2, r3)) :
  Calls Tryd.prog 204 #[.pointer (some ⟨g, 0, none⟩), .int .i64 a1] w fun e w' => e = .returned (.bool r1) ∧ IsS147 w0 w' g s0_0 r2 r3 ∧ Below w0.heap.size w0 w' ∧ KeepBut w w' g none := by
 have HI0 := aM hI
 have HK := aM (KeepBut.refl w g none)
 have HL := aM hB.size
 clear hI
 have HW0 := aM hB.size
 have HB := aM hB
 clear hB
 have H : ((spec_l1Cur_pick.f s0_0 s0_1 s0_2 a1).bind fun bt329 => (some ((bt329.1 == 0), bt329.2.1, bt329.2.2))) = some (r1, r2, r3) := h
 clear h
 replace H := Option.bind_eq_some_iff.mp H
 obtain ⟨⟨t329, t330, t331⟩, A30, H⟩ := H
 dsimp only at H
 have A3 := aM A30
 clear A30
 simp only [Option.some.injEq, Prod.mk.injEq] at H
 obtain ⟨rfl, rfl, rfl⟩ := H
 go_enter Tryd.func204, Tryd.ntmps204
 go_wp2_with (first | ((with_reducible refine gate_callee (f := 168) rfl ?_); refine goesL_ (some 7) rfl rfl Tryd.func168 (by kernel_rfl) rfl #[.pointer (some ⟨g, 0, none⟩), .int .i64 a1] rfl (by mA) ?_; (with_reducible refine (spec_l1Cur_pick.calls g s0_0 s0_1 s0_2 a1 t329 t330 t331 w0 _ ?side1 ?side2 A3.out).mono ?_); (case side1 => iI); (case side2 => iB); rintro e w4 ⟨rfl, hi, hb, hk⟩; refine ⟨_, rfl, ?_⟩; have n0_ := aM (KeepBut.trans (by iK) hk (.inl rfl)); have n1_ := aM (hb); have n2_ := aM (hi); clear HK; clear HB; clear HI0; have HK := n0_; have HB := n1_; have HI0 := n2_; clear n0_ n1_ n2_; cX))
 go_ret
 exact ⟨by eW, by iI, by iB, by iK⟩

end Go.Proofs.YtifdgebdkhdmhaaDoor.PLTick
