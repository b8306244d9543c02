-- squeezed; PRINTED by drive.py (a program of this session's, over the kit's print.py; wip/tools/drive.py). Lean checks it.
import Derived.Test.YtifdgebdkhdmhaaDoorQPWMeanx0
import Derived.Test.YtifdgebdkhdmhaaDoorQPWMeanx1
import Derived.Test.YtifdgebdkhdmhaaDoorQPWMeanx2
import Derived.Test.YtifdgebdkhdmhaaDoorQPWMeanx3
import Derived.Test.YtifdgebdkhdmhaaDoorQPWMeanx4
import Derived.Test.YtifdgebdkhdmhaaDoorQPWMeanx5
import Derived.Test.YtifdgebdkhdmhaaDoorQPWMeanx6
import Derived.Test.YtifdgebdkhdmhaaDoorQPWMeanx7
import Derived.Test.YtifdgebdkhdmhaaDoorQPWMeanx8
import Derived.Test.YtifdgebdkhdmhaaDoorQPWMeanx9
import Derived.Test.YtifdgebdkhdmhaaDoorQUp
namespace Go.Proofs.YtifdgebdkhdmhaaDoor.PWMean
open Go.RowKit Go.Proofs.YtifdgebdkhdmhaaDoorW.PrintWords Go.Proofs.YtifdgebdkhdmhaaDoorW.PrintLast Go.Proofs.YtifdgebdkhdmhaaDoorW.PrintMore
attribute [local go_sem] max2_int min2_int max_two min_two max_three min_three max_four min_four   -- for this text's walks alone
set_option linter.unusedVariables false
set_option linter.unusedSimpArgs false

set_option maxHeartbeats 8000000 in
set_option maxRecDepth 100000 in
theorem laws_FnWalksMeanOfAll.calls (k : Nat) (a0 : ByteArray) (a1 : ByteArray) (a2 : ByteArray) (a3 : ByteArray) (a4 : ByteArray) (a5 : ByteArray) (a6 : ByteArray) (a7 : Int) (r : Bool) (w : World) (h : laws_FnWalksMeanOfAll.f k a0 a1 a2 a3 a4 a5 a6 a7 = some r) :
  Calls Tryd.prog 6 #[.string a0, .string a1, .string a2, .string a3, .string a4, .string a5, .string a6, .int .i64 a7] w fun e w' => e = .returned (.bool r) ∧ Below w.heap.size w w' := by
 have HB := aM (Below.refl w.heap.size w)
 have H : (if (a0.size : Int) > 1048576 then (laws_FnWalksMeanOfAll.j0 k a0 a1 a2 a3 a4 a5 a6 a7 true) else (if (a1.size : Int) > 1048576 then (laws_FnWalksMeanOfAll.j0 k a0 a1 a2 a3 a4 a5 a6 a7 true) else (if (a2.size : Int) > 1048576 then (laws_FnWalksMeanOfAll.j0 k a0 a1 a2 a3 a4 a5 a6 a7 true) else (if (a3.size : Int) > 1048576 then (laws_FnWalksMeanOfAll.j0 k a0 a1 a2 a3 a4 a5 a6 a7 true) else (if (a4.size : Int) > 1048576 then (laws_FnWalksMeanOfAll.j0 k a0 a1 a2 a3 a4 a5 a6 a7 true) else (if (a5.size : Int) > 1048576 then (laws_FnWalksMeanOfAll.j0 k a0 a1 a2 a3 a4 a5 a6 a7 true) else (laws_FnWalksMeanOfAll.j0 k a0 a1 a2 a3 a4 a5 a6 a7 (decide ((a6.size : Int) > 1048576))))))))) = some r := h
 clear h
 have HC9 := aM H
 clear H
 go_enter Tryd.func6, Tryd.ntmps6
 go_upto_region 1 with (fail)
 go_cut [105] from 73 to 105 (fun v105 wc => ∃ (kq : Nat) (x105_8 : Bool), v105 = .bool x105_8 ∧ Aside0 (laws_FnWalksMeanOfAll.j0 kq a0 a1 a2 a3 a4 a5 a6 a7 x105_8 = some r) ∧ Aside0 (kq ≤ k) ∧ Aside0 (Below w.heap.size w wc))
 case first => as_aux_lemma =>
  have H := HC9.out
  clear HC9
  by_cases c10 : (a0.size : Int) > 1048576
  ·rw [if_pos c10] at H
   have c10b0 : decide (1048576 < (a0.size : Int)) = true := decide_eq_true c10
   have c10b1 : decide (1048576 < a0.size) = true := decide_eq_true (by omega)
   clear c10
   (first | rw [c10b0] | (simp only [i64_w, i32_w]; rw [c10b0]) | skip)
   have H' := aM H
   clear H
   go_wp2
   go_meet
   case rel => exact ⟨_, (true), (by first | rfl | (simp; done) | (simp [*]; done)), H', ⟨by first | omega | exact Nat.le_refl _⟩, ⟨by repeat (first | (with_reducible first | exact HB.out | apply aL | apply dN | apply dR) | exact HB.out)⟩⟩
  ·rw [if_neg c10] at H
   have c10b0 : decide (1048576 < (a0.size : Int)) = false := decide_eq_false c10
   have c10b1 : decide (1048576 < a0.size) = false := decide_eq_false (by omega)
   clear c10
   (first | rw [c10b0] | (simp only [i64_w, i32_w]; rw [c10b0]) | skip)
   by_cases c11 : (a1.size : Int) > 1048576
   ·rw [if_pos c11] at H
    have c11b0 : decide (1048576 < (a1.size : Int)) = true := decide_eq_true c11
    have c11b1 : decide (1048576 < a1.size) = true := decide_eq_true (by omega)
    clear c11
    have H' := aM H
    clear H
    go_wp2
    go_meet
    case rel => exact ⟨_, (true), (by first | rfl | (simp; done) | (simp [*]; done)), H', ⟨by first | omega | exact Nat.le_refl _⟩, ⟨by repeat (first | (with_reducible first | exact HB.out | apply aL | apply dN | apply dR) | exact HB.out)⟩⟩
   ·rw [if_neg c11] at H
    have c11b0 : decide (1048576 < (a1.size : Int)) = false := decide_eq_false c11
    have c11b1 : decide (1048576 < a1.size) = false := decide_eq_false (by omega)
    clear c11
    by_cases c12 : (a2.size : Int) > 1048576
    ·rw [if_pos c12] at H
     have c12b0 : decide (1048576 < (a2.size : Int)) = true := decide_eq_true c12
     have c12b1 : decide (1048576 < a2.size) = true := decide_eq_true (by omega)
     clear c12
     have H' := aM H
     clear H
     go_wp2
     go_meet
     case rel => exact ⟨_, (true), (by first | rfl | (simp; done) | (simp [*]; done)), H', ⟨by first | omega | exact Nat.le_refl _⟩, ⟨by repeat (first | (with_reducible first | exact HB.out | apply aL | apply dN | apply dR) | exact HB.out)⟩⟩
    ·rw [if_neg c12] at H
     have c12b0 : decide (1048576 < (a2.size : Int)) = false := decide_eq_false c12
     have c12b1 : decide (1048576 < a2.size) = false := decide_eq_false (by omega)
     clear c12
     by_cases c13 : (a3.size : Int) > 1048576
     ·rw [if_pos c13] at H
      have c13b0 : decide (1048576 < (a3.size : Int)) = true := decide_eq_true c13
      have c13b1 : decide (1048576 < a3.size) = true := decide_eq_true (by omega)
      clear c13
      have H' := aM H
      clear H
      go_wp2
      go_meet
      case rel => exact ⟨_, (true), (by first | rfl | (simp; done) | (simp [*]; done)), H', ⟨by first | omega | exact Nat.le_refl _⟩, ⟨by repeat (first | (with_reducible first | exact HB.out | apply aL | apply dN | apply dR) | exact HB.out)⟩⟩
     ·rw [if_neg c13] at H
      have c13b0 : decide (1048576 < (a3.size : Int)) = false := decide_eq_false c13
      have c13b1 : decide (1048576 < a3.size) = false := decide_eq_false (by omega)
      clear c13
      by_cases c14 : (a4.size : Int) > 1048576
      ·rw [if_pos c14] at H
       have c14b0 : decide (1048576 < (a4.size : Int)) = true := decide_eq_true c14
       have c14b1 : decide (1048576 < a4.size) = true := decide_eq_true (by omega)
       clear c14
       have H' := aM H
       clear H
       go_wp2
       go_meet
       case rel => exact ⟨_, (true), (by first | rfl | (simp; done) | (simp [*]; done)), H', ⟨by first | omega | exact Nat.le_refl _⟩, ⟨by repeat (first | (with_reducible first | exact HB.out | apply aL | apply dN | apply dR) | exact HB.out)⟩⟩
      ·rw [if_neg c14] at H
       have c14b0 : decide (1048576 < (a4.size : Int)) = false := decide_eq_false c14
       have c14b1 : decide (1048576 < a4.size) = false := decide_eq_false (by omega)
       clear c14
       by_cases c15 : (a5.size : Int) > 1048576
       ·rw [if_pos c15] at H
        have c15b0 : decide (1048576 < (a5.size : Int)) = true := decide_eq_true c15
        have c15b1 : decide (1048576 < a5.size) = true := decide_eq_true (by omega)
        clear c15
        have H' := aM H
        clear H
        go_wp2
        go_meet
        case rel => exact ⟨_, (true), (by first | rfl | (simp; done) | (simp [*]; done)), H', ⟨by first | omega | exact Nat.le_refl _⟩, ⟨by repeat (first | (with_reducible first | exact HB.out | apply aL | apply dN | apply dR) | exact HB.out)⟩⟩
       ·rw [if_neg c15] at H
        have c15b0 : decide (1048576 < (a5.size : Int)) = false := decide_eq_false c15
        have c15b1 : decide (1048576 < a5.size) = false := decide_eq_false (by omega)
        clear c15
        have H' := aM H
        clear H
        go_wp2
        go_meet
        case rel => exact ⟨_, (decide ((a6.size : Int) > 1048576)), (by first | rfl | (simp; done) | (simp [*]; done)), H', ⟨by first | omega | exact Nat.le_refl _⟩, ⟨by repeat (first | (with_reducible first | exact HB.out | apply aL | apply dN | apply dR) | exact HB.out)⟩⟩
 case rest => as_aux_lemma =>
  clear HC9
  try clear c1;try clear p2;try clear c6;try clear c10;try clear c10b0;try clear c10b1;try clear c11;try clear c11b0;try clear c11b1;try clear c12;try clear c12b0;try clear c12b1;try clear c13;try clear c13b0;try clear c13b1;try clear c14;try clear c14b0;try clear c14b1;try clear c15;try clear c15b0;try clear c15b1
  obtain ⟨kq, x105_8, rfl, HA, HJ8, HB⟩ := hcut
  cases kq with
  | zero => exact absurd HA.out (by simp [laws_FnWalksMeanOfAll.j0])
  | succ kj8 =>
   have H := HA.out
   clear HA
   simp only [laws_FnWalksMeanOfAll.j0] at H
   by_cases c16 : x105_8 = true
   ·subst c16
    have H1 : (some true) = some r := by rw [if_pos rfl] at H; exact H
    clear H
    have H := H1
    clear H1
    obtain rfl := Option.some.inj H
    go_wp2
    go_ret
    exact ⟨by first | rfl | (simp [errW_none, errW_some] <;> rfl) | (simp [*, errW_none, errW_some] <;> rfl), by repeat (first | (with_reducible first | exact HB.out | apply aL | apply dN | apply dR) | exact HB.out)⟩
   ·replace c16 := Bool.eq_false_iff.mpr c16
    subst c16
    have H1 : ((impl_MeanFrom.f kj8 a0 a1).bind fun bt267 => ((spec_MeanFrom.f kj8 a0 a1).bind fun bt269 => ((impl_MeanToClear.f kj8 a0).bind fun bt271 => ((spec_MeanToClear.f kj8 a0).bind fun bt273 => (if (bt267.2 != bt269.2) = true then (none) else (if bt267.1 = bt269.1 then (if (bt271.2 != bt273.2) = true then (none) else (if bt271.1 = bt273.1 then (if bt267.2 = true then (laws_FnWalksMeanOfAll.j1 kj8 a0 a1 a2 a3 a4 a5 a6 a7 bt267.1 bt267.2 (!bt271.2)) else (laws_FnWalksMeanOfAll.j1 kj8 a0 a1 a2 a3 a4 a5 a6 a7 bt267.1 bt267.2 false)) else (none))) else (none))))))) = some r := by rw [if_neg (show ¬ (false = true) by decide)] at H; exact H
    clear H
    have H := H1
    clear H1
    replace H := Option.bind_eq_some_iff.mp H
    obtain ⟨⟨t267, t268⟩, A170, H⟩ := H
    replace H : ((spec_MeanFrom.f kj8 a0 a1).bind fun bt269 => ((impl_MeanToClear.f kj8 a0).bind fun bt271 => ((spec_MeanToClear.f kj8 a0).bind fun bt273 => (if (t268 != bt269.2) = true then (none) else (if t267 = bt269.1 then (if (bt271.2 != bt273.2) = true then (none) else (if bt271.1 = bt273.1 then (if t268 = true then (laws_FnWalksMeanOfAll.j1 kj8 a0 a1 a2 a3 a4 a5 a6 a7 t267 t268 (!bt271.2)) else (laws_FnWalksMeanOfAll.j1 kj8 a0 a1 a2 a3 a4 a5 a6 a7 t267 t268 false)) else (none))) else (none)))))) = some r := H
    have A17 := aM A170
    clear A170
    replace H := Option.bind_eq_some_iff.mp H
    obtain ⟨⟨t269, t270⟩, A180, H⟩ := H
    replace H : ((impl_MeanToClear.f kj8 a0).bind fun bt271 => ((spec_MeanToClear.f kj8 a0).bind fun bt273 => (if (t268 != t270) = true then (none) else (if t267 = t269 then (if (bt271.2 != bt273.2) = true then (none) else (if bt271.1 = bt273.1 then (if t268 = true then (laws_FnWalksMeanOfAll.j1 kj8 a0 a1 a2 a3 a4 a5 a6 a7 t267 t268 (!bt271.2)) else (laws_FnWalksMeanOfAll.j1 kj8 a0 a1 a2 a3 a4 a5 a6 a7 t267 t268 false)) else (none))) else (none))))) = some r := H
    have A18 := aM A180
    clear A180
    replace H := Option.bind_eq_some_iff.mp H
    obtain ⟨⟨t271, t272⟩, A190, H⟩ := H
    replace H : ((spec_MeanToClear.f kj8 a0).bind fun bt273 => (if (t268 != t270) = true then (none) else (if t267 = t269 then (if (t272 != bt273.2) = true then (none) else (if t271 = bt273.1 then (if t268 = true then (laws_FnWalksMeanOfAll.j1 kj8 a0 a1 a2 a3 a4 a5 a6 a7 t267 t268 (!t272)) else (laws_FnWalksMeanOfAll.j1 kj8 a0 a1 a2 a3 a4 a5 a6 a7 t267 t268 false)) else (none))) else (none)))) = some r := H
    have A19 := aM A190
    clear A190
    replace H := Option.bind_eq_some_iff.mp H
    obtain ⟨⟨t273, t274⟩, A200, H⟩ := H
    replace H : (if (t268 != t270) = true then (none) else (if t267 = t269 then (if (t272 != t274) = true then (none) else (if t271 = t273 then (if t268 = true then (laws_FnWalksMeanOfAll.j1 kj8 a0 a1 a2 a3 a4 a5 a6 a7 t267 t268 (!t272)) else (laws_FnWalksMeanOfAll.j1 kj8 a0 a1 a2 a3 a4 a5 a6 a7 t267 t268 false)) else (none))) else (none))) = some r := H
    have A20 := aM A200
    clear A200
    have HC21 := aM H
    clear H
    go_upto_region 7 with (first | ((with_reducible refine gate_callee (f := 42) rfl ?_); refine goesL_ (some 109) rfl rfl Tryd.func42 (by kernel_rfl) rfl #[.string a0, .string a1] rfl (by (try simp only [List.map_toArray, List.map_cons, List.map_nil]); first | done | rfl | (simp only [List.length_drop, List.length_take]; rfl)) ?_; (with_reducible refine (impl_MeanFrom.calls kj8 a0 a1 t267 t268 _ A17.out).mono ?_); rintro e w22 ⟨rfl, hb⟩; refine ⟨_, rfl, ?_⟩; have n0_ := aM (below_step (by repeat (first | (with_reducible first | exact HB.out | apply aL | apply dN | apply dR) | exact HB.out)) hb); clear HB; have HB := n0_; clear n0_; (try clear hb); (try clear hb2); (try clear hk); (try clear hi)) | ((with_reducible refine gate_callee (f := 43) rfl ?_); refine goesL_ (some 115) rfl rfl Tryd.func43 (by kernel_rfl) rfl #[.string a0, .string a1] rfl (by (try simp only [List.map_toArray, List.map_cons, List.map_nil]); first | done | rfl | (simp only [List.length_drop, List.length_take]; rfl)) ?_; (with_reducible refine (spec_MeanFrom.calls kj8 a0 a1 t269 t270 _ A18.out).mono ?_); rintro e w' ⟨rfl, ⟨nd, rfl⟩⟩; refine ⟨_, rfl, ?_⟩) | ((with_reducible refine gate_callee (f := 44) rfl ?_); refine goesL_ (some 120) rfl rfl Tryd.func44 (by kernel_rfl) rfl #[.string a0] rfl (by (try simp only [List.map_toArray, List.map_cons, List.map_nil]); first | done | rfl | (simp only [List.length_drop, List.length_take]; rfl)) ?_; (with_reducible refine (impl_MeanToClear.calls kj8 a0 t271 t272 _ A19.out).mono ?_); rintro e w23 ⟨rfl, hb⟩; refine ⟨_, rfl, ?_⟩; have n0_ := aM (below_step (by repeat (first | (with_reducible first | exact HB.out | apply aL | apply dN | apply dR) | exact HB.out)) hb); clear HB; have HB := n0_; clear n0_; (try clear hb); (try clear hb2); (try clear hk); (try clear hi)) | ((with_reducible refine gate_callee (f := 45) rfl ?_); refine goesL_ (some 125) rfl rfl Tryd.func45 (by kernel_rfl) rfl #[.string a0] rfl (by (try simp only [List.map_toArray, List.map_cons, List.map_nil]); first | done | rfl | (simp only [List.length_drop, List.length_take]; rfl)) ?_; (with_reducible refine (spec_MeanToClear.calls kj8 a0 t273 t274 _ A20.out).mono ?_); rintro e w' ⟨rfl, ⟨nd, rfl⟩⟩; refine ⟨_, rfl, ?_⟩))
    (try simp only [Act.put, List.setIfInBounds_toArray, List.set_cons_zero, List.set_cons_succ])
    go_cut [152] from 106 to 152 (fun v152 wc => ∃ (kq : Nat) (x152_20 : Bool), v152 = .bool x152_20 ∧ Aside0 (laws_FnWalksMeanOfAll.j1 kq a0 a1 a2 a3 a4 a5 a6 a7 t267 t268 x152_20 = some r) ∧ Aside0 (kq ≤ kj8) ∧ Aside0 (Below w.heap.size w wc))
    case first => as_aux_lemma =>
     have H := HC21.out
     clear HC21
     by_cases c24 : (t268 != t270) = true
     ·rw [if_pos c24] at H
      exact absurd H (by simp)
     ·rw [if_neg c24] at H
      have c24b0 : (t268 != t270) = false := by simpa using c24
      (try (have c24b1 : decide (t268 = t270) = true := by simpa using c24))
      (try (have c24b2 : (t268 == t270) = true := by simpa using c24))
      clear c24
      (first | rw [c24b0] | (simp only [i64_w, i32_w]; rw [c24b0]) | skip)
      by_cases c25 : t267 = t269
      ·rw [if_pos c25] at H
       have c25b0 : (t267 == t269) = true := beq_iff_eq.mpr c25
       have c25b1 : (t267 != t269) = false := bne_eq_false_iff_eq.mpr c25
       clear c25
       by_cases c26 : (t272 != t274) = true
       ·rw [if_pos c26] at H
        exact absurd H (by simp)
       ·rw [if_neg c26] at H
        have c26b0 : (t272 != t274) = false := by simpa using c26
        (try (have c26b1 : decide (t272 = t274) = true := by simpa using c26))
        (try (have c26b2 : (t272 == t274) = true := by simpa using c26))
        clear c26
        by_cases c27 : t271 = t273
        ·rw [if_pos c27] at H
         have c27b0 : (t271 == t273) = true := beq_iff_eq.mpr c27
         have c27b1 : (t271 != t273) = false := bne_eq_false_iff_eq.mpr c27
         clear c27
         by_cases c28 : t268 = true
         ·subst c28
          have H1 : (laws_FnWalksMeanOfAll.j1 kj8 a0 a1 a2 a3 a4 a5 a6 a7 t267 true (!t272)) = some r := by rw [if_pos rfl] at H; exact H
          clear H
          have H := H1
          clear H1
          have H' := aM H
          clear H
          go_wp2
          go_meet
          case rel => exact ⟨_, (!t272), (by first | rfl | (simp; done) | (simp [*]; done)), H', ⟨by have := HJ8.out; first | omega | exact Nat.le_refl _⟩, ⟨by repeat (first | (with_reducible first | exact HB.out | apply aL | apply dN | apply dR) | exact HB.out)⟩⟩
         ·replace c28 := Bool.eq_false_iff.mpr c28
          subst c28
          have H1 : (laws_FnWalksMeanOfAll.j1 kj8 a0 a1 a2 a3 a4 a5 a6 a7 t267 false false) = some r := by rw [if_neg (show ¬ (false = true) by decide)] at H; exact H
          clear H
          have H := H1
          clear H1
          have H' := aM H
          clear H
          go_wp2
          go_meet
          case rel => exact ⟨_, (false), (by first | rfl | (simp; done) | (simp [*]; done)), H', ⟨by have := HJ8.out; first | omega | exact Nat.le_refl _⟩, ⟨by repeat (first | (with_reducible first | exact HB.out | apply aL | apply dN | apply dR) | exact HB.out)⟩⟩
        ·rw [if_neg c27] at H
         exact absurd H (by simp)
      ·rw [if_neg c25] at H
       exact absurd H (by simp)
    case rest => as_aux_lemma =>
     clear HC21
     try clear c1;try clear c2;try clear p2;try clear c4;try clear c6;try clear c10;try clear c10b0;try clear c10b1;try clear c11;try clear c11b0;try clear c11b1;try clear c12;try clear c12b0;try clear c12b1;try clear c13;try clear c13b0;try clear c13b1;try clear c14;try clear c14b0;try clear c14b1;try clear c15;try clear c15b0;try clear c15b1;try clear c16;try clear c24;try clear c24b0;try clear c24b1;try clear c24b2;try clear c25;try clear c25b0;try clear c25b1;try clear c26;try clear c26b0;try clear c26b1;try clear c26b2;try clear c27;try clear c27b0;try clear c27b1;try clear c28;try clear p2
     obtain ⟨kq, x152_20, rfl, HA, HJ20, HB⟩ := hcut
     cases kq with
     | zero => exact absurd HA.out (by simp [laws_FnWalksMeanOfAll.j1])
     | succ kj20 =>
      have H := HA.out
      clear HA
      simp only [laws_FnWalksMeanOfAll.j1] at H
      by_cases c29 : x152_20 = true
      ·subst c29
       have H1 : (none) = some r := by rw [if_pos rfl] at H; exact H
       clear H
       have H := H1
       clear H1
       exact absurd H (by simp)
      ·replace c29 := Bool.eq_false_iff.mpr c29
       subst c29
       have H1 : (if t268 = true then ((impl_FewestMoves.f kj20 a0 a1).bind fun bt275 => (if bt275.2 = true then (if t267 < bt275.1 then (none) else (laws_FnWalksMeanOfAll.j2 kj20 a0 a1 a2 a3 a4 a5 a6 a7 t267 ((t267 == 0) != (a0.toList == a1.toList)))) else (none))) else (laws_FnWalksMeanOfAll.j4 kj20 a2 a3 a4 a5 a6 a7)) = some r := by rw [if_neg (show ¬ (false = true) by decide)] at H; exact H
       clear H
       have H := H1
       clear H1
       have HC30 := aM H
       clear H
       go_upto_if 153 with (fail)
       go_cut [] from 153 to 153 (fun wc => ∃ (kq : Nat), Aside0 (laws_FnWalksMeanOfAll.j4 kq a2 a3 a4 a5 a6 a7 = some r) ∧ Aside0 (kq ≤ kj20) ∧ Aside0 (Below w.heap.size w wc))
       case first => as_aux_lemma =>
        have H := HC30.out
        clear HC30
        by_cases c31 : t268 = true
        ·subst c31
         have H1 : ((impl_FewestMoves.f kj20 a0 a1).bind fun bt275 => (if bt275.2 = true then (if t267 < bt275.1 then (none) else (laws_FnWalksMeanOfAll.j2 kj20 a0 a1 a2 a3 a4 a5 a6 a7 t267 ((t267 == 0) != (a0.toList == a1.toList)))) else (none))) = some r := by rw [if_pos rfl] at H; exact H
         clear H
         have H := H1
         clear H1
         replace H := Option.bind_eq_some_iff.mp H
         obtain ⟨⟨t275, t276⟩, A320, H⟩ := H
         replace H : (if t276 = true then (if t267 < t275 then (none) else (laws_FnWalksMeanOfAll.j2 kj20 a0 a1 a2 a3 a4 a5 a6 a7 t267 ((t267 == 0) != (a0.toList == a1.toList)))) else (none)) = some r := H
         have A32 := aM A320
         clear A320
         have HC33 := aM H
         clear H
         go_upto_region 11 with (first | ((with_reducible refine gate_callee (f := 46) rfl ?_); refine goesL_ (some 157) rfl rfl Tryd.func46 (by kernel_rfl) rfl #[.string a0, .string a1] rfl (by (try simp only [List.map_toArray, List.map_cons, List.map_nil]); first | done | rfl | (simp only [List.length_drop, List.length_take]; rfl)) ?_; (with_reducible refine (impl_FewestMoves.calls kj20 a0 a1 t275 t276 _ A32.out).mono ?_); rintro e w34 ⟨rfl, hb⟩; refine ⟨_, rfl, ?_⟩; have n0_ := aM (below_step (by repeat (first | (with_reducible first | exact HB.out | apply aL | apply dN | apply dR) | exact HB.out)) hb); clear HB; have HB := n0_; clear n0_; (try clear hb); (try clear hb2); (try clear hk); (try clear hi)))
         (try simp only [Act.put, List.setIfInBounds_toArray, List.set_cons_zero, List.set_cons_succ])
         go_cut [174] from 154 to 174 (fun v174 wc => ∃ (kq : Nat) (x174_32 : Bool), v174 = .bool x174_32 ∧ Aside0 (laws_FnWalksMeanOfAll.j2 kq a0 a1 a2 a3 a4 a5 a6 a7 t267 x174_32 = some r) ∧ Aside0 (kq ≤ kj20) ∧ Aside0 (Below w.heap.size w wc))
         case first => as_aux_lemma =>
          have H := HC33.out
          clear HC33
          by_cases c35 : t276 = true
          ·subst c35
           have H1 : (if t267 < t275 then (none) else (laws_FnWalksMeanOfAll.j2 kj20 a0 a1 a2 a3 a4 a5 a6 a7 t267 ((t267 == 0) != (a0.toList == a1.toList)))) = some r := by rw [if_pos rfl] at H; exact H
           clear H
           have H := H1
           clear H1
           by_cases c36 : t267 < t275
           ·rw [if_pos c36] at H
            exact absurd H (by simp)
           ·rw [if_neg c36] at H
            have c36b0 : decide (t267 < t275) = false := decide_eq_false c36
            clear c36
            (first | rw [c36b0] | (simp only [i64_w, i32_w]; rw [c36b0]) | skip)
            have H' := aM H
            clear H
            go_wp2
            go_meet
            case rel => exact ⟨_, (((t267 == 0) != (a0.toList == a1.toList))), (by first | rfl | (simp; done) | (simp [*]; done)), H', ⟨by have := HJ8.out; have := HJ20.out; first | omega | exact Nat.le_refl _⟩, ⟨by repeat (first | (with_reducible first | exact HB.out | apply aL | apply dN | apply dR) | exact HB.out)⟩⟩
          ·replace c35 := Bool.eq_false_iff.mpr c35
           subst c35
           have H1 : (none) = some r := by rw [if_neg (show ¬ (false = true) by decide)] at H; exact H
           clear H
           have H := H1
           clear H1
           exact absurd H (by simp)
         case rest => as_aux_lemma =>
          clear HC33
          try clear c1;try clear c2;try clear p2;try clear c3;try clear c4;try clear c6;try clear c10;try clear c10b0;try clear c10b1;try clear c11;try clear c11b0;try clear c11b1;try clear c12;try clear c12b0;try clear c12b1;try clear c13;try clear c13b0;try clear c13b1;try clear c14;try clear c14b0;try clear c14b1;try clear c15;try clear c15b0;try clear c15b1;try clear c16;try clear c24;try clear c24b0;try clear c24b1;try clear c24b2;try clear c25;try clear c25b0;try clear c25b1;try clear c26;try clear c26b0;try clear c26b1;try clear c26b2;try clear c27;try clear c27b0;try clear c27b1;try clear c28;try clear c29;try clear c31;try clear c35;try clear c36;try clear c36b0;try clear p2
          obtain ⟨kq, x174_32, rfl, HA, HJ32, HB⟩ := hcut
          cases kq with
          | zero => exact absurd HA.out (by simp [laws_FnWalksMeanOfAll.j2])
          | succ kj32 =>
           have H := HA.out
           clear HA
           simp only [laws_FnWalksMeanOfAll.j2] at H
           by_cases c37 : x174_32 = true
           ·subst c37
            have H1 : (none) = some r := by rw [if_pos rfl] at H; exact H
            clear H
            have H := H1
            clear H1
            exact absurd H (by simp)
           ·replace c37 := Bool.eq_false_iff.mpr c37
            subst c37
            have H1 : (if a0.toList = a1.toList then (laws_FnWalksMeanOfAll.j4 kj32 a2 a3 a4 a5 a6 a7) else ((impl_MovesOf.f kj32 a0).bind fun bt277 => (laws_FnWalksMeanOfAll.l0 kj32 a0 a1 a2 a3 a4 a5 a6 a7 t267 bt277.1 bt277.2 0 bt277.1 (bt277.1.length : Int) 0))) = some r := by rw [if_neg (show ¬ (false = true) by decide)] at H; exact H
            clear H
            have H := H1
            clear H1
            by_cases c38 : a0.toList = a1.toList
            ·rw [if_pos c38] at H
             have c38b0 : (a0.toList == a1.toList) = true := beq_iff_eq.mpr c38
             have c38b1 : (a0.toList != a1.toList) = false := bne_eq_false_iff_eq.mpr c38
             clear c38
             have H' := aM H
             clear H
             go_wp2
             go_meet
             case rel => exact ⟨_, H', ⟨by have := HJ8.out; have := HJ20.out; have := HJ32.out; first | omega | exact Nat.le_refl _⟩, ⟨by repeat (first | (with_reducible first | exact HB.out | apply aL | apply dN | apply dR) | exact HB.out)⟩⟩
            ·rw [if_neg c38] at H
             have c38b0 : (a0.toList == a1.toList) = false := beq_eq_false_iff_ne.mpr c38
             have c38b1 : (a0.toList != a1.toList) = true := bne_iff_ne.mpr c38
             replace H := Option.bind_eq_some_iff.mp H
             obtain ⟨⟨t277, t278⟩, A390, H⟩ := H
             replace H : (laws_FnWalksMeanOfAll.l0 kj32 a0 a1 a2 a3 a4 a5 a6 a7 t267 t277 t278 0 t277 (t277.length : Int) 0) = some r := H
             have A39 := aM A390
             clear A390
             have H' := aM H
             clear H
             go_wp2_with (first | ((with_reducible refine gate_callee (f := 47) rfl ?_); refine goesL_ (some 180) rfl rfl Tryd.func47 (by kernel_rfl) rfl #[.string a0] rfl (by (try simp only [List.map_toArray, List.map_cons, List.map_nil]); first | done | rfl | (simp only [List.length_drop, List.length_take]; rfl)) ?_; (with_reducible refine (impl_MovesOf.calls kj32 a0 t277 t278 _ A39.out).mono ?_); rintro e w40 ⟨v279, rfl, ho0, hb⟩; refine ⟨_, rfl, ?_⟩; have n0_ := aM (Kd.R_lower ho0 (below_size (by repeat (first | (with_reducible first | exact HB.out | apply aL | apply dN | apply dR) | exact HB.out)))); have n1_ := aM (below_step (by repeat (first | (with_reducible first | exact HB.out | apply aL | apply dN | apply dR) | exact HB.out)) hb); clear HB; have HO280 := n0_; have HB := n1_; clear n0_ n1_; (try clear hb); (try clear hb2); (try clear hk); (try clear hi); (try clear ho0); obtain ⟨Ao41, co41, eo41⟩ := Kd.R_slice HO280.out; subst eo41))
             go_loopg [29, 185] kj32 (fun kq v29 v185 w' => ∃ (x29_4 : Int) (x185_4 : Int), v29 = .int .i64 x29_4 ∧ v185 = .int .i64 x185_4 ∧ Aside0 (laws_FnWalksMeanOfAll.l0 kq a0 a1 a2 a3 a4 a5 a6 a7 t267 t277 t278 x29_4 t277 (t277.length : Int) x185_4 = some r) ∧ Aside0 (kq ≤ kj32) ∧ Aside0 (Kd.R (Kd.int .i64) 3 w' w.heap.size (fun _ => True) (.slice Ao41 t277.length co41) t277) ∧ Aside0 (Kd.R (Kd.int .i64) 3 w' w.heap.size (fun _ => True) (.slice Ao41 t277.length co41) t277) ∧ Aside0 (Below w.heap.size w w'))
             case atStart => exact ⟨(0), (0), (by first | rfl | (simp; done) | (simp [*]; done)), (by first | rfl | (simp; done) | (simp [*]; done)), H', ⟨Nat.le_refl _⟩, ⟨by (with_reducible repeat (first | apply Kd.R_alloc | apply Kd.R_drewN | apply Kd.R_drew)); exact HO280.out⟩, ⟨by (with_reducible repeat (first | apply Kd.R_alloc | apply Kd.R_drewN | apply Kd.R_drew)); exact HO280.out⟩, ⟨by repeat (first | (with_reducible first | exact HB.out | apply aL | apply dN | apply dR) | exact HB.out)⟩⟩
             case round => as_aux_lemma =>
              clear H'
              try clear c1;try clear c2;try clear p2;try clear c3;try clear c4;try clear c6;try clear c10;try clear c10b0;try clear c10b1;try clear c11;try clear c11b0;try clear c11b1;try clear c12;try clear c12b0;try clear c12b1;try clear c13;try clear c13b0;try clear c13b1;try clear c14;try clear c14b0;try clear c14b1;try clear c15;try clear c15b0;try clear c15b1;try clear c16;try clear c24;try clear c24b0;try clear c24b1;try clear c24b2;try clear c25;try clear c25b0;try clear c25b1;try clear c26;try clear c26b0;try clear c26b1;try clear c26b2;try clear c27;try clear c27b0;try clear c27b1;try clear c28;try clear c29;try clear c31;try clear c35;try clear c36;try clear c36b0;try clear c37;try clear c38;try clear c38b0;try clear c38b1;try clear p2
              obtain ⟨x29_4, x185_4, rfl, rfl, HA, HK4, HO_27, HO_183, HB⟩ := hrel
              cases gk with
              | zero => exact absurd HA.out (by simp [laws_FnWalksMeanOfAll.l0])
              | succ k4 =>
               have H := HA.out
               clear HA
               simp only [laws_FnWalksMeanOfAll.l0] at H
               by_cases c42 : x185_4 < (t277.length : Int)
               ·rw [if_pos c42] at H
                have c42b0 : decide (x185_4 < (t277.length : Int)) = true := decide_eq_true c42
                clear c42
                by_cases c43 : 0 ≤ x185_4
                ·rw [if_pos c43] at H
                 have c43b0 : decide (0 ≤ x185_4) = true := decide_eq_true c43
                 clear c43
                 by_cases c44 : x185_4 < (t277.length : Int)
                 ·rw [if_pos c44] at H
                  have c44b0 : decide (x185_4 < (t277.length : Int)) = true := decide_eq_true c44
                  clear c44
                  replace H := Option.bind_eq_some_iff.mp H
                  obtain ⟨⟨t282, t283⟩, A450, H⟩ := H
                  replace H : ((impl_MeanFrom.f k4 t282 a1).bind fun bt284 => (if t283 = true then (if bt284.2 = true then (laws_FnWalksMeanOfAll.l0 k4 a0 a1 a2 a3 a4 a5 a6 a7 t267 t277 t278 (wrap64 (x29_4 + bt284.1)) t277 (t277.length : Int) (wrap64 (x185_4 + 1))) else (none)) else (none))) = some r := H
                  have A45 := aM A450
                  clear A450
                  replace H := Option.bind_eq_some_iff.mp H
                  obtain ⟨⟨t284, t285⟩, A460, H⟩ := H
                  replace H : (if t283 = true then (if t285 = true then (laws_FnWalksMeanOfAll.l0 k4 a0 a1 a2 a3 a4 a5 a6 a7 t267 t277 t278 (wrap64 (x29_4 + t284)) t277 (t277.length : Int) (wrap64 (x185_4 + 1))) else (none)) else (none)) = some r := H
                  have A46 := aM A460
                  clear A460
                  by_cases c47 : t283 = true
                  ·subst c47
                   have H1 : (if t285 = true then (laws_FnWalksMeanOfAll.l0 k4 a0 a1 a2 a3 a4 a5 a6 a7 t267 t277 t278 (wrap64 (x29_4 + t284)) t277 (t277.length : Int) (wrap64 (x185_4 + 1))) else (none)) = some r := by rw [if_pos rfl] at H; exact H
                   clear H
                   have H := H1
                   clear H1
                   by_cases c48 : t285 = true
                   ·subst c48
                    have H1 : (laws_FnWalksMeanOfAll.l0 k4 a0 a1 a2 a3 a4 a5 a6 a7 t267 t277 t278 (wrap64 (x29_4 + t284)) t277 (t277.length : Int) (wrap64 (x185_4 + 1))) = some r := by rw [if_pos rfl] at H; exact H
                    clear H
                    have H := H1
                    clear H1
                    have H' := aM H
                    clear H
                    have p281 : 0 ≤ (x185_4 : Int) := of_decide_eq_true (by first | (with_reducible assumption) | assumption)
                    have q281 : x185_4 < (t277.length : Int) := of_decide_eq_true (by first | (with_reducible assumption) | assumption)
                    obtain ⟨ad281, e281, hx281_0⟩ := Kd.at_int (Kd.R_reads' HO_183.out).2.2 x185_4 p281 q281
                    cases e281
                    replace p281 := eq_true p281
                    replace q281 := eq_true q281
                    go_wp2_with (first | ((with_reducible refine gate_callee (f := 48) rfl ?_); refine goesL_ (some 192) rfl rfl Tryd.func48 (by kernel_rfl) rfl #[.string a0, .int .i64 (rd t277 x185_4)] rfl (by (try simp only [List.map_toArray, List.map_cons, List.map_nil]); first | done | rfl | (simp only [List.length_drop, List.length_take]; rfl)) ?_; (with_reducible refine (impl_MoveRing.calls a0 (rd t277 x185_4) t282 true _ A45.out).mono ?_); rintro e w49 ⟨rfl, hb⟩; refine ⟨_, rfl, ?_⟩; have n0_ := aM (Kd.R_below (rU HO_27.out) hb); have n1_ := aM (Kd.R_below (rU HO_183.out) hb); have n2_ := aM (below_step (by repeat (first | (with_reducible first | exact HB.out | apply aL | apply dN | apply dR) | exact HB.out)) hb); clear HO_27; clear HO_183; clear HB; have HO_27 := n0_; have HO_183 := n1_; have HB := n2_; clear n0_ n1_ n2_; (try clear hb); (try clear hb2); (try clear hk); (try clear hi)) | ((with_reducible refine gate_callee (f := 42) rfl ?_); refine goesL_ (some 198) rfl rfl Tryd.func42 (by kernel_rfl) rfl #[.string t282, .string a1] rfl (by (try simp only [List.map_toArray, List.map_cons, List.map_nil]); first | done | rfl | (simp only [List.length_drop, List.length_take]; rfl)) ?_; (with_reducible refine (impl_MeanFrom.calls k4 t282 a1 t284 true _ A46.out).mono ?_); rintro e w50 ⟨rfl, hb⟩; refine ⟨_, rfl, ?_⟩; have n0_ := aM (Kd.R_below (rU HO_27.out) hb); have n1_ := aM (Kd.R_below (rU HO_183.out) hb); have n2_ := aM (below_step (by repeat (first | (with_reducible first | exact HB.out | apply aL | apply dN | apply dR) | exact HB.out)) hb); clear HO_27; clear HO_183; clear HB; have HO_27 := n0_; have HO_183 := n1_; have HB := n2_; clear n0_ n1_ n2_; (try clear hb); (try clear hb2); (try clear hk); (try clear hi)))
                    go_roundg k4
                    case measure => have := HJ8.out; have := HJ20.out; have := HJ32.out; have := HK4.out; omega
                    case rel => exact ⟨(wrap64 (x29_4 + t284)), (wrap64 (x185_4 + 1)), (by first | rfl | (simp; done) | (simp [*]; done)), (by first | rfl | (simp; done) | (simp [*]; done)), H', ⟨by have := HJ8.out; have := HJ20.out; have := HJ32.out; have := HK4.out; omega⟩, ⟨by (with_reducible repeat (first | apply Kd.R_alloc | apply Kd.R_drewN | apply Kd.R_drew)); exact HO_27.out⟩, ⟨by (with_reducible repeat (first | apply Kd.R_alloc | apply Kd.R_drewN | apply Kd.R_drew)); exact HO_183.out⟩, ⟨by repeat (first | (with_reducible first | exact HB.out | apply aL | apply dN | apply dR) | exact HB.out)⟩⟩
                   ·replace c48 := Bool.eq_false_iff.mpr c48
                    subst c48
                    have H1 : (none) = some r := by rw [if_neg (show ¬ (false = true) by decide)] at H; exact H
                    clear H
                    have H := H1
                    clear H1
                    exact absurd H (by simp)
                  ·replace c47 := Bool.eq_false_iff.mpr c47
                   subst c47
                   have H1 : (none) = some r := by rw [if_neg (show ¬ (false = true) by decide)] at H; exact H
                   clear H
                   have H := H1
                   clear H1
                   exact absurd H (by simp)
                 ·rw [if_neg c44] at H
                  exact absurd H (by simp)
                ·rw [if_neg c43] at H
                 exact absurd H (by simp)
               ·rw [if_neg c42] at H
                have c42b0 : decide (x185_4 < (t277.length : Int)) = false := decide_eq_false c42
                clear c42
                by_cases c51 : t278 = true
                ·subst c51
                 have H1 : (if (wrap64 ((wrap64 (t267 - 1)) * (t277.length : Int))) = x29_4 then (laws_FnWalksMeanOfAll.j4 k4 a2 a3 a4 a5 a6 a7) else (none)) = some r := by rw [if_pos rfl] at H; exact H
                 clear H
                 have H := H1
                 clear H1
                 by_cases c52 : (wrap64 ((wrap64 (t267 - 1)) * (t277.length : Int))) = x29_4
                 ·rw [if_pos c52] at H
                  have c52b0 : ((wrap64 ((wrap64 (t267 - 1)) * (t277.length : Int))) == x29_4) = true := beq_iff_eq.mpr c52
                  have c52b1 : ((wrap64 ((wrap64 (t267 - 1)) * (t277.length : Int))) != x29_4) = false := bne_eq_false_iff_eq.mpr c52
                  clear c52
                  have H' := aM H
                  clear H
                  go_wp2
                  go_meet
                  case rel => exact ⟨_, H', ⟨by have := HJ8.out; have := HJ20.out; have := HJ32.out; have := HK4.out; first | omega | exact Nat.le_refl _⟩, ⟨by repeat (first | (with_reducible first | exact HB.out | apply aL | apply dN | apply dR) | exact HB.out)⟩⟩
                 ·rw [if_neg c52] at H
                  exact absurd H (by simp)
                ·replace c51 := Bool.eq_false_iff.mpr c51
                 subst c51
                 have H1 : (none) = some r := by rw [if_neg (show ¬ (false = true) by decide)] at H; exact H
                 clear H
                 have H := H1
                 clear H1
                 exact absurd H (by simp)
        ·replace c31 := Bool.eq_false_iff.mpr c31
         subst c31
         have H1 : (laws_FnWalksMeanOfAll.j4 kj20 a2 a3 a4 a5 a6 a7) = some r := by rw [if_neg (show ¬ (false = true) by decide)] at H; exact H
         clear H
         have H := H1
         clear H1
         have H' := aM H
         clear H
         go_wp2
         go_meet
         case rel => exact ⟨_, H', ⟨by have := HJ8.out; have := HJ20.out; first | omega | exact Nat.le_refl _⟩, ⟨by repeat (first | (with_reducible first | exact HB.out | apply aL | apply dN | apply dR) | exact HB.out)⟩⟩
       case rest => as_aux_lemma =>
        clear HC30
        try clear c1;try clear c2;try clear p2;try clear q2;try clear hx2;try clear c3;try clear c4;try clear c5;try clear c6;try clear p6;try clear c10;try clear c10b0;try clear c10b1;try clear c11;try clear c11b0;try clear c11b1;try clear c12;try clear c12b0;try clear c12b1;try clear c13;try clear c13b0;try clear c13b1;try clear c14;try clear c14b0;try clear c14b1;try clear c15;try clear c15b0;try clear c15b1;try clear c16;try clear c24;try clear c24b0;try clear c24b1;try clear c24b2;try clear c25;try clear c25b0;try clear c25b1;try clear c26;try clear c26b0;try clear c26b1;try clear c26b2;try clear c27;try clear c27b0;try clear c27b1;try clear c28;try clear p28;try clear q28;try clear hx28;try clear c29;try clear c31;try clear c35;try clear c36;try clear c36b0;try clear c37;try clear c38;try clear c38b0;try clear c38b1;try clear c42;try clear c42b0;try clear c43;try clear c43b0;try clear c44;try clear c44b0;try clear c45;try clear c46;try clear c47;try clear c48;try clear c51;try clear c52;try clear c52b0;try clear c52b1;try clear hx281_0;try clear p2;try clear p281;try clear q281
        obtain ⟨kq, HA, HJ29, HB⟩ := hcut
        cases kq with
        | zero => exact absurd HA.out (by simp [laws_FnWalksMeanOfAll.j4])
        | succ kj29 =>
         have H := HA.out
         clear HA
         simp only [laws_FnWalksMeanOfAll.j4] at H
         replace H := Option.bind_eq_some_iff.mp H
         obtain ⟨⟨t286, t287, t288⟩, A530, H⟩ := H
         replace H : ((spec_ChanceBefore.f kj29 a2 a3 a4).bind fun bt289 => ((impl_WalksTo.f kj29 a5 a6 a7).bind fun bt292 => ((spec_WalksTo.f kj29 a5 a6 a7).bind fun bt294 => ((impl_ChanceAfter.f kj29 a5 a6 a7).bind fun bt296 => ((spec_ChanceAfter.f kj29 a5 a6 a7).bind fun bt299 => ((impl_LikeliestAfter.f kj29 a5 a7).bind fun bt302 => ((spec_LikeliestAfter.f kj29 a5 a7).bind fun bt306 => (if (t288 != bt289.2.2) = true then (none) else (if t286 = bt289.1 then (if t287 = bt289.2.1 then (if (bt292.2 != bt294.2) = true then (none) else (if bt292.1 = bt294.1 then (if (bt296.2.2 != bt299.2.2) = true then (none) else (if bt296.1 = bt299.1 then (if bt296.2.1 = bt299.2.1 then (if (bt296.2.2 != bt292.2) = true then (none) else (if (bt302.2 != bt306.2) = true then (none) else ((laws_yTexts.f kj29 bt302.1 bt306.1).bind fun t310 => (if t310 = true then (if bt296.2.2 = true then (laws_FnWalksMeanOfAll.j5 kj29 a2 a3 a4 a5 a6 a7 t286 t287 t288 bt292.1 bt296.1 bt296.2.1 bt296.2.2 bt302.1 (!bt302.2)) else (laws_FnWalksMeanOfAll.j5 kj29 a2 a3 a4 a5 a6 a7 t286 t287 t288 bt292.1 bt296.1 bt296.2.1 bt296.2.2 bt302.1 false)) else (none))))) else (none)) else (none))) else (none))) else (none)) else (none)))))))))) = some r := H
         have A53 := aM A530
         clear A530
         replace H := Option.bind_eq_some_iff.mp H
         obtain ⟨⟨t289, t290, t291⟩, A540, H⟩ := H
         replace H : ((impl_WalksTo.f kj29 a5 a6 a7).bind fun bt292 => ((spec_WalksTo.f kj29 a5 a6 a7).bind fun bt294 => ((impl_ChanceAfter.f kj29 a5 a6 a7).bind fun bt296 => ((spec_ChanceAfter.f kj29 a5 a6 a7).bind fun bt299 => ((impl_LikeliestAfter.f kj29 a5 a7).bind fun bt302 => ((spec_LikeliestAfter.f kj29 a5 a7).bind fun bt306 => (if (t288 != t291) = true then (none) else (if t286 = t289 then (if t287 = t290 then (if (bt292.2 != bt294.2) = true then (none) else (if bt292.1 = bt294.1 then (if (bt296.2.2 != bt299.2.2) = true then (none) else (if bt296.1 = bt299.1 then (if bt296.2.1 = bt299.2.1 then (if (bt296.2.2 != bt292.2) = true then (none) else (if (bt302.2 != bt306.2) = true then (none) else ((laws_yTexts.f kj29 bt302.1 bt306.1).bind fun t310 => (if t310 = true then (if bt296.2.2 = true then (laws_FnWalksMeanOfAll.j5 kj29 a2 a3 a4 a5 a6 a7 t286 t287 t288 bt292.1 bt296.1 bt296.2.1 bt296.2.2 bt302.1 (!bt302.2)) else (laws_FnWalksMeanOfAll.j5 kj29 a2 a3 a4 a5 a6 a7 t286 t287 t288 bt292.1 bt296.1 bt296.2.1 bt296.2.2 bt302.1 false)) else (none))))) else (none)) else (none))) else (none))) else (none)) else (none))))))))) = some r := H
         have A54 := aM A540
         clear A540
         replace H := Option.bind_eq_some_iff.mp H
         obtain ⟨⟨t292, t293⟩, A550, H⟩ := H
         replace H : ((spec_WalksTo.f kj29 a5 a6 a7).bind fun bt294 => ((impl_ChanceAfter.f kj29 a5 a6 a7).bind fun bt296 => ((spec_ChanceAfter.f kj29 a5 a6 a7).bind fun bt299 => ((impl_LikeliestAfter.f kj29 a5 a7).bind fun bt302 => ((spec_LikeliestAfter.f kj29 a5 a7).bind fun bt306 => (if (t288 != t291) = true then (none) else (if t286 = t289 then (if t287 = t290 then (if (t293 != bt294.2) = true then (none) else (if t292 = bt294.1 then (if (bt296.2.2 != bt299.2.2) = true then (none) else (if bt296.1 = bt299.1 then (if bt296.2.1 = bt299.2.1 then (if (bt296.2.2 != t293) = true then (none) else (if (bt302.2 != bt306.2) = true then (none) else ((laws_yTexts.f kj29 bt302.1 bt306.1).bind fun t310 => (if t310 = true then (if bt296.2.2 = true then (laws_FnWalksMeanOfAll.j5 kj29 a2 a3 a4 a5 a6 a7 t286 t287 t288 t292 bt296.1 bt296.2.1 bt296.2.2 bt302.1 (!bt302.2)) else (laws_FnWalksMeanOfAll.j5 kj29 a2 a3 a4 a5 a6 a7 t286 t287 t288 t292 bt296.1 bt296.2.1 bt296.2.2 bt302.1 false)) else (none))))) else (none)) else (none))) else (none))) else (none)) else (none)))))))) = some r := H
         have A55 := aM A550
         clear A550
         replace H := Option.bind_eq_some_iff.mp H
         obtain ⟨⟨t294, t295⟩, A560, H⟩ := H
         replace H : ((impl_ChanceAfter.f kj29 a5 a6 a7).bind fun bt296 => ((spec_ChanceAfter.f kj29 a5 a6 a7).bind fun bt299 => ((impl_LikeliestAfter.f kj29 a5 a7).bind fun bt302 => ((spec_LikeliestAfter.f kj29 a5 a7).bind fun bt306 => (if (t288 != t291) = true then (none) else (if t286 = t289 then (if t287 = t290 then (if (t293 != t295) = true then (none) else (if t292 = t294 then (if (bt296.2.2 != bt299.2.2) = true then (none) else (if bt296.1 = bt299.1 then (if bt296.2.1 = bt299.2.1 then (if (bt296.2.2 != t293) = true then (none) else (if (bt302.2 != bt306.2) = true then (none) else ((laws_yTexts.f kj29 bt302.1 bt306.1).bind fun t310 => (if t310 = true then (if bt296.2.2 = true then (laws_FnWalksMeanOfAll.j5 kj29 a2 a3 a4 a5 a6 a7 t286 t287 t288 t292 bt296.1 bt296.2.1 bt296.2.2 bt302.1 (!bt302.2)) else (laws_FnWalksMeanOfAll.j5 kj29 a2 a3 a4 a5 a6 a7 t286 t287 t288 t292 bt296.1 bt296.2.1 bt296.2.2 bt302.1 false)) else (none))))) else (none)) else (none))) else (none))) else (none)) else (none))))))) = some r := H
         have A56 := aM A560
         clear A560
         replace H := Option.bind_eq_some_iff.mp H
         obtain ⟨⟨t296, t297, t298⟩, A570, H⟩ := H
         replace H : ((spec_ChanceAfter.f kj29 a5 a6 a7).bind fun bt299 => ((impl_LikeliestAfter.f kj29 a5 a7).bind fun bt302 => ((spec_LikeliestAfter.f kj29 a5 a7).bind fun bt306 => (if (t288 != t291) = true then (none) else (if t286 = t289 then (if t287 = t290 then (if (t293 != t295) = true then (none) else (if t292 = t294 then (if (t298 != bt299.2.2) = true then (none) else (if t296 = bt299.1 then (if t297 = bt299.2.1 then (if (t298 != t293) = true then (none) else (if (bt302.2 != bt306.2) = true then (none) else ((laws_yTexts.f kj29 bt302.1 bt306.1).bind fun t310 => (if t310 = true then (if t298 = true then (laws_FnWalksMeanOfAll.j5 kj29 a2 a3 a4 a5 a6 a7 t286 t287 t288 t292 t296 t297 t298 bt302.1 (!bt302.2)) else (laws_FnWalksMeanOfAll.j5 kj29 a2 a3 a4 a5 a6 a7 t286 t287 t288 t292 t296 t297 t298 bt302.1 false)) else (none))))) else (none)) else (none))) else (none))) else (none)) else (none)))))) = some r := H
         have A57 := aM A570
         clear A570
         replace H := Option.bind_eq_some_iff.mp H
         obtain ⟨⟨t299, t300, t301⟩, A580, H⟩ := H
         replace H : ((impl_LikeliestAfter.f kj29 a5 a7).bind fun bt302 => ((spec_LikeliestAfter.f kj29 a5 a7).bind fun bt306 => (if (t288 != t291) = true then (none) else (if t286 = t289 then (if t287 = t290 then (if (t293 != t295) = true then (none) else (if t292 = t294 then (if (t298 != t301) = true then (none) else (if t296 = t299 then (if t297 = t300 then (if (t298 != t293) = true then (none) else (if (bt302.2 != bt306.2) = true then (none) else ((laws_yTexts.f kj29 bt302.1 bt306.1).bind fun t310 => (if t310 = true then (if t298 = true then (laws_FnWalksMeanOfAll.j5 kj29 a2 a3 a4 a5 a6 a7 t286 t287 t288 t292 t296 t297 t298 bt302.1 (!bt302.2)) else (laws_FnWalksMeanOfAll.j5 kj29 a2 a3 a4 a5 a6 a7 t286 t287 t288 t292 t296 t297 t298 bt302.1 false)) else (none))))) else (none)) else (none))) else (none))) else (none)) else (none))))) = some r := H
         have A58 := aM A580
         clear A580
         replace H := Option.bind_eq_some_iff.mp H
         obtain ⟨⟨t302, t303⟩, A590, H⟩ := H
         replace H : ((spec_LikeliestAfter.f kj29 a5 a7).bind fun bt306 => (if (t288 != t291) = true then (none) else (if t286 = t289 then (if t287 = t290 then (if (t293 != t295) = true then (none) else (if t292 = t294 then (if (t298 != t301) = true then (none) else (if t296 = t299 then (if t297 = t300 then (if (t298 != t293) = true then (none) else (if (t303 != bt306.2) = true then (none) else ((laws_yTexts.f kj29 t302 bt306.1).bind fun t310 => (if t310 = true then (if t298 = true then (laws_FnWalksMeanOfAll.j5 kj29 a2 a3 a4 a5 a6 a7 t286 t287 t288 t292 t296 t297 t298 t302 (!t303)) else (laws_FnWalksMeanOfAll.j5 kj29 a2 a3 a4 a5 a6 a7 t286 t287 t288 t292 t296 t297 t298 t302 false)) else (none))))) else (none)) else (none))) else (none))) else (none)) else (none)))) = some r := H
         have A59 := aM A590
         clear A590
         replace H := Option.bind_eq_some_iff.mp H
         obtain ⟨⟨t306, t307⟩, A600, H⟩ := H
         replace H : (if (t288 != t291) = true then (none) else (if t286 = t289 then (if t287 = t290 then (if (t293 != t295) = true then (none) else (if t292 = t294 then (if (t298 != t301) = true then (none) else (if t296 = t299 then (if t297 = t300 then (if (t298 != t293) = true then (none) else (if (t303 != t307) = true then (none) else ((laws_yTexts.f kj29 t302 t306).bind fun t310 => (if t310 = true then (if t298 = true then (laws_FnWalksMeanOfAll.j5 kj29 a2 a3 a4 a5 a6 a7 t286 t287 t288 t292 t296 t297 t298 t302 (!t303)) else (laws_FnWalksMeanOfAll.j5 kj29 a2 a3 a4 a5 a6 a7 t286 t287 t288 t292 t296 t297 t298 t302 false)) else (none))))) else (none)) else (none))) else (none))) else (none)) else (none))) = some r := H
         have A60 := aM A600
         clear A600
         have HC61 := aM H
         clear H
         go_upto_region 35 with (first | ((with_reducible refine gate_callee (f := 49) rfl ?_); refine goesL_ (some 226) rfl rfl Tryd.func49 (by kernel_rfl) rfl #[.string a2, .string a3, .string a4] rfl (by (try simp only [List.map_toArray, List.map_cons, List.map_nil]); first | done | rfl | (simp only [List.length_drop, List.length_take]; rfl)) ?_; (with_reducible refine (impl_ChanceBefore.calls kj29 a2 a3 a4 t286 t287 t288 _ A53.out).mono ?_); rintro e w62 ⟨rfl, hb⟩; refine ⟨_, rfl, ?_⟩; have n0_ := aM (below_step (by repeat (first | (with_reducible first | exact HB.out | apply aL | apply dN | apply dR) | exact HB.out)) hb); clear HB; have HB := n0_; clear n0_; (try clear hb); (try clear hb2); (try clear hk); (try clear hi)) | ((with_reducible refine gate_callee (f := 50) rfl ?_); refine goesL_ (some 234) rfl rfl Tryd.func50 (by kernel_rfl) rfl #[.string a2, .string a3, .string a4] rfl (by (try simp only [List.map_toArray, List.map_cons, List.map_nil]); first | done | rfl | (simp only [List.length_drop, List.length_take]; rfl)) ?_; (with_reducible refine (spec_ChanceBefore.calls kj29 a2 a3 a4 t289 t290 t291 _ A54.out).mono ?_); rintro e w' ⟨rfl, ⟨nd, rfl⟩⟩; refine ⟨_, rfl, ?_⟩) | ((with_reducible refine gate_callee (f := 51) rfl ?_); refine goesL_ (some 242) rfl rfl Tryd.func51 (by kernel_rfl) rfl #[.string a5, .string a6, .int .i64 a7] rfl (by (try simp only [List.map_toArray, List.map_cons, List.map_nil]); first | done | rfl | (simp only [List.length_drop, List.length_take]; rfl)) ?_; (with_reducible refine (impl_WalksTo.calls kj29 a5 a6 a7 t292 t293 _ A55.out).mono ?_); rintro e w63 ⟨rfl, hb⟩; refine ⟨_, rfl, ?_⟩; have n0_ := aM (below_step (by repeat (first | (with_reducible first | exact HB.out | apply aL | apply dN | apply dR) | exact HB.out)) hb); clear HB; have HB := n0_; clear n0_; (try clear hb); (try clear hb2); (try clear hk); (try clear hi)) | ((with_reducible refine gate_callee (f := 52) rfl ?_); refine goesL_ (some 249) rfl rfl Tryd.func52 (by kernel_rfl) rfl #[.string a5, .string a6, .int .i64 a7] rfl (by (try simp only [List.map_toArray, List.map_cons, List.map_nil]); first | done | rfl | (simp only [List.length_drop, List.length_take]; rfl)) ?_; (with_reducible refine (spec_WalksTo.calls kj29 a5 a6 a7 t294 t295 _ A56.out).mono ?_); rintro e w64 ⟨rfl, hb⟩; refine ⟨_, rfl, ?_⟩; have n0_ := aM (below_step (by repeat (first | (with_reducible first | exact HB.out | apply aL | apply dN | apply dR) | exact HB.out)) hb); clear HB; have HB := n0_; clear n0_; (try clear hb); (try clear hb2); (try clear hk); (try clear hi)) | ((with_reducible refine gate_callee (f := 53) rfl ?_); refine goesL_ (some 256) rfl rfl Tryd.func53 (by kernel_rfl) rfl #[.string a5, .string a6, .int .i64 a7] rfl (by (try simp only [List.map_toArray, List.map_cons, List.map_nil]); first | done | rfl | (simp only [List.length_drop, List.length_take]; rfl)) ?_; (with_reducible refine (impl_ChanceAfter.calls kj29 a5 a6 a7 t296 t297 t298 _ A57.out).mono ?_); rintro e w65 ⟨rfl, hb⟩; refine ⟨_, rfl, ?_⟩; have n0_ := aM (below_step (by repeat (first | (with_reducible first | exact HB.out | apply aL | apply dN | apply dR) | exact HB.out)) hb); clear HB; have HB := n0_; clear n0_; (try clear hb); (try clear hb2); (try clear hk); (try clear hi)) | ((with_reducible refine gate_callee (f := 54) rfl ?_); refine goesL_ (some 264) rfl rfl Tryd.func54 (by kernel_rfl) rfl #[.string a5, .string a6, .int .i64 a7] rfl (by (try simp only [List.map_toArray, List.map_cons, List.map_nil]); first | done | rfl | (simp only [List.length_drop, List.length_take]; rfl)) ?_; (with_reducible refine (spec_ChanceAfter.calls kj29 a5 a6 a7 t299 t300 t301 _ A58.out).mono ?_); rintro e w66 ⟨rfl, hb⟩; refine ⟨_, rfl, ?_⟩; have n0_ := aM (below_step (by repeat (first | (with_reducible first | exact HB.out | apply aL | apply dN | apply dR) | exact HB.out)) hb); clear HB; have HB := n0_; clear n0_; (try clear hb); (try clear hb2); (try clear hk); (try clear hi)) | ((with_reducible refine gate_callee (f := 55) rfl ?_); refine goesL_ (some 271) rfl rfl Tryd.func55 (by kernel_rfl) rfl #[.string a5, .int .i64 a7] rfl (by (try simp only [List.map_toArray, List.map_cons, List.map_nil]); first | done | rfl | (simp only [List.length_drop, List.length_take]; rfl)) ?_; (with_reducible refine (impl_LikeliestAfter.calls kj29 a5 a7 t302 t303 _ A59.out).mono ?_); rintro e w67 ⟨v304, rfl, ho0, hb⟩; refine ⟨_, rfl, ?_⟩; have n0_ := aM (Kd.R_lower ho0 (below_size (by repeat (first | (with_reducible first | exact HB.out | apply aL | apply dN | apply dR) | exact HB.out)))); have n1_ := aM (below_step (by repeat (first | (with_reducible first | exact HB.out | apply aL | apply dN | apply dR) | exact HB.out)) hb); clear HB; have HO305 := n0_; have HB := n1_; clear n0_ n1_; (try clear hb); (try clear hb2); (try clear hk); (try clear hi); (try clear ho0)) | ((with_reducible refine gate_callee (f := 56) rfl ?_); refine goesL_ (some 277) rfl rfl Tryd.func56 (by kernel_rfl) rfl #[.string a5, .int .i64 a7] rfl (by (try simp only [List.map_toArray, List.map_cons, List.map_nil]); first | done | rfl | (simp only [List.length_drop, List.length_take]; rfl)) ?_; (with_reducible refine (spec_LikeliestAfter.calls kj29 a5 a7 t306 t307 _ A60.out).mono ?_); rintro e w68 ⟨v308, rfl, ho0, hb⟩; refine ⟨_, rfl, ?_⟩; have n0_ := aM (Kd.R_elder' (rU HO305.out) (Kd.R_base ho0) hb); have n1_ := aM (Kd.R_lower (Kd.R_new' ho0 (Kd.R_lt (rU HO305.out))) (below_size (by repeat (first | (with_reducible first | exact HB.out | apply aL | apply dN | apply dR) | exact HB.out)))); have n2_ := aM (below_step (by repeat (first | (with_reducible first | exact HB.out | apply aL | apply dN | apply dR) | exact HB.out)) hb); clear HO305; clear HB; have HO305 := n0_; have HO309 := n1_; have HB := n2_; clear n0_ n1_ n2_; (try clear hb); (try clear hb2); (try clear hk); (try clear hi); (try clear ho0)))
         (try simp only [Act.put, List.setIfInBounds_toArray, List.set_cons_zero, List.set_cons_succ])
         go_cut [340] from 222 to 340 (fun v340 wc => ∃ (kq : Nat) (x340_60 : Bool), v340 = .bool x340_60 ∧ Aside0 (laws_FnWalksMeanOfAll.j5 kq a2 a3 a4 a5 a6 a7 t286 t287 t288 t292 t296 t297 t298 t302 x340_60 = some r) ∧ Aside0 (kq ≤ kj29) ∧ Aside0 (Kd.R Kd.string 9 wc w.heap.size (fun _ => True) v304 t302) ∧ Aside0 (Below w.heap.size w wc))
         case first => as_aux_lemma =>
          have H := HC61.out
          clear HC61
          by_cases c69 : (t288 != t291) = true
          ·rw [if_pos c69] at H
           exact absurd H (by simp)
          ·rw [if_neg c69] at H
           have c69b0 : (t288 != t291) = false := by simpa using c69
           (try (have c69b1 : decide (t288 = t291) = true := by simpa using c69))
           (try (have c69b2 : (t288 == t291) = true := by simpa using c69))
           clear c69
           (first | rw [c69b0] | (simp only [i64_w, i32_w]; rw [c69b0]) | skip)
           by_cases c70 : t286 = t289
           ·rw [if_pos c70] at H
            have c70b0 : (t286 == t289) = true := beq_iff_eq.mpr c70
            have c70b1 : (t286 != t289) = false := bne_eq_false_iff_eq.mpr c70
            clear c70
            by_cases c71 : t287 = t290
            ·rw [if_pos c71] at H
             have c71b0 : (t287 == t290) = true := beq_iff_eq.mpr c71
             have c71b1 : (t287 != t290) = false := bne_eq_false_iff_eq.mpr c71
             clear c71
             by_cases c72 : (t293 != t295) = true
             ·rw [if_pos c72] at H
              exact absurd H (by simp)
             ·rw [if_neg c72] at H
              have c72b0 : (t293 != t295) = false := by simpa using c72
              (try (have c72b1 : decide (t293 = t295) = true := by simpa using c72))
              (try (have c72b2 : (t293 == t295) = true := by simpa using c72))
              clear c72
              by_cases c73 : t292 = t294
              ·rw [if_pos c73] at H
               have c73b0 : (t292 == t294) = true := beq_iff_eq.mpr c73
               have c73b1 : (t292 != t294) = false := bne_eq_false_iff_eq.mpr c73
               clear c73
               by_cases c74 : (t298 != t301) = true
               ·rw [if_pos c74] at H
                exact absurd H (by simp)
               ·rw [if_neg c74] at H
                have c74b0 : (t298 != t301) = false := by simpa using c74
                (try (have c74b1 : decide (t298 = t301) = true := by simpa using c74))
                (try (have c74b2 : (t298 == t301) = true := by simpa using c74))
                clear c74
                by_cases c75 : t296 = t299
                ·rw [if_pos c75] at H
                 have c75b0 : (t296 == t299) = true := beq_iff_eq.mpr c75
                 have c75b1 : (t296 != t299) = false := bne_eq_false_iff_eq.mpr c75
                 clear c75
                 by_cases c76 : t297 = t300
                 ·rw [if_pos c76] at H
                  have c76b0 : (t297 == t300) = true := beq_iff_eq.mpr c76
                  have c76b1 : (t297 != t300) = false := bne_eq_false_iff_eq.mpr c76
                  clear c76
                  by_cases c77 : (t298 != t293) = true
                  ·rw [if_pos c77] at H
                   exact absurd H (by simp)
                  ·rw [if_neg c77] at H
                   have c77b0 : (t298 != t293) = false := by simpa using c77
                   (try (have c77b1 : decide (t298 = t293) = true := by simpa using c77))
                   (try (have c77b2 : (t298 == t293) = true := by simpa using c77))
                   clear c77
                   by_cases c78 : (t303 != t307) = true
                   ·rw [if_pos c78] at H
                    exact absurd H (by simp)
                   ·rw [if_neg c78] at H
                    have c78b0 : (t303 != t307) = false := by simpa using c78
                    (try (have c78b1 : decide (t303 = t307) = true := by simpa using c78))
                    (try (have c78b2 : (t303 == t307) = true := by simpa using c78))
                    clear c78
                    replace H := Option.bind_eq_some_iff.mp H
                    obtain ⟨t310, A790, H⟩ := H
                    replace H : (if t310 = true then (if t298 = true then (laws_FnWalksMeanOfAll.j5 kj29 a2 a3 a4 a5 a6 a7 t286 t287 t288 t292 t296 t297 t298 t302 (!t303)) else (laws_FnWalksMeanOfAll.j5 kj29 a2 a3 a4 a5 a6 a7 t286 t287 t288 t292 t296 t297 t298 t302 false)) else (none)) = some r := H
                    have A79 := aM A790
                    clear A790
                    by_cases c80 : t310 = true
                    ·subst c80
                     have H1 : (if t298 = true then (laws_FnWalksMeanOfAll.j5 kj29 a2 a3 a4 a5 a6 a7 t286 t287 t288 t292 t296 t297 t298 t302 (!t303)) else (laws_FnWalksMeanOfAll.j5 kj29 a2 a3 a4 a5 a6 a7 t286 t287 t288 t292 t296 t297 t298 t302 false)) = some r := by rw [if_pos rfl] at H; exact H
                     clear H
                     have H := H1
                     clear H1
                     by_cases c81 : t298 = true
                     ·subst c81
                      have H1 : (laws_FnWalksMeanOfAll.j5 kj29 a2 a3 a4 a5 a6 a7 t286 t287 t288 t292 t296 t297 true t302 (!t303)) = some r := by rw [if_pos rfl] at H; exact H
                      clear H
                      have H := H1
                      clear H1
                      have H' := aM H
                      clear H
                      obtain ⟨Ao82, co82, eo82⟩ := Kd.R_slice HO305.out
                      subst eo82
                      obtain ⟨Ao83, co83, eo83⟩ := Kd.R_slice HO309.out
                      subst eo83
                      go_wp2_with (first | (go_at_call 57; (with_reducible refine (laws_yTexts.calls kj29 _ _ t302 _ _ t306 true _ ?side1 ?side2 ?side3 ?side4 A79.out).mono ?_); (case side1 => exact cU (Kd.R_reads' HO305.out).2.2); (case side2 => exact (Kd.R_reads' HO305.out).2.1); (case side3 => exact cU (Kd.R_reads' HO309.out).2.2); (case side4 => exact (Kd.R_reads' HO309.out).2.1); rintro e w' ⟨rfl, ⟨nd, rfl⟩⟩))
                      go_meet
                      case rel => exact ⟨_, (!t303), (by first | rfl | (simp; done) | (simp [*]; done)), H', ⟨by have := HJ8.out; have := HJ20.out; have := HJ29.out; first | omega | exact Nat.le_refl _⟩, ⟨by (with_reducible repeat (first | apply Kd.R_alloc | apply Kd.R_drewN | apply Kd.R_drew)); exact Kd.R_mono HO305.out (fun _ hk => trivial)⟩, ⟨by repeat (first | (with_reducible first | exact HB.out | apply aL | apply dN | apply dR) | exact HB.out)⟩⟩
                     ·replace c81 := Bool.eq_false_iff.mpr c81
                      subst c81
                      have H1 : (laws_FnWalksMeanOfAll.j5 kj29 a2 a3 a4 a5 a6 a7 t286 t287 t288 t292 t296 t297 false t302 false) = some r := by rw [if_neg (show ¬ (false = true) by decide)] at H; exact H
                      clear H
                      have H := H1
                      clear H1
                      have H' := aM H
                      clear H
                      obtain ⟨Ao84, co84, eo84⟩ := Kd.R_slice HO305.out
                      subst eo84
                      obtain ⟨Ao85, co85, eo85⟩ := Kd.R_slice HO309.out
                      subst eo85
                      go_wp2_with (first | (go_at_call 57; (with_reducible refine (laws_yTexts.calls kj29 _ _ t302 _ _ t306 true _ ?side1 ?side2 ?side3 ?side4 A79.out).mono ?_); (case side1 => exact cU (Kd.R_reads' HO305.out).2.2); (case side2 => exact (Kd.R_reads' HO305.out).2.1); (case side3 => exact cU (Kd.R_reads' HO309.out).2.2); (case side4 => exact (Kd.R_reads' HO309.out).2.1); rintro e w' ⟨rfl, ⟨nd, rfl⟩⟩))
                      go_meet
                      case rel => exact ⟨_, (false), (by first | rfl | (simp; done) | (simp [*]; done)), H', ⟨by have := HJ8.out; have := HJ20.out; have := HJ29.out; first | omega | exact Nat.le_refl _⟩, ⟨by (with_reducible repeat (first | apply Kd.R_alloc | apply Kd.R_drewN | apply Kd.R_drew)); exact Kd.R_mono HO305.out (fun _ hk => trivial)⟩, ⟨by repeat (first | (with_reducible first | exact HB.out | apply aL | apply dN | apply dR) | exact HB.out)⟩⟩
                    ·replace c80 := Bool.eq_false_iff.mpr c80
                     subst c80
                     have H1 : (none) = some r := by rw [if_neg (show ¬ (false = true) by decide)] at H; exact H
                     clear H
                     have H := H1
                     clear H1
                     exact absurd H (by simp)
                 ·rw [if_neg c76] at H
                  exact absurd H (by simp)
                ·rw [if_neg c75] at H
                 exact absurd H (by simp)
              ·rw [if_neg c73] at H
               exact absurd H (by simp)
            ·rw [if_neg c71] at H
             exact absurd H (by simp)
           ·rw [if_neg c70] at H
            exact absurd H (by simp)
         case rest => as_aux_lemma =>
          clear HC61
          try clear c1;try clear c2;try clear p2;try clear q2;try clear hx2;try clear c3;try clear c4;try clear c5;try clear c6;try clear p6;try clear c7;try clear c8;try clear c10;try clear c10b0;try clear c10b1;try clear c11;try clear c11b0;try clear c11b1;try clear c12;try clear c12b0;try clear c12b1;try clear c13;try clear c13b0;try clear c13b1;try clear c14;try clear c14b0;try clear c14b1;try clear c15;try clear c15b0;try clear c15b1;try clear c16;try clear c24;try clear c24b0;try clear c24b1;try clear c24b2;try clear c25;try clear c25b0;try clear c25b1;try clear c26;try clear c26b0;try clear c26b1;try clear c26b2;try clear c27;try clear c27b0;try clear c27b1;try clear c28;try clear p28;try clear q28;try clear hx28;try clear c29;try clear c31;try clear c35;try clear c36;try clear c36b0;try clear c37;try clear c38;try clear c38b0;try clear c38b1;try clear c42;try clear c42b0;try clear c43;try clear c43b0;try clear c44;try clear c44b0;try clear c45;try clear c46;try clear c47;try clear c48;try clear c49;try clear c50;try clear c51;try clear c52;try clear c52b0;try clear c52b1;try clear c53;try clear c54;try clear c55;try clear c56;try clear p64;try clear c69;try clear c69b0;try clear c69b1;try clear c69b2;try clear c70;try clear c70b0;try clear c70b1;try clear c71;try clear c71b0;try clear c71b1;try clear c72;try clear c72b0;try clear c72b1;try clear c72b2;try clear c73;try clear c73b0;try clear c73b1;try clear c74;try clear c74b0;try clear c74b1;try clear c74b2;try clear c75;try clear c75b0;try clear c75b1;try clear c76;try clear c76b0;try clear c76b1;try clear c77;try clear c77b0;try clear c77b1;try clear c77b2;try clear c78;try clear c78b0;try clear c78b1;try clear c78b2;try clear c80;try clear c81;try clear hx281_0;try clear p2;try clear p28;try clear p281;try clear p6;try clear q2;try clear q28;try clear q281
          obtain ⟨kq, x340_60, rfl, HA, HJ60, HO_52, HB⟩ := hcut
          cases kq with
          | zero => exact absurd HA.out (by simp [laws_FnWalksMeanOfAll.j5])
          | succ kj60 =>
           have H := HA.out
           clear HA
           simp only [laws_FnWalksMeanOfAll.j5] at H
           by_cases c86 : x340_60 = true
           ·subst c86
            have H1 : (none) = some r := by rw [if_pos rfl] at H; exact H
            clear H
            have H := H1
            clear H1
            exact absurd H (by simp)
           ·replace c86 := Bool.eq_false_iff.mpr c86
            subst c86
            have H1 : (if t288 = true then ((impl_ChanceBefore.f kj60 a2 a4 a3).bind fun bt311 => (if bt311.2.2 = true then (if (wrap64 ((wrap64 (t286 * bt311.2.1)) + (wrap64 (bt311.1 * t287)))) = (wrap64 (t287 * bt311.2.1)) then (if a2.toList = a3.toList then (if t286 = t287 then (if a2.toList = a4.toList then (if t286 = 0 then (laws_FnWalksMeanOfAll.j6 kj60 a5 a6 a7 t292 t296 t297 t298 t302) else (none)) else (laws_FnWalksMeanOfAll.j6 kj60 a5 a6 a7 t292 t296 t297 t298 t302)) else (none)) else (if a2.toList = a4.toList then (if t286 = 0 then (laws_FnWalksMeanOfAll.j6 kj60 a5 a6 a7 t292 t296 t297 t298 t302) else (none)) else (laws_FnWalksMeanOfAll.j6 kj60 a5 a6 a7 t292 t296 t297 t298 t302))) else (none)) else (none))) else (laws_FnWalksMeanOfAll.j6 kj60 a5 a6 a7 t292 t296 t297 t298 t302)) = some r := by rw [if_neg (show ¬ (false = true) by decide)] at H; exact H
            clear H
            have H := H1
            clear H1
            have HC87 := aM H
            clear H
            go_upto_if 341 with (fail)
            go_cut [] from 341 to 341 (fun wc => ∃ (kq : Nat), Aside0 (laws_FnWalksMeanOfAll.j6 kq a5 a6 a7 t292 t296 t297 t298 t302 = some r) ∧ Aside0 (kq ≤ kj60) ∧ Aside0 (Kd.R Kd.string 9 wc w.heap.size (fun _ => True) v304 t302) ∧ Aside0 (Below w.heap.size w wc))
            case first => as_aux_lemma =>
             have H := HC87.out
             clear HC87
             by_cases c88 : t288 = true
             ·subst c88
              have H1 : ((impl_ChanceBefore.f kj60 a2 a4 a3).bind fun bt311 => (if bt311.2.2 = true then (if (wrap64 ((wrap64 (t286 * bt311.2.1)) + (wrap64 (bt311.1 * t287)))) = (wrap64 (t287 * bt311.2.1)) then (if a2.toList = a3.toList then (if t286 = t287 then (if a2.toList = a4.toList then (if t286 = 0 then (laws_FnWalksMeanOfAll.j6 kj60 a5 a6 a7 t292 t296 t297 t298 t302) else (none)) else (laws_FnWalksMeanOfAll.j6 kj60 a5 a6 a7 t292 t296 t297 t298 t302)) else (none)) else (if a2.toList = a4.toList then (if t286 = 0 then (laws_FnWalksMeanOfAll.j6 kj60 a5 a6 a7 t292 t296 t297 t298 t302) else (none)) else (laws_FnWalksMeanOfAll.j6 kj60 a5 a6 a7 t292 t296 t297 t298 t302))) else (none)) else (none))) = some r := by rw [if_pos rfl] at H; exact H
              clear H
              have H := H1
              clear H1
              replace H := Option.bind_eq_some_iff.mp H
              obtain ⟨⟨t311, t312, t313⟩, A890, H⟩ := H
              replace H : (if t313 = true then (if (wrap64 ((wrap64 (t286 * t312)) + (wrap64 (t311 * t287)))) = (wrap64 (t287 * t312)) then (if a2.toList = a3.toList then (if t286 = t287 then (if a2.toList = a4.toList then (if t286 = 0 then (laws_FnWalksMeanOfAll.j6 kj60 a5 a6 a7 t292 t296 t297 t298 t302) else (none)) else (laws_FnWalksMeanOfAll.j6 kj60 a5 a6 a7 t292 t296 t297 t298 t302)) else (none)) else (if a2.toList = a4.toList then (if t286 = 0 then (laws_FnWalksMeanOfAll.j6 kj60 a5 a6 a7 t292 t296 t297 t298 t302) else (none)) else (laws_FnWalksMeanOfAll.j6 kj60 a5 a6 a7 t292 t296 t297 t298 t302))) else (none)) else (none)) = some r := H
              have A89 := aM A890
              clear A890
              by_cases c90 : t313 = true
              ·subst c90
               have H1 : (if (wrap64 ((wrap64 (t286 * t312)) + (wrap64 (t311 * t287)))) = (wrap64 (t287 * t312)) then (if a2.toList = a3.toList then (if t286 = t287 then (if a2.toList = a4.toList then (if t286 = 0 then (laws_FnWalksMeanOfAll.j6 kj60 a5 a6 a7 t292 t296 t297 t298 t302) else (none)) else (laws_FnWalksMeanOfAll.j6 kj60 a5 a6 a7 t292 t296 t297 t298 t302)) else (none)) else (if a2.toList = a4.toList then (if t286 = 0 then (laws_FnWalksMeanOfAll.j6 kj60 a5 a6 a7 t292 t296 t297 t298 t302) else (none)) else (laws_FnWalksMeanOfAll.j6 kj60 a5 a6 a7 t292 t296 t297 t298 t302))) else (none)) = some r := by rw [if_pos rfl] at H; exact H
               clear H
               have H := H1
               clear H1
               by_cases c91 : (wrap64 ((wrap64 (t286 * t312)) + (wrap64 (t311 * t287)))) = (wrap64 (t287 * t312))
               ·rw [if_pos c91] at H
                have c91b0 : ((wrap64 ((wrap64 (t286 * t312)) + (wrap64 (t311 * t287)))) == (wrap64 (t287 * t312))) = true := beq_iff_eq.mpr c91
                have c91b1 : ((wrap64 ((wrap64 (t286 * t312)) + (wrap64 (t311 * t287)))) != (wrap64 (t287 * t312))) = false := bne_eq_false_iff_eq.mpr c91
                clear c91
                (first | rw [c91b0] | (simp only [i64_w, i32_w]; rw [c91b0]) | skip)
                by_cases c92 : a2.toList = a3.toList
                ·rw [if_pos c92] at H
                 have c92b0 : (a2.toList == a3.toList) = true := beq_iff_eq.mpr c92
                 have c92b1 : (a2.toList != a3.toList) = false := bne_eq_false_iff_eq.mpr c92
                 clear c92
                 by_cases c93 : t286 = t287
                 ·rw [if_pos c93] at H
                  have c93b0 : (t286 == t287) = true := beq_iff_eq.mpr c93
                  have c93b1 : (t286 != t287) = false := bne_eq_false_iff_eq.mpr c93
                  clear c93
                  by_cases c94 : a2.toList = a4.toList
                  ·rw [if_pos c94] at H
                   have c94b0 : (a2.toList == a4.toList) = true := beq_iff_eq.mpr c94
                   have c94b1 : (a2.toList != a4.toList) = false := bne_eq_false_iff_eq.mpr c94
                   clear c94
                   by_cases c95 : t286 = 0
                   ·rw [if_pos c95] at H
                    have c95b0 : (t286 == 0) = true := beq_iff_eq.mpr c95
                    have c95b1 : (t286 != 0) = false := bne_eq_false_iff_eq.mpr c95
                    clear c95
                    have H' := aM H
                    clear H
                    go_wp2_with (first | ((with_reducible refine gate_callee (f := 49) rfl ?_); refine goesL_ (some 346) rfl rfl Tryd.func49 (by kernel_rfl) rfl #[.string a2, .string a4, .string a3] rfl (by (try simp only [List.map_toArray, List.map_cons, List.map_nil]); first | done | rfl | (simp only [List.length_drop, List.length_take]; rfl)) ?_; (with_reducible refine (impl_ChanceBefore.calls kj60 a2 a4 a3 t311 t312 true _ A89.out).mono ?_); rintro e w96 ⟨rfl, hb⟩; refine ⟨_, rfl, ?_⟩; have n0_ := aM (Kd.R_below (rU HO_52.out) hb); have n1_ := aM (below_step (by repeat (first | (with_reducible first | exact HB.out | apply aL | apply dN | apply dR) | exact HB.out)) hb); clear HO_52; clear HB; have HO_52 := n0_; have HB := n1_; clear n0_ n1_; (try clear hb); (try clear hb2); (try clear hk); (try clear hi)))
                    go_meet
                    case rel => exact ⟨_, H', ⟨by have := HJ8.out; have := HJ20.out; have := HJ29.out; have := HJ60.out; first | omega | exact Nat.le_refl _⟩, ⟨by (with_reducible repeat (first | apply Kd.R_alloc | apply Kd.R_drewN | apply Kd.R_drew)); exact HO_52.out⟩, ⟨by repeat (first | (with_reducible first | exact HB.out | apply aL | apply dN | apply dR) | exact HB.out)⟩⟩
                   ·rw [if_neg c95] at H
                    exact absurd H (by simp)
                  ·rw [if_neg c94] at H
                   have c94b0 : (a2.toList == a4.toList) = false := beq_eq_false_iff_ne.mpr c94
                   have c94b1 : (a2.toList != a4.toList) = true := bne_iff_ne.mpr c94
                   have H' := aM H
                   clear H
                   go_wp2_with (first | ((with_reducible refine gate_callee (f := 49) rfl ?_); refine goesL_ (some 346) rfl rfl Tryd.func49 (by kernel_rfl) rfl #[.string a2, .string a4, .string a3] rfl (by (try simp only [List.map_toArray, List.map_cons, List.map_nil]); first | done | rfl | (simp only [List.length_drop, List.length_take]; rfl)) ?_; (with_reducible refine (impl_ChanceBefore.calls kj60 a2 a4 a3 t311 t312 true _ A89.out).mono ?_); rintro e w97 ⟨rfl, hb⟩; refine ⟨_, rfl, ?_⟩; have n0_ := aM (Kd.R_below (rU HO_52.out) hb); have n1_ := aM (below_step (by repeat (first | (with_reducible first | exact HB.out | apply aL | apply dN | apply dR) | exact HB.out)) hb); clear HO_52; clear HB; have HO_52 := n0_; have HB := n1_; clear n0_ n1_; (try clear hb); (try clear hb2); (try clear hk); (try clear hi)))
                   go_meet
                   case rel => exact ⟨_, H', ⟨by have := HJ8.out; have := HJ20.out; have := HJ29.out; have := HJ60.out; first | omega | exact Nat.le_refl _⟩, ⟨by (with_reducible repeat (first | apply Kd.R_alloc | apply Kd.R_drewN | apply Kd.R_drew)); exact HO_52.out⟩, ⟨by repeat (first | (with_reducible first | exact HB.out | apply aL | apply dN | apply dR) | exact HB.out)⟩⟩
                 ·rw [if_neg c93] at H
                  exact absurd H (by simp)
                ·rw [if_neg c92] at H
                 have c92b0 : (a2.toList == a3.toList) = false := beq_eq_false_iff_ne.mpr c92
                 have c92b1 : (a2.toList != a3.toList) = true := bne_iff_ne.mpr c92
                 by_cases c98 : a2.toList = a4.toList
                 ·rw [if_pos c98] at H
                  have c98b0 : (a2.toList == a4.toList) = true := beq_iff_eq.mpr c98
                  have c98b1 : (a2.toList != a4.toList) = false := bne_eq_false_iff_eq.mpr c98
                  clear c98
                  by_cases c99 : t286 = 0
                  ·rw [if_pos c99] at H
                   have c99b0 : (t286 == 0) = true := beq_iff_eq.mpr c99
                   have c99b1 : (t286 != 0) = false := bne_eq_false_iff_eq.mpr c99
                   clear c99
                   have H' := aM H
                   clear H
                   go_wp2_with (first | ((with_reducible refine gate_callee (f := 49) rfl ?_); refine goesL_ (some 346) rfl rfl Tryd.func49 (by kernel_rfl) rfl #[.string a2, .string a4, .string a3] rfl (by (try simp only [List.map_toArray, List.map_cons, List.map_nil]); first | done | rfl | (simp only [List.length_drop, List.length_take]; rfl)) ?_; (with_reducible refine (impl_ChanceBefore.calls kj60 a2 a4 a3 t311 t312 true _ A89.out).mono ?_); rintro e w100 ⟨rfl, hb⟩; refine ⟨_, rfl, ?_⟩; have n0_ := aM (Kd.R_below (rU HO_52.out) hb); have n1_ := aM (below_step (by repeat (first | (with_reducible first | exact HB.out | apply aL | apply dN | apply dR) | exact HB.out)) hb); clear HO_52; clear HB; have HO_52 := n0_; have HB := n1_; clear n0_ n1_; (try clear hb); (try clear hb2); (try clear hk); (try clear hi)))
                   go_meet
                   case rel => exact ⟨_, H', ⟨by have := HJ8.out; have := HJ20.out; have := HJ29.out; have := HJ60.out; first | omega | exact Nat.le_refl _⟩, ⟨by (with_reducible repeat (first | apply Kd.R_alloc | apply Kd.R_drewN | apply Kd.R_drew)); exact HO_52.out⟩, ⟨by repeat (first | (with_reducible first | exact HB.out | apply aL | apply dN | apply dR) | exact HB.out)⟩⟩
                  ·rw [if_neg c99] at H
                   exact absurd H (by simp)
                 ·rw [if_neg c98] at H
                  have c98b0 : (a2.toList == a4.toList) = false := beq_eq_false_iff_ne.mpr c98
                  have c98b1 : (a2.toList != a4.toList) = true := bne_iff_ne.mpr c98
                  have H' := aM H
                  clear H
                  go_wp2_with (first | ((with_reducible refine gate_callee (f := 49) rfl ?_); refine goesL_ (some 346) rfl rfl Tryd.func49 (by kernel_rfl) rfl #[.string a2, .string a4, .string a3] rfl (by (try simp only [List.map_toArray, List.map_cons, List.map_nil]); first | done | rfl | (simp only [List.length_drop, List.length_take]; rfl)) ?_; (with_reducible refine (impl_ChanceBefore.calls kj60 a2 a4 a3 t311 t312 true _ A89.out).mono ?_); rintro e w101 ⟨rfl, hb⟩; refine ⟨_, rfl, ?_⟩; have n0_ := aM (Kd.R_below (rU HO_52.out) hb); have n1_ := aM (below_step (by repeat (first | (with_reducible first | exact HB.out | apply aL | apply dN | apply dR) | exact HB.out)) hb); clear HO_52; clear HB; have HO_52 := n0_; have HB := n1_; clear n0_ n1_; (try clear hb); (try clear hb2); (try clear hk); (try clear hi)))
                  go_meet
                  case rel => exact ⟨_, H', ⟨by have := HJ8.out; have := HJ20.out; have := HJ29.out; have := HJ60.out; first | omega | exact Nat.le_refl _⟩, ⟨by (with_reducible repeat (first | apply Kd.R_alloc | apply Kd.R_drewN | apply Kd.R_drew)); exact HO_52.out⟩, ⟨by repeat (first | (with_reducible first | exact HB.out | apply aL | apply dN | apply dR) | exact HB.out)⟩⟩
               ·rw [if_neg c91] at H
                exact absurd H (by simp)
              ·replace c90 := Bool.eq_false_iff.mpr c90
               subst c90
               have H1 : (none) = some r := by rw [if_neg (show ¬ (false = true) by decide)] at H; exact H
               clear H
               have H := H1
               clear H1
               exact absurd H (by simp)
             ·replace c88 := Bool.eq_false_iff.mpr c88
              subst c88
              have H1 : (laws_FnWalksMeanOfAll.j6 kj60 a5 a6 a7 t292 t296 t297 t298 t302) = some r := by rw [if_neg (show ¬ (false = true) by decide)] at H; exact H
              clear H
              have H := H1
              clear H1
              have H' := aM H
              clear H
              go_wp2
              go_meet
              case rel => exact ⟨_, H', ⟨by have := HJ8.out; have := HJ20.out; have := HJ29.out; have := HJ60.out; first | omega | exact Nat.le_refl _⟩, ⟨by (with_reducible repeat (first | apply Kd.R_alloc | apply Kd.R_drewN | apply Kd.R_drew)); exact HO_52.out⟩, ⟨by repeat (first | (with_reducible first | exact HB.out | apply aL | apply dN | apply dR) | exact HB.out)⟩⟩
            case rest => as_aux_lemma =>
             clear HC87
             try clear c1;try clear c2;try clear p2;try clear q2;try clear hx2;try clear c3;try clear c4;try clear c5;try clear c6;try clear p6;try clear c7;try clear c8;try clear c9;try clear c10;try clear c10b0;try clear c10b1;try clear c11;try clear c11b0;try clear c11b1;try clear c12;try clear c12b0;try clear c12b1;try clear c13;try clear c13b0;try clear c13b1;try clear c14;try clear c14b0;try clear c14b1;try clear c15;try clear c15b0;try clear c15b1;try clear c16;try clear c24;try clear c24b0;try clear c24b1;try clear c24b2;try clear c25;try clear c25b0;try clear c25b1;try clear c26;try clear c26b0;try clear c26b1;try clear c26b2;try clear c27;try clear c27b0;try clear c27b1;try clear c28;try clear p28;try clear q28;try clear hx28;try clear c29;try clear c31;try clear c35;try clear c36;try clear c36b0;try clear c37;try clear c38;try clear c38b0;try clear c38b1;try clear c42;try clear c42b0;try clear c43;try clear c43b0;try clear c44;try clear c44b0;try clear c45;try clear c46;try clear c47;try clear c48;try clear c49;try clear c50;try clear c51;try clear c52;try clear c52b0;try clear c52b1;try clear c53;try clear c54;try clear c55;try clear c56;try clear p64;try clear c69;try clear c69b0;try clear c69b1;try clear c69b2;try clear c70;try clear c70b0;try clear c70b1;try clear c71;try clear c71b0;try clear c71b1;try clear c72;try clear c72b0;try clear c72b1;try clear c72b2;try clear c73;try clear c73b0;try clear c73b1;try clear c74;try clear c74b0;try clear c74b1;try clear c74b2;try clear c75;try clear c75b0;try clear c75b1;try clear c76;try clear c76b0;try clear c76b1;try clear c77;try clear c77b0;try clear c77b1;try clear c77b2;try clear c78;try clear c78b0;try clear c78b1;try clear c78b2;try clear c80;try clear c81;try clear c86;try clear c88;try clear c90;try clear c91;try clear c91b0;try clear c91b1;try clear c92;try clear c92b0;try clear c92b1;try clear c93;try clear c93b0;try clear c93b1;try clear c94;try clear c94b0;try clear c94b1;try clear c95;try clear c95b0;try clear c95b1;try clear c98;try clear c98b0;try clear c98b1;try clear c99;try clear c99b0;try clear c99b1;try clear hx281_0;try clear p2;try clear p28;try clear p281;try clear p6;try clear p64;try clear q2;try clear q28;try clear q281
             obtain ⟨kq, HA, HJ86, HO_52, HB⟩ := hcut
             cases kq with
             | zero => exact absurd HA.out (by simp [laws_FnWalksMeanOfAll.j6])
             | succ kj86 =>
              have H := HA.out
              clear HA
              simp only [laws_FnWalksMeanOfAll.j6] at H
              by_cases c102 : t298 = true
              ·subst c102
               have H1 : (if ((decide (t292 > 0)) != (decide (t296 > 0))) = true then (none) else (if t296 < 0 then (none) else (if t296 > t297 then (none) else (if a7 = 0 then (laws_FnWalksMeanOfAll.j7 kj86 a5 a6 a7 t292 t296 t297 t302 ((t296 == 1) != (a5.toList == a6.toList))) else (laws_FnWalksMeanOfAll.j7 kj86 a5 a6 a7 t292 t296 t297 t302 false))))) = some r := by rw [if_pos rfl] at H; exact H
               clear H
               have H := H1
               clear H1
               have HC103 := aM H
               clear H
               go_upto_region 42 with (fail)
               go_cut [410] from 384 to 410 (fun v410 wc => ∃ (kq : Nat) (x410_102 : Bool), v410 = .bool x410_102 ∧ Aside0 (laws_FnWalksMeanOfAll.j7 kq a5 a6 a7 t292 t296 t297 t302 x410_102 = some r) ∧ Aside0 (kq ≤ kj86) ∧ Aside0 (Kd.R Kd.string 9 wc w.heap.size (fun _ => True) v304 t302) ∧ Aside0 (Below w.heap.size w wc))
               case first => as_aux_lemma =>
                have H := HC103.out
                clear HC103
                by_cases c104 : ((decide (t292 > 0)) != (decide (t296 > 0))) = true
                ·rw [if_pos c104] at H
                 exact absurd H (by simp)
                ·rw [if_neg c104] at H
                 have c104b0 : ((decide (t292 > 0)) != (decide (t296 > 0))) = false := by simpa using c104
                 (try (have c104b1 : decide ((decide (t292 > 0)) = (decide (t296 > 0))) = true := by simpa using c104))
                 (try (have c104b2 : ((decide (t292 > 0)) == (decide (t296 > 0))) = true := by simpa using c104))
                 clear c104
                 (first | rw [c104b0] | (simp only [i64_w, i32_w]; rw [c104b0]) | skip)
                 by_cases c105 : t296 < 0
                 ·rw [if_pos c105] at H
                  exact absurd H (by simp)
                 ·rw [if_neg c105] at H
                  have c105b0 : decide (t296 < 0) = false := decide_eq_false c105
                  clear c105
                  by_cases c106 : t296 > t297
                  ·rw [if_pos c106] at H
                   exact absurd H (by simp)
                  ·rw [if_neg c106] at H
                   have c106b0 : decide (t297 < t296) = false := decide_eq_false c106
                   clear c106
                   by_cases c107 : a7 = 0
                   ·rw [if_pos c107] at H
                    have c107b0 : (a7 == 0) = true := beq_iff_eq.mpr c107
                    have c107b1 : (a7 != 0) = false := bne_eq_false_iff_eq.mpr c107
                    clear c107
                    have H' := aM H
                    clear H
                    go_wp2
                    go_meet
                    case rel => exact ⟨_, (((t296 == 1) != (a5.toList == a6.toList))), (by first | rfl | (simp; done) | (simp [*]; done)), H', ⟨by have := HJ8.out; have := HJ20.out; have := HJ29.out; have := HJ60.out; have := HJ86.out; first | omega | exact Nat.le_refl _⟩, ⟨by (with_reducible repeat (first | apply Kd.R_alloc | apply Kd.R_drewN | apply Kd.R_drew)); exact HO_52.out⟩, ⟨by repeat (first | (with_reducible first | exact HB.out | apply aL | apply dN | apply dR) | exact HB.out)⟩⟩
                   ·rw [if_neg c107] at H
                    have c107b0 : (a7 == 0) = false := beq_eq_false_iff_ne.mpr c107
                    have c107b1 : (a7 != 0) = true := bne_iff_ne.mpr c107
                    have H' := aM H
                    clear H
                    go_wp2
                    go_meet
                    case rel => exact ⟨_, (false), (by first | rfl | (simp; done) | (simp [*]; done)), H', ⟨by have := HJ8.out; have := HJ20.out; have := HJ29.out; have := HJ60.out; have := HJ86.out; first | omega | exact Nat.le_refl _⟩, ⟨by (with_reducible repeat (first | apply Kd.R_alloc | apply Kd.R_drewN | apply Kd.R_drew)); exact HO_52.out⟩, ⟨by repeat (first | (with_reducible first | exact HB.out | apply aL | apply dN | apply dR) | exact HB.out)⟩⟩
               case rest => as_aux_lemma =>
                clear HC103
                try clear c1;try clear c2;try clear p2;try clear q2;try clear hx2;try clear c3;try clear c4;try clear c5;try clear c6;try clear p6;try clear c7;try clear c8;try clear c9;try clear c10;try clear c10b0;try clear c10b1;try clear c11;try clear c11b0;try clear c11b1;try clear c12;try clear c12b0;try clear c12b1;try clear c13;try clear c13b0;try clear c13b1;try clear c14;try clear c14b0;try clear c14b1;try clear c15;try clear c15b0;try clear c15b1;try clear c16;try clear c24;try clear c24b0;try clear c24b1;try clear c24b2;try clear c25;try clear c25b0;try clear c25b1;try clear c26;try clear c26b0;try clear c26b1;try clear c26b2;try clear c27;try clear c27b0;try clear c27b1;try clear c28;try clear p28;try clear q28;try clear hx28;try clear c29;try clear c31;try clear c35;try clear c36;try clear c36b0;try clear c37;try clear c38;try clear c38b0;try clear c38b1;try clear c42;try clear c42b0;try clear c43;try clear c43b0;try clear c44;try clear c44b0;try clear c45;try clear c46;try clear c47;try clear c48;try clear c49;try clear c50;try clear c51;try clear c52;try clear c52b0;try clear c52b1;try clear c53;try clear c54;try clear c55;try clear c56;try clear p64;try clear c69;try clear c69b0;try clear c69b1;try clear c69b2;try clear c70;try clear c70b0;try clear c70b1;try clear c71;try clear c71b0;try clear c71b1;try clear c72;try clear c72b0;try clear c72b1;try clear c72b2;try clear c73;try clear c73b0;try clear c73b1;try clear c74;try clear c74b0;try clear c74b1;try clear c74b2;try clear c75;try clear c75b0;try clear c75b1;try clear c76;try clear c76b0;try clear c76b1;try clear c77;try clear c77b0;try clear c77b1;try clear c77b2;try clear c78;try clear c78b0;try clear c78b1;try clear c78b2;try clear c80;try clear c81;try clear c86;try clear c88;try clear c90;try clear c91;try clear c91b0;try clear c91b1;try clear c92;try clear c92b0;try clear c92b1;try clear c93;try clear c93b0;try clear c93b1;try clear c94;try clear c94b0;try clear c94b1;try clear c95;try clear c95b0;try clear c95b1;try clear c98;try clear c98b0;try clear c98b1;try clear c99;try clear c99b0;try clear c99b1;try clear c102;try clear c104;try clear c104b0;try clear c104b1;try clear c104b2;try clear c105;try clear c105b0;try clear c106;try clear c106b0;try clear c107;try clear c107b0;try clear c107b1;try clear hx281_0;try clear p2;try clear p28;try clear p281;try clear p6;try clear p64;try clear q2;try clear q28;try clear q281
                obtain ⟨kq, x410_102, rfl, HA, HJ102, HO_52, HB⟩ := hcut
                cases kq with
                | zero => exact absurd HA.out (by simp [laws_FnWalksMeanOfAll.j7])
                | succ kj102 =>
                 have H := HA.out
                 clear HA
                 simp only [laws_FnWalksMeanOfAll.j7] at H
                 by_cases c108 : x410_102 = true
                 ·subst c108
                  have H1 : (none) = some r := by rw [if_pos rfl] at H; exact H
                  clear H
                  have H := H1
                  clear H1
                  exact absurd H (by simp)
                 ·replace c108 := Bool.eq_false_iff.mpr c108
                  subst c108
                  have H1 : ((impl_WalksTo.f kj102 a6 a5 a7).bind fun bt314 => (if bt314.2 = true then (laws_FnWalksMeanOfAll.j8 kj102 a5 a6 a7 t292 t296 t297 t302 (bt314.1 != t292)) else (none))) = some r := by rw [if_neg (show ¬ (false = true) by decide)] at H; exact H
                  clear H
                  have H := H1
                  clear H1
                  replace H := Option.bind_eq_some_iff.mp H
                  obtain ⟨⟨t314, t315⟩, A1090, H⟩ := H
                  replace H : (if t315 = true then (laws_FnWalksMeanOfAll.j8 kj102 a5 a6 a7 t292 t296 t297 t302 (t314 != t292)) else (none)) = some r := H
                  have A109 := aM A1090
                  clear A1090
                  have HC110 := aM H
                  clear H
                  go_upto_region 45 with (first | ((with_reducible refine gate_callee (f := 51) rfl ?_); refine goesL_ (some 415) rfl rfl Tryd.func51 (by kernel_rfl) rfl #[.string a6, .string a5, .int .i64 a7] rfl (by (try simp only [List.map_toArray, List.map_cons, List.map_nil]); first | done | rfl | (simp only [List.length_drop, List.length_take]; rfl)) ?_; (with_reducible refine (impl_WalksTo.calls kj102 a6 a5 a7 t314 t315 _ A109.out).mono ?_); rintro e w111 ⟨rfl, hb⟩; refine ⟨_, rfl, ?_⟩; have n0_ := aM (Kd.R_below (rU HO_52.out) hb); have n1_ := aM (below_step (by repeat (first | (with_reducible first | exact HB.out | apply aL | apply dN | apply dR) | exact HB.out)) hb); clear HO_52; clear HB; have HO_52 := n0_; have HB := n1_; clear n0_ n1_; (try clear hb); (try clear hb2); (try clear hk); (try clear hi)))
                  (try simp only [Act.put, List.setIfInBounds_toArray, List.set_cons_zero, List.set_cons_succ])
                  go_cut [424] from 411 to 424 (fun v424 wc => ∃ (kq : Nat) (x424_109 : Bool), v424 = .bool x424_109 ∧ Aside0 (laws_FnWalksMeanOfAll.j8 kq a5 a6 a7 t292 t296 t297 t302 x424_109 = some r) ∧ Aside0 (kq ≤ kj102) ∧ Aside0 (Kd.R Kd.string 9 wc w.heap.size (fun _ => True) v304 t302) ∧ Aside0 (Below w.heap.size w wc))
                  case first => as_aux_lemma =>
                   have H := HC110.out
                   clear HC110
                   by_cases c112 : t315 = true
                   ·subst c112
                    have H1 : (laws_FnWalksMeanOfAll.j8 kj102 a5 a6 a7 t292 t296 t297 t302 (t314 != t292)) = some r := by rw [if_pos rfl] at H; exact H
                    clear H
                    have H := H1
                    clear H1
                    have H' := aM H
                    clear H
                    go_wp2
                    go_meet
                    case rel => exact ⟨_, ((t314 != t292)), (by first | rfl | (simp; done) | (simp [*]; done)), H', ⟨by have := HJ8.out; have := HJ20.out; have := HJ29.out; have := HJ60.out; have := HJ86.out; have := HJ102.out; first | omega | exact Nat.le_refl _⟩, ⟨by (with_reducible repeat (first | apply Kd.R_alloc | apply Kd.R_drewN | apply Kd.R_drew)); exact HO_52.out⟩, ⟨by repeat (first | (with_reducible first | exact HB.out | apply aL | apply dN | apply dR) | exact HB.out)⟩⟩
                   ·replace c112 := Bool.eq_false_iff.mpr c112
                    subst c112
                    have H1 : (none) = some r := by rw [if_neg (show ¬ (false = true) by decide)] at H; exact H
                    clear H
                    have H := H1
                    clear H1
                    exact absurd H (by simp)
                  case rest => as_aux_lemma =>
                   clear HC110
                   try clear c1;try clear c2;try clear p2;try clear q2;try clear hx2;try clear c3;try clear c4;try clear c5;try clear c6;try clear p6;try clear c7;try clear c8;try clear c9;try clear c10;try clear c10b0;try clear c10b1;try clear c11;try clear c11b0;try clear c11b1;try clear c12;try clear c12b0;try clear c12b1;try clear c13;try clear c13b0;try clear c13b1;try clear c14;try clear c14b0;try clear c14b1;try clear c15;try clear c15b0;try clear c15b1;try clear c16;try clear c24;try clear c24b0;try clear c24b1;try clear c24b2;try clear c25;try clear c25b0;try clear c25b1;try clear c26;try clear c26b0;try clear c26b1;try clear c26b2;try clear c27;try clear c27b0;try clear c27b1;try clear c28;try clear p28;try clear q28;try clear hx28;try clear c29;try clear c31;try clear c35;try clear c36;try clear c36b0;try clear c37;try clear c38;try clear c38b0;try clear c38b1;try clear c42;try clear c42b0;try clear c43;try clear c43b0;try clear c44;try clear c44b0;try clear c45;try clear c46;try clear c47;try clear c48;try clear c49;try clear c50;try clear c51;try clear c52;try clear c52b0;try clear c52b1;try clear c53;try clear c54;try clear c55;try clear c56;try clear p64;try clear c69;try clear c69b0;try clear c69b1;try clear c69b2;try clear c70;try clear c70b0;try clear c70b1;try clear c71;try clear c71b0;try clear c71b1;try clear c72;try clear c72b0;try clear c72b1;try clear c72b2;try clear c73;try clear c73b0;try clear c73b1;try clear c74;try clear c74b0;try clear c74b1;try clear c74b2;try clear c75;try clear c75b0;try clear c75b1;try clear c76;try clear c76b0;try clear c76b1;try clear c77;try clear c77b0;try clear c77b1;try clear c77b2;try clear c78;try clear c78b0;try clear c78b1;try clear c78b2;try clear c80;try clear c81;try clear c86;try clear c88;try clear c90;try clear c91;try clear c91b0;try clear c91b1;try clear c92;try clear c92b0;try clear c92b1;try clear c93;try clear c93b0;try clear c93b1;try clear c94;try clear c94b0;try clear c94b1;try clear c95;try clear c95b0;try clear c95b1;try clear c98;try clear c98b0;try clear c98b1;try clear c99;try clear c99b0;try clear c99b1;try clear c102;try clear c104;try clear c104b0;try clear c104b1;try clear c104b2;try clear c105;try clear c105b0;try clear c106;try clear c106b0;try clear c107;try clear c107b0;try clear c107b1;try clear c108;try clear c112;try clear hx281_0;try clear p2;try clear p28;try clear p281;try clear p6;try clear p64;try clear q2;try clear q28;try clear q281
                   obtain ⟨kq, x424_109, rfl, HA, HJ109, HO_52, HB⟩ := hcut
                   cases kq with
                   | zero => exact absurd HA.out (by simp [laws_FnWalksMeanOfAll.j8])
                   | succ kj109 =>
                    have H := HA.out
                    clear HA
                    simp only [laws_FnWalksMeanOfAll.j8] at H
                    by_cases c113 : x424_109 = true
                    ·subst c113
                     have H1 : (none) = some r := by rw [if_pos rfl] at H; exact H
                     clear H
                     have H := H1
                     clear H1
                     exact absurd H (by simp)
                    ·replace c113 := Bool.eq_false_iff.mpr c113
                     subst c113
                     have H1 : (if (t302.length : Int) < 1 then (none) else (if 0 < (t302.length : Int) then ((impl_ChanceAfter.f kj109 a5 (rdOf ByteArray.empty t302 0) a7).bind fun bt317 => (if bt317.2.2 = true then (if a7 ≤ 20 then (laws_FnWalksMeanOfAll.j9 kj109 a5 a6 a7 t292 (decide ((wrap64 (bt317.1 * t297)) < (wrap64 (t296 * bt317.2.1))))) else (laws_FnWalksMeanOfAll.j9 kj109 a5 a6 a7 t292 false)) else (none))) else (none))) = some r := by rw [if_neg (show ¬ (false = true) by decide)] at H; exact H
                     clear H
                     have H := H1
                     clear H1
                     by_cases c114 : (t302.length : Int) < 1
                     ·rw [if_pos c114] at H
                      exact absurd H (by simp)
                     ·rw [if_neg c114] at H
                      have c114b0 : decide ((t302.length : Int) < 1) = false := decide_eq_false c114
                      have c114b1 : decide (t302.length < 1) = false := decide_eq_false (by omega)
                      clear c114
                      by_cases c115 : 0 < (t302.length : Int)
                      ·rw [if_pos c115] at H
                       have c115b0 : decide (0 < (t302.length : Int)) = true := decide_eq_true c115
                       have c115b1 : decide (0 < t302.length) = true := decide_eq_true (by omega)
                       clear c115
                       replace H := Option.bind_eq_some_iff.mp H
                       obtain ⟨⟨t317, t318, t319⟩, A1160, H⟩ := H
                       replace H : (if t319 = true then (if a7 ≤ 20 then (laws_FnWalksMeanOfAll.j9 kj109 a5 a6 a7 t292 (decide ((wrap64 (t317 * t297)) < (wrap64 (t296 * t318))))) else (laws_FnWalksMeanOfAll.j9 kj109 a5 a6 a7 t292 false)) else (none)) = some r := H
                       have A116 := aM A1160
                       clear A1160
                       have HC117 := aM H
                       clear H
                       obtain ⟨Ao118, co118, eo118⟩ := Kd.R_slice HO_52.out
                       subst eo118
                       have p316 : 0 ≤ (0 : Int) := (by omega)
                       have q316 : 0 < (t302.length : Int) := of_decide_eq_true (by first | (with_reducible assumption) | assumption)
                       obtain ⟨ad316, e316, hx316_0⟩ := Kd.at_string (Kd.R_reads' HO_52.out).2.2 0 p316 q316
                       cases e316
                       have qi316 : (0 < t302.length) = True := eq_true (by omega)
                       (try rw [show ((0 : Int)).toNat = 0 from rfl] at hx316_0)
                       (try rw [Addr.add_zero'] at hx316_0)
                       replace p316 := eq_true p316
                       replace q316 := eq_true q316
                       go_upto_region 50 with (first | ((with_reducible refine gate_callee (f := 53) rfl ?_); refine goesL_ (some 434) rfl rfl Tryd.func53 (by kernel_rfl) rfl #[.string a5, .string (rdOf ByteArray.empty t302 0), .int .i64 a7] rfl (by (try simp only [List.map_toArray, List.map_cons, List.map_nil]); first | done | rfl | (simp only [List.length_drop, List.length_take]; rfl)) ?_; (with_reducible refine (impl_ChanceAfter.calls kj109 a5 (rdOf ByteArray.empty t302 0) a7 t317 t318 t319 _ A116.out).mono ?_); rintro e w119 ⟨rfl, hb⟩; refine ⟨_, rfl, ?_⟩; have n0_ := aM (Kd.R_below (rU HO_52.out) hb); have n1_ := aM (below_step (by repeat (first | (with_reducible first | exact HB.out | apply aL | apply dN | apply dR) | exact HB.out)) hb); clear HO_52; clear HB; have HO_52 := n0_; have HB := n1_; clear n0_ n1_; (try clear hb); (try clear hb2); (try clear hk); (try clear hi)))
                       (try simp only [Act.put, List.setIfInBounds_toArray, List.set_cons_zero, List.set_cons_succ])
                       go_cut [452] from 425 to 452 (fun v452 wc => ∃ (kq : Nat) (x452_116 : Bool), v452 = .bool x452_116 ∧ Aside0 (laws_FnWalksMeanOfAll.j9 kq a5 a6 a7 t292 x452_116 = some r) ∧ Aside0 (kq ≤ kj109) ∧ Aside0 (Below w.heap.size w wc))
                       case first => as_aux_lemma =>
                        have H := HC117.out
                        clear HC117
                        by_cases c120 : t319 = true
                        ·subst c120
                         have H1 : (if a7 ≤ 20 then (laws_FnWalksMeanOfAll.j9 kj109 a5 a6 a7 t292 (decide ((wrap64 (t317 * t297)) < (wrap64 (t296 * t318))))) else (laws_FnWalksMeanOfAll.j9 kj109 a5 a6 a7 t292 false)) = some r := by rw [if_pos rfl] at H; exact H
                         clear H
                         have H := H1
                         clear H1
                         by_cases c121 : a7 ≤ 20
                         ·rw [if_pos c121] at H
                          have c121b0 : decide (a7 ≤ 20) = true := decide_eq_true c121
                          clear c121
                          (first | rw [c121b0] | (simp only [i64_w, i32_w]; rw [c121b0]) | skip)
                          have H' := aM H
                          clear H
                          go_wp2
                          go_meet
                          case rel => exact ⟨_, (decide ((wrap64 (t317 * t297)) < (wrap64 (t296 * t318)))), (by first | rfl | (simp; done) | (simp [*]; done)), H', ⟨by have := HJ8.out; have := HJ20.out; have := HJ29.out; have := HJ60.out; have := HJ86.out; have := HJ102.out; have := HJ109.out; first | omega | exact Nat.le_refl _⟩, ⟨by repeat (first | (with_reducible first | exact HB.out | apply aL | apply dN | apply dR) | exact HB.out)⟩⟩
                         ·rw [if_neg c121] at H
                          have c121b0 : decide (a7 ≤ 20) = false := decide_eq_false c121
                          clear c121
                          (first | rw [c121b0] | (simp only [i64_w, i32_w]; rw [c121b0]) | skip)
                          have H' := aM H
                          clear H
                          go_wp2
                          go_meet
                          case rel => exact ⟨_, (false), (by first | rfl | (simp; done) | (simp [*]; done)), H', ⟨by have := HJ8.out; have := HJ20.out; have := HJ29.out; have := HJ60.out; have := HJ86.out; have := HJ102.out; have := HJ109.out; first | omega | exact Nat.le_refl _⟩, ⟨by repeat (first | (with_reducible first | exact HB.out | apply aL | apply dN | apply dR) | exact HB.out)⟩⟩
                        ·replace c120 := Bool.eq_false_iff.mpr c120
                         subst c120
                         have H1 : (none) = some r := by rw [if_neg (show ¬ (false = true) by decide)] at H; exact H
                         clear H
                         have H := H1
                         clear H1
                         exact absurd H (by simp)
                       case rest => as_aux_lemma =>
                        clear HC117
                        try clear c1;try clear c2;try clear p2;try clear q2;try clear hx2;try clear c3;try clear p3;try clear q3;try clear hx3;try clear qi3;try clear c4;try clear c5;try clear c6;try clear p6;try clear c7;try clear c8;try clear c9;try clear c10;try clear c10b0;try clear c10b1;try clear c11;try clear c11b0;try clear c11b1;try clear c12;try clear c12b0;try clear c12b1;try clear c13;try clear c13b0;try clear c13b1;try clear c14;try clear c14b0;try clear c14b1;try clear c15;try clear c15b0;try clear c15b1;try clear c16;try clear c24;try clear c24b0;try clear c24b1;try clear c24b2;try clear c25;try clear c25b0;try clear c25b1;try clear c26;try clear c26b0;try clear c26b1;try clear c26b2;try clear c27;try clear c27b0;try clear c27b1;try clear c28;try clear p28;try clear q28;try clear hx28;try clear c29;try clear c31;try clear p31;try clear q31;try clear hx31;try clear qi31;try clear c35;try clear c36;try clear c36b0;try clear c37;try clear c38;try clear c38b0;try clear c38b1;try clear c42;try clear c42b0;try clear c43;try clear c43b0;try clear c44;try clear c44b0;try clear c45;try clear c46;try clear c47;try clear c48;try clear c49;try clear c50;try clear c51;try clear c52;try clear c52b0;try clear c52b1;try clear c53;try clear c54;try clear c55;try clear c56;try clear p64;try clear c69;try clear c69b0;try clear c69b1;try clear c69b2;try clear c70;try clear c70b0;try clear c70b1;try clear c71;try clear c71b0;try clear c71b1;try clear c72;try clear c72b0;try clear c72b1;try clear c72b2;try clear c73;try clear c73b0;try clear c73b1;try clear c74;try clear c74b0;try clear c74b1;try clear c74b2;try clear c75;try clear c75b0;try clear c75b1;try clear c76;try clear c76b0;try clear c76b1;try clear c77;try clear c77b0;try clear c77b1;try clear c77b2;try clear c78;try clear c78b0;try clear c78b1;try clear c78b2;try clear c80;try clear c81;try clear c86;try clear c88;try clear c90;try clear c91;try clear c91b0;try clear c91b1;try clear c92;try clear c92b0;try clear c92b1;try clear c93;try clear c93b0;try clear c93b1;try clear c94;try clear c94b0;try clear c94b1;try clear c95;try clear c95b0;try clear c95b1;try clear c98;try clear c98b0;try clear c98b1;try clear c99;try clear c99b0;try clear c99b1;try clear c102;try clear c104;try clear c104b0;try clear c104b1;try clear c104b2;try clear c105;try clear c105b0;try clear c106;try clear c106b0;try clear c107;try clear c107b0;try clear c107b1;try clear c108;try clear c112;try clear c113;try clear c114;try clear c114b0;try clear c114b1;try clear c115;try clear c115b0;try clear c115b1;try clear c120;try clear c121;try clear c121b0;try clear hx281_0;try clear hx316_0;try clear p2;try clear p28;try clear p281;try clear p316;try clear p6;try clear p64;try clear q2;try clear q28;try clear q281;try clear q316
                        obtain ⟨kq, x452_116, rfl, HA, HJ116, HB⟩ := hcut
                        cases kq with
                        | zero => exact absurd HA.out (by simp [laws_FnWalksMeanOfAll.j9])
                        | succ kj116 =>
                         have H := HA.out
                         clear HA
                         simp only [laws_FnWalksMeanOfAll.j9] at H
                         by_cases c122 : x452_116 = true
                         ·subst c122
                          have H1 : (none) = some r := by rw [if_pos rfl] at H; exact H
                          clear H
                          have H := H1
                          clear H1
                          exact absurd H (by simp)
                         ·replace c122 := Bool.eq_false_iff.mpr c122
                          subst c122
                          have H1 : (if a7 > 0 then ((impl_MovesOf.f kj116 a5).bind fun bt320 => (laws_FnWalksMeanOfAll.l1 kj116 a5 a6 a7 t292 bt320.2 0 bt320.1 (bt320.1.length : Int) 0)) else (some true)) = some r := by rw [if_neg (show ¬ (false = true) by decide)] at H; exact H
                          clear H
                          have H := H1
                          clear H1
                          by_cases c123 : a7 > 0
                          ·rw [if_pos c123] at H
                           have c123b0 : decide (0 < a7) = true := decide_eq_true c123
                           clear c123
                           replace H := Option.bind_eq_some_iff.mp H
                           obtain ⟨⟨t320, t321⟩, A1240, H⟩ := H
                           replace H : (laws_FnWalksMeanOfAll.l1 kj116 a5 a6 a7 t292 t321 0 t320 (t320.length : Int) 0) = some r := H
                           have A124 := aM A1240
                           clear A1240
                           have H' := aM H
                           clear H
                           go_wp2_with (first | ((with_reducible refine gate_callee (f := 47) rfl ?_); refine goesL_ (some 457) rfl rfl Tryd.func47 (by kernel_rfl) rfl #[.string a5] rfl (by (try simp only [List.map_toArray, List.map_cons, List.map_nil]); first | done | rfl | (simp only [List.length_drop, List.length_take]; rfl)) ?_; (with_reducible refine (impl_MovesOf.calls kj116 a5 t320 t321 _ A124.out).mono ?_); rintro e w125 ⟨v322, rfl, ho0, hb⟩; refine ⟨_, rfl, ?_⟩; have n0_ := aM (Kd.R_lower ho0 (below_size (by repeat (first | (with_reducible first | exact HB.out | apply aL | apply dN | apply dR) | exact HB.out)))); have n1_ := aM (below_step (by repeat (first | (with_reducible first | exact HB.out | apply aL | apply dN | apply dR) | exact HB.out)) hb); clear HB; have HO323 := n0_; have HB := n1_; clear n0_ n1_; (try clear hb); (try clear hb2); (try clear hk); (try clear hi); (try clear ho0); obtain ⟨Ao126, co126, eo126⟩ := Kd.R_slice HO323.out; subst eo126))
                           go_loopg [66, 462] kj116 (fun kq v66 v462 w' => ∃ (x66_9 : Int) (x462_9 : Int), v66 = .int .i64 x66_9 ∧ v462 = .int .i64 x462_9 ∧ Aside0 (laws_FnWalksMeanOfAll.l1 kq a5 a6 a7 t292 t321 x66_9 t320 (t320.length : Int) x462_9 = some r) ∧ Aside0 (kq ≤ kj116) ∧ Aside0 (Kd.R (Kd.int .i64) 3 w' w.heap.size (fun _ => True) (.slice Ao126 t320.length co126) t320) ∧ Aside0 (Below w.heap.size w w'))
                           case atStart => exact ⟨(0), (0), (by first | rfl | (simp; done) | (simp [*]; done)), (by first | rfl | (simp; done) | (simp [*]; done)), H', ⟨Nat.le_refl _⟩, ⟨by (with_reducible repeat (first | apply Kd.R_alloc | apply Kd.R_drewN | apply Kd.R_drew)); exact HO323.out⟩, ⟨by repeat (first | (with_reducible first | exact HB.out | apply aL | apply dN | apply dR) | exact HB.out)⟩⟩
                           case round => as_aux_lemma =>
                            clear H'
                            try clear c1;try clear c2;try clear p2;try clear q2;try clear hx2;try clear c3;try clear p3;try clear q3;try clear hx3;try clear qi3;try clear c4;try clear c5;try clear c6;try clear p6;try clear c7;try clear c8;try clear c9;try clear c10;try clear c10b0;try clear c10b1;try clear c11;try clear c11b0;try clear c11b1;try clear c12;try clear c12b0;try clear c12b1;try clear c13;try clear c13b0;try clear c13b1;try clear c14;try clear c14b0;try clear c14b1;try clear c15;try clear c15b0;try clear c15b1;try clear c16;try clear c24;try clear c24b0;try clear c24b1;try clear c24b2;try clear c25;try clear c25b0;try clear c25b1;try clear c26;try clear c26b0;try clear c26b1;try clear c26b2;try clear c27;try clear c27b0;try clear c27b1;try clear c28;try clear p28;try clear q28;try clear hx28;try clear c29;try clear c31;try clear p31;try clear q31;try clear hx31;try clear qi31;try clear c35;try clear c36;try clear c36b0;try clear c37;try clear c38;try clear c38b0;try clear c38b1;try clear c42;try clear c42b0;try clear c43;try clear c43b0;try clear c44;try clear c44b0;try clear c45;try clear c46;try clear c47;try clear c48;try clear c49;try clear c50;try clear c51;try clear c52;try clear c52b0;try clear c52b1;try clear c53;try clear c54;try clear c55;try clear c56;try clear p64;try clear c69;try clear c69b0;try clear c69b1;try clear c69b2;try clear c70;try clear c70b0;try clear c70b1;try clear c71;try clear c71b0;try clear c71b1;try clear c72;try clear c72b0;try clear c72b1;try clear c72b2;try clear c73;try clear c73b0;try clear c73b1;try clear c74;try clear c74b0;try clear c74b1;try clear c74b2;try clear c75;try clear c75b0;try clear c75b1;try clear c76;try clear c76b0;try clear c76b1;try clear c77;try clear c77b0;try clear c77b1;try clear c77b2;try clear c78;try clear c78b0;try clear c78b1;try clear c78b2;try clear c80;try clear c81;try clear c86;try clear c88;try clear c90;try clear c91;try clear c91b0;try clear c91b1;try clear c92;try clear c92b0;try clear c92b1;try clear c93;try clear c93b0;try clear c93b1;try clear c94;try clear c94b0;try clear c94b1;try clear c95;try clear c95b0;try clear c95b1;try clear c98;try clear c98b0;try clear c98b1;try clear c99;try clear c99b0;try clear c99b1;try clear c102;try clear c104;try clear c104b0;try clear c104b1;try clear c104b2;try clear c105;try clear c105b0;try clear c106;try clear c106b0;try clear c107;try clear c107b0;try clear c107b1;try clear c108;try clear c112;try clear c113;try clear c114;try clear c114b0;try clear c114b1;try clear c115;try clear c115b0;try clear c115b1;try clear c120;try clear c121;try clear c121b0;try clear c122;try clear c123;try clear c123b0;try clear hx281_0;try clear hx316_0;try clear p2;try clear p28;try clear p281;try clear p3;try clear p31;try clear p316;try clear p6;try clear p64;try clear q2;try clear q28;try clear q281;try clear q3;try clear q31;try clear q316
                            obtain ⟨x66_9, x462_9, rfl, rfl, HA, HK9, HO_460, HB⟩ := hrel
                            cases gk with
                            | zero => exact absurd HA.out (by simp [laws_FnWalksMeanOfAll.l1])
                            | succ k9 =>
                             have H := HA.out
                             clear HA
                             simp only [laws_FnWalksMeanOfAll.l1] at H
                             by_cases c127 : x462_9 < (t320.length : Int)
                             ·rw [if_pos c127] at H
                              have c127b0 : decide (x462_9 < (t320.length : Int)) = true := decide_eq_true c127
                              clear c127
                              by_cases c128 : 0 ≤ x462_9
                              ·rw [if_pos c128] at H
                               have c128b0 : decide (0 ≤ x462_9) = true := decide_eq_true c128
                               clear c128
                               by_cases c129 : x462_9 < (t320.length : Int)
                               ·rw [if_pos c129] at H
                                have c129b0 : decide (x462_9 < (t320.length : Int)) = true := decide_eq_true c129
                                clear c129
                                replace H := Option.bind_eq_some_iff.mp H
                                obtain ⟨⟨t325, t326⟩, A1300, H⟩ := H
                                replace H : ((impl_WalksTo.f k9 t325 a6 (wrap64 (a7 - 1))).bind fun bt327 => (if t326 = true then (if bt327.2 = true then (laws_FnWalksMeanOfAll.l1 k9 a5 a6 a7 t292 t321 (wrap64 (x66_9 + bt327.1)) t320 (t320.length : Int) (wrap64 (x462_9 + 1))) else (none)) else (none))) = some r := H
                                have A130 := aM A1300
                                clear A1300
                                replace H := Option.bind_eq_some_iff.mp H
                                obtain ⟨⟨t327, t328⟩, A1310, H⟩ := H
                                replace H : (if t326 = true then (if t328 = true then (laws_FnWalksMeanOfAll.l1 k9 a5 a6 a7 t292 t321 (wrap64 (x66_9 + t327)) t320 (t320.length : Int) (wrap64 (x462_9 + 1))) else (none)) else (none)) = some r := H
                                have A131 := aM A1310
                                clear A1310
                                by_cases c132 : t326 = true
                                ·subst c132
                                 have H1 : (if t328 = true then (laws_FnWalksMeanOfAll.l1 k9 a5 a6 a7 t292 t321 (wrap64 (x66_9 + t327)) t320 (t320.length : Int) (wrap64 (x462_9 + 1))) else (none)) = some r := by rw [if_pos rfl] at H; exact H
                                 clear H
                                 have H := H1
                                 clear H1
                                 by_cases c133 : t328 = true
                                 ·subst c133
                                  have H1 : (laws_FnWalksMeanOfAll.l1 k9 a5 a6 a7 t292 t321 (wrap64 (x66_9 + t327)) t320 (t320.length : Int) (wrap64 (x462_9 + 1))) = some r := by rw [if_pos rfl] at H; exact H
                                  clear H
                                  have H := H1
                                  clear H1
                                  have H' := aM H
                                  clear H
                                  have p324 : 0 ≤ (x462_9 : Int) := of_decide_eq_true (by first | (with_reducible assumption) | assumption)
                                  have q324 : x462_9 < (t320.length : Int) := of_decide_eq_true (by first | (with_reducible assumption) | assumption)
                                  obtain ⟨ad324, e324, hx324_0⟩ := Kd.at_int (Kd.R_reads' HO_460.out).2.2 x462_9 p324 q324
                                  cases e324
                                  replace p324 := eq_true p324
                                  replace q324 := eq_true q324
                                  go_wp2_with (first | ((with_reducible refine gate_callee (f := 48) rfl ?_); refine goesL_ (some 469) rfl rfl Tryd.func48 (by kernel_rfl) rfl #[.string a5, .int .i64 (rd t320 x462_9)] rfl (by (try simp only [List.map_toArray, List.map_cons, List.map_nil]); first | done | rfl | (simp only [List.length_drop, List.length_take]; rfl)) ?_; (with_reducible refine (impl_MoveRing.calls a5 (rd t320 x462_9) t325 true _ A130.out).mono ?_); rintro e w134 ⟨rfl, hb⟩; refine ⟨_, rfl, ?_⟩; have n0_ := aM (Kd.R_below (rU HO_460.out) hb); have n1_ := aM (below_step (by repeat (first | (with_reducible first | exact HB.out | apply aL | apply dN | apply dR) | exact HB.out)) hb); clear HO_460; clear HB; have HO_460 := n0_; have HB := n1_; clear n0_ n1_; (try clear hb); (try clear hb2); (try clear hk); (try clear hi)) | ((with_reducible refine gate_callee (f := 51) rfl ?_); refine goesL_ (some 477) rfl rfl Tryd.func51 (by kernel_rfl) rfl #[.string t325, .string a6, .int .i64 (wrap64 (a7 - 1))] rfl (by (try simp only [List.map_toArray, List.map_cons, List.map_nil]); first | done | rfl | (simp only [List.length_drop, List.length_take]; rfl)) ?_; (with_reducible refine (impl_WalksTo.calls k9 t325 a6 (wrap64 (a7 - 1)) t327 true _ A131.out).mono ?_); rintro e w135 ⟨rfl, hb⟩; refine ⟨_, rfl, ?_⟩; have n0_ := aM (Kd.R_below (rU HO_460.out) hb); have n1_ := aM (below_step (by repeat (first | (with_reducible first | exact HB.out | apply aL | apply dN | apply dR) | exact HB.out)) hb); clear HO_460; clear HB; have HO_460 := n0_; have HB := n1_; clear n0_ n1_; (try clear hb); (try clear hb2); (try clear hk); (try clear hi)))
                                  go_roundg k9
                                  case measure => have := HJ8.out; have := HJ20.out; have := HJ29.out; have := HJ60.out; have := HJ86.out; have := HJ102.out; have := HJ109.out; have := HJ116.out; have := HK9.out; omega
                                  case rel => exact ⟨(wrap64 (x66_9 + t327)), (wrap64 (x462_9 + 1)), (by first | rfl | (simp; done) | (simp [*]; done)), (by first | rfl | (simp; done) | (simp [*]; done)), H', ⟨by have := HJ8.out; have := HJ20.out; have := HJ29.out; have := HJ60.out; have := HJ86.out; have := HJ102.out; have := HJ109.out; have := HJ116.out; have := HK9.out; omega⟩, ⟨by (with_reducible repeat (first | apply Kd.R_alloc | apply Kd.R_drewN | apply Kd.R_drew)); exact HO_460.out⟩, ⟨by repeat (first | (with_reducible first | exact HB.out | apply aL | apply dN | apply dR) | exact HB.out)⟩⟩
                                 ·replace c133 := Bool.eq_false_iff.mpr c133
                                  subst c133
                                  have H1 : (none) = some r := by rw [if_neg (show ¬ (false = true) by decide)] at H; exact H
                                  clear H
                                  have H := H1
                                  clear H1
                                  exact absurd H (by simp)
                                ·replace c132 := Bool.eq_false_iff.mpr c132
                                 subst c132
                                 have H1 : (none) = some r := by rw [if_neg (show ¬ (false = true) by decide)] at H; exact H
                                 clear H
                                 have H := H1
                                 clear H1
                                 exact absurd H (by simp)
                               ·rw [if_neg c129] at H
                                exact absurd H (by simp)
                              ·rw [if_neg c128] at H
                               exact absurd H (by simp)
                             ·rw [if_neg c127] at H
                              have c127b0 : decide (x462_9 < (t320.length : Int)) = false := decide_eq_false c127
                              clear c127
                              by_cases c136 : t321 = true
                              ·subst c136
                               have H1 : (if x66_9 = t292 then (some true) else (none)) = some r := by rw [if_pos rfl] at H; exact H
                               clear H
                               have H := H1
                               clear H1
                               by_cases c137 : x66_9 = t292
                               ·rw [if_pos c137] at H
                                have c137b0 : (x66_9 == t292) = true := beq_iff_eq.mpr c137
                                have c137b1 : (x66_9 != t292) = false := bne_eq_false_iff_eq.mpr c137
                                clear c137
                                obtain rfl := Option.some.inj H
                                go_wp2
                                go_ret
                                exact ⟨by first | rfl | (simp [errW_none, errW_some] <;> rfl) | (simp [*, errW_none, errW_some] <;> rfl), by repeat (first | (with_reducible first | exact HB.out | apply aL | apply dN | apply dR) | exact HB.out)⟩
                               ·rw [if_neg c137] at H
                                exact absurd H (by simp)
                              ·replace c136 := Bool.eq_false_iff.mpr c136
                               subst c136
                               have H1 : (none) = some r := by rw [if_neg (show ¬ (false = true) by decide)] at H; exact H
                               clear H
                               have H := H1
                               clear H1
                               exact absurd H (by simp)
                          ·rw [if_neg c123] at H
                           have c123b0 : decide (0 < a7) = false := decide_eq_false c123
                           clear c123
                           obtain rfl := Option.some.inj H
                           go_wp2
                           go_ret
                           exact ⟨by first | rfl | (simp [errW_none, errW_some] <;> rfl) | (simp [*, errW_none, errW_some] <;> rfl), by repeat (first | (with_reducible first | exact HB.out | apply aL | apply dN | apply dR) | exact HB.out)⟩
                      ·rw [if_neg c115] at H
                       exact absurd H (by simp)
              ·replace c102 := Bool.eq_false_iff.mpr c102
               subst c102
               have H1 : (some true) = some r := by rw [if_neg (show ¬ (false = true) by decide)] at H; exact H
               clear H
               have H := H1
               clear H1
               obtain rfl := Option.some.inj H
               go_wp2
               go_ret
               exact ⟨by first | rfl | (simp [errW_none, errW_some] <;> rfl) | (simp [*, errW_none, errW_some] <;> rfl), by repeat (first | (with_reducible first | exact HB.out | apply aL | apply dN | apply dR) | exact HB.out)⟩

/-- THE ONE PURE STATEMENT of laws_FnWalksMeanOfAll: yours. -/
def laws_FnWalksMeanOfAll.Pure : Prop := ∀ (a0 : ByteArray) (a1 : ByteArray) (a2 : ByteArray) (a3 : ByteArray) (a4 : ByteArray) (a5 : ByteArray) (a6 : ByteArray) (a7 : Int), a0.size ≤ 140737488351232 → a1.size ≤ 140737488351232 → a2.size ≤ 140737488351232 → a3.size ≤ 140737488351232 → a4.size ≤ 140737488351232 → a5.size ≤ 140737488351232 → a6.size ≤ 140737488351232 → (Lit.int .i64 a7).wf = true → ∃ k, laws_FnWalksMeanOfAll.f k a0 a1 a2 a3 a4 a5 a6 a7 = some true
end Go.Proofs.YtifdgebdkhdmhaaDoor.PWMean
