-- squeezed (sq3.py); PRINTED by drive.py (a program of this session's, over the kit's print.py; wip/tools/drive.py). Lean checks it.
import Derived.Test.YtcogjabdddikjaaDoorQPHidAllx0
import Derived.Test.YtcogjabdddikjaaDoorQPHidAllx1
import Derived.Test.YtcogjabdddikjaaDoorQPHidAllx2
import Derived.Test.YtcogjabdddikjaaDoorQPHidAllx3
import Derived.Test.YtcogjabdddikjaaDoorQPHidAllx8
import Derived.Test.YtcogjabdddikjaaDoorQSq
namespace Go.Proofs.YtcogjabdddikjaaDoor.PHidAll
open Go.RowKit Go.Proofs.YtcogjabdddikjaaDoorW.PrintWords Go.Proofs.YtcogjabdddikjaaDoorW.PrintLast Go.Proofs.YtcogjabdddikjaaDoorW.PrintMore
attribute [local go_sem] max2_int min2_int max_two min_two max_three min_three max_four min_four   -- for this text's walks alone
set_option linter.unusedVariables false
set_option linter.unusedSimpArgs false

attribute [local go_sem high] eqA59
/-! ### spec_pzClue: function 127 -/
def spec_pzClue.j0 : Nat → Int → Int → Bool → Int → Int → Int → Option (Bool)
 | 0, _, _, _, _, _, _ => none
 | k + 1, x0, x6, x7, x182000, x182001, x182002 => if x7 = true then ((spec_l1In.f x182001 0 (wrap64 (x0 - 1))).bind fun t182 => (if t182 = true then ((spec_l1In.f x182002 0 1).bind fun t183 => (some t183)) else (some false))) else (if x6 = 1 then ((spec_l1In.f x182001 0 x0).bind fun t184 => (if t184 = true then (some (x182002 == 0)) else (some false))) else (if x6 = 2 then ((spec_l1In.f x182001 2 9).bind fun t185 => (if t185 = true then ((spec_l1In.f x182002 0 (wrap64 (x182001 - 1))).bind fun t186 => (some t186)) else (some false))) else (if x6 = 3 then (if 0 ≤ x0 then ((spec_l1In.f x182001 0 (wrap64 ((shl .i64 1 x0) - 1))).bind fun t187 => (if t187 = true then ((spec_l1In.f x182002 0 127).bind fun t188 => (some t188)) else (some false))) else (none)) else (some false))))
def spec_pzClue.f (k : Nat) (a0 : Int) (a1_0 : Int) (a1_1 : Int) (a1_2 : Int) : Option (Bool) := if a1_0 = 0 then (spec_pzClue.j0 k a0 a1_0 (a1_0 == 0) a1_0 a1_1 a1_2) else (spec_pzClue.j0 k a0 a1_0 (a1_0 == 4) a1_0 a1_1 a1_2)
theorem spec_pzClue.mono_l : ∀ k, Mo (spec_pzClue.j0 k) (spec_pzClue.j0 (k + 1))
 | 0 => m0
 | k + 1 => by
  have ih0 := spec_pzClue.mono_l k
  (repeat refine mE fun _ => ?_) <;> first | (unfold spec_pzClue.j0; exact mG)
instance spec_pzClue.mI (k : Nat) : Mo (spec_pzClue.f k) (spec_pzClue.f (k + 1)) := by
 have ih0 := spec_pzClue.mono_l k
 (repeat refine mE fun _ => ?_); unfold spec_pzClue.f; exact mG
theorem spec_pzClue.mono : ∀ a0 a1 a2 a3 k, LeO (spec_pzClue.f k a0 a1 a2 a3) (spec_pzClue.f (k + 1) a0 a1 a2 a3) := fun a0 a1 a2 a3 k => (spec_pzClue.mI k).out a0 a1 a2 a3
set_option maxHeartbeats 8000000 in
set_option maxRecDepth 100000 in
theorem spec_pzClue.calls (k : Nat) (a0 : Int) (a1_0 : Int) (a1_1 : Int) (a1_2 : Int) (r : Bool) (w : World) (h : spec_pzClue.f k a0 a1_0 a1_1 a1_2 = some r) :
  Calls Tryd.prog 127 #[.int .i64 a0, .agg #[.int .i64 a1_0, .int .i64 a1_1, .int .i64 a1_2]] w fun e w' => e = .returned (.bool r) ∧ Below w.heap.size w w' := by
 have hu59 := Tryd.underlying59
 have HB := aM (Below.refl w.heap.size w)
 have H := h
 clear h; unfold spec_pzClue.f at H
 have HC3 := aM H
 clear H
 go_enter Tryd.func127, Tryd.ntmps127
 go_upto_if 7 with (first | (refine bX (N := 3) rfl (cs := #[.int .i64 a1_0, .int .i64 a1_1, .int .i64 a1_2]) (t := 59) ?_; intro gb181 hg w4 BK181 hb; have GW181 := gE hg HB; have GE181 := gE hg HB; replace HB := hS HB hb; clear hb hg; obtain ⟨hcz5_0, hcz5_1, hcz5_2, hfz5_0, hfz5_1, hfz5_2⟩ := hC3 BK181))
 repeat (go_quiet (fail); go_upto_if 7 with (first | (refine bX (N := 3) rfl (cs := #[.int .i64 a1_0, .int .i64 a1_1, .int .i64 a1_2]) (t := 59) ?_; intro gb181 hg w4 BK181 hb; have GW181 := gE hg HB; have GE181 := gE hg HB; replace HB := hS HB hb; clear hb hg; obtain ⟨hcz5_0, hcz5_1, hcz5_2, hfz5_0, hfz5_1, hfz5_2⟩ := hC3 BK181)))
 (try simp only [Act.put, List.setIfInBounds_toArray, List.set_cons_zero, List.set_cons_succ])
 go_cut [7] (fun v7 wc => ∃ (kq : Nat) (x7_2 : Bool), v7 = .bool x7_2 ∧ Aside0 (spec_pzClue.j0 kq a0 a1_0 x7_2 a1_0 a1_1 a1_2 = some r) ∧ Aside0 (kq ≤ k) ∧ Aside0 (wc.heap[gb181]? = some (.cells #[.int .i64 a1_0, .int .i64 a1_1, .int .i64 a1_2] 59 (0, 0))) ∧ Aside0 (Below w.heap.size w wc))
 case first =>
  have H := HC3.out
  clear HC3
  refine iI H ?_ ?_ <;> clear H <;> intro c6 H
  ·have c6b0 := qT c6
   have c6b1 := nF c6
   clear c6
   (first | rw [c6b0] | (simp only [i64_w, i32_w]; rw [c6b0]) | skip)
   have H' := aM H
   clear H
   go_wp2
   repeat (go_quiet (fail); try go_wp2)
   go_meet
   case rel => exact ⟨_, ((a1_0 == 0)), rF, H', kL, ⟨bU BK181.out⟩, hV HB⟩
  have c6b0 := qF c6
  have c6b1 := nT c6
  (first | rw [c6b0] | (simp only [i64_w, i32_w]; rw [c6b0]) | skip)
  have H' := aM H
  clear H
  go_wp2
  repeat (go_quiet (fail); try go_wp2)
  go_meet
  case rel => exact ⟨_, ((a1_0 == 4)), rF, H', kL, ⟨bU BK181.out⟩, hV HB⟩
 case rest =>
  clear HC3
  try clear hcz5_0;try clear hcz5_1;try clear hcz5_2;try clear hfz5_0;try clear hfz5_1;try clear hfz5_2
  obtain ⟨kq, x7_2, rfl, HA, HJ2, BK181, HB⟩ := hcut
  obtain rfl | ⟨kj2, rfl⟩ := fz kq
  ·exact zA HA
  have H := HA.out
  clear HA
  simp only [spec_pzClue.j0] at H
  refine iB H ?_ ?_ <;> clear H <;> rintro rfl H
  ·replace H := bC H; obtain ⟨t182, A8, H⟩ := H
   refine iB H ?_ ?_ <;> clear H <;> rintro rfl H
   ·replace H := bC H; obtain ⟨t183, A10, H⟩ := H
    obtain rfl := Option.some.inj H
    obtain ⟨hcz11_0, hcz11_1, hcz11_2, hfz11_0, hfz11_1, hfz11_2⟩ := hC3 BK181
    go_wp2_with (first | (go_at_call 115; (with_reducible refine (spec_l1In.calls a1_1 0 (wrap64 (a0 - 1)) true _ A8.out).mono ?_); rintro e w' ⟨rfl, ⟨nd, rfl⟩⟩; (try exact nd2)) | (go_at_call 115; (with_reducible refine (spec_l1In.calls a1_2 0 1 t183 _ A10.out).mono ?_); rintro e w' ⟨rfl, ⟨nd, rfl⟩⟩; (try exact nd2)))
    repeat (go_quiet (first | (go_at_call 115; (with_reducible refine (spec_l1In.calls a1_1 0 (wrap64 (a0 - 1)) true _ A8.out).mono ?_); rintro e w' ⟨rfl, ⟨nd, rfl⟩⟩; (try exact nd2)) | (go_at_call 115; (with_reducible refine (spec_l1In.calls a1_2 0 1 t183 _ A10.out).mono ?_); rintro e w' ⟨rfl, ⟨nd, rfl⟩⟩; (try exact nd2))); try go_wp2_with (first | (go_at_call 115; (with_reducible refine (spec_l1In.calls a1_1 0 (wrap64 (a0 - 1)) true _ A8.out).mono ?_); rintro e w' ⟨rfl, ⟨nd, rfl⟩⟩; (try exact nd2)) | (go_at_call 115; (with_reducible refine (spec_l1In.calls a1_2 0 1 t183 _ A10.out).mono ?_); rintro e w' ⟨rfl, ⟨nd, rfl⟩⟩; (try exact nd2))))
    go_ret
    exact ⟨eW, bel HB⟩
   obtain rfl := Option.some.inj H
   obtain ⟨hcz12_0, hcz12_1, hcz12_2, hfz12_0, hfz12_1, hfz12_2⟩ := hC3 BK181
   go_wp2_with (first | (go_at_call 115; (with_reducible refine (spec_l1In.calls a1_1 0 (wrap64 (a0 - 1)) false _ A8.out).mono ?_); rintro e w' ⟨rfl, ⟨nd, rfl⟩⟩; (try exact nd2)))
   repeat (go_quiet (first | (go_at_call 115; (with_reducible refine (spec_l1In.calls a1_1 0 (wrap64 (a0 - 1)) false _ A8.out).mono ?_); rintro e w' ⟨rfl, ⟨nd, rfl⟩⟩; (try exact nd2))); try go_wp2_with (first | (go_at_call 115; (with_reducible refine (spec_l1In.calls a1_1 0 (wrap64 (a0 - 1)) false _ A8.out).mono ?_); rintro e w' ⟨rfl, ⟨nd, rfl⟩⟩; (try exact nd2))))
   go_ret
   exact ⟨eW, bel HB⟩
  refine iI H ?_ ?_ <;> clear H <;> intro c13 H
  ·have c13b0 := qT c13
   have c13b1 := nF c13
   clear c13
   replace H := bC H; obtain ⟨t184, A14, H⟩ := H
   refine iB H ?_ ?_ <;> clear H <;> rintro rfl H
   ·obtain rfl := Option.some.inj H
    obtain ⟨hcz16_0, hcz16_1, hcz16_2, hfz16_0, hfz16_1, hfz16_2⟩ := hC3 BK181
    go_wp2_with (first | (go_at_call 115; (with_reducible refine (spec_l1In.calls a1_1 0 a0 true _ A14.out).mono ?_); rintro e w' ⟨rfl, ⟨nd, rfl⟩⟩; (try exact nd2)))
    repeat (go_quiet (first | (go_at_call 115; (with_reducible refine (spec_l1In.calls a1_1 0 a0 true _ A14.out).mono ?_); rintro e w' ⟨rfl, ⟨nd, rfl⟩⟩; (try exact nd2))); try go_wp2_with (first | (go_at_call 115; (with_reducible refine (spec_l1In.calls a1_1 0 a0 true _ A14.out).mono ?_); rintro e w' ⟨rfl, ⟨nd, rfl⟩⟩; (try exact nd2))))
    go_ret
    exact ⟨eW, bel HB⟩
   obtain rfl := Option.some.inj H
   obtain ⟨hcz17_0, hcz17_1, hcz17_2, hfz17_0, hfz17_1, hfz17_2⟩ := hC3 BK181
   go_wp2_with (first | (go_at_call 115; (with_reducible refine (spec_l1In.calls a1_1 0 a0 false _ A14.out).mono ?_); rintro e w' ⟨rfl, ⟨nd, rfl⟩⟩; (try exact nd2)))
   repeat (go_quiet (first | (go_at_call 115; (with_reducible refine (spec_l1In.calls a1_1 0 a0 false _ A14.out).mono ?_); rintro e w' ⟨rfl, ⟨nd, rfl⟩⟩; (try exact nd2))); try go_wp2_with (first | (go_at_call 115; (with_reducible refine (spec_l1In.calls a1_1 0 a0 false _ A14.out).mono ?_); rintro e w' ⟨rfl, ⟨nd, rfl⟩⟩; (try exact nd2))))
   go_ret
   exact ⟨eW, bel HB⟩
  have c13b0 := qF c13
  have c13b1 := nT c13
  refine iI H ?_ ?_ <;> clear H <;> intro c18 H
  ·have c18b0 := qT c18
   have c18b1 := nF c18
   clear c18
   replace H := bC H; obtain ⟨t185, A19, H⟩ := H
   refine iB H ?_ ?_ <;> clear H <;> rintro rfl H
   ·replace H := bC H; obtain ⟨t186, A21, H⟩ := H
    obtain rfl := Option.some.inj H
    obtain ⟨hcz22_0, hcz22_1, hcz22_2, hfz22_0, hfz22_1, hfz22_2⟩ := hC3 BK181
    go_wp2_with (first | (go_at_call 115; (with_reducible refine (spec_l1In.calls a1_1 2 9 true _ A19.out).mono ?_); rintro e w' ⟨rfl, ⟨nd, rfl⟩⟩; (try exact nd2)) | (go_at_call 115; (with_reducible refine (spec_l1In.calls a1_2 0 (wrap64 (a1_1 - 1)) t186 _ A21.out).mono ?_); rintro e w' ⟨rfl, ⟨nd, rfl⟩⟩; (try exact nd2)))
    repeat (go_quiet (first | (go_at_call 115; (with_reducible refine (spec_l1In.calls a1_1 2 9 true _ A19.out).mono ?_); rintro e w' ⟨rfl, ⟨nd, rfl⟩⟩; (try exact nd2)) | (go_at_call 115; (with_reducible refine (spec_l1In.calls a1_2 0 (wrap64 (a1_1 - 1)) t186 _ A21.out).mono ?_); rintro e w' ⟨rfl, ⟨nd, rfl⟩⟩; (try exact nd2))); try go_wp2_with (first | (go_at_call 115; (with_reducible refine (spec_l1In.calls a1_1 2 9 true _ A19.out).mono ?_); rintro e w' ⟨rfl, ⟨nd, rfl⟩⟩; (try exact nd2)) | (go_at_call 115; (with_reducible refine (spec_l1In.calls a1_2 0 (wrap64 (a1_1 - 1)) t186 _ A21.out).mono ?_); rintro e w' ⟨rfl, ⟨nd, rfl⟩⟩; (try exact nd2))))
    go_ret
    exact ⟨eW, bel HB⟩
   obtain rfl := Option.some.inj H
   obtain ⟨hcz23_0, hcz23_1, hcz23_2, hfz23_0, hfz23_1, hfz23_2⟩ := hC3 BK181
   go_wp2_with (first | (go_at_call 115; (with_reducible refine (spec_l1In.calls a1_1 2 9 false _ A19.out).mono ?_); rintro e w' ⟨rfl, ⟨nd, rfl⟩⟩; (try exact nd2)))
   repeat (go_quiet (first | (go_at_call 115; (with_reducible refine (spec_l1In.calls a1_1 2 9 false _ A19.out).mono ?_); rintro e w' ⟨rfl, ⟨nd, rfl⟩⟩; (try exact nd2))); try go_wp2_with (first | (go_at_call 115; (with_reducible refine (spec_l1In.calls a1_1 2 9 false _ A19.out).mono ?_); rintro e w' ⟨rfl, ⟨nd, rfl⟩⟩; (try exact nd2))))
   go_ret
   exact ⟨eW, bel HB⟩
  have c18b0 := qF c18
  have c18b1 := nT c18
  refine iI H ?_ ?_ <;> clear H <;> intro c24 H
  ·have c24b0 := qT c24
   have c24b1 := nF c24
   clear c24
   refine iY H ?_; clear H; intro c25 H
   have c25b0 := eq_true c25
   have c25b1 := dT c25
   clear c25
   obtain ⟨ji26, hji26⟩ := jN (shl .i64 1 a0)
   first | rw [hji26] at H | simp only [hji26] at H
   have hji26_ : (IntKind.i64.wrap (1 * 2 ^ min a0.toNat 64)) = ji26 := hji26
   have hji26z : a0 ≤ 64 → (IntKind.i64.wrap (1 * 2 ^ a0.toNat)) = ji26 := shl_small hji26
   have hji26u : (IntKind.i64.wrap (2 ^ min a0.toNat 64)) = ji26 := by have h_ := hji26_; rw [Int.one_mul] at h_; exact h_
   have hji26v : a0 ≤ 64 → (IntKind.i64.wrap (2 ^ a0.toNat)) = ji26 := fun hle_ => by have h_ := hji26z hle_; rw [Int.one_mul] at h_; exact h_
   have hji26y : (wrap64 (1 * 2 ^ min a0.toNat 64)) = ji26 := (i64_w _).symm.trans hji26_
   have hji26x : a0 ≤ 64 → (wrap64 (1 * 2 ^ a0.toNat)) = ji26 := fun h_ => (i64_w _).symm.trans (hji26z h_)
   replace H := bC H; obtain ⟨t187, A27, H⟩ := H
   refine iB H ?_ ?_ <;> clear H <;> rintro rfl H
   ·replace H := bC H; obtain ⟨t188, A29, H⟩ := H
    obtain rfl := Option.some.inj H
    obtain ⟨hcz30_0, hcz30_1, hcz30_2, hfz30_0, hfz30_1, hfz30_2⟩ := hC3 BK181
    go_wp2_with (first | (go_at_call 115; (with_reducible refine (spec_l1In.calls a1_1 0 (wrap64 ((ji26) - 1)) true _ A27.out).mono ?_); rintro e w' ⟨rfl, ⟨nd, rfl⟩⟩; (try exact nd2)) | (go_at_call 115; (with_reducible refine (spec_l1In.calls a1_2 0 127 t188 _ A29.out).mono ?_); rintro e w' ⟨rfl, ⟨nd, rfl⟩⟩; (try exact nd2)))
    repeat (go_quiet (first | (go_at_call 115; (with_reducible refine (spec_l1In.calls a1_1 0 (wrap64 ((ji26) - 1)) true _ A27.out).mono ?_); rintro e w' ⟨rfl, ⟨nd, rfl⟩⟩; (try exact nd2)) | (go_at_call 115; (with_reducible refine (spec_l1In.calls a1_2 0 127 t188 _ A29.out).mono ?_); rintro e w' ⟨rfl, ⟨nd, rfl⟩⟩; (try exact nd2))); try go_wp2_with (first | (go_at_call 115; (with_reducible refine (spec_l1In.calls a1_1 0 (wrap64 ((ji26) - 1)) true _ A27.out).mono ?_); rintro e w' ⟨rfl, ⟨nd, rfl⟩⟩; (try exact nd2)) | (go_at_call 115; (with_reducible refine (spec_l1In.calls a1_2 0 127 t188 _ A29.out).mono ?_); rintro e w' ⟨rfl, ⟨nd, rfl⟩⟩; (try exact nd2))))
    go_ret
    exact ⟨by first | rfl | (simp [errW_none, errW_some] <;> rfl) | (simp only [← hji26]; first | rfl | (simp [errW_none, errW_some] <;> rfl)) | (simp [*, errW_none, errW_some] <;> rfl), bel HB⟩
   obtain rfl := Option.some.inj H
   obtain ⟨hcz31_0, hcz31_1, hcz31_2, hfz31_0, hfz31_1, hfz31_2⟩ := hC3 BK181
   go_wp2_with (first | (go_at_call 115; (with_reducible refine (spec_l1In.calls a1_1 0 (wrap64 ((ji26) - 1)) false _ A27.out).mono ?_); rintro e w' ⟨rfl, ⟨nd, rfl⟩⟩; (try exact nd2)))
   repeat (go_quiet (first | (go_at_call 115; (with_reducible refine (spec_l1In.calls a1_1 0 (wrap64 ((ji26) - 1)) false _ A27.out).mono ?_); rintro e w' ⟨rfl, ⟨nd, rfl⟩⟩; (try exact nd2))); try go_wp2_with (first | (go_at_call 115; (with_reducible refine (spec_l1In.calls a1_1 0 (wrap64 ((ji26) - 1)) false _ A27.out).mono ?_); rintro e w' ⟨rfl, ⟨nd, rfl⟩⟩; (try exact nd2))))
   go_ret
   exact ⟨by first | rfl | (simp [errW_none, errW_some] <;> rfl) | (simp only [← hji26]; first | rfl | (simp [errW_none, errW_some] <;> rfl)) | (simp [*, errW_none, errW_some] <;> rfl), bel HB⟩
  have c24b0 := qF c24
  have c24b1 := nT c24
  obtain rfl := Option.some.inj H
  go_wp2
  repeat (go_quiet (fail); try go_wp2)
  go_ret
  exact ⟨eW, bel HB⟩

/-! ### impl_IsPuzzle: function 53 -/
-- by hand (wip/ext/IsPuzzle.tpl)
theorem pzClue_eq (n : Nat) (r k a b : Int) (h : 0 ≤ r) : spec_pzClue.f (n + 1) r k a b = some (clueB r k a b) := by
  simp only [spec_pzClue.f, spec_pzClue.j0, spec_l1In.f, inB_ite, Option.bind_some, and_some, clueB]
  by_cases h0 : k = 0
  · simp [h0]
  · by_cases h4 : k = 4
    · simp [h4]
    · by_cases h1 : k = 1
      · simp [h1]
      · by_cases h2 : k = 2
        · simp [h2]
        · by_cases h3 : k = 3
          · simp [h3, h]
          · simp [h0, h1, h2, h3, h4]
theorem implClue_j0 (k : Nat) (a b : Int) (t : Bool) (c d e : Int) : impl_IsClue.j0 k a b t c d e = spec_pzClue.j0 k a b t c d e := by
  cases k with
  | zero => rfl
  | succ k => rfl
theorem implClue_eq (n : Nat) (r k a b : Int) : impl_IsClue.f (n + 1) r k a b = some (isClueB r k a b) := by
  simp only [impl_IsClue.f, impl_in.f, inB_ite, Option.bind_some, isClueB, implClue_j0]
  cases h : inB r 1 7
  · rfl
  · have := pzClue_eq n r k a b (by have := inB_lo h; omega)
    simp only [spec_pzClue.f] at this
    simp [this]
theorem impl_IsPuzzle.f1 : Tryd.prog.funcs[121]? = some Tryd.f121 ∧ (Tryd.f121.name == "runtime.NumGoroutine") = false ∧ Tryd.f121.body.isSome = true := ⟨Tryd.func121, by kernel_rfl, by kernel_rfl⟩
set_option maxHeartbeats 400000 in
theorem impl_IsPuzzle.c1 (g : Nat) (r a b c : Int) (w : World) (hg : w.cell? ⟨g, 0, none⟩ = some (.int .i64 r)) :
    Calls Tryd.prog 121 #[.agg #[.int .i64 a, .int .i64 b, .int .i64 c], .pointer (some ⟨g, 0, none⟩)] w fun e w' => e = .returned (.bool (!isClueB r a b c)) ∧ Below w.heap.size w w' := by
  have hlt := World.block_lt_of_cell? w _ hg
  have hg2 : (w.alloc (.cells #[.int .i64 a, .int .i64 b, .int .i64 c] 59)).cell? ⟨g, 0, none⟩ = some (.int .i64 r) := by
    rw [World.cell?_alloc_past _ _ _ hlt]; exact hg
  have hu25 := Tryd.underlying59
  have hu35 := Tryd.underlying57
  have hc := impl_IsClue.calls 1 r a b c _ (w.alloc (.cells #[.int .i64 a, .int .i64 b, .int .i64 c] 59)) (implClue_eq 0 r a b c)
  have HC := aM hc
  clear hc
  go_enter Tryd.func121, Tryd.ntmps121
  go_wp2_with (go_at_call 66; refine HC.out.mono ?_; rintro e w' ⟨rfl, hb⟩; have HB := aM hb; clear hb)
  go_ret
  exact ⟨rfl, ((Below.refl _ _).alloc (Nat.le_refl _) _).trans (HB.out.mono (by simp))⟩
def isPuzzleB (r : Int) (l : List S59) : Bool := inB r 1 7 && decide (l.length ≤ 6) && !(l.any fun x => !isClueB r x.f0 x.f1 x.f2)
def impl_IsPuzzle.f (a0_0 : Int) (l0_1 : List S59) : Option Bool := some (isPuzzleB a0_0 l0_1)
set_option maxHeartbeats 1000000 in
set_option maxRecDepth 100000 in
theorem impl_IsPuzzle.calls (a0_0 : Int) (A0_1 : Option Addr) (c0_1 : Nat) (l0_1 : List S59) (r : Bool) (w : World) (hr0_1 : Kd.C k59 w A0_1 l0_1.length l0_1) (hc0_1 : l0_1.length ≤ c0_1) (h : impl_IsPuzzle.f a0_0 l0_1 = some r) :
    Calls Tryd.prog 53 #[.agg #[.int .i64 a0_0, .slice A0_1 l0_1.length c0_1]] w fun e w' => e = .returned (.bool r) ∧ Below w.heap.size w w' := by
 obtain rfl := Option.some.inj h
 clear h
 have hl := hr0_1.2.1
 have HC := aM (fun (W : World) (hb : Below w.heap.size w W) (hg : W.cell? ⟨w.heap.size, 0, none⟩ = some (.int .i64 a0_0)) =>
  impl_Clue_120.any 121 Tryd.f121 impl_IsPuzzle.f1 #[.pointer (some ⟨w.heap.size, 0, none⟩)] (fun x => !isClueB a0_0 x.f0 x.f1 x.f2) A0_1 c0_1 l0_1 W (Kd.C_below hr0_1 hb)
   (fun w1 x _ hb1 => impl_IsPuzzle.c1 w.heap.size a0_0 x.f0 x.f1 x.f2 w1 ((hb1.cell (World.block_lt_of_cell? W _ hg)).trans hg)))
 have HI := aM (fun w1 => impl_in.calls a0_0 1 7 _ w1 (inB_ite a0_0 1 7))
 have hmf : ∀ (fn : Fn) (first cap : Array Value) (w : World), (Instr.makeFunc fn first cap).run Tryd.prog w = .ok (.func fn first cap) w := fun _ _ _ _ => rfl
 have hu35 := Tryd.underlying57
 clear hr0_1
 obtain ⟨R, hR⟩ : ∃ R, R = isPuzzleB a0_0 l0_1 := ⟨_, rfl⟩
 rw [← hR]
 unfold isPuzzleB at hR
 have HX := aM hR
 clear hR
 go_enter Tryd.func53, Tryd.ntmps53
 go_wp2_with (first
  | (go_at_call 104; refine (HI.out _).mono ?_; rintro e w' ⟨rfl, ⟨n, rfl⟩⟩)
  | (go_at_call 120; refine (HC.out _ (pw_below_drewN (below_alloc (Below.refl _ _) _) _) (by go_simp)).mono ?_; rintro e w' ⟨rfl, hb⟩; have HB := aM hb; clear hb))
 all_goals go_ret
 ·have h1 : inB a0_0 1 7 = true := by assumption
  have h2 : (l0_1.length : Int) ≤ 6 := by assumption
  exact ⟨ret_bool (by rw [HX.out, h1, decide_eq_true (by omega)]; simp), below_step (pw_below_drewN (below_alloc (Below.refl _ _) _) _) HB.out⟩
 ·have h1 : inB a0_0 1 7 = true := by assumption
  have h2 : 6 < (l0_1.length : Int) := by assumption
  exact ⟨ret_bool (by rw [HX.out, h1, decide_eq_false (by omega)]; simp), pw_below_drewN (below_alloc (Below.refl _ _) _) _⟩
 have h1 : ¬ inB a0_0 1 7 = true := by assumption
 exact ⟨ret_bool (by rw [HX.out]; simp [h1]), pw_below_drewN (below_alloc (Below.refl _ _) _) _⟩

/-! ### impl_state: function 86 -/
def impl_state.l0 : Nat → Int → List Int → Int → Int → Option (ByteArray)
 | 0, _, _, _, _ => none
 | k + 1, x5, x6, x15, x16 => if x16 < x15 then (if 0 ≤ x16 then (if x16 < (x6.length : Int) then (impl_state.l0 k x5 (x6.set (x16 : Int).toNat ((48 + ((Go.bits .and .i64 (shr .i64 x5 x16) 1) % 256)) % 256)) x15 (wrap64 (x16 + 1))) else (none)) else (none)) else (some (strOfNums x6))
def impl_state.f (k : Nat) (a0 : Int) (a1 : Int) : Option (ByteArray) := if 0 ≤ a0 then (if (a0 : Int).toNat ≤ 281474976710656 then ((some (List.replicate (a0 : Int).toNat 0 : List Int)).bind fun y189 => (impl_state.l0 k (Go.bits .xor .i64 a1 (wrap64 (Int.tdiv a1 2))) y189 (y189.length : Int) 0)) else (none)) else (none)
theorem impl_state.mono_l : ∀ k, Mo (impl_state.l0 k) (impl_state.l0 (k + 1))
 | 0 => m0
 | k + 1 => by
  have ih0 := impl_state.mono_l k
  (repeat refine mE fun _ => ?_) <;> first | (unfold impl_state.l0; exact mG)
instance impl_state.mI (k : Nat) : Mo (impl_state.f k) (impl_state.f (k + 1)) := by
 have ih0 := impl_state.mono_l k
 (repeat refine mE fun _ => ?_); unfold impl_state.f; exact mG
theorem impl_state.mono : ∀ a0 a1 k, LeO (impl_state.f k a0 a1) (impl_state.f (k + 1) a0 a1) := fun a0 a1 k => (impl_state.mI k).out a0 a1
set_option maxHeartbeats 8000000 in
set_option maxRecDepth 100000 in
theorem impl_state.calls (k : Nat) (a0 : Int) (a1 : Int) (r : ByteArray) (w : World) (h : impl_state.f k a0 a1 = some r) :
  Calls Tryd.prog 86 #[.int .i64 a0, .int .i64 a1] w fun e w' => e = .returned (.string r) ∧ Below w.heap.size w w' := by
 have HB := aM (Below.refl w.heap.size w)
 have H := h
 clear h; unfold impl_state.f at H
 refine iY H ?_; clear H; intro c3 H
 have c3b0 := eq_true c3
 have c3b1 := dT c3
 clear c3
 refine iY H ?_; clear H; intro c4 H
 have c4b0 := eq_true c4
 have c4b1 := dT c4
 clear c4
 replace H := yB H; obtain ⟨y189, Ny189, H⟩ := H
 have H' := aM H
 clear H
 go_enter Tryd.func86, Tryd.ntmps86
 go_wp2_with (first | ((with_reducible refine gate_dst (N := 13) rfl ?_); refine Kd.R_make (Kd.int .u8) _ 5 rfl (N := 13) rfl 22 _ _ rfl a0 rfl rfl Tryd.underlying22 (.int .u8 0) 1 info5 rfl (by decide) (by omega) 0 (ok := fun _ => True) (okp := fun _ => True) rfl (fun _ hk => hk) trivial oD (Nat.le_trans (Nat.mul_le_mul_right _ (oD : a0.toNat ≤ 281474976710656)) (by omega)) (Below.refl _ _) (Nat.le_refl _) ?_; intro v190 w5 ho6 hb hg_ hnew_; clear hg_ hnew_; (first | rw [← Ny189.out] at ho6 | (simp only [Int.reduceToNat] at ho6; rw [← Ny189.out] at ho6)); have HO191 := rL ho6 HB; replace HB := hS HB hb; clear hb ho6; obtain ⟨Ao7, co7, eo7⟩ := Kd.R_slice HO191.out; subst eo7))
 go_loopg [16] k (fun kq v16 w' => ∃ (x6_1 : List Int) (x16_1 : Int), v16 = .int .i64 x16_1 ∧ Aside0 (impl_state.l0 kq (Go.bits .xor .i64 a1 (wrap64 (Int.tdiv a1 2))) x6_1 (y189.length : Int) x16_1 = some r) ∧ Aside0 (kq ≤ k) ∧ Aside0 (Kd.R (Kd.int .u8) 5 w' w.heap.size (fun _ => True) (.slice Ao7 y189.length co7) x6_1) ∧ Aside0 (Below w.heap.size w w'))
 case atStart => exact ⟨(y189), (0), rF, H', kR, ⟨rU HO191.out⟩, hV HB⟩
 case round =>
  clear H'
  try clear c3b0;try clear c3b1;try clear c4b0;try clear c4b1
  obtain ⟨x6_1, x16_1, rfl, HA, HK1, HO_6, HB⟩ := hrel
  have hl6_1 := (Kd.R_reads' HO_6.out).1
  rw [hl6_1] at HO_6
  (try simp only [hl6_1])
  obtain rfl | ⟨k1, rfl⟩ := fz gk
  ·exact zA HA
  have H := HA.out
  clear HA
  simp only [impl_state.l0] at H
  refine iI H ?_ ?_ <;> clear H <;> intro c8 H
  ·have c8b0 := dT c8
   try (have c8l := c8b0; simp only [hl6_1] at c8l)
   clear c8
   refine iY H ?_; clear H; intro c9 H
   have c9b0 := eq_true c9
   have c9b1 := dT c9
   clear c9
   obtain ⟨ji10, hji10⟩ := jN (shr .i64 (Go.bits .xor .i64 a1 (wrap64 (Int.tdiv a1 2))) x16_1)
   first | rw [hji10] at H | simp only [hji10] at H
   have hji10_ : ((Go.bits .xor .i64 a1 (wrap64 (Int.tdiv a1 2))) / 2 ^ min x16_1.toNat 64) = ji10 := hji10
   have hji10z : x16_1 ≤ 64 → ((Go.bits .xor .i64 a1 (wrap64 (Int.tdiv a1 2))) / 2 ^ x16_1.toNat) = ji10 := shr_small hji10
   refine iY H ?_; clear H; intro c11 H
   have c11b0 := dT c11
   try (have c11l := c11b0; simp only [hl6_1] at c11l)
   clear c11
   obtain ⟨y192, Ny192⟩ := yN (x6_1.set (x16_1 : Int).toNat ((48 + ((Go.bits .and .i64 (ji10) 1) % 256)) % 256) : List Int); rw [← Ny192.out] at H
   have H' := aM H
   clear H
   have p12 : 0 ≤ (x16_1 : Int) := oD
   have q12 : (x16_1 : Int) < ((x6_1.length : Int) : Int) := oD
   obtain ⟨go12, co12, eo12, gb12, gl12, cl12, HG12⟩ := Kd.R_form HO_6.out (by omega)
   (first | cases eo12 | (injection eo12 with ea_ en_ ec_; (first | subst ea_ | (injection ea_ with ea_; subst ea_)); subst ec_; clear en_))
   have GB12 := aM gb12
   have GG12 := aM HG12
   clear gb12 gl12 HG12
   obtain ⟨hx12_0, hf12_0⟩ := Kd.R_celln 0 HO_6.out (x16_1 : Int) p12 q12
   replace p12 := eq_true p12
   replace q12 := eq_true q12
   have HP13 := Kd.R_putg HO_6.out (x16_1 : Int) ((48 + ((Go.bits .and .i64 (ji10) 1) % 256)) % 256)
   go_wp2_with (first | ((with_reducible refine gate_store (t := 5) (p := 27) rfl ?_); refine store_event (t := 5) (p := 27) (v := ?vo_w14) (w1 := (wr.setCell ⟨go12, (x16_1 : Int).toNat, none⟩ (.int .u8 ((48 + ((Go.bits .and .i64 (ji10) 1) % 256)) % 256)))) ?hg ?ho ?hn ?hr ?_; (case ho => rfl); (case hg => rfl); (case hn => rfl); (case hr => first | (go_simp; done) | (go_simp; rfl)); intro w14 hw; have hg : wr.grownBy w14 (some go12) := (by rw [hw]; exact HP13.2); have hp_ : Kd.R (Kd.int .u8) 5 w14 w.heap.size (fun _ => True) (.slice (some ⟨go12, 0, none⟩) x6_1.length co7) y192 := (by rw [hw, Ny192.out]; exact HP13.1); clear HP13; replace HO_6 := aM (hp_); replace HB := aM ((by rw [hw]; exact below_set (HB.out) GB12.out : Below w.heap.size w w14)); clear hg hw hp_))
   (try simp only [← hl6_1])
   go_roundg k1
   case measure => have := HK1.out; omega
   case rel => exact ⟨(y192), (wrap64 (x16_1 + 1)), rF, H', ⟨by have := HK1.out; omega⟩, ⟨by (try simp only [hl6_1]); (with_reducible repeat (first | apply Kd.R_alloc | apply Kd.R_drewN | apply Kd.R_drew)); exact HO_6.out⟩, hV HB⟩
  have c8b0 := dF c8
  try (have c8l := c8b0; simp only [hl6_1] at c8l)
  clear c8
  obtain rfl := Option.some.inj H
  try rw [hl6_1] at c8b0
  have hcv15 := own_string (P := Tryd.prog) Tryd.underlying22 Tryd.underlying5 Tryd.underlying9 (Kd.own_of_R HO_6.out)
  go_wp2
  go_ret
  exact ⟨eW, bel HB⟩

/-! ### impl_Clue_fits: function 119 -/
def impl_Clue_fits.f (k : Nat) (a0_0 : Int) (a0_1 : Int) (a0_2 : Int) (a1 : ByteArray) : Option (Bool) := (impl_Clue_told.f k a0_0 a0_1 a0_2 a1).bind fun bt194 => (some (bt194.1 == a0_0 && (bt194.2.1 == a0_1 && (bt194.2.2 == a0_2))))
instance impl_Clue_fits.mI (k : Nat) : Mo (impl_Clue_fits.f k) (impl_Clue_fits.f (k + 1)) := by
 (repeat refine mE fun _ => ?_); unfold impl_Clue_fits.f; exact mG
theorem impl_Clue_fits.mono : ∀ a0 a1 a2 a3 k, LeO (impl_Clue_fits.f k a0 a1 a2 a3) (impl_Clue_fits.f (k + 1) a0 a1 a2 a3) := fun a0 a1 a2 a3 k => (impl_Clue_fits.mI k).out a0 a1 a2 a3
set_option maxHeartbeats 8000000 in
set_option maxRecDepth 100000 in
theorem impl_Clue_fits.calls (k : Nat) (a0_0 : Int) (a0_1 : Int) (a0_2 : Int) (a1 : ByteArray) (r : Bool) (w : World) (h : impl_Clue_fits.f k a0_0 a0_1 a0_2 a1 = some r) :
  Calls Tryd.prog 119 #[.agg #[.int .i64 a0_0, .int .i64 a0_1, .int .i64 a0_2], .string a1] w fun e w' => e = .returned (.bool r) ∧ Below w.heap.size w w' := by
 have hu59 := Tryd.underlying59
 have HB := aM (Below.refl w.heap.size w)
 have H := h
 clear h; unfold impl_Clue_fits.f at H
 replace H := bC H; obtain ⟨⟨t194, t195, t196⟩, A3, H⟩ := H; try dsimp only at H
 obtain rfl := Option.some.inj H
 go_enter Tryd.func119, Tryd.ntmps119
 try go_wp2_with (first | (refine bX (N := 2) rfl (cs := #[.int .i64 a0_0, .int .i64 a0_1, .int .i64 a0_2]) (t := 59) ?_; intro gb193 hg w4 BK193 hb; have GW193 := gE hg HB; have GE193 := gE hg HB; replace HB := hS HB hb; clear hb hg))
 have n0_ := aM (blk_drew BK193.out)
 have n1_ := aM (below_drew1 HB.out)
 clear BK193
 clear HB
 have BK193 := n0_
 have HB := n1_
 clear n0_ n1_
 refine start_ (n := 6) (S := fun w' => w'.cell? ⟨gb193, 0, none⟩ = some (.int .i64 a0_0) ∧ w'.cell? ⟨gb193, 1, none⟩ = some (.int .i64 a0_1) ∧ w'.cell? ⟨gb193, 2, none⟩ = some (.int .i64 a0_2)) (ds := []) #[false, false, false, false, false, false] (by kernel_rfl) rfl rfl ⟨(blk_cell BK193.out 0).trans rfl, (blk_cell BK193.out 1).trans rfl, (blk_cell BK193.out 2).trans rfl⟩ (fun hHeld => ?_)
 generalize w4.drew = w5 at BK193 HB hHeld ⊢
 refine pure_ (i := 1) (N := some 6) (v := ?_) (a' := ?_) #[false, true, false, false, false, false] rfl rfl (by kernel_rfl) (fun _ _ _ h => h) (Or.inl ⟨by rfl, ?_⟩) ?_ ?_
 rotate_left
 ·intro w'
  go_simp
  with_reducible rfl
 rotate_left
 ·simp only [Act.put, List.setIfInBounds_toArray, List.set_cons_zero, List.set_cons_succ, i64_w, i32_w]
  rfl
 refine take_ (i := 0) (N := some 5) (v := ?_) (a' := ?_) #[true, true, false, false, false, false] rfl rfl (by kernel_rfl) (fun _ _ _ h => h) (Or.inl ⟨by rfl, ?_⟩) hHeld ?_ ?_
 rotate_left
 ·rintro w' ⟨s0, s1, s2⟩
  go_simp
  with_reducible rfl
 rotate_left
 ·simp only [Act.put, List.setIfInBounds_toArray, List.set_cons_zero, List.set_cons_succ, i64_w, i32_w]
  rfl
 refine take_ (i := 3) (N := some 8) (v := ?_) (a' := ?_) #[true, true, false, true, false, false] rfl rfl (by kernel_rfl) (fun _ _ _ h => h) (Or.inl ⟨by rfl, ?_⟩) hHeld ?_ ?_
 rotate_left
 ·rintro w' ⟨s0, s1, s2⟩
  go_simp
  with_reducible rfl
 rotate_left
 ·simp only [Act.put, List.setIfInBounds_toArray, List.set_cons_zero, List.set_cons_succ, i64_w, i32_w]
  rfl
 refine one_ (i := 2) (N := some 7) #[true, true, true, true, false, false] rfl rfl (by kernel_rfl) (by decide) (fun K hK => ?_)
 refine goes_ Tryd.func113 (by kernel_rfl) rfl #[.agg #[.int .i64 a0_0, .int .i64 a0_1, .int .i64 a0_2], .string a1] (by rfl) rfl rfl (by (try simp only [List.map_toArray, List.map_cons, List.map_nil]); first | done | rfl | (simp only [List.length_drop, List.length_take]; rfl)) ?_
 with_reducible refine (impl_Clue_told.calls k a0_0 a0_1 a0_2 a1 t194 t195 t196 _ A3.out).mono ?_
 rintro e w6 ⟨rfl, hb⟩
 refine ⟨_, rfl, ?_⟩
 have n0_ := bB BK193 hb
 have n1_ := hS HB hb
 clear BK193
 clear HB
 have BK193 := n0_
 have HB := n1_
 clear n0_ n1_
 (try clear hb)
 (try clear hb2)
 (try clear hk)
 (try clear hi)
 refine hK.out _ _ ⟨(blk_cell BK193.out 0).trans rfl, (blk_cell BK193.out 1).trans rfl, (blk_cell BK193.out 2).trans rfl⟩ (fun hHeld => ?_)
 clear hK K
 refine norm_ (a' := ?_) ?_ ?_
 rotate_left
 ·show Act.put _ (some 7) _ = _
  simp only [Act.put, List.setIfInBounds_toArray, List.set_cons_zero, List.set_cons_succ, i64_w, i32_w]
  rfl
 refine pure_ (i := 4) (N := some 9) (v := ?_) (a' := ?_) #[true, true, true, true, true, false] rfl rfl (by kernel_rfl) (fun _ _ _ h => h) (Or.inl ⟨by rfl, ?_⟩) ?_ ?_
 rotate_left
 ·intro w'
  go_simp
  with_reducible rfl
 rotate_left
 ·simp only [Act.put, List.setIfInBounds_toArray, List.set_cons_zero, List.set_cons_succ, i64_w, i32_w]
  rfl
 refine pure_ (i := 5) (N := some 4) (v := ?_) (a' := ?_) #[true, true, true, true, true, true] rfl rfl (by kernel_rfl) (fun _ _ _ h => h) (Or.inl ⟨by rfl, ?_⟩) ?_ ?_
 rotate_left
 ·intro w'
  go_simp
  with_reducible rfl
 rotate_left
 ·simp only [Act.put, List.setIfInBounds_toArray, List.set_cons_zero, List.set_cons_succ, i64_w, i32_w]
  rfl
 refine done_ (by kernel_rfl) ?_
 try go_wp2
 go_ret
 exact ⟨eW, bel HB⟩

/-! ### spec_riState: function 74 -/
def spec_riState.l0 : Nat → Int → Int → ByteArray → Int → Option (ByteArray)
 | 0, _, _, _, _ => none
 | k + 1, x0, x1, x5, x6 => if x6 < x0 then (if 0 ≤ x6 then (if 0 ≤ (wrap64 (x6 + 1)) then (if (Go.bits .and .i64 (shr .i64 x1 x6) 1) = (Go.bits .and .i64 (shr .i64 x1 (wrap64 (x6 + 1))) 1) then (if x5.size + 1 ≤ 9223372036854775807 then (spec_riState.l0 k x0 x1 (x5 ++ (⟨#[48]⟩ : ByteArray)) (wrap64 (x6 + 1))) else (none)) else (if x5.size + 1 ≤ 9223372036854775807 then (spec_riState.l0 k x0 x1 (x5 ++ (⟨#[49]⟩ : ByteArray)) (wrap64 (x6 + 1))) else (none))) else (none)) else (none)) else (some x5)
def spec_riState.f (k : Nat) (a0 : Int) (a1 : Int) : Option (ByteArray) := spec_riState.l0 k a0 a1 (⟨#[]⟩ : ByteArray) 0
theorem spec_riState.mono_l : ∀ k, Mo (spec_riState.l0 k) (spec_riState.l0 (k + 1))
 | 0 => m0
 | k + 1 => by
  have ih0 := spec_riState.mono_l k
  (repeat refine mE fun _ => ?_) <;> first | (unfold spec_riState.l0; exact mG)
instance spec_riState.mI (k : Nat) : Mo (spec_riState.f k) (spec_riState.f (k + 1)) := by
 have ih0 := spec_riState.mono_l k
 (repeat refine mE fun _ => ?_); unfold spec_riState.f; exact mG
theorem spec_riState.mono : ∀ a0 a1 k, LeO (spec_riState.f k a0 a1) (spec_riState.f (k + 1) a0 a1) := fun a0 a1 k => (spec_riState.mI k).out a0 a1
set_option maxHeartbeats 8000000 in
set_option maxRecDepth 100000 in
theorem spec_riState.calls (k : Nat) (a0 : Int) (a1 : Int) (r : ByteArray) (w : World) (h : spec_riState.f k a0 a1 = some r) :
  Calls Tryd.prog 74 #[.int .i64 a0, .int .i64 a1] w fun e w' => e = .returned (.string r) ∧ Drawn0 w w' := by
 have H := h
 clear h; unfold spec_riState.f at H
 have H' := aM H
 clear H
 go_enter Tryd.func74, Tryd.ntmps74
 go_wp2
 repeat (go_quiet (fail); try go_wp2)
 go_loopg [5, 6] k (fun kq v5 v6 w' => ∃ (x5_1 : ByteArray) (x6_1 : Int), v5 = .string x5_1 ∧ v6 = .int .i64 x6_1 ∧ Aside0 (spec_riState.l0 kq a0 a1 x5_1 x6_1 = some r) ∧ Aside0 (kq ≤ k) ∧ Drawn0 w w')
 case atStart => exact ⟨((⟨#[]⟩ : ByteArray)), (0), rF, rF, H', kR, d0⟩
 case round =>
  clear H'
  obtain ⟨x5_1, x6_1, rfl, rfl, HA, HK1, ⟨m1, rfl⟩⟩ := hrel
  obtain rfl | ⟨k1, rfl⟩ := fz gk
  ·exact zA HA
  have H := HA.out
  clear HA
  simp only [spec_riState.l0] at H
  refine iI H ?_ ?_ <;> clear H <;> intro c3 H
  ·have c3b0 := dT c3
   clear c3
   refine iY H ?_; clear H; intro c4 H
   have c4b0 := eq_true c4
   have c4b1 := dT c4
   clear c4
   obtain ⟨ji5, hji5⟩ := jN (shr .i64 a1 x6_1)
   first | rw [hji5] at H | simp only [hji5] at H
   have hji5_ : (a1 / 2 ^ min x6_1.toNat 64) = ji5 := hji5
   have hji5z : x6_1 ≤ 64 → (a1 / 2 ^ x6_1.toNat) = ji5 := shr_small hji5
   obtain ⟨ji6, hji6⟩ := jN (wrap64 (x6_1 + 1))
   first | rw [hji6] at H | simp only [hji6] at H
   have hji6w : (IntKind.i64.wrap (x6_1 + 1)) = ji6 := (i64_w _).trans hji6
   refine iY H ?_; clear H; intro c7 H
   have c7b0 := eq_true c7
   have c7b1 := dT c7
   clear c7
   obtain ⟨ji8, hji8⟩ := jN (shr .i64 a1 (ji6))
   first | rw [hji8] at H | simp only [hji8] at H
   have hji8_ : (a1 / 2 ^ min (ji6).toNat 64) = ji8 := hji8
   have hji8z : (ji6) ≤ 64 → (a1 / 2 ^ (ji6).toNat) = ji8 := shr_small hji8
   refine iI H ?_ ?_ <;> clear H <;> intro c9 H
   ·have c9b0 := qT c9
    have c9b1 := nF c9
    clear c9
    refine iY H ?_; clear H; intro c10 H
    have c10b0 := eq_true c10
    have c10b1 := dT c10
    try have c10b2 : (9223372036854775807 < x5_1.size + 1) = False := eq_false (Nat.not_lt.2 c10)
    have H' := aM H
    clear H
    go_wp2
    repeat (go_quiet (fail); try go_wp2)
    go_roundg k1
    case measure => have := HK1.out; omega
    case rel => exact ⟨(x5_1 ++ (⟨#[48]⟩ : ByteArray)), (ji6), rF, (by first | rfl | (simp; done) | (simp only [← hji6] <;> (first | rfl | simp)) | (simp [*]; done)), H', ⟨by have := HK1.out; omega⟩, d0⟩
   have c9b0 := qF c9
   have c9b1 := nT c9
   refine iY H ?_; clear H; intro c11 H
   have c11b0 := eq_true c11
   have c11b1 := dT c11
   try have c11b2 : (9223372036854775807 < x5_1.size + 1) = False := eq_false (Nat.not_lt.2 c11)
   have H' := aM H
   clear H
   go_wp2
   repeat (go_quiet (fail); try go_wp2)
   go_roundg k1
   case measure => have := HK1.out; omega
   case rel => exact ⟨(x5_1 ++ (⟨#[49]⟩ : ByteArray)), (ji6), rF, (by first | rfl | (simp; done) | (simp only [← hji6] <;> (first | rfl | simp)) | (simp [*]; done)), H', ⟨by have := HK1.out; omega⟩, d0⟩
  have c3b0 := dF c3
  clear c3
  obtain rfl := Option.some.inj H
  go_wp2
  repeat (go_quiet (fail); try go_wp2)
  go_ret
  exact ⟨rF, d0⟩

/-! ### spec_pzFits: function 128 -/
def spec_pzFits.f (k : Nat) (a0_0 : Int) (a0_1 : Int) (a0_2 : Int) (a1 : ByteArray) : Option (Bool) := if a0_0 = 1 then ((spec_pzValue.f k 1 0 a1).bind fun t198 => (some (t198 == a0_1))) else ((spec_pzValue.f k a0_0 a0_1 a1).bind fun t199 => (some (t199 == a0_2)))
instance spec_pzFits.mI (k : Nat) : Mo (spec_pzFits.f k) (spec_pzFits.f (k + 1)) := by
 (repeat refine mE fun _ => ?_); unfold spec_pzFits.f; exact mG
theorem spec_pzFits.mono : ∀ a0 a1 a2 a3 k, LeO (spec_pzFits.f k a0 a1 a2 a3) (spec_pzFits.f (k + 1) a0 a1 a2 a3) := fun a0 a1 a2 a3 k => (spec_pzFits.mI k).out a0 a1 a2 a3
set_option maxHeartbeats 8000000 in
set_option maxRecDepth 100000 in
theorem spec_pzFits.calls (k : Nat) (a0_0 : Int) (a0_1 : Int) (a0_2 : Int) (a1 : ByteArray) (r : Bool) (w : World) (h : spec_pzFits.f k a0_0 a0_1 a0_2 a1 = some r) :
  Calls Tryd.prog 128 #[.agg #[.int .i64 a0_0, .int .i64 a0_1, .int .i64 a0_2], .string a1] w fun e w' => e = .returned (.bool r) ∧ Below w.heap.size w w' := by
 have hu59 := Tryd.underlying59
 have HB := aM (Below.refl w.heap.size w)
 have H := h
 clear h; unfold spec_pzFits.f at H
 refine iI H ?_ ?_ <;> clear H <;> intro c3 H
 ·have c3b0 := qT c3
  have c3b1 := nF c3
  clear c3
  replace H := bC H; obtain ⟨t198, A4, H⟩ := H
  obtain rfl := Option.some.inj H
  go_enter Tryd.func128, Tryd.ntmps128
  go_wp2_with (first | (refine bX (N := 2) rfl (cs := #[.int .i64 a0_0, .int .i64 a0_1, .int .i64 a0_2]) (t := 59) ?_; intro gb197 hg w5 BK197 hb; have GW197 := gE hg HB; have GE197 := gE hg HB; replace HB := hS HB hb; clear hb hg; obtain ⟨hcz6_0, hcz6_1, hcz6_2, hfz6_0, hfz6_1, hfz6_2⟩ := hC3 BK197) | (go_at_call 142; (with_reducible refine (spec_pzValue.calls k 1 0 a1 t198 _ A4.out).mono ?_); rintro e w' ⟨rfl, ⟨nd, rfl⟩⟩; (try exact nd2)))
  repeat (go_quiet (first | (go_at_call 142; (with_reducible refine (spec_pzValue.calls k 1 0 a1 t198 _ A4.out).mono ?_); rintro e w' ⟨rfl, ⟨nd, rfl⟩⟩; (try exact nd2))); try go_wp2_with (first | (refine bX (N := 2) rfl (cs := #[.int .i64 a0_0, .int .i64 a0_1, .int .i64 a0_2]) (t := 59) ?_; intro gb197 hg w5 BK197 hb; have GW197 := gE hg HB; have GE197 := gE hg HB; replace HB := hS HB hb; clear hb hg; obtain ⟨hcz6_0, hcz6_1, hcz6_2, hfz6_0, hfz6_1, hfz6_2⟩ := hC3 BK197) | (go_at_call 142; (with_reducible refine (spec_pzValue.calls k 1 0 a1 t198 _ A4.out).mono ?_); rintro e w' ⟨rfl, ⟨nd, rfl⟩⟩; (try exact nd2))))
  go_ret
  exact ⟨eW, bel HB⟩
 have c3b0 := qF c3
 have c3b1 := nT c3
 replace H := bC H; obtain ⟨t199, A7, H⟩ := H
 obtain rfl := Option.some.inj H
 go_enter Tryd.func128, Tryd.ntmps128
 go_wp2_with (first | (refine bX (N := 2) rfl (cs := #[.int .i64 a0_0, .int .i64 a0_1, .int .i64 a0_2]) (t := 59) ?_; intro gb197 hg w8 BK197 hb; have GW197 := gE hg HB; have GE197 := gE hg HB; replace HB := hS HB hb; clear hb hg; obtain ⟨hcz9_0, hcz9_1, hcz9_2, hfz9_0, hfz9_1, hfz9_2⟩ := hC3 BK197) | (go_at_call 142; (with_reducible refine (spec_pzValue.calls k a0_0 a0_1 a1 t199 _ A7.out).mono ?_); rintro e w' ⟨rfl, ⟨nd, rfl⟩⟩; (try exact nd2)))
 repeat (go_quiet (first | (go_at_call 142; (with_reducible refine (spec_pzValue.calls k a0_0 a0_1 a1 t199 _ A7.out).mono ?_); rintro e w' ⟨rfl, ⟨nd, rfl⟩⟩; (try exact nd2))); try go_wp2_with (first | (refine bX (N := 2) rfl (cs := #[.int .i64 a0_0, .int .i64 a0_1, .int .i64 a0_2]) (t := 59) ?_; intro gb197 hg w8 BK197 hb; have GW197 := gE hg HB; have GE197 := gE hg HB; replace HB := hS HB hb; clear hb hg; obtain ⟨hcz9_0, hcz9_1, hcz9_2, hfz9_0, hfz9_1, hfz9_2⟩ := hC3 BK197) | (go_at_call 142; (with_reducible refine (spec_pzValue.calls k a0_0 a0_1 a1 t199 _ A7.out).mono ?_); rintro e w' ⟨rfl, ⟨nd, rfl⟩⟩; (try exact nd2))))
 go_ret
 exact ⟨eW, bel HB⟩

end Go.Proofs.YtcogjabdddikjaaDoor.PHidAll
