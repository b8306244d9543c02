-- squeezed (sq3.py); PRINTED by drive.py (a program of this session's, over the kit's print.py; wip/tools/drive.py). Lean checks it.
import Derived.Test.YtpdkjehplfgjcabGreatDoorQPHidx0
import Derived.Test.YtpdkjehplfgjcabGreatDoorQPHidx1
import Derived.Test.YtpdkjehplfgjcabGreatDoorQPHidx2
import Derived.Test.YtpdkjehplfgjcabGreatDoorQPHidx3
import Derived.Test.YtpdkjehplfgjcabGreatDoorQPHidx4
import Derived.Test.YtpdkjehplfgjcabGreatDoorQPHidx8
import Derived.Test.YtpdkjehplfgjcabGreatDoorQSq
namespace Go.Proofs.YtpdkjehplfgjcabGreatDoor.PHid
open Go.RowKit Go.Proofs.YtpdkjehplfgjcabGreatDoorW.PrintWords Go.Proofs.YtpdkjehplfgjcabGreatDoorW.PrintLast Go.Proofs.YtpdkjehplfgjcabGreatDoorW.PrintMore
attribute [local go_sem] max2_int min2_int max_two min_two max_three min_three max_four min_four   -- for this text's walks alone
set_option linter.unusedVariables false
set_option linter.unusedSimpArgs false

attribute [local go_sem high] eqA40
/-! ### spec_pzClue: function 62 -/
def spec_pzClue.j0 : Nat → Int → Int → Bool → Int → Int → Int → Option (Bool)
 | 0, _, _, _, _, _, _ => none
 | k + 1, x0, x6, x7, x228000, x228001, x228002 => if x7 = true then ((spec_l1In.f x228001 0 (wrap64 (x0 - 1))).bind fun t228 => (if t228 = true then ((spec_l1In.f x228002 0 1).bind fun t229 => (some t229)) else (some false))) else (if x6 = 1 then ((spec_l1In.f x228001 0 x0).bind fun t230 => (if t230 = true then (some (x228002 == 0)) else (some false))) else (if x6 = 2 then ((spec_l1In.f x228001 2 9).bind fun t231 => (if t231 = true then ((spec_l1In.f x228002 0 (wrap64 (x228001 - 1))).bind fun t232 => (some t232)) else (some false))) else (if x6 = 3 then (if 0 ≤ x0 then ((spec_l1In.f x228001 0 (wrap64 ((shl .i64 1 x0) - 1))).bind fun t233 => (if t233 = true then ((spec_l1In.f x228002 0 127).bind fun t234 => (some t234)) else (some false))) else (none)) else (some false))))
def spec_pzClue.f (k : Nat) (a0 : Int) (a1_0 : Int) (a1_1 : Int) (a1_2 : Int) : Option (Bool) := if a1_0 = 0 then (spec_pzClue.j0 k a0 a1_0 (a1_0 == 0) a1_0 a1_1 a1_2) else (spec_pzClue.j0 k a0 a1_0 (a1_0 == 4) a1_0 a1_1 a1_2)
theorem spec_pzClue.mono_l : ∀ k, Mo (spec_pzClue.j0 k) (spec_pzClue.j0 (k + 1))
 | 0 => m0
 | k + 1 => by
  have ih0 := spec_pzClue.mono_l k
  (repeat refine mE fun _ => ?_) <;> first | (unfold spec_pzClue.j0; exact mG)
instance spec_pzClue.mI (k : Nat) : Mo (spec_pzClue.f k) (spec_pzClue.f (k + 1)) := by
 have ih0 := spec_pzClue.mono_l k
 (repeat refine mE fun _ => ?_); unfold spec_pzClue.f; exact mG
theorem spec_pzClue.mono : ∀ a0 a1 a2 a3 k, LeO (spec_pzClue.f k a0 a1 a2 a3) (spec_pzClue.f (k + 1) a0 a1 a2 a3) := fun a0 a1 a2 a3 k => (spec_pzClue.mI k).out a0 a1 a2 a3
set_option maxHeartbeats 8000000 in
set_option maxRecDepth 100000 in
theorem spec_pzClue.calls (k : Nat) (a0 : Int) (a1_0 : Int) (a1_1 : Int) (a1_2 : Int) (r : Bool) (w : World) (h : spec_pzClue.f k a0 a1_0 a1_1 a1_2 = some r) :
  Calls Tryz.prog 62 #[.int .i64 a0, .agg #[.int .i64 a1_0, .int .i64 a1_1, .int .i64 a1_2]] w fun e w' => e = .returned (.bool r) ∧ Below w.heap.size w w' := by
 have hu40 := Tryz.underlying40
 have HB := aM (Below.refl w.heap.size w)
 have H := h
 clear h; unfold spec_pzClue.f at H
 have HC3 := aM H
 clear H
 go_enter Tryz.func62, Tryz.ntmps62
 go_upto_if 7 with (first | (refine bX (N := 3) rfl (cs := #[.int .i64 a1_0, .int .i64 a1_1, .int .i64 a1_2]) (t := 40) ?_; intro gb227 hg w4 BK227 hb; have GW227 := gE hg HB; have GE227 := gE hg HB; replace HB := hS HB hb; clear hb hg; obtain ⟨hcz5_0, hcz5_1, hcz5_2, hfz5_0, hfz5_1, hfz5_2⟩ := hC3 BK227))
 repeat (go_quiet (fail); go_upto_if 7 with (first | (refine bX (N := 3) rfl (cs := #[.int .i64 a1_0, .int .i64 a1_1, .int .i64 a1_2]) (t := 40) ?_; intro gb227 hg w4 BK227 hb; have GW227 := gE hg HB; have GE227 := gE hg HB; replace HB := hS HB hb; clear hb hg; obtain ⟨hcz5_0, hcz5_1, hcz5_2, hfz5_0, hfz5_1, hfz5_2⟩ := hC3 BK227)))
 (try simp only [Act.put, List.setIfInBounds_toArray, List.set_cons_zero, List.set_cons_succ])
 go_cut [7] (fun v7 wc => ∃ (kq : Nat) (x7_2 : Bool), v7 = .bool x7_2 ∧ Aside0 (spec_pzClue.j0 kq a0 a1_0 x7_2 a1_0 a1_1 a1_2 = some r) ∧ Aside0 (kq ≤ k) ∧ Aside0 (wc.heap[gb227]? = some (.cells #[.int .i64 a1_0, .int .i64 a1_1, .int .i64 a1_2] 40 (0, 0))) ∧ Aside0 (Below w.heap.size w wc))
 case first =>
  have H := HC3.out
  clear HC3
  refine iI H ?_ ?_ <;> clear H <;> intro c6 H
  ·have c6b0 := qT c6
   have c6b1 := nF c6
   clear c6
   (first | rw [c6b0] | (simp only [i64_w, i32_w]; rw [c6b0]) | skip)
   have H' := aM H
   clear H
   go_wp2
   repeat (go_quiet (fail); try go_wp2)
   go_meet
   case rel => exact ⟨_, ((a1_0 == 0)), rF, H', kL, ⟨bU BK227.out⟩, hV HB⟩
  have c6b0 := qF c6
  have c6b1 := nT c6
  (first | rw [c6b0] | (simp only [i64_w, i32_w]; rw [c6b0]) | skip)
  have H' := aM H
  clear H
  go_wp2
  repeat (go_quiet (fail); try go_wp2)
  go_meet
  case rel => exact ⟨_, ((a1_0 == 4)), rF, H', kL, ⟨bU BK227.out⟩, hV HB⟩
 case rest =>
  clear HC3
  try clear hcz5_0;try clear hcz5_1;try clear hcz5_2;try clear hfz5_0;try clear hfz5_1;try clear hfz5_2
  obtain ⟨kq, x7_2, rfl, HA, HJ2, BK227, HB⟩ := hcut
  obtain rfl | ⟨kj2, rfl⟩ := fz kq
  ·exact zA HA
  have H := HA.out
  clear HA
  simp only [spec_pzClue.j0] at H
  refine iB H ?_ ?_ <;> clear H <;> rintro rfl H
  ·replace H := bC H; obtain ⟨t228, A8, H⟩ := H
   refine iB H ?_ ?_ <;> clear H <;> rintro rfl H
   ·replace H := bC H; obtain ⟨t229, A10, H⟩ := H
    obtain rfl := Option.some.inj H
    obtain ⟨hcz11_0, hcz11_1, hcz11_2, hfz11_0, hfz11_1, hfz11_2⟩ := hC3 BK227
    go_wp2_with (first | (go_at_call 44; (with_reducible refine (spec_l1In.calls a1_1 0 (wrap64 (a0 - 1)) true _ A8.out).mono ?_); rintro e w' ⟨rfl, ⟨nd, rfl⟩⟩; (try exact nd2)) | (go_at_call 44; (with_reducible refine (spec_l1In.calls a1_2 0 1 t229 _ A10.out).mono ?_); rintro e w' ⟨rfl, ⟨nd, rfl⟩⟩; (try exact nd2)))
    repeat (go_quiet (first | (go_at_call 44; (with_reducible refine (spec_l1In.calls a1_1 0 (wrap64 (a0 - 1)) true _ A8.out).mono ?_); rintro e w' ⟨rfl, ⟨nd, rfl⟩⟩; (try exact nd2)) | (go_at_call 44; (with_reducible refine (spec_l1In.calls a1_2 0 1 t229 _ A10.out).mono ?_); rintro e w' ⟨rfl, ⟨nd, rfl⟩⟩; (try exact nd2))); try go_wp2_with (first | (go_at_call 44; (with_reducible refine (spec_l1In.calls a1_1 0 (wrap64 (a0 - 1)) true _ A8.out).mono ?_); rintro e w' ⟨rfl, ⟨nd, rfl⟩⟩; (try exact nd2)) | (go_at_call 44; (with_reducible refine (spec_l1In.calls a1_2 0 1 t229 _ A10.out).mono ?_); rintro e w' ⟨rfl, ⟨nd, rfl⟩⟩; (try exact nd2))))
    go_ret
    exact ⟨eW, bel HB⟩
   obtain rfl := Option.some.inj H
   obtain ⟨hcz12_0, hcz12_1, hcz12_2, hfz12_0, hfz12_1, hfz12_2⟩ := hC3 BK227
   go_wp2_with (first | (go_at_call 44; (with_reducible refine (spec_l1In.calls a1_1 0 (wrap64 (a0 - 1)) false _ A8.out).mono ?_); rintro e w' ⟨rfl, ⟨nd, rfl⟩⟩; (try exact nd2)))
   repeat (go_quiet (first | (go_at_call 44; (with_reducible refine (spec_l1In.calls a1_1 0 (wrap64 (a0 - 1)) false _ A8.out).mono ?_); rintro e w' ⟨rfl, ⟨nd, rfl⟩⟩; (try exact nd2))); try go_wp2_with (first | (go_at_call 44; (with_reducible refine (spec_l1In.calls a1_1 0 (wrap64 (a0 - 1)) false _ A8.out).mono ?_); rintro e w' ⟨rfl, ⟨nd, rfl⟩⟩; (try exact nd2))))
   go_ret
   exact ⟨eW, bel HB⟩
  refine iI H ?_ ?_ <;> clear H <;> intro c13 H
  ·have c13b0 := qT c13
   have c13b1 := nF c13
   clear c13
   replace H := bC H; obtain ⟨t230, A14, H⟩ := H
   refine iB H ?_ ?_ <;> clear H <;> rintro rfl H
   ·obtain rfl := Option.some.inj H
    obtain ⟨hcz16_0, hcz16_1, hcz16_2, hfz16_0, hfz16_1, hfz16_2⟩ := hC3 BK227
    go_wp2_with (first | (go_at_call 44; (with_reducible refine (spec_l1In.calls a1_1 0 a0 true _ A14.out).mono ?_); rintro e w' ⟨rfl, ⟨nd, rfl⟩⟩; (try exact nd2)))
    repeat (go_quiet (first | (go_at_call 44; (with_reducible refine (spec_l1In.calls a1_1 0 a0 true _ A14.out).mono ?_); rintro e w' ⟨rfl, ⟨nd, rfl⟩⟩; (try exact nd2))); try go_wp2_with (first | (go_at_call 44; (with_reducible refine (spec_l1In.calls a1_1 0 a0 true _ A14.out).mono ?_); rintro e w' ⟨rfl, ⟨nd, rfl⟩⟩; (try exact nd2))))
    go_ret
    exact ⟨eW, bel HB⟩
   obtain rfl := Option.some.inj H
   obtain ⟨hcz17_0, hcz17_1, hcz17_2, hfz17_0, hfz17_1, hfz17_2⟩ := hC3 BK227
   go_wp2_with (first | (go_at_call 44; (with_reducible refine (spec_l1In.calls a1_1 0 a0 false _ A14.out).mono ?_); rintro e w' ⟨rfl, ⟨nd, rfl⟩⟩; (try exact nd2)))
   repeat (go_quiet (first | (go_at_call 44; (with_reducible refine (spec_l1In.calls a1_1 0 a0 false _ A14.out).mono ?_); rintro e w' ⟨rfl, ⟨nd, rfl⟩⟩; (try exact nd2))); try go_wp2_with (first | (go_at_call 44; (with_reducible refine (spec_l1In.calls a1_1 0 a0 false _ A14.out).mono ?_); rintro e w' ⟨rfl, ⟨nd, rfl⟩⟩; (try exact nd2))))
   go_ret
   exact ⟨eW, bel HB⟩
  have c13b0 := qF c13
  have c13b1 := nT c13
  refine iI H ?_ ?_ <;> clear H <;> intro c18 H
  ·have c18b0 := qT c18
   have c18b1 := nF c18
   clear c18
   replace H := bC H; obtain ⟨t231, A19, H⟩ := H
   refine iB H ?_ ?_ <;> clear H <;> rintro rfl H
   ·replace H := bC H; obtain ⟨t232, A21, H⟩ := H
    obtain rfl := Option.some.inj H
    obtain ⟨hcz22_0, hcz22_1, hcz22_2, hfz22_0, hfz22_1, hfz22_2⟩ := hC3 BK227
    go_wp2_with (first | (go_at_call 44; (with_reducible refine (spec_l1In.calls a1_1 2 9 true _ A19.out).mono ?_); rintro e w' ⟨rfl, ⟨nd, rfl⟩⟩; (try exact nd2)) | (go_at_call 44; (with_reducible refine (spec_l1In.calls a1_2 0 (wrap64 (a1_1 - 1)) t232 _ A21.out).mono ?_); rintro e w' ⟨rfl, ⟨nd, rfl⟩⟩; (try exact nd2)))
    repeat (go_quiet (first | (go_at_call 44; (with_reducible refine (spec_l1In.calls a1_1 2 9 true _ A19.out).mono ?_); rintro e w' ⟨rfl, ⟨nd, rfl⟩⟩; (try exact nd2)) | (go_at_call 44; (with_reducible refine (spec_l1In.calls a1_2 0 (wrap64 (a1_1 - 1)) t232 _ A21.out).mono ?_); rintro e w' ⟨rfl, ⟨nd, rfl⟩⟩; (try exact nd2))); try go_wp2_with (first | (go_at_call 44; (with_reducible refine (spec_l1In.calls a1_1 2 9 true _ A19.out).mono ?_); rintro e w' ⟨rfl, ⟨nd, rfl⟩⟩; (try exact nd2)) | (go_at_call 44; (with_reducible refine (spec_l1In.calls a1_2 0 (wrap64 (a1_1 - 1)) t232 _ A21.out).mono ?_); rintro e w' ⟨rfl, ⟨nd, rfl⟩⟩; (try exact nd2))))
    go_ret
    exact ⟨eW, bel HB⟩
   obtain rfl := Option.some.inj H
   obtain ⟨hcz23_0, hcz23_1, hcz23_2, hfz23_0, hfz23_1, hfz23_2⟩ := hC3 BK227
   go_wp2_with (first | (go_at_call 44; (with_reducible refine (spec_l1In.calls a1_1 2 9 false _ A19.out).mono ?_); rintro e w' ⟨rfl, ⟨nd, rfl⟩⟩; (try exact nd2)))
   repeat (go_quiet (first | (go_at_call 44; (with_reducible refine (spec_l1In.calls a1_1 2 9 false _ A19.out).mono ?_); rintro e w' ⟨rfl, ⟨nd, rfl⟩⟩; (try exact nd2))); try go_wp2_with (first | (go_at_call 44; (with_reducible refine (spec_l1In.calls a1_1 2 9 false _ A19.out).mono ?_); rintro e w' ⟨rfl, ⟨nd, rfl⟩⟩; (try exact nd2))))
   go_ret
   exact ⟨eW, bel HB⟩
  have c18b0 := qF c18
  have c18b1 := nT c18
  refine iI H ?_ ?_ <;> clear H <;> intro c24 H
  ·have c24b0 := qT c24
   have c24b1 := nF c24
   clear c24
   refine iY H ?_; clear H; intro c25 H
   have c25b0 := eq_true c25
   have c25b1 := dT c25
   clear c25
   obtain ⟨ji26, hji26⟩ := jN (shl .i64 1 a0)
   first | rw [hji26] at H | simp only [hji26] at H
   have hji26_ : (IntKind.i64.wrap (1 * 2 ^ min a0.toNat 64)) = ji26 := hji26
   have hji26z : a0 ≤ 64 → (IntKind.i64.wrap (1 * 2 ^ a0.toNat)) = ji26 := shl_small hji26
   have hji26u : (IntKind.i64.wrap (2 ^ min a0.toNat 64)) = ji26 := by have h_ := hji26_; rw [Int.one_mul] at h_; exact h_
   have hji26v : a0 ≤ 64 → (IntKind.i64.wrap (2 ^ a0.toNat)) = ji26 := fun hle_ => by have h_ := hji26z hle_; rw [Int.one_mul] at h_; exact h_
   have hji26y : (wrap64 (1 * 2 ^ min a0.toNat 64)) = ji26 := (i64_w _).symm.trans hji26_
   have hji26x : a0 ≤ 64 → (wrap64 (1 * 2 ^ a0.toNat)) = ji26 := fun h_ => (i64_w _).symm.trans (hji26z h_)
   replace H := bC H; obtain ⟨t233, A27, H⟩ := H
   refine iB H ?_ ?_ <;> clear H <;> rintro rfl H
   ·replace H := bC H; obtain ⟨t234, A29, H⟩ := H
    obtain rfl := Option.some.inj H
    obtain ⟨hcz30_0, hcz30_1, hcz30_2, hfz30_0, hfz30_1, hfz30_2⟩ := hC3 BK227
    go_wp2_with (first | (go_at_call 44; (with_reducible refine (spec_l1In.calls a1_1 0 (wrap64 ((ji26) - 1)) true _ A27.out).mono ?_); rintro e w' ⟨rfl, ⟨nd, rfl⟩⟩; (try exact nd2)) | (go_at_call 44; (with_reducible refine (spec_l1In.calls a1_2 0 127 t234 _ A29.out).mono ?_); rintro e w' ⟨rfl, ⟨nd, rfl⟩⟩; (try exact nd2)))
    repeat (go_quiet (first | (go_at_call 44; (with_reducible refine (spec_l1In.calls a1_1 0 (wrap64 ((ji26) - 1)) true _ A27.out).mono ?_); rintro e w' ⟨rfl, ⟨nd, rfl⟩⟩; (try exact nd2)) | (go_at_call 44; (with_reducible refine (spec_l1In.calls a1_2 0 127 t234 _ A29.out).mono ?_); rintro e w' ⟨rfl, ⟨nd, rfl⟩⟩; (try exact nd2))); try go_wp2_with (first | (go_at_call 44; (with_reducible refine (spec_l1In.calls a1_1 0 (wrap64 ((ji26) - 1)) true _ A27.out).mono ?_); rintro e w' ⟨rfl, ⟨nd, rfl⟩⟩; (try exact nd2)) | (go_at_call 44; (with_reducible refine (spec_l1In.calls a1_2 0 127 t234 _ A29.out).mono ?_); rintro e w' ⟨rfl, ⟨nd, rfl⟩⟩; (try exact nd2))))
    go_ret
    exact ⟨by first | rfl | (simp [errW_none, errW_some] <;> rfl) | (simp only [← hji26]; first | rfl | (simp [errW_none, errW_some] <;> rfl)) | (simp [*, errW_none, errW_some] <;> rfl), bel HB⟩
   obtain rfl := Option.some.inj H
   obtain ⟨hcz31_0, hcz31_1, hcz31_2, hfz31_0, hfz31_1, hfz31_2⟩ := hC3 BK227
   go_wp2_with (first | (go_at_call 44; (with_reducible refine (spec_l1In.calls a1_1 0 (wrap64 ((ji26) - 1)) false _ A27.out).mono ?_); rintro e w' ⟨rfl, ⟨nd, rfl⟩⟩; (try exact nd2)))
   repeat (go_quiet (first | (go_at_call 44; (with_reducible refine (spec_l1In.calls a1_1 0 (wrap64 ((ji26) - 1)) false _ A27.out).mono ?_); rintro e w' ⟨rfl, ⟨nd, rfl⟩⟩; (try exact nd2))); try go_wp2_with (first | (go_at_call 44; (with_reducible refine (spec_l1In.calls a1_1 0 (wrap64 ((ji26) - 1)) false _ A27.out).mono ?_); rintro e w' ⟨rfl, ⟨nd, rfl⟩⟩; (try exact nd2))))
   go_ret
   exact ⟨by first | rfl | (simp [errW_none, errW_some] <;> rfl) | (simp only [← hji26]; first | rfl | (simp [errW_none, errW_some] <;> rfl)) | (simp [*, errW_none, errW_some] <;> rfl), bel HB⟩
  have c24b0 := qF c24
  have c24b1 := nT c24
  obtain rfl := Option.some.inj H
  go_wp2
  repeat (go_quiet (fail); try go_wp2)
  go_ret
  exact ⟨eW, bel HB⟩

/-! ### impl_IsPuzzle: function 14 -/
-- by hand (wip/ext/IsPuzzle.tpl)
theorem pzClue_eq (n : Nat) (r k a b : Int) (h : 0 ≤ r) : spec_pzClue.f (n + 1) r k a b = some (clueB r k a b) := by
  simp only [spec_pzClue.f, spec_pzClue.j0, spec_l1In.f, inB_ite, Option.bind_some, and_some, clueB]
  by_cases h0 : k = 0
  · simp [h0]
  · by_cases h4 : k = 4
    · simp [h4]
    · by_cases h1 : k = 1
      · simp [h1]
      · by_cases h2 : k = 2
        · simp [h2]
        · by_cases h3 : k = 3
          · simp [h3, h]
          · simp [h0, h1, h2, h3, h4]
theorem implClue_j0 (k : Nat) (a b : Int) (t : Bool) (c d e : Int) : impl_IsClue.j0 k a b t c d e = spec_pzClue.j0 k a b t c d e := by
  cases k with
  | zero => rfl
  | succ k => rfl
theorem implClue_eq (n : Nat) (r k a b : Int) : impl_IsClue.f (n + 1) r k a b = some (isClueB r k a b) := by
  simp only [impl_IsClue.f, impl_in.f, inB_ite, Option.bind_some, isClueB, implClue_j0]
  cases h : inB r 1 7
  · rfl
  · have := pzClue_eq n r k a b (by have := inB_lo h; omega)
    simp only [spec_pzClue.f] at this
    simp [this]
theorem impl_IsPuzzle.f1 : Tryz.prog.funcs[54]? = some Tryz.f54 ∧ (Tryz.f54.name == "runtime.NumGoroutine") = false ∧ Tryz.f54.body.isSome = true := ⟨Tryz.func54, by kernel_rfl, by kernel_rfl⟩
set_option maxHeartbeats 400000 in
theorem impl_IsPuzzle.c1 (g : Nat) (r a b c : Int) (w : World) (hg : w.cell? ⟨g, 0, none⟩ = some (.int .i64 r)) :
    Calls Tryz.prog 54 #[.agg #[.int .i64 a, .int .i64 b, .int .i64 c], .pointer (some ⟨g, 0, none⟩)] w fun e w' => e = .returned (.bool (!isClueB r a b c)) ∧ Below w.heap.size w w' := by
  have hlt := World.block_lt_of_cell? w _ hg
  have hg2 : (w.alloc (.cells #[.int .i64 a, .int .i64 b, .int .i64 c] 40)).cell? ⟨g, 0, none⟩ = some (.int .i64 r) := by
    rw [World.cell?_alloc_past _ _ _ hlt]; exact hg
  have hu25 := Tryz.underlying40
  have hu35 := Tryz.underlying28
  have hc := impl_IsClue.calls 1 r a b c _ (w.alloc (.cells #[.int .i64 a, .int .i64 b, .int .i64 c] 40)) (implClue_eq 0 r a b c)
  have HC := aM hc
  clear hc
  go_enter Tryz.func54, Tryz.ntmps54
  go_wp2_with (go_at_call 32; refine HC.out.mono ?_; rintro e w' ⟨rfl, hb⟩; have HB := aM hb; clear hb)
  go_ret
  exact ⟨rfl, ((Below.refl _ _).alloc (Nat.le_refl _) _).trans (HB.out.mono (by simp))⟩
def isPuzzleB (r : Int) (l : List S40) : Bool := inB r 1 7 && decide (l.length ≤ 6) && !(l.any fun x => !isClueB r x.f0 x.f1 x.f2)
def impl_IsPuzzle.f (a0_0 : Int) (l0_1 : List S40) : Option Bool := some (isPuzzleB a0_0 l0_1)
set_option maxHeartbeats 1000000 in
set_option maxRecDepth 100000 in
theorem impl_IsPuzzle.calls (a0_0 : Int) (A0_1 : Option Addr) (c0_1 : Nat) (l0_1 : List S40) (r : Bool) (w : World) (hr0_1 : Kd.C k40 w A0_1 l0_1.length l0_1) (hc0_1 : l0_1.length ≤ c0_1) (h : impl_IsPuzzle.f a0_0 l0_1 = some r) :
    Calls Tryz.prog 14 #[.agg #[.int .i64 a0_0, .slice A0_1 l0_1.length c0_1]] w fun e w' => e = .returned (.bool r) ∧ Below w.heap.size w w' := by
 obtain rfl := Option.some.inj h
 clear h
 have hl := hr0_1.2.1
 have HC := aM (fun (W : World) (hb : Below w.heap.size w W) (hg : W.cell? ⟨w.heap.size, 0, none⟩ = some (.int .i64 a0_0)) =>
  impl_Clue_53.any 54 Tryz.f54 impl_IsPuzzle.f1 #[.pointer (some ⟨w.heap.size, 0, none⟩)] (fun x => !isClueB a0_0 x.f0 x.f1 x.f2) A0_1 c0_1 l0_1 W (Kd.C_below hr0_1 hb)
   (fun w1 x _ hb1 => impl_IsPuzzle.c1 w.heap.size a0_0 x.f0 x.f1 x.f2 w1 ((hb1.cell (World.block_lt_of_cell? W _ hg)).trans hg)))
 have HI := aM (fun w1 => impl_in.calls a0_0 1 7 _ w1 (inB_ite a0_0 1 7))
 have hmf : ∀ (fn : Fn) (first cap : Array Value) (w : World), (Instr.makeFunc fn first cap).run Tryz.prog w = .ok (.func fn first cap) w := fun _ _ _ _ => rfl
 have hu35 := Tryz.underlying28
 clear hr0_1
 obtain ⟨R, hR⟩ : ∃ R, R = isPuzzleB a0_0 l0_1 := ⟨_, rfl⟩
 rw [← hR]
 unfold isPuzzleB at hR
 have HX := aM hR
 clear hR
 go_enter Tryz.func14, Tryz.ntmps14
 go_wp2_with (first
  | (go_at_call 40; refine (HI.out _).mono ?_; rintro e w' ⟨rfl, ⟨n, rfl⟩⟩)
  | (go_at_call 53; refine (HC.out _ (pw_below_drewN (below_alloc (Below.refl _ _) _) _) (by go_simp)).mono ?_; rintro e w' ⟨rfl, hb⟩; have HB := aM hb; clear hb))
 all_goals go_ret
 ·have h1 : inB a0_0 1 7 = true := by assumption
  have h2 : (l0_1.length : Int) ≤ 6 := by assumption
  exact ⟨ret_bool (by rw [HX.out, h1, decide_eq_true (by omega)]; simp), below_step (pw_below_drewN (below_alloc (Below.refl _ _) _) _) HB.out⟩
 ·have h1 : inB a0_0 1 7 = true := by assumption
  have h2 : 6 < (l0_1.length : Int) := by assumption
  exact ⟨ret_bool (by rw [HX.out, h1, decide_eq_false (by omega)]; simp), pw_below_drewN (below_alloc (Below.refl _ _) _) _⟩
 have h1 : ¬ inB a0_0 1 7 = true := by assumption
 exact ⟨ret_bool (by rw [HX.out]; simp [h1]), pw_below_drewN (below_alloc (Below.refl _ _) _) _⟩

/-! ### impl_Clue_fits: function 50 -/
def impl_Clue_fits.f (k : Nat) (a0_0 : Int) (a0_1 : Int) (a0_2 : Int) (a1 : ByteArray) : Option (Bool) := (impl_Clue_told.f k a0_0 a0_1 a0_2 a1).bind fun bt236 => (some (bt236.1 == a0_0 && (bt236.2.1 == a0_1 && (bt236.2.2 == a0_2))))
instance impl_Clue_fits.mI (k : Nat) : Mo (impl_Clue_fits.f k) (impl_Clue_fits.f (k + 1)) := by
 (repeat refine mE fun _ => ?_); unfold impl_Clue_fits.f; exact mG
theorem impl_Clue_fits.mono : ∀ a0 a1 a2 a3 k, LeO (impl_Clue_fits.f k a0 a1 a2 a3) (impl_Clue_fits.f (k + 1) a0 a1 a2 a3) := fun a0 a1 a2 a3 k => (impl_Clue_fits.mI k).out a0 a1 a2 a3
set_option maxHeartbeats 8000000 in
set_option maxRecDepth 100000 in
theorem impl_Clue_fits.calls (k : Nat) (a0_0 : Int) (a0_1 : Int) (a0_2 : Int) (a1 : ByteArray) (r : Bool) (w : World) (h : impl_Clue_fits.f k a0_0 a0_1 a0_2 a1 = some r) :
  Calls Tryz.prog 50 #[.agg #[.int .i64 a0_0, .int .i64 a0_1, .int .i64 a0_2], .string a1] w fun e w' => e = .returned (.bool r) ∧ Below w.heap.size w w' := by
 have hu40 := Tryz.underlying40
 have HB := aM (Below.refl w.heap.size w)
 have H := h
 clear h; unfold impl_Clue_fits.f at H
 replace H := bC H; obtain ⟨⟨t236, t237, t238⟩, A3, H⟩ := H; try dsimp only at H
 obtain rfl := Option.some.inj H
 go_enter Tryz.func50, Tryz.ntmps50
 try go_wp2_with (first | (refine bX (N := 2) rfl (cs := #[.int .i64 a0_0, .int .i64 a0_1, .int .i64 a0_2]) (t := 40) ?_; intro gb235 hg w4 BK235 hb; have GW235 := gE hg HB; have GE235 := gE hg HB; replace HB := hS HB hb; clear hb hg))
 have n0_ := aM (blk_drew BK235.out)
 have n1_ := aM (below_drew1 HB.out)
 clear BK235
 clear HB
 have BK235 := n0_
 have HB := n1_
 clear n0_ n1_
 refine start_ (n := 6) (S := fun w' => w'.cell? ⟨gb235, 0, none⟩ = some (.int .i64 a0_0) ∧ w'.cell? ⟨gb235, 1, none⟩ = some (.int .i64 a0_1) ∧ w'.cell? ⟨gb235, 2, none⟩ = some (.int .i64 a0_2)) (ds := []) (bn 6 0) (by kernel_rfl) rfl rfl ⟨(blk_cell BK235.out 0).trans rfl, (blk_cell BK235.out 1).trans rfl, (blk_cell BK235.out 2).trans rfl⟩ (fun hHeld => ?_)
 generalize w4.drew = w5 at BK235 HB hHeld ⊢
 refine pure_ (i := 1) (N := some 6) (v := ?_) (a' := ?_) (bn 6 2) rfl rfl (by kernel_rfl) (fun _ _ _ h => h) (Or.inl ⟨by rfl, ?_⟩) ?_ ?_
 rotate_left
 ·intro w'
  go_simp
  with_reducible rfl
 rotate_left
 ·simp only [Act.put, List.setIfInBounds_toArray, List.set_cons_zero, List.set_cons_succ, i64_w, i32_w]
  rfl
 refine take_ (i := 0) (N := some 5) (v := ?_) (a' := ?_) (bn 6 3) rfl rfl (by kernel_rfl) (fun _ _ _ h => h) (Or.inl ⟨by rfl, ?_⟩) hHeld ?_ ?_
 rotate_left
 ·rintro w' ⟨s0, s1, s2⟩
  go_simp
  with_reducible rfl
 rotate_left
 ·simp only [Act.put, List.setIfInBounds_toArray, List.set_cons_zero, List.set_cons_succ, i64_w, i32_w]
  rfl
 refine take_ (i := 3) (N := some 8) (v := ?_) (a' := ?_) (bn 6 11) rfl rfl (by kernel_rfl) (fun _ _ _ h => h) (Or.inl ⟨by rfl, ?_⟩) hHeld ?_ ?_
 rotate_left
 ·rintro w' ⟨s0, s1, s2⟩
  go_simp
  with_reducible rfl
 rotate_left
 ·simp only [Act.put, List.setIfInBounds_toArray, List.set_cons_zero, List.set_cons_succ, i64_w, i32_w]
  rfl
 refine one_ (i := 2) (N := some 7) (bn 6 15) rfl rfl (by kernel_rfl) (by decide) (fun K hK => ?_)
 refine goes_ Tryz.func42 (by kernel_rfl) rfl #[.agg #[.int .i64 a0_0, .int .i64 a0_1, .int .i64 a0_2], .string a1] (by rfl) rfl rfl (by (try simp only [List.map_toArray, List.map_cons, List.map_nil]); first | done | rfl | (simp only [List.length_drop, List.length_take]; rfl)) ?_
 with_reducible refine (impl_Clue_told.calls k a0_0 a0_1 a0_2 a1 t236 t237 t238 _ A3.out).mono ?_
 rintro e w6 ⟨rfl, hb⟩
 refine ⟨_, rfl, ?_⟩
 have n0_ := bB BK235 hb
 have n1_ := hS HB hb
 clear BK235
 clear HB
 have BK235 := n0_
 have HB := n1_
 clear n0_ n1_
 (try clear hb)
 (try clear hb2)
 (try clear hk)
 (try clear hi)
 refine hK.out _ _ ⟨(blk_cell BK235.out 0).trans rfl, (blk_cell BK235.out 1).trans rfl, (blk_cell BK235.out 2).trans rfl⟩ (fun hHeld => ?_)
 clear hK K
 refine norm_ (a' := ?_) ?_ ?_
 rotate_left
 ·show Act.put _ (some 7) _ = _
  simp only [Act.put, List.setIfInBounds_toArray, List.set_cons_zero, List.set_cons_succ, i64_w, i32_w]
  rfl
 refine pure_ (i := 4) (N := some 9) (v := ?_) (a' := ?_) (bn 6 31) rfl rfl (by kernel_rfl) (fun _ _ _ h => h) (Or.inl ⟨by rfl, ?_⟩) ?_ ?_
 rotate_left
 ·intro w'
  go_simp
  with_reducible rfl
 rotate_left
 ·simp only [Act.put, List.setIfInBounds_toArray, List.set_cons_zero, List.set_cons_succ, i64_w, i32_w]
  rfl
 refine pure_ (i := 5) (N := some 4) (v := ?_) (a' := ?_) (bn 6 63) rfl rfl (by kernel_rfl) (fun _ _ _ h => h) (Or.inl ⟨by rfl, ?_⟩) ?_ ?_
 rotate_left
 ·intro w'
  go_simp
  with_reducible rfl
 rotate_left
 ·simp only [Act.put, List.setIfInBounds_toArray, List.set_cons_zero, List.set_cons_succ, i64_w, i32_w]
  rfl
 refine done_ (by kernel_rfl) ?_
 try go_wp2
 go_ret
 exact ⟨eW, bel HB⟩

/-! ### spec_pzFits: function 63 -/
def spec_pzFits.f (k : Nat) (a0_0 : Int) (a0_1 : Int) (a0_2 : Int) (a1 : ByteArray) : Option (Bool) := if a0_0 = 1 then ((spec_pzValue.f k 1 0 a1).bind fun t240 => (some (t240 == a0_1))) else ((spec_pzValue.f k a0_0 a0_1 a1).bind fun t241 => (some (t241 == a0_2)))
instance spec_pzFits.mI (k : Nat) : Mo (spec_pzFits.f k) (spec_pzFits.f (k + 1)) := by
 (repeat refine mE fun _ => ?_); unfold spec_pzFits.f; exact mG
theorem spec_pzFits.mono : ∀ a0 a1 a2 a3 k, LeO (spec_pzFits.f k a0 a1 a2 a3) (spec_pzFits.f (k + 1) a0 a1 a2 a3) := fun a0 a1 a2 a3 k => (spec_pzFits.mI k).out a0 a1 a2 a3
set_option maxHeartbeats 8000000 in
set_option maxRecDepth 100000 in
theorem spec_pzFits.calls (k : Nat) (a0_0 : Int) (a0_1 : Int) (a0_2 : Int) (a1 : ByteArray) (r : Bool) (w : World) (h : spec_pzFits.f k a0_0 a0_1 a0_2 a1 = some r) :
  Calls Tryz.prog 63 #[.agg #[.int .i64 a0_0, .int .i64 a0_1, .int .i64 a0_2], .string a1] w fun e w' => e = .returned (.bool r) ∧ Below w.heap.size w w' := by
 have hu40 := Tryz.underlying40
 have HB := aM (Below.refl w.heap.size w)
 have H := h
 clear h; unfold spec_pzFits.f at H
 refine iI H ?_ ?_ <;> clear H <;> intro c3 H
 ·have c3b0 := qT c3
  have c3b1 := nF c3
  clear c3
  replace H := bC H; obtain ⟨t240, A4, H⟩ := H
  obtain rfl := Option.some.inj H
  go_enter Tryz.func63, Tryz.ntmps63
  go_wp2_with (first | (refine bX (N := 2) rfl (cs := #[.int .i64 a0_0, .int .i64 a0_1, .int .i64 a0_2]) (t := 40) ?_; intro gb239 hg w5 BK239 hb; have GW239 := gE hg HB; have GE239 := gE hg HB; replace HB := hS HB hb; clear hb hg; obtain ⟨hcz6_0, hcz6_1, hcz6_2, hfz6_0, hfz6_1, hfz6_2⟩ := hC3 BK239) | (go_at_call 72; (with_reducible refine (spec_pzValue.calls k 1 0 a1 t240 _ A4.out).mono ?_); rintro e w' ⟨rfl, ⟨nd, rfl⟩⟩; (try exact nd2)))
  repeat (go_quiet (first | (go_at_call 72; (with_reducible refine (spec_pzValue.calls k 1 0 a1 t240 _ A4.out).mono ?_); rintro e w' ⟨rfl, ⟨nd, rfl⟩⟩; (try exact nd2))); try go_wp2_with (first | (refine bX (N := 2) rfl (cs := #[.int .i64 a0_0, .int .i64 a0_1, .int .i64 a0_2]) (t := 40) ?_; intro gb239 hg w5 BK239 hb; have GW239 := gE hg HB; have GE239 := gE hg HB; replace HB := hS HB hb; clear hb hg; obtain ⟨hcz6_0, hcz6_1, hcz6_2, hfz6_0, hfz6_1, hfz6_2⟩ := hC3 BK239) | (go_at_call 72; (with_reducible refine (spec_pzValue.calls k 1 0 a1 t240 _ A4.out).mono ?_); rintro e w' ⟨rfl, ⟨nd, rfl⟩⟩; (try exact nd2))))
  go_ret
  exact ⟨eW, bel HB⟩
 have c3b0 := qF c3
 have c3b1 := nT c3
 replace H := bC H; obtain ⟨t241, A7, H⟩ := H
 obtain rfl := Option.some.inj H
 go_enter Tryz.func63, Tryz.ntmps63
 go_wp2_with (first | (refine bX (N := 2) rfl (cs := #[.int .i64 a0_0, .int .i64 a0_1, .int .i64 a0_2]) (t := 40) ?_; intro gb239 hg w8 BK239 hb; have GW239 := gE hg HB; have GE239 := gE hg HB; replace HB := hS HB hb; clear hb hg; obtain ⟨hcz9_0, hcz9_1, hcz9_2, hfz9_0, hfz9_1, hfz9_2⟩ := hC3 BK239) | (go_at_call 72; (with_reducible refine (spec_pzValue.calls k a0_0 a0_1 a1 t241 _ A7.out).mono ?_); rintro e w' ⟨rfl, ⟨nd, rfl⟩⟩; (try exact nd2)))
 repeat (go_quiet (first | (go_at_call 72; (with_reducible refine (spec_pzValue.calls k a0_0 a0_1 a1 t241 _ A7.out).mono ?_); rintro e w' ⟨rfl, ⟨nd, rfl⟩⟩; (try exact nd2))); try go_wp2_with (first | (refine bX (N := 2) rfl (cs := #[.int .i64 a0_0, .int .i64 a0_1, .int .i64 a0_2]) (t := 40) ?_; intro gb239 hg w8 BK239 hb; have GW239 := gE hg HB; have GE239 := gE hg HB; replace HB := hS HB hb; clear hb hg; obtain ⟨hcz9_0, hcz9_1, hcz9_2, hfz9_0, hfz9_1, hfz9_2⟩ := hC3 BK239) | (go_at_call 72; (with_reducible refine (spec_pzValue.calls k a0_0 a0_1 a1 t241 _ A7.out).mono ?_); rintro e w' ⟨rfl, ⟨nd, rfl⟩⟩; (try exact nd2))))
 go_ret
 exact ⟨eW, bel HB⟩

/-! ### spec_pzAll: function 83 -/
mutual
def spec_pzAll.l0 : Nat → Int → List (S40) → List ByteArray → Int → Option (List ByteArray)
 | 0, _, _, _, _ => none
 | k + 1, x0, x1, x5, x6 => if 0 ≤ x0 then (if x6 < (shl .i64 1 x0) then ((spec_riState.f k x0 x6).bind fun t242 => (spec_pzAll.l1 k x0 x1 x5 x6 t242 true x1 (x1.length : Int) 0)) else (some x5)) else (none)
def spec_pzAll.l1 : Nat → Int → List (S40) → List ByteArray → Int → ByteArray → Bool → List (S40) → Int → Int → Option (List ByteArray)
 | 0, _, _, _, _, _, _, _, _, _ => none
 | k + 1, x0, x1, x5, x6, x7, x8, x20, x21, x22 => if x22 < x21 then (if 0 ≤ x22 then (if x22 < (x20.length : Int) then (if x8 = true then ((spec_pzFits.f k ((rd_T40 x20 x22).f0) ((rd_T40 x20 x22).f1) ((rd_T40 x20 x22).f2) x7).bind fun t245 => (spec_pzAll.l1 k x0 x1 x5 x6 x7 t245 x20 x21 (wrap64 (x22 + 1)))) else (spec_pzAll.l1 k x0 x1 x5 x6 x7 false x20 x21 (wrap64 (x22 + 1)))) else (none)) else (none)) else (if x8 = true then (if x5.length < 8796093022208 then (spec_pzAll.l0 k x0 x1 (x5 ++ [x7]) (wrap64 (x6 + 1))) else (none)) else (spec_pzAll.l0 k x0 x1 x5 (wrap64 (x6 + 1))))
end
def spec_pzAll.f (k : Nat) (a0 : Int) (l1 : List (S40)) : Option (List ByteArray) := spec_pzAll.l0 k a0 l1 ([] : List ByteArray) 0
theorem spec_pzAll.mono_l : ∀ k, Mo (spec_pzAll.l0 k) (spec_pzAll.l0 (k + 1)) ∧ Mo (spec_pzAll.l1 k) (spec_pzAll.l1 (k + 1))
 | 0 => m0
 | k + 1 => by
  have ⟨ih0, ih1⟩ := spec_pzAll.mono_l k
  refine ⟨?_, ?_⟩ <;> (repeat refine mE fun _ => ?_) <;> first | (unfold spec_pzAll.l0; exact mG) | (unfold spec_pzAll.l1; exact mG)
instance spec_pzAll.mI (k : Nat) : Mo (spec_pzAll.f k) (spec_pzAll.f (k + 1)) := by
 have ⟨ih0, ih1⟩ := spec_pzAll.mono_l k
 (repeat refine mE fun _ => ?_); unfold spec_pzAll.f; exact mG
theorem spec_pzAll.mono : ∀ a0 a1 k, LeO (spec_pzAll.f k a0 a1) (spec_pzAll.f (k + 1) a0 a1) := fun a0 a1 k => (spec_pzAll.mI k).out a0 a1
set_option maxHeartbeats 8000000 in
set_option maxRecDepth 100000 in
theorem spec_pzAll.calls (k : Nat) (a0 : Int) (A1 : Option Addr) (c1 : Nat) (l1 : List (S40)) (r : List ByteArray) (w : World) (hr1 : Kd.C k40 w A1 l1.length l1) (hc1 : l1.length ≤ c1) (h : spec_pzAll.f k a0 l1 = some r) :
  Calls Tryz.prog 83 #[.int .i64 a0, .slice A1 l1.length c1] w fun e w' => ∃ v0_ : Value, e = .returned (v0_) ∧ Kd.R Kd.string 9 w' w.heap.size (fun _ => True) v0_ r ∧ Below w.heap.size w w' := by
 have hu40 := Tryz.underlying40
 have HR1 := aM hr1
 have HC1 := aM hc1
 clear hr1 hc1
 have HB := aM (Below.refl w.heap.size w)
 have H := h
 clear h; unfold spec_pzAll.f at H
 have H' := aM H
 clear H
 go_enter Tryz.func83, Tryz.ntmps83
 go_wp2
 go_loopg [5, 6] k (fun kq v5 v6 w' => ∃ (x5_1 : List ByteArray) (x6_1 : Int), v6 = .int .i64 x6_1 ∧ Aside0 (spec_pzAll.l0 kq a0 l1 x5_1 x6_1 = some r) ∧ Aside0 (kq ≤ k) ∧ Aside0 (Kd.R Kd.string 9 w' w.heap.size (fun _ => True) v5 x5_1) ∧ Aside0 (Below w.heap.size w w'))
 case atStart => exact ⟨(([] : List ByteArray)), (0), rF, H', kR, ⟨by first | exact Kd.R_nil _ _ _ _ _ | exact Kd.N_nil _ _ _ _ _ | exact Kd.V_nil _ _ _ _ _ | exact Kd.Q_nil _ _ _ _ _ | exact Kd.S_nil _ _ _ _ _⟩, hV HB⟩
 case round =>
  clear H'
  try clear c1
  obtain ⟨x5_1, x6_1, rfl, HA, HK1, HO_5, HB⟩ := hrel
  obtain rfl | ⟨k1, rfl⟩ := fz gk
  ·exact zA HA
  have H := HA.out
  clear HA
  simp only [spec_pzAll.l0] at H
  refine iY H ?_; clear H; intro c3 H
  have c3b0 := eq_true c3
  have c3b1 := dT c3
  clear c3
  obtain ⟨ji4, hji4⟩ := jN (shl .i64 1 a0)
  first | rw [hji4] at H | simp only [hji4] at H
  have hji4_ : (IntKind.i64.wrap (1 * 2 ^ min a0.toNat 64)) = ji4 := hji4
  have hji4z : a0 ≤ 64 → (IntKind.i64.wrap (1 * 2 ^ a0.toNat)) = ji4 := shl_small hji4
  have hji4u : (IntKind.i64.wrap (2 ^ min a0.toNat 64)) = ji4 := by have h_ := hji4_; rw [Int.one_mul] at h_; exact h_
  have hji4v : a0 ≤ 64 → (IntKind.i64.wrap (2 ^ a0.toNat)) = ji4 := fun hle_ => by have h_ := hji4z hle_; rw [Int.one_mul] at h_; exact h_
  have hji4y : (wrap64 (1 * 2 ^ min a0.toNat 64)) = ji4 := (i64_w _).symm.trans hji4_
  have hji4x : a0 ≤ 64 → (wrap64 (1 * 2 ^ a0.toNat)) = ji4 := fun h_ => (i64_w _).symm.trans (hji4z h_)
  refine iI H ?_ ?_ <;> clear H <;> intro c5 H
  ·have c5b0 := dT c5
   clear c5
   replace H := bC H; obtain ⟨t242, A6, H⟩ := H
   have H' := aM H
   clear H
   go_wp2_with (first | ((with_reducible refine gG 65 (some 19) rfl rfl ?_); refine gL Tryz.func65 #[.int .i64 a0, .int .i64 x6_1] ?_; (with_reducible refine (spec_riState.calls k1 a0 x6_1 t242 _ A6.out).mono ?_); rintro e w' ⟨rfl, ⟨nd, rfl⟩⟩; refine ⟨_, rfl, ?_⟩))
   go_loopg [8, 22] k1 (fun kq v8 v22 w' => ∃ (x8_2 : Bool) (x22_2 : Int), v8 = .bool x8_2 ∧ v22 = .int .i64 x22_2 ∧ Aside0 (spec_pzAll.l1 kq a0 l1 x5_1 x6_1 t242 x8_2 l1 (l1.length : Int) x22_2 = some r) ∧ Aside0 (kq ≤ k1) ∧ Aside0 (Kd.R Kd.string 9 w' w.heap.size (fun _ => True) u5 x5_1) ∧ Aside0 (Below w.heap.size w w'))
   case atStart => exact ⟨(true), (0), rF, rF, H', kR, ⟨rU HO_5.out⟩, hV HB⟩
   case round =>
    clear H'
    try clear c3b0;try clear c3b1;try clear c5b0
    obtain ⟨x8_2, x22_2, rfl, rfl, HA, HK2, HO_5, HB⟩ := hrel
    obtain rfl | ⟨k2, rfl⟩ := fz gk
    ·exact zA HA
    have H := HA.out
    clear HA
    simp only [spec_pzAll.l1] at H
    refine iI H ?_ ?_ <;> clear H <;> intro c7 H
    ·have c7b0 := dT c7
     clear c7
     refine iY H ?_; clear H; intro c8 H
     have c8b0 := dT c8
     clear c8
     refine iY H ?_; clear H; intro c9 H
     have c9b0 := dT c9
     clear c9
     refine iB H ?_ ?_ <;> clear H <;> rintro rfl H
     ·replace H := bC H; obtain ⟨t245, A11, H⟩ := H
      have H' := aM H
      clear H
      have p243 : 0 ≤ (x22_2 : Int) := oD
      have q243 : x22_2 < (l1.length : Int) := oD
      obtain ⟨ad243, e243, hx243_0, hx243_1, hx243_2⟩ := at_T40 HR1.out x22_2 p243 q243
      cases e243
      replace hx243_0 := (HB.out.cell (World.block_lt_of_cell? w _ hx243_0)).trans hx243_0
      replace hx243_1 := (HB.out.cell (World.block_lt_of_cell? w _ hx243_1)).trans hx243_1
      replace hx243_2 := (HB.out.cell (World.block_lt_of_cell? w _ hx243_2)).trans hx243_2
      replace p243 := eq_true p243
      replace q243 := eq_true q243
      go_wp2_with (first | (refine bX (N := 10) rfl (cs := #[.int .i64 0, .int .i64 0, .int .i64 0]) (t := 40) ?_; intro gb244 hg w12 BK244 hb; have GW244 := gE hg HB; have GE244 := gE hg HB; replace HO_5 := rB HO_5 hb; replace HB := hS HB hb; clear hb hg; obtain ⟨hcz13_0, hcz13_1, hcz13_2, hfz13_0, hfz13_1, hfz13_2⟩ := hC3 BK244) | (go_at_call 63; (with_reducible refine (spec_pzFits.calls k2 ((rd_T40 l1 x22_2).f0) ((rd_T40 l1 x22_2).f1) ((rd_T40 l1 x22_2).f2) t242 t245 _ A11.out).mono ?_); rintro e w14 ⟨rfl, hb⟩; replace HO_5 := aM (Kd.R_below (rU (Kd.R_mono (Kd.R_far (p := ⟨gb244, 2, none⟩) (Kd.R_far (p := ⟨gb244, 1, none⟩) (Kd.R_far (p := ⟨gb244, 0, none⟩) (Kd.R_types HO_5.out BK244.out (by decide)) (fun _ hk => hk.2) (.int .i64 ((rd_T40 l1 x22_2).f0))) (fun _ hk => hk.2) (.int .i64 ((rd_T40 l1 x22_2).f1))) (fun _ hk => hk.2) (.int .i64 ((rd_T40 l1 x22_2).f2))) (fun _ h_ => h_.1))) hb); replace BK244 := aM (blk_below (g := gb244) (o := .cells #[.int .i64 ((rd_T40 l1 x22_2).f0), .int .i64 ((rd_T40 l1 x22_2).f1), .int .i64 ((rd_T40 l1 x22_2).f2)] 40 (0, 0)) (by (with_reducible repeat (first | refine blk_drewN ?_ _ | refine blk_drew ?_ | refine blk_alloc ?_ _)); refine blk_put (cs := #[.int .i64 ((rd_T40 l1 x22_2).f0), .int .i64 ((rd_T40 l1 x22_2).f1), .int .i64 0]) ?_ 2 _ rfl; (with_reducible repeat (first | refine blk_drewN ?_ _ | refine blk_drew ?_ | refine blk_alloc ?_ _)); refine blk_put (cs := #[.int .i64 ((rd_T40 l1 x22_2).f0), .int .i64 0, .int .i64 0]) ?_ 1 _ rfl; (with_reducible repeat (first | refine blk_drewN ?_ _ | refine blk_drew ?_ | refine blk_alloc ?_ _)); refine blk_put (cs := #[.int .i64 0, .int .i64 0, .int .i64 0]) ?_ 0 _ rfl; (with_reducible repeat (first | refine blk_drewN ?_ _ | refine blk_drew ?_ | refine blk_alloc ?_ _)); exact BK244.out) hb); replace HB := hS HB hb; clear hb))
      go_roundg k2
      case measure => have := HK1.out; have := HK2.out; omega
      case rel => exact ⟨(t245), (wrap64 (x22_2 + 1)), rF, rF, H', ⟨by have := HK1.out; have := HK2.out; omega⟩, ⟨rU HO_5.out⟩, hV HB⟩
     have H' := aM H
     clear H
     have p243 : 0 ≤ (x22_2 : Int) := oD
     have q243 : x22_2 < (l1.length : Int) := oD
     obtain ⟨ad243, e243, hx243_0, hx243_1, hx243_2⟩ := at_T40 HR1.out x22_2 p243 q243
     cases e243
     replace hx243_0 := (HB.out.cell (World.block_lt_of_cell? w _ hx243_0)).trans hx243_0
     replace hx243_1 := (HB.out.cell (World.block_lt_of_cell? w _ hx243_1)).trans hx243_1
     replace hx243_2 := (HB.out.cell (World.block_lt_of_cell? w _ hx243_2)).trans hx243_2
     replace p243 := eq_true p243
     replace q243 := eq_true q243
     go_wp2_with (first | (refine bX (N := 10) rfl (cs := #[.int .i64 0, .int .i64 0, .int .i64 0]) (t := 40) ?_; intro gb244 hg w15 BK244 hb; have GW244 := gE hg HB; have GE244 := gE hg HB; replace HO_5 := rB HO_5 hb; replace HB := hS HB hb; clear hb hg; obtain ⟨hcz16_0, hcz16_1, hcz16_2, hfz16_0, hfz16_1, hfz16_2⟩ := hC3 BK244))
     go_roundg k2
     case measure => have := HK1.out; have := HK2.out; omega
     case rel => exact ⟨(false), (wrap64 (x22_2 + 1)), rF, rF, H', ⟨by have := HK1.out; have := HK2.out; omega⟩, ⟨rU (Kd.R_mono (Kd.R_far (p := ⟨gb244, 2, none⟩) (Kd.R_far (p := ⟨gb244, 1, none⟩) (Kd.R_far (p := ⟨gb244, 0, none⟩) (Kd.R_types HO_5.out BK244.out (by decide)) (fun _ hk => hk.2) (.int .i64 ((rd_T40 l1 x22_2).f0))) (fun _ hk => hk.2) (.int .i64 ((rd_T40 l1 x22_2).f1))) (fun _ hk => hk.2) (.int .i64 ((rd_T40 l1 x22_2).f2))) (fun _ hk => trivial))⟩, hV HB⟩
    have c7b0 := dF c7
    clear c7
    refine iB H ?_ ?_ <;> clear H <;> rintro rfl H
    ·refine iY H ?_; clear H; intro c18 H
     have LMc18 := aM c18
     clear c18
     obtain ⟨y246, Ny246⟩ := yN (x5_1 ++ [t242] : List ByteArray); rw [← Ny246.out] at H
     have H' := aM H
     clear H
     go_wp2_with (first | ((with_reducible refine gate_builtin (b := .append) (xs := #[.tmp 34, .tmp 36]) rfl ?_); at_builtin; refine Kd.R_append Kd.string (w0 := w) w.heap.size rfl (.tmp 34) (.tmp 36) 32 9 (.string ⟨#[]⟩) 16 rfl Tryz.underlying32 info9 rfl (by decide) (by omega) u5 x5_1 t242 [.string t242] (fun _ => True) (fun _ => False) rfl rfl ?aP (fun _ hk => hk.elim) ?aF ?aO ?aB ?aS ?aL ?_; (case aP => exact rfl); (case aB => exact (bel HB)); (case aF => exact (fun _ _ => trivial)); (case aO => exact (rU HO_5.out)); (case aS => exact (below_size (bel HB))); (case aL => have := LMc18.out; omega); intro v247 w19 ho hb hg hat; rw [← Ny246.out] at ho; have HO248 := aM (ho); replace HB := aM (hb); clear HO_5; clear ho hb hg hat))
     go_roundg k2
     case measure => have := HK1.out; have := HK2.out; omega
     case rel => exact ⟨(y246), (wrap64 (x6_1 + 1)), rF, H', ⟨by have := HK1.out; have := HK2.out; omega⟩, ⟨rU HO248.out⟩, hV HB⟩
    have H' := aM H
    clear H
    go_wp2
    go_roundg k2
    case measure => have := HK1.out; have := HK2.out; omega
    case rel => exact ⟨(x5_1), (wrap64 (x6_1 + 1)), rF, H', ⟨by have := HK1.out; have := HK2.out; omega⟩, ⟨rU HO_5.out⟩, hV HB⟩
  have c5b0 := dF c5
  clear c5
  obtain rfl := Option.some.inj H
  go_wp2
  go_ret
  exact ⟨_, by first | rfl | (simp [errW_none, errW_some] <;> rfl) | (simp only [← hji4]; first | rfl | (simp [errW_none, errW_some] <;> rfl)) | (simp [*, errW_none, errW_some] <;> rfl), rU HO_5.out, bel HB⟩

end Go.Proofs.YtpdkjehplfgjcabGreatDoor.PHid
