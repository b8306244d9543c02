-- squeezed (sq3.py); PRINTED by drive.py (a program of this session's, over the kit's print.py; wip/tools/drive.py). Lean checks it.
import Derived.Test.YtiiahdjjngdgoaaDoorQPLTickx0
import Derived.Test.YtiiahdjjngdgoaaDoorQPLTickx4
import Derived.Test.YtiiahdjjngdgoaaDoorQPLTickx5
import Derived.Test.YtiiahdjjngdgoaaDoorQSq
namespace Go.Proofs.YtiiahdjjngdgoaaDoor.PLTick
open Go.RowKit Go.Proofs.YtiiahdjjngdgoaaDoorW.PrintWords Go.Proofs.YtiiahdjjngdgoaaDoorW.PrintLast Go.Proofs.YtiiahdjjngdgoaaDoorW.PrintMore
attribute [local go_sem] max2_int min2_int max_two min_two max_three min_three max_four min_four   -- for this text's walks alone
set_option linter.unusedVariables false
set_option linter.unusedSimpArgs false

/-! ### impl_TimesChanging: function 10 -/
mutual
def impl_TimesChanging.j0 : Nat → ByteArray → Int → Bool → List ByteArray → Option (List Int × Bool)
 | 0, _, _, _, _ => none
 | k + 1, x1, x2, x24, x283000 => if x24 = true then (some (([] : List Int), false)) else ((impl_Lamps_course.f x283000 x1).bind fun bt285 => (if 0 ≤ (x1.size : Int) then (if ((x1.size : Int) : Int).toNat ≤ 35184372088832 then (impl_TimesChanging.l0 k x2 bt285.1 bt285.2 (List.replicate ((x1.size : Int) : Int).toNat 0) bt285.1 (bt285.1.length : Int) 0 x283000) else (none)) else (none)))
def impl_TimesChanging.l0 : Nat → Int → List ByteArray → Int → List Int → List ByteArray → Int → Int → List ByteArray → Option (List Int × Bool)
 | 0, _, _, _, _, _, _, _, _ => none
 | k + 1, x2, x8, x9, x10, x34, x35, x36, x283000 => if x36 < x35 then (if 0 ≤ x36 then (if x36 < (x34.length : Int) then (if x36 ≥ x2 then (impl_TimesChanging.j2 k x2 x8 x9 x10 (rdOf ByteArray.empty x34 x36) 0 x34 x35 x36 x283000) else (if x36 < x9 then (impl_TimesChanging.j2 k x2 x8 x9 x10 (rdOf ByteArray.empty x34 x36) 1 x34 x35 x36 x283000) else (if (wrap64 ((x8.length : Int) - x9)) = 0 then (none) else (impl_TimesChanging.j2 k x2 x8 x9 x10 (rdOf ByteArray.empty x34 x36) (wrap64 ((wrap64 (Int.tdiv (wrap64 ((wrap64 (x2 - 1)) - x36)) (wrap64 ((x8.length : Int) - x9)))) + 1)) x34 x35 x36 x283000)))) else (none)) else (none)) else (some (x10, true))
def impl_TimesChanging.j2 : Nat → Int → List ByteArray → Int → List Int → ByteArray → Int → List ByteArray → Int → Int → List ByteArray → Option (List Int × Bool)
 | 0, _, _, _, _, _, _, _, _, _, _ => none
 | k + 1, x2, x8, x9, x10, x12, x13, x34, x35, x36, x283000 => (impl_Lamps_tick.f x283000 x12).bind fun t293 => (impl_TimesChanging.l1 k x2 x8 x9 x10 x12 x13 t293 x34 x35 x36 (x10.length : Int) 0 x283000)
def impl_TimesChanging.l1 : Nat → Int → List ByteArray → Int → List Int → ByteArray → Int → ByteArray → List ByteArray → Int → Int → Int → Int → List ByteArray → Option (List Int × Bool)
 | 0, _, _, _, _, _, _, _, _, _, _, _, _, _ => none
 | k + 1, x2, x8, x9, x10, x12, x13, x14, x34, x35, x36, x63, x64, x283000 => if x64 < x63 then (if 0 ≤ x64 then (if x64 < (x14.size : Int) then (if x64 < (x12.size : Int) then (if (bt x14 x64) = (bt x12 x64) then (impl_TimesChanging.l1 k x2 x8 x9 x10 x12 x13 x14 x34 x35 x36 x63 (wrap64 (x64 + 1)) x283000) else (if x64 < (x10.length : Int) then (impl_TimesChanging.l1 k x2 x8 x9 (x10.set (x64 : Int).toNat (wrap64 ((rd x10 x64) + x13))) x12 x13 x14 x34 x35 x36 x63 (wrap64 (x64 + 1)) x283000) else (none))) else (none)) else (none)) else (none)) else (impl_TimesChanging.l0 k x2 x8 x9 x10 x34 x35 (wrap64 (x36 + 1)) x283000)
end
def impl_TimesChanging.f (k : Nat) (l0_0 : List ByteArray) (a1 : ByteArray) (a2 : Int) : Option (List Int × Bool) := (impl_Lamps_lit.f l0_0 a1).bind fun t283 => (if t283 = true then ((impl_isTicks.f a2).bind fun t284 => (impl_TimesChanging.j0 k a1 a2 (!t284) l0_0)) else (impl_TimesChanging.j0 k a1 a2 true l0_0))
theorem impl_TimesChanging.mono_l : ∀ k, Mo (impl_TimesChanging.j0 k) (impl_TimesChanging.j0 (k + 1)) ∧ Mo (impl_TimesChanging.l0 k) (impl_TimesChanging.l0 (k + 1)) ∧ Mo (impl_TimesChanging.j2 k) (impl_TimesChanging.j2 (k + 1)) ∧ Mo (impl_TimesChanging.l1 k) (impl_TimesChanging.l1 (k + 1))
 | 0 => m0
 | k + 1 => by
  have ⟨ih0, ih1, ih2, ih3⟩ := impl_TimesChanging.mono_l k
  refine ⟨?_, ?_, ?_, ?_⟩ <;> (repeat refine mE fun _ => ?_) <;> first | (unfold impl_TimesChanging.j0; exact mG) | (unfold impl_TimesChanging.l0; exact mG) | (unfold impl_TimesChanging.j2; exact mG) | (unfold impl_TimesChanging.l1; exact mG)
instance impl_TimesChanging.mI (k : Nat) : Mo (impl_TimesChanging.f k) (impl_TimesChanging.f (k + 1)) := by
 have ⟨ih0, ih1, ih2, ih3⟩ := impl_TimesChanging.mono_l k
 (repeat refine mE fun _ => ?_); unfold impl_TimesChanging.f; exact mG
theorem impl_TimesChanging.mono : ∀ a0 a1 a2 k, LeO (impl_TimesChanging.f k a0 a1 a2) (impl_TimesChanging.f (k + 1) a0 a1 a2) := fun a0 a1 a2 k => (impl_TimesChanging.mI k).out a0 a1 a2
set_option maxHeartbeats 8000000 in
set_option maxRecDepth 100000 in
theorem impl_TimesChanging.calls (k : Nat) (A0_0 : Option Addr) (c0_0 : Nat) (l0_0 : List ByteArray) (a1 : ByteArray) (a2 : Int) (r1 : List Int) (r2 : Bool) (w : World) (hr0_0 : Kd.C Kd.string w A0_0 l0_0.length l0_0) (hc0_0 : l0_0.length ≤ c0_0) (h : impl_TimesChanging.f k l0_0 a1 a2 = some (r1, r2)) :
  Calls Tryd.prog 10 #[.agg #[.slice A0_0 l0_0.length c0_0], .string a1, .int .i64 a2] w fun e w' => ∃ v0_ : Value, e = .returned (.tuple #[v0_, .bool r2]) ∧ Kd.R (Kd.int .i64) 3 w' w.heap.size (fun _ => True) v0_ r1 ∧ Below w.heap.size w w' := by
 have hu26 := Tryd.underlying26
 have HR0_0 := aM hr0_0
 have HC0_0 := aM hc0_0
 clear hr0_0 hc0_0
 have HB := aM (Below.refl w.heap.size w)
 have H := h
 clear h; unfold impl_TimesChanging.f at H
 have HC4 := aM H
 clear H
 go_enter Tryd.func10, Tryd.ntmps10
 go_upto_region 1 with (first | (refine bX (N := 3) rfl (cs := #[.slice A0_0 l0_0.length c0_0]) (t := 26) ?_; intro gb282 hg w5 BK282 hb; have GW282 := gE hg HB; have GE282 := gE hg HB; replace HB := hS HB hb; clear hb hg))
 repeat (go_quiet (fail); go_upto_region 1 with (first | (refine bX (N := 3) rfl (cs := #[.slice A0_0 l0_0.length c0_0]) (t := 26) ?_; intro gb282 hg w5 BK282 hb; have GW282 := gE hg HB; have GE282 := gE hg HB; replace HB := hS HB hb; clear hb hg)))
 (try simp only [Act.put, List.setIfInBounds_toArray, List.set_cons_zero, List.set_cons_succ])
 go_cut [24] (fun v24 wc => ∃ (kq : Nat) (x24_3 : Bool), v24 = .bool x24_3 ∧ Aside0 (impl_TimesChanging.j0 kq a1 a2 x24_3 l0_0 = some (r1, r2)) ∧ Aside0 (kq ≤ k) ∧ Aside0 (wc.heap[gb282]? = some (.cells #[(.slice A0_0 l0_0.length c0_0)] 26 (0, 0))) ∧ Aside0 (Below w.heap.size w wc))
 case first =>
  have H := HC4.out
  clear HC4
  replace H := bC H; obtain ⟨t283, A6, H⟩ := H
  refine iB H ?_ ?_ <;> clear H <;> rintro rfl H
  ·replace H := bC H; obtain ⟨t284, A8, H⟩ := H
   have H' := aM H
   clear H
   obtain ⟨hcz9_0, hfz9_0⟩ := hC1 BK282
   go_wp2_with (first | (go_at_call 71; (with_reducible refine (impl_Lamps_lit.calls _ _ l0_0 a1 true _ (cU (Kd.C_below HR0_0.out HB.out)) HC0_0.out A6.out).mono ?_); rintro e w10 ⟨rfl, hb⟩; replace BK282 := bB BK282 hb; replace HB := hS HB hb; clear hb) | (go_at_call 72; (with_reducible refine (impl_isTicks.calls a2 t284 _ A8.out).mono ?_); rintro e w' ⟨rfl, ⟨nd, rfl⟩⟩; (try exact nd2)))
   repeat (go_quiet (first | (go_at_call 71; (with_reducible refine (impl_Lamps_lit.calls _ _ l0_0 a1 true _ (cU (Kd.C_below HR0_0.out HB.out)) HC0_0.out A6.out).mono ?_); rintro e w10 ⟨rfl, hb⟩; replace BK282 := bB BK282 hb; replace HB := hS HB hb; clear hb) | (go_at_call 72; (with_reducible refine (impl_isTicks.calls a2 t284 _ A8.out).mono ?_); rintro e w' ⟨rfl, ⟨nd, rfl⟩⟩; (try exact nd2))); try go_wp2_with (first | (go_at_call 71; (with_reducible refine (impl_Lamps_lit.calls _ _ l0_0 a1 true _ (cU (Kd.C_below HR0_0.out HB.out)) HC0_0.out A6.out).mono ?_); rintro e w10 ⟨rfl, hb⟩; replace BK282 := bB BK282 hb; replace HB := hS HB hb; clear hb) | (go_at_call 72; (with_reducible refine (impl_isTicks.calls a2 t284 _ A8.out).mono ?_); rintro e w' ⟨rfl, ⟨nd, rfl⟩⟩; (try exact nd2))))
   go_meet
   case rel => exact ⟨_, (!t284), rF, H', kL, ⟨bU BK282.out⟩, hV HB⟩
  have H' := aM H
  clear H
  obtain ⟨hcz11_0, hfz11_0⟩ := hC1 BK282
  go_wp2_with (first | (go_at_call 71; (with_reducible refine (impl_Lamps_lit.calls _ _ l0_0 a1 false _ (cU (Kd.C_below HR0_0.out HB.out)) HC0_0.out A6.out).mono ?_); rintro e w12 ⟨rfl, hb⟩; replace BK282 := bB BK282 hb; replace HB := hS HB hb; clear hb))
  repeat (go_quiet (first | (go_at_call 71; (with_reducible refine (impl_Lamps_lit.calls _ _ l0_0 a1 false _ (cU (Kd.C_below HR0_0.out HB.out)) HC0_0.out A6.out).mono ?_); rintro e w12 ⟨rfl, hb⟩; replace BK282 := bB BK282 hb; replace HB := hS HB hb; clear hb)); try go_wp2_with (first | (go_at_call 71; (with_reducible refine (impl_Lamps_lit.calls _ _ l0_0 a1 false _ (cU (Kd.C_below HR0_0.out HB.out)) HC0_0.out A6.out).mono ?_); rintro e w12 ⟨rfl, hb⟩; replace BK282 := bB BK282 hb; replace HB := hS HB hb; clear hb)))
  go_meet
  case rel => exact ⟨_, (true), rF, H', kL, ⟨bU BK282.out⟩, hV HB⟩
 case rest =>
  clear HC4
  obtain ⟨kq, x24_3, rfl, HA, HJ3, BK282, HB⟩ := hcut
  obtain rfl | ⟨kj3, rfl⟩ := fz kq
  ·exact zA HA
  have H := HA.out
  clear HA
  simp only [impl_TimesChanging.j0] at H
  refine iB H ?_ ?_ <;> clear H <;> rintro rfl H
  ·simp only [Option.some.injEq, Prod.mk.injEq] at H
   obtain ⟨rfl, rfl⟩ := H
   go_wp2
   repeat (go_quiet (fail); try go_wp2)
   go_ret2
   exact ⟨_, eW, by first | exact Kd.R_nil _ _ _ _ _ | exact Kd.N_nil _ _ _ _ _ | exact Kd.V_nil _ _ _ _ _ | exact Kd.Q_nil _ _ _ _ _ | exact Kd.S_nil _ _ _ _ _, bel HB⟩
  replace H := bC H; obtain ⟨⟨t285, t288⟩, A14, H⟩ := H; try dsimp only at H
  refine iY H ?_; clear H; intro c15 H
  have c15b0 := eq_true c15
  have c15b1 := dT c15
  clear c15
  refine iY H ?_; clear H; intro c16 H
  have c16b0 := eq_true c16
  have c16b1 := dT c16
  clear c16
  obtain ⟨y289, Ny289⟩ := yN (List.replicate ((a1.size : Int) : Int).toNat 0 : List Int); rw [← Ny289.out] at H
  have H' := aM H
  clear H
  obtain ⟨hcz17_0, hfz17_0⟩ := hC1 BK282
  go_wp2_with (first | (go_at_call 73; (with_reducible refine (impl_Lamps_course.calls _ _ l0_0 a1 t285 t288 _ (cU (Kd.C_below HR0_0.out HB.out)) HC0_0.out A14.out).mono ?_); rintro e w18 ⟨v286, rfl, ho0, hb⟩; have HO287 := rL ho0 HB; replace BK282 := bB BK282 hb; replace HB := hS HB hb; clear hb ho0) | ((with_reducible refine gate_dst (N := 33) rfl ?_); refine Kd.R_make (Kd.int .i64) _ 3 rfl (N := 33) rfl 31 _ _ rfl (a1.size : Int) rfl rfl Tryd.underlying31 (.int .i64 0) 8 info3 rfl (by decide) (by omega) 0 (ok := fun _ => True) (okp := fun _ => True) rfl (fun _ hk => hk) trivial oD (Nat.le_trans (Nat.mul_le_mul_right _ (oD : (a1.size : Int).toNat ≤ 35184372088832)) (by omega)) (Below.refl _ _) (Nat.le_refl _) ?_; intro v290 w19 ho20 hb hg_ hnew_; clear hg_ hnew_; (first | rw [← Ny289.out] at ho20 | (simp only [Int.reduceToNat] at ho20; rw [← Ny289.out] at ho20)); have HO291 := rL ho20 HB; replace HO287 := rB HO287 hb; replace BK282 := bB BK282 hb; replace HB := hS HB hb; clear hb ho20; obtain ⟨Ao21, co21, eo21⟩ := Kd.R_slice HO287.out; subst eo21))
  repeat (go_quiet (first | (go_at_call 73; (with_reducible refine (impl_Lamps_course.calls _ _ l0_0 a1 t285 t288 _ (cU (Kd.C_below HR0_0.out HB.out)) HC0_0.out A14.out).mono ?_); rintro e w18 ⟨v286, rfl, ho0, hb⟩; have HO287 := rL ho0 HB; replace BK282 := bB BK282 hb; replace HB := hS HB hb; clear hb ho0)); try go_wp2_with (first | (go_at_call 73; (with_reducible refine (impl_Lamps_course.calls _ _ l0_0 a1 t285 t288 _ (cU (Kd.C_below HR0_0.out HB.out)) HC0_0.out A14.out).mono ?_); rintro e w18 ⟨v286, rfl, ho0, hb⟩; have HO287 := rL ho0 HB; replace BK282 := bB BK282 hb; replace HB := hS HB hb; clear hb ho0) | ((with_reducible refine gate_dst (N := 33) rfl ?_); refine Kd.R_make (Kd.int .i64) _ 3 rfl (N := 33) rfl 31 _ _ rfl (a1.size : Int) rfl rfl Tryd.underlying31 (.int .i64 0) 8 info3 rfl (by decide) (by omega) 0 (ok := fun _ => True) (okp := fun _ => True) rfl (fun _ hk => hk) trivial oD (Nat.le_trans (Nat.mul_le_mul_right _ (oD : (a1.size : Int).toNat ≤ 35184372088832)) (by omega)) (Below.refl _ _) (Nat.le_refl _) ?_; intro v290 w19 ho20 hb hg_ hnew_; clear hg_ hnew_; (first | rw [← Ny289.out] at ho20 | (simp only [Int.reduceToNat] at ho20; rw [← Ny289.out] at ho20)); have HO291 := rL ho20 HB; replace HO287 := rB HO287 hb; replace BK282 := bB BK282 hb; replace HB := hS HB hb; clear hb ho20; obtain ⟨Ao21, co21, eo21⟩ := Kd.R_slice HO287.out; subst eo21)))
  go_loopg [36] kj3 (fun kq v36 w' => ∃ (x10_2 : List Int) (x36_2 : Int), v36 = .int .i64 x36_2 ∧ Aside0 (impl_TimesChanging.l0 kq a2 t285 t288 x10_2 t285 (t285.length : Int) x36_2 l0_0 = some (r1, r2)) ∧ Aside0 (kq ≤ kj3) ∧ Aside0 (Kd.R Kd.string 9 w' w.heap.size (fun _ => True) (.slice Ao21 t285.length co21) t285) ∧ Aside0 (Kd.R (Kd.int .i64) 3 w' w.heap.size (fun _ => True) v290 x10_2) ∧ Aside0 (Kd.R Kd.string 9 w' w.heap.size (fun _ => True) (.slice Ao21 t285.length co21) t285) ∧ Aside0 (w'.heap[gb282]? = some (.cells #[(.slice A0_0 l0_0.length c0_0)] 26 (0, 0))) ∧ Aside0 (Below w.heap.size w w'))
  case atStart => exact ⟨(y289), (0), rF, H', kR, ⟨rU HO287.out⟩, ⟨rU HO291.out⟩, ⟨rU HO287.out⟩, ⟨bU BK282.out⟩, hV HB⟩
  case round =>
   clear H'
   try clear c15b0;try clear c15b1;try clear c16b0;try clear c16b1;try clear hcz17_0;try clear hfz17_0
   obtain ⟨x10_2, x36_2, rfl, HA, HK2, HO_8, HO_10, HO_34, BK282, HB⟩ := hrel
   obtain rfl | ⟨k2, rfl⟩ := fz gk
   ·exact zA HA
   have H := HA.out
   clear HA
   simp only [impl_TimesChanging.l0] at H
   refine iI H ?_ ?_ <;> clear H <;> intro c22 H
   ·have c22b0 := dT c22
    clear c22
    refine iY H ?_; clear H; intro c23 H
    have c23b0 := dT c23
    clear c23
    refine iY H ?_; clear H; intro c24 H
    have c24b0 := dT c24
    clear c24
    have HC25 := aM H
    clear H
    have p292 : 0 ≤ (x36_2 : Int) := oD
    have q292 : x36_2 < (t285.length : Int) := oD
    obtain ⟨ad292, e292, hx292_0⟩ := Kd.at_string (Kd.R_reads' HO_34.out).2.2 x36_2 p292 q292
    cases e292
    replace p292 := eq_true p292
    replace q292 := eq_true q292
    go_upto_block 2 with (fail)
    repeat (go_quiet (fail); go_upto_block 2 with (fail))
    go_cut [13] (fun v13 wc => ∃ (kq : Nat) (x13_24 : Int), v13 = .int .i64 x13_24 ∧ Aside0 (impl_TimesChanging.j2 kq a2 t285 t288 x10_2 (rdOf ByteArray.empty t285 x36_2) x13_24 t285 (t285.length : Int) x36_2 l0_0 = some (r1, r2)) ∧ Aside0 (kq ≤ k2) ∧ Aside0 (Kd.R Kd.string 9 wc w.heap.size (fun _ => True) (.slice (some ad292) t285.length co21) t285) ∧ Aside0 (Kd.R (Kd.int .i64) 3 wc w.heap.size (fun _ => True) v290 x10_2) ∧ Aside0 (Kd.R Kd.string 9 wc w.heap.size (fun _ => True) (.slice (some ad292) t285.length co21) t285) ∧ Aside0 (wc.heap[gb282]? = some (.cells #[(.slice A0_0 l0_0.length c0_0)] 26 (0, 0))) ∧ Aside0 (Below w.heap.size w wc))
    case first =>
     have H := HC25.out
     clear HC25
     refine iI H ?_ ?_ <;> clear H <;> intro c26 H
     ·have c26b0 := hT c26
      clear c26
      (first | rw [c26b0] | (simp only [i64_w, i32_w]; rw [c26b0]) | skip)
      have H' := aM H
      clear H
      go_wp2
      repeat (go_quiet (fail); try go_wp2)
      go_meet
      case rel => exact ⟨_, (0), rF, H', ⟨by have := HJ3.out; have := HK2.out; first | omega | exact Nat.le_refl _⟩, ⟨rU HO_8.out⟩, ⟨rU HO_10.out⟩, ⟨rU HO_34.out⟩, ⟨bU BK282.out⟩, hV HB⟩
     have c26b0 := hF c26
     clear c26
     (first | rw [c26b0] | (simp only [i64_w, i32_w]; rw [c26b0]) | skip)
     refine iI H ?_ ?_ <;> clear H <;> intro c27 H
     ·have c27b0 := dT c27
      clear c27
      have H' := aM H
      clear H
      go_wp2
      repeat (go_quiet (fail); try go_wp2)
      go_meet
      case rel => exact ⟨_, (1), rF, H', ⟨by have := HJ3.out; have := HK2.out; first | omega | exact Nat.le_refl _⟩, ⟨rU HO_8.out⟩, ⟨rU HO_10.out⟩, ⟨rU HO_34.out⟩, ⟨bU BK282.out⟩, hV HB⟩
     have c27b0 := dF c27
     clear c27
     refine iN H ?_; clear H; intro c28 H
     have c28b0 := qF c28
     have c28b1 := nT c28
     have H' := aM H
     clear H
     go_wp2
     repeat (go_quiet (fail); try go_wp2)
     go_meet
     case rel => exact ⟨_, (wrap64 ((wrap64 (Int.tdiv (wrap64 ((wrap64 (a2 - 1)) - x36_2)) (wrap64 ((t285.length : Int) - t288)))) + 1)), rF, H', ⟨by have := HJ3.out; have := HK2.out; first | omega | exact Nat.le_refl _⟩, ⟨rU HO_8.out⟩, ⟨rU HO_10.out⟩, ⟨rU HO_34.out⟩, ⟨bU BK282.out⟩, hV HB⟩
    case rest =>
     clear HC25
     try clear c22b0;try clear c23b0;try clear c24b0;try clear hx292_0;try clear p292;try clear q292
     obtain ⟨kq, x13_24, rfl, HA, HJ24, HO_8, HO_10, HO_34, BK282, HB⟩ := hcut
     obtain rfl | ⟨kj24, rfl⟩ := fz kq
     ·exact zA HA
     have H := HA.out
     clear HA
     simp only [impl_TimesChanging.j2] at H
     replace H := bC H; obtain ⟨t293, A29, H⟩ := H
     have H' := aM H
     clear H
     obtain ⟨hcz30_0, hfz30_0⟩ := hC1 BK282
     go_wp2_with (first | (go_at_call 79; (with_reducible refine (impl_Lamps_tick.calls _ _ l0_0 (rdOf ByteArray.empty t285 x36_2) t293 _ (cU (Kd.C_below HR0_0.out HB.out)) HC0_0.out A29.out).mono ?_); rintro e w31 ⟨rfl, hb⟩; replace HO_8 := rB HO_8 hb; replace HO_10 := rB HO_10 hb; replace HO_34 := rB HO_34 hb; replace BK282 := bB BK282 hb; replace HB := hS HB hb; clear hb; obtain ⟨Ao32, co32, eo32⟩ := Kd.R_slice HO_10.out; subst eo32))
     repeat (go_quiet (first | (go_at_call 79; (with_reducible refine (impl_Lamps_tick.calls _ _ l0_0 (rdOf ByteArray.empty t285 x36_2) t293 _ (cU (Kd.C_below HR0_0.out HB.out)) HC0_0.out A29.out).mono ?_); rintro e w31 ⟨rfl, hb⟩; replace HO_8 := rB HO_8 hb; replace HO_10 := rB HO_10 hb; replace HO_34 := rB HO_34 hb; replace BK282 := bB BK282 hb; replace HB := hS HB hb; clear hb; obtain ⟨Ao32, co32, eo32⟩ := Kd.R_slice HO_10.out; subst eo32)); try go_wp2_with (first | (go_at_call 79; (with_reducible refine (impl_Lamps_tick.calls _ _ l0_0 (rdOf ByteArray.empty t285 x36_2) t293 _ (cU (Kd.C_below HR0_0.out HB.out)) HC0_0.out A29.out).mono ?_); rintro e w31 ⟨rfl, hb⟩; replace HO_8 := rB HO_8 hb; replace HO_10 := rB HO_10 hb; replace HO_34 := rB HO_34 hb; replace BK282 := bB BK282 hb; replace HB := hS HB hb; clear hb; obtain ⟨Ao32, co32, eo32⟩ := Kd.R_slice HO_10.out; subst eo32)))
     go_loopg [64] kj24 (fun kq v64 w' => ∃ (x10_4 : List Int) (x64_4 : Int), v64 = .int .i64 x64_4 ∧ Aside0 (impl_TimesChanging.l1 kq a2 t285 t288 x10_4 (rdOf ByteArray.empty t285 x36_2) x13_24 t293 t285 (t285.length : Int) x36_2 (x10_2.length : Int) x64_4 l0_0 = some (r1, r2)) ∧ Aside0 (kq ≤ kj24) ∧ Aside0 (Kd.R Kd.string 9 w' w.heap.size (fun _ => True) (.slice (some ad292) t285.length co21) t285) ∧ Aside0 (Kd.R (Kd.int .i64) 3 w' w.heap.size (fun _ => True) (.slice Ao32 x10_2.length co32) x10_4) ∧ Aside0 (Kd.R Kd.string 9 w' w.heap.size (fun _ => True) (.slice (some ad292) t285.length co21) t285) ∧ Aside0 (w'.heap[gb282]? = some (.cells #[(.slice A0_0 l0_0.length c0_0)] 26 (0, 0))) ∧ Aside0 (Below w.heap.size w w'))
     case atStart => exact ⟨(x10_2), (0), rF, H', kR, ⟨rU HO_8.out⟩, ⟨rU HO_10.out⟩, ⟨rU HO_34.out⟩, ⟨bU BK282.out⟩, hV HB⟩
     case round =>
      clear H'
      try clear hcz30_0;try clear hfz30_0
      obtain ⟨x10_4, x64_4, rfl, HA, HK4, HO_8, HO_10, HO_34, BK282, HB⟩ := hrel
      have hl10_4 := (Kd.R_reads' HO_10.out).1
      rw [hl10_4] at HO_10
      (try simp only [hl10_4])
      (try simp only [hl10_4] at BK282)
      (try simp only [hl10_4] at HO_8)
      (try simp only [hl10_4] at HO_34)
      obtain rfl | ⟨k4, rfl⟩ := fz gk
      ·exact zA HA
      have H := HA.out
      clear HA
      simp only [impl_TimesChanging.l1] at H
      refine iI H ?_ ?_ <;> clear H <;> intro c33 H
      ·have c33b0 := dT c33
       try (have c33l := c33b0; simp only [hl10_4] at c33l)
       clear c33
       refine iY H ?_; clear H; intro c34 H
       have c34b0 := dT c34
       clear c34
       refine iY H ?_; clear H; intro c35 H
       have c35b0 := dT c35
       clear c35
       refine iY H ?_; clear H; intro c37 H
       have c37b0 := dT c37
       clear c37
       refine iI H ?_ ?_ <;> clear H <;> intro c39 H
       ·have c39b0 := qT c39
        have c39b1 := nF c39
        clear c39
        have H' := aM H
        clear H
        have p36 : 0 ≤ (x64_4 : Int) := oD
        have q36 : x64_4 < (t293.size : Int) := oD
        have hx36 := bt_at t293 x64_4
        replace p36 := eq_true p36
        replace q36 := eq_true q36
        have p38 : 0 ≤ (x64_4 : Int) := oD
        have q38 : x64_4 < ((rdOf ByteArray.empty t285 x36_2).size : Int) := oD
        have hx38 := bt_at (rdOf ByteArray.empty t285 x36_2) x64_4
        replace p38 := eq_true p38
        replace q38 := eq_true q38
        go_wp2
        repeat (go_quiet (fail); try go_wp2)
        (try simp only [← hl10_4])
        go_roundg k4
        case measure => have := HJ3.out; have := HK2.out; have := HJ24.out; have := HK4.out; omega
        case rel => exact ⟨(x10_4), (wrap64 (x64_4 + 1)), rF, H', ⟨by have := HJ3.out; have := HK2.out; have := HJ24.out; have := HK4.out; omega⟩, ⟨by (try simp only [hl10_4]); (with_reducible repeat (first | apply Kd.R_alloc | apply Kd.R_drewN | apply Kd.R_drew)); exact HO_8.out⟩, ⟨by (try simp only [hl10_4]); (with_reducible repeat (first | apply Kd.R_alloc | apply Kd.R_drewN | apply Kd.R_drew)); exact HO_10.out⟩, ⟨by (try simp only [hl10_4]); (with_reducible repeat (first | apply Kd.R_alloc | apply Kd.R_drewN | apply Kd.R_drew)); exact HO_34.out⟩, ⟨by (try simp only [hl10_4]); (with_reducible repeat (first | refine blk_drewN ?_ _ | refine blk_drew ?_ | refine blk_alloc ?_ _)); exact BK282.out⟩, hV HB⟩
       have c39b0 := qF c39
       have c39b1 := nT c39
       refine iY H ?_; clear H; intro c40 H
       have c40b0 := dT c40
       try (have c40l := c40b0; simp only [hl10_4] at c40l)
       clear c40
       obtain ⟨y295, Ny295⟩ := yN (x10_4.set (x64_4 : Int).toNat (wrap64 ((rd x10_4 x64_4) + x13_24)) : List Int); rw [← Ny295.out] at H
       have H' := aM H
       clear H
       have p36 : 0 ≤ (x64_4 : Int) := oD
       have q36 : x64_4 < (t293.size : Int) := oD
       have hx36 := bt_at t293 x64_4
       replace p36 := eq_true p36
       replace q36 := eq_true q36
       have p38 : 0 ≤ (x64_4 : Int) := oD
       have q38 : x64_4 < ((rdOf ByteArray.empty t285 x36_2).size : Int) := oD
       have hx38 := bt_at (rdOf ByteArray.empty t285 x36_2) x64_4
       replace p38 := eq_true p38
       replace q38 := eq_true q38
       have p294 : 0 ≤ (x64_4 : Int) := oD
       have q294 : x64_4 < (x10_4.length : Int) := oD
       obtain ⟨ad294, e294, hx294_0⟩ := Kd.at_int (Kd.R_reads' HO_10.out).2.2 x64_4 p294 q294
       cases e294
       replace p294 := eq_true p294
       replace q294 := eq_true q294
       have p41 : 0 ≤ (x64_4 : Int) := oD
       have q41 : (x64_4 : Int) < ((x10_4.length : Int) : Int) := oD
       obtain ⟨go41, co41, eo41, gb41, gl41, cl41, HG41⟩ := Kd.R_form HO_10.out (by omega)
       (first | cases eo41 | (injection eo41 with ea_ en_ ec_; (first | subst ea_ | (injection ea_ with ea_; subst ea_)); subst ec_; clear en_))
       have GB41 := aM gb41
       have GG41 := aM HG41
       clear gb41 gl41 HG41
       (first | simp only [add_plain] at hx294_0 | skip)
       obtain ⟨hx41_0, hf41_0⟩ := Kd.R_celln 0 HO_10.out (x64_4 : Int) p41 q41
       replace p41 := eq_true p41
       replace q41 := eq_true q41
       have HP42 := Kd.R_putg HO_10.out (x64_4 : Int) (wrap64 ((rd x10_4 x64_4) + x13_24))
       have HF_ := aM hf41_0
       clear hf41_0
       try go_wp2
       repeat (go_quiet (fail))
       clear HF_
       generalize hq_ : World.drewN wr _ = wr
       have n0_ := aM (Kd.R_at hq_ HO_8.out)
       have n1_ := aM (Kd.R_at hq_ HO_10.out)
       have n2_ := aM (Kd.R_at hq_ HO_34.out)
       have n3_ := aM (blk_at hq_ BK282.out)
       have n4_ := aM (below_at hq_ HB.out)
       clear hq_ HO_8 HO_10 HO_34 BK282 HB
       have HO_8 := n0_
       have HO_10 := n1_
       have HO_34 := n2_
       have BK282 := n3_
       have HB := n4_
       clear n0_ n1_ n2_ n3_ n4_
       have HP42 := Kd.R_putg HO_10.out (x64_4 : Int) (wrap64 ((rd x10_4 x64_4) + x13_24))
       obtain ⟨hx41_0, hf41_0⟩ := Kd.R_celln 0 HO_10.out (x64_4 : Int) (of_eq_true p41) (of_eq_true q41)
       go_wp2_with (first | ((with_reducible refine gate_store (t := 3) (p := 80) rfl ?_); (try (rw [drewN_self wr]; generalize hq_ : World.drewN wr _ = wr; have n0_ := aM (Kd.R_at hq_ HO_8.out); have n1_ := aM (Kd.R_at hq_ HO_10.out); have n2_ := aM (Kd.R_at hq_ HO_34.out); have n3_ := aM (blk_at hq_ BK282.out); have n4_ := aM (below_at hq_ HB.out); clear hq_ HO_8 HO_10 HO_34 BK282 HB; have HO_8 := n0_; have HO_10 := n1_; have HO_34 := n2_; have BK282 := n3_; have HB := n4_; clear n0_ n1_ n2_ n3_ n4_; (try (have HP42 := Kd.R_putg HO_10.out (x64_4 : Int) (wrap64 ((rd x10_4 x64_4) + x13_24)))))); refine store_event (t := 3) (p := 80) (v := ?vo_w43) (w1 := (wr.setCell ⟨go41, (x64_4 : Int).toNat, none⟩ (.int .i64 (wrap64 ((rd x10_4 x64_4) + x13_24))))) ?hg ?ho ?hn ?hr ?_; (case ho => rfl); (case hg => rfl); (case hn => rfl); (case hr => first | (go_simp; done) | (go_simp; rfl)); intro w43 hw; have hg : wr.grownBy w43 (some go41) := (by rw [hw]; exact HP42.2); have hp_ : Kd.R (Kd.int .i64) 3 w43 w.heap.size (fun _ => True) (.slice (some ⟨go41, 0, none⟩) x10_4.length co32) y295 := (by rw [hw, Ny295.out]; exact HP42.1); clear HP42; replace HO_8 := aM (Kd.R_over' (v := (.slice (some ⟨go41, 0, none⟩) x10_4.length co32)) (rU HO_8.out) (Kd.R_typed HO_10.out) (by decide) hg); replace HO_34 := aM (Kd.R_over' (v := (.slice (some ⟨go41, 0, none⟩) x10_4.length co32)) (rU HO_34.out) (Kd.R_typed HO_10.out) (by decide) hg); replace BK282 := aM (blk_grown (g := gb282) (o := .cells #[.slice A0_0 l0_0.length c0_0] 26 (0, 0)) (bU BK282.out) hg (Kd.R_ne HO_10.out BK282.out (by decide))); replace HO_10 := aM (hp_); replace HB := aM ((by rw [hw]; exact below_set (HB.out) GB41.out : Below w.heap.size w w43)); clear hg hw hp_))
       (try simp only [← hl10_4])
       go_roundg k4
       case measure => have := HJ3.out; have := HK2.out; have := HJ24.out; have := HK4.out; omega
       case rel => exact ⟨(y295), (wrap64 (x64_4 + 1)), rF, H', ⟨by have := HJ3.out; have := HK2.out; have := HJ24.out; have := HK4.out; omega⟩, ⟨by (try simp only [hl10_4]); (with_reducible repeat (first | apply Kd.R_alloc | apply Kd.R_drewN | apply Kd.R_drew)); exact HO_8.out⟩, ⟨by (try simp only [hl10_4]); (with_reducible repeat (first | apply Kd.R_alloc | apply Kd.R_drewN | apply Kd.R_drew)); exact HO_10.out⟩, ⟨by (try simp only [hl10_4]); (with_reducible repeat (first | apply Kd.R_alloc | apply Kd.R_drewN | apply Kd.R_drew)); exact HO_34.out⟩, ⟨by (try simp only [hl10_4]); (with_reducible repeat (first | refine blk_drewN ?_ _ | refine blk_drew ?_ | refine blk_alloc ?_ _)); exact BK282.out⟩, hV HB⟩
      have c33b0 := dF c33
      try (have c33l := c33b0; simp only [hl10_4] at c33l)
      clear c33
      have H' := aM H
      clear H
      go_wp2
      repeat (go_quiet (fail); try go_wp2)
      (try simp only [← hl10_4])
      go_roundg k4
      case measure => have := HJ3.out; have := HK2.out; have := HJ24.out; have := HK4.out; omega
      case rel => exact ⟨(x10_4), (wrap64 (x36_2 + 1)), rF, H', ⟨by have := HJ3.out; have := HK2.out; have := HJ24.out; have := HK4.out; omega⟩, ⟨by (try simp only [hl10_4]); (with_reducible repeat (first | apply Kd.R_alloc | apply Kd.R_drewN | apply Kd.R_drew)); exact HO_8.out⟩, ⟨by (try simp only [hl10_4]); (with_reducible repeat (first | apply Kd.R_alloc | apply Kd.R_drewN | apply Kd.R_drew)); exact HO_10.out⟩, ⟨by (try simp only [hl10_4]); (with_reducible repeat (first | apply Kd.R_alloc | apply Kd.R_drewN | apply Kd.R_drew)); exact HO_34.out⟩, ⟨by (try simp only [hl10_4]); (with_reducible repeat (first | refine blk_drewN ?_ _ | refine blk_drew ?_ | refine blk_alloc ?_ _)); exact BK282.out⟩, hV HB⟩
   have c22b0 := dF c22
   try (have c22l := c22b0; simp only [hl10_4] at c22l)
   clear c22
   simp only [Option.some.injEq, Prod.mk.injEq] at H
   obtain ⟨rfl, rfl⟩ := H
   go_wp2
   repeat (go_quiet (fail); try go_wp2)
   go_ret2
   exact ⟨_, eW, rU HO_10.out, bel HB⟩

end Go.Proofs.YtiiahdjjngdgoaaDoor.PLTick
