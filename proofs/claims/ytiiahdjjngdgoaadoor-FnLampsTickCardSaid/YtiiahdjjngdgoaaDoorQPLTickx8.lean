-- squeezed (sq3.py); PRINTED by drive.py (a program of this session's, over the kit's print.py; wip/tools/drive.py). Lean checks it.
import Derived.Test.YtiiahdjjngdgoaaDoorQPLTickx0
import Derived.Test.YtiiahdjjngdgoaaDoorQPLTickx4
import Derived.Test.YtiiahdjjngdgoaaDoorQPLTickx5
import Derived.Test.YtiiahdjjngdgoaaDoorQPLTickx6
import Derived.Test.YtiiahdjjngdgoaaDoorQSq
namespace Go.Proofs.YtiiahdjjngdgoaaDoor.PLTick
open Go.RowKit Go.Proofs.YtiiahdjjngdgoaaDoorW.PrintWords Go.Proofs.YtiiahdjjngdgoaaDoorW.PrintLast Go.Proofs.YtiiahdjjngdgoaaDoorW.PrintMore
attribute [local go_sem] max2_int min2_int max_two min_two max_three min_three max_four min_four   -- for this text's walks alone
set_option linter.unusedVariables false
set_option linter.unusedSimpArgs false

/-! ### spec_TimesChanging: function 11 -/
mutual
def spec_TimesChanging.j0 : Nat → ByteArray → Int → Bool → List ByteArray → Option (List Int × Bool)
 | 0, _, _, _, _ => none
 | k + 1, x1, x2, x23, x297000 => if x23 = true then (some (([] : List Int), false)) else ((spec_laPath.f k x297000 x1).bind fun bt299 => (if 0 ≤ (x1.size : Int) then (if ((x1.size : Int) : Int).toNat ≤ 35184372088832 then (spec_TimesChanging.l0 k x2 bt299.1 bt299.2 (List.replicate ((x1.size : Int) : Int).toNat 0) bt299.1 (bt299.1.length : Int) 0 x297000) else (none)) else (none)))
def spec_TimesChanging.l0 : Nat → Int → List ByteArray → Int → List Int → List ByteArray → Int → Int → List ByteArray → Option (List Int × Bool)
 | 0, _, _, _, _, _, _, _, _ => none
 | k + 1, x2, x8, x9, x10, x33, x34, x35, x297000 => if x35 < x34 then (if 0 ≤ x35 then (if x35 < (x33.length : Int) then (if x35 < x2 then (if x35 ≥ x9 then (if (wrap64 ((x8.length : Int) - x9)) = 0 then (none) else (spec_TimesChanging.j2 k x2 x8 x9 x10 (rdOf ByteArray.empty x33 x35) (wrap64 ((wrap64 (Int.tdiv (wrap64 ((wrap64 (x2 - 1)) - x35)) (wrap64 ((x8.length : Int) - x9)))) + 1)) x33 x34 x35 x297000)) else (spec_TimesChanging.j2 k x2 x8 x9 x10 (rdOf ByteArray.empty x33 x35) 1 x33 x34 x35 x297000)) else (spec_TimesChanging.j2 k x2 x8 x9 x10 (rdOf ByteArray.empty x33 x35) 0 x33 x34 x35 x297000)) else (none)) else (none)) else (some (x10, true))
def spec_TimesChanging.j2 : Nat → Int → List ByteArray → Int → List Int → ByteArray → Int → List ByteArray → Int → Int → List ByteArray → Option (List Int × Bool)
 | 0, _, _, _, _, _, _, _, _, _, _ => none
 | k + 1, x2, x8, x9, x10, x12, x13, x33, x34, x35, x297000 => spec_TimesChanging.l1 k x2 x8 x9 x10 x12 x13 x33 x34 x35 (x10.length : Int) 0 x297000
def spec_TimesChanging.l1 : Nat → Int → List ByteArray → Int → List Int → ByteArray → Int → List ByteArray → Int → Int → Int → Int → List ByteArray → Option (List Int × Bool)
 | 0, _, _, _, _, _, _, _, _, _, _, _, _ => none
 | k + 1, x2, x8, x9, x10, x12, x13, x33, x34, x35, x57, x58, x297000 => if x58 < x57 then ((spec_laChanges.f x297000 x12 x58).bind fun t307 => (if t307 = true then (if 0 ≤ x58 then (if x58 < (x10.length : Int) then (spec_TimesChanging.l1 k x2 x8 x9 (x10.set (x58 : Int).toNat (wrap64 ((rd x10 x58) + x13))) x12 x13 x33 x34 x35 x57 (wrap64 (x58 + 1)) x297000) else (none)) else (none)) else (spec_TimesChanging.l1 k x2 x8 x9 x10 x12 x13 x33 x34 x35 x57 (wrap64 (x58 + 1)) x297000))) else (spec_TimesChanging.l0 k x2 x8 x9 x10 x33 x34 (wrap64 (x35 + 1)) x297000)
end
def spec_TimesChanging.f (k : Nat) (l0_0 : List ByteArray) (a1 : ByteArray) (a2 : Int) : Option (List Int × Bool) := (spec_laAsked.f l0_0 a1).bind fun t297 => (if t297 = true then ((spec_laTicks.f a2).bind fun t298 => (spec_TimesChanging.j0 k a1 a2 (!t298) l0_0)) else (spec_TimesChanging.j0 k a1 a2 true l0_0))
theorem spec_TimesChanging.mono_l : ∀ k, Mo (spec_TimesChanging.j0 k) (spec_TimesChanging.j0 (k + 1)) ∧ Mo (spec_TimesChanging.l0 k) (spec_TimesChanging.l0 (k + 1)) ∧ Mo (spec_TimesChanging.j2 k) (spec_TimesChanging.j2 (k + 1)) ∧ Mo (spec_TimesChanging.l1 k) (spec_TimesChanging.l1 (k + 1))
 | 0 => m0
 | k + 1 => by
  have ⟨ih0, ih1, ih2, ih3⟩ := spec_TimesChanging.mono_l k
  refine ⟨?_, ?_, ?_, ?_⟩ <;> (repeat refine mE fun _ => ?_) <;> first | (unfold spec_TimesChanging.j0; exact mG) | (unfold spec_TimesChanging.l0; exact mG) | (unfold spec_TimesChanging.j2; exact mG) | (unfold spec_TimesChanging.l1; exact mG)
instance spec_TimesChanging.mI (k : Nat) : Mo (spec_TimesChanging.f k) (spec_TimesChanging.f (k + 1)) := by
 have ⟨ih0, ih1, ih2, ih3⟩ := spec_TimesChanging.mono_l k
 (repeat refine mE fun _ => ?_); unfold spec_TimesChanging.f; exact mG
theorem spec_TimesChanging.mono : ∀ a0 a1 a2 k, LeO (spec_TimesChanging.f k a0 a1 a2) (spec_TimesChanging.f (k + 1) a0 a1 a2) := fun a0 a1 a2 k => (spec_TimesChanging.mI k).out a0 a1 a2
set_option maxHeartbeats 8000000 in
set_option maxRecDepth 100000 in
theorem spec_TimesChanging.calls (k : Nat) (A0_0 : Option Addr) (c0_0 : Nat) (l0_0 : List ByteArray) (a1 : ByteArray) (a2 : Int) (r1 : List Int) (r2 : Bool) (w : World) (hr0_0 : Kd.C Kd.string w A0_0 l0_0.length l0_0) (hc0_0 : l0_0.length ≤ c0_0) (h : spec_TimesChanging.f k l0_0 a1 a2 = some (r1, r2)) :
  Calls Tryd.prog 11 #[.agg #[.slice A0_0 l0_0.length c0_0], .string a1, .int .i64 a2] w fun e w' => ∃ v0_ : Value, e = .returned (.tuple #[v0_, .bool r2]) ∧ Kd.R (Kd.int .i64) 3 w' w.heap.size (fun _ => True) v0_ r1 ∧ Below w.heap.size w w' := by
 have hu26 := Tryd.underlying26
 have HR0_0 := aM hr0_0
 have HC0_0 := aM hc0_0
 clear hr0_0 hc0_0
 have HB := aM (Below.refl w.heap.size w)
 have H := h
 clear h; unfold spec_TimesChanging.f at H
 have HC4 := aM H
 clear H
 go_enter Tryd.func11, Tryd.ntmps11
 go_upto_region 1 with (first | (refine bX (N := 3) rfl (cs := #[.slice A0_0 l0_0.length c0_0]) (t := 26) ?_; intro gb296 hg w5 BK296 hb; have GW296 := gE hg HB; have GE296 := gE hg HB; replace HB := hS HB hb; clear hb hg))
 (try simp only [Act.put, List.setIfInBounds_toArray, List.set_cons_zero, List.set_cons_succ])
 go_cut [23] (fun v23 wc => ∃ (kq : Nat) (x23_3 : Bool), v23 = .bool x23_3 ∧ Aside0 (spec_TimesChanging.j0 kq a1 a2 x23_3 l0_0 = some (r1, r2)) ∧ Aside0 (kq ≤ k) ∧ Aside0 (wc.heap[gb296]? = some (.cells #[(.slice A0_0 l0_0.length c0_0)] 26 (0, 0))) ∧ Aside0 (Below w.heap.size w wc))
 case first =>
  have H := HC4.out
  clear HC4
  replace H := bC H; obtain ⟨t297, A6, H⟩ := H
  refine iB H ?_ ?_ <;> clear H <;> rintro rfl H
  ·replace H := bC H; obtain ⟨t298, A8, H⟩ := H
   have H' := aM H
   clear H
   obtain ⟨hcz9_0, hfz9_0⟩ := hC1 BK296
   go_wp2_with (first | ((with_reducible refine gG 75 (some 17) rfl rfl ?_); refine gC Tryd.func75 (spec_laAsked.calls _ _ l0_0 a1 true _ (cU (Kd.C_below HR0_0.out HB.out)) HC0_0.out A6.out) ?_; rintro w10 hb; replace BK296 := bB BK296 hb; replace HB := hS HB hb; clear hb) | (go_at_call 76; (with_reducible refine (spec_laTicks.calls a2 t298 _ A8.out).mono ?_); rintro e w' ⟨rfl, ⟨nd, rfl⟩⟩))
   go_meet
   case rel => exact ⟨_, (!t298), rF, H', kL, ⟨bU BK296.out⟩, hV HB⟩
  have H' := aM H
  clear H
  obtain ⟨hcz11_0, hfz11_0⟩ := hC1 BK296
  go_wp2_with (first | ((with_reducible refine gG 75 (some 17) rfl rfl ?_); refine gC Tryd.func75 (spec_laAsked.calls _ _ l0_0 a1 false _ (cU (Kd.C_below HR0_0.out HB.out)) HC0_0.out A6.out) ?_; rintro w12 hb; replace BK296 := bB BK296 hb; replace HB := hS HB hb; clear hb))
  go_meet
  case rel => exact ⟨_, (true), rF, H', kL, ⟨bU BK296.out⟩, hV HB⟩
 case rest =>
  clear HC4
  obtain ⟨kq, x23_3, rfl, HA, HJ3, BK296, HB⟩ := hcut
  obtain rfl | ⟨kj3, rfl⟩ := fz kq
  ·exact zA HA
  have H := HA.out
  clear HA
  simp only [spec_TimesChanging.j0] at H
  refine iB H ?_ ?_ <;> clear H <;> rintro rfl H
  ·simp only [Option.some.injEq, Prod.mk.injEq] at H
   obtain ⟨rfl, rfl⟩ := H
   go_wp2
   go_ret2
   exact ⟨_, eW, by first | exact Kd.R_nil _ _ _ _ _ | exact Kd.N_nil _ _ _ _ _ | exact Kd.V_nil _ _ _ _ _ | exact Kd.Q_nil _ _ _ _ _ | exact Kd.S_nil _ _ _ _ _, bel HB⟩
  replace H := bC H; obtain ⟨⟨t299, t302⟩, A14, H⟩ := H; try dsimp only at H
  refine iY H ?_; clear H; intro c15 H
  have c15b0 := eq_true c15
  have c15b1 := dT c15
  clear c15
  refine iY H ?_; clear H; intro c16 H
  have c16b0 := eq_true c16
  have c16b1 := dT c16
  clear c16
  obtain ⟨y303, Ny303⟩ := yN (List.replicate ((a1.size : Int) : Int).toNat 0 : List Int); rw [← Ny303.out] at H
  have H' := aM H
  clear H
  obtain ⟨hcz17_0, hfz17_0⟩ := hC1 BK296
  go_wp2_with (first | ((with_reducible refine gG 77 (some 27) rfl rfl ?_); refine gD Tryd.func77 (spec_laPath.calls kj3 _ _ l0_0 a1 t299 t302 _ (cU (Kd.C_below HR0_0.out HB.out)) HC0_0.out A14.out) ?_; rintro w18 v300 ⟨ho0, hb⟩; have HO301 := rL ho0 HB; replace BK296 := bB BK296 hb; replace HB := hS HB hb; clear hb ho0) | ((with_reducible refine gate_dst (N := 32) rfl ?_); refine Kd.R_make (Kd.int .i64) _ 3 rfl (N := 32) rfl 31 _ _ rfl (a1.size : Int) rfl rfl Tryd.underlying31 (.int .i64 0) 8 info3 rfl (by decide) (by omega) 0 (ok := fun _ => True) (okp := fun _ => True) rfl (fun _ hk => hk) trivial oD (Nat.le_trans (Nat.mul_le_mul_right _ (oD : (a1.size : Int).toNat ≤ 35184372088832)) (by omega)) (Below.refl _ _) (Nat.le_refl _) ?_; intro v304 w19 ho20 hb hg_ hnew_; clear hg_ hnew_; (first | rw [← Ny303.out] at ho20 | (simp only [Int.reduceToNat] at ho20; rw [← Ny303.out] at ho20)); have HO305 := rL ho20 HB; replace HO301 := rB HO301 hb; replace BK296 := bB BK296 hb; replace HB := hS HB hb; clear hb ho20; obtain ⟨Ao21, co21, eo21⟩ := Kd.R_slice HO301.out; subst eo21))
  go_loopg [35] kj3 (fun kq v35 w' => ∃ (x10_2 : List Int) (x35_2 : Int), v35 = .int .i64 x35_2 ∧ Aside0 (spec_TimesChanging.l0 kq a2 t299 t302 x10_2 t299 (t299.length : Int) x35_2 l0_0 = some (r1, r2)) ∧ Aside0 (kq ≤ kj3) ∧ Aside0 (Kd.R Kd.string 9 w' w.heap.size (fun _ => True) (.slice Ao21 t299.length co21) t299) ∧ Aside0 (Kd.R (Kd.int .i64) 3 w' w.heap.size (fun _ => True) v304 x10_2) ∧ Aside0 (Kd.R Kd.string 9 w' w.heap.size (fun _ => True) (.slice Ao21 t299.length co21) t299) ∧ Aside0 (w'.heap[gb296]? = some (.cells #[(.slice A0_0 l0_0.length c0_0)] 26 (0, 0))) ∧ Aside0 (Below w.heap.size w w'))
  case atStart => exact ⟨(y303), (0), rF, H', kR, ⟨rU HO301.out⟩, ⟨rU HO305.out⟩, ⟨rU HO301.out⟩, ⟨bU BK296.out⟩, hV HB⟩
  case round =>
   clear H'
   try clear c15b0;try clear c15b1;try clear c16b0;try clear c16b1;try clear hcz17_0;try clear hfz17_0
   obtain ⟨x10_2, x35_2, rfl, HA, HK2, HO_8, HO_10, HO_33, BK296, HB⟩ := hrel
   obtain rfl | ⟨k2, rfl⟩ := fz gk
   ·exact zA HA
   have H := HA.out
   clear HA
   simp only [spec_TimesChanging.l0] at H
   refine iI H ?_ ?_ <;> clear H <;> intro c22 H
   ·have c22b0 := dT c22
    clear c22
    refine iY H ?_; clear H; intro c23 H
    have c23b0 := dT c23
    clear c23
    refine iY H ?_; clear H; intro c24 H
    have c24b0 := dT c24
    clear c24
    have HC25 := aM H
    clear H
    have p306 : 0 ≤ (x35_2 : Int) := oD
    have q306 : x35_2 < (t299.length : Int) := oD
    obtain ⟨ad306, e306, hx306_0⟩ := Kd.at_string (Kd.R_reads' HO_33.out).2.2 x35_2 p306 q306
    cases e306
    replace p306 := eq_true p306
    replace q306 := eq_true q306
    go_upto_if 42 with (fail)
    go_cut [13] (fun v13 wc => ∃ (kq : Nat) (x13_24 : Int), v13 = .int .i64 x13_24 ∧ Aside0 (spec_TimesChanging.j2 kq a2 t299 t302 x10_2 (rdOf ByteArray.empty t299 x35_2) x13_24 t299 (t299.length : Int) x35_2 l0_0 = some (r1, r2)) ∧ Aside0 (kq ≤ k2) ∧ Aside0 (Kd.R Kd.string 9 wc w.heap.size (fun _ => True) (.slice (some ad306) t299.length co21) t299) ∧ Aside0 (Kd.R (Kd.int .i64) 3 wc w.heap.size (fun _ => True) v304 x10_2) ∧ Aside0 (Kd.R Kd.string 9 wc w.heap.size (fun _ => True) (.slice (some ad306) t299.length co21) t299) ∧ Aside0 (wc.heap[gb296]? = some (.cells #[(.slice A0_0 l0_0.length c0_0)] 26 (0, 0))) ∧ Aside0 (Below w.heap.size w wc))
    case first =>
     have H := HC25.out
     clear HC25
     refine iI H ?_ ?_ <;> clear H <;> intro c26 H
     ·have c26b0 := dT c26
      clear c26
      (first | rw [c26b0] | (simp only [i64_w, i32_w]; rw [c26b0]) | skip)
      refine iI H ?_ ?_ <;> clear H <;> intro c27 H
      ·have c27b0 := hT c27
       clear c27
       refine iN H ?_; clear H; intro c28 H
       have c28b0 := qF c28
       have c28b1 := nT c28
       have H' := aM H
       clear H
       go_wp2
       go_meet
       case rel => exact ⟨_, (wrap64 ((wrap64 (Int.tdiv (wrap64 ((wrap64 (a2 - 1)) - x35_2)) (wrap64 ((t299.length : Int) - t302)))) + 1)), rF, H', ⟨by have := HJ3.out; have := HK2.out; first | omega | exact Nat.le_refl _⟩, ⟨rU HO_8.out⟩, ⟨rU HO_10.out⟩, ⟨rU HO_33.out⟩, ⟨bU BK296.out⟩, hV HB⟩
      have c27b0 := hF c27
      clear c27
      have H' := aM H
      clear H
      go_wp2
      go_meet
      case rel => exact ⟨_, (1), rF, H', ⟨by have := HJ3.out; have := HK2.out; first | omega | exact Nat.le_refl _⟩, ⟨rU HO_8.out⟩, ⟨rU HO_10.out⟩, ⟨rU HO_33.out⟩, ⟨bU BK296.out⟩, hV HB⟩
     have c26b0 := dF c26
     clear c26
     (first | rw [c26b0] | (simp only [i64_w, i32_w]; rw [c26b0]) | skip)
     have H' := aM H
     clear H
     go_wp2
     go_meet
     case rel => exact ⟨_, (0), rF, H', ⟨by have := HJ3.out; have := HK2.out; first | omega | exact Nat.le_refl _⟩, ⟨rU HO_8.out⟩, ⟨rU HO_10.out⟩, ⟨rU HO_33.out⟩, ⟨bU BK296.out⟩, hV HB⟩
    case rest =>
     clear HC25
     try clear c22b0;try clear c23b0;try clear c24b0;try clear hx306_0;try clear p306;try clear q306
     obtain ⟨kq, x13_24, rfl, HA, HJ24, HO_8, HO_10, HO_33, BK296, HB⟩ := hcut
     obtain rfl | ⟨kj24, rfl⟩ := fz kq
     ·exact zA HA
     have H := HA.out
     clear HA
     simp only [spec_TimesChanging.j2] at H
     have H' := aM H
     clear H
     obtain ⟨Ao29, co29, eo29⟩ := Kd.R_slice HO_10.out
     subst eo29
     go_wp2
     go_loopg [58] kj24 (fun kq v58 w' => ∃ (x10_4 : List Int) (x58_4 : Int), v58 = .int .i64 x58_4 ∧ Aside0 (spec_TimesChanging.l1 kq a2 t299 t302 x10_4 (rdOf ByteArray.empty t299 x35_2) x13_24 t299 (t299.length : Int) x35_2 (x10_2.length : Int) x58_4 l0_0 = some (r1, r2)) ∧ Aside0 (kq ≤ kj24) ∧ Aside0 (Kd.R Kd.string 9 w' w.heap.size (fun _ => True) (.slice (some ad306) t299.length co21) t299) ∧ Aside0 (Kd.R (Kd.int .i64) 3 w' w.heap.size (fun _ => True) (.slice Ao29 x10_2.length co29) x10_4) ∧ Aside0 (Kd.R Kd.string 9 w' w.heap.size (fun _ => True) (.slice (some ad306) t299.length co21) t299) ∧ Aside0 (w'.heap[gb296]? = some (.cells #[(.slice A0_0 l0_0.length c0_0)] 26 (0, 0))) ∧ Aside0 (Below w.heap.size w w'))
     case atStart => exact ⟨(x10_2), (0), rF, H', kR, ⟨rU HO_8.out⟩, ⟨rU HO_10.out⟩, ⟨rU HO_33.out⟩, ⟨bU BK296.out⟩, hV HB⟩
     case round =>
      clear H'
      obtain ⟨x10_4, x58_4, rfl, HA, HK4, HO_8, HO_10, HO_33, BK296, HB⟩ := hrel
      have hl10_4 := (Kd.R_reads' HO_10.out).1
      rw [hl10_4] at HO_10
      (try simp only [hl10_4])
      (try simp only [hl10_4] at BK296)
      (try simp only [hl10_4] at HO_8)
      (try simp only [hl10_4] at HO_33)
      obtain rfl | ⟨k4, rfl⟩ := fz gk
      ·exact zA HA
      have H := HA.out
      clear HA
      simp only [spec_TimesChanging.l1] at H
      refine iI H ?_ ?_ <;> clear H <;> intro c30 H
      ·have c30b0 := dT c30
       try (have c30l := c30b0; simp only [hl10_4] at c30l)
       clear c30
       replace H := bC H; obtain ⟨t307, A31, H⟩ := H
       refine iB H ?_ ?_ <;> clear H <;> rintro rfl H
       ·refine iY H ?_; clear H; intro c33 H
        have c33b0 := dT c33
        clear c33
        refine iY H ?_; clear H; intro c34 H
        have c34b0 := dT c34
        try (have c34l := c34b0; simp only [hl10_4] at c34l)
        clear c34
        obtain ⟨y309, Ny309⟩ := yN (x10_4.set (x58_4 : Int).toNat (wrap64 ((rd x10_4 x58_4) + x13_24)) : List Int); rw [← Ny309.out] at H
        have H' := aM H
        clear H
        obtain ⟨hcz36_0, hfz36_0⟩ := hC1 BK296
        go_wp2_with (first | ((with_reducible refine gG 80 (some 64) rfl rfl ?_); refine gC Tryd.func80 (spec_laChanges.calls _ _ l0_0 (rdOf ByteArray.empty t299 x35_2) x58_4 true _ (cU (Kd.C_below HR0_0.out HB.out)) HC0_0.out A31.out) ?_; rintro w37 hb; replace HO_8 := rB HO_8 hb; replace HO_10 := rB HO_10 hb; replace HO_33 := rB HO_33 hb; replace BK296 := bB BK296 hb; replace HB := hS HB hb; clear hb; have p308 : 0 ≤ (x58_4 : Int) := oD; have q308 : x58_4 < (x10_4.length : Int) := oD; obtain ⟨ad308, e308, hx308_0⟩ := Kd.at_int (Kd.R_reads' HO_10.out).2.2 x58_4 p308 q308; cases e308; replace p308 := eq_true p308; replace q308 := eq_true q308; have p35 : 0 ≤ (x58_4 : Int) := oD; have q35 : (x58_4 : Int) < ((x10_4.length : Int) : Int) := oD; obtain ⟨go35, co35, eo35, gb35, gl35, cl35, HG35⟩ := Kd.R_form HO_10.out (by omega); (first | cases eo35 | (injection eo35 with ea_ en_ ec_; (first | subst ea_ | (injection ea_ with ea_; subst ea_)); subst ec_; clear en_)); have GB35 := aM gb35; have GG35 := aM HG35; clear gb35 gl35 HG35; (first | simp only [add_plain] at hx308_0 | skip); obtain ⟨hx35_0, hf35_0⟩ := Kd.R_celln 0 HO_10.out (x58_4 : Int) p35 q35; replace p35 := eq_true p35; replace q35 := eq_true q35; obtain ⟨hy38_, hz38_⟩ := Kd.R_celln 0 HO_10.out (x58_4 : Int) oD oD; have HP38 := Kd.R_putg HO_10.out (x58_4 : Int) (wrap64 ((rd x10_4 x58_4) + x13_24))) | ((with_reducible refine gate_store (t := 3) (p := 71) rfl ?_); refine store_event (t := 3) (p := 71) (v := ?vo_w39) (w1 := (w37.setCell ⟨go35, (x58_4 : Int).toNat, none⟩ (.int .i64 (wrap64 ((rd x10_4 x58_4) + x13_24))))) ?hg ?ho ?hn ?hr ?_; (case ho => rfl); (case hg => rfl); (case hn => rfl); (case hr => first | (go_simp; done) | (go_simp; rfl)); intro w39 hw; have hg : w37.grownBy w39 (some go35) := (by rw [hw]; exact HP38.2); have hp_ : Kd.R (Kd.int .i64) 3 w39 w.heap.size (fun _ => True) (.slice (some ⟨go35, 0, none⟩) x10_4.length co29) y309 := (by rw [hw, Ny309.out]; exact HP38.1); clear HP38; replace HO_8 := aM (Kd.R_over' (v := (.slice (some ⟨go35, 0, none⟩) x10_4.length co29)) (rU HO_8.out) (Kd.R_typed HO_10.out) (by decide) hg); replace HO_33 := aM (Kd.R_over' (v := (.slice (some ⟨go35, 0, none⟩) x10_4.length co29)) (rU HO_33.out) (Kd.R_typed HO_10.out) (by decide) hg); replace BK296 := aM (blk_grown (g := gb296) (o := .cells #[.slice A0_0 l0_0.length c0_0] 26 (0, 0)) (bU BK296.out) hg (Kd.R_ne HO_10.out BK296.out (by decide))); replace HO_10 := aM (hp_); replace HB := aM ((by rw [hw]; exact below_set (HB.out) GB35.out : Below w.heap.size w w39)); clear hg hw hp_))
        (try simp only [← hl10_4])
        go_roundg k4
        case measure => have := HJ3.out; have := HK2.out; have := HJ24.out; have := HK4.out; omega
        case rel => exact ⟨(y309), (wrap64 (x58_4 + 1)), rF, H', ⟨by have := HJ3.out; have := HK2.out; have := HJ24.out; have := HK4.out; omega⟩, ⟨by (try simp only [hl10_4]); (with_reducible repeat (first | apply Kd.R_alloc | apply Kd.R_drewN | apply Kd.R_drew)); exact HO_8.out⟩, ⟨by (try simp only [hl10_4]); (with_reducible repeat (first | apply Kd.R_alloc | apply Kd.R_drewN | apply Kd.R_drew)); exact HO_10.out⟩, ⟨by (try simp only [hl10_4]); (with_reducible repeat (first | apply Kd.R_alloc | apply Kd.R_drewN | apply Kd.R_drew)); exact HO_33.out⟩, ⟨by (try simp only [hl10_4]); (with_reducible repeat (first | refine blk_drewN ?_ _ | refine blk_drew ?_ | refine blk_alloc ?_ _)); exact BK296.out⟩, hV HB⟩
       have H' := aM H
       clear H
       obtain ⟨hcz40_0, hfz40_0⟩ := hC1 BK296
       go_wp2_with (first | ((with_reducible refine gG 80 (some 64) rfl rfl ?_); refine gC Tryd.func80 (spec_laChanges.calls _ _ l0_0 (rdOf ByteArray.empty t299 x35_2) x58_4 false _ (cU (Kd.C_below HR0_0.out HB.out)) HC0_0.out A31.out) ?_; rintro w41 hb; replace HO_8 := rB HO_8 hb; replace HO_10 := rB HO_10 hb; replace HO_33 := rB HO_33 hb; replace BK296 := bB BK296 hb; replace HB := hS HB hb; clear hb))
       (try simp only [← hl10_4])
       go_roundg k4
       case measure => have := HJ3.out; have := HK2.out; have := HJ24.out; have := HK4.out; omega
       case rel => exact ⟨(x10_4), (wrap64 (x58_4 + 1)), rF, H', ⟨by have := HJ3.out; have := HK2.out; have := HJ24.out; have := HK4.out; omega⟩, ⟨by (try simp only [hl10_4]); (with_reducible repeat (first | apply Kd.R_alloc | apply Kd.R_drewN | apply Kd.R_drew)); exact HO_8.out⟩, ⟨by (try simp only [hl10_4]); (with_reducible repeat (first | apply Kd.R_alloc | apply Kd.R_drewN | apply Kd.R_drew)); exact HO_10.out⟩, ⟨by (try simp only [hl10_4]); (with_reducible repeat (first | apply Kd.R_alloc | apply Kd.R_drewN | apply Kd.R_drew)); exact HO_33.out⟩, ⟨by (try simp only [hl10_4]); (with_reducible repeat (first | refine blk_drewN ?_ _ | refine blk_drew ?_ | refine blk_alloc ?_ _)); exact BK296.out⟩, hV HB⟩
      have c30b0 := dF c30
      try (have c30l := c30b0; simp only [hl10_4] at c30l)
      clear c30
      have H' := aM H
      clear H
      go_wp2
      (try simp only [← hl10_4])
      go_roundg k4
      case measure => have := HJ3.out; have := HK2.out; have := HJ24.out; have := HK4.out; omega
      case rel => exact ⟨(x10_4), (wrap64 (x35_2 + 1)), rF, H', ⟨by have := HJ3.out; have := HK2.out; have := HJ24.out; have := HK4.out; omega⟩, ⟨by (try simp only [hl10_4]); (with_reducible repeat (first | apply Kd.R_alloc | apply Kd.R_drewN | apply Kd.R_drew)); exact HO_8.out⟩, ⟨by (try simp only [hl10_4]); (with_reducible repeat (first | apply Kd.R_alloc | apply Kd.R_drewN | apply Kd.R_drew)); exact HO_10.out⟩, ⟨by (try simp only [hl10_4]); (with_reducible repeat (first | apply Kd.R_alloc | apply Kd.R_drewN | apply Kd.R_drew)); exact HO_33.out⟩, ⟨by (try simp only [hl10_4]); (with_reducible repeat (first | refine blk_drewN ?_ _ | refine blk_drew ?_ | refine blk_alloc ?_ _)); exact BK296.out⟩, hV HB⟩
   have c22b0 := dF c22
   try (have c22l := c22b0; simp only [hl10_4] at c22l)
   clear c22
   simp only [Option.some.injEq, Prod.mk.injEq] at H
   obtain ⟨rfl, rfl⟩ := H
   go_wp2
   go_ret2
   exact ⟨_, eW, rU HO_10.out, bel HB⟩

/-! ### laws_xSame: function 12 -/
def laws_xSame.l0 : Nat → List Int → List Int → Int → Int → Option (Bool)
 | 0, _, _, _, _ => none
 | k + 1, x0, x1, x12, x13 => if x13 < x12 then (if 0 ≤ x13 then (if x13 < (x0.length : Int) then (if x13 < (x1.length : Int) then (if (rd x0 x13) = (rd x1 x13) then (laws_xSame.l0 k x0 x1 x12 (wrap64 (x13 + 1))) else (some false)) else (none)) else (none)) else (none)) else (some true)
def laws_xSame.f (k : Nat) (l0 : List Int) (l1 : List Int) : Option (Bool) := if (l0.length : Int) = (l1.length : Int) then (laws_xSame.l0 k l0 l1 (l0.length : Int) 0) else (some false)
theorem laws_xSame.mono_l : ∀ k, Mo (laws_xSame.l0 k) (laws_xSame.l0 (k + 1))
 | 0 => m0
 | k + 1 => by
  have ih0 := laws_xSame.mono_l k
  (repeat refine mE fun _ => ?_) <;> first | (unfold laws_xSame.l0; exact mG)
instance laws_xSame.mI (k : Nat) : Mo (laws_xSame.f k) (laws_xSame.f (k + 1)) := by
 have ih0 := laws_xSame.mono_l k
 (repeat refine mE fun _ => ?_); unfold laws_xSame.f; exact mG
theorem laws_xSame.mono : ∀ a0 a1 k, LeO (laws_xSame.f k a0 a1) (laws_xSame.f (k + 1) a0 a1) := fun a0 a1 k => (laws_xSame.mI k).out a0 a1
set_option maxHeartbeats 8000000 in
set_option maxRecDepth 100000 in
theorem laws_xSame.calls (k : Nat) (A0 : Option Addr) (c0 : Nat) (l0 : List Int) (A1 : Option Addr) (c1 : Nat) (l1 : List Int) (r : Bool) (w : World) (hr0 : Kd.C (Kd.int .i64) w A0 l0.length l0) (hc0 : l0.length ≤ c0) (hr1 : Kd.C (Kd.int .i64) w A1 l1.length l1) (hc1 : l1.length ≤ c1) (h : laws_xSame.f k l0 l1 = some r) :
  Calls Tryd.prog 12 #[.slice A0 l0.length c0, .slice A1 l1.length c1] w fun e w' => e = .returned (.bool r) ∧ Drawn0 w w' := by
 have HR0 := aM hr0
 have HC0 := aM hc0
 clear hr0 hc0
 have HR1 := aM hr1
 have HC1 := aM hc1
 clear hr1 hc1
 have H := h
 clear h; unfold laws_xSame.f at H
 refine iI H ?_ ?_ <;> clear H <;> intro c3 H
 ·have c3b0 := qT c3
  have c3b1 := nF c3
  have c3b2 : (l0.length == l1.length) = true := by first | simpa using c3 | (simp at c3 ⊢; omega)
  clear c3
  have H' := aM H
  clear H
  go_enter Tryd.func12, Tryd.ntmps12
  go_wp2
  repeat (go_quiet (fail); try go_wp2)
  go_loopg [13] k (fun kq v13 w' => ∃ (x13_1 : Int), v13 = .int .i64 x13_1 ∧ Aside0 (laws_xSame.l0 kq l0 l1 (l0.length : Int) x13_1 = some r) ∧ Aside0 (kq ≤ k) ∧ Drawn0 w w')
  case atStart => exact ⟨(0), rF, H', kR, d0⟩
  case round =>
   clear H'
   try clear c1;try clear c3b0;try clear c3b1;try clear c3b2
   obtain ⟨x13_1, rfl, HA, HK1, ⟨m1, rfl⟩⟩ := hrel
   obtain rfl | ⟨k1, rfl⟩ := fz gk
   ·exact zA HA
   have H := HA.out
   clear HA
   simp only [laws_xSame.l0] at H
   refine iI H ?_ ?_ <;> clear H <;> intro c4 H
   ·have c4b0 := dT c4
    clear c4
    refine iY H ?_; clear H; intro c5 H
    have c5b0 := dT c5
    clear c5
    refine iY H ?_; clear H; intro c6 H
    have c6b0 := dT c6
    clear c6
    refine iY H ?_; clear H; intro c7 H
    have c7b0 := dT c7
    clear c7
    refine iI H ?_ ?_ <;> clear H <;> intro c8 H
    ·have c8b0 := qT c8
     have c8b1 := nF c8
     clear c8
     have H' := aM H
     clear H
     have p310 : 0 ≤ (x13_1 : Int) := oD
     have q310 : x13_1 < (l0.length : Int) := oD
     obtain ⟨ad310, e310, hx310_0⟩ := Kd.at_int HR0.out x13_1 p310 q310
     cases e310
     replace p310 := eq_true p310
     replace q310 := eq_true q310
     have p311 : 0 ≤ (x13_1 : Int) := oD
     have q311 : x13_1 < (l1.length : Int) := oD
     obtain ⟨ad311, e311, hx311_0⟩ := Kd.at_int HR1.out x13_1 p311 q311
     cases e311
     replace p311 := eq_true p311
     replace q311 := eq_true q311
     go_wp2
     repeat (go_quiet (fail); try go_wp2)
     go_roundg k1
     case measure => have := HK1.out; omega
     case rel => exact ⟨(wrap64 (x13_1 + 1)), rF, H', ⟨by have := HK1.out; omega⟩, d0⟩
    have c8b0 := qF c8
    have c8b1 := nT c8
    obtain rfl := Option.some.inj H
    have p310 : 0 ≤ (x13_1 : Int) := oD
    have q310 : x13_1 < (l0.length : Int) := oD
    obtain ⟨ad310, e310, hx310_0⟩ := Kd.at_int HR0.out x13_1 p310 q310
    cases e310
    replace p310 := eq_true p310
    replace q310 := eq_true q310
    have p311 : 0 ≤ (x13_1 : Int) := oD
    have q311 : x13_1 < (l1.length : Int) := oD
    obtain ⟨ad311, e311, hx311_0⟩ := Kd.at_int HR1.out x13_1 p311 q311
    cases e311
    replace p311 := eq_true p311
    replace q311 := eq_true q311
    go_wp2
    repeat (go_quiet (fail); try go_wp2)
    go_ret
    exact ⟨rF, d0⟩
   have c4b0 := dF c4
   clear c4
   obtain rfl := Option.some.inj H
   go_wp2
   repeat (go_quiet (fail); try go_wp2)
   go_ret
   exact ⟨rF, d0⟩
 have c3b0 := qF c3
 have c3b1 := nT c3
 have c3b2 : (l0.length == l1.length) = false := by first | simpa using c3 | (simp at c3 ⊢; omega)
 obtain rfl := Option.some.inj H
 go_enter Tryd.func12, Tryd.ntmps12
 go_wp2
 repeat (go_quiet (fail); try go_wp2)
 go_ret
 exact ⟨rF, d0⟩

/-! ### spec_AreLamps: function 14 -/
def spec_AreLamps.f (l0_0 : List ByteArray) : Option (Bool) := (spec_laGood.f l0_0).bind fun t313 => (some t313)
set_option maxHeartbeats 8000000 in
set_option maxRecDepth 100000 in
theorem spec_AreLamps.calls (A0_0 : Option Addr) (c0_0 : Nat) (l0_0 : List ByteArray) (r : Bool) (w : World) (hr0_0 : Kd.C Kd.string w A0_0 l0_0.length l0_0) (hc0_0 : l0_0.length ≤ c0_0) (h : spec_AreLamps.f l0_0 = some r) :
  Calls Tryd.prog 14 #[.agg #[.slice A0_0 l0_0.length c0_0]] w fun e w' => e = .returned (.bool r) ∧ Below w.heap.size w w' := by
 have hu26 := Tryd.underlying26
 have HR0_0 := aM hr0_0
 have HC0_0 := aM hc0_0
 clear hr0_0 hc0_0
 have HB := aM (Below.refl w.heap.size w)
 have H := h
 clear h; unfold spec_AreLamps.f at H
 replace H := bC H; obtain ⟨t313, A2, H⟩ := H
 obtain rfl := Option.some.inj H
 go_enter Tryd.func14, Tryd.ntmps14
 go_wp2_with (first | (refine bX (N := 1) rfl (cs := #[.slice A0_0 l0_0.length c0_0]) (t := 26) ?_; intro gb312 hg w3 BK312 hb; have GW312 := gE hg HB; have GE312 := gE hg HB; replace HB := hS HB hb; clear hb hg; obtain ⟨hcz4_0, hfz4_0⟩ := hC1 BK312) | ((with_reducible refine gG 85 (some 4) rfl rfl ?_); refine gC Tryd.func85 (spec_laGood.calls _ _ l0_0 t313 _ (cU (Kd.C_below HR0_0.out HB.out)) HC0_0.out A2.out) ?_; rintro w5 hb; replace BK312 := bB BK312 hb; replace HB := hS HB hb; clear hb))
 go_ret
 exact ⟨eW, bel HB⟩

/-! ### impl_TickOnce: function 15 -/
def impl_TickOnce.f (l0_0 : List ByteArray) (a1 : ByteArray) : Option (ByteArray × Bool) := (impl_Lamps_lit.f l0_0 a1).bind fun t315 => (if t315 = true then ((impl_Lamps_tick.f l0_0 a1).bind fun t316 => (some (t316, true))) else (some ((⟨#[]⟩ : ByteArray), false)))
set_option maxHeartbeats 8000000 in
set_option maxRecDepth 100000 in
theorem impl_TickOnce.calls (A0_0 : Option Addr) (c0_0 : Nat) (l0_0 : List ByteArray) (a1 : ByteArray) (r1 : ByteArray) (r2 : Bool) (w : World) (hr0_0 : Kd.C Kd.string w A0_0 l0_0.length l0_0) (hc0_0 : l0_0.length ≤ c0_0) (h : impl_TickOnce.f l0_0 a1 = some (r1, r2)) :
  Calls Tryd.prog 15 #[.agg #[.slice A0_0 l0_0.length c0_0], .string a1] w fun e w' => e = .returned (.tuple #[.string r1, .bool r2]) ∧ Below w.heap.size w w' := by
 have hu26 := Tryd.underlying26
 have HR0_0 := aM hr0_0
 have HC0_0 := aM hc0_0
 clear hr0_0 hc0_0
 have HB := aM (Below.refl w.heap.size w)
 have H := h
 clear h; unfold impl_TickOnce.f at H
 replace H := bC H; obtain ⟨t315, A3, H⟩ := H
 refine iB H ?_ ?_ <;> clear H <;> rintro rfl H
 ·replace H := bC H; obtain ⟨t316, A5, H⟩ := H
  simp only [Option.some.injEq, Prod.mk.injEq] at H
  obtain ⟨rfl, rfl⟩ := H
  go_enter Tryd.func15, Tryd.ntmps15
  go_wp2_with (first | (refine bX (N := 2) rfl (cs := #[.slice A0_0 l0_0.length c0_0]) (t := 26) ?_; intro gb314 hg w6 BK314 hb; have GW314 := gE hg HB; have GE314 := gE hg HB; replace HB := hS HB hb; clear hb hg; obtain ⟨hcz7_0, hfz7_0⟩ := hC1 BK314) | ((with_reducible refine gG 71 (some 8) rfl rfl ?_); refine gC Tryd.func71 (impl_Lamps_lit.calls _ _ l0_0 a1 true _ (cU (Kd.C_below HR0_0.out HB.out)) HC0_0.out A3.out) ?_; rintro w8 hb; replace BK314 := bB BK314 hb; replace HB := hS HB hb; clear hb; obtain ⟨hcz9_0, hfz9_0⟩ := hC1 BK314) | ((with_reducible refine gG 79 (some 12) rfl rfl ?_); refine gC Tryd.func79 (impl_Lamps_tick.calls _ _ l0_0 a1 t316 _ (cU (Kd.C_below HR0_0.out HB.out)) HC0_0.out A5.out) ?_; rintro w10 hb; replace BK314 := bB BK314 hb; replace HB := hS HB hb; clear hb))
  go_ret2
  exact ⟨eW, bel HB⟩
 simp only [Option.some.injEq, Prod.mk.injEq] at H
 obtain ⟨rfl, rfl⟩ := H
 go_enter Tryd.func15, Tryd.ntmps15
 go_wp2_with (first | (refine bX (N := 2) rfl (cs := #[.slice A0_0 l0_0.length c0_0]) (t := 26) ?_; intro gb314 hg w11 BK314 hb; have GW314 := gE hg HB; have GE314 := gE hg HB; replace HB := hS HB hb; clear hb hg; obtain ⟨hcz12_0, hfz12_0⟩ := hC1 BK314) | ((with_reducible refine gG 71 (some 8) rfl rfl ?_); refine gC Tryd.func71 (impl_Lamps_lit.calls _ _ l0_0 a1 false _ (cU (Kd.C_below HR0_0.out HB.out)) HC0_0.out A3.out) ?_; rintro w13 hb; replace BK314 := bB BK314 hb; replace HB := hS HB hb; clear hb))
 go_ret2
 exact ⟨eW, bel HB⟩

end Go.Proofs.YtiiahdjjngdgoaaDoor.PLTick
