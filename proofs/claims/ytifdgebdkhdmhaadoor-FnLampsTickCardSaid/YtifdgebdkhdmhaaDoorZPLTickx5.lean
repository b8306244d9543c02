-- PRINTED by drive.py (a program of this session's, over the kit's print.py; wip/tools/drive.py). Lean checks it.
import Derived.Test.YtifdgebdkhdmhaaDoorZSq
import Derived.Test.YtifdgebdkhdmhaaDoorZPLTickx0
import Derived.Test.YtifdgebdkhdmhaaDoorZPLTickx1
import Derived.Test.YtifdgebdkhdmhaaDoorZPLTickx2
import Derived.Test.YtifdgebdkhdmhaaDoorZPLTickx3
namespace Go.Proofs.YtifdgebdkhdmhaaDoor.PLTick
open Go.RowKit Go.Proofs.YtifdgebdkhdmhaaDoorW.PrintWords Go.Proofs.YtifdgebdkhdmhaaDoorW.PrintLast Go.Proofs.YtifdgebdkhdmhaaDoorW.PrintMore
attribute [local go_sem] max2_int min2_int max_two min_two max_three min_three max_four min_four   -- for this text's walks alone
set_option linter.unusedVariables false
set_option linter.unusedSimpArgs false

/-! ### spec_TimesChanging: function 28 -/
mutual
def spec_TimesChanging.j0 : Nat → ByteArray → Int → Bool → List ByteArray → Option (List Int × Bool)
 | 0, _, _, _, _ => none
 | k + 1, x1, x2, x23, x162000 => if x23 = true then (some (([] : List Int), false)) else ((spec_laPath.f k x162000 x1).bind fun bt164 => (if 0 ≤ (x1.size : Int) then (if ((x1.size : Int) : Int).toNat ≤ 35184372088832 then (spec_TimesChanging.l0 k x2 bt164.1 bt164.2 (List.replicate ((x1.size : Int) : Int).toNat 0) bt164.1 (bt164.1.length : Int) 0 x162000) else (none)) else (none)))
def spec_TimesChanging.l0 : Nat → Int → List ByteArray → Int → List Int → List ByteArray → Int → Int → List ByteArray → Option (List Int × Bool)
 | 0, _, _, _, _, _, _, _, _ => none
 | k + 1, x2, x8, x9, x10, x33, x34, x35, x162000 => if x35 < x34 then (if 0 ≤ x35 then (if x35 < (x33.length : Int) then (if x35 < x2 then (if x35 ≥ x9 then (if (wrap64 ((x8.length : Int) - x9)) = 0 then (none) else (spec_TimesChanging.j2 k x2 x8 x9 x10 (rdOf ByteArray.empty x33 x35) (wrap64 ((wrap64 (Int.tdiv (wrap64 ((wrap64 (x2 - 1)) - x35)) (wrap64 ((x8.length : Int) - x9)))) + 1)) x33 x34 x35 x162000)) else (spec_TimesChanging.j2 k x2 x8 x9 x10 (rdOf ByteArray.empty x33 x35) 1 x33 x34 x35 x162000)) else (spec_TimesChanging.j2 k x2 x8 x9 x10 (rdOf ByteArray.empty x33 x35) 0 x33 x34 x35 x162000)) else (none)) else (none)) else (some (x10, true))
def spec_TimesChanging.j2 : Nat → Int → List ByteArray → Int → List Int → ByteArray → Int → List ByteArray → Int → Int → List ByteArray → Option (List Int × Bool)
 | 0, _, _, _, _, _, _, _, _, _, _ => none
 | k + 1, x2, x8, x9, x10, x12, x13, x33, x34, x35, x162000 => spec_TimesChanging.l1 k x2 x8 x9 x10 x12 x13 x33 x34 x35 (x10.length : Int) 0 x162000
def spec_TimesChanging.l1 : Nat → Int → List ByteArray → Int → List Int → ByteArray → Int → List ByteArray → Int → Int → Int → Int → List ByteArray → Option (List Int × Bool)
 | 0, _, _, _, _, _, _, _, _, _, _, _, _ => none
 | k + 1, x2, x8, x9, x10, x12, x13, x33, x34, x35, x57, x58, x162000 => if x58 < x57 then ((spec_laChanges.f x162000 x12 x58).bind fun t172 => (if t172 = true then (if 0 ≤ x58 then (if x58 < (x10.length : Int) then (spec_TimesChanging.l1 k x2 x8 x9 (x10.set (x58 : Int).toNat (wrap64 ((rd x10 x58) + x13))) x12 x13 x33 x34 x35 x57 (wrap64 (x58 + 1)) x162000) else (none)) else (none)) else (spec_TimesChanging.l1 k x2 x8 x9 x10 x12 x13 x33 x34 x35 x57 (wrap64 (x58 + 1)) x162000))) else (spec_TimesChanging.l0 k x2 x8 x9 x10 x33 x34 (wrap64 (x35 + 1)) x162000)
end
def spec_TimesChanging.f (k : Nat) (l0_0 : List ByteArray) (a1 : ByteArray) (a2 : Int) : Option (List Int × Bool) := (spec_laAsked.f l0_0 a1).bind fun t162 => (if t162 = true then ((spec_laTicks.f a2).bind fun t163 => (spec_TimesChanging.j0 k a1 a2 (!t163) l0_0)) else (spec_TimesChanging.j0 k a1 a2 true l0_0))
theorem spec_TimesChanging.mono_l : ∀ k, (∀ y0 y1 y2 y3, LeO (spec_TimesChanging.j0 k y0 y1 y2 y3) (spec_TimesChanging.j0 (k + 1) y0 y1 y2 y3)) ∧ (∀ y0 y1 y2 y3 y4 y5 y6 y7, LeO (spec_TimesChanging.l0 k y0 y1 y2 y3 y4 y5 y6 y7) (spec_TimesChanging.l0 (k + 1) y0 y1 y2 y3 y4 y5 y6 y7)) ∧ (∀ y0 y1 y2 y3 y4 y5 y6 y7 y8 y9, LeO (spec_TimesChanging.j2 k y0 y1 y2 y3 y4 y5 y6 y7 y8 y9) (spec_TimesChanging.j2 (k + 1) y0 y1 y2 y3 y4 y5 y6 y7 y8 y9)) ∧ (∀ y0 y1 y2 y3 y4 y5 y6 y7 y8 y9 y10 y11, LeO (spec_TimesChanging.l1 k y0 y1 y2 y3 y4 y5 y6 y7 y8 y9 y10 y11) (spec_TimesChanging.l1 (k + 1) y0 y1 y2 y3 y4 y5 y6 y7 y8 y9 y10 y11))
 | 0 => ⟨fun _ _ _ _ r h => by simp [spec_TimesChanging.j0] at h, fun _ _ _ _ _ _ _ _ r h => by simp [spec_TimesChanging.l0] at h, fun _ _ _ _ _ _ _ _ _ _ r h => by simp [spec_TimesChanging.j2] at h, fun _ _ _ _ _ _ _ _ _ _ _ _ r h => by simp [spec_TimesChanging.l1] at h⟩
 | k + 1 => by
  obtain ⟨ih0, ih1, ih2, ih3⟩ := spec_TimesChanging.mono_l k
  refine ⟨?_, ?_, ?_, ?_⟩
  ·intro y0 y1 y2 y3
   unfold spec_TimesChanging.j0
   repeat' first
   | wE ih0 _ _ _ _
   | wE ih1 _ _ _ _ _ _ _ _
   | wE ih2 _ _ _ _ _ _ _ _ _ _
   | wE ih3 _ _ _ _ _ _ _ _ _ _ _ _
   | wE spec_laPath.mono _ _ _
   | wE LeO.refl _
   | wE LeO.none _
   | wR LeO.ite ?_ ?_
   | wR LeO.bind ?_ (fun _ => ?_)
   | exact ih0 _ _ _ _
   | exact ih1 _ _ _ _ _ _ _ _
   | exact ih2 _ _ _ _ _ _ _ _ _ _
   | exact ih3 _ _ _ _ _ _ _ _ _ _ _ _
   | exact spec_laPath.mono _ _ _
   | exact LeO.none _
   | refine LeO.ite ?_ ?_
   | refine LeO.bind ?_ (fun _ => ?_)
  ·intro y0 y1 y2 y3 y4 y5 y6 y7
   unfold spec_TimesChanging.l0
   repeat' first
   | wE ih0 _ _ _ _
   | wE ih1 _ _ _ _ _ _ _ _
   | wE ih2 _ _ _ _ _ _ _ _ _ _
   | wE ih3 _ _ _ _ _ _ _ _ _ _ _ _
   | wE spec_laPath.mono _ _ _
   | wE LeO.refl _
   | wE LeO.none _
   | wR LeO.ite ?_ ?_
   | wR LeO.bind ?_ (fun _ => ?_)
   | exact ih0 _ _ _ _
   | exact ih1 _ _ _ _ _ _ _ _
   | exact ih2 _ _ _ _ _ _ _ _ _ _
   | exact ih3 _ _ _ _ _ _ _ _ _ _ _ _
   | exact spec_laPath.mono _ _ _
   | exact LeO.none _
   | refine LeO.ite ?_ ?_
   | refine LeO.bind ?_ (fun _ => ?_)
  ·intro y0 y1 y2 y3 y4 y5 y6 y7 y8 y9
   unfold spec_TimesChanging.j2
   repeat' first
   | wE ih0 _ _ _ _
   | wE ih1 _ _ _ _ _ _ _ _
   | wE ih2 _ _ _ _ _ _ _ _ _ _
   | wE ih3 _ _ _ _ _ _ _ _ _ _ _ _
   | wE spec_laPath.mono _ _ _
   | wE LeO.refl _
   | wE LeO.none _
   | wR LeO.ite ?_ ?_
   | wR LeO.bind ?_ (fun _ => ?_)
   | exact ih0 _ _ _ _
   | exact ih1 _ _ _ _ _ _ _ _
   | exact ih2 _ _ _ _ _ _ _ _ _ _
   | exact ih3 _ _ _ _ _ _ _ _ _ _ _ _
   | exact spec_laPath.mono _ _ _
   | exact LeO.none _
   | refine LeO.ite ?_ ?_
   | refine LeO.bind ?_ (fun _ => ?_)
  ·intro y0 y1 y2 y3 y4 y5 y6 y7 y8 y9 y10 y11
   unfold spec_TimesChanging.l1
   repeat' first
   | wE ih0 _ _ _ _
   | wE ih1 _ _ _ _ _ _ _ _
   | wE ih2 _ _ _ _ _ _ _ _ _ _
   | wE ih3 _ _ _ _ _ _ _ _ _ _ _ _
   | wE spec_laPath.mono _ _ _
   | wE LeO.refl _
   | wE LeO.none _
   | wR LeO.ite ?_ ?_
   | wR LeO.bind ?_ (fun _ => ?_)
   | exact ih0 _ _ _ _
   | exact ih1 _ _ _ _ _ _ _ _
   | exact ih2 _ _ _ _ _ _ _ _ _ _
   | exact ih3 _ _ _ _ _ _ _ _ _ _ _ _
   | exact spec_laPath.mono _ _ _
   | exact LeO.none _
   | refine LeO.ite ?_ ?_
   | refine LeO.bind ?_ (fun _ => ?_)
theorem spec_TimesChanging.mono : ∀ a0 a1 a2 k, LeO (spec_TimesChanging.f k a0 a1 a2) (spec_TimesChanging.f (k + 1) a0 a1 a2) := by
 intro a0 a1 a2 k
 obtain ⟨ih0, ih1, ih2, ih3⟩ := spec_TimesChanging.mono_l k
 unfold spec_TimesChanging.f
 repeat' first
   | wE ih0 _ _ _ _
   | wE ih1 _ _ _ _ _ _ _ _
   | wE ih2 _ _ _ _ _ _ _ _ _ _
   | wE ih3 _ _ _ _ _ _ _ _ _ _ _ _
   | wE spec_laPath.mono _ _ _
   | wE LeO.refl _
   | wE LeO.none _
   | wR LeO.ite ?_ ?_
   | wR LeO.bind ?_ (fun _ => ?_)
   | exact ih0 _ _ _ _
   | exact ih1 _ _ _ _ _ _ _ _
   | exact ih2 _ _ _ _ _ _ _ _ _ _
   | exact ih3 _ _ _ _ _ _ _ _ _ _ _ _
   | exact spec_laPath.mono _ _ _
   | exact LeO.none _
   | refine LeO.ite ?_ ?_
   | refine LeO.bind ?_ (fun _ => ?_)
set_option maxHeartbeats 8000000 in
set_option maxRecDepth 100000 in
theorem spec_TimesChanging.calls (k : Nat) (A0_0 : Option Addr) (c0_0 : Nat) (l0_0 : List ByteArray) (a1 : ByteArray) (a2 : Int) (r1 : List Int) (r2 : Bool) (w : World) (hr0_0 : Kd.C Kd.string w A0_0 l0_0.length l0_0) (hc0_0 : l0_0.length ≤ c0_0) (h : spec_TimesChanging.f k l0_0 a1 a2 = some (r1, r2)) :
  Calls Tryd.prog 28 #[.agg #[.slice A0_0 l0_0.length c0_0], .string a1, .int .i64 a2] w fun e w' => ∃ v0_ : Value, e = .returned (.tuple #[v0_, .bool r2]) ∧ Kd.R (Kd.int .i64) 3 w' w.heap.size (fun _ => True) v0_ r1 ∧ Below w.heap.size w w' := by
 have hu29 := Tryd.underlying29
 have HR0_0 := aM hr0_0
 have HC0_0 := aM hc0_0
 clear hr0_0 hc0_0
 have HB := aM (Below.refl w.heap.size w)
 have H : ((spec_laAsked.f l0_0 a1).bind fun t162 => (if t162 = true then ((spec_laTicks.f a2).bind fun t163 => (spec_TimesChanging.j0 k a1 a2 (!t163) l0_0)) else (spec_TimesChanging.j0 k a1 a2 true l0_0))) = some (r1, r2) := h
 clear h
 have HC4 := aM H
 clear H
 go_enter Tryd.func28, Tryd.ntmps28
 go_upto_region 1 with (first | ((with_reducible refine gate_dst (N := 3) rfl ?_); refine box_event ?hg (N := 3) ?hd (cs := #[.slice A0_0 l0_0.length c0_0]) (t := 29) ?hr ?_; (case hd => rfl); (case hg => rfl); (case hr => first | (go_simp; done) | (go_simp; rfl)); intro gb161 hg w5 hbox hb; have n0_ := aM (below_step (by bB) hb); have n1_ := aM (hbox); have n2_ := aM ((by rw [hg]; exact (below_size (by bB)) : w.heap.size ≤ gb161)); have n3_ := aM ((by rw [hg]; exact (below_size (by bB)) : w.heap.size ≤ gb161)); clear HB; have HB := n0_; have BK161 := n1_; have GW161 := n2_; have GE161 := n3_; clear n0_ n1_ n2_ n3_; clear hb hbox hg))
 (try simp only [Act.put, List.setIfInBounds_toArray, List.set_cons_zero, List.set_cons_succ])
 go_cut [23] (fun v23 wc => ∃ (kq : Nat) (x23_3 : Bool), v23 = .bool x23_3 ∧ Aside0 (spec_TimesChanging.j0 kq a1 a2 x23_3 l0_0 = some (r1, r2)) ∧ Aside0 (kq ≤ k) ∧ Aside0 (wc.heap[gb161]? = some (.cells #[(.slice A0_0 l0_0.length c0_0)] 29 (0, 0))) ∧ Aside0 (Below w.heap.size w wc))
 case first =>
  have H := HC4.out
  clear HC4
  replace H := Option.bind_eq_some_iff.mp H
  obtain ⟨t162, A60, H⟩ := H
  replace H : (if t162 = true then ((spec_laTicks.f a2).bind fun t163 => (spec_TimesChanging.j0 k a1 a2 (!t163) l0_0)) else (spec_TimesChanging.j0 k a1 a2 true l0_0)) = some (r1, r2) := H
  have A6 := aM A60
  clear A60
  by_cases c7 : t162 = true
  ·subst c7
   rw [if_pos rfl] at H
   replace H := Option.bind_eq_some_iff.mp H
   obtain ⟨t163, A80, H⟩ := H
   replace H : (spec_TimesChanging.j0 k a1 a2 (!t163) l0_0) = some (r1, r2) := H
   have A8 := aM A80
   clear A80
   have H' := aM H
   clear H
   have hcz9_0 : w5.cell? ⟨gb161, 0, none⟩ = some (.slice A0_0 l0_0.length c0_0) := (blk_cell BK161.out 0).trans rfl
   have hfz9_0 := blk_frozen BK161.out 0
   go_wp2_with (first | ((with_reducible refine gate_callee (f := 112) rfl ?_); refine goesL_ (some 17) rfl rfl Tryd.func112 (by kernel_rfl) rfl #[.agg #[.slice A0_0 l0_0.length c0_0], .string a1] rfl (by mA) ?_; (with_reducible refine (spec_laAsked.calls _ _ l0_0 a1 true _ ?side1 ?side2 A6.out).mono ?_); (case side1 => cC ((Kd.C_below HR0_0.out HB.out))); (case side2 => exact HC0_0.out); rintro e w10 ⟨rfl, hb⟩; refine ⟨_, rfl, ?_⟩; have n0_ := aM (blk_below (g := gb161) (o := .cells #[.slice A0_0 l0_0.length c0_0] 29 (0, 0)) (by (with_reducible repeat (first | refine blk_drewN ?_ _ | refine blk_drew ?_ | refine blk_alloc ?_ _)); exact BK161.out) hb); have n1_ := aM (below_step (by repeat (first | (with_reducible first | exact HB.out | apply below_alloc | apply pw_below_drewN | apply below_drew1 | refine below_set ?_ GE161.out) | exact HB.out)) hb); clear BK161; clear HB; have BK161 := n0_; have HB := n1_; clear n0_ n1_; cX) | (go_at_call 113; (with_reducible refine (spec_laTicks.calls a2 t163 _ A8.out).mono ?_); rintro e w' ⟨rfl, ⟨nd, rfl⟩⟩))
   go_meet
   case rel => exact ⟨_, (!t163), (by rF), H', ⟨by first | omega | exact Nat.le_refl _⟩, ⟨by (with_reducible repeat (first | refine blk_drewN ?_ _ | refine blk_drew ?_ | refine blk_alloc ?_ _)); exact BK161.out⟩, ⟨by repeat (first | (with_reducible first | exact HB.out | apply below_alloc | apply pw_below_drewN | apply below_drew1 | refine below_set ?_ GE161.out) | exact HB.out)⟩⟩
  ·replace c7 := Bool.eq_false_iff.mpr c7
   subst c7
   rw [if_neg (show ¬ (false = true) by decide)] at H
   have H' := aM H
   clear H
   have hcz11_0 : w5.cell? ⟨gb161, 0, none⟩ = some (.slice A0_0 l0_0.length c0_0) := (blk_cell BK161.out 0).trans rfl
   have hfz11_0 := blk_frozen BK161.out 0
   go_wp2_with (first | ((with_reducible refine gate_callee (f := 112) rfl ?_); refine goesL_ (some 17) rfl rfl Tryd.func112 (by kernel_rfl) rfl #[.agg #[.slice A0_0 l0_0.length c0_0], .string a1] rfl (by mA) ?_; (with_reducible refine (spec_laAsked.calls _ _ l0_0 a1 false _ ?side1 ?side2 A6.out).mono ?_); (case side1 => cC ((Kd.C_below HR0_0.out HB.out))); (case side2 => exact HC0_0.out); rintro e w12 ⟨rfl, hb⟩; refine ⟨_, rfl, ?_⟩; have n0_ := aM (blk_below (g := gb161) (o := .cells #[.slice A0_0 l0_0.length c0_0] 29 (0, 0)) (by (with_reducible repeat (first | refine blk_drewN ?_ _ | refine blk_drew ?_ | refine blk_alloc ?_ _)); exact BK161.out) hb); have n1_ := aM (below_step (by repeat (first | (with_reducible first | exact HB.out | apply below_alloc | apply pw_below_drewN | apply below_drew1 | refine below_set ?_ GE161.out) | exact HB.out)) hb); clear BK161; clear HB; have BK161 := n0_; have HB := n1_; clear n0_ n1_; cX))
   go_meet
   case rel => exact ⟨_, (true), (by rF), H', ⟨by first | omega | exact Nat.le_refl _⟩, ⟨by (with_reducible repeat (first | refine blk_drewN ?_ _ | refine blk_drew ?_ | refine blk_alloc ?_ _)); exact BK161.out⟩, ⟨by repeat (first | (with_reducible first | exact HB.out | apply below_alloc | apply pw_below_drewN | apply below_drew1 | refine below_set ?_ GE161.out) | exact HB.out)⟩⟩
 case rest =>
  clear HC4
  try clear c1
  try clear c2
  try clear p2
  try clear c7
  try clear c11
  try clear hcz11_0
  try clear hcz9_0
  try clear hfz11_0
  try clear hfz9_0
  obtain ⟨kq, x23_3, rfl, HA, HJ3, BK161, HB⟩ := hcut
  cases kq with
  | zero => exact absurd HA.out (by simp [spec_TimesChanging.j0])
  | succ kj3 =>
   have H := HA.out
   clear HA
   simp only [spec_TimesChanging.j0] at H
   by_cases c13 : x23_3 = true
   ·subst c13
    rw [if_pos rfl] at H
    simp only [Option.some.injEq, Prod.mk.injEq] at H
    obtain ⟨rfl, rfl⟩ := H
    go_wp2
    go_ret2
    exact ⟨_, by eW, by first | exact Kd.R_nil _ _ _ _ _ | exact Kd.N_nil _ _ _ _ _ | exact Kd.V_nil _ _ _ _ _ | exact Kd.Q_nil _ _ _ _ _ | exact Kd.S_nil _ _ _ _ _, by repeat (first | (with_reducible first | exact HB.out | apply below_alloc | apply pw_below_drewN | apply below_drew1 | refine below_set ?_ GE161.out) | exact HB.out)⟩
   ·replace c13 := Bool.eq_false_iff.mpr c13
    subst c13
    rw [if_neg (show ¬ (false = true) by decide)] at H
    replace H := Option.bind_eq_some_iff.mp H
    obtain ⟨⟨t164, t167⟩, A140, H⟩ := H
    dsimp only at H
    have A14 := aM A140
    clear A140
    by_cases c15 : 0 ≤ (a1.size : Int)
    ·rw [if_pos c15] at H
     have c15b0 := eq_true c15
     have c15b1 : decide (0 ≤ (a1.size : Int)) = true := decide_eq_true c15
     clear c15
     by_cases c16 : ((a1.size : Int) : Int).toNat ≤ 35184372088832
     ·rw [if_pos c16] at H
      have c16b0 := eq_true c16
      have c16b1 : decide (((a1.size : Int) : Int).toNat ≤ 35184372088832) = true := decide_eq_true c16
      clear c16
      obtain ⟨y168, hy168⟩ : ∃ y_ : List Int, y_ = (List.replicate ((a1.size : Int) : Int).toNat 0) := ⟨_, rfl⟩
      replace H : (spec_TimesChanging.l0 kj3 a2 t164 t167 y168 t164 (t164.length : Int) 0 l0_0) = some (r1, r2) := by fH hy168
      have Ny168 := aM hy168
      clear hy168
      have H' := aM H
      clear H
      have hcz17_0 : wc.cell? ⟨gb161, 0, none⟩ = some (.slice A0_0 l0_0.length c0_0) := (blk_cell BK161.out 0).trans rfl
      have hfz17_0 := blk_frozen BK161.out 0
      go_wp2_with (first | ((with_reducible refine gate_callee (f := 114) rfl ?_); refine goesL_ (some 27) rfl rfl Tryd.func114 (by kernel_rfl) rfl #[.agg #[.slice A0_0 l0_0.length c0_0], .string a1] rfl (by mA) ?_; (with_reducible refine (spec_laPath.calls kj3 _ _ l0_0 a1 t164 t167 _ ?side1 ?side2 A14.out).mono ?_); (case side1 => cC ((Kd.C_below HR0_0.out HB.out))); (case side2 => exact HC0_0.out); rintro e w18 ⟨v165, rfl, ho0, hb⟩; refine ⟨_, rfl, ?_⟩; have n0_ := aM (Kd.R_lower ho0 (below_size (by repeat (first | (with_reducible first | exact HB.out | apply below_alloc | apply pw_below_drewN | apply below_drew1 | refine below_set ?_ GE161.out) | exact HB.out)))); have n1_ := aM (blk_below (g := gb161) (o := .cells #[.slice A0_0 l0_0.length c0_0] 29 (0, 0)) (by (with_reducible repeat (first | refine blk_drewN ?_ _ | refine blk_drew ?_ | refine blk_alloc ?_ _)); exact BK161.out) hb); have n2_ := aM (below_step (by repeat (first | (with_reducible first | exact HB.out | apply below_alloc | apply pw_below_drewN | apply below_drew1 | refine below_set ?_ GE161.out) | exact HB.out)) hb); clear BK161; clear HB; have HO166 := n0_; have BK161 := n1_; have HB := n2_; clear n0_ n1_ n2_; cX; (try clear ho0)) | ((with_reducible refine gate_dst (N := 32) rfl ?_); refine Kd.R_make (Kd.int .i64) _ 3 rfl (N := 32) rfl 46 _ _ rfl (a1.size : Int) rfl rfl Tryd.underlying46 (.int .i64 0) 8 info3 rfl (by decide) (by omega) 0 (ok := fun _ => True) (okp := fun _ => True) rfl (fun _ hk => hk) trivial (of_decide_eq_true (by first | (with_reducible assumption) | assumption)) (Nat.le_trans (Nat.mul_le_mul_right _ (of_decide_eq_true (by first | (with_reducible assumption) | assumption) : (a1.size : Int).toNat ≤ 35184372088832)) (by omega)) (Below.refl _ _) (Nat.le_refl _) ?_; intro v169 w19 ho20 hb hg_ hnew_; clear hg_ hnew_; (first | rw [← Ny168.out] at ho20 | (simp only [Int.reduceToNat] at ho20; rw [← Ny168.out] at ho20)); have n0_ := aM (Kd.R_below (by (rX); exact HO166.out) hb); have n1_ := aM (Kd.R_lower ho20 (below_size (by repeat (first | (with_reducible first | exact HB.out | apply below_alloc | apply pw_below_drewN | apply below_drew1 | refine below_set ?_ GE161.out) | exact HB.out)))); have n2_ := aM (blk_below (g := gb161) (o := .cells #[.slice A0_0 l0_0.length c0_0] 29 (0, 0)) (by (with_reducible repeat (first | refine blk_drewN ?_ _ | refine blk_drew ?_ | refine blk_alloc ?_ _)); exact BK161.out) hb); have n3_ := aM (below_step (by repeat (first | (with_reducible first | exact HB.out | apply below_alloc | apply pw_below_drewN | apply below_drew1 | refine below_set ?_ GE161.out) | exact HB.out)) hb); clear HO166; clear BK161; clear HB; have HO166 := n0_; have HO170 := n1_; have BK161 := n2_; have HB := n3_; clear n0_ n1_ n2_ n3_; clear hb ho20; obtain ⟨Ao21, co21, eo21⟩ := Kd.R_slice HO166.out; subst eo21))
      go_loopg [35] kj3 (fun kq v35 w' => ∃ (x10_2 : List Int) (x35_2 : Int), v35 = .int .i64 x35_2 ∧ Aside0 (spec_TimesChanging.l0 kq a2 t164 t167 x10_2 t164 (t164.length : Int) x35_2 l0_0 = some (r1, r2)) ∧ Aside0 (kq ≤ kj3) ∧ Aside0 (Kd.R Kd.string 9 w' w.heap.size (fun _ => True) (.slice Ao21 t164.length co21) t164) ∧ Aside0 (Kd.R (Kd.int .i64) 3 w' w.heap.size (fun _ => True) v169 x10_2) ∧ Aside0 (Kd.R Kd.string 9 w' w.heap.size (fun _ => True) (.slice Ao21 t164.length co21) t164) ∧ Aside0 (w'.heap[gb161]? = some (.cells #[(.slice A0_0 l0_0.length c0_0)] 29 (0, 0))) ∧ Aside0 (Below w.heap.size w w'))
      case atStart => exact ⟨(y168), (0), (by rF), H', ⟨Nat.le_refl _⟩, ⟨by (rX); exact HO166.out⟩, ⟨by (rX); exact HO170.out⟩, ⟨by (rX); exact HO166.out⟩, ⟨by (with_reducible repeat (first | refine blk_drewN ?_ _ | refine blk_drew ?_ | refine blk_alloc ?_ _)); exact BK161.out⟩, ⟨by repeat (first | (with_reducible first | exact HB.out | apply below_alloc | apply pw_below_drewN | apply below_drew1 | refine below_set ?_ GE161.out) | exact HB.out)⟩⟩
      case round =>
       clear H'
       try clear c1
       try clear c2
       try clear p2
       try clear c7
       try clear c11
       try clear c13
       try clear c15
       try clear c15b0
       try clear c15b1
       try clear c16
       try clear c16b0
       try clear c16b1
       try clear hcz11_0
       try clear hcz17_0
       try clear hcz9_0
       try clear hfz11_0
       try clear hfz17_0
       try clear hfz9_0
       try clear p2
       obtain ⟨x10_2, x35_2, rfl, HA, HK2, HO_8, HO_10, HO_33, BK161, HB⟩ := hrel
       cases gk with
       | zero => exact absurd HA.out (by simp [spec_TimesChanging.l0])
       | succ k2 =>
        have H := HA.out
        clear HA
        simp only [spec_TimesChanging.l0] at H
        by_cases c22 : x35_2 < (t164.length : Int)
        ·rw [if_pos c22] at H
         have c22b0 : decide (x35_2 < (t164.length : Int)) = true := decide_eq_true c22
         clear c22
         by_cases c23 : 0 ≤ x35_2
         ·rw [if_pos c23] at H
          have c23b0 : decide (0 ≤ x35_2) = true := decide_eq_true c23
          clear c23
          by_cases c24 : x35_2 < (t164.length : Int)
          ·rw [if_pos c24] at H
           have c24b0 : decide (x35_2 < (t164.length : Int)) = true := decide_eq_true c24
           clear c24
           have HC25 := aM H
           clear H
           have p171 : 0 ≤ (x35_2 : Int) := of_decide_eq_true (by first | (with_reducible assumption) | assumption)
           have q171 : x35_2 < (t164.length : Int) := of_decide_eq_true (by first | (with_reducible assumption) | assumption)
           obtain ⟨ad171, e171, hx171_0⟩ := Kd.at_string (Kd.R_reads' HO_33.out).2.2 x35_2 p171 q171
           cases e171
           replace p171 := eq_true p171
           replace q171 := eq_true q171
           go_upto_if 42 with (fail)
           go_cut [13] (fun v13 wc => ∃ (kq : Nat) (x13_24 : Int), v13 = .int .i64 x13_24 ∧ Aside0 (spec_TimesChanging.j2 kq a2 t164 t167 x10_2 (rdOf ByteArray.empty t164 x35_2) x13_24 t164 (t164.length : Int) x35_2 l0_0 = some (r1, r2)) ∧ Aside0 (kq ≤ k2) ∧ Aside0 (Kd.R Kd.string 9 wc w.heap.size (fun _ => True) (.slice (some ad171) t164.length co21) t164) ∧ Aside0 (Kd.R (Kd.int .i64) 3 wc w.heap.size (fun _ => True) v169 x10_2) ∧ Aside0 (Kd.R Kd.string 9 wc w.heap.size (fun _ => True) (.slice (some ad171) t164.length co21) t164) ∧ Aside0 (wc.heap[gb161]? = some (.cells #[(.slice A0_0 l0_0.length c0_0)] 29 (0, 0))) ∧ Aside0 (Below w.heap.size w wc))
           case first =>
            have H := HC25.out
            clear HC25
            by_cases c26 : x35_2 < a2
            ·rw [if_pos c26] at H
             have c26b0 : decide (x35_2 < a2) = true := decide_eq_true c26
             clear c26
             (first | rw [c26b0] | (simp only [i64_w, i32_w]; rw [c26b0]) | skip)
             by_cases c27 : x35_2 ≥ t167
             ·rw [if_pos c27] at H
              have c27b0 : decide (t167 ≤ x35_2) = true := decide_eq_true c27
              clear c27
              by_cases c28 : (wrap64 ((t164.length : Int) - t167)) = 0
              ·rw [if_pos c28] at H
               exact absurd H (by simp)
              ·rw [if_neg c28] at H
               have c28b0 : ((wrap64 ((t164.length : Int) - t167)) == 0) = false := beq_eq_false_iff_ne.mpr c28
               have c28b1 : ((wrap64 ((t164.length : Int) - t167)) != 0) = true := bne_iff_ne.mpr c28
               have H' := aM H
               clear H
               go_wp2
               go_meet
               case rel => exact ⟨_, (wrap64 ((wrap64 (Int.tdiv (wrap64 ((wrap64 (a2 - 1)) - x35_2)) (wrap64 ((t164.length : Int) - t167)))) + 1)), (by rF), H', ⟨by have := HJ3.out; have := HK2.out; first | omega | exact Nat.le_refl _⟩, ⟨by (rX); exact HO_8.out⟩, ⟨by (rX); exact HO_10.out⟩, ⟨by (rX); exact HO_33.out⟩, ⟨by (with_reducible repeat (first | refine blk_drewN ?_ _ | refine blk_drew ?_ | refine blk_alloc ?_ _)); exact BK161.out⟩, ⟨by repeat (first | (with_reducible first | exact HB.out | apply below_alloc | apply pw_below_drewN | apply below_drew1 | refine below_set ?_ GE161.out) | exact HB.out)⟩⟩
             ·rw [if_neg c27] at H
              have c27b0 : decide (t167 ≤ x35_2) = false := decide_eq_false c27
              clear c27
              have H' := aM H
              clear H
              go_wp2
              go_meet
              case rel => exact ⟨_, (1), (by rF), H', ⟨by have := HJ3.out; have := HK2.out; first | omega | exact Nat.le_refl _⟩, ⟨by (rX); exact HO_8.out⟩, ⟨by (rX); exact HO_10.out⟩, ⟨by (rX); exact HO_33.out⟩, ⟨by (with_reducible repeat (first | refine blk_drewN ?_ _ | refine blk_drew ?_ | refine blk_alloc ?_ _)); exact BK161.out⟩, ⟨by repeat (first | (with_reducible first | exact HB.out | apply below_alloc | apply pw_below_drewN | apply below_drew1 | refine below_set ?_ GE161.out) | exact HB.out)⟩⟩
            ·rw [if_neg c26] at H
             have c26b0 : decide (x35_2 < a2) = false := decide_eq_false c26
             clear c26
             (first | rw [c26b0] | (simp only [i64_w, i32_w]; rw [c26b0]) | skip)
             have H' := aM H
             clear H
             go_wp2
             go_meet
             case rel => exact ⟨_, (0), (by rF), H', ⟨by have := HJ3.out; have := HK2.out; first | omega | exact Nat.le_refl _⟩, ⟨by (rX); exact HO_8.out⟩, ⟨by (rX); exact HO_10.out⟩, ⟨by (rX); exact HO_33.out⟩, ⟨by (with_reducible repeat (first | refine blk_drewN ?_ _ | refine blk_drew ?_ | refine blk_alloc ?_ _)); exact BK161.out⟩, ⟨by repeat (first | (with_reducible first | exact HB.out | apply below_alloc | apply pw_below_drewN | apply below_drew1 | refine below_set ?_ GE161.out) | exact HB.out)⟩⟩
           case rest =>
            clear HC25
            try clear c1
            try clear p1
            try clear q1
            try clear hx1
            try clear c2
            try clear p2
            try clear p6
            try clear c7
            try clear c11
            try clear c13
            try clear c15
            try clear c15b0
            try clear c15b1
            try clear c16
            try clear c16b0
            try clear c16b1
            try clear p17
            try clear q17
            try clear hx17
            try clear c22
            try clear c22b0
            try clear c23
            try clear c23b0
            try clear c24
            try clear c24b0
            try clear c26
            try clear c26b0
            try clear c27
            try clear c27b0
            try clear c28
            try clear c28b0
            try clear c28b1
            try clear hcz11_0
            try clear hcz17_0
            try clear hcz9_0
            try clear hfz11_0
            try clear hfz17_0
            try clear hfz9_0
            try clear hx171_0
            try clear p171
            try clear p2
            try clear q171
            obtain ⟨kq, x13_24, rfl, HA, HJ24, HO_8, HO_10, HO_33, BK161, HB⟩ := hcut
            cases kq with
            | zero => exact absurd HA.out (by simp [spec_TimesChanging.j2])
            | succ kj24 =>
             have H := HA.out
             clear HA
             simp only [spec_TimesChanging.j2] at H
             have H' := aM H
             clear H
             obtain ⟨Ao29, co29, eo29⟩ := Kd.R_slice HO_10.out
             subst eo29
             go_wp2
             go_loopg [58] kj24 (fun kq v58 w' => ∃ (x10_4 : List Int) (x58_4 : Int), v58 = .int .i64 x58_4 ∧ Aside0 (spec_TimesChanging.l1 kq a2 t164 t167 x10_4 (rdOf ByteArray.empty t164 x35_2) x13_24 t164 (t164.length : Int) x35_2 (x10_2.length : Int) x58_4 l0_0 = some (r1, r2)) ∧ Aside0 (kq ≤ kj24) ∧ Aside0 (Kd.R Kd.string 9 w' w.heap.size (fun _ => True) (.slice (some ad171) t164.length co21) t164) ∧ Aside0 (Kd.R (Kd.int .i64) 3 w' w.heap.size (fun _ => True) (.slice Ao29 x10_2.length co29) x10_4) ∧ Aside0 (Kd.R Kd.string 9 w' w.heap.size (fun _ => True) (.slice (some ad171) t164.length co21) t164) ∧ Aside0 (w'.heap[gb161]? = some (.cells #[(.slice A0_0 l0_0.length c0_0)] 29 (0, 0))) ∧ Aside0 (Below w.heap.size w w'))
             case atStart => exact ⟨(x10_2), (0), (by rF), H', ⟨Nat.le_refl _⟩, ⟨by (rX); exact HO_8.out⟩, ⟨by (rX); exact HO_10.out⟩, ⟨by (rX); exact HO_33.out⟩, ⟨by (with_reducible repeat (first | refine blk_drewN ?_ _ | refine blk_drew ?_ | refine blk_alloc ?_ _)); exact BK161.out⟩, ⟨by repeat (first | (with_reducible first | exact HB.out | apply below_alloc | apply pw_below_drewN | apply below_drew1 | refine below_set ?_ GE161.out) | exact HB.out)⟩⟩
             case round =>
              clear H'
              try clear c1
              try clear p1
              try clear q1
              try clear hx1
              try clear c2
              try clear p2
              try clear p6
              try clear c7
              try clear c11
              try clear c13
              try clear c15
              try clear c15b0
              try clear c15b1
              try clear c16
              try clear c16b0
              try clear c16b1
              try clear p17
              try clear q17
              try clear hx17
              try clear c22
              try clear c22b0
              try clear c23
              try clear c23b0
              try clear c24
              try clear c24b0
              try clear c26
              try clear c26b0
              try clear c27
              try clear c27b0
              try clear c28
              try clear c28b0
              try clear c28b1
              try clear hcz11_0
              try clear hcz17_0
              try clear hcz9_0
              try clear hfz11_0
              try clear hfz17_0
              try clear hfz9_0
              try clear hx171_0
              try clear p1
              try clear p17
              try clear p171
              try clear p2
              try clear p6
              try clear q1
              try clear q17
              try clear q171
              obtain ⟨x10_4, x58_4, rfl, HA, HK4, HO_8, HO_10, HO_33, BK161, HB⟩ := hrel
              have hl10_4 := (Kd.R_reads' HO_10.out).1
              rw [hl10_4] at HO_10
              (try simp only [hl10_4])
              (try simp only [hl10_4] at BK161)
              (try simp only [hl10_4] at HO_8)
              (try simp only [hl10_4] at HO_33)
              cases gk with
              | zero => exact absurd HA.out (by simp [spec_TimesChanging.l1])
              | succ k4 =>
               have H := HA.out
               clear HA
               simp only [spec_TimesChanging.l1] at H
               by_cases c30 : x58_4 < (x10_2.length : Int)
               ·rw [if_pos c30] at H
                have c30b0 : decide (x58_4 < (x10_2.length : Int)) = true := decide_eq_true c30
                try (have c30l := c30b0; simp only [hl10_4] at c30l)
                clear c30
                replace H := Option.bind_eq_some_iff.mp H
                obtain ⟨t172, A310, H⟩ := H
                replace H : (if t172 = true then (if 0 ≤ x58_4 then (if x58_4 < (x10_4.length : Int) then (spec_TimesChanging.l1 k4 a2 t164 t167 (x10_4.set (x58_4 : Int).toNat (wrap64 ((rd x10_4 x58_4) + x13_24))) (rdOf ByteArray.empty t164 x35_2) x13_24 t164 (t164.length : Int) x35_2 (x10_2.length : Int) (wrap64 (x58_4 + 1)) l0_0) else (none)) else (none)) else (spec_TimesChanging.l1 k4 a2 t164 t167 x10_4 (rdOf ByteArray.empty t164 x35_2) x13_24 t164 (t164.length : Int) x35_2 (x10_2.length : Int) (wrap64 (x58_4 + 1)) l0_0)) = some (r1, r2) := H
                have A31 := aM A310
                clear A310
                by_cases c32 : t172 = true
                ·subst c32
                 rw [if_pos rfl] at H
                 by_cases c33 : 0 ≤ x58_4
                 ·rw [if_pos c33] at H
                  have c33b0 : decide (0 ≤ x58_4) = true := decide_eq_true c33
                  clear c33
                  by_cases c34 : x58_4 < (x10_4.length : Int)
                  ·rw [if_pos c34] at H
                   have c34b0 : decide (x58_4 < (x10_4.length : Int)) = true := decide_eq_true c34
                   try (have c34l := c34b0; simp only [hl10_4] at c34l)
                   clear c34
                   obtain ⟨y174, hy174⟩ : ∃ y_ : List Int, y_ = (x10_4.set (x58_4 : Int).toNat (wrap64 ((rd x10_4 x58_4) + x13_24))) := ⟨_, rfl⟩
                   replace H : (spec_TimesChanging.l1 k4 a2 t164 t167 y174 (rdOf ByteArray.empty t164 x35_2) x13_24 t164 (t164.length : Int) x35_2 (x10_2.length : Int) (wrap64 (x58_4 + 1)) l0_0) = some (r1, r2) := by fH hy174
                   have Ny174 := aM hy174
                   clear hy174
                   have H' := aM H
                   clear H
                   have hcz36_0 : wr.cell? ⟨gb161, 0, none⟩ = some (.slice A0_0 l0_0.length c0_0) := (blk_cell BK161.out 0).trans rfl
                   have hfz36_0 := blk_frozen BK161.out 0
                   go_wp2_with (first | ((with_reducible refine gate_callee (f := 116) rfl ?_); refine goesL_ (some 64) rfl rfl Tryd.func116 (by kernel_rfl) rfl #[.agg #[.slice A0_0 l0_0.length c0_0], .string (rdOf ByteArray.empty t164 x35_2), .int .i64 x58_4] rfl (by mA) ?_; (with_reducible refine (spec_laChanges.calls _ _ l0_0 (rdOf ByteArray.empty t164 x35_2) x58_4 true _ ?side1 ?side2 A31.out).mono ?_); (case side1 => cC ((Kd.C_below HR0_0.out HB.out))); (case side2 => exact HC0_0.out); rintro e w37 ⟨rfl, hb⟩; refine ⟨_, rfl, ?_⟩; have n0_ := aM (Kd.R_below (by (rX); exact HO_8.out) hb); have n1_ := aM (Kd.R_below (by (rX); exact HO_10.out) hb); have n2_ := aM (Kd.R_below (by (rX); exact HO_33.out) hb); have n3_ := aM (blk_below (g := gb161) (o := .cells #[.slice A0_0 l0_0.length c0_0] 29 (0, 0)) (by (with_reducible repeat (first | refine blk_drewN ?_ _ | refine blk_drew ?_ | refine blk_alloc ?_ _)); exact BK161.out) hb); have n4_ := aM (below_step (by repeat (first | (with_reducible first | exact HB.out | apply below_alloc | apply pw_below_drewN | apply below_drew1 | refine below_set ?_ GE161.out) | exact HB.out)) hb); clear HO_8; clear HO_10; clear HO_33; clear BK161; clear HB; have HO_8 := n0_; have HO_10 := n1_; have HO_33 := n2_; have BK161 := n3_; have HB := n4_; clear n0_ n1_ n2_ n3_ n4_; cX; have p173 : 0 ≤ (x58_4 : Int) := of_decide_eq_true (by first | (with_reducible assumption) | assumption); have q173 : x58_4 < (x10_4.length : Int) := of_decide_eq_true (by first | (with_reducible assumption) | assumption); obtain ⟨ad173, e173, hx173_0⟩ := Kd.at_int (Kd.R_reads' HO_10.out).2.2 x58_4 p173 q173; cases e173; replace p173 := eq_true p173; replace q173 := eq_true q173; have p35 : 0 ≤ (x58_4 : Int) := of_decide_eq_true (by first | (with_reducible assumption) | assumption); have q35 : (x58_4 : Int) < ((x10_4.length : Int) : Int) := of_decide_eq_true (by first | (with_reducible assumption) | assumption); obtain ⟨go35, co35, eo35, gb35, gl35, cl35, HG35⟩ := Kd.R_form HO_10.out (by omega); (first | cases eo35 | (injection eo35 with ea_ en_ ec_; (first | subst ea_ | (injection ea_ with ea_; subst ea_)); subst ec_; clear en_)); have GB35 := aM gb35; have GG35 := aM HG35; clear gb35 gl35 HG35; (first | simp only [add_plain] at hx173_0 | skip); obtain ⟨hx35_0, hf35_0⟩ := Kd.R_celln 0 HO_10.out (x58_4 : Int) p35 q35; replace p35 := eq_true p35; replace q35 := eq_true q35; obtain ⟨hy38_, hz38_⟩ := Kd.R_celln 0 HO_10.out (x58_4 : Int) (of_decide_eq_true (by first | (with_reducible assumption) | assumption)) (of_decide_eq_true (by first | (with_reducible assumption) | assumption)); have HP38 := Kd.R_putg HO_10.out (x58_4 : Int) (wrap64 ((rd x10_4 x58_4) + x13_24))) | ((with_reducible refine gate_store (t := 3) (p := 71) rfl ?_); refine store_event (t := 3) (p := 71) (v := ?vo_w39) (w1 := (w37.setCell ⟨go35, (x58_4 : Int).toNat, none⟩ (.int .i64 (wrap64 ((rd x10_4 x58_4) + x13_24))))) ?hg ?ho ?hn ?hr ?_; (case ho => rfl); (case hg => rfl); (case hn => rfl); (case hr => first | (go_simp; done) | (go_simp; rfl)); intro w39 hw; have hg : w37.grownBy w39 (some go35) := (by rw [hw]; exact HP38.2); have hp_ : Kd.R (Kd.int .i64) 3 w39 w.heap.size (fun _ => True) (.slice (some ⟨go35, 0, none⟩) x10_4.length co29) y174 := (by rw [hw, Ny174.out]; exact HP38.1); clear HP38; have n0_ := aM (Kd.R_over' (v := (.slice (some ⟨go35, 0, none⟩) x10_4.length co29)) (by (rX); exact HO_8.out) (Kd.R_typed HO_10.out) (by decide) hg); have n1_ := aM (hp_); have n2_ := aM (Kd.R_over' (v := (.slice (some ⟨go35, 0, none⟩) x10_4.length co29)) (by (rX); exact HO_33.out) (Kd.R_typed HO_10.out) (by decide) hg); have n3_ := aM (blk_grown (g := gb161) (o := .cells #[.slice A0_0 l0_0.length c0_0] 29 (0, 0)) (by (with_reducible repeat (first | refine blk_drewN ?_ _ | refine blk_drew ?_ | refine blk_alloc ?_ _)); exact BK161.out) hg (Kd.R_ne HO_10.out BK161.out (by decide))); have n4_ := aM ((by rw [hw]; exact below_set (HB.out) GB35.out : Below w.heap.size w w39)); clear HO_8; clear HO_10; clear HO_33; clear BK161; clear HB; have HO_8 := n0_; have HO_10 := n1_; have HO_33 := n2_; have BK161 := n3_; have HB := n4_; clear n0_ n1_ n2_ n3_ n4_; clear hg hw hp_))
                   (try simp only [← hl10_4])
                   go_roundg k4
                   case measure => have := HJ3.out; have := HK2.out; have := HJ24.out; have := HK4.out; omega
                   case rel => exact ⟨(y174), (wrap64 (x58_4 + 1)), (by rF), H', ⟨by have := HJ3.out; have := HK2.out; have := HJ24.out; have := HK4.out; omega⟩, ⟨by (try simp only [hl10_4]); (rX); exact HO_8.out⟩, ⟨by (try simp only [hl10_4]); (rX); exact HO_10.out⟩, ⟨by (try simp only [hl10_4]); (rX); exact HO_33.out⟩, ⟨by (try simp only [hl10_4]); (with_reducible repeat (first | refine blk_drewN ?_ _ | refine blk_drew ?_ | refine blk_alloc ?_ _)); exact BK161.out⟩, ⟨by repeat (first | (with_reducible first | exact HB.out | apply below_alloc | apply pw_below_drewN | apply below_drew1 | refine below_set ?_ GE161.out) | exact HB.out)⟩⟩
                  ·rw [if_neg c34] at H
                   exact absurd H (by simp)
                 ·rw [if_neg c33] at H
                  exact absurd H (by simp)
                ·replace c32 := Bool.eq_false_iff.mpr c32
                 subst c32
                 rw [if_neg (show ¬ (false = true) by decide)] at H
                 have H' := aM H
                 clear H
                 have hcz40_0 : wr.cell? ⟨gb161, 0, none⟩ = some (.slice A0_0 l0_0.length c0_0) := (blk_cell BK161.out 0).trans rfl
                 have hfz40_0 := blk_frozen BK161.out 0
                 go_wp2_with (first | ((with_reducible refine gate_callee (f := 116) rfl ?_); refine goesL_ (some 64) rfl rfl Tryd.func116 (by kernel_rfl) rfl #[.agg #[.slice A0_0 l0_0.length c0_0], .string (rdOf ByteArray.empty t164 x35_2), .int .i64 x58_4] rfl (by mA) ?_; (with_reducible refine (spec_laChanges.calls _ _ l0_0 (rdOf ByteArray.empty t164 x35_2) x58_4 false _ ?side1 ?side2 A31.out).mono ?_); (case side1 => cC ((Kd.C_below HR0_0.out HB.out))); (case side2 => exact HC0_0.out); rintro e w41 ⟨rfl, hb⟩; refine ⟨_, rfl, ?_⟩; have n0_ := aM (Kd.R_below (by (rX); exact HO_8.out) hb); have n1_ := aM (Kd.R_below (by (rX); exact HO_10.out) hb); have n2_ := aM (Kd.R_below (by (rX); exact HO_33.out) hb); have n3_ := aM (blk_below (g := gb161) (o := .cells #[.slice A0_0 l0_0.length c0_0] 29 (0, 0)) (by (with_reducible repeat (first | refine blk_drewN ?_ _ | refine blk_drew ?_ | refine blk_alloc ?_ _)); exact BK161.out) hb); have n4_ := aM (below_step (by repeat (first | (with_reducible first | exact HB.out | apply below_alloc | apply pw_below_drewN | apply below_drew1 | refine below_set ?_ GE161.out) | exact HB.out)) hb); clear HO_8; clear HO_10; clear HO_33; clear BK161; clear HB; have HO_8 := n0_; have HO_10 := n1_; have HO_33 := n2_; have BK161 := n3_; have HB := n4_; clear n0_ n1_ n2_ n3_ n4_; cX))
                 (try simp only [← hl10_4])
                 go_roundg k4
                 case measure => have := HJ3.out; have := HK2.out; have := HJ24.out; have := HK4.out; omega
                 case rel => exact ⟨(x10_4), (wrap64 (x58_4 + 1)), (by rF), H', ⟨by have := HJ3.out; have := HK2.out; have := HJ24.out; have := HK4.out; omega⟩, ⟨by (try simp only [hl10_4]); (rX); exact HO_8.out⟩, ⟨by (try simp only [hl10_4]); (rX); exact HO_10.out⟩, ⟨by (try simp only [hl10_4]); (rX); exact HO_33.out⟩, ⟨by (try simp only [hl10_4]); (with_reducible repeat (first | refine blk_drewN ?_ _ | refine blk_drew ?_ | refine blk_alloc ?_ _)); exact BK161.out⟩, ⟨by repeat (first | (with_reducible first | exact HB.out | apply below_alloc | apply pw_below_drewN | apply below_drew1 | refine below_set ?_ GE161.out) | exact HB.out)⟩⟩
               ·rw [if_neg c30] at H
                have c30b0 : decide (x58_4 < (x10_2.length : Int)) = false := decide_eq_false c30
                try (have c30l := c30b0; simp only [hl10_4] at c30l)
                clear c30
                have H' := aM H
                clear H
                go_wp2
                (try simp only [← hl10_4])
                go_roundg k4
                case measure => have := HJ3.out; have := HK2.out; have := HJ24.out; have := HK4.out; omega
                case rel => exact ⟨(x10_4), (wrap64 (x35_2 + 1)), (by rF), H', ⟨by have := HJ3.out; have := HK2.out; have := HJ24.out; have := HK4.out; omega⟩, ⟨by (try simp only [hl10_4]); (rX); exact HO_8.out⟩, ⟨by (try simp only [hl10_4]); (rX); exact HO_10.out⟩, ⟨by (try simp only [hl10_4]); (rX); exact HO_33.out⟩, ⟨by (try simp only [hl10_4]); (with_reducible repeat (first | refine blk_drewN ?_ _ | refine blk_drew ?_ | refine blk_alloc ?_ _)); exact BK161.out⟩, ⟨by repeat (first | (with_reducible first | exact HB.out | apply below_alloc | apply pw_below_drewN | apply below_drew1 | refine below_set ?_ GE161.out) | exact HB.out)⟩⟩
          ·rw [if_neg c24] at H
           exact absurd H (by simp)
         ·rw [if_neg c23] at H
          exact absurd H (by simp)
        ·rw [if_neg c22] at H
         have c22b0 : decide (x35_2 < (t164.length : Int)) = false := decide_eq_false c22
         try (have c22l := c22b0; simp only [hl10_4] at c22l)
         clear c22
         simp only [Option.some.injEq, Prod.mk.injEq] at H
         obtain ⟨rfl, rfl⟩ := H
         go_wp2
         go_ret2
         exact ⟨_, by eW, by (rX); exact HO_10.out, by repeat (first | (with_reducible first | exact HB.out | apply below_alloc | apply pw_below_drewN | apply below_drew1 | refine below_set ?_ GE161.out) | exact HB.out)⟩
     ·rw [if_neg c16] at H
      exact absurd H (by simp)
    ·rw [if_neg c15] at H
     exact absurd H (by simp)

/-! ### laws_xSame: function 29 -/
def laws_xSame.l0 : Nat → List Int → List Int → Int → Int → Option (Bool)
 | 0, _, _, _, _ => none
 | k + 1, x0, x1, x12, x13 => if x13 < x12 then (if 0 ≤ x13 then (if x13 < (x0.length : Int) then (if x13 < (x1.length : Int) then (if (rd x0 x13) = (rd x1 x13) then (laws_xSame.l0 k x0 x1 x12 (wrap64 (x13 + 1))) else (some false)) else (none)) else (none)) else (none)) else (some true)
def laws_xSame.f (k : Nat) (l0 : List Int) (l1 : List Int) : Option (Bool) := if (l0.length : Int) = (l1.length : Int) then (laws_xSame.l0 k l0 l1 (l0.length : Int) 0) else (some false)
theorem laws_xSame.mono_l : ∀ k, (∀ y0 y1 y2 y3, LeO (laws_xSame.l0 k y0 y1 y2 y3) (laws_xSame.l0 (k + 1) y0 y1 y2 y3))
 | 0 => fun _ _ _ _ r h => by simp [laws_xSame.l0] at h
 | k + 1 => by
  have ih0 := laws_xSame.mono_l k
  ·intro y0 y1 y2 y3
   unfold laws_xSame.l0
   repeat' first
   | wE ih0 _ _ _ _
   | wE LeO.refl _
   | wE LeO.none _
   | wR LeO.ite ?_ ?_
   | wR LeO.bind ?_ (fun _ => ?_)
   | exact ih0 _ _ _ _
   | exact LeO.none _
   | refine LeO.ite ?_ ?_
   | refine LeO.bind ?_ (fun _ => ?_)
theorem laws_xSame.mono : ∀ a0 a1 k, LeO (laws_xSame.f k a0 a1) (laws_xSame.f (k + 1) a0 a1) := by
 intro a0 a1 k
 have ih0 := laws_xSame.mono_l k
 unfold laws_xSame.f
 repeat' first
   | wE ih0 _ _ _ _
   | wE LeO.refl _
   | wE LeO.none _
   | wR LeO.ite ?_ ?_
   | wR LeO.bind ?_ (fun _ => ?_)
   | exact ih0 _ _ _ _
   | exact LeO.none _
   | refine LeO.ite ?_ ?_
   | refine LeO.bind ?_ (fun _ => ?_)
set_option maxHeartbeats 8000000 in
set_option maxRecDepth 100000 in
theorem laws_xSame.calls (k : Nat) (A0 : Option Addr) (c0 : Nat) (l0 : List Int) (A1 : Option Addr) (c1 : Nat) (l1 : List Int) (r : Bool) (w : World) (hr0 : Kd.C (Kd.int .i64) w A0 l0.length l0) (hc0 : l0.length ≤ c0) (hr1 : Kd.C (Kd.int .i64) w A1 l1.length l1) (hc1 : l1.length ≤ c1) (h : laws_xSame.f k l0 l1 = some r) :
  Calls Tryd.prog 29 #[.slice A0 l0.length c0, .slice A1 l1.length c1] w fun e w' => e = .returned (.bool r) ∧ Drawn0 w w' := by
 have HR0 := aM hr0
 have HC0 := aM hc0
 clear hr0 hc0
 have HR1 := aM hr1
 have HC1 := aM hc1
 clear hr1 hc1
 have H : (if (l0.length : Int) = (l1.length : Int) then (laws_xSame.l0 k l0 l1 (l0.length : Int) 0) else (some false)) = some r := h
 clear h
 by_cases c3 : (l0.length : Int) = (l1.length : Int)
 ·rw [if_pos c3] at H
  have c3b0 : ((l0.length : Int) == (l1.length : Int)) = true := beq_iff_eq.mpr c3
  have c3b1 : ((l0.length : Int) != (l1.length : Int)) = false := bne_eq_false_iff_eq.mpr c3
  have c3b2 : (l0.length == l1.length) = true := by first | simpa using c3 | (simp at c3 ⊢; omega)
  clear c3
  have H' := aM H
  clear H
  go_enter Tryd.func29, Tryd.ntmps29
  go_wp2
  repeat (go_quiet (fail); try go_wp2)
  go_loopg [13] k (fun kq v13 w' => ∃ (x13_1 : Int), v13 = .int .i64 x13_1 ∧ Aside0 (laws_xSame.l0 kq l0 l1 (l0.length : Int) x13_1 = some r) ∧ Aside0 (kq ≤ k) ∧ Drawn0 w w')
  case atStart => exact ⟨(0), (by rF), H', ⟨Nat.le_refl _⟩, by repeat (first | exact Drawn0.refl _ | apply Drawn0.step)⟩
  case round =>
   clear H'
   try clear c1
   try clear c2
   try clear p2
   try clear c3
   try clear c3b0
   try clear c3b1
   try clear c3b2
   obtain ⟨x13_1, rfl, HA, HK1, ⟨m1, rfl⟩⟩ := hrel
   cases gk with
   | zero => exact absurd HA.out (by simp [laws_xSame.l0])
   | succ k1 =>
    have H := HA.out
    clear HA
    simp only [laws_xSame.l0] at H
    by_cases c4 : x13_1 < (l0.length : Int)
    ·rw [if_pos c4] at H
     have c4b0 : decide (x13_1 < (l0.length : Int)) = true := decide_eq_true c4
     clear c4
     by_cases c5 : 0 ≤ x13_1
     ·rw [if_pos c5] at H
      have c5b0 : decide (0 ≤ x13_1) = true := decide_eq_true c5
      clear c5
      by_cases c6 : x13_1 < (l0.length : Int)
      ·rw [if_pos c6] at H
       have c6b0 : decide (x13_1 < (l0.length : Int)) = true := decide_eq_true c6
       clear c6
       by_cases c7 : x13_1 < (l1.length : Int)
       ·rw [if_pos c7] at H
        have c7b0 : decide (x13_1 < (l1.length : Int)) = true := decide_eq_true c7
        clear c7
        by_cases c8 : (rd l0 x13_1) = (rd l1 x13_1)
        ·rw [if_pos c8] at H
         have c8b0 : ((rd l0 x13_1) == (rd l1 x13_1)) = true := beq_iff_eq.mpr c8
         have c8b1 : ((rd l0 x13_1) != (rd l1 x13_1)) = false := bne_eq_false_iff_eq.mpr c8
         clear c8
         have H' := aM H
         clear H
         have p175 : 0 ≤ (x13_1 : Int) := of_decide_eq_true (by first | (with_reducible assumption) | assumption)
         have q175 : x13_1 < (l0.length : Int) := of_decide_eq_true (by first | (with_reducible assumption) | assumption)
         obtain ⟨ad175, e175, hx175_0⟩ := Kd.at_int HR0.out x13_1 p175 q175
         cases e175
         replace p175 := eq_true p175
         replace q175 := eq_true q175
         have p176 : 0 ≤ (x13_1 : Int) := of_decide_eq_true (by first | (with_reducible assumption) | assumption)
         have q176 : x13_1 < (l1.length : Int) := of_decide_eq_true (by first | (with_reducible assumption) | assumption)
         obtain ⟨ad176, e176, hx176_0⟩ := Kd.at_int HR1.out x13_1 p176 q176
         cases e176
         replace p176 := eq_true p176
         replace q176 := eq_true q176
         go_wp2
         repeat (go_quiet (fail); try go_wp2)
         go_roundg k1
         case measure => mO
         case rel => exact ⟨(wrap64 (x13_1 + 1)), (by rF), H', ⟨by mO⟩, by repeat (first | exact Drawn0.refl _ | apply Drawn0.step)⟩
        ·rw [if_neg c8] at H
         have c8b0 : ((rd l0 x13_1) == (rd l1 x13_1)) = false := beq_eq_false_iff_ne.mpr c8
         have c8b1 : ((rd l0 x13_1) != (rd l1 x13_1)) = true := bne_iff_ne.mpr c8
         obtain rfl := Option.some.inj H
         have p175 : 0 ≤ (x13_1 : Int) := of_decide_eq_true (by first | (with_reducible assumption) | assumption)
         have q175 : x13_1 < (l0.length : Int) := of_decide_eq_true (by first | (with_reducible assumption) | assumption)
         obtain ⟨ad175, e175, hx175_0⟩ := Kd.at_int HR0.out x13_1 p175 q175
         cases e175
         replace p175 := eq_true p175
         replace q175 := eq_true q175
         have p176 : 0 ≤ (x13_1 : Int) := of_decide_eq_true (by first | (with_reducible assumption) | assumption)
         have q176 : x13_1 < (l1.length : Int) := of_decide_eq_true (by first | (with_reducible assumption) | assumption)
         obtain ⟨ad176, e176, hx176_0⟩ := Kd.at_int HR1.out x13_1 p176 q176
         cases e176
         replace p176 := eq_true p176
         replace q176 := eq_true q176
         go_wp2
         repeat (go_quiet (fail); try go_wp2)
         go_ret
         exact ⟨by rF, by repeat (first | exact Drawn0.refl _ | apply Drawn0.step)⟩
       ·rw [if_neg c7] at H
        exact absurd H (by simp)
      ·rw [if_neg c6] at H
       exact absurd H (by simp)
     ·rw [if_neg c5] at H
      exact absurd H (by simp)
    ·rw [if_neg c4] at H
     have c4b0 : decide (x13_1 < (l0.length : Int)) = false := decide_eq_false c4
     clear c4
     obtain rfl := Option.some.inj H
     go_wp2
     repeat (go_quiet (fail); try go_wp2)
     go_ret
     exact ⟨by rF, by repeat (first | exact Drawn0.refl _ | apply Drawn0.step)⟩
 ·rw [if_neg c3] at H
  have c3b0 : ((l0.length : Int) == (l1.length : Int)) = false := beq_eq_false_iff_ne.mpr c3
  have c3b1 : ((l0.length : Int) != (l1.length : Int)) = true := bne_iff_ne.mpr c3
  have c3b2 : (l0.length == l1.length) = false := by first | simpa using c3 | (simp at c3 ⊢; omega)
  obtain rfl := Option.some.inj H
  go_enter Tryd.func29, Tryd.ntmps29
  go_wp2
  repeat (go_quiet (fail); try go_wp2)
  go_ret
  exact ⟨by rF, by repeat (first | exact Drawn0.refl _ | apply Drawn0.step)⟩

/-! ### spec_AreLamps: function 31 -/
def spec_AreLamps.f (l0_0 : List ByteArray) : Option (Bool) := (spec_laGood.f l0_0).bind fun t178 => (some t178)
set_option maxHeartbeats 8000000 in
set_option maxRecDepth 100000 in
theorem spec_AreLamps.calls (A0_0 : Option Addr) (c0_0 : Nat) (l0_0 : List ByteArray) (r : Bool) (w : World) (hr0_0 : Kd.C Kd.string w A0_0 l0_0.length l0_0) (hc0_0 : l0_0.length ≤ c0_0) (h : spec_AreLamps.f l0_0 = some r) :
  Calls Tryd.prog 31 #[.agg #[.slice A0_0 l0_0.length c0_0]] w fun e w' => e = .returned (.bool r) ∧ Below w.heap.size w w' := by
 have hu29 := Tryd.underlying29
 have HR0_0 := aM hr0_0
 have HC0_0 := aM hc0_0
 clear hr0_0 hc0_0
 have HB := aM (Below.refl w.heap.size w)
 have H : ((spec_laGood.f l0_0).bind fun t178 => (some t178)) = some r := h
 clear h
 replace H := Option.bind_eq_some_iff.mp H
 obtain ⟨t178, A20, H⟩ := H
 replace H : (some t178) = some r := H
 have A2 := aM A20
 clear A20
 obtain rfl := Option.some.inj H
 go_enter Tryd.func31, Tryd.ntmps31
 go_wp2_with (first | ((with_reducible refine gate_dst (N := 1) rfl ?_); refine box_event ?hg (N := 1) ?hd (cs := #[.slice A0_0 l0_0.length c0_0]) (t := 29) ?hr ?_; (case hd => rfl); (case hg => rfl); (case hr => first | (go_simp; done) | (go_simp; rfl)); intro gb177 hg w3 hbox hb; have n0_ := aM (below_step (by bB) hb); have n1_ := aM (hbox); have n2_ := aM ((by rw [hg]; exact (below_size (by bB)) : w.heap.size ≤ gb177)); have n3_ := aM ((by rw [hg]; exact (below_size (by bB)) : w.heap.size ≤ gb177)); clear HB; have HB := n0_; have BK177 := n1_; have GW177 := n2_; have GE177 := n3_; clear n0_ n1_ n2_ n3_; clear hb hbox hg; have hcz4_0 : w3.cell? ⟨gb177, 0, none⟩ = some (.slice A0_0 l0_0.length c0_0) := (blk_cell BK177.out 0).trans rfl; have hfz4_0 := blk_frozen BK177.out 0) | ((with_reducible refine gate_callee (f := 88) rfl ?_); refine goesL_ (some 4) rfl rfl Tryd.func88 (by kernel_rfl) rfl #[.agg #[.slice A0_0 l0_0.length c0_0]] rfl (by mA) ?_; (with_reducible refine (spec_laGood.calls _ _ l0_0 t178 _ ?side1 ?side2 A2.out).mono ?_); (case side1 => cC ((Kd.C_below HR0_0.out HB.out))); (case side2 => exact HC0_0.out); rintro e w5 ⟨rfl, hb⟩; refine ⟨_, rfl, ?_⟩; have n0_ := aM (blk_below (g := gb177) (o := .cells #[.slice A0_0 l0_0.length c0_0] 29 (0, 0)) (by (with_reducible repeat (first | refine blk_drewN ?_ _ | refine blk_drew ?_ | refine blk_alloc ?_ _)); exact BK177.out) hb); have n1_ := aM (below_step (by repeat (first | (with_reducible first | exact HB.out | apply below_alloc | apply pw_below_drewN | apply below_drew1 | refine below_set ?_ GE177.out) | exact HB.out)) hb); clear BK177; clear HB; have BK177 := n0_; have HB := n1_; clear n0_ n1_; cX))
 go_ret
 exact ⟨by eW, by repeat (first | (with_reducible first | exact HB.out | apply below_alloc | apply pw_below_drewN | apply below_drew1 | refine below_set ?_ GE177.out) | exact HB.out)⟩

/-! ### impl_TickOnce: function 32 -/
def impl_TickOnce.f (l0_0 : List ByteArray) (a1 : ByteArray) : Option (ByteArray × Bool) := (impl_Lamps_lit.f l0_0 a1).bind fun t180 => (if t180 = true then ((impl_Lamps_tick.f l0_0 a1).bind fun t181 => (some (t181, true))) else (some ((⟨#[]⟩ : ByteArray), false)))
set_option maxHeartbeats 8000000 in
set_option maxRecDepth 100000 in
theorem impl_TickOnce.calls (A0_0 : Option Addr) (c0_0 : Nat) (l0_0 : List ByteArray) (a1 : ByteArray) (r1 : ByteArray) (r2 : Bool) (w : World) (hr0_0 : Kd.C Kd.string w A0_0 l0_0.length l0_0) (hc0_0 : l0_0.length ≤ c0_0) (h : impl_TickOnce.f l0_0 a1 = some (r1, r2)) :
  Calls Tryd.prog 32 #[.agg #[.slice A0_0 l0_0.length c0_0], .string a1] w fun e w' => e = .returned (.tuple #[.string r1, .bool r2]) ∧ Below w.heap.size w w' := by
 have hu29 := Tryd.underlying29
 have HR0_0 := aM hr0_0
 have HC0_0 := aM hc0_0
 clear hr0_0 hc0_0
 have HB := aM (Below.refl w.heap.size w)
 have H : ((impl_Lamps_lit.f l0_0 a1).bind fun t180 => (if t180 = true then ((impl_Lamps_tick.f l0_0 a1).bind fun t181 => (some (t181, true))) else (some ((⟨#[]⟩ : ByteArray), false)))) = some (r1, r2) := h
 clear h
 replace H := Option.bind_eq_some_iff.mp H
 obtain ⟨t180, A30, H⟩ := H
 replace H : (if t180 = true then ((impl_Lamps_tick.f l0_0 a1).bind fun t181 => (some (t181, true))) else (some ((⟨#[]⟩ : ByteArray), false))) = some (r1, r2) := H
 have A3 := aM A30
 clear A30
 by_cases c4 : t180 = true
 ·subst c4
  rw [if_pos rfl] at H
  replace H := Option.bind_eq_some_iff.mp H
  obtain ⟨t181, A50, H⟩ := H
  replace H : (some (t181, true)) = some (r1, r2) := H
  have A5 := aM A50
  clear A50
  simp only [Option.some.injEq, Prod.mk.injEq] at H
  obtain ⟨rfl, rfl⟩ := H
  go_enter Tryd.func32, Tryd.ntmps32
  go_wp2_with (first | ((with_reducible refine gate_dst (N := 2) rfl ?_); refine box_event ?hg (N := 2) ?hd (cs := #[.slice A0_0 l0_0.length c0_0]) (t := 29) ?hr ?_; (case hd => rfl); (case hg => rfl); (case hr => first | (go_simp; done) | (go_simp; rfl)); intro gb179 hg w6 hbox hb; have n0_ := aM (below_step (by bB) hb); have n1_ := aM (hbox); have n2_ := aM ((by rw [hg]; exact (below_size (by bB)) : w.heap.size ≤ gb179)); have n3_ := aM ((by rw [hg]; exact (below_size (by bB)) : w.heap.size ≤ gb179)); clear HB; have HB := n0_; have BK179 := n1_; have GW179 := n2_; have GE179 := n3_; clear n0_ n1_ n2_ n3_; clear hb hbox hg; have hcz7_0 : w6.cell? ⟨gb179, 0, none⟩ = some (.slice A0_0 l0_0.length c0_0) := (blk_cell BK179.out 0).trans rfl; have hfz7_0 := blk_frozen BK179.out 0) | ((with_reducible refine gate_callee (f := 108) rfl ?_); refine goesL_ (some 8) rfl rfl Tryd.func108 (by kernel_rfl) rfl #[.agg #[.slice A0_0 l0_0.length c0_0], .string a1] rfl (by mA) ?_; (with_reducible refine (impl_Lamps_lit.calls _ _ l0_0 a1 true _ ?side1 ?side2 A3.out).mono ?_); (case side1 => cC ((Kd.C_below HR0_0.out HB.out))); (case side2 => exact HC0_0.out); rintro e w8 ⟨rfl, hb⟩; refine ⟨_, rfl, ?_⟩; have n0_ := aM (blk_below (g := gb179) (o := .cells #[.slice A0_0 l0_0.length c0_0] 29 (0, 0)) (by (with_reducible repeat (first | refine blk_drewN ?_ _ | refine blk_drew ?_ | refine blk_alloc ?_ _)); exact BK179.out) hb); have n1_ := aM (below_step (by repeat (first | (with_reducible first | exact HB.out | apply below_alloc | apply pw_below_drewN | apply below_drew1 | refine below_set ?_ GE179.out) | exact HB.out)) hb); clear BK179; clear HB; have BK179 := n0_; have HB := n1_; clear n0_ n1_; cX; have hcz9_0 : w8.cell? ⟨gb179, 0, none⟩ = some (.slice A0_0 l0_0.length c0_0) := (blk_cell BK179.out 0).trans rfl; have hfz9_0 := blk_frozen BK179.out 0) | ((with_reducible refine gate_callee (f := 92) rfl ?_); refine goesL_ (some 12) rfl rfl Tryd.func92 (by kernel_rfl) rfl #[.agg #[.slice A0_0 l0_0.length c0_0], .string a1] rfl (by mA) ?_; (with_reducible refine (impl_Lamps_tick.calls _ _ l0_0 a1 t181 _ ?side1 ?side2 A5.out).mono ?_); (case side1 => cC ((Kd.C_below HR0_0.out HB.out))); (case side2 => exact HC0_0.out); rintro e w10 ⟨rfl, hb⟩; refine ⟨_, rfl, ?_⟩; have n0_ := aM (blk_below (g := gb179) (o := .cells #[.slice A0_0 l0_0.length c0_0] 29 (0, 0)) (by (with_reducible repeat (first | refine blk_drewN ?_ _ | refine blk_drew ?_ | refine blk_alloc ?_ _)); exact BK179.out) hb); have n1_ := aM (below_step (by repeat (first | (with_reducible first | exact HB.out | apply below_alloc | apply pw_below_drewN | apply below_drew1 | refine below_set ?_ GE179.out) | exact HB.out)) hb); clear BK179; clear HB; have BK179 := n0_; have HB := n1_; clear n0_ n1_; cX))
  go_ret2
  exact ⟨by eW, by repeat (first | (with_reducible first | exact HB.out | apply below_alloc | apply pw_below_drewN | apply below_drew1 | refine below_set ?_ GE179.out) | exact HB.out)⟩
 ·replace c4 := Bool.eq_false_iff.mpr c4
  subst c4
  rw [if_neg (show ¬ (false = true) by decide)] at H
  simp only [Option.some.injEq, Prod.mk.injEq] at H
  obtain ⟨rfl, rfl⟩ := H
  go_enter Tryd.func32, Tryd.ntmps32
  go_wp2_with (first | ((with_reducible refine gate_dst (N := 2) rfl ?_); refine box_event ?hg (N := 2) ?hd (cs := #[.slice A0_0 l0_0.length c0_0]) (t := 29) ?hr ?_; (case hd => rfl); (case hg => rfl); (case hr => first | (go_simp; done) | (go_simp; rfl)); intro gb179 hg w11 hbox hb; have n0_ := aM (below_step (by bB) hb); have n1_ := aM (hbox); have n2_ := aM ((by rw [hg]; exact (below_size (by bB)) : w.heap.size ≤ gb179)); have n3_ := aM ((by rw [hg]; exact (below_size (by bB)) : w.heap.size ≤ gb179)); clear HB; have HB := n0_; have BK179 := n1_; have GW179 := n2_; have GE179 := n3_; clear n0_ n1_ n2_ n3_; clear hb hbox hg; have hcz12_0 : w11.cell? ⟨gb179, 0, none⟩ = some (.slice A0_0 l0_0.length c0_0) := (blk_cell BK179.out 0).trans rfl; have hfz12_0 := blk_frozen BK179.out 0) | ((with_reducible refine gate_callee (f := 108) rfl ?_); refine goesL_ (some 8) rfl rfl Tryd.func108 (by kernel_rfl) rfl #[.agg #[.slice A0_0 l0_0.length c0_0], .string a1] rfl (by mA) ?_; (with_reducible refine (impl_Lamps_lit.calls _ _ l0_0 a1 false _ ?side1 ?side2 A3.out).mono ?_); (case side1 => cC ((Kd.C_below HR0_0.out HB.out))); (case side2 => exact HC0_0.out); rintro e w13 ⟨rfl, hb⟩; refine ⟨_, rfl, ?_⟩; have n0_ := aM (blk_below (g := gb179) (o := .cells #[.slice A0_0 l0_0.length c0_0] 29 (0, 0)) (by (with_reducible repeat (first | refine blk_drewN ?_ _ | refine blk_drew ?_ | refine blk_alloc ?_ _)); exact BK179.out) hb); have n1_ := aM (below_step (by repeat (first | (with_reducible first | exact HB.out | apply below_alloc | apply pw_below_drewN | apply below_drew1 | refine below_set ?_ GE179.out) | exact HB.out)) hb); clear BK179; clear HB; have BK179 := n0_; have HB := n1_; clear n0_ n1_; cX))
  go_ret2
  exact ⟨by eW, by repeat (first | (with_reducible first | exact HB.out | apply below_alloc | apply pw_below_drewN | apply below_drew1 | refine below_set ?_ GE179.out) | exact HB.out)⟩

/-! ### slices_Index_string_string: function 93 -/
def slices_Index_string_string.l0 : Nat → List ByteArray → ByteArray → Int → Int → Option (Int)
 | 0, _, _, _, _ => none
 | k + 1, x0, x1, x7, x8 => if x8 < x7 then (if 0 ≤ x8 then (if x8 < (x0.length : Int) then (if x1.toList = (rdOf ByteArray.empty x0 x8).toList then (some x8) else (slices_Index_string_string.l0 k x0 x1 x7 (wrap64 (x8 + 1)))) else (none)) else (none)) else (some (-1))
def slices_Index_string_string.f (k : Nat) (l0 : List ByteArray) (a1 : ByteArray) : Option (Int) := slices_Index_string_string.l0 k l0 a1 (l0.length : Int) 0
theorem slices_Index_string_string.mono_l : ∀ k, (∀ y0 y1 y2 y3, LeO (slices_Index_string_string.l0 k y0 y1 y2 y3) (slices_Index_string_string.l0 (k + 1) y0 y1 y2 y3))
 | 0 => fun _ _ _ _ r h => by simp [slices_Index_string_string.l0] at h
 | k + 1 => by
  have ih0 := slices_Index_string_string.mono_l k
  ·intro y0 y1 y2 y3
   unfold slices_Index_string_string.l0
   repeat' first
   | wE ih0 _ _ _ _
   | wE LeO.refl _
   | wE LeO.none _
   | wR LeO.ite ?_ ?_
   | wR LeO.bind ?_ (fun _ => ?_)
   | exact ih0 _ _ _ _
   | exact LeO.none _
   | refine LeO.ite ?_ ?_
   | refine LeO.bind ?_ (fun _ => ?_)
theorem slices_Index_string_string.mono : ∀ a0 a1 k, LeO (slices_Index_string_string.f k a0 a1) (slices_Index_string_string.f (k + 1) a0 a1) := by
 intro a0 a1 k
 have ih0 := slices_Index_string_string.mono_l k
 unfold slices_Index_string_string.f
 repeat' first
   | wE ih0 _ _ _ _
   | wE LeO.refl _
   | wE LeO.none _
   | wR LeO.ite ?_ ?_
   | wR LeO.bind ?_ (fun _ => ?_)
   | exact ih0 _ _ _ _
   | exact LeO.none _
   | refine LeO.ite ?_ ?_
   | refine LeO.bind ?_ (fun _ => ?_)
set_option maxHeartbeats 8000000 in
set_option maxRecDepth 100000 in
theorem slices_Index_string_string.calls (k : Nat) (A0 : Option Addr) (c0 : Nat) (l0 : List ByteArray) (a1 : ByteArray) (r : Int) (w : World) (hr0 : Kd.C Kd.string w A0 l0.length l0) (hc0 : l0.length ≤ c0) (h : slices_Index_string_string.f k l0 a1 = some r) :
  Calls Tryd.prog 93 #[.slice A0 l0.length c0, .string a1] w fun e w' => e = .returned (.int .i64 r) ∧ Drawn0 w w' := by
 have HR0 := aM hr0
 have HC0 := aM hc0
 clear hr0 hc0
 have H : (slices_Index_string_string.l0 k l0 a1 (l0.length : Int) 0) = some r := h
 clear h
 have H' := aM H
 clear H
 go_enter Tryd.func93, Tryd.ntmps93
 go_wp2
 go_loopg [8] k (fun kq v8 w' => ∃ (x8_1 : Int), v8 = .int .i64 x8_1 ∧ Aside0 (slices_Index_string_string.l0 kq l0 a1 (l0.length : Int) x8_1 = some r) ∧ Aside0 (kq ≤ k) ∧ Drawn0 w w')
 case atStart => exact ⟨(0), (by rF), H', ⟨Nat.le_refl _⟩, by repeat (first | exact Drawn0.refl _ | apply Drawn0.step)⟩
 case round =>
  clear H'
  try clear p2
  obtain ⟨x8_1, rfl, HA, HK1, ⟨m1, rfl⟩⟩ := hrel
  cases gk with
  | zero => exact absurd HA.out (by simp [slices_Index_string_string.l0])
  | succ k1 =>
   have H := HA.out
   clear HA
   simp only [slices_Index_string_string.l0] at H
   by_cases c3 : x8_1 < (l0.length : Int)
   ·rw [if_pos c3] at H
    have c3b0 : decide (x8_1 < (l0.length : Int)) = true := decide_eq_true c3
    clear c3
    by_cases c4 : 0 ≤ x8_1
    ·rw [if_pos c4] at H
     have c4b0 : decide (0 ≤ x8_1) = true := decide_eq_true c4
     clear c4
     by_cases c5 : x8_1 < (l0.length : Int)
     ·rw [if_pos c5] at H
      have c5b0 : decide (x8_1 < (l0.length : Int)) = true := decide_eq_true c5
      clear c5
      by_cases c6 : a1.toList = (rdOf ByteArray.empty l0 x8_1).toList
      ·rw [if_pos c6] at H
       have c6b0 : (a1.toList == (rdOf ByteArray.empty l0 x8_1).toList) = true := beq_iff_eq.mpr c6
       have c6b1 : (a1.toList != (rdOf ByteArray.empty l0 x8_1).toList) = false := bne_eq_false_iff_eq.mpr c6
       clear c6
       obtain rfl := Option.some.inj H
       have p182 : 0 ≤ (x8_1 : Int) := of_decide_eq_true (by first | (with_reducible assumption) | assumption)
       have q182 : x8_1 < (l0.length : Int) := of_decide_eq_true (by first | (with_reducible assumption) | assumption)
       obtain ⟨ad182, e182, hx182_0⟩ := Kd.at_string HR0.out x8_1 p182 q182
       cases e182
       replace p182 := eq_true p182
       replace q182 := eq_true q182
       go_wp2
       go_ret
       exact ⟨by rF, by repeat (first | exact Drawn0.refl _ | apply Drawn0.step)⟩
      ·rw [if_neg c6] at H
       have c6b0 : (a1.toList == (rdOf ByteArray.empty l0 x8_1).toList) = false := beq_eq_false_iff_ne.mpr c6
       have c6b1 : (a1.toList != (rdOf ByteArray.empty l0 x8_1).toList) = true := bne_iff_ne.mpr c6
       have H' := aM H
       clear H
       have p182 : 0 ≤ (x8_1 : Int) := of_decide_eq_true (by first | (with_reducible assumption) | assumption)
       have q182 : x8_1 < (l0.length : Int) := of_decide_eq_true (by first | (with_reducible assumption) | assumption)
       obtain ⟨ad182, e182, hx182_0⟩ := Kd.at_string HR0.out x8_1 p182 q182
       cases e182
       replace p182 := eq_true p182
       replace q182 := eq_true q182
       go_wp2
       go_roundg k1
       case measure => mO
       case rel => exact ⟨(wrap64 (x8_1 + 1)), (by rF), H', ⟨by mO⟩, by repeat (first | exact Drawn0.refl _ | apply Drawn0.step)⟩
     ·rw [if_neg c5] at H
      exact absurd H (by simp)
    ·rw [if_neg c4] at H
     exact absurd H (by simp)
   ·rw [if_neg c3] at H
    have c3b0 : decide (x8_1 < (l0.length : Int)) = false := decide_eq_false c3
    clear c3
    obtain rfl := Option.some.inj H
    go_wp2
    go_ret
    exact ⟨by rF, by repeat (first | exact Drawn0.refl _ | apply Drawn0.step)⟩

end Go.Proofs.YtifdgebdkhdmhaaDoor.PLTick
