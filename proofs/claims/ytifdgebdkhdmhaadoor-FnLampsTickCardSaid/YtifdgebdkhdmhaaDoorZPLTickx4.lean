-- PRINTED by drive.py (a program of this session's, over the kit's print.py; wip/tools/drive.py). Lean checks it.
import Derived.Test.YtifdgebdkhdmhaaDoorZSq
import Derived.Test.YtifdgebdkhdmhaaDoorZPLTickx0
import Derived.Test.YtifdgebdkhdmhaaDoorZPLTickx1
namespace Go.Proofs.YtifdgebdkhdmhaaDoor.PLTick
open Go.RowKit Go.Proofs.YtifdgebdkhdmhaaDoorW.PrintWords Go.Proofs.YtifdgebdkhdmhaaDoorW.PrintLast Go.Proofs.YtifdgebdkhdmhaaDoorW.PrintMore
attribute [local go_sem] max2_int min2_int max_two min_two max_three min_three max_four min_four   -- for this text's walks alone
set_option linter.unusedVariables false
set_option linter.unusedSimpArgs false

/-! ### impl_TimesChanging: function 27 -/
mutual
def impl_TimesChanging.j0 : Nat → ByteArray → Int → Bool → List ByteArray → Option (List Int × Bool)
 | 0, _, _, _, _ => none
 | k + 1, x1, x2, x24, x148000 => if x24 = true then (some (([] : List Int), false)) else ((impl_Lamps_course.f x148000 x1).bind fun bt150 => (if 0 ≤ (x1.size : Int) then (if ((x1.size : Int) : Int).toNat ≤ 35184372088832 then (impl_TimesChanging.l0 k x2 bt150.1 bt150.2 (List.replicate ((x1.size : Int) : Int).toNat 0) bt150.1 (bt150.1.length : Int) 0 x148000) else (none)) else (none)))
def impl_TimesChanging.l0 : Nat → Int → List ByteArray → Int → List Int → List ByteArray → Int → Int → List ByteArray → Option (List Int × Bool)
 | 0, _, _, _, _, _, _, _, _ => none
 | k + 1, x2, x8, x9, x10, x34, x35, x36, x148000 => if x36 < x35 then (if 0 ≤ x36 then (if x36 < (x34.length : Int) then (if x36 ≥ x2 then (impl_TimesChanging.j2 k x2 x8 x9 x10 (rdOf ByteArray.empty x34 x36) 0 x34 x35 x36 x148000) else (if x36 < x9 then (impl_TimesChanging.j2 k x2 x8 x9 x10 (rdOf ByteArray.empty x34 x36) 1 x34 x35 x36 x148000) else (if (wrap64 ((x8.length : Int) - x9)) = 0 then (none) else (impl_TimesChanging.j2 k x2 x8 x9 x10 (rdOf ByteArray.empty x34 x36) (wrap64 ((wrap64 (Int.tdiv (wrap64 ((wrap64 (x2 - 1)) - x36)) (wrap64 ((x8.length : Int) - x9)))) + 1)) x34 x35 x36 x148000)))) else (none)) else (none)) else (some (x10, true))
def impl_TimesChanging.j2 : Nat → Int → List ByteArray → Int → List Int → ByteArray → Int → List ByteArray → Int → Int → List ByteArray → Option (List Int × Bool)
 | 0, _, _, _, _, _, _, _, _, _, _ => none
 | k + 1, x2, x8, x9, x10, x12, x13, x34, x35, x36, x148000 => (impl_Lamps_tick.f x148000 x12).bind fun t158 => (impl_TimesChanging.l1 k x2 x8 x9 x10 x12 x13 t158 x34 x35 x36 (x10.length : Int) 0 x148000)
def impl_TimesChanging.l1 : Nat → Int → List ByteArray → Int → List Int → ByteArray → Int → ByteArray → List ByteArray → Int → Int → Int → Int → List ByteArray → Option (List Int × Bool)
 | 0, _, _, _, _, _, _, _, _, _, _, _, _, _ => none
 | k + 1, x2, x8, x9, x10, x12, x13, x14, x34, x35, x36, x63, x64, x148000 => if x64 < x63 then (if 0 ≤ x64 then (if x64 < (x14.size : Int) then (if x64 < (x12.size : Int) then (if (bt x14 x64) = (bt x12 x64) then (impl_TimesChanging.l1 k x2 x8 x9 x10 x12 x13 x14 x34 x35 x36 x63 (wrap64 (x64 + 1)) x148000) else (if x64 < (x10.length : Int) then (impl_TimesChanging.l1 k x2 x8 x9 (x10.set (x64 : Int).toNat (wrap64 ((rd x10 x64) + x13))) x12 x13 x14 x34 x35 x36 x63 (wrap64 (x64 + 1)) x148000) else (none))) else (none)) else (none)) else (none)) else (impl_TimesChanging.l0 k x2 x8 x9 x10 x34 x35 (wrap64 (x36 + 1)) x148000)
end
def impl_TimesChanging.f (k : Nat) (l0_0 : List ByteArray) (a1 : ByteArray) (a2 : Int) : Option (List Int × Bool) := (impl_Lamps_lit.f l0_0 a1).bind fun t148 => (if t148 = true then ((impl_isTicks.f a2).bind fun t149 => (impl_TimesChanging.j0 k a1 a2 (!t149) l0_0)) else (impl_TimesChanging.j0 k a1 a2 true l0_0))
theorem impl_TimesChanging.mono_l : ∀ k, (∀ y0 y1 y2 y3, LeO (impl_TimesChanging.j0 k y0 y1 y2 y3) (impl_TimesChanging.j0 (k + 1) y0 y1 y2 y3)) ∧ (∀ y0 y1 y2 y3 y4 y5 y6 y7, LeO (impl_TimesChanging.l0 k y0 y1 y2 y3 y4 y5 y6 y7) (impl_TimesChanging.l0 (k + 1) y0 y1 y2 y3 y4 y5 y6 y7)) ∧ (∀ y0 y1 y2 y3 y4 y5 y6 y7 y8 y9, LeO (impl_TimesChanging.j2 k y0 y1 y2 y3 y4 y5 y6 y7 y8 y9) (impl_TimesChanging.j2 (k + 1) y0 y1 y2 y3 y4 y5 y6 y7 y8 y9)) ∧ (∀ y0 y1 y2 y3 y4 y5 y6 y7 y8 y9 y10 y11 y12, LeO (impl_TimesChanging.l1 k y0 y1 y2 y3 y4 y5 y6 y7 y8 y9 y10 y11 y12) (impl_TimesChanging.l1 (k + 1) y0 y1 y2 y3 y4 y5 y6 y7 y8 y9 y10 y11 y12))
 | 0 => ⟨fun _ _ _ _ r h => by simp [impl_TimesChanging.j0] at h, fun _ _ _ _ _ _ _ _ r h => by simp [impl_TimesChanging.l0] at h, fun _ _ _ _ _ _ _ _ _ _ r h => by simp [impl_TimesChanging.j2] at h, fun _ _ _ _ _ _ _ _ _ _ _ _ _ r h => by simp [impl_TimesChanging.l1] at h⟩
 | k + 1 => by
  obtain ⟨ih0, ih1, ih2, ih3⟩ := impl_TimesChanging.mono_l k
  refine ⟨?_, ?_, ?_, ?_⟩
  ·intro y0 y1 y2 y3
   unfold impl_TimesChanging.j0
   repeat' first
   | wE ih0 _ _ _ _
   | wE ih1 _ _ _ _ _ _ _ _
   | wE ih2 _ _ _ _ _ _ _ _ _ _
   | wE ih3 _ _ _ _ _ _ _ _ _ _ _ _ _
   | wE LeO.refl _
   | wE LeO.none _
   | wR LeO.ite ?_ ?_
   | wR LeO.bind ?_ (fun _ => ?_)
   | exact ih0 _ _ _ _
   | exact ih1 _ _ _ _ _ _ _ _
   | exact ih2 _ _ _ _ _ _ _ _ _ _
   | exact ih3 _ _ _ _ _ _ _ _ _ _ _ _ _
   | exact LeO.none _
   | refine LeO.ite ?_ ?_
   | refine LeO.bind ?_ (fun _ => ?_)
  ·intro y0 y1 y2 y3 y4 y5 y6 y7
   unfold impl_TimesChanging.l0
   repeat' first
   | wE ih0 _ _ _ _
   | wE ih1 _ _ _ _ _ _ _ _
   | wE ih2 _ _ _ _ _ _ _ _ _ _
   | wE ih3 _ _ _ _ _ _ _ _ _ _ _ _ _
   | wE LeO.refl _
   | wE LeO.none _
   | wR LeO.ite ?_ ?_
   | wR LeO.bind ?_ (fun _ => ?_)
   | exact ih0 _ _ _ _
   | exact ih1 _ _ _ _ _ _ _ _
   | exact ih2 _ _ _ _ _ _ _ _ _ _
   | exact ih3 _ _ _ _ _ _ _ _ _ _ _ _ _
   | exact LeO.none _
   | refine LeO.ite ?_ ?_
   | refine LeO.bind ?_ (fun _ => ?_)
  ·intro y0 y1 y2 y3 y4 y5 y6 y7 y8 y9
   unfold impl_TimesChanging.j2
   repeat' first
   | wE ih0 _ _ _ _
   | wE ih1 _ _ _ _ _ _ _ _
   | wE ih2 _ _ _ _ _ _ _ _ _ _
   | wE ih3 _ _ _ _ _ _ _ _ _ _ _ _ _
   | wE LeO.refl _
   | wE LeO.none _
   | wR LeO.ite ?_ ?_
   | wR LeO.bind ?_ (fun _ => ?_)
   | exact ih0 _ _ _ _
   | exact ih1 _ _ _ _ _ _ _ _
   | exact ih2 _ _ _ _ _ _ _ _ _ _
   | exact ih3 _ _ _ _ _ _ _ _ _ _ _ _ _
   | exact LeO.none _
   | refine LeO.ite ?_ ?_
   | refine LeO.bind ?_ (fun _ => ?_)
  ·intro y0 y1 y2 y3 y4 y5 y6 y7 y8 y9 y10 y11 y12
   unfold impl_TimesChanging.l1
   repeat' first
   | wE ih0 _ _ _ _
   | wE ih1 _ _ _ _ _ _ _ _
   | wE ih2 _ _ _ _ _ _ _ _ _ _
   | wE ih3 _ _ _ _ _ _ _ _ _ _ _ _ _
   | wE LeO.refl _
   | wE LeO.none _
   | wR LeO.ite ?_ ?_
   | wR LeO.bind ?_ (fun _ => ?_)
   | exact ih0 _ _ _ _
   | exact ih1 _ _ _ _ _ _ _ _
   | exact ih2 _ _ _ _ _ _ _ _ _ _
   | exact ih3 _ _ _ _ _ _ _ _ _ _ _ _ _
   | exact LeO.none _
   | refine LeO.ite ?_ ?_
   | refine LeO.bind ?_ (fun _ => ?_)
theorem impl_TimesChanging.mono : ∀ a0 a1 a2 k, LeO (impl_TimesChanging.f k a0 a1 a2) (impl_TimesChanging.f (k + 1) a0 a1 a2) := by
 intro a0 a1 a2 k
 obtain ⟨ih0, ih1, ih2, ih3⟩ := impl_TimesChanging.mono_l k
 unfold impl_TimesChanging.f
 repeat' first
   | wE ih0 _ _ _ _
   | wE ih1 _ _ _ _ _ _ _ _
   | wE ih2 _ _ _ _ _ _ _ _ _ _
   | wE ih3 _ _ _ _ _ _ _ _ _ _ _ _ _
   | wE LeO.refl _
   | wE LeO.none _
   | wR LeO.ite ?_ ?_
   | wR LeO.bind ?_ (fun _ => ?_)
   | exact ih0 _ _ _ _
   | exact ih1 _ _ _ _ _ _ _ _
   | exact ih2 _ _ _ _ _ _ _ _ _ _
   | exact ih3 _ _ _ _ _ _ _ _ _ _ _ _ _
   | exact LeO.none _
   | refine LeO.ite ?_ ?_
   | refine LeO.bind ?_ (fun _ => ?_)
set_option maxHeartbeats 8000000 in
set_option maxRecDepth 100000 in
theorem impl_TimesChanging.calls (k : Nat) (A0_0 : Option Addr) (c0_0 : Nat) (l0_0 : List ByteArray) (a1 : ByteArray) (a2 : Int) (r1 : List Int) (r2 : Bool) (w : World) (hr0_0 : Kd.C Kd.string w A0_0 l0_0.length l0_0) (hc0_0 : l0_0.length ≤ c0_0) (h : impl_TimesChanging.f k l0_0 a1 a2 = some (r1, r2)) :
  Calls Tryd.prog 27 #[.agg #[.slice A0_0 l0_0.length c0_0], .string a1, .int .i64 a2] w fun e w' => ∃ v0_ : Value, e = .returned (.tuple #[v0_, .bool r2]) ∧ Kd.R (Kd.int .i64) 3 w' w.heap.size (fun _ => True) v0_ r1 ∧ Below w.heap.size w w' := by
 have hu29 := Tryd.underlying29
 have HR0_0 := aM hr0_0
 have HC0_0 := aM hc0_0
 clear hr0_0 hc0_0
 have HB := aM (Below.refl w.heap.size w)
 have H : ((impl_Lamps_lit.f l0_0 a1).bind fun t148 => (if t148 = true then ((impl_isTicks.f a2).bind fun t149 => (impl_TimesChanging.j0 k a1 a2 (!t149) l0_0)) else (impl_TimesChanging.j0 k a1 a2 true l0_0))) = some (r1, r2) := h
 clear h
 have HC4 := aM H
 clear H
 go_enter Tryd.func27, Tryd.ntmps27
 go_upto_region 1 with (first | ((with_reducible refine gate_dst (N := 3) rfl ?_); refine box_event ?hg (N := 3) ?hd (cs := #[.slice A0_0 l0_0.length c0_0]) (t := 29) ?hr ?_; (case hd => rfl); (case hg => rfl); (case hr => first | (go_simp; done) | (go_simp; rfl)); intro gb147 hg w5 hbox hb; have n0_ := aM (below_step (by bB) hb); have n1_ := aM (hbox); have n2_ := aM ((by rw [hg]; exact (below_size (by bB)) : w.heap.size ≤ gb147)); have n3_ := aM ((by rw [hg]; exact (below_size (by bB)) : w.heap.size ≤ gb147)); clear HB; have HB := n0_; have BK147 := n1_; have GW147 := n2_; have GE147 := n3_; clear n0_ n1_ n2_ n3_; clear hb hbox hg))
 repeat (go_quiet (first | ((with_reducible refine gate_dst (N := 3) rfl ?_); refine box_event ?hg (N := 3) ?hd (cs := #[.slice A0_0 l0_0.length c0_0]) (t := 29) ?hr ?_; (case hd => rfl); (case hg => rfl); (case hr => first | (go_simp; done) | (go_simp; rfl)); intro gb147 hg w5 hbox hb; have n0_ := aM (below_step (by bB) hb); have n1_ := aM (hbox); have n2_ := aM ((by rw [hg]; exact (below_size (by bB)) : w.heap.size ≤ gb147)); have n3_ := aM ((by rw [hg]; exact (below_size (by bB)) : w.heap.size ≤ gb147)); clear HB; have HB := n0_; have BK147 := n1_; have GW147 := n2_; have GE147 := n3_; clear n0_ n1_ n2_ n3_; clear hb hbox hg)); go_upto_region 1 with (first | ((with_reducible refine gate_dst (N := 3) rfl ?_); refine box_event ?hg (N := 3) ?hd (cs := #[.slice A0_0 l0_0.length c0_0]) (t := 29) ?hr ?_; (case hd => rfl); (case hg => rfl); (case hr => first | (go_simp; done) | (go_simp; rfl)); intro gb147 hg w5 hbox hb; have n0_ := aM (below_step (by bB) hb); have n1_ := aM (hbox); have n2_ := aM ((by rw [hg]; exact (below_size (by bB)) : w.heap.size ≤ gb147)); have n3_ := aM ((by rw [hg]; exact (below_size (by bB)) : w.heap.size ≤ gb147)); clear HB; have HB := n0_; have BK147 := n1_; have GW147 := n2_; have GE147 := n3_; clear n0_ n1_ n2_ n3_; clear hb hbox hg)))
 (try simp only [Act.put, List.setIfInBounds_toArray, List.set_cons_zero, List.set_cons_succ])
 go_cut [24] (fun v24 wc => ∃ (kq : Nat) (x24_3 : Bool), v24 = .bool x24_3 ∧ Aside0 (impl_TimesChanging.j0 kq a1 a2 x24_3 l0_0 = some (r1, r2)) ∧ Aside0 (kq ≤ k) ∧ Aside0 (wc.heap[gb147]? = some (.cells #[(.slice A0_0 l0_0.length c0_0)] 29 (0, 0))) ∧ Aside0 (Below w.heap.size w wc))
 case first =>
  have H := HC4.out
  clear HC4
  replace H := Option.bind_eq_some_iff.mp H
  obtain ⟨t148, A60, H⟩ := H
  replace H : (if t148 = true then ((impl_isTicks.f a2).bind fun t149 => (impl_TimesChanging.j0 k a1 a2 (!t149) l0_0)) else (impl_TimesChanging.j0 k a1 a2 true l0_0)) = some (r1, r2) := H
  have A6 := aM A60
  clear A60
  by_cases c7 : t148 = true
  ·subst c7
   rw [if_pos rfl] at H
   replace H := Option.bind_eq_some_iff.mp H
   obtain ⟨t149, A80, H⟩ := H
   replace H : (impl_TimesChanging.j0 k a1 a2 (!t149) l0_0) = some (r1, r2) := H
   have A8 := aM A80
   clear A80
   have H' := aM H
   clear H
   have hcz9_0 : w5.cell? ⟨gb147, 0, none⟩ = some (.slice A0_0 l0_0.length c0_0) := (blk_cell BK147.out 0).trans rfl
   have hfz9_0 := blk_frozen BK147.out 0
   go_wp2_with (first | (go_at_call 108; (with_reducible refine (impl_Lamps_lit.calls _ _ l0_0 a1 true _ ?side1 ?side2 A6.out).mono ?_); (case side1 => cC ((Kd.C_below HR0_0.out HB.out))); (case side2 => exact HC0_0.out); rintro e w10 ⟨rfl, hb⟩; have n0_ := aM (blk_below (g := gb147) (o := .cells #[.slice A0_0 l0_0.length c0_0] 29 (0, 0)) (by (with_reducible repeat (first | refine blk_drewN ?_ _ | refine blk_drew ?_ | refine blk_alloc ?_ _)); exact BK147.out) hb); have n1_ := aM (below_step (by repeat (first | (with_reducible first | exact HB.out | apply below_alloc | apply pw_below_drewN | apply below_drew1 | refine below_set ?_ GE147.out) | exact HB.out)) hb); clear BK147; clear HB; have BK147 := n0_; have HB := n1_; clear n0_ n1_; cX) | (go_at_call 109; (with_reducible refine (impl_isTicks.calls a2 t149 _ A8.out).mono ?_); rintro e w' ⟨rfl, ⟨nd, rfl⟩⟩; (try first | exact ⟨rfl, _, World.drewN_drewN _ _ _⟩ | exact ⟨rfl, _, Eq.trans (World.drewN_drewN _ _ _) (congrArg (World.drewN _) (Nat.add_assoc _ _ _))⟩)))
   repeat (go_quiet (first | (go_at_call 108; (with_reducible refine (impl_Lamps_lit.calls _ _ l0_0 a1 true _ ?side1 ?side2 A6.out).mono ?_); (case side1 => cC ((Kd.C_below HR0_0.out HB.out))); (case side2 => exact HC0_0.out); rintro e w10 ⟨rfl, hb⟩; have n0_ := aM (blk_below (g := gb147) (o := .cells #[.slice A0_0 l0_0.length c0_0] 29 (0, 0)) (by (with_reducible repeat (first | refine blk_drewN ?_ _ | refine blk_drew ?_ | refine blk_alloc ?_ _)); exact BK147.out) hb); have n1_ := aM (below_step (by repeat (first | (with_reducible first | exact HB.out | apply below_alloc | apply pw_below_drewN | apply below_drew1 | refine below_set ?_ GE147.out) | exact HB.out)) hb); clear BK147; clear HB; have BK147 := n0_; have HB := n1_; clear n0_ n1_; cX) | (go_at_call 109; (with_reducible refine (impl_isTicks.calls a2 t149 _ A8.out).mono ?_); rintro e w' ⟨rfl, ⟨nd, rfl⟩⟩; (try first | exact ⟨rfl, _, World.drewN_drewN _ _ _⟩ | exact ⟨rfl, _, Eq.trans (World.drewN_drewN _ _ _) (congrArg (World.drewN _) (Nat.add_assoc _ _ _))⟩))); try go_wp2_with (first | (go_at_call 108; (with_reducible refine (impl_Lamps_lit.calls _ _ l0_0 a1 true _ ?side1 ?side2 A6.out).mono ?_); (case side1 => cC ((Kd.C_below HR0_0.out HB.out))); (case side2 => exact HC0_0.out); rintro e w10 ⟨rfl, hb⟩; have n0_ := aM (blk_below (g := gb147) (o := .cells #[.slice A0_0 l0_0.length c0_0] 29 (0, 0)) (by (with_reducible repeat (first | refine blk_drewN ?_ _ | refine blk_drew ?_ | refine blk_alloc ?_ _)); exact BK147.out) hb); have n1_ := aM (below_step (by repeat (first | (with_reducible first | exact HB.out | apply below_alloc | apply pw_below_drewN | apply below_drew1 | refine below_set ?_ GE147.out) | exact HB.out)) hb); clear BK147; clear HB; have BK147 := n0_; have HB := n1_; clear n0_ n1_; cX) | (go_at_call 109; (with_reducible refine (impl_isTicks.calls a2 t149 _ A8.out).mono ?_); rintro e w' ⟨rfl, ⟨nd, rfl⟩⟩; (try first | exact ⟨rfl, _, World.drewN_drewN _ _ _⟩ | exact ⟨rfl, _, Eq.trans (World.drewN_drewN _ _ _) (congrArg (World.drewN _) (Nat.add_assoc _ _ _))⟩))))
   go_meet
   case rel => exact ⟨_, (!t149), (by rF), H', ⟨by first | omega | exact Nat.le_refl _⟩, ⟨by (with_reducible repeat (first | refine blk_drewN ?_ _ | refine blk_drew ?_ | refine blk_alloc ?_ _)); exact BK147.out⟩, ⟨by repeat (first | (with_reducible first | exact HB.out | apply below_alloc | apply pw_below_drewN | apply below_drew1 | refine below_set ?_ GE147.out) | exact HB.out)⟩⟩
  ·replace c7 := Bool.eq_false_iff.mpr c7
   subst c7
   rw [if_neg (show ¬ (false = true) by decide)] at H
   have H' := aM H
   clear H
   have hcz11_0 : w5.cell? ⟨gb147, 0, none⟩ = some (.slice A0_0 l0_0.length c0_0) := (blk_cell BK147.out 0).trans rfl
   have hfz11_0 := blk_frozen BK147.out 0
   go_wp2_with (first | (go_at_call 108; (with_reducible refine (impl_Lamps_lit.calls _ _ l0_0 a1 false _ ?side1 ?side2 A6.out).mono ?_); (case side1 => cC ((Kd.C_below HR0_0.out HB.out))); (case side2 => exact HC0_0.out); rintro e w12 ⟨rfl, hb⟩; have n0_ := aM (blk_below (g := gb147) (o := .cells #[.slice A0_0 l0_0.length c0_0] 29 (0, 0)) (by (with_reducible repeat (first | refine blk_drewN ?_ _ | refine blk_drew ?_ | refine blk_alloc ?_ _)); exact BK147.out) hb); have n1_ := aM (below_step (by repeat (first | (with_reducible first | exact HB.out | apply below_alloc | apply pw_below_drewN | apply below_drew1 | refine below_set ?_ GE147.out) | exact HB.out)) hb); clear BK147; clear HB; have BK147 := n0_; have HB := n1_; clear n0_ n1_; cX))
   repeat (go_quiet (first | (go_at_call 108; (with_reducible refine (impl_Lamps_lit.calls _ _ l0_0 a1 false _ ?side1 ?side2 A6.out).mono ?_); (case side1 => cC ((Kd.C_below HR0_0.out HB.out))); (case side2 => exact HC0_0.out); rintro e w12 ⟨rfl, hb⟩; have n0_ := aM (blk_below (g := gb147) (o := .cells #[.slice A0_0 l0_0.length c0_0] 29 (0, 0)) (by (with_reducible repeat (first | refine blk_drewN ?_ _ | refine blk_drew ?_ | refine blk_alloc ?_ _)); exact BK147.out) hb); have n1_ := aM (below_step (by repeat (first | (with_reducible first | exact HB.out | apply below_alloc | apply pw_below_drewN | apply below_drew1 | refine below_set ?_ GE147.out) | exact HB.out)) hb); clear BK147; clear HB; have BK147 := n0_; have HB := n1_; clear n0_ n1_; cX)); try go_wp2_with (first | (go_at_call 108; (with_reducible refine (impl_Lamps_lit.calls _ _ l0_0 a1 false _ ?side1 ?side2 A6.out).mono ?_); (case side1 => cC ((Kd.C_below HR0_0.out HB.out))); (case side2 => exact HC0_0.out); rintro e w12 ⟨rfl, hb⟩; have n0_ := aM (blk_below (g := gb147) (o := .cells #[.slice A0_0 l0_0.length c0_0] 29 (0, 0)) (by (with_reducible repeat (first | refine blk_drewN ?_ _ | refine blk_drew ?_ | refine blk_alloc ?_ _)); exact BK147.out) hb); have n1_ := aM (below_step (by repeat (first | (with_reducible first | exact HB.out | apply below_alloc | apply pw_below_drewN | apply below_drew1 | refine below_set ?_ GE147.out) | exact HB.out)) hb); clear BK147; clear HB; have BK147 := n0_; have HB := n1_; clear n0_ n1_; cX)))
   go_meet
   case rel => exact ⟨_, (true), (by rF), H', ⟨by first | omega | exact Nat.le_refl _⟩, ⟨by (with_reducible repeat (first | refine blk_drewN ?_ _ | refine blk_drew ?_ | refine blk_alloc ?_ _)); exact BK147.out⟩, ⟨by repeat (first | (with_reducible first | exact HB.out | apply below_alloc | apply pw_below_drewN | apply below_drew1 | refine below_set ?_ GE147.out) | exact HB.out)⟩⟩
 case rest =>
  clear HC4
  try clear c2
  try clear p2
  try clear c7
  try clear hcz11_0
  try clear hcz9_0
  try clear hfz11_0
  try clear hfz9_0
  obtain ⟨kq, x24_3, rfl, HA, HJ3, BK147, HB⟩ := hcut
  cases kq with
  | zero => exact absurd HA.out (by simp [impl_TimesChanging.j0])
  | succ kj3 =>
   have H := HA.out
   clear HA
   simp only [impl_TimesChanging.j0] at H
   by_cases c13 : x24_3 = true
   ·subst c13
    rw [if_pos rfl] at H
    simp only [Option.some.injEq, Prod.mk.injEq] at H
    obtain ⟨rfl, rfl⟩ := H
    go_wp2
    repeat (go_quiet (fail); try go_wp2)
    go_ret2
    exact ⟨_, by eW, by first | exact Kd.R_nil _ _ _ _ _ | exact Kd.N_nil _ _ _ _ _ | exact Kd.V_nil _ _ _ _ _ | exact Kd.Q_nil _ _ _ _ _ | exact Kd.S_nil _ _ _ _ _, by repeat (first | (with_reducible first | exact HB.out | apply below_alloc | apply pw_below_drewN | apply below_drew1 | refine below_set ?_ GE147.out) | exact HB.out)⟩
   ·replace c13 := Bool.eq_false_iff.mpr c13
    subst c13
    rw [if_neg (show ¬ (false = true) by decide)] at H
    replace H := Option.bind_eq_some_iff.mp H
    obtain ⟨⟨t150, t153⟩, A140, H⟩ := H
    dsimp only at H
    have A14 := aM A140
    clear A140
    by_cases c15 : 0 ≤ (a1.size : Int)
    ·rw [if_pos c15] at H
     have c15b0 := eq_true c15
     have c15b1 : decide (0 ≤ (a1.size : Int)) = true := decide_eq_true c15
     clear c15
     by_cases c16 : ((a1.size : Int) : Int).toNat ≤ 35184372088832
     ·rw [if_pos c16] at H
      have c16b0 := eq_true c16
      have c16b1 : decide (((a1.size : Int) : Int).toNat ≤ 35184372088832) = true := decide_eq_true c16
      clear c16
      obtain ⟨y154, hy154⟩ : ∃ y_ : List Int, y_ = (List.replicate ((a1.size : Int) : Int).toNat 0) := ⟨_, rfl⟩
      replace H : (impl_TimesChanging.l0 kj3 a2 t150 t153 y154 t150 (t150.length : Int) 0 l0_0) = some (r1, r2) := by fH hy154
      have Ny154 := aM hy154
      clear hy154
      have H' := aM H
      clear H
      have hcz17_0 : wc.cell? ⟨gb147, 0, none⟩ = some (.slice A0_0 l0_0.length c0_0) := (blk_cell BK147.out 0).trans rfl
      have hfz17_0 := blk_frozen BK147.out 0
      go_wp2_with (first | (go_at_call 110; (with_reducible refine (impl_Lamps_course.calls _ _ l0_0 a1 t150 t153 _ ?side1 ?side2 A14.out).mono ?_); (case side1 => cC ((Kd.C_below HR0_0.out HB.out))); (case side2 => exact HC0_0.out); rintro e w18 ⟨v151, rfl, ho0, hb⟩; have n0_ := aM (Kd.R_lower ho0 (below_size (by repeat (first | (with_reducible first | exact HB.out | apply below_alloc | apply pw_below_drewN | apply below_drew1 | refine below_set ?_ GE147.out) | exact HB.out)))); have n1_ := aM (blk_below (g := gb147) (o := .cells #[.slice A0_0 l0_0.length c0_0] 29 (0, 0)) (by (with_reducible repeat (first | refine blk_drewN ?_ _ | refine blk_drew ?_ | refine blk_alloc ?_ _)); exact BK147.out) hb); have n2_ := aM (below_step (by repeat (first | (with_reducible first | exact HB.out | apply below_alloc | apply pw_below_drewN | apply below_drew1 | refine below_set ?_ GE147.out) | exact HB.out)) hb); clear BK147; clear HB; have HO152 := n0_; have BK147 := n1_; have HB := n2_; clear n0_ n1_ n2_; cX; (try clear ho0)) | ((with_reducible refine gate_dst (N := 33) rfl ?_); refine Kd.R_make (Kd.int .i64) _ 3 rfl (N := 33) rfl 46 _ _ rfl (a1.size : Int) rfl rfl Tryd.underlying46 (.int .i64 0) 8 info3 rfl (by decide) (by omega) 0 (ok := fun _ => True) (okp := fun _ => True) rfl (fun _ hk => hk) trivial (of_decide_eq_true (by first | (with_reducible assumption) | assumption)) (Nat.le_trans (Nat.mul_le_mul_right _ (of_decide_eq_true (by first | (with_reducible assumption) | assumption) : (a1.size : Int).toNat ≤ 35184372088832)) (by omega)) (Below.refl _ _) (Nat.le_refl _) ?_; intro v155 w19 ho20 hb hg_ hnew_; clear hg_ hnew_; (first | rw [← Ny154.out] at ho20 | (simp only [Int.reduceToNat] at ho20; rw [← Ny154.out] at ho20)); have n0_ := aM (Kd.R_below (by (rX); exact HO152.out) hb); have n1_ := aM (Kd.R_lower ho20 (below_size (by repeat (first | (with_reducible first | exact HB.out | apply below_alloc | apply pw_below_drewN | apply below_drew1 | refine below_set ?_ GE147.out) | exact HB.out)))); have n2_ := aM (blk_below (g := gb147) (o := .cells #[.slice A0_0 l0_0.length c0_0] 29 (0, 0)) (by (with_reducible repeat (first | refine blk_drewN ?_ _ | refine blk_drew ?_ | refine blk_alloc ?_ _)); exact BK147.out) hb); have n3_ := aM (below_step (by repeat (first | (with_reducible first | exact HB.out | apply below_alloc | apply pw_below_drewN | apply below_drew1 | refine below_set ?_ GE147.out) | exact HB.out)) hb); clear HO152; clear BK147; clear HB; have HO152 := n0_; have HO156 := n1_; have BK147 := n2_; have HB := n3_; clear n0_ n1_ n2_ n3_; clear hb ho20; obtain ⟨Ao21, co21, eo21⟩ := Kd.R_slice HO152.out; subst eo21))
      repeat (go_quiet (first | (go_at_call 110; (with_reducible refine (impl_Lamps_course.calls _ _ l0_0 a1 t150 t153 _ ?side1 ?side2 A14.out).mono ?_); (case side1 => cC ((Kd.C_below HR0_0.out HB.out))); (case side2 => exact HC0_0.out); rintro e w18 ⟨v151, rfl, ho0, hb⟩; have n0_ := aM (Kd.R_lower ho0 (below_size (by repeat (first | (with_reducible first | exact HB.out | apply below_alloc | apply pw_below_drewN | apply below_drew1 | refine below_set ?_ GE147.out) | exact HB.out)))); have n1_ := aM (blk_below (g := gb147) (o := .cells #[.slice A0_0 l0_0.length c0_0] 29 (0, 0)) (by (with_reducible repeat (first | refine blk_drewN ?_ _ | refine blk_drew ?_ | refine blk_alloc ?_ _)); exact BK147.out) hb); have n2_ := aM (below_step (by repeat (first | (with_reducible first | exact HB.out | apply below_alloc | apply pw_below_drewN | apply below_drew1 | refine below_set ?_ GE147.out) | exact HB.out)) hb); clear BK147; clear HB; have HO152 := n0_; have BK147 := n1_; have HB := n2_; clear n0_ n1_ n2_; cX; (try clear ho0)) | ((with_reducible refine gate_dst (N := 33) rfl ?_); refine Kd.R_make (Kd.int .i64) _ 3 rfl (N := 33) rfl 46 _ _ rfl (a1.size : Int) rfl rfl Tryd.underlying46 (.int .i64 0) 8 info3 rfl (by decide) (by omega) 0 (ok := fun _ => True) (okp := fun _ => True) rfl (fun _ hk => hk) trivial (of_decide_eq_true (by first | (with_reducible assumption) | assumption)) (Nat.le_trans (Nat.mul_le_mul_right _ (of_decide_eq_true (by first | (with_reducible assumption) | assumption) : (a1.size : Int).toNat ≤ 35184372088832)) (by omega)) (Below.refl _ _) (Nat.le_refl _) ?_; intro v155 w19 ho20 hb hg_ hnew_; clear hg_ hnew_; (first | rw [← Ny154.out] at ho20 | (simp only [Int.reduceToNat] at ho20; rw [← Ny154.out] at ho20)); have n0_ := aM (Kd.R_below (by (rX); exact HO152.out) hb); have n1_ := aM (Kd.R_lower ho20 (below_size (by repeat (first | (with_reducible first | exact HB.out | apply below_alloc | apply pw_below_drewN | apply below_drew1 | refine below_set ?_ GE147.out) | exact HB.out)))); have n2_ := aM (blk_below (g := gb147) (o := .cells #[.slice A0_0 l0_0.length c0_0] 29 (0, 0)) (by (with_reducible repeat (first | refine blk_drewN ?_ _ | refine blk_drew ?_ | refine blk_alloc ?_ _)); exact BK147.out) hb); have n3_ := aM (below_step (by repeat (first | (with_reducible first | exact HB.out | apply below_alloc | apply pw_below_drewN | apply below_drew1 | refine below_set ?_ GE147.out) | exact HB.out)) hb); clear HO152; clear BK147; clear HB; have HO152 := n0_; have HO156 := n1_; have BK147 := n2_; have HB := n3_; clear n0_ n1_ n2_ n3_; clear hb ho20; obtain ⟨Ao21, co21, eo21⟩ := Kd.R_slice HO152.out; subst eo21)); try go_wp2_with (first | (go_at_call 110; (with_reducible refine (impl_Lamps_course.calls _ _ l0_0 a1 t150 t153 _ ?side1 ?side2 A14.out).mono ?_); (case side1 => cC ((Kd.C_below HR0_0.out HB.out))); (case side2 => exact HC0_0.out); rintro e w18 ⟨v151, rfl, ho0, hb⟩; have n0_ := aM (Kd.R_lower ho0 (below_size (by repeat (first | (with_reducible first | exact HB.out | apply below_alloc | apply pw_below_drewN | apply below_drew1 | refine below_set ?_ GE147.out) | exact HB.out)))); have n1_ := aM (blk_below (g := gb147) (o := .cells #[.slice A0_0 l0_0.length c0_0] 29 (0, 0)) (by (with_reducible repeat (first | refine blk_drewN ?_ _ | refine blk_drew ?_ | refine blk_alloc ?_ _)); exact BK147.out) hb); have n2_ := aM (below_step (by repeat (first | (with_reducible first | exact HB.out | apply below_alloc | apply pw_below_drewN | apply below_drew1 | refine below_set ?_ GE147.out) | exact HB.out)) hb); clear BK147; clear HB; have HO152 := n0_; have BK147 := n1_; have HB := n2_; clear n0_ n1_ n2_; cX; (try clear ho0)) | ((with_reducible refine gate_dst (N := 33) rfl ?_); refine Kd.R_make (Kd.int .i64) _ 3 rfl (N := 33) rfl 46 _ _ rfl (a1.size : Int) rfl rfl Tryd.underlying46 (.int .i64 0) 8 info3 rfl (by decide) (by omega) 0 (ok := fun _ => True) (okp := fun _ => True) rfl (fun _ hk => hk) trivial (of_decide_eq_true (by first | (with_reducible assumption) | assumption)) (Nat.le_trans (Nat.mul_le_mul_right _ (of_decide_eq_true (by first | (with_reducible assumption) | assumption) : (a1.size : Int).toNat ≤ 35184372088832)) (by omega)) (Below.refl _ _) (Nat.le_refl _) ?_; intro v155 w19 ho20 hb hg_ hnew_; clear hg_ hnew_; (first | rw [← Ny154.out] at ho20 | (simp only [Int.reduceToNat] at ho20; rw [← Ny154.out] at ho20)); have n0_ := aM (Kd.R_below (by (rX); exact HO152.out) hb); have n1_ := aM (Kd.R_lower ho20 (below_size (by repeat (first | (with_reducible first | exact HB.out | apply below_alloc | apply pw_below_drewN | apply below_drew1 | refine below_set ?_ GE147.out) | exact HB.out)))); have n2_ := aM (blk_below (g := gb147) (o := .cells #[.slice A0_0 l0_0.length c0_0] 29 (0, 0)) (by (with_reducible repeat (first | refine blk_drewN ?_ _ | refine blk_drew ?_ | refine blk_alloc ?_ _)); exact BK147.out) hb); have n3_ := aM (below_step (by repeat (first | (with_reducible first | exact HB.out | apply below_alloc | apply pw_below_drewN | apply below_drew1 | refine below_set ?_ GE147.out) | exact HB.out)) hb); clear HO152; clear BK147; clear HB; have HO152 := n0_; have HO156 := n1_; have BK147 := n2_; have HB := n3_; clear n0_ n1_ n2_ n3_; clear hb ho20; obtain ⟨Ao21, co21, eo21⟩ := Kd.R_slice HO152.out; subst eo21)))
      go_loopg [36] kj3 (fun kq v36 w' => ∃ (x10_2 : List Int) (x36_2 : Int), v36 = .int .i64 x36_2 ∧ Aside0 (impl_TimesChanging.l0 kq a2 t150 t153 x10_2 t150 (t150.length : Int) x36_2 l0_0 = some (r1, r2)) ∧ Aside0 (kq ≤ kj3) ∧ Aside0 (Kd.R Kd.string 9 w' w.heap.size (fun _ => True) (.slice Ao21 t150.length co21) t150) ∧ Aside0 (Kd.R (Kd.int .i64) 3 w' w.heap.size (fun _ => True) v155 x10_2) ∧ Aside0 (Kd.R Kd.string 9 w' w.heap.size (fun _ => True) (.slice Ao21 t150.length co21) t150) ∧ Aside0 (w'.heap[gb147]? = some (.cells #[(.slice A0_0 l0_0.length c0_0)] 29 (0, 0))) ∧ Aside0 (Below w.heap.size w w'))
      case atStart => exact ⟨(y154), (0), (by rF), H', ⟨Nat.le_refl _⟩, ⟨by (rX); exact HO152.out⟩, ⟨by (rX); exact HO156.out⟩, ⟨by (rX); exact HO152.out⟩, ⟨by (with_reducible repeat (first | refine blk_drewN ?_ _ | refine blk_drew ?_ | refine blk_alloc ?_ _)); exact BK147.out⟩, ⟨by repeat (first | (with_reducible first | exact HB.out | apply below_alloc | apply pw_below_drewN | apply below_drew1 | refine below_set ?_ GE147.out) | exact HB.out)⟩⟩
      case round =>
       clear H'
       try clear c1
       try clear c2
       try clear p2
       try clear c7
       try clear c13
       try clear c15
       try clear c15b0
       try clear c15b1
       try clear c16
       try clear c16b0
       try clear c16b1
       try clear hcz11_0
       try clear hcz17_0
       try clear hcz9_0
       try clear hfz11_0
       try clear hfz17_0
       try clear hfz9_0
       try clear p2
       obtain ⟨x10_2, x36_2, rfl, HA, HK2, HO_8, HO_10, HO_34, BK147, HB⟩ := hrel
       cases gk with
       | zero => exact absurd HA.out (by simp [impl_TimesChanging.l0])
       | succ k2 =>
        have H := HA.out
        clear HA
        simp only [impl_TimesChanging.l0] at H
        by_cases c22 : x36_2 < (t150.length : Int)
        ·rw [if_pos c22] at H
         have c22b0 : decide (x36_2 < (t150.length : Int)) = true := decide_eq_true c22
         clear c22
         by_cases c23 : 0 ≤ x36_2
         ·rw [if_pos c23] at H
          have c23b0 : decide (0 ≤ x36_2) = true := decide_eq_true c23
          clear c23
          by_cases c24 : x36_2 < (t150.length : Int)
          ·rw [if_pos c24] at H
           have c24b0 : decide (x36_2 < (t150.length : Int)) = true := decide_eq_true c24
           clear c24
           have HC25 := aM H
           clear H
           have p157 : 0 ≤ (x36_2 : Int) := of_decide_eq_true (by first | (with_reducible assumption) | assumption)
           have q157 : x36_2 < (t150.length : Int) := of_decide_eq_true (by first | (with_reducible assumption) | assumption)
           obtain ⟨ad157, e157, hx157_0⟩ := Kd.at_string (Kd.R_reads' HO_34.out).2.2 x36_2 p157 q157
           cases e157
           replace p157 := eq_true p157
           replace q157 := eq_true q157
           go_upto_block 2 with (fail)
           repeat (go_quiet (fail); go_upto_block 2 with (fail))
           go_cut [13] (fun v13 wc => ∃ (kq : Nat) (x13_24 : Int), v13 = .int .i64 x13_24 ∧ Aside0 (impl_TimesChanging.j2 kq a2 t150 t153 x10_2 (rdOf ByteArray.empty t150 x36_2) x13_24 t150 (t150.length : Int) x36_2 l0_0 = some (r1, r2)) ∧ Aside0 (kq ≤ k2) ∧ Aside0 (Kd.R Kd.string 9 wc w.heap.size (fun _ => True) (.slice (some ad157) t150.length co21) t150) ∧ Aside0 (Kd.R (Kd.int .i64) 3 wc w.heap.size (fun _ => True) v155 x10_2) ∧ Aside0 (Kd.R Kd.string 9 wc w.heap.size (fun _ => True) (.slice (some ad157) t150.length co21) t150) ∧ Aside0 (wc.heap[gb147]? = some (.cells #[(.slice A0_0 l0_0.length c0_0)] 29 (0, 0))) ∧ Aside0 (Below w.heap.size w wc))
           case first =>
            have H := HC25.out
            clear HC25
            by_cases c26 : x36_2 ≥ a2
            ·rw [if_pos c26] at H
             have c26b0 : decide (a2 ≤ x36_2) = true := decide_eq_true c26
             clear c26
             (first | rw [c26b0] | (simp only [i64_w, i32_w]; rw [c26b0]) | skip)
             have H' := aM H
             clear H
             go_wp2
             repeat (go_quiet (fail); try go_wp2)
             go_meet
             case rel => exact ⟨_, (0), (by rF), H', ⟨by have := HJ3.out; have := HK2.out; first | omega | exact Nat.le_refl _⟩, ⟨by (rX); exact HO_8.out⟩, ⟨by (rX); exact HO_10.out⟩, ⟨by (rX); exact HO_34.out⟩, ⟨by (with_reducible repeat (first | refine blk_drewN ?_ _ | refine blk_drew ?_ | refine blk_alloc ?_ _)); exact BK147.out⟩, ⟨by repeat (first | (with_reducible first | exact HB.out | apply below_alloc | apply pw_below_drewN | apply below_drew1 | refine below_set ?_ GE147.out) | exact HB.out)⟩⟩
            ·rw [if_neg c26] at H
             have c26b0 : decide (a2 ≤ x36_2) = false := decide_eq_false c26
             clear c26
             (first | rw [c26b0] | (simp only [i64_w, i32_w]; rw [c26b0]) | skip)
             by_cases c27 : x36_2 < t153
             ·rw [if_pos c27] at H
              have c27b0 : decide (x36_2 < t153) = true := decide_eq_true c27
              clear c27
              have H' := aM H
              clear H
              go_wp2
              repeat (go_quiet (fail); try go_wp2)
              go_meet
              case rel => exact ⟨_, (1), (by rF), H', ⟨by have := HJ3.out; have := HK2.out; first | omega | exact Nat.le_refl _⟩, ⟨by (rX); exact HO_8.out⟩, ⟨by (rX); exact HO_10.out⟩, ⟨by (rX); exact HO_34.out⟩, ⟨by (with_reducible repeat (first | refine blk_drewN ?_ _ | refine blk_drew ?_ | refine blk_alloc ?_ _)); exact BK147.out⟩, ⟨by repeat (first | (with_reducible first | exact HB.out | apply below_alloc | apply pw_below_drewN | apply below_drew1 | refine below_set ?_ GE147.out) | exact HB.out)⟩⟩
             ·rw [if_neg c27] at H
              have c27b0 : decide (x36_2 < t153) = false := decide_eq_false c27
              clear c27
              by_cases c28 : (wrap64 ((t150.length : Int) - t153)) = 0
              ·rw [if_pos c28] at H
               exact absurd H (by simp)
              ·rw [if_neg c28] at H
               have c28b0 : ((wrap64 ((t150.length : Int) - t153)) == 0) = false := beq_eq_false_iff_ne.mpr c28
               have c28b1 : ((wrap64 ((t150.length : Int) - t153)) != 0) = true := bne_iff_ne.mpr c28
               have H' := aM H
               clear H
               go_wp2
               repeat (go_quiet (fail); try go_wp2)
               go_meet
               case rel => exact ⟨_, (wrap64 ((wrap64 (Int.tdiv (wrap64 ((wrap64 (a2 - 1)) - x36_2)) (wrap64 ((t150.length : Int) - t153)))) + 1)), (by rF), H', ⟨by have := HJ3.out; have := HK2.out; first | omega | exact Nat.le_refl _⟩, ⟨by (rX); exact HO_8.out⟩, ⟨by (rX); exact HO_10.out⟩, ⟨by (rX); exact HO_34.out⟩, ⟨by (with_reducible repeat (first | refine blk_drewN ?_ _ | refine blk_drew ?_ | refine blk_alloc ?_ _)); exact BK147.out⟩, ⟨by repeat (first | (with_reducible first | exact HB.out | apply below_alloc | apply pw_below_drewN | apply below_drew1 | refine below_set ?_ GE147.out) | exact HB.out)⟩⟩
           case rest =>
            clear HC25
            try clear c1
            try clear p1
            try clear q1
            try clear hx1
            try clear c2
            try clear p2
            try clear p6
            try clear c7
            try clear c13
            try clear c15
            try clear c15b0
            try clear c15b1
            try clear p15
            try clear q15
            try clear hx15
            try clear c16
            try clear c16b0
            try clear c16b1
            try clear c22
            try clear c22b0
            try clear c23
            try clear c23b0
            try clear c24
            try clear c24b0
            try clear c26
            try clear c26b0
            try clear c27
            try clear c27b0
            try clear c28
            try clear c28b0
            try clear c28b1
            try clear hcz11_0
            try clear hcz17_0
            try clear hcz9_0
            try clear hfz11_0
            try clear hfz17_0
            try clear hfz9_0
            try clear hx157_0
            try clear p157
            try clear p2
            try clear q157
            obtain ⟨kq, x13_24, rfl, HA, HJ24, HO_8, HO_10, HO_34, BK147, HB⟩ := hcut
            cases kq with
            | zero => exact absurd HA.out (by simp [impl_TimesChanging.j2])
            | succ kj24 =>
             have H := HA.out
             clear HA
             simp only [impl_TimesChanging.j2] at H
             replace H := Option.bind_eq_some_iff.mp H
             obtain ⟨t158, A290, H⟩ := H
             replace H : (impl_TimesChanging.l1 kj24 a2 t150 t153 x10_2 (rdOf ByteArray.empty t150 x36_2) x13_24 t158 t150 (t150.length : Int) x36_2 (x10_2.length : Int) 0 l0_0) = some (r1, r2) := H
             have A29 := aM A290
             clear A290
             have H' := aM H
             clear H
             have hcz30_0 : wc.cell? ⟨gb147, 0, none⟩ = some (.slice A0_0 l0_0.length c0_0) := (blk_cell BK147.out 0).trans rfl
             have hfz30_0 := blk_frozen BK147.out 0
             go_wp2_with (first | (go_at_call 92; (with_reducible refine (impl_Lamps_tick.calls _ _ l0_0 (rdOf ByteArray.empty t150 x36_2) t158 _ ?side1 ?side2 A29.out).mono ?_); (case side1 => cC ((Kd.C_below HR0_0.out HB.out))); (case side2 => exact HC0_0.out); rintro e w31 ⟨rfl, hb⟩; have n0_ := aM (Kd.R_below (by (rX); exact HO_8.out) hb); have n1_ := aM (Kd.R_below (by (rX); exact HO_10.out) hb); have n2_ := aM (Kd.R_below (by (rX); exact HO_34.out) hb); have n3_ := aM (blk_below (g := gb147) (o := .cells #[.slice A0_0 l0_0.length c0_0] 29 (0, 0)) (by (with_reducible repeat (first | refine blk_drewN ?_ _ | refine blk_drew ?_ | refine blk_alloc ?_ _)); exact BK147.out) hb); have n4_ := aM (below_step (by repeat (first | (with_reducible first | exact HB.out | apply below_alloc | apply pw_below_drewN | apply below_drew1 | refine below_set ?_ GE147.out) | exact HB.out)) hb); clear HO_8; clear HO_10; clear HO_34; clear BK147; clear HB; have HO_8 := n0_; have HO_10 := n1_; have HO_34 := n2_; have BK147 := n3_; have HB := n4_; clear n0_ n1_ n2_ n3_ n4_; cX; obtain ⟨Ao32, co32, eo32⟩ := Kd.R_slice HO_10.out; subst eo32))
             repeat (go_quiet (first | (go_at_call 92; (with_reducible refine (impl_Lamps_tick.calls _ _ l0_0 (rdOf ByteArray.empty t150 x36_2) t158 _ ?side1 ?side2 A29.out).mono ?_); (case side1 => cC ((Kd.C_below HR0_0.out HB.out))); (case side2 => exact HC0_0.out); rintro e w31 ⟨rfl, hb⟩; have n0_ := aM (Kd.R_below (by (rX); exact HO_8.out) hb); have n1_ := aM (Kd.R_below (by (rX); exact HO_10.out) hb); have n2_ := aM (Kd.R_below (by (rX); exact HO_34.out) hb); have n3_ := aM (blk_below (g := gb147) (o := .cells #[.slice A0_0 l0_0.length c0_0] 29 (0, 0)) (by (with_reducible repeat (first | refine blk_drewN ?_ _ | refine blk_drew ?_ | refine blk_alloc ?_ _)); exact BK147.out) hb); have n4_ := aM (below_step (by repeat (first | (with_reducible first | exact HB.out | apply below_alloc | apply pw_below_drewN | apply below_drew1 | refine below_set ?_ GE147.out) | exact HB.out)) hb); clear HO_8; clear HO_10; clear HO_34; clear BK147; clear HB; have HO_8 := n0_; have HO_10 := n1_; have HO_34 := n2_; have BK147 := n3_; have HB := n4_; clear n0_ n1_ n2_ n3_ n4_; cX; obtain ⟨Ao32, co32, eo32⟩ := Kd.R_slice HO_10.out; subst eo32)); try go_wp2_with (first | (go_at_call 92; (with_reducible refine (impl_Lamps_tick.calls _ _ l0_0 (rdOf ByteArray.empty t150 x36_2) t158 _ ?side1 ?side2 A29.out).mono ?_); (case side1 => cC ((Kd.C_below HR0_0.out HB.out))); (case side2 => exact HC0_0.out); rintro e w31 ⟨rfl, hb⟩; have n0_ := aM (Kd.R_below (by (rX); exact HO_8.out) hb); have n1_ := aM (Kd.R_below (by (rX); exact HO_10.out) hb); have n2_ := aM (Kd.R_below (by (rX); exact HO_34.out) hb); have n3_ := aM (blk_below (g := gb147) (o := .cells #[.slice A0_0 l0_0.length c0_0] 29 (0, 0)) (by (with_reducible repeat (first | refine blk_drewN ?_ _ | refine blk_drew ?_ | refine blk_alloc ?_ _)); exact BK147.out) hb); have n4_ := aM (below_step (by repeat (first | (with_reducible first | exact HB.out | apply below_alloc | apply pw_below_drewN | apply below_drew1 | refine below_set ?_ GE147.out) | exact HB.out)) hb); clear HO_8; clear HO_10; clear HO_34; clear BK147; clear HB; have HO_8 := n0_; have HO_10 := n1_; have HO_34 := n2_; have BK147 := n3_; have HB := n4_; clear n0_ n1_ n2_ n3_ n4_; cX; obtain ⟨Ao32, co32, eo32⟩ := Kd.R_slice HO_10.out; subst eo32)))
             go_loopg [64] kj24 (fun kq v64 w' => ∃ (x10_4 : List Int) (x64_4 : Int), v64 = .int .i64 x64_4 ∧ Aside0 (impl_TimesChanging.l1 kq a2 t150 t153 x10_4 (rdOf ByteArray.empty t150 x36_2) x13_24 t158 t150 (t150.length : Int) x36_2 (x10_2.length : Int) x64_4 l0_0 = some (r1, r2)) ∧ Aside0 (kq ≤ kj24) ∧ Aside0 (Kd.R Kd.string 9 w' w.heap.size (fun _ => True) (.slice (some ad157) t150.length co21) t150) ∧ Aside0 (Kd.R (Kd.int .i64) 3 w' w.heap.size (fun _ => True) (.slice Ao32 x10_2.length co32) x10_4) ∧ Aside0 (Kd.R Kd.string 9 w' w.heap.size (fun _ => True) (.slice (some ad157) t150.length co21) t150) ∧ Aside0 (w'.heap[gb147]? = some (.cells #[(.slice A0_0 l0_0.length c0_0)] 29 (0, 0))) ∧ Aside0 (Below w.heap.size w w'))
             case atStart => exact ⟨(x10_2), (0), (by rF), H', ⟨Nat.le_refl _⟩, ⟨by (rX); exact HO_8.out⟩, ⟨by (rX); exact HO_10.out⟩, ⟨by (rX); exact HO_34.out⟩, ⟨by (with_reducible repeat (first | refine blk_drewN ?_ _ | refine blk_drew ?_ | refine blk_alloc ?_ _)); exact BK147.out⟩, ⟨by repeat (first | (with_reducible first | exact HB.out | apply below_alloc | apply pw_below_drewN | apply below_drew1 | refine below_set ?_ GE147.out) | exact HB.out)⟩⟩
             case round =>
              clear H'
              try clear c1
              try clear p1
              try clear q1
              try clear hx1
              try clear c2
              try clear p2
              try clear p6
              try clear c7
              try clear c13
              try clear c15
              try clear c15b0
              try clear c15b1
              try clear p15
              try clear q15
              try clear hx15
              try clear c16
              try clear c16b0
              try clear c16b1
              try clear c22
              try clear c22b0
              try clear c23
              try clear c23b0
              try clear c24
              try clear c24b0
              try clear c26
              try clear c26b0
              try clear c27
              try clear c27b0
              try clear c28
              try clear c28b0
              try clear c28b1
              try clear hcz11_0
              try clear hcz17_0
              try clear hcz30_0
              try clear hcz9_0
              try clear hfz11_0
              try clear hfz17_0
              try clear hfz30_0
              try clear hfz9_0
              try clear hx157_0
              try clear p1
              try clear p15
              try clear p157
              try clear p2
              try clear p6
              try clear q1
              try clear q15
              try clear q157
              obtain ⟨x10_4, x64_4, rfl, HA, HK4, HO_8, HO_10, HO_34, BK147, HB⟩ := hrel
              have hl10_4 := (Kd.R_reads' HO_10.out).1
              rw [hl10_4] at HO_10
              (try simp only [hl10_4])
              (try simp only [hl10_4] at BK147)
              (try simp only [hl10_4] at HO_8)
              (try simp only [hl10_4] at HO_34)
              cases gk with
              | zero => exact absurd HA.out (by simp [impl_TimesChanging.l1])
              | succ k4 =>
               have H := HA.out
               clear HA
               simp only [impl_TimesChanging.l1] at H
               by_cases c33 : x64_4 < (x10_2.length : Int)
               ·rw [if_pos c33] at H
                have c33b0 : decide (x64_4 < (x10_2.length : Int)) = true := decide_eq_true c33
                try (have c33l := c33b0; simp only [hl10_4] at c33l)
                clear c33
                by_cases c34 : 0 ≤ x64_4
                ·rw [if_pos c34] at H
                 have c34b0 : decide (0 ≤ x64_4) = true := decide_eq_true c34
                 clear c34
                 by_cases c35 : x64_4 < (t158.size : Int)
                 ·rw [if_pos c35] at H
                  have c35b0 : decide (x64_4 < (t158.size : Int)) = true := decide_eq_true c35
                  clear c35
                  by_cases c37 : x64_4 < ((rdOf ByteArray.empty t150 x36_2).size : Int)
                  ·rw [if_pos c37] at H
                   have c37b0 : decide (x64_4 < ((rdOf ByteArray.empty t150 x36_2).size : Int)) = true := decide_eq_true c37
                   clear c37
                   by_cases c39 : (bt t158 x64_4) = (bt (rdOf ByteArray.empty t150 x36_2) x64_4)
                   ·rw [if_pos c39] at H
                    have c39b0 : ((bt t158 x64_4) == (bt (rdOf ByteArray.empty t150 x36_2) x64_4)) = true := beq_iff_eq.mpr c39
                    have c39b1 : ((bt t158 x64_4) != (bt (rdOf ByteArray.empty t150 x36_2) x64_4)) = false := bne_eq_false_iff_eq.mpr c39
                    clear c39
                    have H' := aM H
                    clear H
                    have p36 : 0 ≤ (x64_4 : Int) := of_decide_eq_true (by first | (with_reducible assumption) | assumption)
                    have q36 : x64_4 < (t158.size : Int) := of_decide_eq_true (by first | (with_reducible assumption) | assumption)
                    have hx36 := bt_at t158 x64_4
                    replace p36 := eq_true p36
                    replace q36 := eq_true q36
                    have p38 : 0 ≤ (x64_4 : Int) := of_decide_eq_true (by first | (with_reducible assumption) | assumption)
                    have q38 : x64_4 < ((rdOf ByteArray.empty t150 x36_2).size : Int) := of_decide_eq_true (by first | (with_reducible assumption) | assumption)
                    have hx38 := bt_at (rdOf ByteArray.empty t150 x36_2) x64_4
                    replace p38 := eq_true p38
                    replace q38 := eq_true q38
                    go_wp2
                    repeat (go_quiet (fail); try go_wp2)
                    (try simp only [← hl10_4])
                    go_roundg k4
                    case measure => have := HJ3.out; have := HK2.out; have := HJ24.out; have := HK4.out; omega
                    case rel => exact ⟨(x10_4), (wrap64 (x64_4 + 1)), (by rF), H', ⟨by have := HJ3.out; have := HK2.out; have := HJ24.out; have := HK4.out; omega⟩, ⟨by (try simp only [hl10_4]); (rX); exact HO_8.out⟩, ⟨by (try simp only [hl10_4]); (rX); exact HO_10.out⟩, ⟨by (try simp only [hl10_4]); (rX); exact HO_34.out⟩, ⟨by (try simp only [hl10_4]); (with_reducible repeat (first | refine blk_drewN ?_ _ | refine blk_drew ?_ | refine blk_alloc ?_ _)); exact BK147.out⟩, ⟨by repeat (first | (with_reducible first | exact HB.out | apply below_alloc | apply pw_below_drewN | apply below_drew1 | refine below_set ?_ GE147.out) | exact HB.out)⟩⟩
                   ·rw [if_neg c39] at H
                    have c39b0 : ((bt t158 x64_4) == (bt (rdOf ByteArray.empty t150 x36_2) x64_4)) = false := beq_eq_false_iff_ne.mpr c39
                    have c39b1 : ((bt t158 x64_4) != (bt (rdOf ByteArray.empty t150 x36_2) x64_4)) = true := bne_iff_ne.mpr c39
                    by_cases c40 : x64_4 < (x10_4.length : Int)
                    ·rw [if_pos c40] at H
                     have c40b0 : decide (x64_4 < (x10_4.length : Int)) = true := decide_eq_true c40
                     try (have c40l := c40b0; simp only [hl10_4] at c40l)
                     clear c40
                     obtain ⟨y160, hy160⟩ : ∃ y_ : List Int, y_ = (x10_4.set (x64_4 : Int).toNat (wrap64 ((rd x10_4 x64_4) + x13_24))) := ⟨_, rfl⟩
                     replace H : (impl_TimesChanging.l1 k4 a2 t150 t153 y160 (rdOf ByteArray.empty t150 x36_2) x13_24 t158 t150 (t150.length : Int) x36_2 (x10_2.length : Int) (wrap64 (x64_4 + 1)) l0_0) = some (r1, r2) := by fH hy160
                     have Ny160 := aM hy160
                     clear hy160
                     have H' := aM H
                     clear H
                     have p36 : 0 ≤ (x64_4 : Int) := of_decide_eq_true (by first | (with_reducible assumption) | assumption)
                     have q36 : x64_4 < (t158.size : Int) := of_decide_eq_true (by first | (with_reducible assumption) | assumption)
                     have hx36 := bt_at t158 x64_4
                     replace p36 := eq_true p36
                     replace q36 := eq_true q36
                     have p38 : 0 ≤ (x64_4 : Int) := of_decide_eq_true (by first | (with_reducible assumption) | assumption)
                     have q38 : x64_4 < ((rdOf ByteArray.empty t150 x36_2).size : Int) := of_decide_eq_true (by first | (with_reducible assumption) | assumption)
                     have hx38 := bt_at (rdOf ByteArray.empty t150 x36_2) x64_4
                     replace p38 := eq_true p38
                     replace q38 := eq_true q38
                     have p159 : 0 ≤ (x64_4 : Int) := of_decide_eq_true (by first | (with_reducible assumption) | assumption)
                     have q159 : x64_4 < (x10_4.length : Int) := of_decide_eq_true (by first | (with_reducible assumption) | assumption)
                     obtain ⟨ad159, e159, hx159_0⟩ := Kd.at_int (Kd.R_reads' HO_10.out).2.2 x64_4 p159 q159
                     cases e159
                     replace p159 := eq_true p159
                     replace q159 := eq_true q159
                     have p41 : 0 ≤ (x64_4 : Int) := of_decide_eq_true (by first | (with_reducible assumption) | assumption)
                     have q41 : (x64_4 : Int) < ((x10_4.length : Int) : Int) := of_decide_eq_true (by first | (with_reducible assumption) | assumption)
                     obtain ⟨go41, co41, eo41, gb41, gl41, cl41, HG41⟩ := Kd.R_form HO_10.out (by omega)
                     (first | cases eo41 | (injection eo41 with ea_ en_ ec_; (first | subst ea_ | (injection ea_ with ea_; subst ea_)); subst ec_; clear en_))
                     have GB41 := aM gb41
                     have GG41 := aM HG41
                     clear gb41 gl41 HG41
                     (first | simp only [add_plain] at hx159_0 | skip)
                     obtain ⟨hx41_0, hf41_0⟩ := Kd.R_celln 0 HO_10.out (x64_4 : Int) p41 q41
                     replace p41 := eq_true p41
                     replace q41 := eq_true q41
                     have HP42 := Kd.R_putg HO_10.out (x64_4 : Int) (wrap64 ((rd x10_4 x64_4) + x13_24))
                     have HF_ := aM hf41_0
                     clear hf41_0
                     try go_wp2
                     repeat (go_quiet (fail))
                     clear HF_
                     generalize hq_ : World.drewN wr _ = wr
                     have n0_ := aM (Kd.R_at hq_ HO_8.out)
                     have n1_ := aM (Kd.R_at hq_ HO_10.out)
                     have n2_ := aM (Kd.R_at hq_ HO_34.out)
                     have n3_ := aM (blk_at hq_ BK147.out)
                     have n4_ := aM (below_at hq_ HB.out)
                     clear hq_ HO_8 HO_10 HO_34 BK147 HB
                     have HO_8 := n0_
                     have HO_10 := n1_
                     have HO_34 := n2_
                     have BK147 := n3_
                     have HB := n4_
                     clear n0_ n1_ n2_ n3_ n4_
                     have HP42 := Kd.R_putg HO_10.out (x64_4 : Int) (wrap64 ((rd x10_4 x64_4) + x13_24))
                     obtain ⟨hx41_0, hf41_0⟩ := Kd.R_celln 0 HO_10.out (x64_4 : Int) (of_eq_true p41) (of_eq_true q41)
                     go_wp2_with (first | ((with_reducible refine gate_store (t := 3) (p := 80) rfl ?_); (try (rw [drewN_self wr]; generalize hq_ : World.drewN wr _ = wr; have n0_ := aM (Kd.R_at hq_ HO_8.out); have n1_ := aM (Kd.R_at hq_ HO_10.out); have n2_ := aM (Kd.R_at hq_ HO_34.out); have n3_ := aM (blk_at hq_ BK147.out); have n4_ := aM (below_at hq_ HB.out); clear hq_ HO_8 HO_10 HO_34 BK147 HB; have HO_8 := n0_; have HO_10 := n1_; have HO_34 := n2_; have BK147 := n3_; have HB := n4_; clear n0_ n1_ n2_ n3_ n4_; (try (have HP42 := Kd.R_putg HO_10.out (x64_4 : Int) (wrap64 ((rd x10_4 x64_4) + x13_24)))))); refine store_event (t := 3) (p := 80) (v := ?vo_w43) (w1 := (wr.setCell ⟨go41, (x64_4 : Int).toNat, none⟩ (.int .i64 (wrap64 ((rd x10_4 x64_4) + x13_24))))) ?hg ?ho ?hn ?hr ?_; (case ho => rfl); (case hg => rfl); (case hn => rfl); (case hr => first | (go_simp; done) | (go_simp; rfl)); intro w43 hw; have hg : wr.grownBy w43 (some go41) := (by rw [hw]; exact HP42.2); have hp_ : Kd.R (Kd.int .i64) 3 w43 w.heap.size (fun _ => True) (.slice (some ⟨go41, 0, none⟩) x10_4.length co32) y160 := (by rw [hw, Ny160.out]; exact HP42.1); clear HP42; have n0_ := aM (Kd.R_over' (v := (.slice (some ⟨go41, 0, none⟩) x10_4.length co32)) (by (rX); exact HO_8.out) (Kd.R_typed HO_10.out) (by decide) hg); have n1_ := aM (hp_); have n2_ := aM (Kd.R_over' (v := (.slice (some ⟨go41, 0, none⟩) x10_4.length co32)) (by (rX); exact HO_34.out) (Kd.R_typed HO_10.out) (by decide) hg); have n3_ := aM (blk_grown (g := gb147) (o := .cells #[.slice A0_0 l0_0.length c0_0] 29 (0, 0)) (by (with_reducible repeat (first | refine blk_drewN ?_ _ | refine blk_drew ?_ | refine blk_alloc ?_ _)); exact BK147.out) hg (Kd.R_ne HO_10.out BK147.out (by decide))); have n4_ := aM ((by rw [hw]; exact below_set (HB.out) GB41.out : Below w.heap.size w w43)); clear HO_8; clear HO_10; clear HO_34; clear BK147; clear HB; have HO_8 := n0_; have HO_10 := n1_; have HO_34 := n2_; have BK147 := n3_; have HB := n4_; clear n0_ n1_ n2_ n3_ n4_; clear hg hw hp_))
                     (try simp only [← hl10_4])
                     go_roundg k4
                     case measure => have := HJ3.out; have := HK2.out; have := HJ24.out; have := HK4.out; omega
                     case rel => exact ⟨(y160), (wrap64 (x64_4 + 1)), (by rF), H', ⟨by have := HJ3.out; have := HK2.out; have := HJ24.out; have := HK4.out; omega⟩, ⟨by (try simp only [hl10_4]); (rX); exact HO_8.out⟩, ⟨by (try simp only [hl10_4]); (rX); exact HO_10.out⟩, ⟨by (try simp only [hl10_4]); (rX); exact HO_34.out⟩, ⟨by (try simp only [hl10_4]); (with_reducible repeat (first | refine blk_drewN ?_ _ | refine blk_drew ?_ | refine blk_alloc ?_ _)); exact BK147.out⟩, ⟨by repeat (first | (with_reducible first | exact HB.out | apply below_alloc | apply pw_below_drewN | apply below_drew1 | refine below_set ?_ GE147.out) | exact HB.out)⟩⟩
                    ·rw [if_neg c40] at H
                     exact absurd H (by simp)
                  ·rw [if_neg c37] at H
                   exact absurd H (by simp)
                 ·rw [if_neg c35] at H
                  exact absurd H (by simp)
                ·rw [if_neg c34] at H
                 exact absurd H (by simp)
               ·rw [if_neg c33] at H
                have c33b0 : decide (x64_4 < (x10_2.length : Int)) = false := decide_eq_false c33
                try (have c33l := c33b0; simp only [hl10_4] at c33l)
                clear c33
                have H' := aM H
                clear H
                go_wp2
                repeat (go_quiet (fail); try go_wp2)
                (try simp only [← hl10_4])
                go_roundg k4
                case measure => have := HJ3.out; have := HK2.out; have := HJ24.out; have := HK4.out; omega
                case rel => exact ⟨(x10_4), (wrap64 (x36_2 + 1)), (by rF), H', ⟨by have := HJ3.out; have := HK2.out; have := HJ24.out; have := HK4.out; omega⟩, ⟨by (try simp only [hl10_4]); (rX); exact HO_8.out⟩, ⟨by (try simp only [hl10_4]); (rX); exact HO_10.out⟩, ⟨by (try simp only [hl10_4]); (rX); exact HO_34.out⟩, ⟨by (try simp only [hl10_4]); (with_reducible repeat (first | refine blk_drewN ?_ _ | refine blk_drew ?_ | refine blk_alloc ?_ _)); exact BK147.out⟩, ⟨by repeat (first | (with_reducible first | exact HB.out | apply below_alloc | apply pw_below_drewN | apply below_drew1 | refine below_set ?_ GE147.out) | exact HB.out)⟩⟩
          ·rw [if_neg c24] at H
           exact absurd H (by simp)
         ·rw [if_neg c23] at H
          exact absurd H (by simp)
        ·rw [if_neg c22] at H
         have c22b0 : decide (x36_2 < (t150.length : Int)) = false := decide_eq_false c22
         try (have c22l := c22b0; simp only [hl10_4] at c22l)
         clear c22
         simp only [Option.some.injEq, Prod.mk.injEq] at H
         obtain ⟨rfl, rfl⟩ := H
         go_wp2
         repeat (go_quiet (fail); try go_wp2)
         go_ret2
         exact ⟨_, by eW, by (rX); exact HO_10.out, by repeat (first | (with_reducible first | exact HB.out | apply below_alloc | apply pw_below_drewN | apply below_drew1 | refine below_set ?_ GE147.out) | exact HB.out)⟩
     ·rw [if_neg c16] at H
      exact absurd H (by simp)
    ·rw [if_neg c15] at H
     exact absurd H (by simp)

end Go.Proofs.YtifdgebdkhdmhaaDoor.PLTick
