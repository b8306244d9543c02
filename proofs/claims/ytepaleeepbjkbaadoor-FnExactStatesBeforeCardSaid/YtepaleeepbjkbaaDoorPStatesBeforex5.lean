-- PRINTED by drive.py (a program of this session's, over the kit's print.py; wip/tools/drive.py). Lean checks it.
import Derived.Test.YtepaleeepbjkbaaDoorPStatesBeforex0
import Derived.Test.YtepaleeepbjkbaaDoorPStatesBeforex3
import Derived.Test.YtepaleeepbjkbaaDoorPStatesBeforex4
namespace Go.Proofs.YtepaleeepbjkbaaDoor.PStatesBefore
open Go.RowKit Go.Proofs.YtepaleeepbjkbaaDoorW.PrintWords Go.Proofs.YtepaleeepbjkbaaDoorW.PrintLast Go.Proofs.YtepaleeepbjkbaaDoorW.PrintMore
attribute [local go_sem] max2_int min2_int max_two min_two max_three min_three max_four min_four   -- for this text's walks alone
set_option linter.unusedVariables false
set_option linter.unusedSimpArgs false

/-! ### impl_Lamps_lit: function 72 -/
def impl_Lamps_lit.f (l0_0 : List ByteArray) (a1 : ByteArray) : Option (Bool) := (impl_AreLamps.f l0_0).bind fun t161 => (if t161 = true then (if (a1.size : Int) = (l0_0.length : Int) then ((strings_Trim.f a1 (⟨#[48, 49]⟩ : ByteArray)).bind fun t162 => (some (t162.toList == ([] : List UInt8)))) else (some false)) else (some false))
set_option maxHeartbeats 8000000 in
set_option maxRecDepth 100000 in
theorem impl_Lamps_lit.calls (A0_0 : Option Addr) (c0_0 : Nat) (l0_0 : List ByteArray) (a1 : ByteArray) (r : Bool) (w : World) (hr0_0 : Kd.C Kd.string w A0_0 l0_0.length l0_0) (hc0_0 : l0_0.length ≤ c0_0) (h : impl_Lamps_lit.f l0_0 a1 = some r) :
  Calls Tryd.prog 72 #[.agg #[.slice A0_0 l0_0.length c0_0], .string a1] w fun e w' => e = .returned (.bool r) ∧ Below w.heap.size w w' := by
 have hu37 := Tryd.underlying37
 have HR0_0 := Aside0.mk hr0_0
 have HC0_0 := Aside0.mk hc0_0
 clear hr0_0 hc0_0
 have HB := Aside0.mk (Below.refl w.heap.size w)
 have H : ((impl_AreLamps.f l0_0).bind fun t161 => (if t161 = true then (if (a1.size : Int) = (l0_0.length : Int) then ((strings_Trim.f a1 (⟨#[48, 49]⟩ : ByteArray)).bind fun t162 => (some (t162.toList == ([] : List UInt8)))) else (some false)) else (some false))) = some r := h
 clear h
 replace H := Option.bind_eq_some_iff.mp H
 obtain ⟨t161, A30, H⟩ := H
 replace H : (if t161 = true then (if (a1.size : Int) = (l0_0.length : Int) then ((strings_Trim.f a1 (⟨#[48, 49]⟩ : ByteArray)).bind fun t162 => (some (t162.toList == ([] : List UInt8)))) else (some false)) else (some false)) = some r := H
 have A3 := Aside0.mk A30
 clear A30
 by_cases c4 : t161 = true
 ·subst c4
  have H1 : (if (a1.size : Int) = (l0_0.length : Int) then ((strings_Trim.f a1 (⟨#[48, 49]⟩ : ByteArray)).bind fun t162 => (some (t162.toList == ([] : List UInt8)))) else (some false)) = some r := by rw [if_pos rfl] at H; exact H
  clear H
  have H := H1
  clear H1
  by_cases c5 : (a1.size : Int) = (l0_0.length : Int)
  ·rw [if_pos c5] at H
   have c5b0 : ((a1.size : Int) == (l0_0.length : Int)) = true := beq_iff_eq.mpr c5
   have c5b1 : ((a1.size : Int) != (l0_0.length : Int)) = false := bne_eq_false_iff_eq.mpr c5
   have c5b2 : (a1.size == l0_0.length) = true := by first | simpa using c5 | (simp at c5 ⊢; omega)
   clear c5
   replace H := Option.bind_eq_some_iff.mp H
   obtain ⟨t162, A60, H⟩ := H
   replace H : (some (t162.toList == ([] : List UInt8))) = some r := H
   have A6 := Aside0.mk A60
   clear A60
   obtain rfl := Option.some.inj H
   go_enter Tryd.func72, Tryd.ntmps72
   go_wp2_with (first | ((with_reducible refine gate_dst (N := 2) rfl ?_); (try (refine gate_guard (by rfl) ?_; dsimp only)); refine box_event ?hg (N := 2) ?hd (cs := #[.slice A0_0 l0_0.length c0_0]) (t := 37) ?hr ?_; (case hd => rfl); (case hg => rfl); (case hr => first | (go_simp; done) | (go_simp; rfl)); intro gb160 hg w7 hbox hb; have n0_ := Aside0.mk (below_step (by repeat (first | (with_reducible first | exact HB.out | apply below_alloc | apply pw_below_drewN | apply below_drew1) | exact HB.out)) hb); have n1_ := Aside0.mk (hbox); have n2_ := Aside0.mk ((by rw [hg]; exact (below_size (by repeat (first | (with_reducible first | exact HB.out | apply below_alloc | apply pw_below_drewN | apply below_drew1) | exact HB.out))) : w.heap.size ≤ gb160)); have n3_ := Aside0.mk ((by rw [hg]; exact (below_size (by repeat (first | (with_reducible first | exact HB.out | apply below_alloc | apply pw_below_drewN | apply below_drew1) | exact HB.out))) : w.heap.size ≤ gb160)); clear HB; have HB := n0_; have BK160 := n1_; have GW160 := n2_; have GE160 := n3_; clear n0_ n1_ n2_ n3_; clear hb hbox hg; have hcz8_0 : w7.cell? ⟨gb160, 0, none⟩ = some (.slice A0_0 l0_0.length c0_0) := (blk_cell BK160.out 0).trans rfl; have hfz8_0 := blk_frozen BK160.out 0) | ((with_reducible refine gate_callee (f := 64) rfl ?_); refine goesL_ (some 6) rfl rfl Tryd.func64 (by kernel_rfl) rfl #[.agg #[.slice A0_0 l0_0.length c0_0]] rfl (by (try simp only [List.map_toArray, List.map_cons, List.map_nil]); first | done | rfl | (simp only [List.length_drop, List.length_take]; rfl)) ?_; (with_reducible refine (impl_AreLamps.calls _ _ l0_0 true _ ?side1 ?side2 A3.out).mono ?_); (case side1 => repeat (first | exact (Kd.C_below HR0_0.out HB.out) | (with_reducible refine Kd.C_alloc ?_ _) | (with_reducible refine Kd.C_drewN ?_ _) | (with_reducible refine Kd.C_drew ?_))); (case side2 => exact HC0_0.out); rintro e w9 ⟨rfl, hb⟩; refine ⟨_, rfl, ?_⟩; have n0_ := Aside0.mk (blk_below (g := gb160) (o := .cells #[.slice A0_0 l0_0.length c0_0] 37 (0, 0)) (by (with_reducible repeat (first | refine blk_drewN ?_ _ | refine blk_drew ?_ | refine blk_alloc ?_ _)); exact BK160.out) hb); have n1_ := Aside0.mk (below_step (by repeat (first | (with_reducible first | exact HB.out | apply below_alloc | apply pw_below_drewN | apply below_drew1 | refine below_set ?_ GE160.out) | exact HB.out)) hb); clear BK160; clear HB; have BK160 := n0_; have HB := n1_; clear n0_ n1_; (try clear hb); (try clear hb2); (try clear hk); (try clear hi); have hcz10_0 : w9.cell? ⟨gb160, 0, none⟩ = some (.slice A0_0 l0_0.length c0_0) := (blk_cell BK160.out 0).trans rfl; have hfz10_0 := blk_frozen BK160.out 0) | (go_at_call 113; (with_reducible refine (strings_Trim.calls a1 (⟨#[48, 49]⟩ : ByteArray) t162 _ A6.out).mono ?_); rintro e w11 ⟨rfl, hb⟩; have n0_ := Aside0.mk (blk_below (g := gb160) (o := .cells #[.slice A0_0 l0_0.length c0_0] 37 (0, 0)) (by (with_reducible repeat (first | refine blk_drewN ?_ _ | refine blk_drew ?_ | refine blk_alloc ?_ _)); exact BK160.out) hb); have n1_ := Aside0.mk (below_step (by repeat (first | (with_reducible first | exact HB.out | apply below_alloc | apply pw_below_drewN | apply below_drew1 | refine below_set ?_ GE160.out) | exact HB.out)) hb); clear BK160; clear HB; have BK160 := n0_; have HB := n1_; clear n0_ n1_; (try clear hb); (try clear hb2); (try clear hk); (try clear hi)))
   go_ret
   exact ⟨by first | rfl | (simp [errW_none, errW_some] <;> rfl) | (simp [*, errW_none, errW_some] <;> rfl), by repeat (first | (with_reducible first | exact HB.out | apply below_alloc | apply pw_below_drewN | apply below_drew1 | refine below_set ?_ GE160.out) | exact HB.out)⟩
  ·rw [if_neg c5] at H
   have c5b0 : ((a1.size : Int) == (l0_0.length : Int)) = false := beq_eq_false_iff_ne.mpr c5
   have c5b1 : ((a1.size : Int) != (l0_0.length : Int)) = true := bne_iff_ne.mpr c5
   have c5b2 : (a1.size == l0_0.length) = false := by first | simpa using c5 | (simp at c5 ⊢; omega)
   obtain rfl := Option.some.inj H
   go_enter Tryd.func72, Tryd.ntmps72
   go_wp2_with (first | ((with_reducible refine gate_dst (N := 2) rfl ?_); (try (refine gate_guard (by rfl) ?_; dsimp only)); refine box_event ?hg (N := 2) ?hd (cs := #[.slice A0_0 l0_0.length c0_0]) (t := 37) ?hr ?_; (case hd => rfl); (case hg => rfl); (case hr => first | (go_simp; done) | (go_simp; rfl)); intro gb160 hg w12 hbox hb; have n0_ := Aside0.mk (below_step (by repeat (first | (with_reducible first | exact HB.out | apply below_alloc | apply pw_below_drewN | apply below_drew1) | exact HB.out)) hb); have n1_ := Aside0.mk (hbox); have n2_ := Aside0.mk ((by rw [hg]; exact (below_size (by repeat (first | (with_reducible first | exact HB.out | apply below_alloc | apply pw_below_drewN | apply below_drew1) | exact HB.out))) : w.heap.size ≤ gb160)); have n3_ := Aside0.mk ((by rw [hg]; exact (below_size (by repeat (first | (with_reducible first | exact HB.out | apply below_alloc | apply pw_below_drewN | apply below_drew1) | exact HB.out))) : w.heap.size ≤ gb160)); clear HB; have HB := n0_; have BK160 := n1_; have GW160 := n2_; have GE160 := n3_; clear n0_ n1_ n2_ n3_; clear hb hbox hg; have hcz13_0 : w12.cell? ⟨gb160, 0, none⟩ = some (.slice A0_0 l0_0.length c0_0) := (blk_cell BK160.out 0).trans rfl; have hfz13_0 := blk_frozen BK160.out 0) | ((with_reducible refine gate_callee (f := 64) rfl ?_); refine goesL_ (some 6) rfl rfl Tryd.func64 (by kernel_rfl) rfl #[.agg #[.slice A0_0 l0_0.length c0_0]] rfl (by (try simp only [List.map_toArray, List.map_cons, List.map_nil]); first | done | rfl | (simp only [List.length_drop, List.length_take]; rfl)) ?_; (with_reducible refine (impl_AreLamps.calls _ _ l0_0 true _ ?side1 ?side2 A3.out).mono ?_); (case side1 => repeat (first | exact (Kd.C_below HR0_0.out HB.out) | (with_reducible refine Kd.C_alloc ?_ _) | (with_reducible refine Kd.C_drewN ?_ _) | (with_reducible refine Kd.C_drew ?_))); (case side2 => exact HC0_0.out); rintro e w14 ⟨rfl, hb⟩; refine ⟨_, rfl, ?_⟩; have n0_ := Aside0.mk (blk_below (g := gb160) (o := .cells #[.slice A0_0 l0_0.length c0_0] 37 (0, 0)) (by (with_reducible repeat (first | refine blk_drewN ?_ _ | refine blk_drew ?_ | refine blk_alloc ?_ _)); exact BK160.out) hb); have n1_ := Aside0.mk (below_step (by repeat (first | (with_reducible first | exact HB.out | apply below_alloc | apply pw_below_drewN | apply below_drew1 | refine below_set ?_ GE160.out) | exact HB.out)) hb); clear BK160; clear HB; have BK160 := n0_; have HB := n1_; clear n0_ n1_; (try clear hb); (try clear hb2); (try clear hk); (try clear hi); have hcz15_0 : w14.cell? ⟨gb160, 0, none⟩ = some (.slice A0_0 l0_0.length c0_0) := (blk_cell BK160.out 0).trans rfl; have hfz15_0 := blk_frozen BK160.out 0))
   go_ret
   exact ⟨by first | rfl | (simp [errW_none, errW_some] <;> rfl) | (simp [*, errW_none, errW_some] <;> rfl), by repeat (first | (with_reducible first | exact HB.out | apply below_alloc | apply pw_below_drewN | apply below_drew1 | refine below_set ?_ GE160.out) | exact HB.out)⟩
 ·replace c4 := Bool.eq_false_iff.mpr c4
  subst c4
  have H1 : (some false) = some r := by rw [if_neg (show ¬ (false = true) by decide)] at H; exact H
  clear H
  have H := H1
  clear H1
  obtain rfl := Option.some.inj H
  go_enter Tryd.func72, Tryd.ntmps72
  go_wp2_with (first | ((with_reducible refine gate_dst (N := 2) rfl ?_); (try (refine gate_guard (by rfl) ?_; dsimp only)); refine box_event ?hg (N := 2) ?hd (cs := #[.slice A0_0 l0_0.length c0_0]) (t := 37) ?hr ?_; (case hd => rfl); (case hg => rfl); (case hr => first | (go_simp; done) | (go_simp; rfl)); intro gb160 hg w16 hbox hb; have n0_ := Aside0.mk (below_step (by repeat (first | (with_reducible first | exact HB.out | apply below_alloc | apply pw_below_drewN | apply below_drew1) | exact HB.out)) hb); have n1_ := Aside0.mk (hbox); have n2_ := Aside0.mk ((by rw [hg]; exact (below_size (by repeat (first | (with_reducible first | exact HB.out | apply below_alloc | apply pw_below_drewN | apply below_drew1) | exact HB.out))) : w.heap.size ≤ gb160)); have n3_ := Aside0.mk ((by rw [hg]; exact (below_size (by repeat (first | (with_reducible first | exact HB.out | apply below_alloc | apply pw_below_drewN | apply below_drew1) | exact HB.out))) : w.heap.size ≤ gb160)); clear HB; have HB := n0_; have BK160 := n1_; have GW160 := n2_; have GE160 := n3_; clear n0_ n1_ n2_ n3_; clear hb hbox hg; have hcz17_0 : w16.cell? ⟨gb160, 0, none⟩ = some (.slice A0_0 l0_0.length c0_0) := (blk_cell BK160.out 0).trans rfl; have hfz17_0 := blk_frozen BK160.out 0) | ((with_reducible refine gate_callee (f := 64) rfl ?_); refine goesL_ (some 6) rfl rfl Tryd.func64 (by kernel_rfl) rfl #[.agg #[.slice A0_0 l0_0.length c0_0]] rfl (by (try simp only [List.map_toArray, List.map_cons, List.map_nil]); first | done | rfl | (simp only [List.length_drop, List.length_take]; rfl)) ?_; (with_reducible refine (impl_AreLamps.calls _ _ l0_0 false _ ?side1 ?side2 A3.out).mono ?_); (case side1 => repeat (first | exact (Kd.C_below HR0_0.out HB.out) | (with_reducible refine Kd.C_alloc ?_ _) | (with_reducible refine Kd.C_drewN ?_ _) | (with_reducible refine Kd.C_drew ?_))); (case side2 => exact HC0_0.out); rintro e w18 ⟨rfl, hb⟩; refine ⟨_, rfl, ?_⟩; have n0_ := Aside0.mk (blk_below (g := gb160) (o := .cells #[.slice A0_0 l0_0.length c0_0] 37 (0, 0)) (by (with_reducible repeat (first | refine blk_drewN ?_ _ | refine blk_drew ?_ | refine blk_alloc ?_ _)); exact BK160.out) hb); have n1_ := Aside0.mk (below_step (by repeat (first | (with_reducible first | exact HB.out | apply below_alloc | apply pw_below_drewN | apply below_drew1 | refine below_set ?_ GE160.out) | exact HB.out)) hb); clear BK160; clear HB; have BK160 := n0_; have HB := n1_; clear n0_ n1_; (try clear hb); (try clear hb2); (try clear hk); (try clear hi)))
  go_ret
  exact ⟨by first | rfl | (simp [errW_none, errW_some] <;> rfl) | (simp [*, errW_none, errW_some] <;> rfl), by repeat (first | (with_reducible first | exact HB.out | apply below_alloc | apply pw_below_drewN | apply below_drew1 | refine below_set ?_ GE160.out) | exact HB.out)⟩

/-! ### impl_textStates: function 100 -/
mutual
def impl_textStates.l0 : Nat → List ByteArray → Int → Int → Option (List ByteArray)
 | 0, _, _, _ => none
 | k + 1, x3, x8, x9 => if x9 < x8 then (impl_textStates.l1 k ([] : List ByteArray) x8 x9 x3 (x3.length : Int) 0) else (some x3)
def impl_textStates.l1 : Nat → List ByteArray → Int → Int → List ByteArray → Int → Int → Option (List ByteArray)
 | 0, _, _, _, _, _, _ => none
 | k + 1, x4, x8, x9, x11, x12, x13 => if x13 < x12 then (if 0 ≤ x13 then (if x13 < (x11.length : Int) then (if (rdOf ByteArray.empty x11 x13).size + 1 ≤ 9223372036854775807 then ((some (([(rdOf ByteArray.empty x11 x13) ++ (⟨#[48]⟩ : ByteArray), (rdOf ByteArray.empty x11 x13) ++ (⟨#[49]⟩ : ByteArray)] : List ByteArray) : List ByteArray)).bind fun y167 => (if x4.length + y167.length < 8796093022208 then (impl_textStates.l1 k (x4 ++ y167) x8 x9 x11 x12 (wrap64 (x13 + 1))) else (none))) else (none)) else (none)) else (none)) else (impl_textStates.l0 k x4 x8 (wrap64 (x9 + 1)))
end
def impl_textStates.f (k : Nat) (a0 : Int) : Option (List ByteArray) := impl_textStates.l0 k (([(⟨#[]⟩ : ByteArray)] : List ByteArray)) a0 0
theorem impl_textStates.mono_l : ∀ k, (∀ y0 y1 y2, LeO (impl_textStates.l0 k y0 y1 y2) (impl_textStates.l0 (k + 1) y0 y1 y2)) ∧ (∀ y0 y1 y2 y3 y4 y5, LeO (impl_textStates.l1 k y0 y1 y2 y3 y4 y5) (impl_textStates.l1 (k + 1) y0 y1 y2 y3 y4 y5))
 | 0 => ⟨fun _ _ _ r h => by simp [impl_textStates.l0] at h, fun _ _ _ _ _ _ r h => by simp [impl_textStates.l1] at h⟩
 | k + 1 => by
  obtain ⟨ih0, ih1⟩ := impl_textStates.mono_l k
  refine ⟨?_, ?_⟩
  ·intro y0 y1 y2
   unfold impl_textStates.l0
   repeat' first
   | (with_reducible exact ih0 _ _ _)
   | (with_reducible exact ih1 _ _ _ _ _ _)
   | (with_reducible exact LeO.refl _)
   | (with_reducible exact LeO.none _)
   | (with_reducible refine LeO.ite ?_ ?_)
   | (with_reducible refine LeO.bind ?_ (fun _ => ?_))
   | exact ih0 _ _ _
   | exact ih1 _ _ _ _ _ _
   | exact LeO.none _
   | refine LeO.ite ?_ ?_
   | refine LeO.bind ?_ (fun _ => ?_)
  ·intro y0 y1 y2 y3 y4 y5
   unfold impl_textStates.l1
   repeat' first
   | (with_reducible exact ih0 _ _ _)
   | (with_reducible exact ih1 _ _ _ _ _ _)
   | (with_reducible exact LeO.refl _)
   | (with_reducible exact LeO.none _)
   | (with_reducible refine LeO.ite ?_ ?_)
   | (with_reducible refine LeO.bind ?_ (fun _ => ?_))
   | exact ih0 _ _ _
   | exact ih1 _ _ _ _ _ _
   | exact LeO.none _
   | refine LeO.ite ?_ ?_
   | refine LeO.bind ?_ (fun _ => ?_)
theorem impl_textStates.mono : ∀ a0 k, LeO (impl_textStates.f k a0) (impl_textStates.f (k + 1) a0) := by
 intro a0 k
 obtain ⟨ih0, ih1⟩ := impl_textStates.mono_l k
 unfold impl_textStates.f
 repeat' first
   | (with_reducible exact ih0 _ _ _)
   | (with_reducible exact ih1 _ _ _ _ _ _)
   | (with_reducible exact LeO.refl _)
   | (with_reducible exact LeO.none _)
   | (with_reducible refine LeO.ite ?_ ?_)
   | (with_reducible refine LeO.bind ?_ (fun _ => ?_))
   | exact ih0 _ _ _
   | exact ih1 _ _ _ _ _ _
   | exact LeO.none _
   | refine LeO.ite ?_ ?_
   | refine LeO.bind ?_ (fun _ => ?_)
set_option maxHeartbeats 8000000 in
set_option maxRecDepth 100000 in
theorem impl_textStates.calls (k : Nat) (a0 : Int) (r : List ByteArray) (w : World) (h : impl_textStates.f k a0 = some r) :
  Calls Tryd.prog 100 #[.int .i64 a0] w fun e w' => ∃ v0_ : Value, e = .returned (v0_) ∧ Kd.R Kd.string 9 w' w.heap.size (fun _ => True) v0_ r ∧ Below w.heap.size w w' := by
 have HB := Aside0.mk (Below.refl w.heap.size w)
 have H : (impl_textStates.l0 k (([(⟨#[]⟩ : ByteArray)] : List ByteArray)) a0 0) = some r := h
 clear h
 obtain ⟨y163, hy163⟩ : ∃ y_ : List ByteArray, y_ = (([(⟨#[]⟩ : ByteArray)] : List ByteArray)) := ⟨_, rfl⟩
 replace H : (impl_textStates.l0 k y163 a0 0) = some r := by first | (rw [hy163]; with_reducible exact H) | (have H2_ := (Option.bind_some _ _).symm.trans H; rw [hy163]; with_reducible exact H2_) | (have H2_ := (Option.bind_some _ _).symm.trans H; with_reducible exact H2_) | with_reducible exact H | (rw [hy163]; exact H) | exact H
 have Ny163 := Aside0.mk hy163
 clear hy163
 have H' := Aside0.mk H
 clear H
 go_enter Tryd.func100, Tryd.ntmps100
 go_wp2_with (first | ((with_reducible refine gate_dst (N := 7) rfl ?_); refine Kd.R_lit Kd.string _ 9 ?hg (N := 7) ?hd (xs := ([(⟨#[]⟩ : ByteArray)] : List ByteArray)) (inner := [.string (⟨#[]⟩ : ByteArray)]) (ok := fun _ => True) (okp := fun _ => True) ?hr ?hp (fun _ hk => hk) trivial (Below.refl _ _) (Nat.le_refl _) (by simp) ?_; (case hd => rfl); (case hg => rfl); (case hr => first | (go_simp; done) | (go_simp; rfl)); (case hp => exact (Reps.one (show Kd.M Kd.string _ _ _ (⟨#[]⟩ : ByteArray) [.string (⟨#[]⟩ : ByteArray)] from rfl) (Reps.none _ _))); intro v164 w2 ho3 hb hg_ hnew_; clear hg_ hnew_; (first | rw [← Ny163.out] at ho3 | (simp only [Int.reduceToNat] at ho3; rw [← Ny163.out] at ho3)); have n0_ := Aside0.mk (Kd.R_lower ho3 (below_size (by repeat (first | (with_reducible first | exact HB.out | apply below_alloc | apply pw_below_drewN | apply below_drew1) | exact HB.out)))); have n1_ := Aside0.mk (below_step (by repeat (first | (with_reducible first | exact HB.out | apply below_alloc | apply pw_below_drewN | apply below_drew1) | exact HB.out)) hb); clear HB; have HO165 := n0_; have HB := n1_; clear n0_ n1_; clear hb ho3))
 go_loopg [3, 9] k (fun kq v3 v9 w' => ∃ (x3_1 : List ByteArray) (x9_1 : Int), v9 = .int .i64 x9_1 ∧ Aside0 (impl_textStates.l0 kq x3_1 a0 x9_1 = some r) ∧ Aside0 (kq ≤ k) ∧ Aside0 (Kd.R Kd.string 9 w' w.heap.size (fun _ => True) v3 x3_1) ∧ Aside0 (Below w.heap.size w w'))
 case atStart => exact ⟨(y163), (0), (by first | rfl | (simp; done) | (simp [*]; done)), H', ⟨Nat.le_refl _⟩, ⟨by (with_reducible repeat (first | apply Kd.R_alloc | apply Kd.R_drewN | apply Kd.R_drew)); exact HO165.out⟩, ⟨by repeat (first | (with_reducible first | exact HB.out | apply below_alloc | apply pw_below_drewN | apply below_drew1) | exact HB.out)⟩⟩
 case round =>
  clear H'
  try clear c1
  try clear p2
  obtain ⟨x3_1, x9_1, rfl, HA, HK1, HO_3, HB⟩ := hrel
  cases gk with
  | zero => exact absurd HA.out (by simp [impl_textStates.l0])
  | succ k1 =>
   have H := HA.out
   clear HA
   simp only [impl_textStates.l0] at H
   by_cases c4 : x9_1 < a0
   ·rw [if_pos c4] at H
    have c4b0 : decide (x9_1 < a0) = true := decide_eq_true c4
    clear c4
    have H' := Aside0.mk H
    clear H
    obtain ⟨Ao5, co5, eo5⟩ := Kd.R_slice HO_3.out
    subst eo5
    go_wp2
    go_loopg [4, 13] k1 (fun kq v4 v13 w' => ∃ (x4_2 : List ByteArray) (x13_2 : Int), v13 = .int .i64 x13_2 ∧ Aside0 (impl_textStates.l1 kq x4_2 a0 x9_1 x3_1 (x3_1.length : Int) x13_2 = some r) ∧ Aside0 (kq ≤ k1) ∧ Aside0 (Kd.R Kd.string 9 w' w.heap.size (fun k_ => some k_ ≠ ((.slice Ao5 x3_1.length co5) : Value).ownBlock) v4 x4_2) ∧ Aside0 (Kd.R Kd.string 9 w' w.heap.size (fun k_ => some k_ ≠ (v4 : Value).ownBlock) (.slice Ao5 x3_1.length co5) x3_1) ∧ Aside0 (Below w.heap.size w w'))
    case atStart => exact ⟨(([] : List ByteArray)), (0), (by first | rfl | (simp; done) | (simp [*]; done)), H', ⟨Nat.le_refl _⟩, ⟨by first | exact Kd.R_nil _ _ _ _ _ | exact Kd.N_nil _ _ _ _ _ | exact Kd.V_nil _ _ _ _ _ | exact Kd.Q_nil _ _ _ _ _ | exact Kd.S_nil _ _ _ _ _⟩, ⟨by (with_reducible repeat (first | apply Kd.R_alloc | apply Kd.R_drewN | apply Kd.R_drew)); exact Kd.R_mono HO_3.out (fun _ hk => (by simp [Value.ownBlock]))⟩, ⟨by repeat (first | (with_reducible first | exact HB.out | apply below_alloc | apply pw_below_drewN | apply below_drew1) | exact HB.out)⟩⟩
    case round =>
     clear H'
     try clear c1
     try clear p2
     try clear c4
     try clear c4b0
     try clear p2
     obtain ⟨x4_2, x13_2, rfl, HA, HK2, HO_4, HO_11, HB⟩ := hrel
     cases gk with
     | zero => exact absurd HA.out (by simp [impl_textStates.l1])
     | succ k2 =>
      have H := HA.out
      clear HA
      simp only [impl_textStates.l1] at H
      by_cases c6 : x13_2 < (x3_1.length : Int)
      ·rw [if_pos c6] at H
       have c6b0 : decide (x13_2 < (x3_1.length : Int)) = true := decide_eq_true c6
       clear c6
       by_cases c7 : 0 ≤ x13_2
       ·rw [if_pos c7] at H
        have c7b0 : decide (0 ≤ x13_2) = true := decide_eq_true c7
        clear c7
        by_cases c8 : x13_2 < (x3_1.length : Int)
        ·rw [if_pos c8] at H
         have c8b0 : decide (x13_2 < (x3_1.length : Int)) = true := decide_eq_true c8
         clear c8
         by_cases c9 : (rdOf ByteArray.empty x3_1 x13_2).size + 1 ≤ 9223372036854775807
         ·rw [if_pos c9] at H
          have c9b0 := eq_true c9
          have c9b1 : decide ((rdOf ByteArray.empty x3_1 x13_2).size + 1 ≤ 9223372036854775807) = true := decide_eq_true c9
          try have c9b2 : (9223372036854775807 < (rdOf ByteArray.empty x3_1 x13_2).size + 1) = False := eq_false (Nat.not_lt.2 c9)
          obtain ⟨y167, hy167⟩ : ∃ y_ : List ByteArray, y_ = (([(rdOf ByteArray.empty x3_1 x13_2) ++ (⟨#[48]⟩ : ByteArray), (rdOf ByteArray.empty x3_1 x13_2) ++ (⟨#[49]⟩ : ByteArray)] : List ByteArray)) := ⟨_, rfl⟩
          replace H : (if x4_2.length + y167.length < 8796093022208 then (impl_textStates.l1 k2 (x4_2 ++ y167) a0 x9_1 x3_1 (x3_1.length : Int) (wrap64 (x13_2 + 1))) else (none)) = some r := by first | (rw [hy167]; with_reducible exact H) | (have H2_ := (Option.bind_some _ _).symm.trans H; rw [hy167]; with_reducible exact H2_) | (have H2_ := (Option.bind_some _ _).symm.trans H; with_reducible exact H2_) | with_reducible exact H | (rw [hy167]; exact H) | exact H
          have Ny167 := Aside0.mk hy167
          clear hy167
          by_cases c10 : x4_2.length + y167.length < 8796093022208
          ·rw [if_pos c10] at H
           have LMc10 := Aside0.mk c10
           clear c10
           obtain ⟨y170, hy170⟩ : ∃ y_ : List ByteArray, y_ = (x4_2 ++ y167) := ⟨_, rfl⟩
           replace H : (impl_textStates.l1 k2 y170 a0 x9_1 x3_1 (x3_1.length : Int) (wrap64 (x13_2 + 1))) = some r := by first | (rw [hy170]; with_reducible exact H) | (have H2_ := (Option.bind_some _ _).symm.trans H; rw [hy170]; with_reducible exact H2_) | (have H2_ := (Option.bind_some _ _).symm.trans H; with_reducible exact H2_) | with_reducible exact H | (rw [hy170]; exact H) | exact H
           have Ny170 := Aside0.mk hy170
           clear hy170
           have H' := Aside0.mk H
           clear H
           have p166 : 0 ≤ (x13_2 : Int) := of_decide_eq_true (by first | (with_reducible assumption) | assumption)
           have q166 : x13_2 < (x3_1.length : Int) := of_decide_eq_true (by first | (with_reducible assumption) | assumption)
           obtain ⟨ad166, e166, hx166_0⟩ := Kd.at_string (Kd.R_reads' HO_11.out).2.2 x13_2 p166 q166
           cases e166
           replace p166 := eq_true p166
           replace q166 := eq_true q166
           go_wp2_with (first | ((with_reducible refine gate_dst (N := 22) rfl ?_); refine Kd.R_lit Kd.string _ 9 ?hg (N := 22) ?hd (xs := ([(rdOf ByteArray.empty x3_1 x13_2) ++ (⟨#[48]⟩ : ByteArray), (rdOf ByteArray.empty x3_1 x13_2) ++ (⟨#[49]⟩ : ByteArray)] : List ByteArray)) (inner := [.string ((rdOf ByteArray.empty x3_1 x13_2) ++ (⟨#[48]⟩ : ByteArray)), .string ((rdOf ByteArray.empty x3_1 x13_2) ++ (⟨#[49]⟩ : ByteArray))]) (ok := fun _ => True) (okp := fun _ => True) ?hr ?hp (fun _ hk => hk) trivial (Below.refl _ _) (Nat.le_refl _) (by simp) ?_; (case hd => rfl); (case hg => rfl); (case hr => first | (go_simp; done) | (go_simp; rfl)); (case hp => exact (Reps.one (show Kd.M Kd.string _ _ _ ((rdOf ByteArray.empty x3_1 x13_2) ++ (⟨#[48]⟩ : ByteArray)) [.string ((rdOf ByteArray.empty x3_1 x13_2) ++ (⟨#[48]⟩ : ByteArray))] from rfl) (Reps.one (show Kd.M Kd.string _ _ _ ((rdOf ByteArray.empty x3_1 x13_2) ++ (⟨#[49]⟩ : ByteArray)) [.string ((rdOf ByteArray.empty x3_1 x13_2) ++ (⟨#[49]⟩ : ByteArray))] from rfl) (Reps.none _ _)))); intro v168 w11 ho12 hb hg_ hnew_; clear hg_ hnew_; (first | rw [← Ny167.out] at ho12 | (simp only [Int.reduceToNat] at ho12; rw [← Ny167.out] at ho12)); have n0_ := Aside0.mk (Kd.R_elder' (by (with_reducible repeat (first | apply Kd.R_alloc | apply Kd.R_drewN | apply Kd.R_drew)); exact HO_4.out) (Kd.R_base ho12) hb); have n1_ := Aside0.mk (Kd.R_elder' (by (with_reducible repeat (first | apply Kd.R_alloc | apply Kd.R_drewN | apply Kd.R_drew)); exact HO_11.out) (Kd.R_base ho12) hb); have n2_ := Aside0.mk (Kd.R_lower (Kd.R_new' (Kd.R_new' ho12 (Kd.R_lt (by (with_reducible repeat (first | apply Kd.R_alloc | apply Kd.R_drewN | apply Kd.R_drew)); exact HO_4.out))) (Kd.R_lt (by (with_reducible repeat (first | apply Kd.R_alloc | apply Kd.R_drewN | apply Kd.R_drew)); exact HO_11.out))) (below_size (by repeat (first | (with_reducible first | exact HB.out | apply below_alloc | apply pw_below_drewN | apply below_drew1) | exact HB.out)))); have n3_ := Aside0.mk (below_step (by repeat (first | (with_reducible first | exact HB.out | apply below_alloc | apply pw_below_drewN | apply below_drew1) | exact HB.out)) hb); clear HO_4; clear HO_11; clear HB; have HO_4 := n0_; have HO_11 := n1_; have HO169 := n2_; have HB := n3_; clear n0_ n1_ n2_ n3_; clear hb ho12; obtain ⟨Ao14, co14, eo14⟩ := Kd.R_slice HO169.out; subst eo14) | ((with_reducible refine gate_builtin (b := .append) (xs := #[.tmp 17, .tmp 22]) rfl ?_); at_builtin; refine Kd.R_append_rows Kd.string (w0 := w) w.heap.size rfl (.tmp 17) (.tmp 22) 22 9 (.string ⟨#[]⟩) 16 rfl Tryd.underlying22 info9 rfl (by decide) (by omega) u4 x4_2 y167 _ _ _ (fun k_ => some k_ ≠ (.slice (some ad166) x3_1.length co5 : Value).ownBlock ∧ some k_ ≠ (.slice Ao14 y167.length co14 : Value).ownBlock) (fun _ => False) rfl rfl ?aO ?aR (fun _ _ h => h) (fun _ h => h.elim) ?aF ?aB ?aS ?aL ?_; (case aR => repeat (first | exact (Kd.R_reads' HO169.out).2.2 | (with_reducible refine Kd.C_alloc ?_ _) | (with_reducible refine Kd.C_drewN ?_ _) | (with_reducible refine Kd.C_drew ?_))); (case aB => exact (by repeat (first | (with_reducible first | exact HB.out | apply below_alloc | apply pw_below_drewN | apply below_drew1) | exact HB.out))); (case aF => exact (fun k_ hk => ⟨Kd.fresh' (Kd.R_lt (by (with_reducible repeat (first | apply Kd.R_alloc | apply Kd.R_drewN | apply Kd.R_drew)); exact HO_11.out)) k_ hk, Kd.fresh' (Kd.R_lt (by (with_reducible repeat (first | apply Kd.R_alloc | apply Kd.R_drewN | apply Kd.R_drew)); exact HO169.out)) k_ hk⟩)); (case aO => exact (by (with_reducible repeat (first | apply Kd.R_alloc | apply Kd.R_drewN | apply Kd.R_drew)); exact HO_4.out)); (case aS => exact (below_size (by repeat (first | (with_reducible first | exact HB.out | apply below_alloc | apply pw_below_drewN | apply below_drew1) | exact HB.out)))); (case aL => have := LMc10.out; omega); intro v171 w13 ho hb hg hat; rw [← Ny170.out] at ho; have n0_ := Aside0.mk (Kd.R_after (ok := (fun k_ => some k_ ≠ (.slice Ao14 y167.length co14 : Value).ownBlock)) (by (with_reducible repeat (first | apply Kd.R_alloc | apply Kd.R_drewN | apply Kd.R_drew)); exact Kd.R_mono HO_11.out (fun _ hk => ⟨hk.2, hk.1⟩)) hg hat); have n1_ := Aside0.mk (Kd.R_after (ok := (fun k_ => some k_ ≠ (.slice (some ad166) x3_1.length co5 : Value).ownBlock)) (by (with_reducible repeat (first | apply Kd.R_alloc | apply Kd.R_drewN | apply Kd.R_drew)); exact Kd.R_mono HO169.out (fun _ hk => ⟨hk.2, hk.1.2⟩)) hg hat); have n2_ := Aside0.mk (hb); have n3_ := Aside0.mk (ho); clear HO_11; clear HO169; clear HB; clear HO_4; have HO_11 := n0_; have HO169 := n1_; have HB := n2_; have HO172 := n3_; clear n0_ n1_ n2_ n3_; clear ho hb hg hat))
           go_roundg k2
           case measure => have := HK1.out; have := HK2.out; omega
           case rel => exact ⟨(y170), (wrap64 (x13_2 + 1)), (by first | rfl | (simp; done) | (simp [*]; done)), H', ⟨by have := HK1.out; have := HK2.out; omega⟩, ⟨by (with_reducible repeat (first | apply Kd.R_alloc | apply Kd.R_drewN | apply Kd.R_drew)); exact Kd.R_mono HO172.out (fun _ hk => hk.1)⟩, ⟨by (with_reducible repeat (first | apply Kd.R_alloc | apply Kd.R_drewN | apply Kd.R_drew)); exact Kd.R_mono HO_11.out (fun _ hk => hk.2)⟩, ⟨by repeat (first | (with_reducible first | exact HB.out | apply below_alloc | apply pw_below_drewN | apply below_drew1) | exact HB.out)⟩⟩
          ·rw [if_neg c10] at H
           exact absurd H (by simp)
         ·rw [if_neg c9] at H
          exact absurd H (by simp)
        ·rw [if_neg c8] at H
         exact absurd H (by simp)
       ·rw [if_neg c7] at H
        exact absurd H (by simp)
      ·rw [if_neg c6] at H
       have c6b0 : decide (x13_2 < (x3_1.length : Int)) = false := decide_eq_false c6
       clear c6
       have H' := Aside0.mk H
       clear H
       go_wp2
       go_roundg k2
       case measure => have := HK1.out; have := HK2.out; omega
       case rel => exact ⟨(x4_2), (wrap64 (x9_1 + 1)), (by first | rfl | (simp; done) | (simp [*]; done)), H', ⟨by have := HK1.out; have := HK2.out; omega⟩, ⟨by (with_reducible repeat (first | apply Kd.R_alloc | apply Kd.R_drewN | apply Kd.R_drew)); exact Kd.R_mono HO_4.out (fun _ hk => trivial)⟩, ⟨by repeat (first | (with_reducible first | exact HB.out | apply below_alloc | apply pw_below_drewN | apply below_drew1) | exact HB.out)⟩⟩
   ·rw [if_neg c4] at H
    have c4b0 : decide (x9_1 < a0) = false := decide_eq_false c4
    clear c4
    obtain rfl := Option.some.inj H
    go_wp2
    go_ret
    exact ⟨_, by first | rfl | (simp [errW_none, errW_some] <;> rfl) | (simp [*, errW_none, errW_some] <;> rfl), by (with_reducible repeat (first | apply Kd.R_alloc | apply Kd.R_drewN | apply Kd.R_drew)); exact HO_3.out, by repeat (first | (with_reducible first | exact HB.out | apply below_alloc | apply pw_below_drewN | apply below_drew1) | exact HB.out)⟩

/-! ### slices_DeleteFunc_string_string: function 115 -/
-- by hand (wip/ext/DeleteFunc.tpl)
/-- A block of texts: f tells the first n. -/
def strsAt (w : World) (g c : Nat) (e : TypeId) (n : Nat) (f : Nat → ByteArray) : Prop := ∃ cur : Array Value, w.heap[g]? = some (.cells cur e (0, 0)) ∧ cur.size = c ∧ ∀ j, j < n → cur[j]? = some (.string (f j))
section
variable {w : World} {g c n : Nat} {e : TypeId} {f : Nat → ByteArray}
theorem strsAt_cell (h : strsAt w g c e n f) (j : Nat) (hj : j < n) : w.cell? ⟨g, j, none⟩ = some (.string (f j)) := by
  obtain ⟨cur, hh, _, hc⟩ := h
  rw [cell_of_row _ _ _ _ _ _ hh]
  exact hc j hj
theorem strsAt_frozen (h : strsAt w g c e n f) (j : Nat) : w.frozen? ⟨g, j, none⟩ = false := by
  obtain ⟨cur, hh, _⟩ := h
  exact blk_frozen hh _
theorem strsAt_set (h : strsAt w g c e n f) (j : Nat) (s : ByteArray) : strsAt (w.setCell ⟨g, j, none⟩ (.string s)) g c e n (fun i => if i = j then s else f i) := by
  obtain ⟨cur, hh, hcs, hc⟩ := h
  refine ⟨cur.setIfInBounds j (.string s), blk_set hh j _, by simpa using hcs, fun i hi => ?_⟩
  have hc := hc i hi
  have hlt : i < cur.size := (Array.getElem?_eq_some_iff.1 hc).1
  by_cases q : i = j
  · subst q; simp [hlt]
  · simp [q, Array.getElem?_setIfInBounds, Ne.symm q, hc]
theorem strsAt_below {w' : World} (h : strsAt w g c e n f) (hb : Below w.heap.size w w') : strsAt w' g c e n f := by
  obtain ⟨cur, hh, r⟩ := h
  exact ⟨cur, (hb.block g (Array.getElem?_eq_some_iff.1 hh).1).trans hh, r⟩
theorem strsAt_clear (h : strsAt w g c e n f) {o : Nat} {news : List Value} (hn : n ≤ c) (hl : o + news.length = n) : strsAt (w.setCells g o news) g c e o f := by
  obtain ⟨cur, hh, hcs, hc⟩ := h
  obtain ⟨cur', h3, h4, h5⟩ := setCells_row news o w cur hh (by omega)
  refine ⟨cur', h3, by omega, fun j hj => ?_⟩
  have e1 : cur'[j]? = cur'.toList[j]? := by simp
  have e2 : cur[j]? = cur.toList[j]? := by simp
  rw [e1, h5, List.append_assoc, List.getElem?_append_left (by rw [List.length_take, Array.length_toList]; omega), List.getElem?_take_of_lt hj, ← e2]
  exact hc j (by omega)
theorem strsAt_of {base : Nat} {ok : Nat → Prop} {xs : List ByteArray} (hR : Kd.R Kd.string e w base ok (.slice (some ⟨g, 0, none⟩) n c) xs) : n = xs.length ∧ base ≤ g ∧ n ≤ c ∧ c ≤ maxLen ∧ ok g ∧ strsAt w g c e xs.length (fun j => xs.getD j ByteArray.empty) := by
  obtain ⟨hok, inner, hown, hr⟩ := hR
  rcases hown.2 with ⟨hv, _⟩ | ⟨g', cap', cur, hv, hb, hh, h1, hcm, hcs, htake⟩
  · cases hv
  injection hv with ha hn hc
  injection ha with ha
  injection ha with hg
  subst hg; subst hc
  have hs1 : Kd.string.sz = 1 := rfl
  rw [hs1, Nat.mul_one] at hcs htake
  refine ⟨hn, hb, by omega, hcm, hok g (by simp [Value.ownBlock]), cur, hh, hcs, fun j hj => ?_⟩
  have h2 := hr.2 j xs[j] (List.getElem?_eq_getElem hj)
  have h3 : (inner.drop (j * 1)).take 1 = [Value.string xs[j]] := h2
  rw [Nat.mul_one] at h3
  have h4 : inner[j]? = some (Value.string xs[j]) := by
    have h5 : ((inner.drop j).take 1)[0]? = some (Value.string xs[j]) := by rw [h3]; rfl
    rw [List.getElem?_take_of_lt (by omega), List.getElem?_drop] at h5
    exact h5
  rw [← htake, List.getElem?_take_of_lt hj] at h4
  have e2 : cur[j]? = cur.toList[j]? := by simp
  rw [e2, h4]
  simp [List.getD, List.getElem?_eq_getElem hj]
theorem strsAt_R {base : Nat} {ok : Nat → Prop} {xs : List ByteArray} (h : strsAt w g c e n f) (hb : base ≤ g) (hk : ok g) (hn : n ≤ c) (hc : c ≤ maxLen) (hl : xs.length = n) (hf : ∀ j (hj : j < xs.length), f j = xs[j]) : Kd.R Kd.string e w base ok (.slice (some ⟨g, 0, none⟩) n c) xs := by
  obtain ⟨cur, hh, hcs, hcc⟩ := h
  refine ⟨fun k hk' => ?_, xs.map Value.string, ⟨by simp [Kd.string, Kd.scalar], .inr ⟨g, c, cur, by rw [hl], hb, hh, by omega, hc, by simp [Kd.string, Kd.scalar, hcs], ?_⟩⟩, ⟨by simp [Kd.string, Kd.scalar], fun j p hj => ?_⟩⟩
  · have : g = k := by simpa [Value.ownBlock] using hk'
    exact this ▸ hk
  · have hs1 : Kd.string.sz = 1 := rfl
    rw [hs1, Nat.mul_one]
    apply List.ext_getElem?
    intro j
    by_cases hj : j < xs.length
    · rw [List.getElem?_take_of_lt hj]
      have e2 : cur[j]? = cur.toList[j]? := by simp
      rw [← e2, hcc j (by omega), List.getElem?_map, List.getElem?_eq_getElem hj, hf j hj]
      rfl
    · rw [List.getElem?_eq_none (by rw [List.length_take]; omega), List.getElem?_eq_none (by simp; omega)]
  · have hjl := (List.getElem?_eq_some_iff.1 hj).1
    show ((xs.map Value.string).drop (j * 1)).take 1 = [Value.string p]
    rw [Nat.mul_one, List.drop_eq_getElem_cons (by simpa using hjl)]
    have := (List.getElem?_eq_some_iff.1 hj).2
    simp [this]
end
theorem below_setCells {B : Nat} {a w : World} (h : Below B a w) (g o : Nat) (vs : List Value) (hg : B ≤ g) : Below B a (w.setCells g o vs) := by
  obtain ⟨h1, h2, h3, h4⟩ := setCells_same g vs o w
  exact h.trans ⟨h1, h2, h3, by rw [h4]; exact Nat.le_refl _, fun i hi => setCells_far vs o i (by omega)⟩
/-- What is kept of the first j. -/
def keptOf (p : ByteArray → Bool) (l : List ByteArray) (j : Nat) : List ByteArray := (l.take j).filter fun x => !p x
theorem keptOf_step (p : ByteArray → Bool) (l : List ByteArray) (j : Nat) (h : j < l.length) : keptOf p l (j + 1) = if p l[j] = true then keptOf p l j else keptOf p l j ++ [l[j]] := by
  unfold keptOf
  rw [List.take_succ_eq_append_getElem h, List.filter_append]
  cases hq : p l[j] <;> simp [hq]
theorem keptOf_le (p : ByteArray → Bool) (l : List ByteArray) (j : Nat) : (keptOf p l j).length ≤ j := by
  unfold keptOf
  exact Nat.le_trans (List.length_filter_le _ _) (by rw [List.length_take]; omega)
theorem keptOf_all (p : ByteArray → Bool) (l : List ByteArray) (k : Nat) (h : k ≤ l.length) (hn : ∀ j (hj : j < l.length), j < k → p l[j] = false) : keptOf p l k = l.take k := by
  unfold keptOf
  rw [List.filter_eq_self]
  intro x hx
  obtain ⟨j, hj, rfl⟩ := List.getElem_of_mem hx
  have hj' : j < k := by rw [List.length_take] at hj; omega
  rw [List.getElem_take, hn j (by omega) hj']
  rfl
theorem idxI_cases (p : ByteArray → Bool) (l : List ByteArray) : (idxI p l = -1 ∧ ∀ j (hj : j < l.length), p l[j] = false) ∨ ∃ k : Nat, ∃ hk : k < l.length, idxI p l = (k : Int) ∧ p l[k] = true ∧ ∀ j (hj : j < l.length), j < k → p l[j] = false := by
  unfold idxI
  by_cases h : l.any p = true
  · rw [if_pos h]
    obtain ⟨x, hx, hp⟩ := List.any_eq_true.1 h
    have hlt : l.findIdx p < l.length := List.findIdx_lt_length_of_exists ⟨x, hx, hp⟩
    exact .inr ⟨l.findIdx p, hlt, rfl, List.findIdx_getElem, fun j hj hjk => by simpa using List.not_of_lt_findIdx hjk⟩
  · rw [if_neg h]
    exact .inl ⟨rfl, fun j hj => by
      cases hq : p l[j]
      · rfl
      · exact absurd (List.any_eq_true.2 ⟨l[j], List.getElem_mem hj, hq⟩) h⟩
set_option maxHeartbeats 2000000 in
set_option maxRecDepth 100000 in
theorem slices_DeleteFunc_string_string.strike (F : FuncId) (fn : Func) (hf : Tryd.prog.funcs[F]? = some fn ∧ (fn.name == "runtime.NumGoroutine") = false ∧ fn.body.isSome = true) (caps : Array Value) (p : ByteArray → Bool)
    (g n c : Nat) (l : List ByteArray) (P0 : Nat → Prop) (w0 w : World) (hB : Below w0.heap.size w0 w) (ho : Kd.R Kd.string 9 w w0.heap.size P0 (.slice (some ⟨g, 0, none⟩) n c) l)
    (hp : ∀ (w1 : World) (x : ByteArray), x ∈ l → Below w0.heap.size w0 w1 → Calls Tryd.prog F (#[.string x] ++ caps) w1 fun e w2 => e = .returned (.bool (p x)) ∧ Below w1.heap.size w1 w2) :
    Calls Tryd.prog 115 #[.slice (some ⟨g, 0, none⟩) n c, .func (.func F) #[] caps] w fun e w' => ∃ m : Nat, e = .returned (.slice (some ⟨g, 0, none⟩) m c) ∧ Kd.R Kd.string 9 w' w0.heap.size P0 (.slice (some ⟨g, 0, none⟩) m c) (l.filter fun x => !p x) ∧ Below w0.heap.size w0 w' := by
  obtain ⟨hn, hbg, hnc, hcm, hok, hst⟩ := strsAt_of ho
  subst hn
  have HC := Aside0.mk (slices_ContainsFunc_string_string.index F fn hf caps p (some ⟨g, 0, none⟩) c l w (Kd.R_reads' ho).2.2 (fun w1 x hx hb => hp w1 x hx (below_step hB hb)))
  have HP := Aside0.mk hp
  have HF := Aside0.mk hf
  have HO := Aside0.mk ho
  have HB := Aside0.mk hB
  have HOK := Aside0.mk hok
  have HS := Aside0.mk hst
  have HBG := Aside0.mk hbg
  have HCM := Aside0.mk hcm
  have hl := (Kd.R_reads' ho).2.2.2.1
  clear hp hf ho hB hok hst hbg hcm
  have hfull : keptOf p l l.length = l.filter fun x => !p x := by unfold keptOf; rw [List.take_length]
  rcases idxI_cases p l with ⟨e1, hall⟩ | ⟨k0, hk0, e1, ht, hall⟩
  · rw [e1] at HC
    have e2 : (l.filter fun x => !p x) = l := by
      rw [← hfull, keptOf_all p l l.length (Nat.le_refl _) (fun j hj _ => hall j hj), List.take_length]
    rw [e2]
    clear e2 hfull hall e1
    go_enter Tryd.func115, Tryd.ntmps115
    go_wp2_with (go_at_call 76; refine HC.out.mono ?_; rintro e w' ⟨rfl, hb⟩; have HB2 := Aside0.mk hb; clear hb)
    go_ret
    exact ⟨_, rfl, Kd.R_below HO.out HB2.out, below_step HB.out HB2.out⟩
  · rw [e1] at HC
    have hne1 : ((k0 : Int) == -1) = false := beq_eq_false_iff_ne.2 (by omega)
    have HK0 := Aside0.mk (show keptOf p l (k0 + 1) = l.take k0 by rw [keptOf_step p l k0 hk0, if_pos ht, keptOf_all p l k0 (by omega) hall])
    have HFU := Aside0.mk hfull
    clear hfull hall ht e1
    go_enter Tryd.func115, Tryd.ntmps115
    go_wp2_with (go_at_call 76; refine HC.out.mono ?_; rintro e w' ⟨rfl, hb⟩; have HB2 := Aside0.mk (below_step HB.out hb); have HS2 := Aside0.mk (strsAt_below HS.out hb); clear hb)
    go_loopg [5, 6, 7] (l.length - (k0 + 1)) (fun gg s5 s6 _ wr => ∃ (i j : Nat) (f : Nat → ByteArray), s5 = .int .i64 i ∧ s6 = .int .i64 j ∧ i < j ∧ j ≤ l.length ∧ j + gg = l.length ∧ Aside0 (i = (keptOf p l j).length) ∧ Aside0 (strsAt wr g c 9 l.length f) ∧ Aside0 (∀ q, q < i → f q = (keptOf p l j).getD q ByteArray.empty) ∧ Aside0 (∀ q, j ≤ q → f q = l.getD q ByteArray.empty) ∧ Aside0 (Below w0.heap.size w0 wr))
    case atStart => exact ⟨k0, k0 + 1, _, rfl, by go_num, by omega, by omega, by omega, ⟨by rw [HK0.out, List.length_take]; omega⟩, HS2, ⟨fun q hq => by rw [HK0.out]; simp [List.getD, List.getElem?_take_of_lt hq]⟩, ⟨fun q _ => rfl⟩, HB2⟩
    case round =>
      obtain ⟨i, j, f, rfl, rfl, hij, hjl, hj1, HI, HSf, HLO, HHI, HBf⟩ := hrel
      by_cases hlt : j < l.length
      · have hcj := strsAt_cell HSf.out j hlt
        have hfi := strsAt_frozen HSf.out i
        have hci := strsAt_cell HSf.out i (by omega)
        have ex : f j = l[j] := by rw [HHI.out j (Nat.le_refl _)]; simp [List.getD, List.getElem?_eq_getElem hlt]
        rw [ex] at hcj
        have hcall := HP.out wr l[j] (List.getElem_mem hlt) HBf.out
        have HST := Aside0.mk (keptOf_step p l j hlt)
        obtain ⟨x, hx⟩ : ∃ x, x = l[j] := ⟨_, rfl⟩
        rw [← hx] at hcj hcall ex HST
        have HEX := Aside0.mk ex
        have hjz : (j : Int) < (l.length : Int) := by omega
        clear hx ex hfi hci
        cases hpx : p x with
        | false =>
          rw [hpx] at hcall HST
          go_wp2_with ((with_reducible refine gate_dst (N := 28) rfl ?_); go_must (refine goesC_ (some 28) rfl rfl caps HF.out #[.string x] rfl rfl (by (try simp only [List.map_toArray, List.map_cons, List.map_nil]); first | done | rfl) ?_; refine hcall.mono ?_; rintro e w2 ⟨rfl, hb⟩; refine ⟨_, rfl, ?_⟩; have HB3 := Aside0.mk (below_step HBf.out hb); have HS3 := Aside0.mk (strsAt_below HSf.out hb); have hci := strsAt_cell HS3.out i (by omega); have hfi := strsAt_frozen HS3.out i; clear hb))
          go_roundg (l.length - (j + 1))
          case measure => omega
          case rel =>
            have HST' : keptOf p l (j + 1) = keptOf p l j ++ [x] := by have := HST.out; simpa using this
            refine ⟨i + 1, j + 1, _, by go_num, by go_num, by omega, by omega, by omega, ⟨by rw [HST', List.length_append, ← HI.out]; rfl⟩, ⟨strsAt_set HS3.out i x⟩, ⟨fun q hq => ?_⟩, ⟨fun q hq => ?_⟩, ⟨below_setCell HB3.out g i _ HBG.out⟩⟩
            · by_cases e : q = i
              · subst e
                rw [if_pos rfl, HST']
                have hz := HI.out
                simp [List.getD, List.getElem?_append_right (show (keptOf p l j).length ≤ q by omega), ← hz]
              · rw [if_neg e, HLO.out q (by omega), HST']
                have hz := HI.out
                simp [List.getD, List.getElem?_append_left (show q < (keptOf p l j).length by omega)]
            · rw [if_neg (by omega)]
              exact HHI.out q (by omega)
        | true =>
          rw [hpx] at hcall HST
          go_wp2_with ((with_reducible refine gate_dst (N := 28) rfl ?_); go_must (refine goesC_ (some 28) rfl rfl caps HF.out #[.string x] rfl rfl (by (try simp only [List.map_toArray, List.map_cons, List.map_nil]); first | done | rfl) ?_; refine hcall.mono ?_; rintro e w2 ⟨rfl, hb⟩; refine ⟨_, rfl, ?_⟩; have HB3 := Aside0.mk (below_step HBf.out hb); have HS3 := Aside0.mk (strsAt_below HSf.out hb); clear hb))
          go_roundg (l.length - (j + 1))
          case measure => omega
          case rel =>
            have HST' : keptOf p l (j + 1) = keptOf p l j := by have := HST.out; simpa using this
            exact ⟨i, j + 1, f, rfl, by go_num, by omega, by omega, by omega, ⟨by rw [HST']; exact HI.out⟩, HS3, ⟨by rw [HST']; exact HLO.out⟩, ⟨fun q hq => HHI.out q (by omega)⟩, HB3⟩
      · obtain rfl : j = l.length := by omega
        have hltz : ¬ (l.length : Int) < (l.length : Int) := by omega
        have hne : ¬ c = i := by omega
        have hic : i ≤ c := by omega
        obtain ⟨news, hnews⟩ : ∃ news, news = List.replicate (l.length - i) (Value.string ⟨#[]⟩) := ⟨_, rfl⟩
        have hcl : ∀ ty, (Builtin.clear_ #[22] ty #[.slice (some ⟨g, i, none⟩) (l.length - i) (c - i)]).run Tryd.prog wr = .ok (.tuple #[]) (wr.setCells g i news) := by
          intro ty
          rw [hnews]
          exact Lib.run_clear_slice wr _ _ ty _ Tryd.underlying22 (fun _ => rfl) rfl rfl g i _ _ (by omega) (fun t ht => by rw [strsAt_cell HSf.out (i + t) (by omega)]; rfl) (fun t ht => strsAt_frozen HSf.out (i + t))
        have HS4 := Aside0.mk (strsAt_clear (o := i) (news := news) HSf.out hnc (by rw [hnews, List.length_replicate]; omega))
        have HB4 := Aside0.mk (below_setCells HBf.out g i news HBG.out)
        clear hnews
        generalize wr.setCells g i news = W4 at hcl HS4 HB4
        go_wp2
        go_ret
        refine ⟨i, rfl, strsAt_R HS4.out HBG.out HOK.out hic HCM.out (by rw [← HFU.out]; exact HI.out.symm) (fun q hq => ?_), HB4.out⟩
        have hqi : q < i := by rw [← HFU.out] at hq; have := HI.out; omega
        rw [HLO.out q hqi]
        simp only [HFU.out]
        simp [List.getD, List.getElem?_eq_getElem hq]

/-! ### impl_Lamps_statesOf: function 80 -/
-- by hand (wip/ext/StatesOf.tpl)
theorem impl_Lamps_statesOf.f1 : Tryd.prog.funcs[116]? = some Tryd.f116 ∧ (Tryd.f116.name == "runtime.NumGoroutine") = false ∧ Tryd.f116.body.isSome = true := ⟨Tryd.func116, by kernel_rfl, by kernel_rfl⟩
set_option maxHeartbeats 400000 in
theorem impl_Lamps_statesOf.c1 (g : Nat) (F : FuncId) (fn : Func) (hf : Tryd.prog.funcs[F]? = some fn ∧ (fn.name == "runtime.NumGoroutine") = false ∧ fn.body.isSome = true) (caps : Array Value) (b : Bool) (s : ByteArray) (w : World) (hg : w.cell? ⟨g, 0, none⟩ = some (.func (.func F) #[] caps))
    (hp : Calls Tryd.prog F (#[.string s] ++ caps) w fun e w2 => e = .returned (.bool b) ∧ Below w.heap.size w w2) :
    Calls Tryd.prog 116 #[.string s, .pointer (some ⟨g, 0, none⟩)] w fun e w' => e = .returned (.bool (!b)) ∧ Below w.heap.size w w' := by
  have HF := Aside0.mk hf
  have HP := Aside0.mk hp
  clear hf hp
  go_enter Tryd.func116, Tryd.ntmps116
  go_wp2_with ((with_reducible refine gate_dst (N := 6) rfl ?_); go_must (refine goesC_ (some 6) rfl rfl caps HF.out #[.string s] rfl rfl (by (try simp only [List.map_toArray, List.map_cons, List.map_nil]); first | done | rfl) ?_; refine HP.out.mono ?_; rintro e w2 ⟨rfl, hb⟩; refine ⟨_, rfl, ?_⟩; have HB := Aside0.mk hb; clear hb))
  go_ret
  exact ⟨rfl, HB.out⟩
set_option maxHeartbeats 1000000 in
set_option maxRecDepth 100000 in
theorem impl_Lamps_statesOf.take (F : FuncId) (fn : Func) (hf : Tryd.prog.funcs[F]? = some fn ∧ (fn.name == "runtime.NumGoroutine") = false ∧ fn.body.isSome = true) (caps : Array Value) (p : ByteArray → Bool)
    (A : Option Addr) (c : Nat) (l r : List ByteArray) (w : World) (hr : Kd.C Kd.string w A l.length l) (hts : impl_textStates.f 3000 (l.length : Int) = some r) (hne : 0 < r.length)
    (hp : ∀ (w1 : World) (x : ByteArray), x ∈ r → Below w.heap.size w w1 → Calls Tryd.prog F (#[.string x] ++ caps) w1 fun e w2 => e = .returned (.bool (p x)) ∧ Below w1.heap.size w1 w2) :
    Calls Tryd.prog 80 #[.agg #[.slice A l.length c], .func (.func F) #[] caps] w fun e w' => ∃ v0_ : Value, e = .returned v0_ ∧ Kd.R Kd.string 9 w' w.heap.size (fun _ => True) v0_ (r.filter p) ∧ Below w.heap.size w w' := by
  have hu := Tryd.underlying37
  have hl := hr.2.1
  have hmf : ∀ (fn : Fn) (first cap : Array Value) (w : World), (Instr.makeFunc fn first cap).run Tryd.prog w = .ok (.func fn first cap) w := fun _ _ _ _ => rfl
  have HB0 := Aside0.mk (show Below w.heap.size w ((w.alloc (.cells #[.slice A l.length c] 37)).alloc (.cells #[.func (.func F) #[] caps] 90)) from ((Below.refl _ w).alloc (Nat.le_refl _) _).alloc (by simp) _)
  have HCN0 := Aside0.mk (show ((w.alloc (.cells #[.slice A l.length c] 37)).alloc (.cells #[.func (.func F) #[] caps] 90)).cell? ⟨w.heap.size + 1, 0, none⟩ = some (.func (.func F) #[] caps) from by go_simp)
  have HT := Aside0.mk (fun W => impl_textStates.calls 3000 (l.length : Int) r W hts)
  have HD := Aside0.mk (fun (W0 W1 : World) (g n1 c1 : Nat) (hb0 : Below w.heap.size w W0) (hb : Below W0.heap.size W0 W1) (hg : W0.cell? ⟨w.heap.size + 1, 0, none⟩ = some (.func (.func F) #[] caps)) (ho : Kd.R Kd.string 9 W1 W0.heap.size (fun _ => True) (.slice (some ⟨g, 0, none⟩) n1 c1) r) =>
    slices_DeleteFunc_string_string.strike 116 Tryd.f116 impl_Lamps_statesOf.f1 #[.pointer (some ⟨w.heap.size + 1, 0, none⟩)] (fun x => !p x) g n1 c1 r (fun _ => True) W0 W1 hb ho
      (fun w1 x hx hb1 => impl_Lamps_statesOf.c1 (w.heap.size + 1) F fn hf caps (p x) x w1 ((hb1.cell (World.block_lt_of_cell? W0 _ hg)).trans hg) (hp w1 x hx (below_step hb0 hb1))))
  have HNE := Aside0.mk hne
  clear hr hts hp hf hne
  obtain ⟨W0, hW0⟩ : ∃ W0, W0 = (w.alloc (.cells #[.slice A l.length c] 37)).alloc (.cells #[.func (.func F) #[] caps] 90) := ⟨_, rfl⟩
  have HW := Aside0.mk hW0
  rw [← hW0] at HB0 HCN0
  clear hW0
  go_enter Tryd.func80, Tryd.ntmps80
  go_wp2_with (first
    | (go_at_call 100; rw [← HW.out]; refine (HT.out _).mono ?_; rintro e w1 ⟨v, rfl, ho, hb⟩; obtain ⟨go, co, rfl, gb, gl, cl, hg⟩ := Kd.R_form ho HNE.out; have HO := Aside0.mk ho; have HB1 := Aside0.mk hb; clear ho hb gb gl cl hg)
    | (go_at_call 115; refine (HD.out W0 _ _ _ _ HB0.out HB1.out HCN0.out HO.out).mono ?_; rintro e w2 ⟨m, rfl, ho, hb⟩; have HO2 := Aside0.mk ho; have HB2 := Aside0.mk hb; clear ho hb))
  go_ret
  refine ⟨_, rfl, Kd.R_lower (by simpa using HO2.out) HB0.out.size, below_step HB0.out HB2.out⟩

/-! ### impl_Lamps_tick: function 82 -/
-- by hand (wip/ext/tick.tpl)
theorem implMeets_ev (nd s : ByteArray) (hz : nd.size ≤ s.size) (hm : s.size ≤ 1000) : Ev (fun k => impl_meets.f k nd s) (meetsL nd.data.toList s.data.toList) := by
  have hzn : nd.size = nd.data.toList.length := Lib.size_eq nd
  have hzs : s.size = s.data.toList.length := Lib.size_eq s
  have key : ∀ (d i : Nat), i + d = nd.size → (∀ j (hj : j < nd.data.toList.length) (hs : j < s.data.toList.length), j < i → nd.data.toList[j] = 63 ∨ nd.data.toList[j] = s.data.toList[j]) →
      Ev (fun k => impl_meets.l0 k nd s (nd.size : Int) (i : Int)) (meetsL nd.data.toList s.data.toList) := by
    intro d
    induction d with
    | zero =>
      intro i hi hp
      refine Ev.last fun k => ?_
      rw [impl_meets.l0, if_neg (by omega), meetsL_of _ _ (by omega) (fun j hj => hp j hj (by omega) (by omega))]
    | succ d ih =>
      intro i hi hp
      have h1 : i < nd.data.toList.length := by omega
      have h2 : i < s.data.toList.length := by omega
      have ew : wrap64 ((i : Int) + 1) = ((i + 1 : Nat) : Int) := by rw [w64 (by omega) (by omega)]; omega
      have e1 := bt_nat nd i h1
      have e2 := bt_nat s i h2
      have q63 : ((nd.data.toList[i].toNat : Int) = 63) = (nd.data.toList[i] = 63) := byte_toInt nd.data.toList[i] 63 (by omega)
      have qd : ((nd.data.toList[i].toNat : Int) = (s.data.toList[i].toNat : Int)) = (nd.data.toList[i] = s.data.toList[i]) := propext ⟨fun h => UInt8.toNat_inj.mp (by omega), fun h => by rw [h]⟩
      by_cases c : nd.data.toList[i] = 63 ∨ nd.data.toList[i] = s.data.toList[i]
      · refine Ev.next ⟨0, fun k _ => ?_⟩ (ih (i + 1) (by omega) (fun j hj hs h => (Nat.lt_succ_iff_lt_or_eq.1 h).elim (hp j hj hs) (fun e => by subst e; exact c)))
        rw [impl_meets.l0, if_pos (by omega), if_pos (by omega), if_pos (by omega), e1, e2, ew]
        simp only [q63, qd]
        rcases c with c | c
        · rw [if_pos c]
        · by_cases c6 : nd.data.toList[i] = 63
          · rw [if_pos c6]
          · rw [if_neg c6, if_pos (by omega), if_pos c]
      · have c1 : ¬ nd.data.toList[i] = 63 := fun h => c (.inl h)
        have c2 : ¬ nd.data.toList[i] = s.data.toList[i] := fun h => c (.inr h)
        refine Ev.last fun k => ?_
        rw [impl_meets.l0, if_pos (by omega), if_pos (by omega), if_pos (by omega), e1, e2]
        simp only [q63, qd]
        rw [if_neg c1, if_pos (by omega), if_neg c2, meetsL_not _ _ i h1 h2 c1 c2]
  have := key nd.size 0 (by omega) (fun j _ _ h => absurd h (by omega))
  exact this
def tickAt (l : List ByteArray) (s : List UInt8) (k j : Nat) : UInt8 := if j < k then (tickL l s).getD j 0 else s.getD j 0
def impl_Lamps_tick.f (l0_0 : List ByteArray) (a1 : ByteArray) : Option ByteArray := if l0_0.length = a1.size ∧ a1.size ≤ 1000 ∧ (∀ x ∈ l0_0, x.size ≤ a1.size) then some ⟨(tickL l0_0 a1.data.toList).toArray⟩ else none
set_option maxHeartbeats 1000000 in
set_option maxRecDepth 100000 in
theorem impl_Lamps_tick.calls (A0_0 : Option Addr) (c0_0 : Nat) (l0_0 : List ByteArray) (a1 : ByteArray) (r : ByteArray) (w : World) (hr0_0 : Kd.C Kd.string w A0_0 l0_0.length l0_0) (hc0_0 : l0_0.length ≤ c0_0) (h : impl_Lamps_tick.f l0_0 a1 = some r) :
    Calls Tryd.prog 82 #[.agg #[.slice A0_0 l0_0.length c0_0], .string a1] w fun e w' => e = .returned (.string r) ∧ Below w.heap.size w w' := by
  unfold impl_Lamps_tick.f at h
  split at h
  case isFalse => cases h
  case isTrue hc =>
  obtain ⟨hln, hmx, hall⟩ := hc
  have hR := Option.some.inj h
  clear h
  have hu := Tryd.underlying37
  have hus := Tryd.underlying9
  have hcv : ∀ (wx : World) (s : ByteArray), (convert 9 82 (.string s)).run Tryd.prog wx = .ok (.slice (some ⟨wx.heap.size, 0, none⟩) s.size (grownCap wx s.size 0 5)) (Lib.bytesWorld wx 5 s) := fun wx s => Lib.run_convert_string_bytes wx 9 82 5 s Tryd.underlying9 Tryd.underlying82 Tryd.underlying5
  have HR := Aside0.mk hR
  have HRR := Aside0.mk hr0_0
  have HZs := Aside0.mk (show a1.size = a1.data.toList.length from Lib.size_eq a1)
  have HLN := Aside0.mk hln
  have HMX := Aside0.mk hmx
  have HALL := Aside0.mk hall
  clear hr0_0 hR hln hmx hall
  have hcl0 : (Lib.bytesWorld (w.alloc (.cells #[.slice A0_0 l0_0.length c0_0] 37)) 5 a1).cell? ⟨w.heap.size, 0, none⟩ = some (.slice A0_0 l0_0.length c0_0) := by
    rw [Lib.bytesWorld_old _ _ _ _ (by simp)]; go_simp
  go_enter Tryd.func82, Tryd.ntmps82
  go_wp2
  have HBY := Aside0.mk (bytesAt_made (w.alloc (.cells #[.slice A0_0 l0_0.length c0_0] 37)) 5 a1)
  have HHB := Aside0.mk (below_bytes (below_alloc (Below.refl w.heap.size w) (.cells #[.slice A0_0 l0_0.length c0_0] 37)) (by simp) 5 a1)
  clear hcv
  have hsz1 : (w.alloc (.cells #[.slice A0_0 l0_0.length c0_0] 37)).heap.size = w.heap.size + 1 := by simp
  rw [hsz1] at HBY
  clear hsz1
  obtain ⟨K, hK⟩ : ∃ K, K = w.heap.size + 1 := ⟨_, rfl⟩
  rw [← hK] at HBY ⊢
  have HKB := Aside0.mk (show w.heap.size ≤ K by omega)
  clear hK
  obtain ⟨m, hm⟩ : ∃ m, m = (Lib.bytesCells (w.alloc (.cells #[.slice A0_0 l0_0.length c0_0] 37)) 5 a1).size := ⟨_, rfl⟩
  rw [← hm] at HBY
  clear hm
  generalize Lib.bytesWorld (w.alloc (.cells #[.slice A0_0 l0_0.length c0_0] 37)) 5 a1 = W0 at HBY HHB hcl0 ⊢
  generalize grownCap (w.alloc (.cells #[.slice A0_0 l0_0.length c0_0] 37)) a1.size 0 5 = cp
  go_loopg [13] l0_0.length (fun gg v13 w' => ∃ k : Nat, k + gg = l0_0.length ∧ v13 = .int .i64 k ∧ Aside0 (bytesAt w' K m 5 a1.size (tickAt l0_0 a1.data.toList k)) ∧ Aside0 (Below w.heap.size w w'))
  case atStart => exact ⟨0, by omega, rfl, ⟨bytesAt_congr HBY.out (fun j hj => by simp [tickAt])⟩, HHB⟩
  case round =>
    clear HBY HHB hcl0
    obtain ⟨k, hks, rfl, HBY, HB⟩ := hrel
    by_cases hp : k < l0_0.length
    · have hps : k < a1.size := by rw [← HLN.out]; exact hp
      have hk1000 : k < 1000 := by have := HMX.out; omega
      have hpl : k < a1.data.toList.length := by rw [← HZs.out]; exact hps
      obtain ⟨ad, rfl, hx0⟩ := Kd.at_string HRR.out (k : Int) (by omega) (by omega)
      simp only [Int.toNat_natCast] at hx0
      replace hx0 := (HB.out.cell (World.block_lt_of_cell? w _ hx0)).trans hx0
      have ex : rdOf ByteArray.empty l0_0 (k : Int) = l0_0[k] := by simp [rdOf, hp]
      rw [ex] at hx0
      clear ex
      have hndz := HALL.out l0_0[k] (List.getElem_mem hp)
      have htk : (tickL l0_0 a1.data.toList).getD k 0 = if meetsL l0_0[k].data.toList a1.data.toList = true then 97 - a1.data.toList[k] else a1.data.toList[k] := by
        have h1 : k < (tickL l0_0 a1.data.toList).length := by simp [tickL]; omega
        simp only [List.getD, List.getElem?_eq_getElem h1, Option.getD_some]
        simp [tickL]
      obtain ⟨nd, hnd⟩ : ∃ nd, nd = l0_0[k] := ⟨_, rfl⟩
      rw [← hnd] at hx0 hndz htk
      clear hnd
      obtain ⟨KK, hKK⟩ := implMeets_ev nd a1 hndz HMX.out
      have HM := Aside0.mk (hKK KK (Nat.le_refl _))
      clear hKK
      have hce := bytesAt_cell HBY.out k hps
      have hfz := bytesAt_frozen HBY.out k hps
      have et : tickAt l0_0 a1.data.toList k k = a1.data.toList[k] := by simp [tickAt, List.getD, List.getElem?_eq_getElem hpl]
      rw [et] at hce
      clear et
      obtain ⟨b, hb⟩ : ∃ b, b = a1.data.toList[k] := ⟨_, rfl⟩
      rw [← hb] at hce htk
      have HBB := Aside0.mk hb
      have HTK := Aside0.mk htk
      clear hb htk hndz
      obtain ⟨M, hM⟩ : ∃ M, M = meetsL nd.data.toList a1.data.toList := ⟨_, rfl⟩
      rw [← hM] at HM HTK
      clear hM
      have p6 : (0 ≤ (k : Int)) = True := eq_true (by omega)
      have q6 : ((k : Int) < (a1.size : Int)) = True := eq_true (by omega)
      cases M with
      | true =>
        go_wp2_with (go_at_call 117; refine (impl_meets.calls KK nd a1 true _ HM.out).mono ?_; rintro e w' ⟨rfl, ⟨n, rfl⟩⟩)
        have hsub : ((97 : Int) - (b.toNat : Int)) % 256 = ((97 - b : UInt8).toNat : Int) := by
          rw [UInt8.toNat_sub]
          have := b.toNat_lt
          have e97 : (97 : UInt8).toNat = 97 := rfl
          rw [e97]
          omega
        rw [hsub]
        go_roundg (l0_0.length - (k + 1))
        case measure => omega
        case rel =>
          refine ⟨k + 1, by omega, by go_num, ⟨bytesAt_congr (bytesAt_set (bytesAt_below HBY.out (pw_below_drewN (Below.refl _ _) n)) k (97 - b)) (fun j hj => ?_)⟩, ⟨below_setCell (below_step HB.out (pw_below_drewN (Below.refl _ _) n)) K k _ HKB.out⟩⟩
          unfold tickAt
          by_cases c : j = k
          · subst c
            rw [if_pos (by omega), if_pos rfl, HTK.out]; simp
          · rw [if_neg c]
            by_cases c2 : j < k
            · rw [if_pos (by omega), if_pos c2]
            · rw [if_neg (by omega), if_neg c2]
      | false =>
        go_wp2_with (go_at_call 117; refine (impl_meets.calls KK nd a1 false _ HM.out).mono ?_; rintro e w' ⟨rfl, ⟨n, rfl⟩⟩)
        go_roundg (l0_0.length - (k + 1))
        case measure => omega
        case rel =>
          refine ⟨k + 1, by omega, by go_num, ⟨bytesAt_congr (bytesAt_below HBY.out (pw_below_drewN (Below.refl _ _) n)) (fun j hj => ?_)⟩, ⟨below_step HB.out (pw_below_drewN (Below.refl _ _) n)⟩⟩
          unfold tickAt
          by_cases c : j = k
          · subst c
            rw [if_pos (by omega), if_neg (by omega), HTK.out, HBB.out]
            simp [List.getD, List.getElem?_eq_getElem hpl]
          · by_cases c2 : j < k
            · rw [if_pos (by omega), if_pos c2]
            · rw [if_neg (by omega), if_neg c2]
    · have hts : (tickL l0_0 a1.data.toList).length = a1.size := by rw [tickL_length _ _ (by have := HLN.out; have := HZs.out; omega)]; exact HZs.out.symm
      have hcs := bytesAt_string (P := Tryd.prog) (src := 82) (dst := 9) HBY.out Tryd.underlying82 Tryd.underlying5 Tryd.underlying9 cp (tickL l0_0 a1.data.toList) hts (fun j hj => by
        unfold tickAt
        rw [if_pos (by have := HLN.out; omega)]
        simp [List.getD, List.getElem?_eq_getElem hj])
      go_wp2
      go_ret
      exact ⟨ret_str HR.out, HB.out⟩

/-! ### impl_StatesBefore: function 46 -/
-- by hand (wip/ext/StatesBefore.tpl)
theorem impl_StatesBefore.f1 : Tryd.prog.funcs[85]? = some Tryd.f85 ∧ (Tryd.f85.name == "runtime.NumGoroutine") = false ∧ Tryd.f85.body.isSome = true := ⟨Tryd.func85, by kernel_rfl, by kernel_rfl⟩
set_option maxHeartbeats 800000 in
set_option maxRecDepth 100000 in
theorem impl_StatesBefore.c1 (g1 g2 : Nat) (A : Option Addr) (c : Nat) (l : List ByteArray) (s t t' : ByteArray) (w : World) (hcl1 : w.cell? ⟨g1, 0, none⟩ = some (.slice A l.length c)) (hcs1 : w.cell? ⟨g2, 0, none⟩ = some (.string s)) (hr : Kd.C Kd.string w A l.length l) (hc : l.length ≤ c) (ht : impl_Lamps_tick.f l t = some t') :
    Calls Tryd.prog 85 #[.string t, .pointer (some ⟨g1, 0, none⟩), .pointer (some ⟨g2, 0, none⟩)] w fun e w' => e = .returned (.bool (t'.data.toList == s.data.toList)) ∧ Below w.heap.size w w' := by
  have hu := Tryd.underlying37
  have HT := Aside0.mk (fun W (hb : Below w.heap.size w W) => impl_Lamps_tick.calls A c l t t' W (Kd.C_below hr hb) hc ht)
  clear hr ht
  go_enter Tryd.func85, Tryd.ntmps85
  go_wp2
  refine start_ (n := 6) (S := fun w' => w'.cell? ⟨g1, 0, none⟩ = some (.slice A l.length c) ∧ w'.cell? ⟨g2, 0, none⟩ = some (.string s)) (ds := []) #[false, false, false, false, false, false] (by kernel_rfl) rfl rfl ⟨hcl1, hcs1⟩ (fun hHeld => ?_)
  have hcl1 : w.drew.cell? ⟨g1, 0, none⟩ = some (.slice A l.length c) := hcl1
  have hcs1 : w.drew.cell? ⟨g2, 0, none⟩ = some (.string s) := hcs1
  have HB1 := Aside0.mk (below_drew1 (Below.refl w.heap.size w))
  generalize w.drew = W1 at hcl1 hcs1 HB1 hHeld ⊢
  refine pure_ (i := 1) (N := some 6) (v := ?_) (a' := ?_) #[false, true, false, false, false, false] rfl rfl (by kernel_rfl) (fun _ _ _ h => h) (Or.inl ⟨by rfl, ?_⟩) ?_ ?_
  rotate_left
  · intro w'
    go_simp
    with_reducible rfl
  rotate_left
  · simp only [Act.put, List.setIfInBounds_toArray, List.set_cons_zero, List.set_cons_succ, i64_w, i32_w]
    rfl
  refine take_ (i := 0) (N := some 5) (v := ?_) (a' := ?_) #[true, true, false, false, false, false] rfl rfl (by kernel_rfl) (fun _ _ _ h => h) (Or.inl ⟨by rfl, ?_⟩) hHeld ?_ ?_
  rotate_left
  · rintro w' ⟨s0, s1⟩
    go_simp
    with_reducible rfl
  rotate_left
  · simp only [Act.put, List.setIfInBounds_toArray, List.set_cons_zero, List.set_cons_succ, i64_w, i32_w]
    rfl
  refine take_ (i := 3) (N := some 8) (v := ?_) (a' := ?_) #[true, true, false, true, false, false] rfl rfl (by kernel_rfl) (fun _ _ _ h => h) (Or.inl ⟨by rfl, ?_⟩) hHeld ?_ ?_
  rotate_left
  · rintro w' ⟨s0, s1⟩
    go_simp
    with_reducible rfl
  rotate_left
  · simp only [Act.put, List.setIfInBounds_toArray, List.set_cons_zero, List.set_cons_succ, i64_w, i32_w]
    rfl
  refine one_ (i := 2) (N := some 7) #[true, true, true, true, false, false] rfl rfl (by kernel_rfl) (by decide) (fun K_ hK => ?_)
  refine goes_ Tryd.func82 (by kernel_rfl) rfl #[.agg #[.slice A l.length c], .string t] (by rfl) rfl rfl (by (try simp only [List.map_toArray, List.map_cons, List.map_nil]); first | done | rfl) ?_
  refine (HT.out _ HB1.out).mono ?_
  rintro e w2 ⟨rfl, hb⟩
  refine ⟨_, rfl, ?_⟩
  have hcl2 := (hb.cell (World.block_lt_of_cell? _ _ hcl1)).trans hcl1
  have hcs2 := (hb.cell (World.block_lt_of_cell? _ _ hcs1)).trans hcs1
  have HB2 := Aside0.mk (below_step HB1.out hb)
  clear hb hcl1 hcs1 HB1
  refine hK.out _ _ ⟨hcl2, hcs2⟩ (fun hHeld => ?_)
  clear hK K_
  refine norm_ (a' := ?_) ?_ ?_
  rotate_left
  · show Act.put _ (some 7) _ = _
    simp only [Act.put, List.setIfInBounds_toArray, List.set_cons_zero, List.set_cons_succ, i64_w, i32_w]
    rfl
  refine pure_ (i := 4) (N := some 9) (v := ?_) (a' := ?_) #[true, true, true, true, true, false] rfl rfl (by kernel_rfl) (fun _ _ _ h => h) (Or.inl ⟨by rfl, ?_⟩) ?_ ?_
  rotate_left
  · intro w'
    go_simp
    with_reducible rfl
  rotate_left
  · simp only [Act.put, List.setIfInBounds_toArray, List.set_cons_zero, List.set_cons_succ, i64_w, i32_w]
    rfl
  refine pure_ (i := 5) (N := some 4) (v := ?_) (a' := ?_) #[true, true, true, true, true, true] rfl rfl (by kernel_rfl) (fun _ _ _ h => h) (Or.inl ⟨by rfl, ?_⟩) ?_ ?_
  rotate_left
  · intro w'
    go_simp
    with_reducible rfl
  rotate_left
  · simp only [Act.put, List.setIfInBounds_toArray, List.set_cons_zero, List.set_cons_succ, i64_w, i32_w]
    rfl
  refine done_ (by kernel_rfl) ?_
  go_wp2
  go_ret
  refine ⟨?_, HB2.out⟩
  rw [← ByteArray.toList_eq, ← ByteArray.toList_eq]
  rfl
def beforeB (l : List ByteArray) (s t : ByteArray) : Bool := (tickS l t).data.toList == s.data.toList
def impl_StatesBefore.f (l0_0 : List ByteArray) (a1 : ByteArray) : Option (List ByteArray × Bool) := (impl_Lamps_lit.f l0_0 a1).bind fun b => if b = true then (impl_textStates.f 3000 (l0_0.length : Int)).bind fun r => (if 0 < r.length ∧ (r.all fun s => litR l0_0 s) = true then some (r.filter (beforeB l0_0 a1), true) else none) else some ([], false)
set_option maxHeartbeats 1000000 in
set_option maxRecDepth 100000 in
theorem impl_StatesBefore.calls (A0_0 : Option Addr) (c0_0 : Nat) (l0_0 : List ByteArray) (a1 : ByteArray) (r1 : List ByteArray) (r2 : Bool) (w : World) (hr0_0 : Kd.C Kd.string w A0_0 l0_0.length l0_0) (hc0_0 : l0_0.length ≤ c0_0) (h : impl_StatesBefore.f l0_0 a1 = some (r1, r2)) :
    Calls Tryd.prog 46 #[.agg #[.slice A0_0 l0_0.length c0_0], .string a1] w fun e w' => ∃ v0_ : Value, e = .returned (.tuple #[v0_, .bool r2]) ∧ Kd.R Kd.string 9 w' w.heap.size (fun _ => True) v0_ r1 ∧ Below w.heap.size w w' := by
  unfold impl_StatesBefore.f at h
  obtain ⟨b, hlit, h⟩ := Option.bind_eq_some_iff.mp h
  have hu := Tryd.underlying37
  have HG := Aside0.mk (fun W (hb : Below w.heap.size w W) => impl_Lamps_lit.calls A0_0 c0_0 l0_0 a1 b W (Kd.C_below hr0_0 hb) hc0_0 hlit)
  have HB0 := Aside0.mk (show Below w.heap.size w ((w.alloc (.cells #[.slice A0_0 l0_0.length c0_0] 37)).alloc (.cells #[.string a1] 9)) from ((Below.refl _ w).alloc (Nat.le_refl _) _).alloc (by simp) _)
  have HCL0 := Aside0.mk (show ((w.alloc (.cells #[.slice A0_0 l0_0.length c0_0] 37)).alloc (.cells #[.string a1] 9)).cell? ⟨w.heap.size, 0, none⟩ = some (.slice A0_0 l0_0.length c0_0) from (World.cell?_alloc_past _ _ _ (by simp)).trans (by go_simp))
  have HCS0 := Aside0.mk (show ((w.alloc (.cells #[.slice A0_0 l0_0.length c0_0] 37)).alloc (.cells #[.string a1] 9)).cell? ⟨w.heap.size + 1, 0, none⟩ = some (.string a1) from by go_simp)
  cases b with
  | false =>
    simp only [Bool.false_eq_true, if_false, Option.some.injEq, Prod.mk.injEq] at h
    obtain ⟨rfl, rfl⟩ := h
    clear hlit hr0_0
    go_enter Tryd.func46, Tryd.ntmps46
    go_wp2_with (go_at_call 72; refine (HG.out _ HB0.out).mono ?_; rintro e w1 ⟨rfl, hb⟩; have HB1 := Aside0.mk (below_step HB0.out hb); clear hb)
    go_ret2
    exact ⟨_, rfl, Kd.R_nil _ _ _ _ _, HB1.out⟩
  | true =>
    simp only [if_true] at h
    obtain ⟨r, hts, h⟩ := Option.bind_eq_some_iff.mp h
    split at h
    case isFalse => cases h
    case isTrue hcond =>
    obtain ⟨hne, hall⟩ := hcond
    simp only [Option.some.injEq, Prod.mk.injEq] at h
    obtain ⟨rfl, rfl⟩ := h
    have hmf : ∀ (fn : Fn) (first cap : Array Value) (w : World), (Instr.makeFunc fn first cap).run Tryd.prog w = .ok (.func fn first cap) w := fun _ _ _ _ => rfl
    have HS := Aside0.mk (fun (W : World) (hb : Below w.heap.size w W) (hg : W.cell? ⟨w.heap.size, 0, none⟩ = some (.slice A0_0 l0_0.length c0_0)) (hgs : W.cell? ⟨w.heap.size + 1, 0, none⟩ = some (.string a1)) =>
      impl_Lamps_statesOf.take 85 Tryd.f85 impl_StatesBefore.f1 #[.pointer (some ⟨w.heap.size, 0, none⟩), .pointer (some ⟨w.heap.size + 1, 0, none⟩)] (beforeB l0_0 a1) A0_0 c0_0 l0_0 r W (Kd.C_below hr0_0 hb) hts hne
        (fun w1 x hx hb1 => impl_StatesBefore.c1 w.heap.size (w.heap.size + 1) A0_0 c0_0 l0_0 a1 x (tickS l0_0 x) w1 ((hb1.cell (World.block_lt_of_cell? W _ hg)).trans hg) ((hb1.cell (World.block_lt_of_cell? W _ hgs)).trans hgs) (Kd.C_below hr0_0 (below_step hb hb1)) hc0_0 (by
          have hx' := List.all_eq_true.1 hall x hx
          obtain ⟨_, h1, _, h2, h3, _⟩ := lit_facts hx'
          unfold impl_Lamps_tick.f
          rw [if_pos ⟨h1, by omega, h3⟩]
          rfl)))
    clear hlit hr0_0 hts hne hall
    go_enter Tryd.func46, Tryd.ntmps46
    go_wp2_with (first
      | (go_at_call 72; refine (HG.out _ HB0.out).mono ?_; rintro e w1 ⟨rfl, hb⟩; have HB1 := Aside0.mk (below_step HB0.out hb); have hcl1 := (hb.cell (World.block_lt_of_cell? _ _ HCL0.out)).trans HCL0.out; have HCS1 := Aside0.mk ((hb.cell (World.block_lt_of_cell? _ _ HCS0.out)).trans HCS0.out); clear hb)
      | (go_at_call 80; refine (HS.out _ HB1.out (by assumption) HCS1.out).mono ?_; rintro e w2 ⟨v, rfl, ho, hb⟩; have HO := Aside0.mk (Kd.R_lower ho HB1.out.size); have HB2 := Aside0.mk (below_step HB1.out hb); clear ho hb))
    go_ret2
    exact ⟨_, rfl, HO.out, HB2.out⟩

end Go.Proofs.YtepaleeepbjkbaaDoor.PStatesBefore
