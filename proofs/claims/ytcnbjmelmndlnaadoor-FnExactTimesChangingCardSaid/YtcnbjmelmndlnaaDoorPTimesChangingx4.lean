-- PRINTED by drive.py (a program of this session's, over the kit's print.py; wip/tools/drive.py). Lean checks it.
import Derived.Test.YtcnbjmelmndlnaaDoorPTimesChangingx0
import Derived.Test.YtcnbjmelmndlnaaDoorPTimesChangingx1
import Derived.Test.YtcnbjmelmndlnaaDoorPTimesChangingx3
namespace Go.Proofs.YtcnbjmelmndlnaaDoor.PTimesChanging
open Go.RowKit Go.Proofs.YtcnbjmelmndlnaaDoorW.PrintWords Go.Proofs.YtcnbjmelmndlnaaDoorW.PrintLast Go.Proofs.YtcnbjmelmndlnaaDoorW.PrintMore
attribute [local go_sem] max2_int min2_int max_two min_two max_three min_three max_four min_four   -- for this text's walks alone
set_option linter.unusedVariables false
set_option linter.unusedSimpArgs false

/-! ### impl_Lamps_lit: function 19 -/
def impl_Lamps_lit.f (l0_0 : List ByteArray) (a1 : ByteArray) : Option (Bool) := (impl_AreLamps.f l0_0).bind fun t147 => (if t147 = true then (if (a1.size : Int) = (l0_0.length : Int) then ((strings_Trim.f a1 (⟨#[48, 49]⟩ : ByteArray)).bind fun t148 => (some (t148.toList == ([] : List UInt8)))) else (some false)) else (some false))
set_option maxHeartbeats 8000000 in
set_option maxRecDepth 100000 in
theorem impl_Lamps_lit.calls (A0_0 : Option Addr) (c0_0 : Nat) (l0_0 : List ByteArray) (a1 : ByteArray) (r : Bool) (w : World) (hr0_0 : Kd.C Kd.string w A0_0 l0_0.length l0_0) (hc0_0 : l0_0.length ≤ c0_0) (h : impl_Lamps_lit.f l0_0 a1 = some r) :
  Calls Tryd.prog 19 #[.agg #[.slice A0_0 l0_0.length c0_0], .string a1] w fun e w' => e = .returned (.bool r) ∧ Below w.heap.size w w' := by
 have hu29 := Tryd.underlying29
 have HR0_0 := Aside0.mk hr0_0
 have HC0_0 := Aside0.mk hc0_0
 clear hr0_0 hc0_0
 have HB := Aside0.mk (Below.refl w.heap.size w)
 have H : ((impl_AreLamps.f l0_0).bind fun t147 => (if t147 = true then (if (a1.size : Int) = (l0_0.length : Int) then ((strings_Trim.f a1 (⟨#[48, 49]⟩ : ByteArray)).bind fun t148 => (some (t148.toList == ([] : List UInt8)))) else (some false)) else (some false))) = some r := h
 clear h
 replace H := Option.bind_eq_some_iff.mp H
 obtain ⟨t147, A30, H⟩ := H
 replace H : (if t147 = true then (if (a1.size : Int) = (l0_0.length : Int) then ((strings_Trim.f a1 (⟨#[48, 49]⟩ : ByteArray)).bind fun t148 => (some (t148.toList == ([] : List UInt8)))) else (some false)) else (some false)) = some r := H
 have A3 := Aside0.mk A30
 clear A30
 by_cases c4 : t147 = true
 ·subst c4
  have H1 : (if (a1.size : Int) = (l0_0.length : Int) then ((strings_Trim.f a1 (⟨#[48, 49]⟩ : ByteArray)).bind fun t148 => (some (t148.toList == ([] : List UInt8)))) else (some false)) = some r := by rw [if_pos rfl] at H; exact H
  clear H
  have H := H1
  clear H1
  by_cases c5 : (a1.size : Int) = (l0_0.length : Int)
  ·rw [if_pos c5] at H
   have c5b0 : ((a1.size : Int) == (l0_0.length : Int)) = true := beq_iff_eq.mpr c5
   have c5b1 : ((a1.size : Int) != (l0_0.length : Int)) = false := bne_eq_false_iff_eq.mpr c5
   have c5b2 : (a1.size == l0_0.length) = true := by first | simpa using c5 | (simp at c5 ⊢; omega)
   clear c5
   replace H := Option.bind_eq_some_iff.mp H
   obtain ⟨t148, A60, H⟩ := H
   replace H : (some (t148.toList == ([] : List UInt8))) = some r := H
   have A6 := Aside0.mk A60
   clear A60
   obtain rfl := Option.some.inj H
   go_enter Tryd.func19, Tryd.ntmps19
   go_wp2_with (first | ((with_reducible refine gate_dst (N := 2) rfl ?_); (try (refine gate_guard (by rfl) ?_; dsimp only)); refine box_event ?hg (N := 2) ?hd (cs := #[.slice A0_0 l0_0.length c0_0]) (t := 29) ?hr ?_; (case hd => rfl); (case hg => rfl); (case hr => first | (go_simp; done) | (go_simp; rfl)); intro gb146 hg w7 hbox hb; have n0_ := Aside0.mk (below_step (by repeat (first | (with_reducible first | exact HB.out | apply below_alloc | apply pw_below_drewN | apply below_drew1) | exact HB.out)) hb); have n1_ := Aside0.mk (hbox); have n2_ := Aside0.mk ((by rw [hg]; exact (below_size (by repeat (first | (with_reducible first | exact HB.out | apply below_alloc | apply pw_below_drewN | apply below_drew1) | exact HB.out))) : w.heap.size ≤ gb146)); have n3_ := Aside0.mk ((by rw [hg]; exact (below_size (by repeat (first | (with_reducible first | exact HB.out | apply below_alloc | apply pw_below_drewN | apply below_drew1) | exact HB.out))) : w.heap.size ≤ gb146)); clear HB; have HB := n0_; have BK146 := n1_; have GW146 := n2_; have GE146 := n3_; clear n0_ n1_ n2_ n3_; clear hb hbox hg; have hcz8_0 : w7.cell? ⟨gb146, 0, none⟩ = some (.slice A0_0 l0_0.length c0_0) := (blk_cell BK146.out 0).trans rfl; have hfz8_0 := blk_frozen BK146.out 0) | ((with_reducible refine gate_callee (f := 30) rfl ?_); refine goesL_ (some 6) rfl rfl Tryd.func30 (by kernel_rfl) rfl #[.agg #[.slice A0_0 l0_0.length c0_0]] rfl (by (try simp only [List.map_toArray, List.map_cons, List.map_nil]); first | done | rfl | (simp only [List.length_drop, List.length_take]; rfl)) ?_; (with_reducible refine (impl_AreLamps.calls _ _ l0_0 true _ ?side1 ?side2 A3.out).mono ?_); (case side1 => repeat (first | exact (Kd.C_below HR0_0.out HB.out) | (with_reducible refine Kd.C_alloc ?_ _) | (with_reducible refine Kd.C_drewN ?_ _) | (with_reducible refine Kd.C_drew ?_))); (case side2 => exact HC0_0.out); rintro e w9 ⟨rfl, hb⟩; refine ⟨_, rfl, ?_⟩; have n0_ := Aside0.mk (blk_below (g := gb146) (o := .cells #[.slice A0_0 l0_0.length c0_0] 29 (0, 0)) (by (with_reducible repeat (first | refine blk_drewN ?_ _ | refine blk_drew ?_ | refine blk_alloc ?_ _)); exact BK146.out) hb); have n1_ := Aside0.mk (below_step (by repeat (first | (with_reducible first | exact HB.out | apply below_alloc | apply pw_below_drewN | apply below_drew1 | refine below_set ?_ GE146.out) | exact HB.out)) hb); clear BK146; clear HB; have BK146 := n0_; have HB := n1_; clear n0_ n1_; (try clear hb); (try clear hb2); (try clear hk); (try clear hi); have hcz10_0 : w9.cell? ⟨gb146, 0, none⟩ = some (.slice A0_0 l0_0.length c0_0) := (blk_cell BK146.out 0).trans rfl; have hfz10_0 := blk_frozen BK146.out 0) | (go_at_call 31; (with_reducible refine (strings_Trim.calls a1 (⟨#[48, 49]⟩ : ByteArray) t148 _ A6.out).mono ?_); rintro e w11 ⟨rfl, hb⟩; have n0_ := Aside0.mk (blk_below (g := gb146) (o := .cells #[.slice A0_0 l0_0.length c0_0] 29 (0, 0)) (by (with_reducible repeat (first | refine blk_drewN ?_ _ | refine blk_drew ?_ | refine blk_alloc ?_ _)); exact BK146.out) hb); have n1_ := Aside0.mk (below_step (by repeat (first | (with_reducible first | exact HB.out | apply below_alloc | apply pw_below_drewN | apply below_drew1 | refine below_set ?_ GE146.out) | exact HB.out)) hb); clear BK146; clear HB; have BK146 := n0_; have HB := n1_; clear n0_ n1_; (try clear hb); (try clear hb2); (try clear hk); (try clear hi)))
   go_ret
   exact ⟨by first | rfl | (simp [errW_none, errW_some] <;> rfl) | (simp [*, errW_none, errW_some] <;> rfl), by repeat (first | (with_reducible first | exact HB.out | apply below_alloc | apply pw_below_drewN | apply below_drew1 | refine below_set ?_ GE146.out) | exact HB.out)⟩
  ·rw [if_neg c5] at H
   have c5b0 : ((a1.size : Int) == (l0_0.length : Int)) = false := beq_eq_false_iff_ne.mpr c5
   have c5b1 : ((a1.size : Int) != (l0_0.length : Int)) = true := bne_iff_ne.mpr c5
   have c5b2 : (a1.size == l0_0.length) = false := by first | simpa using c5 | (simp at c5 ⊢; omega)
   obtain rfl := Option.some.inj H
   go_enter Tryd.func19, Tryd.ntmps19
   go_wp2_with (first | ((with_reducible refine gate_dst (N := 2) rfl ?_); (try (refine gate_guard (by rfl) ?_; dsimp only)); refine box_event ?hg (N := 2) ?hd (cs := #[.slice A0_0 l0_0.length c0_0]) (t := 29) ?hr ?_; (case hd => rfl); (case hg => rfl); (case hr => first | (go_simp; done) | (go_simp; rfl)); intro gb146 hg w12 hbox hb; have n0_ := Aside0.mk (below_step (by repeat (first | (with_reducible first | exact HB.out | apply below_alloc | apply pw_below_drewN | apply below_drew1) | exact HB.out)) hb); have n1_ := Aside0.mk (hbox); have n2_ := Aside0.mk ((by rw [hg]; exact (below_size (by repeat (first | (with_reducible first | exact HB.out | apply below_alloc | apply pw_below_drewN | apply below_drew1) | exact HB.out))) : w.heap.size ≤ gb146)); have n3_ := Aside0.mk ((by rw [hg]; exact (below_size (by repeat (first | (with_reducible first | exact HB.out | apply below_alloc | apply pw_below_drewN | apply below_drew1) | exact HB.out))) : w.heap.size ≤ gb146)); clear HB; have HB := n0_; have BK146 := n1_; have GW146 := n2_; have GE146 := n3_; clear n0_ n1_ n2_ n3_; clear hb hbox hg; have hcz13_0 : w12.cell? ⟨gb146, 0, none⟩ = some (.slice A0_0 l0_0.length c0_0) := (blk_cell BK146.out 0).trans rfl; have hfz13_0 := blk_frozen BK146.out 0) | ((with_reducible refine gate_callee (f := 30) rfl ?_); refine goesL_ (some 6) rfl rfl Tryd.func30 (by kernel_rfl) rfl #[.agg #[.slice A0_0 l0_0.length c0_0]] rfl (by (try simp only [List.map_toArray, List.map_cons, List.map_nil]); first | done | rfl | (simp only [List.length_drop, List.length_take]; rfl)) ?_; (with_reducible refine (impl_AreLamps.calls _ _ l0_0 true _ ?side1 ?side2 A3.out).mono ?_); (case side1 => repeat (first | exact (Kd.C_below HR0_0.out HB.out) | (with_reducible refine Kd.C_alloc ?_ _) | (with_reducible refine Kd.C_drewN ?_ _) | (with_reducible refine Kd.C_drew ?_))); (case side2 => exact HC0_0.out); rintro e w14 ⟨rfl, hb⟩; refine ⟨_, rfl, ?_⟩; have n0_ := Aside0.mk (blk_below (g := gb146) (o := .cells #[.slice A0_0 l0_0.length c0_0] 29 (0, 0)) (by (with_reducible repeat (first | refine blk_drewN ?_ _ | refine blk_drew ?_ | refine blk_alloc ?_ _)); exact BK146.out) hb); have n1_ := Aside0.mk (below_step (by repeat (first | (with_reducible first | exact HB.out | apply below_alloc | apply pw_below_drewN | apply below_drew1 | refine below_set ?_ GE146.out) | exact HB.out)) hb); clear BK146; clear HB; have BK146 := n0_; have HB := n1_; clear n0_ n1_; (try clear hb); (try clear hb2); (try clear hk); (try clear hi); have hcz15_0 : w14.cell? ⟨gb146, 0, none⟩ = some (.slice A0_0 l0_0.length c0_0) := (blk_cell BK146.out 0).trans rfl; have hfz15_0 := blk_frozen BK146.out 0))
   go_ret
   exact ⟨by first | rfl | (simp [errW_none, errW_some] <;> rfl) | (simp [*, errW_none, errW_some] <;> rfl), by repeat (first | (with_reducible first | exact HB.out | apply below_alloc | apply pw_below_drewN | apply below_drew1 | refine below_set ?_ GE146.out) | exact HB.out)⟩
 ·replace c4 := Bool.eq_false_iff.mpr c4
  subst c4
  have H1 : (some false) = some r := by rw [if_neg (show ¬ (false = true) by decide)] at H; exact H
  clear H
  have H := H1
  clear H1
  obtain rfl := Option.some.inj H
  go_enter Tryd.func19, Tryd.ntmps19
  go_wp2_with (first | ((with_reducible refine gate_dst (N := 2) rfl ?_); (try (refine gate_guard (by rfl) ?_; dsimp only)); refine box_event ?hg (N := 2) ?hd (cs := #[.slice A0_0 l0_0.length c0_0]) (t := 29) ?hr ?_; (case hd => rfl); (case hg => rfl); (case hr => first | (go_simp; done) | (go_simp; rfl)); intro gb146 hg w16 hbox hb; have n0_ := Aside0.mk (below_step (by repeat (first | (with_reducible first | exact HB.out | apply below_alloc | apply pw_below_drewN | apply below_drew1) | exact HB.out)) hb); have n1_ := Aside0.mk (hbox); have n2_ := Aside0.mk ((by rw [hg]; exact (below_size (by repeat (first | (with_reducible first | exact HB.out | apply below_alloc | apply pw_below_drewN | apply below_drew1) | exact HB.out))) : w.heap.size ≤ gb146)); have n3_ := Aside0.mk ((by rw [hg]; exact (below_size (by repeat (first | (with_reducible first | exact HB.out | apply below_alloc | apply pw_below_drewN | apply below_drew1) | exact HB.out))) : w.heap.size ≤ gb146)); clear HB; have HB := n0_; have BK146 := n1_; have GW146 := n2_; have GE146 := n3_; clear n0_ n1_ n2_ n3_; clear hb hbox hg; have hcz17_0 : w16.cell? ⟨gb146, 0, none⟩ = some (.slice A0_0 l0_0.length c0_0) := (blk_cell BK146.out 0).trans rfl; have hfz17_0 := blk_frozen BK146.out 0) | ((with_reducible refine gate_callee (f := 30) rfl ?_); refine goesL_ (some 6) rfl rfl Tryd.func30 (by kernel_rfl) rfl #[.agg #[.slice A0_0 l0_0.length c0_0]] rfl (by (try simp only [List.map_toArray, List.map_cons, List.map_nil]); first | done | rfl | (simp only [List.length_drop, List.length_take]; rfl)) ?_; (with_reducible refine (impl_AreLamps.calls _ _ l0_0 false _ ?side1 ?side2 A3.out).mono ?_); (case side1 => repeat (first | exact (Kd.C_below HR0_0.out HB.out) | (with_reducible refine Kd.C_alloc ?_ _) | (with_reducible refine Kd.C_drewN ?_ _) | (with_reducible refine Kd.C_drew ?_))); (case side2 => exact HC0_0.out); rintro e w18 ⟨rfl, hb⟩; refine ⟨_, rfl, ?_⟩; have n0_ := Aside0.mk (blk_below (g := gb146) (o := .cells #[.slice A0_0 l0_0.length c0_0] 29 (0, 0)) (by (with_reducible repeat (first | refine blk_drewN ?_ _ | refine blk_drew ?_ | refine blk_alloc ?_ _)); exact BK146.out) hb); have n1_ := Aside0.mk (below_step (by repeat (first | (with_reducible first | exact HB.out | apply below_alloc | apply pw_below_drewN | apply below_drew1 | refine below_set ?_ GE146.out) | exact HB.out)) hb); clear BK146; clear HB; have BK146 := n0_; have HB := n1_; clear n0_ n1_; (try clear hb); (try clear hb2); (try clear hk); (try clear hi)))
  go_ret
  exact ⟨by first | rfl | (simp [errW_none, errW_some] <;> rfl) | (simp [*, errW_none, errW_some] <;> rfl), by repeat (first | (with_reducible first | exact HB.out | apply below_alloc | apply pw_below_drewN | apply below_drew1 | refine below_set ?_ GE146.out) | exact HB.out)⟩

/-! ### impl_isTicks: function 20 -/
def impl_isTicks.f (a0 : Int) : Option (Bool) := (impl_in.f a0 0 1000000).bind fun t149 => (some t149)
set_option maxHeartbeats 8000000 in
set_option maxRecDepth 100000 in
theorem impl_isTicks.calls (a0 : Int) (r : Bool) (w : World) (h : impl_isTicks.f a0 = some r) :
  Calls Tryd.prog 20 #[.int .i64 a0] w fun e w' => e = .returned (.bool r) ∧ Drawn0 w w' := by
 have H : ((impl_in.f a0 0 1000000).bind fun t149 => (some t149)) = some r := h
 clear h
 replace H := Option.bind_eq_some_iff.mp H
 obtain ⟨t149, A20, H⟩ := H
 replace H : (some t149) = some r := H
 have A2 := Aside0.mk A20
 clear A20
 obtain rfl := Option.some.inj H
 go_enter Tryd.func20, Tryd.ntmps20
 go_wp2_with (first | ((with_reducible refine gate_callee (f := 32) rfl ?_); refine goesL_ (some 4) rfl rfl Tryd.func32 (by kernel_rfl) rfl #[.int .i64 a0, .int .i64 0, .int .i64 1000000] rfl (by (try simp only [List.map_toArray, List.map_cons, List.map_nil]); first | done | rfl | (simp only [List.length_drop, List.length_take]; rfl)) ?_; (with_reducible refine (impl_in.calls a0 0 1000000 t149 _ A2.out).mono ?_); rintro e w' ⟨rfl, ⟨nd, rfl⟩⟩; refine ⟨_, rfl, ?_⟩))
 go_ret
 exact ⟨by first | rfl | (simp; done) | (simp [*]; done), by repeat (first | exact Drawn0.refl _ | apply Drawn0.step)⟩

/-! ### impl_Lamps_tick: function 22 -/
-- by hand (wip/ext/tick.tpl)
theorem implMeets_ev (nd s : ByteArray) (hz : nd.size ≤ s.size) (hm : s.size ≤ 1000) : Ev (fun k => impl_meets.f k nd s) (meetsL nd.data.toList s.data.toList) := by
  have hzn : nd.size = nd.data.toList.length := Lib.size_eq nd
  have hzs : s.size = s.data.toList.length := Lib.size_eq s
  have key : ∀ (d i : Nat), i + d = nd.size → (∀ j (hj : j < nd.data.toList.length) (hs : j < s.data.toList.length), j < i → nd.data.toList[j] = 63 ∨ nd.data.toList[j] = s.data.toList[j]) →
      Ev (fun k => impl_meets.l0 k nd s (nd.size : Int) (i : Int)) (meetsL nd.data.toList s.data.toList) := by
    intro d
    induction d with
    | zero =>
      intro i hi hp
      refine Ev.last fun k => ?_
      rw [impl_meets.l0, if_neg (by omega), meetsL_of _ _ (by omega) (fun j hj => hp j hj (by omega) (by omega))]
    | succ d ih =>
      intro i hi hp
      have h1 : i < nd.data.toList.length := by omega
      have h2 : i < s.data.toList.length := by omega
      have ew : wrap64 ((i : Int) + 1) = ((i + 1 : Nat) : Int) := by rw [w64 (by omega) (by omega)]; omega
      have e1 := bt_nat nd i h1
      have e2 := bt_nat s i h2
      have q63 : ((nd.data.toList[i].toNat : Int) = 63) = (nd.data.toList[i] = 63) := byte_toInt nd.data.toList[i] 63 (by omega)
      have qd : ((nd.data.toList[i].toNat : Int) = (s.data.toList[i].toNat : Int)) = (nd.data.toList[i] = s.data.toList[i]) := propext ⟨fun h => UInt8.toNat_inj.mp (by omega), fun h => by rw [h]⟩
      by_cases c : nd.data.toList[i] = 63 ∨ nd.data.toList[i] = s.data.toList[i]
      · refine Ev.next ⟨0, fun k _ => ?_⟩ (ih (i + 1) (by omega) (fun j hj hs h => (Nat.lt_succ_iff_lt_or_eq.1 h).elim (hp j hj hs) (fun e => by subst e; exact c)))
        rw [impl_meets.l0, if_pos (by omega), if_pos (by omega), if_pos (by omega), e1, e2, ew]
        simp only [q63, qd]
        rcases c with c | c
        · rw [if_pos c]
        · by_cases c6 : nd.data.toList[i] = 63
          · rw [if_pos c6]
          · rw [if_neg c6, if_pos (by omega), if_pos c]
      · have c1 : ¬ nd.data.toList[i] = 63 := fun h => c (.inl h)
        have c2 : ¬ nd.data.toList[i] = s.data.toList[i] := fun h => c (.inr h)
        refine Ev.last fun k => ?_
        rw [impl_meets.l0, if_pos (by omega), if_pos (by omega), if_pos (by omega), e1, e2]
        simp only [q63, qd]
        rw [if_neg c1, if_pos (by omega), if_neg c2, meetsL_not _ _ i h1 h2 c1 c2]
  have := key nd.size 0 (by omega) (fun j _ _ h => absurd h (by omega))
  exact this
def tickAt (l : List ByteArray) (s : List UInt8) (k j : Nat) : UInt8 := if j < k then (tickL l s).getD j 0 else s.getD j 0
def impl_Lamps_tick.f (l0_0 : List ByteArray) (a1 : ByteArray) : Option ByteArray := if l0_0.length = a1.size ∧ a1.size ≤ 1000 ∧ (∀ x ∈ l0_0, x.size ≤ a1.size) then some ⟨(tickL l0_0 a1.data.toList).toArray⟩ else none
set_option maxHeartbeats 1000000 in
set_option maxRecDepth 100000 in
theorem impl_Lamps_tick.calls (A0_0 : Option Addr) (c0_0 : Nat) (l0_0 : List ByteArray) (a1 : ByteArray) (r : ByteArray) (w : World) (hr0_0 : Kd.C Kd.string w A0_0 l0_0.length l0_0) (hc0_0 : l0_0.length ≤ c0_0) (h : impl_Lamps_tick.f l0_0 a1 = some r) :
    Calls Tryd.prog 22 #[.agg #[.slice A0_0 l0_0.length c0_0], .string a1] w fun e w' => e = .returned (.string r) ∧ Below w.heap.size w w' := by
  unfold impl_Lamps_tick.f at h
  split at h
  case isFalse => cases h
  case isTrue hc =>
  obtain ⟨hln, hmx, hall⟩ := hc
  have hR := Option.some.inj h
  clear h
  have hu := Tryd.underlying29
  have hus := Tryd.underlying9
  have hcv : ∀ (wx : World) (s : ByteArray), (convert 9 51 (.string s)).run Tryd.prog wx = .ok (.slice (some ⟨wx.heap.size, 0, none⟩) s.size (grownCap wx s.size 0 5)) (Lib.bytesWorld wx 5 s) := fun wx s => Lib.run_convert_string_bytes wx 9 51 5 s Tryd.underlying9 Tryd.underlying51 Tryd.underlying5
  have HR := Aside0.mk hR
  have HRR := Aside0.mk hr0_0
  have HZs := Aside0.mk (show a1.size = a1.data.toList.length from Lib.size_eq a1)
  have HLN := Aside0.mk hln
  have HMX := Aside0.mk hmx
  have HALL := Aside0.mk hall
  clear hr0_0 hR hln hmx hall
  have hcl0 : (Lib.bytesWorld (w.alloc (.cells #[.slice A0_0 l0_0.length c0_0] 29)) 5 a1).cell? ⟨w.heap.size, 0, none⟩ = some (.slice A0_0 l0_0.length c0_0) := by
    rw [Lib.bytesWorld_old _ _ _ _ (by simp)]; go_simp
  go_enter Tryd.func22, Tryd.ntmps22
  go_wp2
  have HBY := Aside0.mk (bytesAt_made (w.alloc (.cells #[.slice A0_0 l0_0.length c0_0] 29)) 5 a1)
  have HHB := Aside0.mk (below_bytes (below_alloc (Below.refl w.heap.size w) (.cells #[.slice A0_0 l0_0.length c0_0] 29)) (by simp) 5 a1)
  clear hcv
  have hsz1 : (w.alloc (.cells #[.slice A0_0 l0_0.length c0_0] 29)).heap.size = w.heap.size + 1 := by simp
  rw [hsz1] at HBY
  clear hsz1
  obtain ⟨K, hK⟩ : ∃ K, K = w.heap.size + 1 := ⟨_, rfl⟩
  rw [← hK] at HBY ⊢
  have HKB := Aside0.mk (show w.heap.size ≤ K by omega)
  clear hK
  obtain ⟨m, hm⟩ : ∃ m, m = (Lib.bytesCells (w.alloc (.cells #[.slice A0_0 l0_0.length c0_0] 29)) 5 a1).size := ⟨_, rfl⟩
  rw [← hm] at HBY
  clear hm
  generalize Lib.bytesWorld (w.alloc (.cells #[.slice A0_0 l0_0.length c0_0] 29)) 5 a1 = W0 at HBY HHB hcl0 ⊢
  generalize grownCap (w.alloc (.cells #[.slice A0_0 l0_0.length c0_0] 29)) a1.size 0 5 = cp
  go_loopg [13] l0_0.length (fun gg v13 w' => ∃ k : Nat, k + gg = l0_0.length ∧ v13 = .int .i64 k ∧ Aside0 (bytesAt w' K m 5 a1.size (tickAt l0_0 a1.data.toList k)) ∧ Aside0 (Below w.heap.size w w'))
  case atStart => exact ⟨0, by omega, rfl, ⟨bytesAt_congr HBY.out (fun j hj => by simp [tickAt])⟩, HHB⟩
  case round =>
    clear HBY HHB hcl0
    obtain ⟨k, hks, rfl, HBY, HB⟩ := hrel
    by_cases hp : k < l0_0.length
    · have hps : k < a1.size := by rw [← HLN.out]; exact hp
      have hk1000 : k < 1000 := by have := HMX.out; omega
      have hpl : k < a1.data.toList.length := by rw [← HZs.out]; exact hps
      obtain ⟨ad, rfl, hx0⟩ := Kd.at_string HRR.out (k : Int) (by omega) (by omega)
      simp only [Int.toNat_natCast] at hx0
      replace hx0 := (HB.out.cell (World.block_lt_of_cell? w _ hx0)).trans hx0
      have ex : rdOf ByteArray.empty l0_0 (k : Int) = l0_0[k] := by simp [rdOf, hp]
      rw [ex] at hx0
      clear ex
      have hndz := HALL.out l0_0[k] (List.getElem_mem hp)
      have htk : (tickL l0_0 a1.data.toList).getD k 0 = if meetsL l0_0[k].data.toList a1.data.toList = true then 97 - a1.data.toList[k] else a1.data.toList[k] := by
        have h1 : k < (tickL l0_0 a1.data.toList).length := by simp [tickL]; omega
        simp only [List.getD, List.getElem?_eq_getElem h1, Option.getD_some]
        simp [tickL]
      obtain ⟨nd, hnd⟩ : ∃ nd, nd = l0_0[k] := ⟨_, rfl⟩
      rw [← hnd] at hx0 hndz htk
      clear hnd
      obtain ⟨KK, hKK⟩ := implMeets_ev nd a1 hndz HMX.out
      have HM := Aside0.mk (hKK KK (Nat.le_refl _))
      clear hKK
      have hce := bytesAt_cell HBY.out k hps
      have hfz := bytesAt_frozen HBY.out k hps
      have et : tickAt l0_0 a1.data.toList k k = a1.data.toList[k] := by simp [tickAt, List.getD, List.getElem?_eq_getElem hpl]
      rw [et] at hce
      clear et
      obtain ⟨b, hb⟩ : ∃ b, b = a1.data.toList[k] := ⟨_, rfl⟩
      rw [← hb] at hce htk
      have HBB := Aside0.mk hb
      have HTK := Aside0.mk htk
      clear hb htk hndz
      obtain ⟨M, hM⟩ : ∃ M, M = meetsL nd.data.toList a1.data.toList := ⟨_, rfl⟩
      rw [← hM] at HM HTK
      clear hM
      have p6 : (0 ≤ (k : Int)) = True := eq_true (by omega)
      have q6 : ((k : Int) < (a1.size : Int)) = True := eq_true (by omega)
      cases M with
      | true =>
        go_wp2_with (go_at_call 33; refine (impl_meets.calls KK nd a1 true _ HM.out).mono ?_; rintro e w' ⟨rfl, ⟨n, rfl⟩⟩)
        have hsub : ((97 : Int) - (b.toNat : Int)) % 256 = ((97 - b : UInt8).toNat : Int) := by
          rw [UInt8.toNat_sub]
          have := b.toNat_lt
          have e97 : (97 : UInt8).toNat = 97 := rfl
          rw [e97]
          omega
        rw [hsub]
        go_roundg (l0_0.length - (k + 1))
        case measure => omega
        case rel =>
          refine ⟨k + 1, by omega, by go_num, ⟨bytesAt_congr (bytesAt_set (bytesAt_below HBY.out (pw_below_drewN (Below.refl _ _) n)) k (97 - b)) (fun j hj => ?_)⟩, ⟨below_setCell (below_step HB.out (pw_below_drewN (Below.refl _ _) n)) K k _ HKB.out⟩⟩
          unfold tickAt
          by_cases c : j = k
          · subst c
            rw [if_pos (by omega), if_pos rfl, HTK.out]; simp
          · rw [if_neg c]
            by_cases c2 : j < k
            · rw [if_pos (by omega), if_pos c2]
            · rw [if_neg (by omega), if_neg c2]
      | false =>
        go_wp2_with (go_at_call 33; refine (impl_meets.calls KK nd a1 false _ HM.out).mono ?_; rintro e w' ⟨rfl, ⟨n, rfl⟩⟩)
        go_roundg (l0_0.length - (k + 1))
        case measure => omega
        case rel =>
          refine ⟨k + 1, by omega, by go_num, ⟨bytesAt_congr (bytesAt_below HBY.out (pw_below_drewN (Below.refl _ _) n)) (fun j hj => ?_)⟩, ⟨below_step HB.out (pw_below_drewN (Below.refl _ _) n)⟩⟩
          unfold tickAt
          by_cases c : j = k
          · subst c
            rw [if_pos (by omega), if_neg (by omega), HTK.out, HBB.out]
            simp [List.getD, List.getElem?_eq_getElem hpl]
          · by_cases c2 : j < k
            · rw [if_pos (by omega), if_pos c2]
            · rw [if_neg (by omega), if_neg c2]
    · have hts : (tickL l0_0 a1.data.toList).length = a1.size := by rw [tickL_length _ _ (by have := HLN.out; have := HZs.out; omega)]; exact HZs.out.symm
      have hcs := bytesAt_string (P := Tryd.prog) (src := 51) (dst := 9) HBY.out Tryd.underlying51 Tryd.underlying5 Tryd.underlying9 cp (tickL l0_0 a1.data.toList) hts (fun j hj => by
        unfold tickAt
        rw [if_pos (by have := HLN.out; omega)]
        simp [List.getD, List.getElem?_eq_getElem hj])
      go_wp2
      go_ret
      exact ⟨ret_str HR.out, HB.out⟩

/-! ### impl_Lamps_course: function 21 -/
-- by hand (wip/ext/course.tpl)
def impl_Lamps_course.f (l0_0 : List ByteArray) (a1 : ByteArray) : Option (List ByteArray × Int) := if litR l0_0 a1 = true then courseP (tickS l0_0) 1100 [] a1 else none
theorem impl_Lamps_course.info : (Tryd.prog.info? 9).map (fun i => (i.zero, i.size, i.bytes)) = some (some (.string ⟨#[]⟩), 1, 16) := by kernel_rfl
set_option maxHeartbeats 1000000 in
set_option maxRecDepth 100000 in
theorem impl_Lamps_course.calls (A0_0 : Option Addr) (c0_0 : Nat) (l0_0 : List ByteArray) (a1 : ByteArray) (r1 : List ByteArray) (r2 : Int) (w : World) (hr0_0 : Kd.C Kd.string w A0_0 l0_0.length l0_0) (hc0_0 : l0_0.length ≤ c0_0) (h : impl_Lamps_course.f l0_0 a1 = some (r1, r2)) :
    Calls Tryd.prog 21 #[.agg #[.slice A0_0 l0_0.length c0_0], .string a1] w fun e w' => ∃ v0_ : Value, e = .returned (.tuple #[v0_, .int .i64 r2]) ∧ Kd.R Kd.string 9 w' w.heap.size (fun _ => True) v0_ r1 ∧ Below w.heap.size w w' := by
  unfold impl_Lamps_course.f at h
  split at h
  case isFalse => cases h
  case isTrue hlit =>
  have hu := Tryd.underlying29
  have hus := Tryd.underlying9
  have hz0 : ∀ wx, (zeroValue 3).run Tryd.prog wx = .ok (.int .i64 0) wx := fun wx => by go_simp
  have hmk : ∀ wx, (Instr.makeMap 53 none).run Tryd.prog wx = .ok (.map (some wx.heap.size)) (wx.alloc (.map #[] 0)) := fun wx => run_makeMap 53 wx
  have HH := Aside0.mk h
  have HLIT := Aside0.mk hlit
  have HRR := Aside0.mk hr0_0
  clear h hlit hr0_0
  go_enter Tryd.func21, Tryd.ntmps21
  go_wp2
  have HM0 := Aside0.mk (mapHas_made Tryd.prog 9 3 (w.alloc (.cells #[.slice A0_0 l0_0.length c0_0] 29)))
  have HB0 := Aside0.mk (show Below w.heap.size w ((w.alloc (.cells #[.slice A0_0 l0_0.length c0_0] 29)).alloc (.map #[] 0)) from ((Below.refl _ w).alloc (Nat.le_refl _) _).alloc (by simp) _)
  have BK0 := Aside0.mk (show ((w.alloc (.cells #[.slice A0_0 l0_0.length c0_0] 29)).alloc (.map #[] 0)).heap[w.heap.size]? = some (.cells #[.slice A0_0 l0_0.length c0_0] 29 (0, 0)) from blk_alloc (MapKept.heap_alloc w _).1 _)
  have hsz1 : (w.alloc (.cells #[.slice A0_0 l0_0.length c0_0] 29)).heap.size = w.heap.size + 1 := by simp
  rw [hsz1] at HM0
  clear hsz1 hmk
  obtain ⟨MB, hMB⟩ : ∃ MB, MB = w.heap.size + 1 := ⟨_, rfl⟩
  rw [← hMB] at HM0 ⊢
  have HMB := Aside0.mk (show w.heap.size < MB by omega)
  clear hMB
  generalize (w.alloc (.cells #[.slice A0_0 l0_0.length c0_0] 29)).alloc (.map #[] 0) = W0 at HM0 HB0 BK0 ⊢
  go_loopg [1, 7] 1100 (fun gg v1 v7 w' => ∃ (s : ByteArray) (acc : List ByteArray), v1 = .string s ∧ Aside0 (courseP (tickS l0_0) gg acc s = some (r1, r2)) ∧ Aside0 (litR l0_0 s = true) ∧ Aside0 (acc.length + gg ≤ 1100) ∧ Aside0 (Kd.R Kd.string 9 w' w.heap.size (fun _ => True) v7 acc) ∧ Aside0 (mapHas Tryd.prog 9 3 w' MB acc) ∧ Aside0 (w'.heap[w.heap.size]? = some (.cells #[.slice A0_0 l0_0.length c0_0] 29 (0, 0))) ∧ Aside0 (Below w.heap.size w w'))
  case atStart => exact ⟨a1, [], rfl, HH, HLIT, ⟨by simp⟩, ⟨Kd.R_nil _ _ _ _ _⟩, HM0, BK0, HB0⟩
  case round =>
    clear HM0 HB0 BK0 HH HLIT
    obtain ⟨s, acc, rfl, HA, HLIT, HL, HO, HM, BK, HB⟩ := hrel
    cases gk with
    | zero => exact absurd HA.out (by simp [courseP])
    | succ k1 =>
      obtain ⟨A, c, rfl⟩ := Kd.R_slice HO.out
      have hsm : s.size ≤ maxLen := by have := (lit_facts HLIT.out).2.2.2.1; simp only [maxLen]; omega
      have hlk := mapHas_look (t := 53) HM.out Tryd.underlying9 Tryd.underlying53 Tryd.underlying3 (hz0 wr) s hsm
      have H := HA.out
      clear HA
      rw [courseP] at H
      by_cases hm : s ∈ acc
      · rw [if_pos hm] at H hlk
        simp only [Option.some.injEq, Prod.mk.injEq] at H
        obtain ⟨rfl, rfl⟩ := H
        clear hm
        go_wp2
        go_ret2
        exact ⟨_, rfl, HO.out, HB.out⟩
      · rw [if_neg hm] at H hlk
        have H' := Aside0.mk H
        clear H
        obtain ⟨w1, hup, hm1, hg1⟩ := mapHas_put (t := 53) HM.out Tryd.underlying9 Tryd.underlying53 Tryd.underlying3 s hsm (by have := HL.out; omega) hm
        obtain ⟨es_, c_, hbm⟩ := mapHas_block HM.out
        have HO1 := Aside0.mk (R_map HO.out hbm hg1)
        have BK1 := Aside0.mk (blk_grown BK.out hg1 (by have := HMB.out; intro h; cases h; omega))
        have HB1 := Aside0.mk (HB.out.grown hg1 (below_size HB.out) (fun k' hk' => by cases hk'; exact Nat.le_of_lt HMB.out))
        have HM1 := Aside0.mk hm1
        have HTK := Aside0.mk (show impl_Lamps_tick.f l0_0 s = some (tickS l0_0 s) by
          obtain ⟨_, h1, _, h2, h3, h4⟩ := lit_facts HLIT.out
          unfold impl_Lamps_tick.f
          rw [if_pos ⟨h1, by omega, h3⟩]
          rfl)
        clear hm hm1 hg1 hbm HO HM BK HB hsm
        go_wp2_with (first
          | ((with_reducible refine gate_builtin (b := .append) (xs := #[.tmp 24, .tmp 26]) rfl ?_); at_builtin; refine Kd.R_append Kd.string (w0 := w) w.heap.size rfl (.tmp 24) (.tmp 26) 22 9 (.string ⟨#[]⟩) 16 rfl Tryd.underlying22 impl_Lamps_course.info rfl (by decide) (by omega) (.slice A acc.length c) acc s [.string s] (fun _ => True) (fun _ => False) rfl rfl rfl (fun _ hk => hk.elim) (fun _ _ => trivial) HO1.out HB1.out (below_size HB1.out) (by have := HL.out; omega) ?_; intro v2 w2 ho hb hg hat; have HO2 := Aside0.mk ho; have HB2 := Aside0.mk hb; have HM2 := Aside0.mk (mapHas_kept HM1.out hg (by obtain ⟨es2_, c2_, hbm2⟩ := mapHas_block HM1.out; intro he; obtain ⟨cs_, hcs_⟩ := Kd.R_typed HO1.out MB he.symm; rw [hbm2] at hcs_; cases hcs_)); have BK2 := Aside0.mk (blk_grown BK1.out hg (Kd.R_ne HO1.out BK1.out (by decide))); have hcl2 := (blk_cell BK2.out 0).trans rfl; clear ho hb hg hat)
          | (go_at_call 22; refine (impl_Lamps_tick.calls A0_0 c0_0 l0_0 s (tickS l0_0 s) _ (Kd.C_below HRR.out HB2.out) hc0_0 HTK.out).mono ?_; rintro e w3 ⟨rfl, hb⟩; have HO3 := Aside0.mk (Kd.R_below HO2.out hb); have HM3 := Aside0.mk (mapHas_below HM2.out hb); have BK3 := Aside0.mk (blk_below BK2.out hb); have HB3 := Aside0.mk (below_step HB2.out hb); clear hb hcl2))
        go_roundg k1
        case measure => omega
        case rel => exact ⟨tickS l0_0 s, acc ++ [s], rfl, H', ⟨lit_tick HLIT.out⟩, ⟨by have := HL.out; simp; omega⟩, HO3, HM3, BK3, HB3⟩

/-! ### impl_TimesChanging: function 7 -/
mutual
def impl_TimesChanging.j0 : Nat → ByteArray → Int → Bool → List ByteArray → Option (List Int × Bool)
 | 0, _, _, _, _ => none
 | k + 1, x1, x2, x24, x151000 => if x24 = true then (some (([] : List Int), false)) else ((impl_Lamps_course.f x151000 x1).bind fun bt153 => (if 0 ≤ (x1.size : Int) then (if ((x1.size : Int) : Int).toNat ≤ 35184372088832 then (impl_TimesChanging.l0 k x2 bt153.1 bt153.2 (List.replicate ((x1.size : Int) : Int).toNat 0) bt153.1 (bt153.1.length : Int) 0 x151000) else (none)) else (none)))
def impl_TimesChanging.l0 : Nat → Int → List ByteArray → Int → List Int → List ByteArray → Int → Int → List ByteArray → Option (List Int × Bool)
 | 0, _, _, _, _, _, _, _, _ => none
 | k + 1, x2, x8, x9, x10, x34, x35, x36, x151000 => if x36 < x35 then (if 0 ≤ x36 then (if x36 < (x34.length : Int) then (if x36 ≥ x2 then (impl_TimesChanging.j2 k x2 x8 x9 x10 (rdOf ByteArray.empty x34 x36) 0 x34 x35 x36 x151000) else (if x36 < x9 then (impl_TimesChanging.j2 k x2 x8 x9 x10 (rdOf ByteArray.empty x34 x36) 1 x34 x35 x36 x151000) else (if (wrap64 ((x8.length : Int) - x9)) = 0 then (none) else (impl_TimesChanging.j2 k x2 x8 x9 x10 (rdOf ByteArray.empty x34 x36) (wrap64 ((wrap64 (Int.tdiv (wrap64 ((wrap64 (x2 - 1)) - x36)) (wrap64 ((x8.length : Int) - x9)))) + 1)) x34 x35 x36 x151000)))) else (none)) else (none)) else (some (x10, true))
def impl_TimesChanging.j2 : Nat → Int → List ByteArray → Int → List Int → ByteArray → Int → List ByteArray → Int → Int → List ByteArray → Option (List Int × Bool)
 | 0, _, _, _, _, _, _, _, _, _, _ => none
 | k + 1, x2, x8, x9, x10, x12, x13, x34, x35, x36, x151000 => (impl_Lamps_tick.f x151000 x12).bind fun t161 => (impl_TimesChanging.l1 k x2 x8 x9 x10 x12 x13 t161 x34 x35 x36 (x10.length : Int) 0 x151000)
def impl_TimesChanging.l1 : Nat → Int → List ByteArray → Int → List Int → ByteArray → Int → ByteArray → List ByteArray → Int → Int → Int → Int → List ByteArray → Option (List Int × Bool)
 | 0, _, _, _, _, _, _, _, _, _, _, _, _, _ => none
 | k + 1, x2, x8, x9, x10, x12, x13, x14, x34, x35, x36, x63, x64, x151000 => if x64 < x63 then (if 0 ≤ x64 then (if x64 < (x14.size : Int) then (if x64 < (x12.size : Int) then (if (bt x14 x64) = (bt x12 x64) then (impl_TimesChanging.l1 k x2 x8 x9 x10 x12 x13 x14 x34 x35 x36 x63 (wrap64 (x64 + 1)) x151000) else (if x64 < (x10.length : Int) then (impl_TimesChanging.l1 k x2 x8 x9 (x10.set (x64 : Int).toNat (wrap64 ((rd x10 x64) + x13))) x12 x13 x14 x34 x35 x36 x63 (wrap64 (x64 + 1)) x151000) else (none))) else (none)) else (none)) else (none)) else (impl_TimesChanging.l0 k x2 x8 x9 x10 x34 x35 (wrap64 (x36 + 1)) x151000)
end
def impl_TimesChanging.f (k : Nat) (l0_0 : List ByteArray) (a1 : ByteArray) (a2 : Int) : Option (List Int × Bool) := (impl_Lamps_lit.f l0_0 a1).bind fun t151 => (if t151 = true then ((impl_isTicks.f a2).bind fun t152 => (impl_TimesChanging.j0 k a1 a2 (!t152) l0_0)) else (impl_TimesChanging.j0 k a1 a2 true l0_0))
theorem impl_TimesChanging.mono_l : ∀ k, (∀ y0 y1 y2 y3, LeO (impl_TimesChanging.j0 k y0 y1 y2 y3) (impl_TimesChanging.j0 (k + 1) y0 y1 y2 y3)) ∧ (∀ y0 y1 y2 y3 y4 y5 y6 y7, LeO (impl_TimesChanging.l0 k y0 y1 y2 y3 y4 y5 y6 y7) (impl_TimesChanging.l0 (k + 1) y0 y1 y2 y3 y4 y5 y6 y7)) ∧ (∀ y0 y1 y2 y3 y4 y5 y6 y7 y8 y9, LeO (impl_TimesChanging.j2 k y0 y1 y2 y3 y4 y5 y6 y7 y8 y9) (impl_TimesChanging.j2 (k + 1) y0 y1 y2 y3 y4 y5 y6 y7 y8 y9)) ∧ (∀ y0 y1 y2 y3 y4 y5 y6 y7 y8 y9 y10 y11 y12, LeO (impl_TimesChanging.l1 k y0 y1 y2 y3 y4 y5 y6 y7 y8 y9 y10 y11 y12) (impl_TimesChanging.l1 (k + 1) y0 y1 y2 y3 y4 y5 y6 y7 y8 y9 y10 y11 y12))
 | 0 => ⟨fun _ _ _ _ r h => by simp [impl_TimesChanging.j0] at h, fun _ _ _ _ _ _ _ _ r h => by simp [impl_TimesChanging.l0] at h, fun _ _ _ _ _ _ _ _ _ _ r h => by simp [impl_TimesChanging.j2] at h, fun _ _ _ _ _ _ _ _ _ _ _ _ _ r h => by simp [impl_TimesChanging.l1] at h⟩
 | k + 1 => by
  obtain ⟨ih0, ih1, ih2, ih3⟩ := impl_TimesChanging.mono_l k
  refine ⟨?_, ?_, ?_, ?_⟩
  ·intro y0 y1 y2 y3
   unfold impl_TimesChanging.j0
   repeat' first
   | (with_reducible exact ih0 _ _ _ _)
   | (with_reducible exact ih1 _ _ _ _ _ _ _ _)
   | (with_reducible exact ih2 _ _ _ _ _ _ _ _ _ _)
   | (with_reducible exact ih3 _ _ _ _ _ _ _ _ _ _ _ _ _)
   | (with_reducible exact LeO.refl _)
   | (with_reducible exact LeO.none _)
   | (with_reducible refine LeO.ite ?_ ?_)
   | (with_reducible refine LeO.bind ?_ (fun _ => ?_))
   | exact ih0 _ _ _ _
   | exact ih1 _ _ _ _ _ _ _ _
   | exact ih2 _ _ _ _ _ _ _ _ _ _
   | exact ih3 _ _ _ _ _ _ _ _ _ _ _ _ _
   | exact LeO.none _
   | refine LeO.ite ?_ ?_
   | refine LeO.bind ?_ (fun _ => ?_)
  ·intro y0 y1 y2 y3 y4 y5 y6 y7
   unfold impl_TimesChanging.l0
   repeat' first
   | (with_reducible exact ih0 _ _ _ _)
   | (with_reducible exact ih1 _ _ _ _ _ _ _ _)
   | (with_reducible exact ih2 _ _ _ _ _ _ _ _ _ _)
   | (with_reducible exact ih3 _ _ _ _ _ _ _ _ _ _ _ _ _)
   | (with_reducible exact LeO.refl _)
   | (with_reducible exact LeO.none _)
   | (with_reducible refine LeO.ite ?_ ?_)
   | (with_reducible refine LeO.bind ?_ (fun _ => ?_))
   | exact ih0 _ _ _ _
   | exact ih1 _ _ _ _ _ _ _ _
   | exact ih2 _ _ _ _ _ _ _ _ _ _
   | exact ih3 _ _ _ _ _ _ _ _ _ _ _ _ _
   | exact LeO.none _
   | refine LeO.ite ?_ ?_
   | refine LeO.bind ?_ (fun _ => ?_)
  ·intro y0 y1 y2 y3 y4 y5 y6 y7 y8 y9
   unfold impl_TimesChanging.j2
   repeat' first
   | (with_reducible exact ih0 _ _ _ _)
   | (with_reducible exact ih1 _ _ _ _ _ _ _ _)
   | (with_reducible exact ih2 _ _ _ _ _ _ _ _ _ _)
   | (with_reducible exact ih3 _ _ _ _ _ _ _ _ _ _ _ _ _)
   | (with_reducible exact LeO.refl _)
   | (with_reducible exact LeO.none _)
   | (with_reducible refine LeO.ite ?_ ?_)
   | (with_reducible refine LeO.bind ?_ (fun _ => ?_))
   | exact ih0 _ _ _ _
   | exact ih1 _ _ _ _ _ _ _ _
   | exact ih2 _ _ _ _ _ _ _ _ _ _
   | exact ih3 _ _ _ _ _ _ _ _ _ _ _ _ _
   | exact LeO.none _
   | refine LeO.ite ?_ ?_
   | refine LeO.bind ?_ (fun _ => ?_)
  ·intro y0 y1 y2 y3 y4 y5 y6 y7 y8 y9 y10 y11 y12
   unfold impl_TimesChanging.l1
   repeat' first
   | (with_reducible exact ih0 _ _ _ _)
   | (with_reducible exact ih1 _ _ _ _ _ _ _ _)
   | (with_reducible exact ih2 _ _ _ _ _ _ _ _ _ _)
   | (with_reducible exact ih3 _ _ _ _ _ _ _ _ _ _ _ _ _)
   | (with_reducible exact LeO.refl _)
   | (with_reducible exact LeO.none _)
   | (with_reducible refine LeO.ite ?_ ?_)
   | (with_reducible refine LeO.bind ?_ (fun _ => ?_))
   | exact ih0 _ _ _ _
   | exact ih1 _ _ _ _ _ _ _ _
   | exact ih2 _ _ _ _ _ _ _ _ _ _
   | exact ih3 _ _ _ _ _ _ _ _ _ _ _ _ _
   | exact LeO.none _
   | refine LeO.ite ?_ ?_
   | refine LeO.bind ?_ (fun _ => ?_)
theorem impl_TimesChanging.mono : ∀ a0 a1 a2 k, LeO (impl_TimesChanging.f k a0 a1 a2) (impl_TimesChanging.f (k + 1) a0 a1 a2) := by
 intro a0 a1 a2 k
 obtain ⟨ih0, ih1, ih2, ih3⟩ := impl_TimesChanging.mono_l k
 unfold impl_TimesChanging.f
 repeat' first
   | (with_reducible exact ih0 _ _ _ _)
   | (with_reducible exact ih1 _ _ _ _ _ _ _ _)
   | (with_reducible exact ih2 _ _ _ _ _ _ _ _ _ _)
   | (with_reducible exact ih3 _ _ _ _ _ _ _ _ _ _ _ _ _)
   | (with_reducible exact LeO.refl _)
   | (with_reducible exact LeO.none _)
   | (with_reducible refine LeO.ite ?_ ?_)
   | (with_reducible refine LeO.bind ?_ (fun _ => ?_))
   | exact ih0 _ _ _ _
   | exact ih1 _ _ _ _ _ _ _ _
   | exact ih2 _ _ _ _ _ _ _ _ _ _
   | exact ih3 _ _ _ _ _ _ _ _ _ _ _ _ _
   | exact LeO.none _
   | refine LeO.ite ?_ ?_
   | refine LeO.bind ?_ (fun _ => ?_)
set_option maxHeartbeats 8000000 in
set_option maxRecDepth 100000 in
theorem impl_TimesChanging.calls (k : Nat) (A0_0 : Option Addr) (c0_0 : Nat) (l0_0 : List ByteArray) (a1 : ByteArray) (a2 : Int) (r1 : List Int) (r2 : Bool) (w : World) (hr0_0 : Kd.C Kd.string w A0_0 l0_0.length l0_0) (hc0_0 : l0_0.length ≤ c0_0) (h : impl_TimesChanging.f k l0_0 a1 a2 = some (r1, r2)) :
  Calls Tryd.prog 7 #[.agg #[.slice A0_0 l0_0.length c0_0], .string a1, .int .i64 a2] w fun e w' => ∃ v0_ : Value, e = .returned (.tuple #[v0_, .bool r2]) ∧ Kd.R (Kd.int .i64) 3 w' w.heap.size (fun _ => True) v0_ r1 ∧ Below w.heap.size w w' := by
 have hu29 := Tryd.underlying29
 have HR0_0 := Aside0.mk hr0_0
 have HC0_0 := Aside0.mk hc0_0
 clear hr0_0 hc0_0
 have HB := Aside0.mk (Below.refl w.heap.size w)
 have H : ((impl_Lamps_lit.f l0_0 a1).bind fun t151 => (if t151 = true then ((impl_isTicks.f a2).bind fun t152 => (impl_TimesChanging.j0 k a1 a2 (!t152) l0_0)) else (impl_TimesChanging.j0 k a1 a2 true l0_0))) = some (r1, r2) := h
 clear h
 have HC4 := Aside0.mk H
 clear H
 go_enter Tryd.func7, Tryd.ntmps7
 go_upto_region 1 with (first | ((with_reducible refine gate_dst (N := 3) rfl ?_); refine box_event ?hg (N := 3) ?hd (cs := #[.slice A0_0 l0_0.length c0_0]) (t := 29) ?hr ?_; (case hd => rfl); (case hg => rfl); (case hr => first | (go_simp; done) | (go_simp; rfl)); intro gb150 hg w5 hbox hb; have n0_ := Aside0.mk (below_step (by repeat (first | (with_reducible first | exact HB.out | apply below_alloc | apply pw_below_drewN | apply below_drew1) | exact HB.out)) hb); have n1_ := Aside0.mk (hbox); have n2_ := Aside0.mk ((by rw [hg]; exact (below_size (by repeat (first | (with_reducible first | exact HB.out | apply below_alloc | apply pw_below_drewN | apply below_drew1) | exact HB.out))) : w.heap.size ≤ gb150)); have n3_ := Aside0.mk ((by rw [hg]; exact (below_size (by repeat (first | (with_reducible first | exact HB.out | apply below_alloc | apply pw_below_drewN | apply below_drew1) | exact HB.out))) : w.heap.size ≤ gb150)); clear HB; have HB := n0_; have BK150 := n1_; have GW150 := n2_; have GE150 := n3_; clear n0_ n1_ n2_ n3_; clear hb hbox hg))
 repeat (go_quiet (first | ((with_reducible refine gate_dst (N := 3) rfl ?_); refine box_event ?hg (N := 3) ?hd (cs := #[.slice A0_0 l0_0.length c0_0]) (t := 29) ?hr ?_; (case hd => rfl); (case hg => rfl); (case hr => first | (go_simp; done) | (go_simp; rfl)); intro gb150 hg w5 hbox hb; have n0_ := Aside0.mk (below_step (by repeat (first | (with_reducible first | exact HB.out | apply below_alloc | apply pw_below_drewN | apply below_drew1) | exact HB.out)) hb); have n1_ := Aside0.mk (hbox); have n2_ := Aside0.mk ((by rw [hg]; exact (below_size (by repeat (first | (with_reducible first | exact HB.out | apply below_alloc | apply pw_below_drewN | apply below_drew1) | exact HB.out))) : w.heap.size ≤ gb150)); have n3_ := Aside0.mk ((by rw [hg]; exact (below_size (by repeat (first | (with_reducible first | exact HB.out | apply below_alloc | apply pw_below_drewN | apply below_drew1) | exact HB.out))) : w.heap.size ≤ gb150)); clear HB; have HB := n0_; have BK150 := n1_; have GW150 := n2_; have GE150 := n3_; clear n0_ n1_ n2_ n3_; clear hb hbox hg)); go_upto_region 1 with (first | ((with_reducible refine gate_dst (N := 3) rfl ?_); refine box_event ?hg (N := 3) ?hd (cs := #[.slice A0_0 l0_0.length c0_0]) (t := 29) ?hr ?_; (case hd => rfl); (case hg => rfl); (case hr => first | (go_simp; done) | (go_simp; rfl)); intro gb150 hg w5 hbox hb; have n0_ := Aside0.mk (below_step (by repeat (first | (with_reducible first | exact HB.out | apply below_alloc | apply pw_below_drewN | apply below_drew1) | exact HB.out)) hb); have n1_ := Aside0.mk (hbox); have n2_ := Aside0.mk ((by rw [hg]; exact (below_size (by repeat (first | (with_reducible first | exact HB.out | apply below_alloc | apply pw_below_drewN | apply below_drew1) | exact HB.out))) : w.heap.size ≤ gb150)); have n3_ := Aside0.mk ((by rw [hg]; exact (below_size (by repeat (first | (with_reducible first | exact HB.out | apply below_alloc | apply pw_below_drewN | apply below_drew1) | exact HB.out))) : w.heap.size ≤ gb150)); clear HB; have HB := n0_; have BK150 := n1_; have GW150 := n2_; have GE150 := n3_; clear n0_ n1_ n2_ n3_; clear hb hbox hg)))
 (try simp only [Act.put, List.setIfInBounds_toArray, List.set_cons_zero, List.set_cons_succ])
 go_cut [24] (fun v24 wc => ∃ (kq : Nat) (x24_3 : Bool), v24 = .bool x24_3 ∧ Aside0 (impl_TimesChanging.j0 kq a1 a2 x24_3 l0_0 = some (r1, r2)) ∧ Aside0 (kq ≤ k) ∧ Aside0 (wc.heap[gb150]? = some (.cells #[(.slice A0_0 l0_0.length c0_0)] 29 (0, 0))) ∧ Aside0 (Below w.heap.size w wc))
 case first =>
  have H := HC4.out
  clear HC4
  replace H := Option.bind_eq_some_iff.mp H
  obtain ⟨t151, A60, H⟩ := H
  replace H : (if t151 = true then ((impl_isTicks.f a2).bind fun t152 => (impl_TimesChanging.j0 k a1 a2 (!t152) l0_0)) else (impl_TimesChanging.j0 k a1 a2 true l0_0)) = some (r1, r2) := H
  have A6 := Aside0.mk A60
  clear A60
  by_cases c7 : t151 = true
  ·subst c7
   have H1 : ((impl_isTicks.f a2).bind fun t152 => (impl_TimesChanging.j0 k a1 a2 (!t152) l0_0)) = some (r1, r2) := by rw [if_pos rfl] at H; exact H
   clear H
   have H := H1
   clear H1
   replace H := Option.bind_eq_some_iff.mp H
   obtain ⟨t152, A80, H⟩ := H
   replace H : (impl_TimesChanging.j0 k a1 a2 (!t152) l0_0) = some (r1, r2) := H
   have A8 := Aside0.mk A80
   clear A80
   have H' := Aside0.mk H
   clear H
   have hcz9_0 : w5.cell? ⟨gb150, 0, none⟩ = some (.slice A0_0 l0_0.length c0_0) := (blk_cell BK150.out 0).trans rfl
   have hfz9_0 := blk_frozen BK150.out 0
   go_wp2_with (first | (go_at_call 19; (with_reducible refine (impl_Lamps_lit.calls _ _ l0_0 a1 true _ ?side1 ?side2 A6.out).mono ?_); (case side1 => repeat (first | exact (Kd.C_below HR0_0.out HB.out) | (with_reducible refine Kd.C_alloc ?_ _) | (with_reducible refine Kd.C_drewN ?_ _) | (with_reducible refine Kd.C_drew ?_))); (case side2 => exact HC0_0.out); rintro e w10 ⟨rfl, hb⟩; have n0_ := Aside0.mk (blk_below (g := gb150) (o := .cells #[.slice A0_0 l0_0.length c0_0] 29 (0, 0)) (by (with_reducible repeat (first | refine blk_drewN ?_ _ | refine blk_drew ?_ | refine blk_alloc ?_ _)); exact BK150.out) hb); have n1_ := Aside0.mk (below_step (by repeat (first | (with_reducible first | exact HB.out | apply below_alloc | apply pw_below_drewN | apply below_drew1 | refine below_set ?_ GE150.out) | exact HB.out)) hb); clear BK150; clear HB; have BK150 := n0_; have HB := n1_; clear n0_ n1_; (try clear hb); (try clear hb2); (try clear hk); (try clear hi)) | (go_at_call 20; (with_reducible refine (impl_isTicks.calls a2 t152 _ A8.out).mono ?_); rintro e w' ⟨rfl, ⟨nd, rfl⟩⟩; (try first | exact ⟨rfl, _, World.drewN_drewN _ _ _⟩ | exact ⟨rfl, _, Eq.trans (World.drewN_drewN _ _ _) (congrArg (World.drewN _) (Nat.add_assoc _ _ _))⟩)))
   repeat (go_quiet (first | (go_at_call 19; (with_reducible refine (impl_Lamps_lit.calls _ _ l0_0 a1 true _ ?side1 ?side2 A6.out).mono ?_); (case side1 => repeat (first | exact (Kd.C_below HR0_0.out HB.out) | (with_reducible refine Kd.C_alloc ?_ _) | (with_reducible refine Kd.C_drewN ?_ _) | (with_reducible refine Kd.C_drew ?_))); (case side2 => exact HC0_0.out); rintro e w10 ⟨rfl, hb⟩; have n0_ := Aside0.mk (blk_below (g := gb150) (o := .cells #[.slice A0_0 l0_0.length c0_0] 29 (0, 0)) (by (with_reducible repeat (first | refine blk_drewN ?_ _ | refine blk_drew ?_ | refine blk_alloc ?_ _)); exact BK150.out) hb); have n1_ := Aside0.mk (below_step (by repeat (first | (with_reducible first | exact HB.out | apply below_alloc | apply pw_below_drewN | apply below_drew1 | refine below_set ?_ GE150.out) | exact HB.out)) hb); clear BK150; clear HB; have BK150 := n0_; have HB := n1_; clear n0_ n1_; (try clear hb); (try clear hb2); (try clear hk); (try clear hi)) | (go_at_call 20; (with_reducible refine (impl_isTicks.calls a2 t152 _ A8.out).mono ?_); rintro e w' ⟨rfl, ⟨nd, rfl⟩⟩; (try first | exact ⟨rfl, _, World.drewN_drewN _ _ _⟩ | exact ⟨rfl, _, Eq.trans (World.drewN_drewN _ _ _) (congrArg (World.drewN _) (Nat.add_assoc _ _ _))⟩))); try go_wp2_with (first | (go_at_call 19; (with_reducible refine (impl_Lamps_lit.calls _ _ l0_0 a1 true _ ?side1 ?side2 A6.out).mono ?_); (case side1 => repeat (first | exact (Kd.C_below HR0_0.out HB.out) | (with_reducible refine Kd.C_alloc ?_ _) | (with_reducible refine Kd.C_drewN ?_ _) | (with_reducible refine Kd.C_drew ?_))); (case side2 => exact HC0_0.out); rintro e w10 ⟨rfl, hb⟩; have n0_ := Aside0.mk (blk_below (g := gb150) (o := .cells #[.slice A0_0 l0_0.length c0_0] 29 (0, 0)) (by (with_reducible repeat (first | refine blk_drewN ?_ _ | refine blk_drew ?_ | refine blk_alloc ?_ _)); exact BK150.out) hb); have n1_ := Aside0.mk (below_step (by repeat (first | (with_reducible first | exact HB.out | apply below_alloc | apply pw_below_drewN | apply below_drew1 | refine below_set ?_ GE150.out) | exact HB.out)) hb); clear BK150; clear HB; have BK150 := n0_; have HB := n1_; clear n0_ n1_; (try clear hb); (try clear hb2); (try clear hk); (try clear hi)) | (go_at_call 20; (with_reducible refine (impl_isTicks.calls a2 t152 _ A8.out).mono ?_); rintro e w' ⟨rfl, ⟨nd, rfl⟩⟩; (try first | exact ⟨rfl, _, World.drewN_drewN _ _ _⟩ | exact ⟨rfl, _, Eq.trans (World.drewN_drewN _ _ _) (congrArg (World.drewN _) (Nat.add_assoc _ _ _))⟩))))
   go_meet
   case rel => exact ⟨_, (!t152), (by first | rfl | (simp; done) | (simp [*]; done)), H', ⟨by first | omega | exact Nat.le_refl _⟩, ⟨by (with_reducible repeat (first | refine blk_drewN ?_ _ | refine blk_drew ?_ | refine blk_alloc ?_ _)); exact BK150.out⟩, ⟨by repeat (first | (with_reducible first | exact HB.out | apply below_alloc | apply pw_below_drewN | apply below_drew1 | refine below_set ?_ GE150.out) | exact HB.out)⟩⟩
  ·replace c7 := Bool.eq_false_iff.mpr c7
   subst c7
   have H1 : (impl_TimesChanging.j0 k a1 a2 true l0_0) = some (r1, r2) := by rw [if_neg (show ¬ (false = true) by decide)] at H; exact H
   clear H
   have H := H1
   clear H1
   have H' := Aside0.mk H
   clear H
   have hcz11_0 : w5.cell? ⟨gb150, 0, none⟩ = some (.slice A0_0 l0_0.length c0_0) := (blk_cell BK150.out 0).trans rfl
   have hfz11_0 := blk_frozen BK150.out 0
   go_wp2_with (first | (go_at_call 19; (with_reducible refine (impl_Lamps_lit.calls _ _ l0_0 a1 false _ ?side1 ?side2 A6.out).mono ?_); (case side1 => repeat (first | exact (Kd.C_below HR0_0.out HB.out) | (with_reducible refine Kd.C_alloc ?_ _) | (with_reducible refine Kd.C_drewN ?_ _) | (with_reducible refine Kd.C_drew ?_))); (case side2 => exact HC0_0.out); rintro e w12 ⟨rfl, hb⟩; have n0_ := Aside0.mk (blk_below (g := gb150) (o := .cells #[.slice A0_0 l0_0.length c0_0] 29 (0, 0)) (by (with_reducible repeat (first | refine blk_drewN ?_ _ | refine blk_drew ?_ | refine blk_alloc ?_ _)); exact BK150.out) hb); have n1_ := Aside0.mk (below_step (by repeat (first | (with_reducible first | exact HB.out | apply below_alloc | apply pw_below_drewN | apply below_drew1 | refine below_set ?_ GE150.out) | exact HB.out)) hb); clear BK150; clear HB; have BK150 := n0_; have HB := n1_; clear n0_ n1_; (try clear hb); (try clear hb2); (try clear hk); (try clear hi)))
   repeat (go_quiet (first | (go_at_call 19; (with_reducible refine (impl_Lamps_lit.calls _ _ l0_0 a1 false _ ?side1 ?side2 A6.out).mono ?_); (case side1 => repeat (first | exact (Kd.C_below HR0_0.out HB.out) | (with_reducible refine Kd.C_alloc ?_ _) | (with_reducible refine Kd.C_drewN ?_ _) | (with_reducible refine Kd.C_drew ?_))); (case side2 => exact HC0_0.out); rintro e w12 ⟨rfl, hb⟩; have n0_ := Aside0.mk (blk_below (g := gb150) (o := .cells #[.slice A0_0 l0_0.length c0_0] 29 (0, 0)) (by (with_reducible repeat (first | refine blk_drewN ?_ _ | refine blk_drew ?_ | refine blk_alloc ?_ _)); exact BK150.out) hb); have n1_ := Aside0.mk (below_step (by repeat (first | (with_reducible first | exact HB.out | apply below_alloc | apply pw_below_drewN | apply below_drew1 | refine below_set ?_ GE150.out) | exact HB.out)) hb); clear BK150; clear HB; have BK150 := n0_; have HB := n1_; clear n0_ n1_; (try clear hb); (try clear hb2); (try clear hk); (try clear hi))); try go_wp2_with (first | (go_at_call 19; (with_reducible refine (impl_Lamps_lit.calls _ _ l0_0 a1 false _ ?side1 ?side2 A6.out).mono ?_); (case side1 => repeat (first | exact (Kd.C_below HR0_0.out HB.out) | (with_reducible refine Kd.C_alloc ?_ _) | (with_reducible refine Kd.C_drewN ?_ _) | (with_reducible refine Kd.C_drew ?_))); (case side2 => exact HC0_0.out); rintro e w12 ⟨rfl, hb⟩; have n0_ := Aside0.mk (blk_below (g := gb150) (o := .cells #[.slice A0_0 l0_0.length c0_0] 29 (0, 0)) (by (with_reducible repeat (first | refine blk_drewN ?_ _ | refine blk_drew ?_ | refine blk_alloc ?_ _)); exact BK150.out) hb); have n1_ := Aside0.mk (below_step (by repeat (first | (with_reducible first | exact HB.out | apply below_alloc | apply pw_below_drewN | apply below_drew1 | refine below_set ?_ GE150.out) | exact HB.out)) hb); clear BK150; clear HB; have BK150 := n0_; have HB := n1_; clear n0_ n1_; (try clear hb); (try clear hb2); (try clear hk); (try clear hi))))
   go_meet
   case rel => exact ⟨_, (true), (by first | rfl | (simp; done) | (simp [*]; done)), H', ⟨by first | omega | exact Nat.le_refl _⟩, ⟨by (with_reducible repeat (first | refine blk_drewN ?_ _ | refine blk_drew ?_ | refine blk_alloc ?_ _)); exact BK150.out⟩, ⟨by repeat (first | (with_reducible first | exact HB.out | apply below_alloc | apply pw_below_drewN | apply below_drew1 | refine below_set ?_ GE150.out) | exact HB.out)⟩⟩
 case rest =>
  clear HC4
  try clear p2
  try clear c7
  try clear hcz11_0
  try clear hcz9_0
  try clear hfz11_0
  try clear hfz9_0
  obtain ⟨kq, x24_3, rfl, HA, HJ3, BK150, HB⟩ := hcut
  cases kq with
  | zero => exact absurd HA.out (by simp [impl_TimesChanging.j0])
  | succ kj3 =>
   have H := HA.out
   clear HA
   simp only [impl_TimesChanging.j0] at H
   by_cases c13 : x24_3 = true
   ·subst c13
    have H1 : (some (([] : List Int), false)) = some (r1, r2) := by rw [if_pos rfl] at H; exact H
    clear H
    have H := H1
    clear H1
    simp only [Option.some.injEq, Prod.mk.injEq] at H
    obtain ⟨rfl, rfl⟩ := H
    go_wp2
    repeat (go_quiet (fail); try go_wp2)
    go_ret2
    exact ⟨_, by first | rfl | (simp [errW_none, errW_some] <;> rfl) | (simp [*, errW_none, errW_some] <;> rfl), by first | exact Kd.R_nil _ _ _ _ _ | exact Kd.N_nil _ _ _ _ _ | exact Kd.V_nil _ _ _ _ _ | exact Kd.Q_nil _ _ _ _ _ | exact Kd.S_nil _ _ _ _ _, by repeat (first | (with_reducible first | exact HB.out | apply below_alloc | apply pw_below_drewN | apply below_drew1 | refine below_set ?_ GE150.out) | exact HB.out)⟩
   ·replace c13 := Bool.eq_false_iff.mpr c13
    subst c13
    have H1 : ((impl_Lamps_course.f l0_0 a1).bind fun bt153 => (if 0 ≤ (a1.size : Int) then (if ((a1.size : Int) : Int).toNat ≤ 35184372088832 then (impl_TimesChanging.l0 kj3 a2 bt153.1 bt153.2 (List.replicate ((a1.size : Int) : Int).toNat 0) bt153.1 (bt153.1.length : Int) 0 l0_0) else (none)) else (none))) = some (r1, r2) := by rw [if_neg (show ¬ (false = true) by decide)] at H; exact H
    clear H
    have H := H1
    clear H1
    replace H := Option.bind_eq_some_iff.mp H
    obtain ⟨⟨t153, t156⟩, A140, H⟩ := H
    replace H : (if 0 ≤ (a1.size : Int) then (if ((a1.size : Int) : Int).toNat ≤ 35184372088832 then (impl_TimesChanging.l0 kj3 a2 t153 t156 (List.replicate ((a1.size : Int) : Int).toNat 0) t153 (t153.length : Int) 0 l0_0) else (none)) else (none)) = some (r1, r2) := H
    have A14 := Aside0.mk A140
    clear A140
    by_cases c15 : 0 ≤ (a1.size : Int)
    ·rw [if_pos c15] at H
     have c15b0 := eq_true c15
     have c15b1 : decide (0 ≤ (a1.size : Int)) = true := decide_eq_true c15
     clear c15
     by_cases c16 : ((a1.size : Int) : Int).toNat ≤ 35184372088832
     ·rw [if_pos c16] at H
      have c16b0 := eq_true c16
      have c16b1 : decide (((a1.size : Int) : Int).toNat ≤ 35184372088832) = true := decide_eq_true c16
      clear c16
      obtain ⟨y157, hy157⟩ : ∃ y_ : List Int, y_ = (List.replicate ((a1.size : Int) : Int).toNat 0) := ⟨_, rfl⟩
      replace H : (impl_TimesChanging.l0 kj3 a2 t153 t156 y157 t153 (t153.length : Int) 0 l0_0) = some (r1, r2) := by first | (rw [hy157]; with_reducible exact H) | (have H2_ := (Option.bind_some _ _).symm.trans H; rw [hy157]; with_reducible exact H2_) | (have H2_ := (Option.bind_some _ _).symm.trans H; with_reducible exact H2_) | with_reducible exact H | (rw [hy157]; exact H) | exact H
      have Ny157 := Aside0.mk hy157
      clear hy157
      have H' := Aside0.mk H
      clear H
      have hcz17_0 : wc.cell? ⟨gb150, 0, none⟩ = some (.slice A0_0 l0_0.length c0_0) := (blk_cell BK150.out 0).trans rfl
      have hfz17_0 := blk_frozen BK150.out 0
      go_wp2_with (first | (go_at_call 21; (with_reducible refine (impl_Lamps_course.calls _ _ l0_0 a1 t153 t156 _ ?side1 ?side2 A14.out).mono ?_); (case side1 => repeat (first | exact (Kd.C_below HR0_0.out HB.out) | (with_reducible refine Kd.C_alloc ?_ _) | (with_reducible refine Kd.C_drewN ?_ _) | (with_reducible refine Kd.C_drew ?_))); (case side2 => exact HC0_0.out); rintro e w18 ⟨v154, rfl, ho0, hb⟩; have n0_ := Aside0.mk (Kd.R_lower ho0 (below_size (by repeat (first | (with_reducible first | exact HB.out | apply below_alloc | apply pw_below_drewN | apply below_drew1 | refine below_set ?_ GE150.out) | exact HB.out)))); have n1_ := Aside0.mk (blk_below (g := gb150) (o := .cells #[.slice A0_0 l0_0.length c0_0] 29 (0, 0)) (by (with_reducible repeat (first | refine blk_drewN ?_ _ | refine blk_drew ?_ | refine blk_alloc ?_ _)); exact BK150.out) hb); have n2_ := Aside0.mk (below_step (by repeat (first | (with_reducible first | exact HB.out | apply below_alloc | apply pw_below_drewN | apply below_drew1 | refine below_set ?_ GE150.out) | exact HB.out)) hb); clear BK150; clear HB; have HO155 := n0_; have BK150 := n1_; have HB := n2_; clear n0_ n1_ n2_; (try clear hb); (try clear hb2); (try clear hk); (try clear hi); (try clear ho0)) | ((with_reducible refine gate_dst (N := 33) rfl ?_); refine Kd.R_make (Kd.int .i64) _ 3 rfl (N := 33) rfl 26 _ _ rfl (a1.size : Int) rfl rfl Tryd.underlying26 (.int .i64 0) 8 info3 rfl (by decide) (by omega) 0 (ok := fun _ => True) (okp := fun _ => True) rfl (fun _ hk => hk) trivial (of_decide_eq_true (by first | (with_reducible assumption) | assumption)) (Nat.le_trans (Nat.mul_le_mul_right _ (of_decide_eq_true (by first | (with_reducible assumption) | assumption) : (a1.size : Int).toNat ≤ 35184372088832)) (by omega)) (Below.refl _ _) (Nat.le_refl _) ?_; intro v158 w19 ho20 hb hg_ hnew_; clear hg_ hnew_; (first | rw [← Ny157.out] at ho20 | (simp only [Int.reduceToNat] at ho20; rw [← Ny157.out] at ho20)); have n0_ := Aside0.mk (Kd.R_below (by (with_reducible repeat (first | apply Kd.R_alloc | apply Kd.R_drewN | apply Kd.R_drew)); exact HO155.out) hb); have n1_ := Aside0.mk (Kd.R_lower ho20 (below_size (by repeat (first | (with_reducible first | exact HB.out | apply below_alloc | apply pw_below_drewN | apply below_drew1 | refine below_set ?_ GE150.out) | exact HB.out)))); have n2_ := Aside0.mk (blk_below (g := gb150) (o := .cells #[.slice A0_0 l0_0.length c0_0] 29 (0, 0)) (by (with_reducible repeat (first | refine blk_drewN ?_ _ | refine blk_drew ?_ | refine blk_alloc ?_ _)); exact BK150.out) hb); have n3_ := Aside0.mk (below_step (by repeat (first | (with_reducible first | exact HB.out | apply below_alloc | apply pw_below_drewN | apply below_drew1 | refine below_set ?_ GE150.out) | exact HB.out)) hb); clear HO155; clear BK150; clear HB; have HO155 := n0_; have HO159 := n1_; have BK150 := n2_; have HB := n3_; clear n0_ n1_ n2_ n3_; clear hb ho20; obtain ⟨Ao21, co21, eo21⟩ := Kd.R_slice HO155.out; subst eo21))
      repeat (go_quiet (first | (go_at_call 21; (with_reducible refine (impl_Lamps_course.calls _ _ l0_0 a1 t153 t156 _ ?side1 ?side2 A14.out).mono ?_); (case side1 => repeat (first | exact (Kd.C_below HR0_0.out HB.out) | (with_reducible refine Kd.C_alloc ?_ _) | (with_reducible refine Kd.C_drewN ?_ _) | (with_reducible refine Kd.C_drew ?_))); (case side2 => exact HC0_0.out); rintro e w18 ⟨v154, rfl, ho0, hb⟩; have n0_ := Aside0.mk (Kd.R_lower ho0 (below_size (by repeat (first | (with_reducible first | exact HB.out | apply below_alloc | apply pw_below_drewN | apply below_drew1 | refine below_set ?_ GE150.out) | exact HB.out)))); have n1_ := Aside0.mk (blk_below (g := gb150) (o := .cells #[.slice A0_0 l0_0.length c0_0] 29 (0, 0)) (by (with_reducible repeat (first | refine blk_drewN ?_ _ | refine blk_drew ?_ | refine blk_alloc ?_ _)); exact BK150.out) hb); have n2_ := Aside0.mk (below_step (by repeat (first | (with_reducible first | exact HB.out | apply below_alloc | apply pw_below_drewN | apply below_drew1 | refine below_set ?_ GE150.out) | exact HB.out)) hb); clear BK150; clear HB; have HO155 := n0_; have BK150 := n1_; have HB := n2_; clear n0_ n1_ n2_; (try clear hb); (try clear hb2); (try clear hk); (try clear hi); (try clear ho0)) | ((with_reducible refine gate_dst (N := 33) rfl ?_); refine Kd.R_make (Kd.int .i64) _ 3 rfl (N := 33) rfl 26 _ _ rfl (a1.size : Int) rfl rfl Tryd.underlying26 (.int .i64 0) 8 info3 rfl (by decide) (by omega) 0 (ok := fun _ => True) (okp := fun _ => True) rfl (fun _ hk => hk) trivial (of_decide_eq_true (by first | (with_reducible assumption) | assumption)) (Nat.le_trans (Nat.mul_le_mul_right _ (of_decide_eq_true (by first | (with_reducible assumption) | assumption) : (a1.size : Int).toNat ≤ 35184372088832)) (by omega)) (Below.refl _ _) (Nat.le_refl _) ?_; intro v158 w19 ho20 hb hg_ hnew_; clear hg_ hnew_; (first | rw [← Ny157.out] at ho20 | (simp only [Int.reduceToNat] at ho20; rw [← Ny157.out] at ho20)); have n0_ := Aside0.mk (Kd.R_below (by (with_reducible repeat (first | apply Kd.R_alloc | apply Kd.R_drewN | apply Kd.R_drew)); exact HO155.out) hb); have n1_ := Aside0.mk (Kd.R_lower ho20 (below_size (by repeat (first | (with_reducible first | exact HB.out | apply below_alloc | apply pw_below_drewN | apply below_drew1 | refine below_set ?_ GE150.out) | exact HB.out)))); have n2_ := Aside0.mk (blk_below (g := gb150) (o := .cells #[.slice A0_0 l0_0.length c0_0] 29 (0, 0)) (by (with_reducible repeat (first | refine blk_drewN ?_ _ | refine blk_drew ?_ | refine blk_alloc ?_ _)); exact BK150.out) hb); have n3_ := Aside0.mk (below_step (by repeat (first | (with_reducible first | exact HB.out | apply below_alloc | apply pw_below_drewN | apply below_drew1 | refine below_set ?_ GE150.out) | exact HB.out)) hb); clear HO155; clear BK150; clear HB; have HO155 := n0_; have HO159 := n1_; have BK150 := n2_; have HB := n3_; clear n0_ n1_ n2_ n3_; clear hb ho20; obtain ⟨Ao21, co21, eo21⟩ := Kd.R_slice HO155.out; subst eo21)); try go_wp2_with (first | (go_at_call 21; (with_reducible refine (impl_Lamps_course.calls _ _ l0_0 a1 t153 t156 _ ?side1 ?side2 A14.out).mono ?_); (case side1 => repeat (first | exact (Kd.C_below HR0_0.out HB.out) | (with_reducible refine Kd.C_alloc ?_ _) | (with_reducible refine Kd.C_drewN ?_ _) | (with_reducible refine Kd.C_drew ?_))); (case side2 => exact HC0_0.out); rintro e w18 ⟨v154, rfl, ho0, hb⟩; have n0_ := Aside0.mk (Kd.R_lower ho0 (below_size (by repeat (first | (with_reducible first | exact HB.out | apply below_alloc | apply pw_below_drewN | apply below_drew1 | refine below_set ?_ GE150.out) | exact HB.out)))); have n1_ := Aside0.mk (blk_below (g := gb150) (o := .cells #[.slice A0_0 l0_0.length c0_0] 29 (0, 0)) (by (with_reducible repeat (first | refine blk_drewN ?_ _ | refine blk_drew ?_ | refine blk_alloc ?_ _)); exact BK150.out) hb); have n2_ := Aside0.mk (below_step (by repeat (first | (with_reducible first | exact HB.out | apply below_alloc | apply pw_below_drewN | apply below_drew1 | refine below_set ?_ GE150.out) | exact HB.out)) hb); clear BK150; clear HB; have HO155 := n0_; have BK150 := n1_; have HB := n2_; clear n0_ n1_ n2_; (try clear hb); (try clear hb2); (try clear hk); (try clear hi); (try clear ho0)) | ((with_reducible refine gate_dst (N := 33) rfl ?_); refine Kd.R_make (Kd.int .i64) _ 3 rfl (N := 33) rfl 26 _ _ rfl (a1.size : Int) rfl rfl Tryd.underlying26 (.int .i64 0) 8 info3 rfl (by decide) (by omega) 0 (ok := fun _ => True) (okp := fun _ => True) rfl (fun _ hk => hk) trivial (of_decide_eq_true (by first | (with_reducible assumption) | assumption)) (Nat.le_trans (Nat.mul_le_mul_right _ (of_decide_eq_true (by first | (with_reducible assumption) | assumption) : (a1.size : Int).toNat ≤ 35184372088832)) (by omega)) (Below.refl _ _) (Nat.le_refl _) ?_; intro v158 w19 ho20 hb hg_ hnew_; clear hg_ hnew_; (first | rw [← Ny157.out] at ho20 | (simp only [Int.reduceToNat] at ho20; rw [← Ny157.out] at ho20)); have n0_ := Aside0.mk (Kd.R_below (by (with_reducible repeat (first | apply Kd.R_alloc | apply Kd.R_drewN | apply Kd.R_drew)); exact HO155.out) hb); have n1_ := Aside0.mk (Kd.R_lower ho20 (below_size (by repeat (first | (with_reducible first | exact HB.out | apply below_alloc | apply pw_below_drewN | apply below_drew1 | refine below_set ?_ GE150.out) | exact HB.out)))); have n2_ := Aside0.mk (blk_below (g := gb150) (o := .cells #[.slice A0_0 l0_0.length c0_0] 29 (0, 0)) (by (with_reducible repeat (first | refine blk_drewN ?_ _ | refine blk_drew ?_ | refine blk_alloc ?_ _)); exact BK150.out) hb); have n3_ := Aside0.mk (below_step (by repeat (first | (with_reducible first | exact HB.out | apply below_alloc | apply pw_below_drewN | apply below_drew1 | refine below_set ?_ GE150.out) | exact HB.out)) hb); clear HO155; clear BK150; clear HB; have HO155 := n0_; have HO159 := n1_; have BK150 := n2_; have HB := n3_; clear n0_ n1_ n2_ n3_; clear hb ho20; obtain ⟨Ao21, co21, eo21⟩ := Kd.R_slice HO155.out; subst eo21)))
      go_loopg [36] kj3 (fun kq v36 w' => ∃ (x10_2 : List Int) (x36_2 : Int), v36 = .int .i64 x36_2 ∧ Aside0 (impl_TimesChanging.l0 kq a2 t153 t156 x10_2 t153 (t153.length : Int) x36_2 l0_0 = some (r1, r2)) ∧ Aside0 (kq ≤ kj3) ∧ Aside0 (Kd.R Kd.string 9 w' w.heap.size (fun _ => True) (.slice Ao21 t153.length co21) t153) ∧ Aside0 (Kd.R (Kd.int .i64) 3 w' w.heap.size (fun _ => True) v158 x10_2) ∧ Aside0 (Kd.R Kd.string 9 w' w.heap.size (fun _ => True) (.slice Ao21 t153.length co21) t153) ∧ Aside0 (w'.heap[gb150]? = some (.cells #[(.slice A0_0 l0_0.length c0_0)] 29 (0, 0))) ∧ Aside0 (Below w.heap.size w w'))
      case atStart => exact ⟨(y157), (0), (by first | rfl | (simp; done) | (simp [*]; done)), H', ⟨Nat.le_refl _⟩, ⟨by (with_reducible repeat (first | apply Kd.R_alloc | apply Kd.R_drewN | apply Kd.R_drew)); exact HO155.out⟩, ⟨by (with_reducible repeat (first | apply Kd.R_alloc | apply Kd.R_drewN | apply Kd.R_drew)); exact HO159.out⟩, ⟨by (with_reducible repeat (first | apply Kd.R_alloc | apply Kd.R_drewN | apply Kd.R_drew)); exact HO155.out⟩, ⟨by (with_reducible repeat (first | refine blk_drewN ?_ _ | refine blk_drew ?_ | refine blk_alloc ?_ _)); exact BK150.out⟩, ⟨by repeat (first | (with_reducible first | exact HB.out | apply below_alloc | apply pw_below_drewN | apply below_drew1 | refine below_set ?_ GE150.out) | exact HB.out)⟩⟩
      case round =>
       clear H'
       try clear c1
       try clear p2
       try clear c7
       try clear c13
       try clear c15
       try clear c15b0
       try clear c15b1
       try clear c16
       try clear c16b0
       try clear c16b1
       try clear hcz11_0
       try clear hcz17_0
       try clear hcz9_0
       try clear hfz11_0
       try clear hfz17_0
       try clear hfz9_0
       try clear p2
       obtain ⟨x10_2, x36_2, rfl, HA, HK2, HO_8, HO_10, HO_34, BK150, HB⟩ := hrel
       cases gk with
       | zero => exact absurd HA.out (by simp [impl_TimesChanging.l0])
       | succ k2 =>
        have H := HA.out
        clear HA
        simp only [impl_TimesChanging.l0] at H
        by_cases c22 : x36_2 < (t153.length : Int)
        ·rw [if_pos c22] at H
         have c22b0 : decide (x36_2 < (t153.length : Int)) = true := decide_eq_true c22
         clear c22
         by_cases c23 : 0 ≤ x36_2
         ·rw [if_pos c23] at H
          have c23b0 : decide (0 ≤ x36_2) = true := decide_eq_true c23
          clear c23
          by_cases c24 : x36_2 < (t153.length : Int)
          ·rw [if_pos c24] at H
           have c24b0 : decide (x36_2 < (t153.length : Int)) = true := decide_eq_true c24
           clear c24
           have HC25 := Aside0.mk H
           clear H
           have p160 : 0 ≤ (x36_2 : Int) := of_decide_eq_true (by first | (with_reducible assumption) | assumption)
           have q160 : x36_2 < (t153.length : Int) := of_decide_eq_true (by first | (with_reducible assumption) | assumption)
           obtain ⟨ad160, e160, hx160_0⟩ := Kd.at_string (Kd.R_reads' HO_34.out).2.2 x36_2 p160 q160
           cases e160
           replace p160 := eq_true p160
           replace q160 := eq_true q160
           go_upto_block 2 with (fail)
           repeat (go_quiet (fail); go_upto_block 2 with (fail))
           go_cut [13] (fun v13 wc => ∃ (kq : Nat) (x13_24 : Int), v13 = .int .i64 x13_24 ∧ Aside0 (impl_TimesChanging.j2 kq a2 t153 t156 x10_2 (rdOf ByteArray.empty t153 x36_2) x13_24 t153 (t153.length : Int) x36_2 l0_0 = some (r1, r2)) ∧ Aside0 (kq ≤ k2) ∧ Aside0 (Kd.R Kd.string 9 wc w.heap.size (fun _ => True) (.slice (some ad160) t153.length co21) t153) ∧ Aside0 (Kd.R (Kd.int .i64) 3 wc w.heap.size (fun _ => True) v158 x10_2) ∧ Aside0 (Kd.R Kd.string 9 wc w.heap.size (fun _ => True) (.slice (some ad160) t153.length co21) t153) ∧ Aside0 (wc.heap[gb150]? = some (.cells #[(.slice A0_0 l0_0.length c0_0)] 29 (0, 0))) ∧ Aside0 (Below w.heap.size w wc))
           case first =>
            have H := HC25.out
            clear HC25
            by_cases c26 : x36_2 ≥ a2
            ·rw [if_pos c26] at H
             have c26b0 : decide (a2 ≤ x36_2) = true := decide_eq_true c26
             clear c26
             (first | rw [c26b0] | (simp only [i64_w, i32_w]; rw [c26b0]) | skip)
             have H' := Aside0.mk H
             clear H
             go_wp2
             repeat (go_quiet (fail); try go_wp2)
             go_meet
             case rel => exact ⟨_, (0), (by first | rfl | (simp; done) | (simp [*]; done)), H', ⟨by have := HJ3.out; have := HK2.out; first | omega | exact Nat.le_refl _⟩, ⟨by (with_reducible repeat (first | apply Kd.R_alloc | apply Kd.R_drewN | apply Kd.R_drew)); exact HO_8.out⟩, ⟨by (with_reducible repeat (first | apply Kd.R_alloc | apply Kd.R_drewN | apply Kd.R_drew)); exact HO_10.out⟩, ⟨by (with_reducible repeat (first | apply Kd.R_alloc | apply Kd.R_drewN | apply Kd.R_drew)); exact HO_34.out⟩, ⟨by (with_reducible repeat (first | refine blk_drewN ?_ _ | refine blk_drew ?_ | refine blk_alloc ?_ _)); exact BK150.out⟩, ⟨by repeat (first | (with_reducible first | exact HB.out | apply below_alloc | apply pw_below_drewN | apply below_drew1 | refine below_set ?_ GE150.out) | exact HB.out)⟩⟩
            ·rw [if_neg c26] at H
             have c26b0 : decide (a2 ≤ x36_2) = false := decide_eq_false c26
             clear c26
             (first | rw [c26b0] | (simp only [i64_w, i32_w]; rw [c26b0]) | skip)
             by_cases c27 : x36_2 < t156
             ·rw [if_pos c27] at H
              have c27b0 : decide (x36_2 < t156) = true := decide_eq_true c27
              clear c27
              have H' := Aside0.mk H
              clear H
              go_wp2
              repeat (go_quiet (fail); try go_wp2)
              go_meet
              case rel => exact ⟨_, (1), (by first | rfl | (simp; done) | (simp [*]; done)), H', ⟨by have := HJ3.out; have := HK2.out; first | omega | exact Nat.le_refl _⟩, ⟨by (with_reducible repeat (first | apply Kd.R_alloc | apply Kd.R_drewN | apply Kd.R_drew)); exact HO_8.out⟩, ⟨by (with_reducible repeat (first | apply Kd.R_alloc | apply Kd.R_drewN | apply Kd.R_drew)); exact HO_10.out⟩, ⟨by (with_reducible repeat (first | apply Kd.R_alloc | apply Kd.R_drewN | apply Kd.R_drew)); exact HO_34.out⟩, ⟨by (with_reducible repeat (first | refine blk_drewN ?_ _ | refine blk_drew ?_ | refine blk_alloc ?_ _)); exact BK150.out⟩, ⟨by repeat (first | (with_reducible first | exact HB.out | apply below_alloc | apply pw_below_drewN | apply below_drew1 | refine below_set ?_ GE150.out) | exact HB.out)⟩⟩
             ·rw [if_neg c27] at H
              have c27b0 : decide (x36_2 < t156) = false := decide_eq_false c27
              clear c27
              by_cases c28 : (wrap64 ((t153.length : Int) - t156)) = 0
              ·rw [if_pos c28] at H
               exact absurd H (by simp)
              ·rw [if_neg c28] at H
               have c28b0 : ((wrap64 ((t153.length : Int) - t156)) == 0) = false := beq_eq_false_iff_ne.mpr c28
               have c28b1 : ((wrap64 ((t153.length : Int) - t156)) != 0) = true := bne_iff_ne.mpr c28
               have H' := Aside0.mk H
               clear H
               go_wp2
               repeat (go_quiet (fail); try go_wp2)
               go_meet
               case rel => exact ⟨_, (wrap64 ((wrap64 (Int.tdiv (wrap64 ((wrap64 (a2 - 1)) - x36_2)) (wrap64 ((t153.length : Int) - t156)))) + 1)), (by first | rfl | (simp; done) | (simp [*]; done)), H', ⟨by have := HJ3.out; have := HK2.out; first | omega | exact Nat.le_refl _⟩, ⟨by (with_reducible repeat (first | apply Kd.R_alloc | apply Kd.R_drewN | apply Kd.R_drew)); exact HO_8.out⟩, ⟨by (with_reducible repeat (first | apply Kd.R_alloc | apply Kd.R_drewN | apply Kd.R_drew)); exact HO_10.out⟩, ⟨by (with_reducible repeat (first | apply Kd.R_alloc | apply Kd.R_drewN | apply Kd.R_drew)); exact HO_34.out⟩, ⟨by (with_reducible repeat (first | refine blk_drewN ?_ _ | refine blk_drew ?_ | refine blk_alloc ?_ _)); exact BK150.out⟩, ⟨by repeat (first | (with_reducible first | exact HB.out | apply below_alloc | apply pw_below_drewN | apply below_drew1 | refine below_set ?_ GE150.out) | exact HB.out)⟩⟩
           case rest =>
            clear HC25
            try clear c1
            try clear p1
            try clear q1
            try clear hx1
            try clear c2
            try clear p2
            try clear p6
            try clear c7
            try clear c13
            try clear c15
            try clear c15b0
            try clear c15b1
            try clear c16
            try clear c16b0
            try clear c16b1
            try clear p16
            try clear q16
            try clear hx16
            try clear c22
            try clear c22b0
            try clear c23
            try clear c23b0
            try clear c24
            try clear c24b0
            try clear c26
            try clear c26b0
            try clear c27
            try clear c27b0
            try clear c28
            try clear c28b0
            try clear c28b1
            try clear hcz11_0
            try clear hcz17_0
            try clear hcz9_0
            try clear hfz11_0
            try clear hfz17_0
            try clear hfz9_0
            try clear hx160_0
            try clear p160
            try clear p2
            try clear q160
            obtain ⟨kq, x13_24, rfl, HA, HJ24, HO_8, HO_10, HO_34, BK150, HB⟩ := hcut
            cases kq with
            | zero => exact absurd HA.out (by simp [impl_TimesChanging.j2])
            | succ kj24 =>
             have H := HA.out
             clear HA
             simp only [impl_TimesChanging.j2] at H
             replace H := Option.bind_eq_some_iff.mp H
             obtain ⟨t161, A290, H⟩ := H
             replace H : (impl_TimesChanging.l1 kj24 a2 t153 t156 x10_2 (rdOf ByteArray.empty t153 x36_2) x13_24 t161 t153 (t153.length : Int) x36_2 (x10_2.length : Int) 0 l0_0) = some (r1, r2) := H
             have A29 := Aside0.mk A290
             clear A290
             have H' := Aside0.mk H
             clear H
             have hcz30_0 : wc.cell? ⟨gb150, 0, none⟩ = some (.slice A0_0 l0_0.length c0_0) := (blk_cell BK150.out 0).trans rfl
             have hfz30_0 := blk_frozen BK150.out 0
             go_wp2_with (first | (go_at_call 22; (with_reducible refine (impl_Lamps_tick.calls _ _ l0_0 (rdOf ByteArray.empty t153 x36_2) t161 _ ?side1 ?side2 A29.out).mono ?_); (case side1 => repeat (first | exact (Kd.C_below HR0_0.out HB.out) | (with_reducible refine Kd.C_alloc ?_ _) | (with_reducible refine Kd.C_drewN ?_ _) | (with_reducible refine Kd.C_drew ?_))); (case side2 => exact HC0_0.out); rintro e w31 ⟨rfl, hb⟩; have n0_ := Aside0.mk (Kd.R_below (by (with_reducible repeat (first | apply Kd.R_alloc | apply Kd.R_drewN | apply Kd.R_drew)); exact HO_8.out) hb); have n1_ := Aside0.mk (Kd.R_below (by (with_reducible repeat (first | apply Kd.R_alloc | apply Kd.R_drewN | apply Kd.R_drew)); exact HO_10.out) hb); have n2_ := Aside0.mk (Kd.R_below (by (with_reducible repeat (first | apply Kd.R_alloc | apply Kd.R_drewN | apply Kd.R_drew)); exact HO_34.out) hb); have n3_ := Aside0.mk (blk_below (g := gb150) (o := .cells #[.slice A0_0 l0_0.length c0_0] 29 (0, 0)) (by (with_reducible repeat (first | refine blk_drewN ?_ _ | refine blk_drew ?_ | refine blk_alloc ?_ _)); exact BK150.out) hb); have n4_ := Aside0.mk (below_step (by repeat (first | (with_reducible first | exact HB.out | apply below_alloc | apply pw_below_drewN | apply below_drew1 | refine below_set ?_ GE150.out) | exact HB.out)) hb); clear HO_8; clear HO_10; clear HO_34; clear BK150; clear HB; have HO_8 := n0_; have HO_10 := n1_; have HO_34 := n2_; have BK150 := n3_; have HB := n4_; clear n0_ n1_ n2_ n3_ n4_; (try clear hb); (try clear hb2); (try clear hk); (try clear hi); obtain ⟨Ao32, co32, eo32⟩ := Kd.R_slice HO_10.out; subst eo32))
             repeat (go_quiet (first | (go_at_call 22; (with_reducible refine (impl_Lamps_tick.calls _ _ l0_0 (rdOf ByteArray.empty t153 x36_2) t161 _ ?side1 ?side2 A29.out).mono ?_); (case side1 => repeat (first | exact (Kd.C_below HR0_0.out HB.out) | (with_reducible refine Kd.C_alloc ?_ _) | (with_reducible refine Kd.C_drewN ?_ _) | (with_reducible refine Kd.C_drew ?_))); (case side2 => exact HC0_0.out); rintro e w31 ⟨rfl, hb⟩; have n0_ := Aside0.mk (Kd.R_below (by (with_reducible repeat (first | apply Kd.R_alloc | apply Kd.R_drewN | apply Kd.R_drew)); exact HO_8.out) hb); have n1_ := Aside0.mk (Kd.R_below (by (with_reducible repeat (first | apply Kd.R_alloc | apply Kd.R_drewN | apply Kd.R_drew)); exact HO_10.out) hb); have n2_ := Aside0.mk (Kd.R_below (by (with_reducible repeat (first | apply Kd.R_alloc | apply Kd.R_drewN | apply Kd.R_drew)); exact HO_34.out) hb); have n3_ := Aside0.mk (blk_below (g := gb150) (o := .cells #[.slice A0_0 l0_0.length c0_0] 29 (0, 0)) (by (with_reducible repeat (first | refine blk_drewN ?_ _ | refine blk_drew ?_ | refine blk_alloc ?_ _)); exact BK150.out) hb); have n4_ := Aside0.mk (below_step (by repeat (first | (with_reducible first | exact HB.out | apply below_alloc | apply pw_below_drewN | apply below_drew1 | refine below_set ?_ GE150.out) | exact HB.out)) hb); clear HO_8; clear HO_10; clear HO_34; clear BK150; clear HB; have HO_8 := n0_; have HO_10 := n1_; have HO_34 := n2_; have BK150 := n3_; have HB := n4_; clear n0_ n1_ n2_ n3_ n4_; (try clear hb); (try clear hb2); (try clear hk); (try clear hi); obtain ⟨Ao32, co32, eo32⟩ := Kd.R_slice HO_10.out; subst eo32)); try go_wp2_with (first | (go_at_call 22; (with_reducible refine (impl_Lamps_tick.calls _ _ l0_0 (rdOf ByteArray.empty t153 x36_2) t161 _ ?side1 ?side2 A29.out).mono ?_); (case side1 => repeat (first | exact (Kd.C_below HR0_0.out HB.out) | (with_reducible refine Kd.C_alloc ?_ _) | (with_reducible refine Kd.C_drewN ?_ _) | (with_reducible refine Kd.C_drew ?_))); (case side2 => exact HC0_0.out); rintro e w31 ⟨rfl, hb⟩; have n0_ := Aside0.mk (Kd.R_below (by (with_reducible repeat (first | apply Kd.R_alloc | apply Kd.R_drewN | apply Kd.R_drew)); exact HO_8.out) hb); have n1_ := Aside0.mk (Kd.R_below (by (with_reducible repeat (first | apply Kd.R_alloc | apply Kd.R_drewN | apply Kd.R_drew)); exact HO_10.out) hb); have n2_ := Aside0.mk (Kd.R_below (by (with_reducible repeat (first | apply Kd.R_alloc | apply Kd.R_drewN | apply Kd.R_drew)); exact HO_34.out) hb); have n3_ := Aside0.mk (blk_below (g := gb150) (o := .cells #[.slice A0_0 l0_0.length c0_0] 29 (0, 0)) (by (with_reducible repeat (first | refine blk_drewN ?_ _ | refine blk_drew ?_ | refine blk_alloc ?_ _)); exact BK150.out) hb); have n4_ := Aside0.mk (below_step (by repeat (first | (with_reducible first | exact HB.out | apply below_alloc | apply pw_below_drewN | apply below_drew1 | refine below_set ?_ GE150.out) | exact HB.out)) hb); clear HO_8; clear HO_10; clear HO_34; clear BK150; clear HB; have HO_8 := n0_; have HO_10 := n1_; have HO_34 := n2_; have BK150 := n3_; have HB := n4_; clear n0_ n1_ n2_ n3_ n4_; (try clear hb); (try clear hb2); (try clear hk); (try clear hi); obtain ⟨Ao32, co32, eo32⟩ := Kd.R_slice HO_10.out; subst eo32)))
             go_loopg [64] kj24 (fun kq v64 w' => ∃ (x10_4 : List Int) (x64_4 : Int), v64 = .int .i64 x64_4 ∧ Aside0 (impl_TimesChanging.l1 kq a2 t153 t156 x10_4 (rdOf ByteArray.empty t153 x36_2) x13_24 t161 t153 (t153.length : Int) x36_2 (x10_2.length : Int) x64_4 l0_0 = some (r1, r2)) ∧ Aside0 (kq ≤ kj24) ∧ Aside0 (Kd.R Kd.string 9 w' w.heap.size (fun _ => True) (.slice (some ad160) t153.length co21) t153) ∧ Aside0 (Kd.R (Kd.int .i64) 3 w' w.heap.size (fun _ => True) (.slice Ao32 x10_2.length co32) x10_4) ∧ Aside0 (Kd.R Kd.string 9 w' w.heap.size (fun _ => True) (.slice (some ad160) t153.length co21) t153) ∧ Aside0 (w'.heap[gb150]? = some (.cells #[(.slice A0_0 l0_0.length c0_0)] 29 (0, 0))) ∧ Aside0 (Below w.heap.size w w'))
             case atStart => exact ⟨(x10_2), (0), (by first | rfl | (simp; done) | (simp [*]; done)), H', ⟨Nat.le_refl _⟩, ⟨by (with_reducible repeat (first | apply Kd.R_alloc | apply Kd.R_drewN | apply Kd.R_drew)); exact HO_8.out⟩, ⟨by (with_reducible repeat (first | apply Kd.R_alloc | apply Kd.R_drewN | apply Kd.R_drew)); exact HO_10.out⟩, ⟨by (with_reducible repeat (first | apply Kd.R_alloc | apply Kd.R_drewN | apply Kd.R_drew)); exact HO_34.out⟩, ⟨by (with_reducible repeat (first | refine blk_drewN ?_ _ | refine blk_drew ?_ | refine blk_alloc ?_ _)); exact BK150.out⟩, ⟨by repeat (first | (with_reducible first | exact HB.out | apply below_alloc | apply pw_below_drewN | apply below_drew1 | refine below_set ?_ GE150.out) | exact HB.out)⟩⟩
             case round =>
              clear H'
              try clear c1
              try clear p1
              try clear q1
              try clear hx1
              try clear c2
              try clear p2
              try clear p6
              try clear c7
              try clear c13
              try clear c15
              try clear c15b0
              try clear c15b1
              try clear c16
              try clear c16b0
              try clear c16b1
              try clear p16
              try clear q16
              try clear hx16
              try clear c22
              try clear c22b0
              try clear c23
              try clear c23b0
              try clear c24
              try clear c24b0
              try clear c26
              try clear c26b0
              try clear c27
              try clear c27b0
              try clear c28
              try clear c28b0
              try clear c28b1
              try clear hcz11_0
              try clear hcz17_0
              try clear hcz30_0
              try clear hcz9_0
              try clear hfz11_0
              try clear hfz17_0
              try clear hfz30_0
              try clear hfz9_0
              try clear hx160_0
              try clear p1
              try clear p16
              try clear p160
              try clear p2
              try clear p6
              try clear q1
              try clear q16
              try clear q160
              obtain ⟨x10_4, x64_4, rfl, HA, HK4, HO_8, HO_10, HO_34, BK150, HB⟩ := hrel
              have hl10_4 := (Kd.R_reads' HO_10.out).1
              rw [hl10_4] at HO_10
              (try simp only [hl10_4])
              (try simp only [hl10_4] at BK150)
              (try simp only [hl10_4] at HO_8)
              (try simp only [hl10_4] at HO_34)
              cases gk with
              | zero => exact absurd HA.out (by simp [impl_TimesChanging.l1])
              | succ k4 =>
               have H := HA.out
               clear HA
               simp only [impl_TimesChanging.l1] at H
               by_cases c33 : x64_4 < (x10_2.length : Int)
               ·rw [if_pos c33] at H
                have c33b0 : decide (x64_4 < (x10_2.length : Int)) = true := decide_eq_true c33
                try (have c33l := c33b0; simp only [hl10_4] at c33l)
                clear c33
                by_cases c34 : 0 ≤ x64_4
                ·rw [if_pos c34] at H
                 have c34b0 : decide (0 ≤ x64_4) = true := decide_eq_true c34
                 clear c34
                 by_cases c35 : x64_4 < (t161.size : Int)
                 ·rw [if_pos c35] at H
                  have c35b0 : decide (x64_4 < (t161.size : Int)) = true := decide_eq_true c35
                  clear c35
                  by_cases c37 : x64_4 < ((rdOf ByteArray.empty t153 x36_2).size : Int)
                  ·rw [if_pos c37] at H
                   have c37b0 : decide (x64_4 < ((rdOf ByteArray.empty t153 x36_2).size : Int)) = true := decide_eq_true c37
                   clear c37
                   by_cases c39 : (bt t161 x64_4) = (bt (rdOf ByteArray.empty t153 x36_2) x64_4)
                   ·rw [if_pos c39] at H
                    have c39b0 : ((bt t161 x64_4) == (bt (rdOf ByteArray.empty t153 x36_2) x64_4)) = true := beq_iff_eq.mpr c39
                    have c39b1 : ((bt t161 x64_4) != (bt (rdOf ByteArray.empty t153 x36_2) x64_4)) = false := bne_eq_false_iff_eq.mpr c39
                    clear c39
                    have H' := Aside0.mk H
                    clear H
                    have p36 : 0 ≤ (x64_4 : Int) := of_decide_eq_true (by first | (with_reducible assumption) | assumption)
                    have q36 : x64_4 < (t161.size : Int) := of_decide_eq_true (by first | (with_reducible assumption) | assumption)
                    have hx36 := bt_at t161 x64_4
                    replace p36 := eq_true p36
                    replace q36 := eq_true q36
                    have p38 : 0 ≤ (x64_4 : Int) := of_decide_eq_true (by first | (with_reducible assumption) | assumption)
                    have q38 : x64_4 < ((rdOf ByteArray.empty t153 x36_2).size : Int) := of_decide_eq_true (by first | (with_reducible assumption) | assumption)
                    have hx38 := bt_at (rdOf ByteArray.empty t153 x36_2) x64_4
                    replace p38 := eq_true p38
                    replace q38 := eq_true q38
                    go_wp2
                    repeat (go_quiet (fail); try go_wp2)
                    (try simp only [← hl10_4])
                    go_roundg k4
                    case measure => have := HJ3.out; have := HK2.out; have := HJ24.out; have := HK4.out; omega
                    case rel => exact ⟨(x10_4), (wrap64 (x64_4 + 1)), (by first | rfl | (simp; done) | (simp [*]; done)), H', ⟨by have := HJ3.out; have := HK2.out; have := HJ24.out; have := HK4.out; omega⟩, ⟨by (try simp only [hl10_4]); (with_reducible repeat (first | apply Kd.R_alloc | apply Kd.R_drewN | apply Kd.R_drew)); exact HO_8.out⟩, ⟨by (try simp only [hl10_4]); (with_reducible repeat (first | apply Kd.R_alloc | apply Kd.R_drewN | apply Kd.R_drew)); exact HO_10.out⟩, ⟨by (try simp only [hl10_4]); (with_reducible repeat (first | apply Kd.R_alloc | apply Kd.R_drewN | apply Kd.R_drew)); exact HO_34.out⟩, ⟨by (try simp only [hl10_4]); (with_reducible repeat (first | refine blk_drewN ?_ _ | refine blk_drew ?_ | refine blk_alloc ?_ _)); exact BK150.out⟩, ⟨by repeat (first | (with_reducible first | exact HB.out | apply below_alloc | apply pw_below_drewN | apply below_drew1 | refine below_set ?_ GE150.out) | exact HB.out)⟩⟩
                   ·rw [if_neg c39] at H
                    have c39b0 : ((bt t161 x64_4) == (bt (rdOf ByteArray.empty t153 x36_2) x64_4)) = false := beq_eq_false_iff_ne.mpr c39
                    have c39b1 : ((bt t161 x64_4) != (bt (rdOf ByteArray.empty t153 x36_2) x64_4)) = true := bne_iff_ne.mpr c39
                    by_cases c40 : x64_4 < (x10_4.length : Int)
                    ·rw [if_pos c40] at H
                     have c40b0 : decide (x64_4 < (x10_4.length : Int)) = true := decide_eq_true c40
                     try (have c40l := c40b0; simp only [hl10_4] at c40l)
                     clear c40
                     obtain ⟨y163, hy163⟩ : ∃ y_ : List Int, y_ = (x10_4.set (x64_4 : Int).toNat (wrap64 ((rd x10_4 x64_4) + x13_24))) := ⟨_, rfl⟩
                     replace H : (impl_TimesChanging.l1 k4 a2 t153 t156 y163 (rdOf ByteArray.empty t153 x36_2) x13_24 t161 t153 (t153.length : Int) x36_2 (x10_2.length : Int) (wrap64 (x64_4 + 1)) l0_0) = some (r1, r2) := by first | (rw [hy163]; with_reducible exact H) | (have H2_ := (Option.bind_some _ _).symm.trans H; rw [hy163]; with_reducible exact H2_) | (have H2_ := (Option.bind_some _ _).symm.trans H; with_reducible exact H2_) | with_reducible exact H | (rw [hy163]; exact H) | exact H
                     have Ny163 := Aside0.mk hy163
                     clear hy163
                     have H' := Aside0.mk H
                     clear H
                     have p36 : 0 ≤ (x64_4 : Int) := of_decide_eq_true (by first | (with_reducible assumption) | assumption)
                     have q36 : x64_4 < (t161.size : Int) := of_decide_eq_true (by first | (with_reducible assumption) | assumption)
                     have hx36 := bt_at t161 x64_4
                     replace p36 := eq_true p36
                     replace q36 := eq_true q36
                     have p38 : 0 ≤ (x64_4 : Int) := of_decide_eq_true (by first | (with_reducible assumption) | assumption)
                     have q38 : x64_4 < ((rdOf ByteArray.empty t153 x36_2).size : Int) := of_decide_eq_true (by first | (with_reducible assumption) | assumption)
                     have hx38 := bt_at (rdOf ByteArray.empty t153 x36_2) x64_4
                     replace p38 := eq_true p38
                     replace q38 := eq_true q38
                     have p162 : 0 ≤ (x64_4 : Int) := of_decide_eq_true (by first | (with_reducible assumption) | assumption)
                     have q162 : x64_4 < (x10_4.length : Int) := of_decide_eq_true (by first | (with_reducible assumption) | assumption)
                     obtain ⟨ad162, e162, hx162_0⟩ := Kd.at_int (Kd.R_reads' HO_10.out).2.2 x64_4 p162 q162
                     cases e162
                     replace p162 := eq_true p162
                     replace q162 := eq_true q162
                     have p41 : 0 ≤ (x64_4 : Int) := of_decide_eq_true (by first | (with_reducible assumption) | assumption)
                     have q41 : (x64_4 : Int) < ((x10_4.length : Int) : Int) := of_decide_eq_true (by first | (with_reducible assumption) | assumption)
                     obtain ⟨go41, co41, eo41, gb41, gl41, cl41, HG41⟩ := Kd.R_form HO_10.out (by omega)
                     (first | cases eo41 | (injection eo41 with ea_ en_ ec_; (first | subst ea_ | (injection ea_ with ea_; subst ea_)); subst ec_; clear en_))
                     have GB41 := Aside0.mk gb41
                     have GG41 := Aside0.mk HG41
                     clear gb41 gl41 HG41
                     (first | simp only [add_plain] at hx162_0 | skip)
                     obtain ⟨hx41_0, hf41_0⟩ := Kd.R_celln 0 HO_10.out (x64_4 : Int) p41 q41
                     replace p41 := eq_true p41
                     replace q41 := eq_true q41
                     have HP42 := Kd.R_putg HO_10.out (x64_4 : Int) (wrap64 ((rd x10_4 x64_4) + x13_24))
                     have HF_ := Aside0.mk hf41_0
                     clear hf41_0
                     try go_wp2
                     repeat (go_quiet (fail))
                     clear HF_
                     generalize hq_ : World.drewN wr _ = wr
                     have n0_ := Aside0.mk (Kd.R_at hq_ HO_8.out)
                     have n1_ := Aside0.mk (Kd.R_at hq_ HO_10.out)
                     have n2_ := Aside0.mk (Kd.R_at hq_ HO_34.out)
                     have n3_ := Aside0.mk (blk_at hq_ BK150.out)
                     have n4_ := Aside0.mk (below_at hq_ HB.out)
                     clear hq_ HO_8 HO_10 HO_34 BK150 HB
                     have HO_8 := n0_
                     have HO_10 := n1_
                     have HO_34 := n2_
                     have BK150 := n3_
                     have HB := n4_
                     clear n0_ n1_ n2_ n3_ n4_
                     have HP42 := Kd.R_putg HO_10.out (x64_4 : Int) (wrap64 ((rd x10_4 x64_4) + x13_24))
                     obtain ⟨hx41_0, hf41_0⟩ := Kd.R_celln 0 HO_10.out (x64_4 : Int) (of_eq_true p41) (of_eq_true q41)
                     go_wp2_with (first | ((with_reducible refine gate_store (t := 3) (p := 80) rfl ?_); (try (rw [drewN_self wr]; generalize hq_ : World.drewN wr _ = wr; have n0_ := Aside0.mk (Kd.R_at hq_ HO_8.out); have n1_ := Aside0.mk (Kd.R_at hq_ HO_10.out); have n2_ := Aside0.mk (Kd.R_at hq_ HO_34.out); have n3_ := Aside0.mk (blk_at hq_ BK150.out); have n4_ := Aside0.mk (below_at hq_ HB.out); clear hq_ HO_8 HO_10 HO_34 BK150 HB; have HO_8 := n0_; have HO_10 := n1_; have HO_34 := n2_; have BK150 := n3_; have HB := n4_; clear n0_ n1_ n2_ n3_ n4_; (try (have HP42 := Kd.R_putg HO_10.out (x64_4 : Int) (wrap64 ((rd x10_4 x64_4) + x13_24)))))); refine store_event (t := 3) (p := 80) (v := ?vo_w43) (w1 := (wr.setCell ⟨go41, (x64_4 : Int).toNat, none⟩ (.int .i64 (wrap64 ((rd x10_4 x64_4) + x13_24))))) ?hg ?ho ?hn ?hr ?_; (case ho => rfl); (case hg => rfl); (case hn => rfl); (case hr => first | (go_simp; done) | (go_simp; rfl)); intro w43 hw; have hg : wr.grownBy w43 (some go41) := (by rw [hw]; exact HP42.2); have hp_ : Kd.R (Kd.int .i64) 3 w43 w.heap.size (fun _ => True) (.slice (some ⟨go41, 0, none⟩) x10_4.length co32) y163 := (by rw [hw, Ny163.out]; exact HP42.1); clear HP42; have n0_ := Aside0.mk (Kd.R_over' (v := (.slice (some ⟨go41, 0, none⟩) x10_4.length co32)) (by (with_reducible repeat (first | apply Kd.R_alloc | apply Kd.R_drewN | apply Kd.R_drew)); exact HO_8.out) (Kd.R_typed HO_10.out) (by decide) hg); have n1_ := Aside0.mk (hp_); have n2_ := Aside0.mk (Kd.R_over' (v := (.slice (some ⟨go41, 0, none⟩) x10_4.length co32)) (by (with_reducible repeat (first | apply Kd.R_alloc | apply Kd.R_drewN | apply Kd.R_drew)); exact HO_34.out) (Kd.R_typed HO_10.out) (by decide) hg); have n3_ := Aside0.mk (blk_grown (g := gb150) (o := .cells #[.slice A0_0 l0_0.length c0_0] 29 (0, 0)) (by (with_reducible repeat (first | refine blk_drewN ?_ _ | refine blk_drew ?_ | refine blk_alloc ?_ _)); exact BK150.out) hg (Kd.R_ne HO_10.out BK150.out (by decide))); have n4_ := Aside0.mk ((by rw [hw]; exact below_set (HB.out) GB41.out : Below w.heap.size w w43)); clear HO_8; clear HO_10; clear HO_34; clear BK150; clear HB; have HO_8 := n0_; have HO_10 := n1_; have HO_34 := n2_; have BK150 := n3_; have HB := n4_; clear n0_ n1_ n2_ n3_ n4_; clear hg hw hp_))
                     (try simp only [← hl10_4])
                     go_roundg k4
                     case measure => have := HJ3.out; have := HK2.out; have := HJ24.out; have := HK4.out; omega
                     case rel => exact ⟨(y163), (wrap64 (x64_4 + 1)), (by first | rfl | (simp; done) | (simp [*]; done)), H', ⟨by have := HJ3.out; have := HK2.out; have := HJ24.out; have := HK4.out; omega⟩, ⟨by (try simp only [hl10_4]); (with_reducible repeat (first | apply Kd.R_alloc | apply Kd.R_drewN | apply Kd.R_drew)); exact HO_8.out⟩, ⟨by (try simp only [hl10_4]); (with_reducible repeat (first | apply Kd.R_alloc | apply Kd.R_drewN | apply Kd.R_drew)); exact HO_10.out⟩, ⟨by (try simp only [hl10_4]); (with_reducible repeat (first | apply Kd.R_alloc | apply Kd.R_drewN | apply Kd.R_drew)); exact HO_34.out⟩, ⟨by (try simp only [hl10_4]); (with_reducible repeat (first | refine blk_drewN ?_ _ | refine blk_drew ?_ | refine blk_alloc ?_ _)); exact BK150.out⟩, ⟨by repeat (first | (with_reducible first | exact HB.out | apply below_alloc | apply pw_below_drewN | apply below_drew1 | refine below_set ?_ GE150.out) | exact HB.out)⟩⟩
                    ·rw [if_neg c40] at H
                     exact absurd H (by simp)
                  ·rw [if_neg c37] at H
                   exact absurd H (by simp)
                 ·rw [if_neg c35] at H
                  exact absurd H (by simp)
                ·rw [if_neg c34] at H
                 exact absurd H (by simp)
               ·rw [if_neg c33] at H
                have c33b0 : decide (x64_4 < (x10_2.length : Int)) = false := decide_eq_false c33
                try (have c33l := c33b0; simp only [hl10_4] at c33l)
                clear c33
                have H' := Aside0.mk H
                clear H
                go_wp2
                repeat (go_quiet (fail); try go_wp2)
                (try simp only [← hl10_4])
                go_roundg k4
                case measure => have := HJ3.out; have := HK2.out; have := HJ24.out; have := HK4.out; omega
                case rel => exact ⟨(x10_4), (wrap64 (x36_2 + 1)), (by first | rfl | (simp; done) | (simp [*]; done)), H', ⟨by have := HJ3.out; have := HK2.out; have := HJ24.out; have := HK4.out; omega⟩, ⟨by (try simp only [hl10_4]); (with_reducible repeat (first | apply Kd.R_alloc | apply Kd.R_drewN | apply Kd.R_drew)); exact HO_8.out⟩, ⟨by (try simp only [hl10_4]); (with_reducible repeat (first | apply Kd.R_alloc | apply Kd.R_drewN | apply Kd.R_drew)); exact HO_10.out⟩, ⟨by (try simp only [hl10_4]); (with_reducible repeat (first | apply Kd.R_alloc | apply Kd.R_drewN | apply Kd.R_drew)); exact HO_34.out⟩, ⟨by (try simp only [hl10_4]); (with_reducible repeat (first | refine blk_drewN ?_ _ | refine blk_drew ?_ | refine blk_alloc ?_ _)); exact BK150.out⟩, ⟨by repeat (first | (with_reducible first | exact HB.out | apply below_alloc | apply pw_below_drewN | apply below_drew1 | refine below_set ?_ GE150.out) | exact HB.out)⟩⟩
          ·rw [if_neg c24] at H
           exact absurd H (by simp)
         ·rw [if_neg c23] at H
          exact absurd H (by simp)
        ·rw [if_neg c22] at H
         have c22b0 : decide (x36_2 < (t153.length : Int)) = false := decide_eq_false c22
         try (have c22l := c22b0; simp only [hl10_4] at c22l)
         clear c22
         simp only [Option.some.injEq, Prod.mk.injEq] at H
         obtain ⟨rfl, rfl⟩ := H
         go_wp2
         repeat (go_quiet (fail); try go_wp2)
         go_ret2
         exact ⟨_, by first | rfl | (simp [errW_none, errW_some] <;> rfl) | (simp [*, errW_none, errW_some] <;> rfl), by (with_reducible repeat (first | apply Kd.R_alloc | apply Kd.R_drewN | apply Kd.R_drew)); exact HO_10.out, by repeat (first | (with_reducible first | exact HB.out | apply below_alloc | apply pw_below_drewN | apply below_drew1 | refine below_set ?_ GE150.out) | exact HB.out)⟩
     ·rw [if_neg c16] at H
      exact absurd H (by simp)
    ·rw [if_neg c15] at H
     exact absurd H (by simp)

end Go.Proofs.YtcnbjmelmndlnaaDoor.PTimesChanging
