-- PRINTED by drive.py (a program of this session's, over the kit's print.py; wip/tools/drive.py). Lean checks it.
import Derived.Test.YtpjdlobkeafacaaPNeedlessBlocksx0
import Derived.Test.YtpjdlobkeafacaaPNeedlessBlocksx1
import Derived.Test.YtpjdlobkeafacaaPNeedlessBlocksx2
import Derived.Test.YtpjdlobkeafacaaPNeedlessBlocksx5
import Derived.Test.YtpjdlobkeafacaaPNeedlessBlocksx6
namespace Go.Proofs.Ytpjdlobkeafacaa.PNeedlessBlocks
open Go.RowKit Go.Proofs.YtpjdlobkeafacaaW.PrintWords Go.Proofs.YtpjdlobkeafacaaW.PrintLast Go.Proofs.YtpjdlobkeafacaaW.PrintMore
attribute [local go_sem] max2_int min2_int max_two min_two max_three min_three max_four min_four   -- for this text's walks alone
set_option linter.unusedVariables false
set_option linter.unusedSimpArgs false

/-! ### impl_NeedlessBlocks: function 17 -/
def impl_NeedlessBlocks.l0 : Nat → Int → List Int → Int → Int → List Int → List (S35) → Option (List Int × Bool)
 | 0, _, _, _, _, _, _ => none
 | k + 1, x4, x5, x15, x16, x254000, x254001 => if x16 < x15 then ((impl_Bolts_without.f x254000 x254001 x16).bind fun bt258 => ((impl_Bolts_states.f k bt258.1 bt258.2).bind fun t264 => (if (t264.length : Int) = x4 then (if x5.length < 17592186044416 then (impl_NeedlessBlocks.l0 k x4 (x5 ++ [x16]) x15 (wrap64 (x16 + 1)) x254000 x254001) else (none)) else (impl_NeedlessBlocks.l0 k x4 x5 x15 (wrap64 (x16 + 1)) x254000 x254001)))) else (some (x5, true))
def impl_NeedlessBlocks.f (k : Nat) (l0_0 : List Int) (l0_1 : List (S35)) : Option (List Int × Bool) := (impl_AreBolts.f l0_0 l0_1).bind fun t254 => (if t254 = true then ((impl_Bolts_states.f k l0_0 l0_1).bind fun t255 => (impl_NeedlessBlocks.l0 k (t255.length : Int) ([] : List Int) (l0_1.length : Int) 0 l0_0 l0_1)) else (some (([] : List Int), false)))
theorem impl_NeedlessBlocks.mono_l : ∀ k, (∀ y0 y1 y2 y3 y4 y5, LeO (impl_NeedlessBlocks.l0 k y0 y1 y2 y3 y4 y5) (impl_NeedlessBlocks.l0 (k + 1) y0 y1 y2 y3 y4 y5))
 | 0 => fun _ _ _ _ _ _ r h => by simp [impl_NeedlessBlocks.l0] at h
 | k + 1 => by
  have ih0 := impl_NeedlessBlocks.mono_l k
  ·intro y0 y1 y2 y3 y4 y5
   unfold impl_NeedlessBlocks.l0
   repeat' first
   | (with_reducible exact ih0 _ _ _ _ _ _)
   | (with_reducible exact impl_Bolts_states.mono _ _ _)
   | (with_reducible exact LeO.refl _)
   | (with_reducible exact LeO.none _)
   | (with_reducible refine LeO.ite ?_ ?_)
   | (with_reducible refine LeO.bind ?_ (fun _ => ?_))
   | exact ih0 _ _ _ _ _ _
   | exact impl_Bolts_states.mono _ _ _
   | exact LeO.none _
   | refine LeO.ite ?_ ?_
   | refine LeO.bind ?_ (fun _ => ?_)
theorem impl_NeedlessBlocks.mono : ∀ a0 a1 k, LeO (impl_NeedlessBlocks.f k a0 a1) (impl_NeedlessBlocks.f (k + 1) a0 a1) := by
 intro a0 a1 k
 have ih0 := impl_NeedlessBlocks.mono_l k
 unfold impl_NeedlessBlocks.f
 repeat' first
   | (with_reducible exact ih0 _ _ _ _ _ _)
   | (with_reducible exact impl_Bolts_states.mono _ _ _)
   | (with_reducible exact LeO.refl _)
   | (with_reducible exact LeO.none _)
   | (with_reducible refine LeO.ite ?_ ?_)
   | (with_reducible refine LeO.bind ?_ (fun _ => ?_))
   | exact ih0 _ _ _ _ _ _
   | exact impl_Bolts_states.mono _ _ _
   | exact LeO.none _
   | refine LeO.ite ?_ ?_
   | refine LeO.bind ?_ (fun _ => ?_)
set_option maxHeartbeats 8000000 in
set_option maxRecDepth 100000 in
theorem impl_NeedlessBlocks.calls (k : Nat) (A0_0 : Option Addr) (c0_0 : Nat) (l0_0 : List Int) (A0_1 : Option Addr) (c0_1 : Nat) (l0_1 : List (S35)) (r1 : List Int) (r2 : Bool) (w : World) (hr0_0 : Kd.C (Kd.int .i64) w A0_0 l0_0.length l0_0) (hc0_0 : l0_0.length ≤ c0_0) (hr0_1 : Kd.C k35 w A0_1 l0_1.length l0_1) (hc0_1 : l0_1.length ≤ c0_1) (h : impl_NeedlessBlocks.f k l0_0 l0_1 = some (r1, r2)) :
  Calls Try.prog 17 #[.agg #[.slice A0_0 l0_0.length c0_0, .slice A0_1 l0_1.length c0_1]] w fun e w' => ∃ v0_ : Value, e = .returned (.tuple #[v0_, .bool r2]) ∧ Kd.R (Kd.int .i64) 3 w' w.heap.size (fun _ => True) v0_ r1 ∧ Below w.heap.size w w' := by
 have hu31 := Try.underlying31
 have HR0_0 := Aside0.mk hr0_0
 have HC0_0 := Aside0.mk hc0_0
 clear hr0_0 hc0_0
 have HR0_1 := Aside0.mk hr0_1
 have HC0_1 := Aside0.mk hc0_1
 clear hr0_1 hc0_1
 have HB := Aside0.mk (Below.refl w.heap.size w)
 have H : ((impl_AreBolts.f l0_0 l0_1).bind fun t254 => (if t254 = true then ((impl_Bolts_states.f k l0_0 l0_1).bind fun t255 => (impl_NeedlessBlocks.l0 k (t255.length : Int) ([] : List Int) (l0_1.length : Int) 0 l0_0 l0_1)) else (some (([] : List Int), false)))) = some (r1, r2) := h
 clear h
 replace H := Option.bind_eq_some_iff.mp H
 obtain ⟨t254, A20, H⟩ := H
 replace H : (if t254 = true then ((impl_Bolts_states.f k l0_0 l0_1).bind fun t255 => (impl_NeedlessBlocks.l0 k (t255.length : Int) ([] : List Int) (l0_1.length : Int) 0 l0_0 l0_1)) else (some (([] : List Int), false))) = some (r1, r2) := H
 have A2 := Aside0.mk A20
 clear A20
 by_cases c3 : t254 = true
 ·subst c3
  have H1 : ((impl_Bolts_states.f k l0_0 l0_1).bind fun t255 => (impl_NeedlessBlocks.l0 k (t255.length : Int) ([] : List Int) (l0_1.length : Int) 0 l0_0 l0_1)) = some (r1, r2) := by rw [if_pos rfl] at H; exact H
  clear H
  have H := H1
  clear H1
  replace H := Option.bind_eq_some_iff.mp H
  obtain ⟨t255, A40, H⟩ := H
  replace H : (impl_NeedlessBlocks.l0 k (t255.length : Int) ([] : List Int) (l0_1.length : Int) 0 l0_0 l0_1) = some (r1, r2) := H
  have A4 := Aside0.mk A40
  clear A40
  have H' := Aside0.mk H
  clear H
  go_enter Try.func17, Try.ntmps17
  go_wp2_with (first | ((with_reducible refine gate_dst (N := 1) rfl ?_); refine box_event ?hg (N := 1) ?hd (cs := #[.slice A0_0 l0_0.length c0_0, .slice A0_1 l0_1.length c0_1]) (t := 31) ?hr ?_; (case hd => rfl); (case hg => rfl); (case hr => first | (go_simp; done) | (go_simp; rfl)); intro gb253 hg w5 hbox hb; have n0_ := Aside0.mk (below_step (by repeat (first | (with_reducible first | exact HB.out | apply below_alloc | apply pw_below_drewN | apply below_drew1) | exact HB.out)) hb); have n1_ := Aside0.mk (hbox); have n2_ := Aside0.mk ((by rw [hg]; exact (below_size (by repeat (first | (with_reducible first | exact HB.out | apply below_alloc | apply pw_below_drewN | apply below_drew1) | exact HB.out))) : w.heap.size ≤ gb253)); have n3_ := Aside0.mk ((by rw [hg]; exact (below_size (by repeat (first | (with_reducible first | exact HB.out | apply below_alloc | apply pw_below_drewN | apply below_drew1) | exact HB.out))) : w.heap.size ≤ gb253)); clear HB; have HB := n0_; have BK253 := n1_; have GW253 := n2_; have GE253 := n3_; clear n0_ n1_ n2_ n3_; clear hb hbox hg; have hcz6_0 : w5.cell? ⟨gb253, 0, none⟩ = some (.slice A0_0 l0_0.length c0_0) := (blk_cell BK253.out 0).trans rfl; have hcz6_1 : w5.cell? ⟨gb253, 1, none⟩ = some (.slice A0_1 l0_1.length c0_1) := (blk_cell BK253.out 1).trans rfl; have hfz6_0 := blk_frozen BK253.out 0; have hfz6_1 := blk_frozen BK253.out 1) | ((with_reducible refine gate_callee (f := 28) rfl ?_); refine goesL_ (some 8) rfl rfl Try.func28 (by kernel_rfl) rfl #[.agg #[.slice A0_0 l0_0.length c0_0, .slice A0_1 l0_1.length c0_1]] rfl (by (try simp only [List.map_toArray, List.map_cons, List.map_nil]); first | done | rfl | (simp only [List.length_drop, List.length_take]; rfl)) ?_; (with_reducible refine (impl_AreBolts.calls _ _ l0_0 _ _ l0_1 true _ ?side1 ?side2 ?side3 ?side4 A2.out).mono ?_); (case side1 => repeat (first | exact (Kd.C_below HR0_0.out HB.out) | (with_reducible refine Kd.C_alloc ?_ _) | (with_reducible refine Kd.C_drewN ?_ _) | (with_reducible refine Kd.C_drew ?_))); (case side2 => exact HC0_0.out); (case side3 => repeat (first | exact (Kd.C_below HR0_1.out HB.out) | (with_reducible refine Kd.C_alloc ?_ _) | (with_reducible refine Kd.C_drewN ?_ _) | (with_reducible refine Kd.C_drew ?_))); (case side4 => exact HC0_1.out); rintro e w7 ⟨rfl, hb⟩; refine ⟨_, rfl, ?_⟩; have n0_ := Aside0.mk (blk_below (g := gb253) (o := .cells #[.slice A0_0 l0_0.length c0_0, .slice A0_1 l0_1.length c0_1] 31 (0, 0)) (by (with_reducible repeat (first | refine blk_drewN ?_ _ | refine blk_drew ?_ | refine blk_alloc ?_ _)); exact BK253.out) hb); have n1_ := Aside0.mk (below_step (by repeat (first | (with_reducible first | exact HB.out | apply below_alloc | apply pw_below_drewN | apply below_drew1 | refine below_set ?_ GE253.out) | exact HB.out)) hb); clear BK253; clear HB; have BK253 := n0_; have HB := n1_; clear n0_ n1_; (try clear hb); (try clear hb2); (try clear hk); (try clear hi); have hcz8_0 : w7.cell? ⟨gb253, 0, none⟩ = some (.slice A0_0 l0_0.length c0_0) := (blk_cell BK253.out 0).trans rfl; have hcz8_1 : w7.cell? ⟨gb253, 1, none⟩ = some (.slice A0_1 l0_1.length c0_1) := (blk_cell BK253.out 1).trans rfl; have hfz8_0 := blk_frozen BK253.out 0; have hfz8_1 := blk_frozen BK253.out 1) | ((with_reducible refine gate_callee (f := 38) rfl ?_); refine goesL_ (some 11) rfl rfl Try.func38 (by kernel_rfl) rfl #[.agg #[.slice A0_0 l0_0.length c0_0, .slice A0_1 l0_1.length c0_1]] rfl (by (try simp only [List.map_toArray, List.map_cons, List.map_nil]); first | done | rfl | (simp only [List.length_drop, List.length_take]; rfl)) ?_; (with_reducible refine (impl_Bolts_states.calls k _ _ l0_0 _ _ l0_1 t255 _ ?side1 ?side2 ?side3 ?side4 A4.out).mono ?_); (case side1 => repeat (first | exact (Kd.C_below HR0_0.out HB.out) | (with_reducible refine Kd.C_alloc ?_ _) | (with_reducible refine Kd.C_drewN ?_ _) | (with_reducible refine Kd.C_drew ?_))); (case side2 => exact HC0_0.out); (case side3 => repeat (first | exact (Kd.C_below HR0_1.out HB.out) | (with_reducible refine Kd.C_alloc ?_ _) | (with_reducible refine Kd.C_drewN ?_ _) | (with_reducible refine Kd.C_drew ?_))); (case side4 => exact HC0_1.out); rintro e w9 ⟨v256, rfl, ho0, hb⟩; refine ⟨_, rfl, ?_⟩; have n0_ := Aside0.mk (Kd.R_lower ho0 (below_size (by repeat (first | (with_reducible first | exact HB.out | apply below_alloc | apply pw_below_drewN | apply below_drew1 | refine below_set ?_ GE253.out) | exact HB.out)))); have n1_ := Aside0.mk (blk_below (g := gb253) (o := .cells #[.slice A0_0 l0_0.length c0_0, .slice A0_1 l0_1.length c0_1] 31 (0, 0)) (by (with_reducible repeat (first | refine blk_drewN ?_ _ | refine blk_drew ?_ | refine blk_alloc ?_ _)); exact BK253.out) hb); have n2_ := Aside0.mk (below_step (by repeat (first | (with_reducible first | exact HB.out | apply below_alloc | apply pw_below_drewN | apply below_drew1 | refine below_set ?_ GE253.out) | exact HB.out)) hb); clear BK253; clear HB; have HO257 := n0_; have BK253 := n1_; have HB := n2_; clear n0_ n1_ n2_; (try clear hb); (try clear hb2); (try clear hk); (try clear hi); (try clear ho0); obtain ⟨Ao10, co10, eo10⟩ := Kd.R_slice HO257.out; subst eo10; have hcz11_0 : w9.cell? ⟨gb253, 0, none⟩ = some (.slice A0_0 l0_0.length c0_0) := (blk_cell BK253.out 0).trans rfl; have hcz11_1 : w9.cell? ⟨gb253, 1, none⟩ = some (.slice A0_1 l0_1.length c0_1) := (blk_cell BK253.out 1).trans rfl; have hfz11_0 := blk_frozen BK253.out 0; have hfz11_1 := blk_frozen BK253.out 1))
  go_loopg [5, 16] k (fun kq v5 v16 w' => ∃ (x5_1 : List Int) (x16_1 : Int), v16 = .int .i64 x16_1 ∧ Aside0 (impl_NeedlessBlocks.l0 kq (t255.length : Int) x5_1 (l0_1.length : Int) x16_1 l0_0 l0_1 = some (r1, r2)) ∧ Aside0 (kq ≤ k) ∧ Aside0 (Kd.R (Kd.int .i64) 3 w' w.heap.size (fun _ => True) v5 x5_1) ∧ Aside0 (w'.heap[gb253]? = some (.cells #[(.slice A0_0 l0_0.length c0_0), (.slice A0_1 l0_1.length c0_1)] 31 (0, 0))) ∧ Aside0 (Below w.heap.size w w'))
  case atStart => exact ⟨(([] : List Int)), (0), (by first | rfl | (simp; done) | (simp [*]; done)), H', ⟨Nat.le_refl _⟩, ⟨by first | exact Kd.R_nil _ _ _ _ _ | exact Kd.N_nil _ _ _ _ _ | exact Kd.V_nil _ _ _ _ _ | exact Kd.Q_nil _ _ _ _ _ | exact Kd.S_nil _ _ _ _ _⟩, ⟨by (with_reducible repeat (first | refine blk_drewN ?_ _ | refine blk_drew ?_ | refine blk_alloc ?_ _)); exact BK253.out⟩, ⟨by repeat (first | (with_reducible first | exact HB.out | apply below_alloc | apply pw_below_drewN | apply below_drew1 | refine below_set ?_ GE253.out) | exact HB.out)⟩⟩
  case round =>
   clear H'
   try clear c1
   try clear c2
   try clear p2
   try clear c3
   try clear hcz11_0
   try clear hcz11_1
   try clear hcz6_0
   try clear hcz6_1
   try clear hcz8_0
   try clear hcz8_1
   try clear hfz11_0
   try clear hfz11_1
   try clear hfz6_0
   try clear hfz6_1
   try clear hfz8_0
   try clear hfz8_1
   obtain ⟨x5_1, x16_1, rfl, HA, HK1, HO_5, BK253, HB⟩ := hrel
   cases gk with
   | zero => exact absurd HA.out (by simp [impl_NeedlessBlocks.l0])
   | succ k1 =>
    have H := HA.out
    clear HA
    simp only [impl_NeedlessBlocks.l0] at H
    by_cases c12 : x16_1 < (l0_1.length : Int)
    ·rw [if_pos c12] at H
     have c12b0 : decide (x16_1 < (l0_1.length : Int)) = true := decide_eq_true c12
     clear c12
     replace H := Option.bind_eq_some_iff.mp H
     obtain ⟨⟨t258, t261⟩, A130, H⟩ := H
     replace H : ((impl_Bolts_states.f k1 t258 t261).bind fun t264 => (if (t264.length : Int) = (t255.length : Int) then (if x5_1.length < 17592186044416 then (impl_NeedlessBlocks.l0 k1 (t255.length : Int) (x5_1 ++ [x16_1]) (l0_1.length : Int) (wrap64 (x16_1 + 1)) l0_0 l0_1) else (none)) else (impl_NeedlessBlocks.l0 k1 (t255.length : Int) x5_1 (l0_1.length : Int) (wrap64 (x16_1 + 1)) l0_0 l0_1))) = some (r1, r2) := H
     have A13 := Aside0.mk A130
     clear A130
     replace H := Option.bind_eq_some_iff.mp H
     obtain ⟨t264, A140, H⟩ := H
     replace H : (if (t264.length : Int) = (t255.length : Int) then (if x5_1.length < 17592186044416 then (impl_NeedlessBlocks.l0 k1 (t255.length : Int) (x5_1 ++ [x16_1]) (l0_1.length : Int) (wrap64 (x16_1 + 1)) l0_0 l0_1) else (none)) else (impl_NeedlessBlocks.l0 k1 (t255.length : Int) x5_1 (l0_1.length : Int) (wrap64 (x16_1 + 1)) l0_0 l0_1)) = some (r1, r2) := H
     have A14 := Aside0.mk A140
     clear A140
     by_cases c15 : (t264.length : Int) = (t255.length : Int)
     ·rw [if_pos c15] at H
      have c15b0 : ((t264.length : Int) == (t255.length : Int)) = true := beq_iff_eq.mpr c15
      have c15b1 : ((t264.length : Int) != (t255.length : Int)) = false := bne_eq_false_iff_eq.mpr c15
      have c15b2 : (t264.length == t255.length) = true := by first | simpa using c15 | (simp at c15 ⊢; omega)
      clear c15
      by_cases c16 : x5_1.length < 17592186044416
      ·rw [if_pos c16] at H
       have LMc16 := Aside0.mk c16
       clear c16
       obtain ⟨y267, hy267⟩ : ∃ y_ : List Int, y_ = (x5_1 ++ [x16_1]) := ⟨_, rfl⟩
       replace H : (impl_NeedlessBlocks.l0 k1 (t255.length : Int) y267 (l0_1.length : Int) (wrap64 (x16_1 + 1)) l0_0 l0_1) = some (r1, r2) := by first | (rw [hy267]; with_reducible exact H) | (have H2_ := (Option.bind_some _ _).symm.trans H; rw [hy267]; with_reducible exact H2_) | (have H2_ := (Option.bind_some _ _).symm.trans H; with_reducible exact H2_) | with_reducible exact H | (rw [hy267]; exact H) | exact H
       have Ny267 := Aside0.mk hy267
       clear hy267
       have H' := Aside0.mk H
       clear H
       have hcz17_0 : wr.cell? ⟨gb253, 0, none⟩ = some (.slice A0_0 l0_0.length c0_0) := (blk_cell BK253.out 0).trans rfl
       have hcz17_1 : wr.cell? ⟨gb253, 1, none⟩ = some (.slice A0_1 l0_1.length c0_1) := (blk_cell BK253.out 1).trans rfl
       have hfz17_0 := blk_frozen BK253.out 0
       have hfz17_1 := blk_frozen BK253.out 1
       go_wp2_with (first | ((with_reducible refine gate_callee (f := 36) rfl ?_); refine goesL_ (some 21) rfl rfl Try.func36 (by kernel_rfl) rfl #[.agg #[.slice A0_0 l0_0.length c0_0, .slice A0_1 l0_1.length c0_1], .int .i64 x16_1] rfl (by (try simp only [List.map_toArray, List.map_cons, List.map_nil]); first | done | rfl | (simp only [List.length_drop, List.length_take]; rfl)) ?_; (with_reducible refine (impl_Bolts_without.calls _ _ l0_0 _ _ l0_1 x16_1 t258 t261 _ ?side1 ?side2 ?side3 ?side4 A13.out).mono ?_); (case side1 => repeat (first | exact (Kd.C_below HR0_0.out HB.out) | (with_reducible refine Kd.C_alloc ?_ _) | (with_reducible refine Kd.C_drewN ?_ _) | (with_reducible refine Kd.C_drew ?_))); (case side2 => exact HC0_0.out); (case side3 => repeat (first | exact (Kd.C_below HR0_1.out HB.out) | (with_reducible refine Kd.C_alloc ?_ _) | (with_reducible refine Kd.C_drewN ?_ _) | (with_reducible refine Kd.C_drew ?_))); (case side4 => exact HC0_1.out); rintro e w18 ⟨v259, v262, rfl, ho0, ho1, hb⟩; refine ⟨_, rfl, ?_⟩; have n0_ := Aside0.mk (Kd.R_elder' (by (with_reducible repeat (first | apply Kd.R_alloc | apply Kd.R_drewN | apply Kd.R_drew)); exact HO_5.out) (Kd.R_base ho0) hb); have n1_ := Aside0.mk (Kd.R_lower (Kd.R_new' ho0 (Kd.R_lt (by (with_reducible repeat (first | apply Kd.R_alloc | apply Kd.R_drewN | apply Kd.R_drew)); exact HO_5.out))) (below_size (by repeat (first | (with_reducible first | exact HB.out | apply below_alloc | apply pw_below_drewN | apply below_drew1 | refine below_set ?_ GE253.out) | exact HB.out)))); have n2_ := Aside0.mk (Kd.R_lower ho1 (below_size (by repeat (first | (with_reducible first | exact HB.out | apply below_alloc | apply pw_below_drewN | apply below_drew1 | refine below_set ?_ GE253.out) | exact HB.out)))); have n3_ := Aside0.mk (blk_below (g := gb253) (o := .cells #[.slice A0_0 l0_0.length c0_0, .slice A0_1 l0_1.length c0_1] 31 (0, 0)) (by (with_reducible repeat (first | refine blk_drewN ?_ _ | refine blk_drew ?_ | refine blk_alloc ?_ _)); exact BK253.out) hb); have n4_ := Aside0.mk (below_step (by repeat (first | (with_reducible first | exact HB.out | apply below_alloc | apply pw_below_drewN | apply below_drew1 | refine below_set ?_ GE253.out) | exact HB.out)) hb); clear HO_5; clear BK253; clear HB; have HO_5 := n0_; have HO260 := n1_; have HO263 := n2_; have BK253 := n3_; have HB := n4_; clear n0_ n1_ n2_ n3_ n4_; (try clear hb); (try clear hb2); (try clear hk); (try clear hi); (try clear ho0); (try clear ho1); obtain ⟨Ao19, co19, eo19⟩ := Kd.R_slice HO260.out; subst eo19; obtain ⟨Ao20, co20, eo20⟩ := Kd.R_slice HO263.out; subst eo20) | ((with_reducible refine gate_callee (f := 38) rfl ?_); refine goesL_ (some 22) rfl rfl Try.func38 (by kernel_rfl) rfl #[.agg #[.slice Ao19 t258.length co19, .slice Ao20 t261.length co20]] rfl (by (try simp only [List.map_toArray, List.map_cons, List.map_nil]); first | done | rfl | (simp only [List.length_drop, List.length_take]; rfl)) ?_; (with_reducible refine (impl_Bolts_states.calls k1 _ _ t258 _ _ t261 t264 _ ?side1 ?side2 ?side3 ?side4 A14.out).mono ?_); (case side1 => repeat (first | exact (Kd.R_reads' HO260.out).2.2 | (with_reducible refine Kd.C_alloc ?_ _) | (with_reducible refine Kd.C_drewN ?_ _) | (with_reducible refine Kd.C_drew ?_))); (case side2 => exact (Kd.R_reads' HO260.out).2.1); (case side3 => repeat (first | exact (Kd.R_reads' HO263.out).2.2 | (with_reducible refine Kd.C_alloc ?_ _) | (with_reducible refine Kd.C_drewN ?_ _) | (with_reducible refine Kd.C_drew ?_))); (case side4 => exact (Kd.R_reads' HO263.out).2.1); rintro e w21 ⟨v265, rfl, ho0, hb⟩; refine ⟨_, rfl, ?_⟩; have n0_ := Aside0.mk (Kd.R_below (by (with_reducible repeat (first | apply Kd.R_alloc | apply Kd.R_drewN | apply Kd.R_drew)); exact HO_5.out) hb); have n1_ := Aside0.mk (Kd.R_below (by (with_reducible repeat (first | apply Kd.R_alloc | apply Kd.R_drewN | apply Kd.R_drew)); exact HO260.out) hb); have n2_ := Aside0.mk (Kd.R_below (by (with_reducible repeat (first | apply Kd.R_alloc | apply Kd.R_drewN | apply Kd.R_drew)); exact HO263.out) hb); have n3_ := Aside0.mk (Kd.R_lower ho0 (below_size (by repeat (first | (with_reducible first | exact HB.out | apply below_alloc | apply pw_below_drewN | apply below_drew1 | refine below_set ?_ GE253.out) | exact HB.out)))); have n4_ := Aside0.mk (blk_below (g := gb253) (o := .cells #[.slice A0_0 l0_0.length c0_0, .slice A0_1 l0_1.length c0_1] 31 (0, 0)) (by (with_reducible repeat (first | refine blk_drewN ?_ _ | refine blk_drew ?_ | refine blk_alloc ?_ _)); exact BK253.out) hb); have n5_ := Aside0.mk (below_step (by repeat (first | (with_reducible first | exact HB.out | apply below_alloc | apply pw_below_drewN | apply below_drew1 | refine below_set ?_ GE253.out) | exact HB.out)) hb); clear HO_5; clear HO260; clear HO263; clear BK253; clear HB; have HO_5 := n0_; have HO260 := n1_; have HO263 := n2_; have HO266 := n3_; have BK253 := n4_; have HB := n5_; clear n0_ n1_ n2_ n3_ n4_ n5_; (try clear hb); (try clear hb2); (try clear hk); (try clear hi); (try clear ho0); obtain ⟨Ao22, co22, eo22⟩ := Kd.R_slice HO266.out; subst eo22) | ((with_reducible refine gate_builtin (b := .append) (xs := #[.tmp 26, .tmp 28]) rfl ?_); at_builtin; refine Kd.R_append (Kd.int .i64) (w0 := w) w.heap.size rfl (.tmp 26) (.tmp 28) 22 3 (.int .i64 0) 8 rfl Try.underlying22 info3 rfl (by decide) (by omega) u5 x5_1 x16_1 [.int .i64 x16_1] (fun k_ => some k_ ≠ (.slice Ao19 t258.length co19 : Value).ownBlock) (fun _ => False) rfl rfl ?aP (fun _ hk => hk.elim) ?aF ?aO ?aB ?aS ?aL ?_; (case aP => exact rfl); (case aB => exact (by repeat (first | (with_reducible first | exact HB.out | apply below_alloc | apply pw_below_drewN | apply below_drew1 | refine below_set ?_ GE253.out) | exact HB.out))); (case aF => exact (fun k_ hk => Kd.fresh' (Kd.R_lt (by (with_reducible repeat (first | apply Kd.R_alloc | apply Kd.R_drewN | apply Kd.R_drew)); exact HO260.out)) k_ hk)); (case aO => exact (by (with_reducible repeat (first | apply Kd.R_alloc | apply Kd.R_drewN | apply Kd.R_drew)); exact Kd.R_mono HO_5.out (fun _ hk => hk.2))); (case aS => exact (below_size (by repeat (first | (with_reducible first | exact HB.out | apply below_alloc | apply pw_below_drewN | apply below_drew1 | refine below_set ?_ GE253.out) | exact HB.out)))); (case aL => have := LMc16.out; omega); intro v268 w23 ho hb hg hat; rw [← Ny267.out] at ho; have n0_ := Aside0.mk (blk_grown (g := gb253) (o := .cells #[.slice A0_0 l0_0.length c0_0, .slice A0_1 l0_1.length c0_1] 31 (0, 0)) (by (with_reducible repeat (first | refine blk_drewN ?_ _ | refine blk_drew ?_ | refine blk_alloc ?_ _)); exact BK253.out) hg (Kd.R_ne HO_5.out BK253.out (by decide))); have n1_ := Aside0.mk (Kd.R_after (ok := (fun _ => True)) (by (with_reducible repeat (first | apply Kd.R_alloc | apply Kd.R_drewN | apply Kd.R_drew)); exact HO260.out) hg hat); have n2_ := Aside0.mk (Kd.R_over' (by (with_reducible repeat (first | apply Kd.R_alloc | apply Kd.R_drewN | apply Kd.R_drew)); exact HO263.out) (Kd.R_typed (by (with_reducible repeat (first | apply Kd.R_alloc | apply Kd.R_drewN | apply Kd.R_drew)); exact HO_5.out)) (by decide) hg); have n3_ := Aside0.mk (Kd.R_over' (by (with_reducible repeat (first | apply Kd.R_alloc | apply Kd.R_drewN | apply Kd.R_drew)); exact HO266.out) (Kd.R_typed (by (with_reducible repeat (first | apply Kd.R_alloc | apply Kd.R_drewN | apply Kd.R_drew)); exact HO_5.out)) (by decide) hg); have n4_ := Aside0.mk (hb); have n5_ := Aside0.mk (ho); clear BK253; clear HO260; clear HO263; clear HO266; clear HB; clear HO_5; have BK253 := n0_; have HO260 := n1_; have HO263 := n2_; have HO266 := n3_; have HB := n4_; have HO269 := n5_; clear n0_ n1_ n2_ n3_ n4_ n5_; clear ho hb hg hat))
       go_roundg k1
       case measure => have := HK1.out; omega
       case rel => exact ⟨(y267), (wrap64 (x16_1 + 1)), (by first | rfl | (simp; done) | (simp [*]; done)), H', ⟨by have := HK1.out; omega⟩, ⟨by (with_reducible repeat (first | apply Kd.R_alloc | apply Kd.R_drewN | apply Kd.R_drew)); exact Kd.R_mono HO269.out (fun _ hk => trivial)⟩, ⟨by (with_reducible repeat (first | refine blk_drewN ?_ _ | refine blk_drew ?_ | refine blk_alloc ?_ _)); exact BK253.out⟩, ⟨by repeat (first | (with_reducible first | exact HB.out | apply below_alloc | apply pw_below_drewN | apply below_drew1 | refine below_set ?_ GE253.out) | exact HB.out)⟩⟩
      ·rw [if_neg c16] at H
       exact absurd H (by simp)
     ·rw [if_neg c15] at H
      have c15b0 : ((t264.length : Int) == (t255.length : Int)) = false := beq_eq_false_iff_ne.mpr c15
      have c15b1 : ((t264.length : Int) != (t255.length : Int)) = true := bne_iff_ne.mpr c15
      have c15b2 : (t264.length == t255.length) = false := by first | simpa using c15 | (simp at c15 ⊢; omega)
      have H' := Aside0.mk H
      clear H
      have hcz24_0 : wr.cell? ⟨gb253, 0, none⟩ = some (.slice A0_0 l0_0.length c0_0) := (blk_cell BK253.out 0).trans rfl
      have hcz24_1 : wr.cell? ⟨gb253, 1, none⟩ = some (.slice A0_1 l0_1.length c0_1) := (blk_cell BK253.out 1).trans rfl
      have hfz24_0 := blk_frozen BK253.out 0
      have hfz24_1 := blk_frozen BK253.out 1
      go_wp2_with (first | ((with_reducible refine gate_callee (f := 36) rfl ?_); refine goesL_ (some 21) rfl rfl Try.func36 (by kernel_rfl) rfl #[.agg #[.slice A0_0 l0_0.length c0_0, .slice A0_1 l0_1.length c0_1], .int .i64 x16_1] rfl (by (try simp only [List.map_toArray, List.map_cons, List.map_nil]); first | done | rfl | (simp only [List.length_drop, List.length_take]; rfl)) ?_; (with_reducible refine (impl_Bolts_without.calls _ _ l0_0 _ _ l0_1 x16_1 t258 t261 _ ?side1 ?side2 ?side3 ?side4 A13.out).mono ?_); (case side1 => repeat (first | exact (Kd.C_below HR0_0.out HB.out) | (with_reducible refine Kd.C_alloc ?_ _) | (with_reducible refine Kd.C_drewN ?_ _) | (with_reducible refine Kd.C_drew ?_))); (case side2 => exact HC0_0.out); (case side3 => repeat (first | exact (Kd.C_below HR0_1.out HB.out) | (with_reducible refine Kd.C_alloc ?_ _) | (with_reducible refine Kd.C_drewN ?_ _) | (with_reducible refine Kd.C_drew ?_))); (case side4 => exact HC0_1.out); rintro e w25 ⟨v259, v262, rfl, ho0, ho1, hb⟩; refine ⟨_, rfl, ?_⟩; have n0_ := Aside0.mk (Kd.R_elder' (by (with_reducible repeat (first | apply Kd.R_alloc | apply Kd.R_drewN | apply Kd.R_drew)); exact HO_5.out) (Kd.R_base ho0) hb); have n1_ := Aside0.mk (Kd.R_lower (Kd.R_new' ho0 (Kd.R_lt (by (with_reducible repeat (first | apply Kd.R_alloc | apply Kd.R_drewN | apply Kd.R_drew)); exact HO_5.out))) (below_size (by repeat (first | (with_reducible first | exact HB.out | apply below_alloc | apply pw_below_drewN | apply below_drew1 | refine below_set ?_ GE253.out) | exact HB.out)))); have n2_ := Aside0.mk (Kd.R_lower ho1 (below_size (by repeat (first | (with_reducible first | exact HB.out | apply below_alloc | apply pw_below_drewN | apply below_drew1 | refine below_set ?_ GE253.out) | exact HB.out)))); have n3_ := Aside0.mk (blk_below (g := gb253) (o := .cells #[.slice A0_0 l0_0.length c0_0, .slice A0_1 l0_1.length c0_1] 31 (0, 0)) (by (with_reducible repeat (first | refine blk_drewN ?_ _ | refine blk_drew ?_ | refine blk_alloc ?_ _)); exact BK253.out) hb); have n4_ := Aside0.mk (below_step (by repeat (first | (with_reducible first | exact HB.out | apply below_alloc | apply pw_below_drewN | apply below_drew1 | refine below_set ?_ GE253.out) | exact HB.out)) hb); clear HO_5; clear BK253; clear HB; have HO_5 := n0_; have HO260 := n1_; have HO263 := n2_; have BK253 := n3_; have HB := n4_; clear n0_ n1_ n2_ n3_ n4_; (try clear hb); (try clear hb2); (try clear hk); (try clear hi); (try clear ho0); (try clear ho1); obtain ⟨Ao26, co26, eo26⟩ := Kd.R_slice HO260.out; subst eo26; obtain ⟨Ao27, co27, eo27⟩ := Kd.R_slice HO263.out; subst eo27) | ((with_reducible refine gate_callee (f := 38) rfl ?_); refine goesL_ (some 22) rfl rfl Try.func38 (by kernel_rfl) rfl #[.agg #[.slice Ao26 t258.length co26, .slice Ao27 t261.length co27]] rfl (by (try simp only [List.map_toArray, List.map_cons, List.map_nil]); first | done | rfl | (simp only [List.length_drop, List.length_take]; rfl)) ?_; (with_reducible refine (impl_Bolts_states.calls k1 _ _ t258 _ _ t261 t264 _ ?side1 ?side2 ?side3 ?side4 A14.out).mono ?_); (case side1 => repeat (first | exact (Kd.R_reads' HO260.out).2.2 | (with_reducible refine Kd.C_alloc ?_ _) | (with_reducible refine Kd.C_drewN ?_ _) | (with_reducible refine Kd.C_drew ?_))); (case side2 => exact (Kd.R_reads' HO260.out).2.1); (case side3 => repeat (first | exact (Kd.R_reads' HO263.out).2.2 | (with_reducible refine Kd.C_alloc ?_ _) | (with_reducible refine Kd.C_drewN ?_ _) | (with_reducible refine Kd.C_drew ?_))); (case side4 => exact (Kd.R_reads' HO263.out).2.1); rintro e w28 ⟨v265, rfl, ho0, hb⟩; refine ⟨_, rfl, ?_⟩; have n0_ := Aside0.mk (Kd.R_below (by (with_reducible repeat (first | apply Kd.R_alloc | apply Kd.R_drewN | apply Kd.R_drew)); exact HO_5.out) hb); have n1_ := Aside0.mk (Kd.R_below (by (with_reducible repeat (first | apply Kd.R_alloc | apply Kd.R_drewN | apply Kd.R_drew)); exact HO260.out) hb); have n2_ := Aside0.mk (Kd.R_below (by (with_reducible repeat (first | apply Kd.R_alloc | apply Kd.R_drewN | apply Kd.R_drew)); exact HO263.out) hb); have n3_ := Aside0.mk (Kd.R_lower ho0 (below_size (by repeat (first | (with_reducible first | exact HB.out | apply below_alloc | apply pw_below_drewN | apply below_drew1 | refine below_set ?_ GE253.out) | exact HB.out)))); have n4_ := Aside0.mk (blk_below (g := gb253) (o := .cells #[.slice A0_0 l0_0.length c0_0, .slice A0_1 l0_1.length c0_1] 31 (0, 0)) (by (with_reducible repeat (first | refine blk_drewN ?_ _ | refine blk_drew ?_ | refine blk_alloc ?_ _)); exact BK253.out) hb); have n5_ := Aside0.mk (below_step (by repeat (first | (with_reducible first | exact HB.out | apply below_alloc | apply pw_below_drewN | apply below_drew1 | refine below_set ?_ GE253.out) | exact HB.out)) hb); clear HO_5; clear HO260; clear HO263; clear BK253; clear HB; have HO_5 := n0_; have HO260 := n1_; have HO263 := n2_; have HO266 := n3_; have BK253 := n4_; have HB := n5_; clear n0_ n1_ n2_ n3_ n4_ n5_; (try clear hb); (try clear hb2); (try clear hk); (try clear hi); (try clear ho0); obtain ⟨Ao29, co29, eo29⟩ := Kd.R_slice HO266.out; subst eo29))
      go_roundg k1
      case measure => have := HK1.out; omega
      case rel => exact ⟨(x5_1), (wrap64 (x16_1 + 1)), (by first | rfl | (simp; done) | (simp [*]; done)), H', ⟨by have := HK1.out; omega⟩, ⟨by (with_reducible repeat (first | apply Kd.R_alloc | apply Kd.R_drewN | apply Kd.R_drew)); exact Kd.R_mono HO_5.out (fun _ hk => trivial)⟩, ⟨by (with_reducible repeat (first | refine blk_drewN ?_ _ | refine blk_drew ?_ | refine blk_alloc ?_ _)); exact BK253.out⟩, ⟨by repeat (first | (with_reducible first | exact HB.out | apply below_alloc | apply pw_below_drewN | apply below_drew1 | refine below_set ?_ GE253.out) | exact HB.out)⟩⟩
    ·rw [if_neg c12] at H
     have c12b0 : decide (x16_1 < (l0_1.length : Int)) = false := decide_eq_false c12
     clear c12
     simp only [Option.some.injEq, Prod.mk.injEq] at H
     obtain ⟨rfl, rfl⟩ := H
     go_wp2
     go_ret2
     exact ⟨_, by first | rfl | (simp [errW_none, errW_some] <;> rfl) | (simp [*, errW_none, errW_some] <;> rfl), by (with_reducible repeat (first | apply Kd.R_alloc | apply Kd.R_drewN | apply Kd.R_drew)); exact HO_5.out, by repeat (first | (with_reducible first | exact HB.out | apply below_alloc | apply pw_below_drewN | apply below_drew1 | refine below_set ?_ GE253.out) | exact HB.out)⟩
 ·replace c3 := Bool.eq_false_iff.mpr c3
  subst c3
  have H1 : (some (([] : List Int), false)) = some (r1, r2) := by rw [if_neg (show ¬ (false = true) by decide)] at H; exact H
  clear H
  have H := H1
  clear H1
  simp only [Option.some.injEq, Prod.mk.injEq] at H
  obtain ⟨rfl, rfl⟩ := H
  go_enter Try.func17, Try.ntmps17
  go_wp2_with (first | ((with_reducible refine gate_dst (N := 1) rfl ?_); refine box_event ?hg (N := 1) ?hd (cs := #[.slice A0_0 l0_0.length c0_0, .slice A0_1 l0_1.length c0_1]) (t := 31) ?hr ?_; (case hd => rfl); (case hg => rfl); (case hr => first | (go_simp; done) | (go_simp; rfl)); intro gb253 hg w30 hbox hb; have n0_ := Aside0.mk (below_step (by repeat (first | (with_reducible first | exact HB.out | apply below_alloc | apply pw_below_drewN | apply below_drew1) | exact HB.out)) hb); have n1_ := Aside0.mk (hbox); have n2_ := Aside0.mk ((by rw [hg]; exact (below_size (by repeat (first | (with_reducible first | exact HB.out | apply below_alloc | apply pw_below_drewN | apply below_drew1) | exact HB.out))) : w.heap.size ≤ gb253)); have n3_ := Aside0.mk ((by rw [hg]; exact (below_size (by repeat (first | (with_reducible first | exact HB.out | apply below_alloc | apply pw_below_drewN | apply below_drew1) | exact HB.out))) : w.heap.size ≤ gb253)); clear HB; have HB := n0_; have BK253 := n1_; have GW253 := n2_; have GE253 := n3_; clear n0_ n1_ n2_ n3_; clear hb hbox hg; have hcz31_0 : w30.cell? ⟨gb253, 0, none⟩ = some (.slice A0_0 l0_0.length c0_0) := (blk_cell BK253.out 0).trans rfl; have hcz31_1 : w30.cell? ⟨gb253, 1, none⟩ = some (.slice A0_1 l0_1.length c0_1) := (blk_cell BK253.out 1).trans rfl; have hfz31_0 := blk_frozen BK253.out 0; have hfz31_1 := blk_frozen BK253.out 1) | ((with_reducible refine gate_callee (f := 28) rfl ?_); refine goesL_ (some 8) rfl rfl Try.func28 (by kernel_rfl) rfl #[.agg #[.slice A0_0 l0_0.length c0_0, .slice A0_1 l0_1.length c0_1]] rfl (by (try simp only [List.map_toArray, List.map_cons, List.map_nil]); first | done | rfl | (simp only [List.length_drop, List.length_take]; rfl)) ?_; (with_reducible refine (impl_AreBolts.calls _ _ l0_0 _ _ l0_1 false _ ?side1 ?side2 ?side3 ?side4 A2.out).mono ?_); (case side1 => repeat (first | exact (Kd.C_below HR0_0.out HB.out) | (with_reducible refine Kd.C_alloc ?_ _) | (with_reducible refine Kd.C_drewN ?_ _) | (with_reducible refine Kd.C_drew ?_))); (case side2 => exact HC0_0.out); (case side3 => repeat (first | exact (Kd.C_below HR0_1.out HB.out) | (with_reducible refine Kd.C_alloc ?_ _) | (with_reducible refine Kd.C_drewN ?_ _) | (with_reducible refine Kd.C_drew ?_))); (case side4 => exact HC0_1.out); rintro e w32 ⟨rfl, hb⟩; refine ⟨_, rfl, ?_⟩; have n0_ := Aside0.mk (blk_below (g := gb253) (o := .cells #[.slice A0_0 l0_0.length c0_0, .slice A0_1 l0_1.length c0_1] 31 (0, 0)) (by (with_reducible repeat (first | refine blk_drewN ?_ _ | refine blk_drew ?_ | refine blk_alloc ?_ _)); exact BK253.out) hb); have n1_ := Aside0.mk (below_step (by repeat (first | (with_reducible first | exact HB.out | apply below_alloc | apply pw_below_drewN | apply below_drew1 | refine below_set ?_ GE253.out) | exact HB.out)) hb); clear BK253; clear HB; have BK253 := n0_; have HB := n1_; clear n0_ n1_; (try clear hb); (try clear hb2); (try clear hk); (try clear hi)))
  go_ret2
  exact ⟨_, by first | rfl | (simp [errW_none, errW_some] <;> rfl) | (simp [*, errW_none, errW_some] <;> rfl), by first | exact Kd.R_nil _ _ _ _ _ | exact Kd.N_nil _ _ _ _ _ | exact Kd.V_nil _ _ _ _ _ | exact Kd.Q_nil _ _ _ _ _ | exact Kd.S_nil _ _ _ _ _, by repeat (first | (with_reducible first | exact HB.out | apply below_alloc | apply pw_below_drewN | apply below_drew1 | refine below_set ?_ GE253.out) | exact HB.out)⟩

/-! ### laws_heldIntS: function 20 -/
def laws_heldIntS.l0 : Nat → List Int → Int → Int → Option (Int)
 | 0, _, _, _ => none
 | k + 1, x0, x1, x5 => if x5 < (x0.length : Int) then (if 0 ≤ x5 then (if (rd x0 x5) = x1 then (laws_heldIntS.l0 k x0 (wrap64 (x1 + 1)) (wrap64 (x5 + 1))) else (some (-1))) else (none)) else (some x1)
def laws_heldIntS.f (k : Nat) (l0 : List Int) (a1 : Int) : Option (Int) := laws_heldIntS.l0 k l0 a1 0
theorem laws_heldIntS.mono_l : ∀ k, (∀ y0 y1 y2, LeO (laws_heldIntS.l0 k y0 y1 y2) (laws_heldIntS.l0 (k + 1) y0 y1 y2))
 | 0 => fun _ _ _ r h => by simp [laws_heldIntS.l0] at h
 | k + 1 => by
  have ih0 := laws_heldIntS.mono_l k
  ·intro y0 y1 y2
   unfold laws_heldIntS.l0
   repeat' first
   | (with_reducible exact ih0 _ _ _)
   | (with_reducible exact LeO.refl _)
   | (with_reducible exact LeO.none _)
   | (with_reducible refine LeO.ite ?_ ?_)
   | (with_reducible refine LeO.bind ?_ (fun _ => ?_))
   | exact ih0 _ _ _
   | exact LeO.none _
   | refine LeO.ite ?_ ?_
   | refine LeO.bind ?_ (fun _ => ?_)
theorem laws_heldIntS.mono : ∀ a0 a1 k, LeO (laws_heldIntS.f k a0 a1) (laws_heldIntS.f (k + 1) a0 a1) := by
 intro a0 a1 k
 have ih0 := laws_heldIntS.mono_l k
 unfold laws_heldIntS.f
 repeat' first
   | (with_reducible exact ih0 _ _ _)
   | (with_reducible exact LeO.refl _)
   | (with_reducible exact LeO.none _)
   | (with_reducible refine LeO.ite ?_ ?_)
   | (with_reducible refine LeO.bind ?_ (fun _ => ?_))
   | exact ih0 _ _ _
   | exact LeO.none _
   | refine LeO.ite ?_ ?_
   | refine LeO.bind ?_ (fun _ => ?_)
set_option maxHeartbeats 8000000 in
set_option maxRecDepth 100000 in
theorem laws_heldIntS.calls (k : Nat) (A0 : Option Addr) (c0 : Nat) (l0 : List Int) (a1 : Int) (r : Int) (w : World) (hr0 : Kd.C (Kd.int .i64) w A0 l0.length l0) (hc0 : l0.length ≤ c0) (h : laws_heldIntS.f k l0 a1 = some r) :
  Calls Try.prog 20 #[.slice A0 l0.length c0, .int .i64 a1] w fun e w' => e = .returned (.int .i64 r) ∧ Drawn0 w w' := by
 have HR0 := Aside0.mk hr0
 have HC0 := Aside0.mk hc0
 clear hr0 hc0
 have H : (laws_heldIntS.l0 k l0 a1 0) = some r := h
 clear h
 have H' := Aside0.mk H
 clear H
 go_enter Try.func20, Try.ntmps20
 go_wp2
 go_loopg [1, 5] k (fun kq v1 v5 w' => ∃ (x1_1 : Int) (x5_1 : Int), v1 = .int .i64 x1_1 ∧ v5 = .int .i64 x5_1 ∧ Aside0 (laws_heldIntS.l0 kq l0 x1_1 x5_1 = some r) ∧ Aside0 (kq ≤ k) ∧ Drawn0 w w')
 case atStart => exact ⟨(a1), (0), (by first | rfl | (simp; done) | (simp [*]; done)), (by first | rfl | (simp; done) | (simp [*]; done)), H', ⟨Nat.le_refl _⟩, by repeat (first | exact Drawn0.refl _ | apply Drawn0.step)⟩
 case round =>
  clear H'
  try clear c2
  try clear p2
  obtain ⟨x1_1, x5_1, rfl, rfl, HA, HK1, ⟨m1, rfl⟩⟩ := hrel
  cases gk with
  | zero => exact absurd HA.out (by simp [laws_heldIntS.l0])
  | succ k1 =>
   have H := HA.out
   clear HA
   simp only [laws_heldIntS.l0] at H
   by_cases c3 : x5_1 < (l0.length : Int)
   ·rw [if_pos c3] at H
    have c3b0 : decide (x5_1 < (l0.length : Int)) = true := decide_eq_true c3
    clear c3
    by_cases c4 : 0 ≤ x5_1
    ·rw [if_pos c4] at H
     have c4b0 : decide (0 ≤ x5_1) = true := decide_eq_true c4
     clear c4
     by_cases c5 : (rd l0 x5_1) = x1_1
     ·rw [if_pos c5] at H
      have c5b0 : ((rd l0 x5_1) == x1_1) = true := beq_iff_eq.mpr c5
      have c5b1 : ((rd l0 x5_1) != x1_1) = false := bne_eq_false_iff_eq.mpr c5
      clear c5
      have H' := Aside0.mk H
      clear H
      have p270 : 0 ≤ (x5_1 : Int) := of_decide_eq_true (by first | (with_reducible assumption) | assumption)
      have q270 : x5_1 < (l0.length : Int) := of_decide_eq_true (by first | (with_reducible assumption) | assumption)
      obtain ⟨ad270, e270, hx270_0⟩ := Kd.at_int HR0.out x5_1 p270 q270
      cases e270
      replace p270 := eq_true p270
      replace q270 := eq_true q270
      go_wp2
      go_roundg k1
      case measure => have := HK1.out; omega
      case rel => exact ⟨(wrap64 (x1_1 + 1)), (wrap64 (x5_1 + 1)), (by first | rfl | (simp; done) | (simp [*]; done)), (by first | rfl | (simp; done) | (simp [*]; done)), H', ⟨by have := HK1.out; omega⟩, by repeat (first | exact Drawn0.refl _ | apply Drawn0.step)⟩
     ·rw [if_neg c5] at H
      have c5b0 : ((rd l0 x5_1) == x1_1) = false := beq_eq_false_iff_ne.mpr c5
      have c5b1 : ((rd l0 x5_1) != x1_1) = true := bne_iff_ne.mpr c5
      obtain rfl := Option.some.inj H
      have p270 : 0 ≤ (x5_1 : Int) := of_decide_eq_true (by first | (with_reducible assumption) | assumption)
      have q270 : x5_1 < (l0.length : Int) := of_decide_eq_true (by first | (with_reducible assumption) | assumption)
      obtain ⟨ad270, e270, hx270_0⟩ := Kd.at_int HR0.out x5_1 p270 q270
      cases e270
      replace p270 := eq_true p270
      replace q270 := eq_true q270
      go_wp2
      go_ret
      exact ⟨by first | rfl | (simp; done) | (simp [*]; done), by repeat (first | exact Drawn0.refl _ | apply Drawn0.step)⟩
    ·rw [if_neg c4] at H
     exact absurd H (by simp)
   ·rw [if_neg c3] at H
    have c3b0 : decide (x5_1 < (l0.length : Int)) = false := decide_eq_false c3
    clear c3
    obtain rfl := Option.some.inj H
    go_wp2
    go_ret
    exact ⟨by first | rfl | (simp; done) | (simp [*]; done), by repeat (first | exact Drawn0.refl _ | apply Drawn0.step)⟩

/-! ### laws_FnExactNeedlessBlocks: function 5 -/
def laws_FnExactNeedlessBlocks.f (k : Nat) (l0_0 : List Int) (l0_1 : List (S27)) : Option (Bool) := (laws_szBolts.f l0_0 l0_1 1048576).bind fun t272 => (if t272 < 0 then (some true) else ((laws_toBolts.f k l0_0 l0_1).bind fun bt273 => ((spec_NeedlessBlocks.f k bt273.1 bt273.2).bind fun bt279 => ((laws_toBolts.f k l0_0 l0_1).bind fun bt283 => ((impl_NeedlessBlocks.f k bt283.1 bt283.2).bind fun bt290 => ((laws_eqIntS.f k bt290.1 bt279.1).bind fun t294 => (if t294 = true then (if (bt290.2 != bt279.2) = true then (none) else ((laws_toBolts.f k l0_0 l0_1).bind fun bt295 => ((laws_eqBolts.f k bt283.1 bt283.2 bt295.1 bt295.2).bind fun t301 => (if t301 = true then ((laws_markBolts.f k bt283.1 bt283.2 1).bind fun bt302 => (if bt302.1 < 0 then (none) else ((laws_eqIntS.f k bt290.1 bt279.1).bind fun t305 => (if t305 = true then ((laws_markIntS.f k bt290.1 1).bind fun bt306 => ((laws_heldIntS.f k bt306.2 1).bind fun t308 => (if t308 < 0 then (none) else (if t308 = bt306.1 then ((laws_toBolts.f k l0_0 l0_1).bind fun bt309 => ((impl_NeedlessBlocks.f k bt309.1 bt309.2).bind fun bt315 => ((laws_eqIntS.f k bt315.1 bt279.1).bind fun t319 => (if t319 = true then (if (bt315.2 != bt279.2) = true then (none) else ((laws_heldIntS.f k bt306.2 1).bind fun t320 => (if t320 < 0 then (none) else (if t320 = bt306.1 then (some true) else (none))))) else (none))))) else (none))))) else (none))))) else (none))))) else (none))))))))
theorem laws_FnExactNeedlessBlocks.mono : ∀ a0 a1 k, LeO (laws_FnExactNeedlessBlocks.f k a0 a1) (laws_FnExactNeedlessBlocks.f (k + 1) a0 a1) := by
 intro a0 a1 k
 unfold laws_FnExactNeedlessBlocks.f
 repeat' first
   | (with_reducible exact impl_NeedlessBlocks.mono _ _ _)
   | (with_reducible exact laws_eqBolts.mono _ _ _ _ _)
   | (with_reducible exact laws_eqIntS.mono _ _ _)
   | (with_reducible exact laws_heldIntS.mono _ _ _)
   | (with_reducible exact laws_markBolts.mono _ _ _ _)
   | (with_reducible exact laws_markIntS.mono _ _ _)
   | (with_reducible exact laws_toBolts.mono _ _ _)
   | (with_reducible exact spec_NeedlessBlocks.mono _ _ _)
   | (with_reducible exact LeO.refl _)
   | (with_reducible exact LeO.none _)
   | (with_reducible refine LeO.ite ?_ ?_)
   | (with_reducible refine LeO.bind ?_ (fun _ => ?_))
   | exact impl_NeedlessBlocks.mono _ _ _
   | exact laws_eqBolts.mono _ _ _ _ _
   | exact laws_eqIntS.mono _ _ _
   | exact laws_heldIntS.mono _ _ _
   | exact laws_markBolts.mono _ _ _ _
   | exact laws_markIntS.mono _ _ _
   | exact laws_toBolts.mono _ _ _
   | exact spec_NeedlessBlocks.mono _ _ _
   | exact LeO.none _
   | refine LeO.ite ?_ ?_
   | refine LeO.bind ?_ (fun _ => ?_)
set_option maxHeartbeats 8000000 in
set_option maxRecDepth 100000 in
theorem laws_FnExactNeedlessBlocks.calls (k : Nat) (A0_0 : Option Addr) (c0_0 : Nat) (l0_0 : List Int) (A0_1 : Option Addr) (c0_1 : Nat) (l0_1 : List (S27)) (r : Bool) (w : World) (hr0_0 : Kd.C (Kd.int .i64) w A0_0 l0_0.length l0_0) (hc0_0 : l0_0.length ≤ c0_0) (hr0_1 : Kd.C k27 w A0_1 l0_1.length l0_1) (hc0_1 : l0_1.length ≤ c0_1) (h : laws_FnExactNeedlessBlocks.f k l0_0 l0_1 = some r) :
  Calls Try.prog 5 #[.agg #[.slice A0_0 l0_0.length c0_0, .slice A0_1 l0_1.length c0_1]] w fun e w' => e = .returned (.bool r) ∧ Below w.heap.size w w' := by
 have hu25 := Try.underlying25
 have hu31 := Try.underlying31
 have HR0_0 := Aside0.mk hr0_0
 have HC0_0 := Aside0.mk hc0_0
 clear hr0_0 hc0_0
 have HR0_1 := Aside0.mk hr0_1
 have HC0_1 := Aside0.mk hc0_1
 clear hr0_1 hc0_1
 have HB := Aside0.mk (Below.refl w.heap.size w)
 have H : ((laws_szBolts.f l0_0 l0_1 1048576).bind fun t272 => (if t272 < 0 then (some true) else ((laws_toBolts.f k l0_0 l0_1).bind fun bt273 => ((spec_NeedlessBlocks.f k bt273.1 bt273.2).bind fun bt279 => ((laws_toBolts.f k l0_0 l0_1).bind fun bt283 => ((impl_NeedlessBlocks.f k bt283.1 bt283.2).bind fun bt290 => ((laws_eqIntS.f k bt290.1 bt279.1).bind fun t294 => (if t294 = true then (if (bt290.2 != bt279.2) = true then (none) else ((laws_toBolts.f k l0_0 l0_1).bind fun bt295 => ((laws_eqBolts.f k bt283.1 bt283.2 bt295.1 bt295.2).bind fun t301 => (if t301 = true then ((laws_markBolts.f k bt283.1 bt283.2 1).bind fun bt302 => (if bt302.1 < 0 then (none) else ((laws_eqIntS.f k bt290.1 bt279.1).bind fun t305 => (if t305 = true then ((laws_markIntS.f k bt290.1 1).bind fun bt306 => ((laws_heldIntS.f k bt306.2 1).bind fun t308 => (if t308 < 0 then (none) else (if t308 = bt306.1 then ((laws_toBolts.f k l0_0 l0_1).bind fun bt309 => ((impl_NeedlessBlocks.f k bt309.1 bt309.2).bind fun bt315 => ((laws_eqIntS.f k bt315.1 bt279.1).bind fun t319 => (if t319 = true then (if (bt315.2 != bt279.2) = true then (none) else ((laws_heldIntS.f k bt306.2 1).bind fun t320 => (if t320 < 0 then (none) else (if t320 = bt306.1 then (some true) else (none))))) else (none))))) else (none))))) else (none))))) else (none))))) else (none))))))))) = some r := h
 clear h
 replace H := Option.bind_eq_some_iff.mp H
 obtain ⟨t272, A20, H⟩ := H
 replace H : (if t272 < 0 then (some true) else ((laws_toBolts.f k l0_0 l0_1).bind fun bt273 => ((spec_NeedlessBlocks.f k bt273.1 bt273.2).bind fun bt279 => ((laws_toBolts.f k l0_0 l0_1).bind fun bt283 => ((impl_NeedlessBlocks.f k bt283.1 bt283.2).bind fun bt290 => ((laws_eqIntS.f k bt290.1 bt279.1).bind fun t294 => (if t294 = true then (if (bt290.2 != bt279.2) = true then (none) else ((laws_toBolts.f k l0_0 l0_1).bind fun bt295 => ((laws_eqBolts.f k bt283.1 bt283.2 bt295.1 bt295.2).bind fun t301 => (if t301 = true then ((laws_markBolts.f k bt283.1 bt283.2 1).bind fun bt302 => (if bt302.1 < 0 then (none) else ((laws_eqIntS.f k bt290.1 bt279.1).bind fun t305 => (if t305 = true then ((laws_markIntS.f k bt290.1 1).bind fun bt306 => ((laws_heldIntS.f k bt306.2 1).bind fun t308 => (if t308 < 0 then (none) else (if t308 = bt306.1 then ((laws_toBolts.f k l0_0 l0_1).bind fun bt309 => ((impl_NeedlessBlocks.f k bt309.1 bt309.2).bind fun bt315 => ((laws_eqIntS.f k bt315.1 bt279.1).bind fun t319 => (if t319 = true then (if (bt315.2 != bt279.2) = true then (none) else ((laws_heldIntS.f k bt306.2 1).bind fun t320 => (if t320 < 0 then (none) else (if t320 = bt306.1 then (some true) else (none))))) else (none))))) else (none))))) else (none))))) else (none))))) else (none)))))))) = some r := H
 have A2 := Aside0.mk A20
 clear A20
 by_cases c3 : t272 < 0
 ·rw [if_pos c3] at H
  have c3b0 : decide (t272 < 0) = true := decide_eq_true c3
  clear c3
  obtain rfl := Option.some.inj H
  go_enter Try.func5, Try.ntmps5
  go_wp2_with (first | ((with_reducible refine gate_dst (N := 1) rfl ?_); refine box_event ?hg (N := 1) ?hd (cs := #[.slice A0_0 l0_0.length c0_0, .slice A0_1 l0_1.length c0_1]) (t := 25) ?hr ?_; (case hd => rfl); (case hg => rfl); (case hr => first | (go_simp; done) | (go_simp; rfl)); intro gb271 hg w4 hbox hb; have n0_ := Aside0.mk (below_step (by repeat (first | (with_reducible first | exact HB.out | apply below_alloc | apply pw_below_drewN | apply below_drew1) | exact HB.out)) hb); have n1_ := Aside0.mk (hbox); have n2_ := Aside0.mk ((by rw [hg]; exact (below_size (by repeat (first | (with_reducible first | exact HB.out | apply below_alloc | apply pw_below_drewN | apply below_drew1) | exact HB.out))) : w.heap.size ≤ gb271)); have n3_ := Aside0.mk ((by rw [hg]; exact (below_size (by repeat (first | (with_reducible first | exact HB.out | apply below_alloc | apply pw_below_drewN | apply below_drew1) | exact HB.out))) : w.heap.size ≤ gb271)); clear HB; have HB := n0_; have BK271 := n1_; have GW271 := n2_; have GE271 := n3_; clear n0_ n1_ n2_ n3_; clear hb hbox hg; have hcz5_0 : w4.cell? ⟨gb271, 0, none⟩ = some (.slice A0_0 l0_0.length c0_0) := (blk_cell BK271.out 0).trans rfl; have hcz5_1 : w4.cell? ⟨gb271, 1, none⟩ = some (.slice A0_1 l0_1.length c0_1) := (blk_cell BK271.out 1).trans rfl; have hfz5_0 := blk_frozen BK271.out 0; have hfz5_1 := blk_frozen BK271.out 1) | ((with_reducible refine gate_callee (f := 6) rfl ?_); refine goesL_ (some 16) rfl rfl Try.func6 (by kernel_rfl) rfl #[.agg #[.slice A0_0 l0_0.length c0_0, .slice A0_1 l0_1.length c0_1], .int .i64 1048576] rfl (by (try simp only [List.map_toArray, List.map_cons, List.map_nil]); first | done | rfl | (simp only [List.length_drop, List.length_take]; rfl)) ?_; (with_reducible refine (laws_szBolts.calls _ _ l0_0 _ _ l0_1 1048576 t272 _ ?side1 ?side2 ?side3 ?side4 A2.out).mono ?_); (case side1 => repeat (first | exact (Kd.C_below HR0_0.out HB.out) | (with_reducible refine Kd.C_alloc ?_ _) | (with_reducible refine Kd.C_drewN ?_ _) | (with_reducible refine Kd.C_drew ?_))); (case side2 => exact HC0_0.out); (case side3 => repeat (first | exact (Kd.C_below HR0_1.out HB.out) | (with_reducible refine Kd.C_alloc ?_ _) | (with_reducible refine Kd.C_drewN ?_ _) | (with_reducible refine Kd.C_drew ?_))); (case side4 => exact HC0_1.out); rintro e w6 ⟨rfl, hb⟩; refine ⟨_, rfl, ?_⟩; have n0_ := Aside0.mk (blk_below (g := gb271) (o := .cells #[.slice A0_0 l0_0.length c0_0, .slice A0_1 l0_1.length c0_1] 25 (0, 0)) (by (with_reducible repeat (first | refine blk_drewN ?_ _ | refine blk_drew ?_ | refine blk_alloc ?_ _)); exact BK271.out) hb); have n1_ := Aside0.mk (below_step (by repeat (first | (with_reducible first | exact HB.out | apply below_alloc | apply pw_below_drewN | apply below_drew1 | refine below_set ?_ GE271.out) | exact HB.out)) hb); clear BK271; clear HB; have BK271 := n0_; have HB := n1_; clear n0_ n1_; (try clear hb); (try clear hb2); (try clear hk); (try clear hi)))
  go_ret
  exact ⟨by first | rfl | (simp [errW_none, errW_some] <;> rfl) | (simp [*, errW_none, errW_some] <;> rfl), by repeat (first | (with_reducible first | exact HB.out | apply below_alloc | apply pw_below_drewN | apply below_drew1 | refine below_set ?_ GE271.out) | exact HB.out)⟩
 ·rw [if_neg c3] at H
  have c3b0 : decide (t272 < 0) = false := decide_eq_false c3
  clear c3
  replace H := Option.bind_eq_some_iff.mp H
  obtain ⟨⟨t273, t276⟩, A70, H⟩ := H
  replace H : ((spec_NeedlessBlocks.f k t273 t276).bind fun bt279 => ((laws_toBolts.f k l0_0 l0_1).bind fun bt283 => ((impl_NeedlessBlocks.f k bt283.1 bt283.2).bind fun bt290 => ((laws_eqIntS.f k bt290.1 bt279.1).bind fun t294 => (if t294 = true then (if (bt290.2 != bt279.2) = true then (none) else ((laws_toBolts.f k l0_0 l0_1).bind fun bt295 => ((laws_eqBolts.f k bt283.1 bt283.2 bt295.1 bt295.2).bind fun t301 => (if t301 = true then ((laws_markBolts.f k bt283.1 bt283.2 1).bind fun bt302 => (if bt302.1 < 0 then (none) else ((laws_eqIntS.f k bt290.1 bt279.1).bind fun t305 => (if t305 = true then ((laws_markIntS.f k bt290.1 1).bind fun bt306 => ((laws_heldIntS.f k bt306.2 1).bind fun t308 => (if t308 < 0 then (none) else (if t308 = bt306.1 then ((laws_toBolts.f k l0_0 l0_1).bind fun bt309 => ((impl_NeedlessBlocks.f k bt309.1 bt309.2).bind fun bt315 => ((laws_eqIntS.f k bt315.1 bt279.1).bind fun t319 => (if t319 = true then (if (bt315.2 != bt279.2) = true then (none) else ((laws_heldIntS.f k bt306.2 1).bind fun t320 => (if t320 < 0 then (none) else (if t320 = bt306.1 then (some true) else (none))))) else (none))))) else (none))))) else (none))))) else (none))))) else (none)))))) = some r := H
  have A7 := Aside0.mk A70
  clear A70
  replace H := Option.bind_eq_some_iff.mp H
  obtain ⟨⟨t279, t282⟩, A80, H⟩ := H
  replace H : ((laws_toBolts.f k l0_0 l0_1).bind fun bt283 => ((impl_NeedlessBlocks.f k bt283.1 bt283.2).bind fun bt290 => ((laws_eqIntS.f k bt290.1 t279).bind fun t294 => (if t294 = true then (if (bt290.2 != t282) = true then (none) else ((laws_toBolts.f k l0_0 l0_1).bind fun bt295 => ((laws_eqBolts.f k bt283.1 bt283.2 bt295.1 bt295.2).bind fun t301 => (if t301 = true then ((laws_markBolts.f k bt283.1 bt283.2 1).bind fun bt302 => (if bt302.1 < 0 then (none) else ((laws_eqIntS.f k bt290.1 t279).bind fun t305 => (if t305 = true then ((laws_markIntS.f k bt290.1 1).bind fun bt306 => ((laws_heldIntS.f k bt306.2 1).bind fun t308 => (if t308 < 0 then (none) else (if t308 = bt306.1 then ((laws_toBolts.f k l0_0 l0_1).bind fun bt309 => ((impl_NeedlessBlocks.f k bt309.1 bt309.2).bind fun bt315 => ((laws_eqIntS.f k bt315.1 t279).bind fun t319 => (if t319 = true then (if (bt315.2 != t282) = true then (none) else ((laws_heldIntS.f k bt306.2 1).bind fun t320 => (if t320 < 0 then (none) else (if t320 = bt306.1 then (some true) else (none))))) else (none))))) else (none))))) else (none))))) else (none))))) else (none))))) = some r := H
  have A8 := Aside0.mk A80
  clear A80
  replace H := Option.bind_eq_some_iff.mp H
  obtain ⟨⟨t283, t286⟩, A90, H⟩ := H
  replace H : ((impl_NeedlessBlocks.f k t283 t286).bind fun bt290 => ((laws_eqIntS.f k bt290.1 t279).bind fun t294 => (if t294 = true then (if (bt290.2 != t282) = true then (none) else ((laws_toBolts.f k l0_0 l0_1).bind fun bt295 => ((laws_eqBolts.f k t283 t286 bt295.1 bt295.2).bind fun t301 => (if t301 = true then ((laws_markBolts.f k t283 t286 1).bind fun bt302 => (if bt302.1 < 0 then (none) else ((laws_eqIntS.f k bt290.1 t279).bind fun t305 => (if t305 = true then ((laws_markIntS.f k bt290.1 1).bind fun bt306 => ((laws_heldIntS.f k bt306.2 1).bind fun t308 => (if t308 < 0 then (none) else (if t308 = bt306.1 then ((laws_toBolts.f k l0_0 l0_1).bind fun bt309 => ((impl_NeedlessBlocks.f k bt309.1 bt309.2).bind fun bt315 => ((laws_eqIntS.f k bt315.1 t279).bind fun t319 => (if t319 = true then (if (bt315.2 != t282) = true then (none) else ((laws_heldIntS.f k bt306.2 1).bind fun t320 => (if t320 < 0 then (none) else (if t320 = bt306.1 then (some true) else (none))))) else (none))))) else (none))))) else (none))))) else (none))))) else (none)))) = some r := H
  have A9 := Aside0.mk A90
  clear A90
  replace H := Option.bind_eq_some_iff.mp H
  obtain ⟨⟨t290, t293⟩, A100, H⟩ := H
  replace H : ((laws_eqIntS.f k t290 t279).bind fun t294 => (if t294 = true then (if (t293 != t282) = true then (none) else ((laws_toBolts.f k l0_0 l0_1).bind fun bt295 => ((laws_eqBolts.f k t283 t286 bt295.1 bt295.2).bind fun t301 => (if t301 = true then ((laws_markBolts.f k t283 t286 1).bind fun bt302 => (if bt302.1 < 0 then (none) else ((laws_eqIntS.f k t290 t279).bind fun t305 => (if t305 = true then ((laws_markIntS.f k t290 1).bind fun bt306 => ((laws_heldIntS.f k bt306.2 1).bind fun t308 => (if t308 < 0 then (none) else (if t308 = bt306.1 then ((laws_toBolts.f k l0_0 l0_1).bind fun bt309 => ((impl_NeedlessBlocks.f k bt309.1 bt309.2).bind fun bt315 => ((laws_eqIntS.f k bt315.1 t279).bind fun t319 => (if t319 = true then (if (bt315.2 != t282) = true then (none) else ((laws_heldIntS.f k bt306.2 1).bind fun t320 => (if t320 < 0 then (none) else (if t320 = bt306.1 then (some true) else (none))))) else (none))))) else (none))))) else (none))))) else (none))))) else (none))) = some r := H
  have A10 := Aside0.mk A100
  clear A100
  replace H := Option.bind_eq_some_iff.mp H
  obtain ⟨t294, A110, H⟩ := H
  replace H : (if t294 = true then (if (t293 != t282) = true then (none) else ((laws_toBolts.f k l0_0 l0_1).bind fun bt295 => ((laws_eqBolts.f k t283 t286 bt295.1 bt295.2).bind fun t301 => (if t301 = true then ((laws_markBolts.f k t283 t286 1).bind fun bt302 => (if bt302.1 < 0 then (none) else ((laws_eqIntS.f k t290 t279).bind fun t305 => (if t305 = true then ((laws_markIntS.f k t290 1).bind fun bt306 => ((laws_heldIntS.f k bt306.2 1).bind fun t308 => (if t308 < 0 then (none) else (if t308 = bt306.1 then ((laws_toBolts.f k l0_0 l0_1).bind fun bt309 => ((impl_NeedlessBlocks.f k bt309.1 bt309.2).bind fun bt315 => ((laws_eqIntS.f k bt315.1 t279).bind fun t319 => (if t319 = true then (if (bt315.2 != t282) = true then (none) else ((laws_heldIntS.f k bt306.2 1).bind fun t320 => (if t320 < 0 then (none) else (if t320 = bt306.1 then (some true) else (none))))) else (none))))) else (none))))) else (none))))) else (none))))) else (none)) = some r := H
  have A11 := Aside0.mk A110
  clear A110
  by_cases c12 : t294 = true
  ·subst c12
   have H1 : (if (t293 != t282) = true then (none) else ((laws_toBolts.f k l0_0 l0_1).bind fun bt295 => ((laws_eqBolts.f k t283 t286 bt295.1 bt295.2).bind fun t301 => (if t301 = true then ((laws_markBolts.f k t283 t286 1).bind fun bt302 => (if bt302.1 < 0 then (none) else ((laws_eqIntS.f k t290 t279).bind fun t305 => (if t305 = true then ((laws_markIntS.f k t290 1).bind fun bt306 => ((laws_heldIntS.f k bt306.2 1).bind fun t308 => (if t308 < 0 then (none) else (if t308 = bt306.1 then ((laws_toBolts.f k l0_0 l0_1).bind fun bt309 => ((impl_NeedlessBlocks.f k bt309.1 bt309.2).bind fun bt315 => ((laws_eqIntS.f k bt315.1 t279).bind fun t319 => (if t319 = true then (if (bt315.2 != t282) = true then (none) else ((laws_heldIntS.f k bt306.2 1).bind fun t320 => (if t320 < 0 then (none) else (if t320 = bt306.1 then (some true) else (none))))) else (none))))) else (none))))) else (none))))) else (none))))) = some r := by rw [if_pos rfl] at H; exact H
   clear H
   have H := H1
   clear H1
   by_cases c13 : (t293 != t282) = true
   ·rw [if_pos c13] at H
    exact absurd H (by simp)
   ·rw [if_neg c13] at H
    have c13b0 : (t293 != t282) = false := by simpa using c13
    (try (have c13b1 : decide (t293 = t282) = true := by simpa using c13))
    (try (have c13b2 : (t293 == t282) = true := by simpa using c13))
    clear c13
    replace H := Option.bind_eq_some_iff.mp H
    obtain ⟨⟨t295, t298⟩, A140, H⟩ := H
    replace H : ((laws_eqBolts.f k t283 t286 t295 t298).bind fun t301 => (if t301 = true then ((laws_markBolts.f k t283 t286 1).bind fun bt302 => (if bt302.1 < 0 then (none) else ((laws_eqIntS.f k t290 t279).bind fun t305 => (if t305 = true then ((laws_markIntS.f k t290 1).bind fun bt306 => ((laws_heldIntS.f k bt306.2 1).bind fun t308 => (if t308 < 0 then (none) else (if t308 = bt306.1 then ((laws_toBolts.f k l0_0 l0_1).bind fun bt309 => ((impl_NeedlessBlocks.f k bt309.1 bt309.2).bind fun bt315 => ((laws_eqIntS.f k bt315.1 t279).bind fun t319 => (if t319 = true then (if (bt315.2 != t282) = true then (none) else ((laws_heldIntS.f k bt306.2 1).bind fun t320 => (if t320 < 0 then (none) else (if t320 = bt306.1 then (some true) else (none))))) else (none))))) else (none))))) else (none))))) else (none))) = some r := H
    have A14 := Aside0.mk A140
    clear A140
    replace H := Option.bind_eq_some_iff.mp H
    obtain ⟨t301, A150, H⟩ := H
    replace H : (if t301 = true then ((laws_markBolts.f k t283 t286 1).bind fun bt302 => (if bt302.1 < 0 then (none) else ((laws_eqIntS.f k t290 t279).bind fun t305 => (if t305 = true then ((laws_markIntS.f k t290 1).bind fun bt306 => ((laws_heldIntS.f k bt306.2 1).bind fun t308 => (if t308 < 0 then (none) else (if t308 = bt306.1 then ((laws_toBolts.f k l0_0 l0_1).bind fun bt309 => ((impl_NeedlessBlocks.f k bt309.1 bt309.2).bind fun bt315 => ((laws_eqIntS.f k bt315.1 t279).bind fun t319 => (if t319 = true then (if (bt315.2 != t282) = true then (none) else ((laws_heldIntS.f k bt306.2 1).bind fun t320 => (if t320 < 0 then (none) else (if t320 = bt306.1 then (some true) else (none))))) else (none))))) else (none))))) else (none))))) else (none)) = some r := H
    have A15 := Aside0.mk A150
    clear A150
    by_cases c16 : t301 = true
    ·subst c16
     have H1 : ((laws_markBolts.f k t283 t286 1).bind fun bt302 => (if bt302.1 < 0 then (none) else ((laws_eqIntS.f k t290 t279).bind fun t305 => (if t305 = true then ((laws_markIntS.f k t290 1).bind fun bt306 => ((laws_heldIntS.f k bt306.2 1).bind fun t308 => (if t308 < 0 then (none) else (if t308 = bt306.1 then ((laws_toBolts.f k l0_0 l0_1).bind fun bt309 => ((impl_NeedlessBlocks.f k bt309.1 bt309.2).bind fun bt315 => ((laws_eqIntS.f k bt315.1 t279).bind fun t319 => (if t319 = true then (if (bt315.2 != t282) = true then (none) else ((laws_heldIntS.f k bt306.2 1).bind fun t320 => (if t320 < 0 then (none) else (if t320 = bt306.1 then (some true) else (none))))) else (none))))) else (none))))) else (none))))) = some r := by rw [if_pos rfl] at H; exact H
     clear H
     have H := H1
     clear H1
     replace H := Option.bind_eq_some_iff.mp H
     obtain ⟨⟨t302, t303, t304⟩, A170, H⟩ := H
     replace H : (if t302 < 0 then (none) else ((laws_eqIntS.f k t290 t279).bind fun t305 => (if t305 = true then ((laws_markIntS.f k t290 1).bind fun bt306 => ((laws_heldIntS.f k bt306.2 1).bind fun t308 => (if t308 < 0 then (none) else (if t308 = bt306.1 then ((laws_toBolts.f k l0_0 l0_1).bind fun bt309 => ((impl_NeedlessBlocks.f k bt309.1 bt309.2).bind fun bt315 => ((laws_eqIntS.f k bt315.1 t279).bind fun t319 => (if t319 = true then (if (bt315.2 != t282) = true then (none) else ((laws_heldIntS.f k bt306.2 1).bind fun t320 => (if t320 < 0 then (none) else (if t320 = bt306.1 then (some true) else (none))))) else (none))))) else (none))))) else (none)))) = some r := H
     have A17 := Aside0.mk A170
     clear A170
     by_cases c18 : t302 < 0
     ·rw [if_pos c18] at H
      exact absurd H (by simp)
     ·rw [if_neg c18] at H
      have c18b0 : decide (t302 < 0) = false := decide_eq_false c18
      clear c18
      replace H := Option.bind_eq_some_iff.mp H
      obtain ⟨t305, A190, H⟩ := H
      replace H : (if t305 = true then ((laws_markIntS.f k t290 1).bind fun bt306 => ((laws_heldIntS.f k bt306.2 1).bind fun t308 => (if t308 < 0 then (none) else (if t308 = bt306.1 then ((laws_toBolts.f k l0_0 l0_1).bind fun bt309 => ((impl_NeedlessBlocks.f k bt309.1 bt309.2).bind fun bt315 => ((laws_eqIntS.f k bt315.1 t279).bind fun t319 => (if t319 = true then (if (bt315.2 != t282) = true then (none) else ((laws_heldIntS.f k bt306.2 1).bind fun t320 => (if t320 < 0 then (none) else (if t320 = bt306.1 then (some true) else (none))))) else (none))))) else (none))))) else (none)) = some r := H
      have A19 := Aside0.mk A190
      clear A190
      by_cases c20 : t305 = true
      ·subst c20
       have H1 : ((laws_markIntS.f k t290 1).bind fun bt306 => ((laws_heldIntS.f k bt306.2 1).bind fun t308 => (if t308 < 0 then (none) else (if t308 = bt306.1 then ((laws_toBolts.f k l0_0 l0_1).bind fun bt309 => ((impl_NeedlessBlocks.f k bt309.1 bt309.2).bind fun bt315 => ((laws_eqIntS.f k bt315.1 t279).bind fun t319 => (if t319 = true then (if (bt315.2 != t282) = true then (none) else ((laws_heldIntS.f k bt306.2 1).bind fun t320 => (if t320 < 0 then (none) else (if t320 = bt306.1 then (some true) else (none))))) else (none))))) else (none))))) = some r := by rw [if_pos rfl] at H; exact H
       clear H
       have H := H1
       clear H1
       replace H := Option.bind_eq_some_iff.mp H
       obtain ⟨⟨t306, t307⟩, A210, H⟩ := H
       replace H : ((laws_heldIntS.f k t307 1).bind fun t308 => (if t308 < 0 then (none) else (if t308 = t306 then ((laws_toBolts.f k l0_0 l0_1).bind fun bt309 => ((impl_NeedlessBlocks.f k bt309.1 bt309.2).bind fun bt315 => ((laws_eqIntS.f k bt315.1 t279).bind fun t319 => (if t319 = true then (if (bt315.2 != t282) = true then (none) else ((laws_heldIntS.f k t307 1).bind fun t320 => (if t320 < 0 then (none) else (if t320 = t306 then (some true) else (none))))) else (none))))) else (none)))) = some r := H
       have A21 := Aside0.mk A210
       clear A210
       replace H := Option.bind_eq_some_iff.mp H
       obtain ⟨t308, A220, H⟩ := H
       replace H : (if t308 < 0 then (none) else (if t308 = t306 then ((laws_toBolts.f k l0_0 l0_1).bind fun bt309 => ((impl_NeedlessBlocks.f k bt309.1 bt309.2).bind fun bt315 => ((laws_eqIntS.f k bt315.1 t279).bind fun t319 => (if t319 = true then (if (bt315.2 != t282) = true then (none) else ((laws_heldIntS.f k t307 1).bind fun t320 => (if t320 < 0 then (none) else (if t320 = t306 then (some true) else (none))))) else (none))))) else (none))) = some r := H
       have A22 := Aside0.mk A220
       clear A220
       by_cases c23 : t308 < 0
       ·rw [if_pos c23] at H
        exact absurd H (by simp)
       ·rw [if_neg c23] at H
        have c23b0 : decide (t308 < 0) = false := decide_eq_false c23
        clear c23
        by_cases c24 : t308 = t306
        ·rw [if_pos c24] at H
         have c24b0 : (t308 == t306) = true := beq_iff_eq.mpr c24
         have c24b1 : (t308 != t306) = false := bne_eq_false_iff_eq.mpr c24
         clear c24
         replace H := Option.bind_eq_some_iff.mp H
         obtain ⟨⟨t309, t312⟩, A250, H⟩ := H
         replace H : ((impl_NeedlessBlocks.f k t309 t312).bind fun bt315 => ((laws_eqIntS.f k bt315.1 t279).bind fun t319 => (if t319 = true then (if (bt315.2 != t282) = true then (none) else ((laws_heldIntS.f k t307 1).bind fun t320 => (if t320 < 0 then (none) else (if t320 = t306 then (some true) else (none))))) else (none)))) = some r := H
         have A25 := Aside0.mk A250
         clear A250
         replace H := Option.bind_eq_some_iff.mp H
         obtain ⟨⟨t315, t318⟩, A260, H⟩ := H
         replace H : ((laws_eqIntS.f k t315 t279).bind fun t319 => (if t319 = true then (if (t318 != t282) = true then (none) else ((laws_heldIntS.f k t307 1).bind fun t320 => (if t320 < 0 then (none) else (if t320 = t306 then (some true) else (none))))) else (none))) = some r := H
         have A26 := Aside0.mk A260
         clear A260
         replace H := Option.bind_eq_some_iff.mp H
         obtain ⟨t319, A270, H⟩ := H
         replace H : (if t319 = true then (if (t318 != t282) = true then (none) else ((laws_heldIntS.f k t307 1).bind fun t320 => (if t320 < 0 then (none) else (if t320 = t306 then (some true) else (none))))) else (none)) = some r := H
         have A27 := Aside0.mk A270
         clear A270
         by_cases c28 : t319 = true
         ·subst c28
          have H1 : (if (t318 != t282) = true then (none) else ((laws_heldIntS.f k t307 1).bind fun t320 => (if t320 < 0 then (none) else (if t320 = t306 then (some true) else (none))))) = some r := by rw [if_pos rfl] at H; exact H
          clear H
          have H := H1
          clear H1
          by_cases c29 : (t318 != t282) = true
          ·rw [if_pos c29] at H
           exact absurd H (by simp)
          ·rw [if_neg c29] at H
           have c29b0 : (t318 != t282) = false := by simpa using c29
           (try (have c29b1 : decide (t318 = t282) = true := by simpa using c29))
           (try (have c29b2 : (t318 == t282) = true := by simpa using c29))
           clear c29
           replace H := Option.bind_eq_some_iff.mp H
           obtain ⟨t320, A300, H⟩ := H
           replace H : (if t320 < 0 then (none) else (if t320 = t306 then (some true) else (none))) = some r := H
           have A30 := Aside0.mk A300
           clear A300
           by_cases c31 : t320 < 0
           ·rw [if_pos c31] at H
            exact absurd H (by simp)
           ·rw [if_neg c31] at H
            have c31b0 : decide (t320 < 0) = false := decide_eq_false c31
            clear c31
            by_cases c32 : t320 = t306
            ·rw [if_pos c32] at H
             have c32b0 : (t320 == t306) = true := beq_iff_eq.mpr c32
             have c32b1 : (t320 != t306) = false := bne_eq_false_iff_eq.mpr c32
             clear c32
             obtain rfl := Option.some.inj H
             go_enter Try.func5, Try.ntmps5
             try go_wp2_with (first | ((with_reducible refine gate_dst (N := 1) rfl ?_); refine box_event ?hg (N := 1) ?hd (cs := #[.slice A0_0 l0_0.length c0_0, .slice A0_1 l0_1.length c0_1]) (t := 25) ?hr ?_; (case hd => rfl); (case hg => rfl); (case hr => first | (go_simp; done) | (go_simp; rfl)); intro gb271 hg w33 hbox hb; have n0_ := Aside0.mk (below_step (by repeat (first | (with_reducible first | exact HB.out | apply below_alloc | apply pw_below_drewN | apply below_drew1) | exact HB.out)) hb); have n1_ := Aside0.mk (hbox); have n2_ := Aside0.mk ((by rw [hg]; exact (below_size (by repeat (first | (with_reducible first | exact HB.out | apply below_alloc | apply pw_below_drewN | apply below_drew1) | exact HB.out))) : w.heap.size ≤ gb271)); have n3_ := Aside0.mk ((by rw [hg]; exact (below_size (by repeat (first | (with_reducible first | exact HB.out | apply below_alloc | apply pw_below_drewN | apply below_drew1) | exact HB.out))) : w.heap.size ≤ gb271)); clear HB; have HB := n0_; have BK271 := n1_; have GW271 := n2_; have GE271 := n3_; clear n0_ n1_ n2_ n3_; clear hb hbox hg; have hcz34_0 : w33.cell? ⟨gb271, 0, none⟩ = some (.slice A0_0 l0_0.length c0_0) := (blk_cell BK271.out 0).trans rfl; have hcz34_1 : w33.cell? ⟨gb271, 1, none⟩ = some (.slice A0_1 l0_1.length c0_1) := (blk_cell BK271.out 1).trans rfl; have hfz34_0 := blk_frozen BK271.out 0; have hfz34_1 := blk_frozen BK271.out 1) | ((with_reducible refine gate_callee (f := 6) rfl ?_); refine goesL_ (some 16) rfl rfl Try.func6 (by kernel_rfl) rfl #[.agg #[.slice A0_0 l0_0.length c0_0, .slice A0_1 l0_1.length c0_1], .int .i64 1048576] rfl (by (try simp only [List.map_toArray, List.map_cons, List.map_nil]); first | done | rfl | (simp only [List.length_drop, List.length_take]; rfl)) ?_; (with_reducible refine (laws_szBolts.calls _ _ l0_0 _ _ l0_1 1048576 t272 _ ?side1 ?side2 ?side3 ?side4 A2.out).mono ?_); (case side1 => repeat (first | exact (Kd.C_below HR0_0.out HB.out) | (with_reducible refine Kd.C_alloc ?_ _) | (with_reducible refine Kd.C_drewN ?_ _) | (with_reducible refine Kd.C_drew ?_))); (case side2 => exact HC0_0.out); (case side3 => repeat (first | exact (Kd.C_below HR0_1.out HB.out) | (with_reducible refine Kd.C_alloc ?_ _) | (with_reducible refine Kd.C_drewN ?_ _) | (with_reducible refine Kd.C_drew ?_))); (case side4 => exact HC0_1.out); rintro e w35 ⟨rfl, hb⟩; refine ⟨_, rfl, ?_⟩; have n0_ := Aside0.mk (blk_below (g := gb271) (o := .cells #[.slice A0_0 l0_0.length c0_0, .slice A0_1 l0_1.length c0_1] 25 (0, 0)) (by (with_reducible repeat (first | refine blk_drewN ?_ _ | refine blk_drew ?_ | refine blk_alloc ?_ _)); exact BK271.out) hb); have n1_ := Aside0.mk (below_step (by repeat (first | (with_reducible first | exact HB.out | apply below_alloc | apply pw_below_drewN | apply below_drew1 | refine below_set ?_ GE271.out) | exact HB.out)) hb); clear BK271; clear HB; have BK271 := n0_; have HB := n1_; clear n0_ n1_; (try clear hb); (try clear hb2); (try clear hk); (try clear hi); have hcz36_0 : w35.cell? ⟨gb271, 0, none⟩ = some (.slice A0_0 l0_0.length c0_0) := (blk_cell BK271.out 0).trans rfl; have hcz36_1 : w35.cell? ⟨gb271, 1, none⟩ = some (.slice A0_1 l0_1.length c0_1) := (blk_cell BK271.out 1).trans rfl; have hfz36_0 := blk_frozen BK271.out 0; have hfz36_1 := blk_frozen BK271.out 1) | ((with_reducible refine gate_callee (f := 8) rfl ?_); refine goesL_ (some 21) rfl rfl Try.func8 (by kernel_rfl) rfl #[.agg #[.slice A0_0 l0_0.length c0_0, .slice A0_1 l0_1.length c0_1]] rfl (by (try simp only [List.map_toArray, List.map_cons, List.map_nil]); first | done | rfl | (simp only [List.length_drop, List.length_take]; rfl)) ?_; (with_reducible refine (laws_toBolts.calls k _ _ l0_0 _ _ l0_1 t273 t276 _ ?side1 ?side2 ?side3 ?side4 A7.out).mono ?_); (case side1 => repeat (first | exact (Kd.C_below HR0_0.out HB.out) | (with_reducible refine Kd.C_alloc ?_ _) | (with_reducible refine Kd.C_drewN ?_ _) | (with_reducible refine Kd.C_drew ?_))); (case side2 => exact HC0_0.out); (case side3 => repeat (first | exact (Kd.C_below HR0_1.out HB.out) | (with_reducible refine Kd.C_alloc ?_ _) | (with_reducible refine Kd.C_drewN ?_ _) | (with_reducible refine Kd.C_drew ?_))); (case side4 => exact HC0_1.out); rintro e w37 ⟨v274, v277, rfl, ho0, ho1, hb⟩; refine ⟨_, rfl, ?_⟩; have n0_ := Aside0.mk (Kd.R_lower ho0 (below_size (by repeat (first | (with_reducible first | exact HB.out | apply below_alloc | apply pw_below_drewN | apply below_drew1 | refine below_set ?_ GE271.out) | exact HB.out)))); have n1_ := Aside0.mk (Kd.R_lower ho1 (below_size (by repeat (first | (with_reducible first | exact HB.out | apply below_alloc | apply pw_below_drewN | apply below_drew1 | refine below_set ?_ GE271.out) | exact HB.out)))); have n2_ := Aside0.mk (blk_below (g := gb271) (o := .cells #[.slice A0_0 l0_0.length c0_0, .slice A0_1 l0_1.length c0_1] 25 (0, 0)) (by (with_reducible repeat (first | refine blk_drewN ?_ _ | refine blk_drew ?_ | refine blk_alloc ?_ _)); exact BK271.out) hb); have n3_ := Aside0.mk (below_step (by repeat (first | (with_reducible first | exact HB.out | apply below_alloc | apply pw_below_drewN | apply below_drew1 | refine below_set ?_ GE271.out) | exact HB.out)) hb); clear BK271; clear HB; have HO275 := n0_; have HO278 := n1_; have BK271 := n2_; have HB := n3_; clear n0_ n1_ n2_ n3_; (try clear hb); (try clear hb2); (try clear hk); (try clear hi); (try clear ho0); (try clear ho1); obtain ⟨Ao38, co38, eo38⟩ := Kd.R_slice HO275.out; subst eo38; obtain ⟨Ao39, co39, eo39⟩ := Kd.R_slice HO278.out; subst eo39) | ((with_reducible refine gate_callee (f := 16) rfl ?_); refine goesL_ (some 22) rfl rfl Try.func16 (by kernel_rfl) rfl #[.agg #[.slice Ao38 t273.length co38, .slice Ao39 t276.length co39]] rfl (by (try simp only [List.map_toArray, List.map_cons, List.map_nil]); first | done | rfl | (simp only [List.length_drop, List.length_take]; rfl)) ?_; (with_reducible refine (spec_NeedlessBlocks.calls k _ _ t273 _ _ t276 t279 t282 _ ?side1 ?side2 ?side3 ?side4 A8.out).mono ?_); (case side1 => repeat (first | exact (Kd.R_reads' HO275.out).2.2 | (with_reducible refine Kd.C_alloc ?_ _) | (with_reducible refine Kd.C_drewN ?_ _) | (with_reducible refine Kd.C_drew ?_))); (case side2 => exact (Kd.R_reads' HO275.out).2.1); (case side3 => repeat (first | exact (Kd.R_reads' HO278.out).2.2 | (with_reducible refine Kd.C_alloc ?_ _) | (with_reducible refine Kd.C_drewN ?_ _) | (with_reducible refine Kd.C_drew ?_))); (case side4 => exact (Kd.R_reads' HO278.out).2.1); rintro e w40 ⟨v280, rfl, ho0, hb⟩; refine ⟨_, rfl, ?_⟩; have n0_ := Aside0.mk (Kd.R_elder' (by (with_reducible repeat (first | apply Kd.R_alloc | apply Kd.R_drewN | apply Kd.R_drew)); exact HO275.out) (Kd.R_base ho0) hb); have n1_ := Aside0.mk (Kd.R_below (by (with_reducible repeat (first | apply Kd.R_alloc | apply Kd.R_drewN | apply Kd.R_drew)); exact HO278.out) hb); have n2_ := Aside0.mk (Kd.R_lower (Kd.R_new' ho0 (Kd.R_lt (by (with_reducible repeat (first | apply Kd.R_alloc | apply Kd.R_drewN | apply Kd.R_drew)); exact HO275.out))) (below_size (by repeat (first | (with_reducible first | exact HB.out | apply below_alloc | apply pw_below_drewN | apply below_drew1 | refine below_set ?_ GE271.out) | exact HB.out)))); have n3_ := Aside0.mk (blk_below (g := gb271) (o := .cells #[.slice A0_0 l0_0.length c0_0, .slice A0_1 l0_1.length c0_1] 25 (0, 0)) (by (with_reducible repeat (first | refine blk_drewN ?_ _ | refine blk_drew ?_ | refine blk_alloc ?_ _)); exact BK271.out) hb); have n4_ := Aside0.mk (below_step (by repeat (first | (with_reducible first | exact HB.out | apply below_alloc | apply pw_below_drewN | apply below_drew1 | refine below_set ?_ GE271.out) | exact HB.out)) hb); clear HO275; clear HO278; clear BK271; clear HB; have HO275 := n0_; have HO278 := n1_; have HO281 := n2_; have BK271 := n3_; have HB := n4_; clear n0_ n1_ n2_ n3_ n4_; (try clear hb); (try clear hb2); (try clear hk); (try clear hi); (try clear ho0); have hcz41_0 : w40.cell? ⟨gb271, 0, none⟩ = some (.slice A0_0 l0_0.length c0_0) := (blk_cell BK271.out 0).trans rfl; have hcz41_1 : w40.cell? ⟨gb271, 1, none⟩ = some (.slice A0_1 l0_1.length c0_1) := (blk_cell BK271.out 1).trans rfl; have hfz41_0 := blk_frozen BK271.out 0; have hfz41_1 := blk_frozen BK271.out 1) | ((with_reducible refine gate_callee (f := 8) rfl ?_); refine goesL_ (some 26) rfl rfl Try.func8 (by kernel_rfl) rfl #[.agg #[.slice A0_0 l0_0.length c0_0, .slice A0_1 l0_1.length c0_1]] rfl (by (try simp only [List.map_toArray, List.map_cons, List.map_nil]); first | done | rfl | (simp only [List.length_drop, List.length_take]; rfl)) ?_; (with_reducible refine (laws_toBolts.calls k _ _ l0_0 _ _ l0_1 t283 t286 _ ?side1 ?side2 ?side3 ?side4 A9.out).mono ?_); (case side1 => repeat (first | exact (Kd.C_below HR0_0.out HB.out) | (with_reducible refine Kd.C_alloc ?_ _) | (with_reducible refine Kd.C_drewN ?_ _) | (with_reducible refine Kd.C_drew ?_))); (case side2 => exact HC0_0.out); (case side3 => repeat (first | exact (Kd.C_below HR0_1.out HB.out) | (with_reducible refine Kd.C_alloc ?_ _) | (with_reducible refine Kd.C_drewN ?_ _) | (with_reducible refine Kd.C_drew ?_))); (case side4 => exact HC0_1.out); rintro e w42 ⟨v284, v287, rfl, ho0, ho1, hb⟩; refine ⟨_, rfl, ?_⟩; have n0_ := Aside0.mk (Kd.R_elder' (by (with_reducible repeat (first | apply Kd.R_alloc | apply Kd.R_drewN | apply Kd.R_drew)); exact HO275.out) (Kd.R_base ho0) hb); have n1_ := Aside0.mk (Kd.R_elder' (by (with_reducible repeat (first | apply Kd.R_alloc | apply Kd.R_drewN | apply Kd.R_drew)); exact HO278.out) (Kd.R_base ho1) hb); have n2_ := Aside0.mk (Kd.R_elder' (by (with_reducible repeat (first | apply Kd.R_alloc | apply Kd.R_drewN | apply Kd.R_drew)); exact HO281.out) (Kd.R_base ho0) hb); have n3_ := Aside0.mk (Kd.R_lower (Kd.R_new' (Kd.R_new' ho0 (Kd.R_lt (by (with_reducible repeat (first | apply Kd.R_alloc | apply Kd.R_drewN | apply Kd.R_drew)); exact HO275.out))) (Kd.R_lt (by (with_reducible repeat (first | apply Kd.R_alloc | apply Kd.R_drewN | apply Kd.R_drew)); exact HO281.out))) (below_size (by repeat (first | (with_reducible first | exact HB.out | apply below_alloc | apply pw_below_drewN | apply below_drew1 | refine below_set ?_ GE271.out) | exact HB.out)))); have n4_ := Aside0.mk (Kd.R_lower (Kd.R_new' ho1 (Kd.R_lt (by (with_reducible repeat (first | apply Kd.R_alloc | apply Kd.R_drewN | apply Kd.R_drew)); exact HO278.out))) (below_size (by repeat (first | (with_reducible first | exact HB.out | apply below_alloc | apply pw_below_drewN | apply below_drew1 | refine below_set ?_ GE271.out) | exact HB.out)))); have n5_ := Aside0.mk (blk_below (g := gb271) (o := .cells #[.slice A0_0 l0_0.length c0_0, .slice A0_1 l0_1.length c0_1] 25 (0, 0)) (by (with_reducible repeat (first | refine blk_drewN ?_ _ | refine blk_drew ?_ | refine blk_alloc ?_ _)); exact BK271.out) hb); have n6_ := Aside0.mk (below_step (by repeat (first | (with_reducible first | exact HB.out | apply below_alloc | apply pw_below_drewN | apply below_drew1 | refine below_set ?_ GE271.out) | exact HB.out)) hb); clear HO275; clear HO278; clear HO281; clear BK271; clear HB; have HO275 := n0_; have HO278 := n1_; have HO281 := n2_; have HO285 := n3_; have HO288 := n4_; have BK271 := n5_; have HB := n6_; clear n0_ n1_ n2_ n3_ n4_ n5_ n6_; (try clear hb); (try clear hb2); (try clear hk); (try clear hi); (try clear ho0); (try clear ho1)) | ((with_reducible refine gate_dst (N := 6) rfl ?_); refine box_event ?hg (N := 6) ?hd (cs := #[.slice none 0 0, .slice none 0 0]) (t := 31) ?hr ?_; (case hd => rfl); (case hg => rfl); (case hr => first | (go_simp; done) | (go_simp; rfl)); intro gb289 hg w43 hbox hb; have n0_ := Aside0.mk (Kd.R_below (by (with_reducible repeat (first | apply Kd.R_alloc | apply Kd.R_drewN | apply Kd.R_drew)); exact HO275.out) hb); have n1_ := Aside0.mk (Kd.R_below (by (with_reducible repeat (first | apply Kd.R_alloc | apply Kd.R_drewN | apply Kd.R_drew)); exact HO278.out) hb); have n2_ := Aside0.mk (Kd.R_below (by (with_reducible repeat (first | apply Kd.R_alloc | apply Kd.R_drewN | apply Kd.R_drew)); exact HO281.out) hb); have n3_ := Aside0.mk (Kd.R_below (by (with_reducible repeat (first | apply Kd.R_alloc | apply Kd.R_drewN | apply Kd.R_drew)); exact HO285.out) hb); have n4_ := Aside0.mk (Kd.R_below (by (with_reducible repeat (first | apply Kd.R_alloc | apply Kd.R_drewN | apply Kd.R_drew)); exact HO288.out) hb); have n5_ := Aside0.mk (blk_below (g := gb271) (o := .cells #[.slice A0_0 l0_0.length c0_0, .slice A0_1 l0_1.length c0_1] 25 (0, 0)) (by (with_reducible repeat (first | refine blk_drewN ?_ _ | refine blk_drew ?_ | refine blk_alloc ?_ _)); exact BK271.out) hb); have n6_ := Aside0.mk (below_step (by repeat (first | (with_reducible first | exact HB.out | apply below_alloc | apply pw_below_drewN | apply below_drew1 | refine below_set ?_ GE271.out) | exact HB.out)) hb); have n7_ := Aside0.mk (hbox); have n8_ := Aside0.mk ((by rw [hg]; exact (below_size (by repeat (first | (with_reducible first | exact HB.out | apply below_alloc | apply pw_below_drewN | apply below_drew1 | refine below_set ?_ GE271.out) | exact HB.out))) : w.heap.size ≤ gb289)); have n9_ := Aside0.mk ((by rw [hg]; exact (below_size (by repeat (first | (with_reducible first | exact HB.out | apply below_alloc | apply pw_below_drewN | apply below_drew1 | refine below_set ?_ GE271.out) | exact HB.out))) : w.heap.size ≤ gb289)); have n10_ := Aside0.mk ((by rw [hg]; exact Nat.ne_of_lt (blk_lt (g := gb271) (o := .cells #[.slice A0_0 l0_0.length c0_0, .slice A0_1 l0_1.length c0_1] 25 (0, 0)) (by (with_reducible repeat (first | refine blk_drewN ?_ _ | refine blk_drew ?_ | refine blk_alloc ?_ _)); exact BK271.out)) : gb271 ≠ gb289)); have n11_ := Aside0.mk ((by rw [hg]; exact Nat.ne_of_gt (blk_lt (g := gb271) (o := .cells #[.slice A0_0 l0_0.length c0_0, .slice A0_1 l0_1.length c0_1] 25 (0, 0)) (by (with_reducible repeat (first | refine blk_drewN ?_ _ | refine blk_drew ?_ | refine blk_alloc ?_ _)); exact BK271.out)) : gb289 ≠ gb271)); clear HO275; clear HO278; clear HO281; clear HO285; clear HO288; clear BK271; clear HB; have HO275 := n0_; have HO278 := n1_; have HO281 := n2_; have HO285 := n3_; have HO288 := n4_; have BK271 := n5_; have HB := n6_; have BK289 := n7_; have GW289 := n8_; have GE289 := n9_; have NB271_289 := n10_; have NB289_271 := n11_; clear n0_ n1_ n2_ n3_ n4_ n5_ n6_ n7_ n8_ n9_ n10_ n11_; clear hb hbox hg; obtain ⟨Ao44, co44, eo44⟩ := Kd.R_slice HO285.out; subst eo44; have hnb45 := NB289_271.out; have hnc45 := NB271_289.out; have hcz46_0 : w43.cell? ⟨gb289, 0, none⟩ = some (.slice none 0 0) := (blk_cell BK289.out 0).trans rfl; have hcz46_1 : w43.cell? ⟨gb289, 1, none⟩ = some (.slice none 0 0) := (blk_cell BK289.out 1).trans rfl; have hfz46_0 := blk_frozen BK289.out 0; have hfz46_1 := blk_frozen BK289.out 1; obtain ⟨Ao47, co47, eo47⟩ := Kd.R_slice HO288.out; subst eo47) | ((with_reducible refine gate_callee (f := 17) rfl ?_); refine goesL_ (some 29) rfl rfl Try.func17 (by kernel_rfl) rfl #[.agg #[.slice Ao44 t283.length co44, .slice Ao47 t286.length co47]] rfl (by (try simp only [List.map_toArray, List.map_cons, List.map_nil]); first | done | rfl | (simp only [List.length_drop, List.length_take]; rfl)) ?_; (with_reducible refine (impl_NeedlessBlocks.calls k _ _ t283 _ _ t286 t290 t293 _ ?side1 ?side2 ?side3 ?side4 A10.out).mono ?_); (case side1 => refine (Kd.R_reads' (e := 3) (base := w.heap.size) (ok := fun k_ => ((True ∧ some k_ ≠ (.slice Ao38 t273.length co38 : Value).ownBlock) ∧ some k_ ≠ (v280 : Value).ownBlock)) (n := t283.length) (c := co44) ?_).2.2; exact (by (with_reducible repeat (first | apply Kd.R_alloc | apply Kd.R_drewN | apply Kd.R_drew)); exact (Kd.R_mono (Kd.R_far (p := ⟨gb289, 1, none⟩) (Kd.R_far (p := ⟨gb289, 0, none⟩) (Kd.R_types HO285.out BK289.out (by decide)) (by first | exact fun _ hk => hk.2 | grind) (.slice Ao44 t283.length co44)) (by first | exact fun _ hk => hk.2 | grind) (.slice Ao47 t286.length co47)) (fun _ h_ => h_.1)))); (case side2 => exact (Kd.R_reads' HO285.out).2.1); (case side3 => refine (Kd.R_reads' (e := 35) (base := w.heap.size) (ok := fun k_ => (True ∧ some k_ ≠ (.slice Ao39 t276.length co39 : Value).ownBlock)) (n := t286.length) (c := co47) ?_).2.2; exact (by (with_reducible repeat (first | apply Kd.R_alloc | apply Kd.R_drewN | apply Kd.R_drew)); exact (Kd.R_mono (Kd.R_far (p := ⟨gb289, 1, none⟩) (Kd.R_far (p := ⟨gb289, 0, none⟩) (Kd.R_types HO288.out BK289.out (by decide)) (by first | exact fun _ hk => hk.2 | grind) (.slice Ao44 t283.length co44)) (by first | exact fun _ hk => hk.2 | grind) (.slice Ao47 t286.length co47)) (fun _ h_ => h_.1)))); (case side4 => exact (Kd.R_reads' HO288.out).2.1); rintro e w48 ⟨v291, rfl, ho0, hb⟩; refine ⟨_, rfl, ?_⟩; have n0_ := Aside0.mk (Kd.R_elder' (by (with_reducible repeat (first | apply Kd.R_alloc | apply Kd.R_drewN | apply Kd.R_drew)); exact (Kd.R_mono (Kd.R_far (p := ⟨gb289, 1, none⟩) (Kd.R_far (p := ⟨gb289, 0, none⟩) (Kd.R_types HO275.out BK289.out (by decide)) (by first | exact fun _ hk => hk.2 | grind) (.slice Ao44 t283.length co44)) (by first | exact fun _ hk => hk.2 | grind) (.slice Ao47 t286.length co47)) (fun _ h_ => h_.1))) (Kd.R_base ho0) hb); have n1_ := Aside0.mk (Kd.R_below (by (with_reducible repeat (first | apply Kd.R_alloc | apply Kd.R_drewN | apply Kd.R_drew)); exact (Kd.R_mono (Kd.R_far (p := ⟨gb289, 1, none⟩) (Kd.R_far (p := ⟨gb289, 0, none⟩) (Kd.R_types HO278.out BK289.out (by decide)) (by first | exact fun _ hk => hk.2 | grind) (.slice Ao44 t283.length co44)) (by first | exact fun _ hk => hk.2 | grind) (.slice Ao47 t286.length co47)) (fun _ h_ => h_.1))) hb); have n2_ := Aside0.mk (Kd.R_elder' (by (with_reducible repeat (first | apply Kd.R_alloc | apply Kd.R_drewN | apply Kd.R_drew)); exact (Kd.R_mono (Kd.R_far (p := ⟨gb289, 1, none⟩) (Kd.R_far (p := ⟨gb289, 0, none⟩) (Kd.R_types HO281.out BK289.out (by decide)) (by first | exact fun _ hk => hk.2 | grind) (.slice Ao44 t283.length co44)) (by first | exact fun _ hk => hk.2 | grind) (.slice Ao47 t286.length co47)) (fun _ h_ => h_.1))) (Kd.R_base ho0) hb); have n3_ := Aside0.mk (Kd.R_elder' (by (with_reducible repeat (first | apply Kd.R_alloc | apply Kd.R_drewN | apply Kd.R_drew)); exact (Kd.R_mono (Kd.R_far (p := ⟨gb289, 1, none⟩) (Kd.R_far (p := ⟨gb289, 0, none⟩) (Kd.R_types HO285.out BK289.out (by decide)) (by first | exact fun _ hk => hk.2 | grind) (.slice Ao44 t283.length co44)) (by first | exact fun _ hk => hk.2 | grind) (.slice Ao47 t286.length co47)) (fun _ h_ => h_.1))) (Kd.R_base ho0) hb); have n4_ := Aside0.mk (Kd.R_below (by (with_reducible repeat (first | apply Kd.R_alloc | apply Kd.R_drewN | apply Kd.R_drew)); exact (Kd.R_mono (Kd.R_far (p := ⟨gb289, 1, none⟩) (Kd.R_far (p := ⟨gb289, 0, none⟩) (Kd.R_types HO288.out BK289.out (by decide)) (by first | exact fun _ hk => hk.2 | grind) (.slice Ao44 t283.length co44)) (by first | exact fun _ hk => hk.2 | grind) (.slice Ao47 t286.length co47)) (fun _ h_ => h_.1))) hb); have n5_ := Aside0.mk (Kd.R_lower (Kd.R_new' (Kd.R_new' (Kd.R_new' ho0 (Kd.R_lt (by (with_reducible repeat (first | apply Kd.R_alloc | apply Kd.R_drewN | apply Kd.R_drew)); exact (Kd.R_mono (Kd.R_far (p := ⟨gb289, 1, none⟩) (Kd.R_far (p := ⟨gb289, 0, none⟩) (Kd.R_types HO275.out BK289.out (by decide)) (by first | exact fun _ hk => hk.2 | grind) (.slice Ao44 t283.length co44)) (by first | exact fun _ hk => hk.2 | grind) (.slice Ao47 t286.length co47)) (fun _ h_ => h_.1))))) (Kd.R_lt (by (with_reducible repeat (first | apply Kd.R_alloc | apply Kd.R_drewN | apply Kd.R_drew)); exact (Kd.R_mono (Kd.R_far (p := ⟨gb289, 1, none⟩) (Kd.R_far (p := ⟨gb289, 0, none⟩) (Kd.R_types HO281.out BK289.out (by decide)) (by first | exact fun _ hk => hk.2 | grind) (.slice Ao44 t283.length co44)) (by first | exact fun _ hk => hk.2 | grind) (.slice Ao47 t286.length co47)) (fun _ h_ => h_.1))))) (Kd.R_lt (by (with_reducible repeat (first | apply Kd.R_alloc | apply Kd.R_drewN | apply Kd.R_drew)); exact (Kd.R_mono (Kd.R_far (p := ⟨gb289, 1, none⟩) (Kd.R_far (p := ⟨gb289, 0, none⟩) (Kd.R_types HO285.out BK289.out (by decide)) (by first | exact fun _ hk => hk.2 | grind) (.slice Ao44 t283.length co44)) (by first | exact fun _ hk => hk.2 | grind) (.slice Ao47 t286.length co47)) (fun _ h_ => h_.1))))) (below_size (by repeat (first | (with_reducible first | exact HB.out | apply below_alloc | apply pw_below_drewN | apply below_drew1 | refine below_set ?_ GE271.out | refine below_set ?_ GE289.out) | exact HB.out)))); have n6_ := Aside0.mk (blk_below (g := gb271) (o := .cells #[.slice A0_0 l0_0.length c0_0, .slice A0_1 l0_1.length c0_1] 25 (0, 0)) (by (with_reducible repeat (first | refine blk_drewN ?_ _ | refine blk_drew ?_ | refine blk_alloc ?_ _)); refine blk_far ?_ NB271_289.out _; (with_reducible repeat (first | refine blk_drewN ?_ _ | refine blk_drew ?_ | refine blk_alloc ?_ _)); refine blk_far ?_ NB271_289.out _; (with_reducible repeat (first | refine blk_drewN ?_ _ | refine blk_drew ?_ | refine blk_alloc ?_ _)); exact BK271.out) hb); have n7_ := Aside0.mk (blk_below (g := gb289) (o := .cells #[.slice Ao44 t283.length co44, .slice Ao47 t286.length co47] 31 (0, 0)) (by (with_reducible repeat (first | refine blk_drewN ?_ _ | refine blk_drew ?_ | refine blk_alloc ?_ _)); refine blk_put (cs := #[.slice Ao44 t283.length co44, .slice none 0 0]) ?_ 1 _ rfl; (with_reducible repeat (first | refine blk_drewN ?_ _ | refine blk_drew ?_ | refine blk_alloc ?_ _)); refine blk_put (cs := #[.slice none 0 0, .slice none 0 0]) ?_ 0 _ rfl; (with_reducible repeat (first | refine blk_drewN ?_ _ | refine blk_drew ?_ | refine blk_alloc ?_ _)); exact BK289.out) hb); have n8_ := Aside0.mk (below_step (by repeat (first | (with_reducible first | exact HB.out | apply below_alloc | apply pw_below_drewN | apply below_drew1 | refine below_set ?_ GE271.out | refine below_set ?_ GE289.out) | exact HB.out)) hb); clear HO275; clear HO278; clear HO281; clear HO285; clear HO288; clear BK271; clear BK289; clear HB; have HO275 := n0_; have HO278 := n1_; have HO281 := n2_; have HO285 := n3_; have HO288 := n4_; have HO292 := n5_; have BK271 := n6_; have BK289 := n7_; have HB := n8_; clear n0_ n1_ n2_ n3_ n4_ n5_ n6_ n7_ n8_; (try clear hb); (try clear hb2); (try clear hk); (try clear hi); (try clear ho0); obtain ⟨Ao49, co49, eo49⟩ := Kd.R_slice HO292.out; subst eo49; obtain ⟨Ao50, co50, eo50⟩ := Kd.R_slice HO281.out; subst eo50) | ((with_reducible refine gate_callee (f := 18) rfl ?_); refine goesL_ (some 34) rfl rfl Try.func18 (by kernel_rfl) rfl #[.slice Ao49 t290.length co49, .slice Ao50 t279.length co50] rfl (by (try simp only [List.map_toArray, List.map_cons, List.map_nil]); first | done | rfl | (simp only [List.length_drop, List.length_take]; rfl)) ?_; (with_reducible refine (laws_eqIntS.calls k _ _ t290 _ _ t279 true _ ?side1 ?side2 ?side3 ?side4 A11.out).mono ?_); (case side1 => repeat (first | exact (Kd.R_reads' HO292.out).2.2 | (with_reducible refine Kd.C_alloc ?_ _) | (with_reducible refine Kd.C_drewN ?_ _) | (with_reducible refine Kd.C_drew ?_))); (case side2 => exact (Kd.R_reads' HO292.out).2.1); (case side3 => repeat (first | exact (Kd.R_reads' HO281.out).2.2 | (with_reducible refine Kd.C_alloc ?_ _) | (with_reducible refine Kd.C_drewN ?_ _) | (with_reducible refine Kd.C_drew ?_))); (case side4 => exact (Kd.R_reads' HO281.out).2.1); rintro e w' ⟨rfl, ⟨nd, rfl⟩⟩; refine ⟨_, rfl, ?_⟩))
             (try (rw [drewN_self w48]; generalize hq_ : World.drewN w48 _ = w48; have n0_ : Aside0 (Kd.R (Kd.int .i64) 3 w48 w.heap.size (fun k_ => some k_ ≠ (.slice Ao50 t279.length co50 : Value).ownBlock ∧ some k_ ≠ (.slice Ao44 t283.length co44 : Value).ownBlock ∧ some k_ ≠ (.slice Ao49 t290.length co49 : Value).ownBlock) (.slice Ao38 t273.length co38) t273) := ⟨by rw [← hq_]; exact (by (with_reducible repeat (first | apply Kd.R_alloc | apply Kd.R_drewN | apply Kd.R_drew)); exact Kd.R_mono HO275.out (by first | exact fun _ hk => ⟨hk.1.1.2, ⟨hk.1.2, hk.2⟩⟩ | grind))⟩; have n1_ : Aside0 (Kd.R k35 35 w48 w.heap.size (fun k_ => some k_ ≠ (.slice Ao47 t286.length co47 : Value).ownBlock) (.slice Ao39 t276.length co39) t276) := ⟨by rw [← hq_]; exact (by (with_reducible repeat (first | apply Kd.R_alloc | apply Kd.R_drewN | apply Kd.R_drew)); exact Kd.R_mono HO278.out (by first | exact fun _ hk => hk.2 | grind))⟩; have n2_ : Aside0 (Kd.R (Kd.int .i64) 3 w48 w.heap.size (fun k_ => some k_ ≠ (.slice Ao38 t273.length co38 : Value).ownBlock ∧ some k_ ≠ (.slice Ao44 t283.length co44 : Value).ownBlock ∧ some k_ ≠ (.slice Ao49 t290.length co49 : Value).ownBlock) (.slice Ao50 t279.length co50) t279) := ⟨by rw [← hq_]; exact (by (with_reducible repeat (first | apply Kd.R_alloc | apply Kd.R_drewN | apply Kd.R_drew)); exact Kd.R_mono HO281.out (by first | exact fun _ hk => ⟨hk.1.1.2, ⟨hk.1.2, hk.2⟩⟩ | grind))⟩; have n3_ : Aside0 (Kd.R (Kd.int .i64) 3 w48 w.heap.size (fun k_ => some k_ ≠ (.slice Ao38 t273.length co38 : Value).ownBlock ∧ some k_ ≠ (.slice Ao50 t279.length co50 : Value).ownBlock ∧ some k_ ≠ (.slice Ao49 t290.length co49 : Value).ownBlock) (.slice Ao44 t283.length co44) t283) := ⟨by rw [← hq_]; exact (by (with_reducible repeat (first | apply Kd.R_alloc | apply Kd.R_drewN | apply Kd.R_drew)); exact Kd.R_mono HO285.out (by first | exact fun _ hk => ⟨hk.1.1.2, ⟨hk.1.2, hk.2⟩⟩ | grind))⟩; have n4_ : Aside0 (Kd.R k35 35 w48 w.heap.size (fun k_ => some k_ ≠ (.slice Ao39 t276.length co39 : Value).ownBlock) (.slice Ao47 t286.length co47) t286) := ⟨by rw [← hq_]; exact (by (with_reducible repeat (first | apply Kd.R_alloc | apply Kd.R_drewN | apply Kd.R_drew)); exact Kd.R_mono HO288.out (by first | exact fun _ hk => hk.2 | grind))⟩; have n5_ : Aside0 (Kd.R (Kd.int .i64) 3 w48 w.heap.size (fun k_ => some k_ ≠ (.slice Ao38 t273.length co38 : Value).ownBlock ∧ some k_ ≠ (.slice Ao50 t279.length co50 : Value).ownBlock ∧ some k_ ≠ (.slice Ao44 t283.length co44 : Value).ownBlock) (.slice Ao49 t290.length co49) t290) := ⟨by rw [← hq_]; exact (by (with_reducible repeat (first | apply Kd.R_alloc | apply Kd.R_drewN | apply Kd.R_drew)); exact Kd.R_mono HO292.out (by first | exact fun _ hk => ⟨hk.1.1.2, ⟨hk.1.2, hk.2⟩⟩ | grind))⟩; have n6_ : Aside0 (w48.heap[gb271]? = some (.cells #[.slice A0_0 l0_0.length c0_0, .slice A0_1 l0_1.length c0_1] 25 (0, 0))) := ⟨by rw [← hq_]; exact (by (with_reducible repeat (first | refine blk_drewN ?_ _ | refine blk_drew ?_ | refine blk_alloc ?_ _)); exact BK271.out)⟩; have n7_ : Aside0 (w48.heap[gb289]? = some (.cells #[.slice Ao44 t283.length co44, .slice Ao47 t286.length co47] 31 (0, 0))) := ⟨by rw [← hq_]; exact (by (with_reducible repeat (first | refine blk_drewN ?_ _ | refine blk_drew ?_ | refine blk_alloc ?_ _)); exact BK289.out)⟩; have n8_ : Aside0 (Below w.heap.size w w48) := ⟨by rw [← hq_]; exact (by repeat (first | (with_reducible first | exact HB.out | apply below_alloc | apply pw_below_drewN | apply below_drew1 | refine below_set ?_ GE271.out | refine below_set ?_ GE289.out) | exact HB.out))⟩; clear HO275 HO278 HO281 HO285 HO288 HO292 BK271 BK289 HB hq_; have HO275 := n0_; have HO278 := n1_; have HO281 := n2_; have HO285 := n3_; have HO288 := n4_; have HO292 := n5_; have BK271 := n6_; have BK289 := n7_; have HB := n8_; clear n0_ n1_ n2_ n3_ n4_ n5_ n6_ n7_ n8_))
             have n0_ := Aside0.mk (Kd.R_drew HO275.out)
             have n1_ := Aside0.mk (Kd.R_drew HO278.out)
             have n2_ := Aside0.mk (Kd.R_drew HO281.out)
             have n3_ := Aside0.mk (Kd.R_drew HO285.out)
             have n4_ := Aside0.mk (Kd.R_drew HO288.out)
             have n5_ := Aside0.mk (Kd.R_drew HO292.out)
             have n6_ := Aside0.mk (blk_drew BK271.out)
             have n7_ := Aside0.mk (blk_drew BK289.out)
             have n8_ := Aside0.mk (below_drew1 HB.out)
             clear HO275
             clear HO278
             clear HO281
             clear HO285
             clear HO288
             clear HO292
             clear BK271
             clear BK289
             clear HB
             have HO275 := n0_
             have HO278 := n1_
             have HO281 := n2_
             have HO285 := n3_
             have HO288 := n4_
             have HO292 := n5_
             have BK271 := n6_
             have BK289 := n7_
             have HB := n8_
             clear n0_ n1_ n2_ n3_ n4_ n5_ n6_ n7_ n8_
             refine start_ (n := 5) (S := fun w' => w'.cell? ⟨gb289, 0, none⟩ = some (.slice Ao44 t283.length co44) ∧ w'.cell? ⟨gb289, 1, none⟩ = some (.slice Ao47 t286.length co47) ∧ w'.cell? ⟨gb271, 0, none⟩ = some (.slice A0_0 l0_0.length c0_0) ∧ w'.cell? ⟨gb271, 1, none⟩ = some (.slice A0_1 l0_1.length c0_1)) (ds := []) #[false, false, false, false, false] (by kernel_rfl) rfl rfl ⟨(blk_cell BK289.out 0).trans rfl, (blk_cell BK289.out 1).trans rfl, (blk_cell BK271.out 0).trans rfl, (blk_cell BK271.out 1).trans rfl⟩ (fun hHeld => ?_)
             generalize w48.drew = w51 at HO275 HO278 HO281 HO285 HO288 HO292 BK271 BK289 HB hHeld ⊢
             refine take_ (i := 0) (N := some 41) (v := ?_) (a' := ?_) #[true, false, false, false, false] rfl rfl (by kernel_rfl) (fun _ _ _ h => h) (Or.inl ⟨by rfl, ?_⟩) hHeld ?_ ?_
             rotate_left
             ·rintro w' ⟨s0, s1, s2, s3⟩
              go_simp
              with_reducible rfl
             rotate_left
             ·simp only [Act.put, List.setIfInBounds_toArray, List.set_cons_zero, List.set_cons_succ, i64_w, i32_w]
              rfl
             refine take_ (i := 1) (N := some 42) (v := ?_) (a' := ?_) #[true, true, false, false, false] rfl rfl (by kernel_rfl) (fun _ _ _ h => h) (Or.inl ⟨by rfl, ?_⟩) hHeld ?_ ?_
             rotate_left
             ·rintro w' ⟨s0, s1, s2, s3⟩
              go_simp
              with_reducible rfl
             rotate_left
             ·simp only [Act.put, List.setIfInBounds_toArray, List.set_cons_zero, List.set_cons_succ, i64_w, i32_w]
              rfl
             refine one_ (i := 2) (N := some 43) #[true, true, true, false, false] rfl rfl (by kernel_rfl) (by decide) (fun K hK => ?_)
             refine goes_ Try.func8 (by kernel_rfl) rfl #[.agg #[.slice A0_0 l0_0.length c0_0, .slice A0_1 l0_1.length c0_1]] (by rfl) rfl rfl (by (try simp only [List.map_toArray, List.map_cons, List.map_nil]); first | done | rfl | (simp only [List.length_drop, List.length_take]; rfl)) ?_
             with_reducible refine (laws_toBolts.calls k _ _ l0_0 _ _ l0_1 t295 t298 _ ?side1 ?side2 ?side3 ?side4 A14.out).mono ?_
             (case side1 => repeat (first | exact (Kd.C_below HR0_0.out HB.out) | (with_reducible refine Kd.C_alloc ?_ _) | (with_reducible refine Kd.C_drewN ?_ _) | (with_reducible refine Kd.C_drew ?_)))
             (case side2 => exact HC0_0.out)
             (case side3 => repeat (first | exact (Kd.C_below HR0_1.out HB.out) | (with_reducible refine Kd.C_alloc ?_ _) | (with_reducible refine Kd.C_drewN ?_ _) | (with_reducible refine Kd.C_drew ?_)))
             (case side4 => exact HC0_1.out)
             rintro e w52 ⟨v296, v299, rfl, ho0, ho1, hb⟩
             refine ⟨_, rfl, ?_⟩
             have n0_ := Aside0.mk (Kd.R_elder' (by (with_reducible repeat (first | apply Kd.R_alloc | apply Kd.R_drewN | apply Kd.R_drew)); exact HO275.out) (Kd.R_base ho0) hb)
             have n1_ := Aside0.mk (Kd.R_elder' (by (with_reducible repeat (first | apply Kd.R_alloc | apply Kd.R_drewN | apply Kd.R_drew)); exact HO278.out) (Kd.R_base ho1) hb)
             have n2_ := Aside0.mk (Kd.R_elder' (by (with_reducible repeat (first | apply Kd.R_alloc | apply Kd.R_drewN | apply Kd.R_drew)); exact HO281.out) (Kd.R_base ho0) hb)
             have n3_ := Aside0.mk (Kd.R_elder' (by (with_reducible repeat (first | apply Kd.R_alloc | apply Kd.R_drewN | apply Kd.R_drew)); exact HO285.out) (Kd.R_base ho0) hb)
             have n4_ := Aside0.mk (Kd.R_elder' (by (with_reducible repeat (first | apply Kd.R_alloc | apply Kd.R_drewN | apply Kd.R_drew)); exact HO288.out) (Kd.R_base ho1) hb)
             have n5_ := Aside0.mk (Kd.R_elder' (by (with_reducible repeat (first | apply Kd.R_alloc | apply Kd.R_drewN | apply Kd.R_drew)); exact HO292.out) (Kd.R_base ho0) hb)
             have n6_ := Aside0.mk (Kd.R_lower (Kd.R_new' (Kd.R_new' (Kd.R_new' (Kd.R_new' ho0 (Kd.R_lt (by (with_reducible repeat (first | apply Kd.R_alloc | apply Kd.R_drewN | apply Kd.R_drew)); exact HO275.out))) (Kd.R_lt (by (with_reducible repeat (first | apply Kd.R_alloc | apply Kd.R_drewN | apply Kd.R_drew)); exact HO281.out))) (Kd.R_lt (by (with_reducible repeat (first | apply Kd.R_alloc | apply Kd.R_drewN | apply Kd.R_drew)); exact HO285.out))) (Kd.R_lt (by (with_reducible repeat (first | apply Kd.R_alloc | apply Kd.R_drewN | apply Kd.R_drew)); exact HO292.out))) (below_size (by repeat (first | (with_reducible first | exact HB.out | apply below_alloc | apply pw_below_drewN | apply below_drew1 | refine below_set ?_ GE271.out | refine below_set ?_ GE289.out) | exact HB.out))))
             have n7_ := Aside0.mk (Kd.R_lower (Kd.R_new' (Kd.R_new' ho1 (Kd.R_lt (by (with_reducible repeat (first | apply Kd.R_alloc | apply Kd.R_drewN | apply Kd.R_drew)); exact HO278.out))) (Kd.R_lt (by (with_reducible repeat (first | apply Kd.R_alloc | apply Kd.R_drewN | apply Kd.R_drew)); exact HO288.out))) (below_size (by repeat (first | (with_reducible first | exact HB.out | apply below_alloc | apply pw_below_drewN | apply below_drew1 | refine below_set ?_ GE271.out | refine below_set ?_ GE289.out) | exact HB.out))))
             have n8_ := Aside0.mk (blk_below (g := gb271) (o := .cells #[.slice A0_0 l0_0.length c0_0, .slice A0_1 l0_1.length c0_1] 25 (0, 0)) (by (with_reducible repeat (first | refine blk_drewN ?_ _ | refine blk_drew ?_ | refine blk_alloc ?_ _)); exact BK271.out) hb)
             have n9_ := Aside0.mk (blk_below (g := gb289) (o := .cells #[.slice Ao44 t283.length co44, .slice Ao47 t286.length co47] 31 (0, 0)) (by (with_reducible repeat (first | refine blk_drewN ?_ _ | refine blk_drew ?_ | refine blk_alloc ?_ _)); exact BK289.out) hb)
             have n10_ := Aside0.mk (below_step (by repeat (first | (with_reducible first | exact HB.out | apply below_alloc | apply pw_below_drewN | apply below_drew1 | refine below_set ?_ GE271.out | refine below_set ?_ GE289.out) | exact HB.out)) hb)
             clear HO275
             clear HO278
             clear HO281
             clear HO285
             clear HO288
             clear HO292
             clear BK271
             clear BK289
             clear HB
             have HO275 := n0_
             have HO278 := n1_
             have HO281 := n2_
             have HO285 := n3_
             have HO288 := n4_
             have HO292 := n5_
             have HO297 := n6_
             have HO300 := n7_
             have BK271 := n8_
             have BK289 := n9_
             have HB := n10_
             clear n0_ n1_ n2_ n3_ n4_ n5_ n6_ n7_ n8_ n9_ n10_
             (try clear hb)
             (try clear hb2)
             (try clear hk)
             (try clear hi)
             (try clear ho0)
             (try clear ho1)
             obtain ⟨Ao53, co53, eo53⟩ := Kd.R_slice HO297.out
             (first | subst eo53 | (injection eo53 with f1_ f2_ f3_; have f4_ := f1_.symm; have f5_ := f3_.symm; clear f1_ f2_ f3_; subst f4_; subst f5_))
             obtain ⟨Ao54, co54, eo54⟩ := Kd.R_slice HO300.out
             (first | subst eo54 | (injection eo54 with f1_ f2_ f3_; have f4_ := f1_.symm; have f5_ := f3_.symm; clear f1_ f2_ f3_; subst f4_; subst f5_))
             refine hK.out _ _ ⟨(blk_cell BK289.out 0).trans rfl, (blk_cell BK289.out 1).trans rfl, (blk_cell BK271.out 0).trans rfl, (blk_cell BK271.out 1).trans rfl⟩ (fun hHeld => ?_)
             clear hK K
             refine norm_ (a' := ?_) ?_ ?_
             rotate_left
             ·show Act.put _ (some 43) _ = _
              simp only [Act.put, List.setIfInBounds_toArray, List.set_cons_zero, List.set_cons_succ, i64_w, i32_w]
              rfl
             refine one_ (i := 3) (N := some 44) #[true, true, true, true, false] rfl rfl (by kernel_rfl) (by decide) (fun K hK => ?_)
             refine goes_ Try.func11 (by kernel_rfl) rfl #[.agg #[.slice Ao44 t283.length co44, .slice Ao47 t286.length co47], .agg #[.slice Ao53 t295.length co53, .slice Ao54 t298.length co54]] (by rfl) rfl rfl (by (try simp only [List.map_toArray, List.map_cons, List.map_nil]); first | done | rfl | (simp only [List.length_drop, List.length_take]; rfl)) ?_
             with_reducible refine (laws_eqBolts.calls k _ _ t283 _ _ t286 _ _ t295 _ _ t298 true _ ?side1 ?side2 ?side3 ?side4 ?side5 ?side6 ?side7 ?side8 A15.out).mono ?_
             (case side1 => repeat (first | exact (Kd.R_reads' HO285.out).2.2 | (with_reducible refine Kd.C_alloc ?_ _) | (with_reducible refine Kd.C_drewN ?_ _) | (with_reducible refine Kd.C_drew ?_)))
             (case side2 => exact (Kd.R_reads' HO285.out).2.1)
             (case side3 => repeat (first | exact (Kd.R_reads' HO288.out).2.2 | (with_reducible refine Kd.C_alloc ?_ _) | (with_reducible refine Kd.C_drewN ?_ _) | (with_reducible refine Kd.C_drew ?_)))
             (case side4 => exact (Kd.R_reads' HO288.out).2.1)
             (case side5 => repeat (first | exact (Kd.R_reads' HO297.out).2.2 | (with_reducible refine Kd.C_alloc ?_ _) | (with_reducible refine Kd.C_drewN ?_ _) | (with_reducible refine Kd.C_drew ?_)))
             (case side6 => exact (Kd.R_reads' HO297.out).2.1)
             (case side7 => repeat (first | exact (Kd.R_reads' HO300.out).2.2 | (with_reducible refine Kd.C_alloc ?_ _) | (with_reducible refine Kd.C_drewN ?_ _) | (with_reducible refine Kd.C_drew ?_)))
             (case side8 => exact (Kd.R_reads' HO300.out).2.1)
             rintro e w55 ⟨rfl, hb⟩
             refine ⟨_, rfl, ?_⟩
             have n0_ := Aside0.mk (Kd.R_below (by (with_reducible repeat (first | apply Kd.R_alloc | apply Kd.R_drewN | apply Kd.R_drew)); exact HO275.out) hb)
             have n1_ := Aside0.mk (Kd.R_below (by (with_reducible repeat (first | apply Kd.R_alloc | apply Kd.R_drewN | apply Kd.R_drew)); exact HO278.out) hb)
             have n2_ := Aside0.mk (Kd.R_below (by (with_reducible repeat (first | apply Kd.R_alloc | apply Kd.R_drewN | apply Kd.R_drew)); exact HO281.out) hb)
             have n3_ := Aside0.mk (Kd.R_below (by (with_reducible repeat (first | apply Kd.R_alloc | apply Kd.R_drewN | apply Kd.R_drew)); exact HO285.out) hb)
             have n4_ := Aside0.mk (Kd.R_below (by (with_reducible repeat (first | apply Kd.R_alloc | apply Kd.R_drewN | apply Kd.R_drew)); exact HO288.out) hb)
             have n5_ := Aside0.mk (Kd.R_below (by (with_reducible repeat (first | apply Kd.R_alloc | apply Kd.R_drewN | apply Kd.R_drew)); exact HO292.out) hb)
             have n6_ := Aside0.mk (Kd.R_below (by (with_reducible repeat (first | apply Kd.R_alloc | apply Kd.R_drewN | apply Kd.R_drew)); exact HO297.out) hb)
             have n7_ := Aside0.mk (Kd.R_below (by (with_reducible repeat (first | apply Kd.R_alloc | apply Kd.R_drewN | apply Kd.R_drew)); exact HO300.out) hb)
             have n8_ := Aside0.mk (blk_below (g := gb271) (o := .cells #[.slice A0_0 l0_0.length c0_0, .slice A0_1 l0_1.length c0_1] 25 (0, 0)) (by (with_reducible repeat (first | refine blk_drewN ?_ _ | refine blk_drew ?_ | refine blk_alloc ?_ _)); exact BK271.out) hb)
             have n9_ := Aside0.mk (blk_below (g := gb289) (o := .cells #[.slice Ao44 t283.length co44, .slice Ao47 t286.length co47] 31 (0, 0)) (by (with_reducible repeat (first | refine blk_drewN ?_ _ | refine blk_drew ?_ | refine blk_alloc ?_ _)); exact BK289.out) hb)
             have n10_ := Aside0.mk (below_step (by repeat (first | (with_reducible first | exact HB.out | apply below_alloc | apply pw_below_drewN | apply below_drew1 | refine below_set ?_ GE271.out | refine below_set ?_ GE289.out) | exact HB.out)) hb)
             clear HO275
             clear HO278
             clear HO281
             clear HO285
             clear HO288
             clear HO292
             clear HO297
             clear HO300
             clear BK271
             clear BK289
             clear HB
             have HO275 := n0_
             have HO278 := n1_
             have HO281 := n2_
             have HO285 := n3_
             have HO288 := n4_
             have HO292 := n5_
             have HO297 := n6_
             have HO300 := n7_
             have BK271 := n8_
             have BK289 := n9_
             have HB := n10_
             clear n0_ n1_ n2_ n3_ n4_ n5_ n6_ n7_ n8_ n9_ n10_
             (try clear hb)
             (try clear hb2)
             (try clear hk)
             (try clear hi)
             refine hK.out _ _ ⟨(blk_cell BK289.out 0).trans rfl, (blk_cell BK289.out 1).trans rfl, (blk_cell BK271.out 0).trans rfl, (blk_cell BK271.out 1).trans rfl⟩ (fun hHeld => ?_)
             clear hK K
             refine norm_ (a' := ?_) ?_ ?_
             rotate_left
             ·show Act.put _ (some 44) _ = _
              simp only [Act.put, List.setIfInBounds_toArray, List.set_cons_zero, List.set_cons_succ, i64_w, i32_w]
              rfl
             refine pure_ (i := 4) (N := some 45) (v := ?_) (a' := ?_) #[true, true, true, true, true] rfl rfl (by kernel_rfl) (fun _ _ _ h => h) (Or.inl ⟨by rfl, ?_⟩) ?_ ?_
             rotate_left
             ·intro w'
              go_simp
              with_reducible rfl
             rotate_left
             ·simp only [Act.put, List.setIfInBounds_toArray, List.set_cons_zero, List.set_cons_succ, i64_w, i32_w]
              rfl
             refine done_ (by kernel_rfl) ?_
             have hcz56_0 : w55.cell? ⟨gb289, 0, none⟩ = some (.slice Ao44 t283.length co44) := (blk_cell BK289.out 0).trans rfl
             have hcz56_1 : w55.cell? ⟨gb289, 1, none⟩ = some (.slice Ao47 t286.length co47) := (blk_cell BK289.out 1).trans rfl
             have hfz56_0 := blk_frozen BK289.out 0
             have hfz56_1 := blk_frozen BK289.out 1
             try go_wp2_with (first | ((with_reducible refine gate_callee (f := 12) rfl ?_); refine goesL_ (some 48) rfl rfl Try.func12 (by kernel_rfl) rfl #[.agg #[.slice Ao44 t283.length co44, .slice Ao47 t286.length co47], .int .i64 1] rfl (by (try simp only [List.map_toArray, List.map_cons, List.map_nil]); first | done | rfl | (simp only [List.length_drop, List.length_take]; rfl)) ?_; (with_reducible refine (laws_markBolts.calls k (fun k_ => some k_ = (.slice Ao44 t283.length co44 : Value).ownBlock) (.slice Ao44 t283.length co44) t283 (fun k_ => some k_ = (.slice Ao47 t286.length co47 : Value).ownBlock) (.slice Ao47 t286.length co47) t286 1 t302 t303 t304 w _ ?side1 ?side2 ?side3 A17.out).mono ?_); (case side1 => repeat (first | (with_reducible first | exact HB.out | apply below_alloc | apply pw_below_drewN | apply below_drew1 | refine below_set ?_ GE271.out | refine below_set ?_ GE289.out) | exact HB.out)); (case side2 => exact Kd.R_tight rfl HO285.out); (case side3 => exact Kd.R_tight rfl HO288.out); rintro e w57 ⟨rfl, hy0, hy1, hb, hkp⟩; refine ⟨_, rfl, ?_⟩; have n0_ := Aside0.mk (blk_kept (by (with_reducible repeat (first | refine blk_drewN ?_ _ | refine blk_drew ?_ | refine blk_alloc ?_ _)); exact BK271.out) hkp (fun hs_ => Or.elim hs_ (fun e_ => (fun e_ => (Kd.R_ne HO285.out BK271.out (by decide)) e_) e_) (fun e_ => (fun e_ => (Kd.R_ne HO288.out BK271.out (by decide)) e_) e_))); have n1_ := Aside0.mk (Kd.R_mono (ok' := fun k_ => some k_ ≠ (.slice Ao50 t279.length co50 : Value).ownBlock ∧ some k_ ≠ (.slice Ao44 t283.length co44 : Value).ownBlock ∧ some k_ ≠ (.slice Ao49 t290.length co49 : Value).ownBlock ∧ some k_ ≠ (.slice Ao53 t295.length co53 : Value).ownBlock) (Kd.R_keptB ((Kd.R_apart' HO275.out (Kd.R_typed HO288.out) (by decide))) hkp (by first | exact fun k_ hk_ hs_ => Or.elim hs_ (fun e_ => (hk_.1.1.1.2) e_) (fun e_ => (hk_.2) e_) | grind)) (by first | exact fun k_ hk_ => ⟨hk_.1.1.1.1.1.2, hk_.1.1.1.1.2, hk_.1.1.1.2, hk_.1.1.2⟩ | grind)); have n2_ := Aside0.mk (Kd.R_mono (ok' := fun k_ => some k_ ≠ (.slice Ao47 t286.length co47 : Value).ownBlock ∧ some k_ ≠ (.slice Ao54 t298.length co54 : Value).ownBlock) (Kd.R_keptB ((Kd.R_apart' HO278.out (Kd.R_typed HO285.out) (by decide))) hkp (by first | exact fun k_ hk_ hs_ => Or.elim hs_ (fun e_ => (hk_.2) e_) (fun e_ => (hk_.1.1.2) e_) | grind)) (by first | exact fun k_ hk_ => ⟨hk_.1.1.1.2, hk_.1.1.2⟩ | grind)); have n3_ := Aside0.mk (Kd.R_mono (ok' := fun k_ => some k_ ≠ (.slice Ao38 t273.length co38 : Value).ownBlock ∧ some k_ ≠ (.slice Ao44 t283.length co44 : Value).ownBlock ∧ some k_ ≠ (.slice Ao49 t290.length co49 : Value).ownBlock ∧ some k_ ≠ (.slice Ao53 t295.length co53 : Value).ownBlock) (Kd.R_keptB ((Kd.R_apart' HO281.out (Kd.R_typed HO288.out) (by decide))) hkp (by first | exact fun k_ hk_ hs_ => Or.elim hs_ (fun e_ => (hk_.1.1.1.2) e_) (fun e_ => (hk_.2) e_) | grind)) (by first | exact fun k_ hk_ => ⟨hk_.1.1.1.1.1.2, hk_.1.1.1.1.2, hk_.1.1.1.2, hk_.1.1.2⟩ | grind)); have n4_ := Aside0.mk (Kd.R_reok rfl hy0 (fun k_ e_ => HO285.out.1 k_ e_)); have n5_ := Aside0.mk (Kd.R_reok rfl hy1 (fun k_ e_ => HO288.out.1 k_ e_)); have n6_ := Aside0.mk (blk_kept (by (with_reducible repeat (first | refine blk_drewN ?_ _ | refine blk_drew ?_ | refine blk_alloc ?_ _)); exact BK289.out) hkp (fun hs_ => Or.elim hs_ (fun e_ => (fun e_ => (Kd.R_ne HO285.out BK289.out (by decide)) e_) e_) (fun e_ => (fun e_ => (Kd.R_ne HO288.out BK289.out (by decide)) e_) e_))); have n7_ := Aside0.mk (Kd.R_mono (ok' := fun k_ => some k_ ≠ (.slice Ao38 t273.length co38 : Value).ownBlock ∧ some k_ ≠ (.slice Ao50 t279.length co50 : Value).ownBlock ∧ some k_ ≠ (.slice Ao44 t283.length co44 : Value).ownBlock ∧ some k_ ≠ (.slice Ao53 t295.length co53 : Value).ownBlock) (Kd.R_keptB ((Kd.R_apart' HO292.out (Kd.R_typed HO288.out) (by decide))) hkp (by first | exact fun k_ hk_ hs_ => Or.elim hs_ (fun e_ => (hk_.1.1.2) e_) (fun e_ => (hk_.2) e_) | grind)) (by first | exact fun k_ hk_ => ⟨hk_.1.1.1.1.1.2, hk_.1.1.1.1.2, hk_.1.1.1.2, hk_.1.1.2⟩ | grind)); have n8_ := Aside0.mk (Kd.R_mono (ok' := fun k_ => some k_ ≠ (.slice Ao38 t273.length co38 : Value).ownBlock ∧ some k_ ≠ (.slice Ao50 t279.length co50 : Value).ownBlock ∧ some k_ ≠ (.slice Ao44 t283.length co44 : Value).ownBlock ∧ some k_ ≠ (.slice Ao49 t290.length co49 : Value).ownBlock) (Kd.R_keptB ((Kd.R_apart' HO297.out (Kd.R_typed HO288.out) (by decide))) hkp (by first | exact fun k_ hk_ hs_ => Or.elim hs_ (fun e_ => (hk_.1.1.2) e_) (fun e_ => (hk_.2) e_) | grind)) (by first | exact fun k_ hk_ => ⟨hk_.1.1.1.1.1.2, hk_.1.1.1.1.2, hk_.1.1.1.2, hk_.1.1.2⟩ | grind)); have n9_ := Aside0.mk (Kd.R_mono (ok' := fun k_ => some k_ ≠ (.slice Ao39 t276.length co39 : Value).ownBlock ∧ some k_ ≠ (.slice Ao47 t286.length co47 : Value).ownBlock) (Kd.R_keptB ((Kd.R_apart' HO300.out (Kd.R_typed HO285.out) (by decide))) hkp (by first | exact fun k_ hk_ hs_ => Or.elim hs_ (fun e_ => (hk_.2) e_) (fun e_ => (hk_.1.2) e_) | grind)) (by first | exact fun k_ hk_ => ⟨hk_.1.1.1.2, hk_.1.1.2⟩ | grind)); have n10_ := Aside0.mk (hb); clear BK271; clear HO275; clear HO278; clear HO281; clear HO285; clear HO288; clear BK289; clear HO292; clear HO297; clear HO300; clear HB; have BK271 := n0_; have HO275 := n1_; have HO278 := n2_; have HO281 := n3_; have HO285 := n4_; have HO288 := n5_; have BK289 := n6_; have HO292 := n7_; have HO297 := n8_; have HO300 := n9_; have HB := n10_; clear n0_ n1_ n2_ n3_ n4_ n5_ n6_ n7_ n8_ n9_ n10_; (try clear hb); (try clear hkp); (try clear hy0); (try clear hy1)) | (go_at_call 18; (with_reducible refine (laws_eqIntS.calls k _ _ t290 _ _ t279 true _ ?side1 ?side2 ?side3 ?side4 A19.out).mono ?_); (case side1 => repeat (first | exact (Kd.R_reads' HO292.out).2.2 | (with_reducible refine Kd.C_alloc ?_ _) | (with_reducible refine Kd.C_drewN ?_ _) | (with_reducible refine Kd.C_drew ?_))); (case side2 => exact (Kd.R_reads' HO292.out).2.1); (case side3 => repeat (first | exact (Kd.R_reads' HO281.out).2.2 | (with_reducible refine Kd.C_alloc ?_ _) | (with_reducible refine Kd.C_drewN ?_ _) | (with_reducible refine Kd.C_drew ?_))); (case side4 => exact (Kd.R_reads' HO281.out).2.1); rintro e w' ⟨rfl, ⟨nd, rfl⟩⟩) | ((with_reducible refine gate_callee (f := 19) rfl ?_); refine goesL_ (some 64) rfl rfl Try.func19 (by kernel_rfl) rfl #[.slice Ao49 t290.length co49, .int .i64 1] rfl (by (try simp only [List.map_toArray, List.map_cons, List.map_nil]); first | done | rfl | (simp only [List.length_drop, List.length_take]; rfl)) ?_; (with_reducible refine (laws_markIntS.calls k (fun k_ => some k_ = (.slice Ao49 t290.length co49 : Value).ownBlock) (.slice Ao49 t290.length co49) t290 1 t306 t307 w _ ?side1 ?side2 A21.out).mono ?_); (case side1 => repeat (first | (with_reducible first | exact HB.out | apply below_alloc | apply pw_below_drewN | apply below_drew1 | refine below_set ?_ GE271.out | refine below_set ?_ GE289.out) | exact HB.out)); (case side2 => exact Kd.R_tight rfl HO292.out); rintro e w58 ⟨rfl, hy0, hb, hkp⟩; refine ⟨_, rfl, ?_⟩; have n0_ := Aside0.mk (blk_kept (by (with_reducible repeat (first | refine blk_drewN ?_ _ | refine blk_drew ?_ | refine blk_alloc ?_ _)); exact BK271.out) hkp (fun hs_ => (fun e_ => (Kd.R_ne HO292.out BK271.out (by decide)) e_) hs_)); have n1_ := Aside0.mk (Kd.R_mono (ok' := fun k_ => some k_ ≠ (.slice Ao50 t279.length co50 : Value).ownBlock ∧ some k_ ≠ (.slice Ao44 t283.length co44 : Value).ownBlock ∧ some k_ ≠ (.slice Ao49 t290.length co49 : Value).ownBlock ∧ some k_ ≠ (.slice Ao53 t295.length co53 : Value).ownBlock) (Kd.R_keptB (HO275.out) hkp (by first | exact fun k_ hk_ hs_ => (hk_.2.2.1) hs_ | grind)) (by first | exact fun k_ hk_ => ⟨hk_.1.1, hk_.1.2.1, hk_.1.2.2.1, hk_.1.2.2.2⟩ | grind)); have n2_ := Aside0.mk (Kd.R_mono (ok' := fun k_ => some k_ ≠ (.slice Ao47 t286.length co47 : Value).ownBlock ∧ some k_ ≠ (.slice Ao54 t298.length co54 : Value).ownBlock) (Kd.R_keptB ((Kd.R_apart' HO278.out (Kd.R_typed HO292.out) (by decide))) hkp (by first | exact fun k_ hk_ hs_ => (hk_.2) hs_ | grind)) (by first | exact fun k_ hk_ => ⟨hk_.1.1.1, hk_.1.1.2⟩ | grind)); have n3_ := Aside0.mk (Kd.R_mono (ok' := fun k_ => some k_ ≠ (.slice Ao38 t273.length co38 : Value).ownBlock ∧ some k_ ≠ (.slice Ao44 t283.length co44 : Value).ownBlock ∧ some k_ ≠ (.slice Ao49 t290.length co49 : Value).ownBlock ∧ some k_ ≠ (.slice Ao53 t295.length co53 : Value).ownBlock) (Kd.R_keptB (HO281.out) hkp (by first | exact fun k_ hk_ hs_ => (hk_.2.2.1) hs_ | grind)) (by first | exact fun k_ hk_ => ⟨hk_.1.1, hk_.1.2.1, hk_.1.2.2.1, hk_.1.2.2.2⟩ | grind)); have n4_ := Aside0.mk (Kd.R_mono (ok' := fun k_ => some k_ ≠ (.slice Ao38 t273.length co38 : Value).ownBlock ∧ some k_ ≠ (.slice Ao50 t279.length co50 : Value).ownBlock ∧ some k_ ≠ (.slice Ao49 t290.length co49 : Value).ownBlock ∧ some k_ ≠ (.slice Ao53 t295.length co53 : Value).ownBlock) (Kd.R_keptB (HO285.out) hkp (by first | exact fun k_ hk_ hs_ => (hk_.1.2) hs_ | grind)) (by first | exact fun k_ hk_ => ⟨hk_.1.1.1.1.2, hk_.1.1.1.2, hk_.1.1.2, hk_.1.2⟩ | grind)); have n5_ := Aside0.mk (Kd.R_mono (ok' := fun k_ => some k_ ≠ (.slice Ao39 t276.length co39 : Value).ownBlock ∧ some k_ ≠ (.slice Ao54 t298.length co54 : Value).ownBlock) (Kd.R_keptB ((Kd.R_apart' HO288.out (Kd.R_typed HO292.out) (by decide))) hkp (by first | exact fun k_ hk_ hs_ => (hk_.2) hs_ | grind)) (by first | exact fun k_ hk_ => ⟨hk_.1.1.1.2, hk_.1.1.2⟩ | grind)); have n6_ := Aside0.mk (blk_kept (by (with_reducible repeat (first | refine blk_drewN ?_ _ | refine blk_drew ?_ | refine blk_alloc ?_ _)); exact BK289.out) hkp (fun hs_ => (fun e_ => (Kd.R_ne HO292.out BK289.out (by decide)) e_) hs_)); have n7_ := Aside0.mk (Kd.R_reok rfl hy0 (fun k_ e_ => HO292.out.1 k_ e_)); have n8_ := Aside0.mk (Kd.R_mono (ok' := fun k_ => some k_ ≠ (.slice Ao38 t273.length co38 : Value).ownBlock ∧ some k_ ≠ (.slice Ao50 t279.length co50 : Value).ownBlock ∧ some k_ ≠ (.slice Ao44 t283.length co44 : Value).ownBlock ∧ some k_ ≠ (.slice Ao49 t290.length co49 : Value).ownBlock) (Kd.R_keptB (HO297.out) hkp (by first | exact fun k_ hk_ hs_ => (hk_.2.2.2) hs_ | grind)) (by first | exact fun k_ hk_ => ⟨hk_.1.1, hk_.1.2.1, hk_.1.2.2.1, hk_.1.2.2.2⟩ | grind)); have n9_ := Aside0.mk (Kd.R_mono (ok' := fun k_ => some k_ ≠ (.slice Ao39 t276.length co39 : Value).ownBlock ∧ some k_ ≠ (.slice Ao47 t286.length co47 : Value).ownBlock) (Kd.R_keptB ((Kd.R_apart' HO300.out (Kd.R_typed HO292.out) (by decide))) hkp (by first | exact fun k_ hk_ hs_ => (hk_.2) hs_ | grind)) (by first | exact fun k_ hk_ => ⟨hk_.1.1.1, hk_.1.1.2⟩ | grind)); have n10_ := Aside0.mk (hb); clear BK271; clear HO275; clear HO278; clear HO281; clear HO285; clear HO288; clear BK289; clear HO292; clear HO297; clear HO300; clear HB; have BK271 := n0_; have HO275 := n1_; have HO278 := n2_; have HO281 := n3_; have HO285 := n4_; have HO288 := n5_; have BK289 := n6_; have HO292 := n7_; have HO297 := n8_; have HO300 := n9_; have HB := n10_; clear n0_ n1_ n2_ n3_ n4_ n5_ n6_ n7_ n8_ n9_ n10_; (try clear hb); (try clear hkp); (try clear hy0)) | ((with_reducible refine gate_callee (f := 20) rfl ?_); refine goesL_ (some 67) rfl rfl Try.func20 (by kernel_rfl) rfl #[.slice Ao49 t307.length co49, .int .i64 1] rfl (by (try simp only [List.map_toArray, List.map_cons, List.map_nil]); first | done | (rw [show t307.length = t290.length from (Kd.R_reads' HO292.out).1.symm] <;> rfl) | rfl | (simp only [List.length_drop, List.length_take]; rfl)) ?_; (with_reducible refine (laws_heldIntS.calls k _ _ t307 1 t308 _ ?side1 ?side2 A22.out).mono ?_); (case side1 => repeat (first | exact (Kd.R_reads' HO292.out).2.2 | (with_reducible refine Kd.C_alloc ?_ _) | (with_reducible refine Kd.C_drewN ?_ _) | (with_reducible refine Kd.C_drew ?_))); (case side2 => rw [show t307.length = t290.length from (Kd.R_reads' HO292.out).1.symm]; exact (Kd.R_reads' HO292.out).2.1); rintro e w' ⟨rfl, ⟨nd, rfl⟩⟩; refine ⟨_, rfl, ?_⟩; have hcz59_0 : w58.cell? ⟨gb271, 0, none⟩ = some (.slice A0_0 l0_0.length c0_0) := (blk_cell BK271.out 0).trans rfl; have hcz59_1 : w58.cell? ⟨gb271, 1, none⟩ = some (.slice A0_1 l0_1.length c0_1) := (blk_cell BK271.out 1).trans rfl; have hfz59_0 := blk_frozen BK271.out 0; have hfz59_1 := blk_frozen BK271.out 1) | ((with_reducible refine gate_callee (f := 8) rfl ?_); refine goesL_ (some 75) rfl rfl Try.func8 (by kernel_rfl) rfl #[.agg #[.slice A0_0 l0_0.length c0_0, .slice A0_1 l0_1.length c0_1]] rfl (by (try simp only [List.map_toArray, List.map_cons, List.map_nil]); first | done | rfl | (simp only [List.length_drop, List.length_take]; rfl)) ?_; (with_reducible refine (laws_toBolts.calls k _ _ l0_0 _ _ l0_1 t309 t312 _ ?side1 ?side2 ?side3 ?side4 A25.out).mono ?_); (case side1 => repeat (first | exact (Kd.C_below HR0_0.out (by repeat (first | (with_reducible first | exact HB.out | apply below_alloc | apply pw_below_drewN | apply below_drew1 | refine below_set ?_ GE271.out | refine below_set ?_ GE289.out) | exact HB.out))) | (with_reducible refine Kd.C_alloc ?_ _) | (with_reducible refine Kd.C_drewN ?_ _) | (with_reducible refine Kd.C_drew ?_))); (case side2 => exact HC0_0.out); (case side3 => repeat (first | exact (Kd.C_below HR0_1.out (by repeat (first | (with_reducible first | exact HB.out | apply below_alloc | apply pw_below_drewN | apply below_drew1 | refine below_set ?_ GE271.out | refine below_set ?_ GE289.out) | exact HB.out))) | (with_reducible refine Kd.C_alloc ?_ _) | (with_reducible refine Kd.C_drewN ?_ _) | (with_reducible refine Kd.C_drew ?_))); (case side4 => exact HC0_1.out); rintro e w60 ⟨v310, v313, rfl, ho0, ho1, hb⟩; refine ⟨_, rfl, ?_⟩; have n0_ := Aside0.mk (Kd.R_elder' (by (with_reducible repeat (first | apply Kd.R_alloc | apply Kd.R_drewN | apply Kd.R_drew)); exact HO275.out) (Kd.R_base ho0) hb); have n1_ := Aside0.mk (Kd.R_elder' (by (with_reducible repeat (first | apply Kd.R_alloc | apply Kd.R_drewN | apply Kd.R_drew)); exact HO278.out) (Kd.R_base ho1) hb); have n2_ := Aside0.mk (Kd.R_elder' (by (with_reducible repeat (first | apply Kd.R_alloc | apply Kd.R_drewN | apply Kd.R_drew)); exact HO281.out) (Kd.R_base ho0) hb); have n3_ := Aside0.mk (Kd.R_elder' (by (with_reducible repeat (first | apply Kd.R_alloc | apply Kd.R_drewN | apply Kd.R_drew)); exact HO285.out) (Kd.R_base ho0) hb); have n4_ := Aside0.mk (Kd.R_elder' (by (with_reducible repeat (first | apply Kd.R_alloc | apply Kd.R_drewN | apply Kd.R_drew)); exact HO288.out) (Kd.R_base ho1) hb); have n5_ := Aside0.mk (Kd.R_elder' (by (with_reducible repeat (first | apply Kd.R_alloc | apply Kd.R_drewN | apply Kd.R_drew)); exact HO292.out) (Kd.R_base ho0) hb); have n6_ := Aside0.mk (Kd.R_elder' (by (with_reducible repeat (first | apply Kd.R_alloc | apply Kd.R_drewN | apply Kd.R_drew)); exact HO297.out) (Kd.R_base ho0) hb); have n7_ := Aside0.mk (Kd.R_elder' (by (with_reducible repeat (first | apply Kd.R_alloc | apply Kd.R_drewN | apply Kd.R_drew)); exact HO300.out) (Kd.R_base ho1) hb); have n8_ := Aside0.mk (Kd.R_lower (Kd.R_new' (Kd.R_new' (Kd.R_new' (Kd.R_new' (Kd.R_new' ho0 (Kd.R_lt (by (with_reducible repeat (first | apply Kd.R_alloc | apply Kd.R_drewN | apply Kd.R_drew)); exact HO275.out))) (Kd.R_lt (by (with_reducible repeat (first | apply Kd.R_alloc | apply Kd.R_drewN | apply Kd.R_drew)); exact HO281.out))) (Kd.R_lt (by (with_reducible repeat (first | apply Kd.R_alloc | apply Kd.R_drewN | apply Kd.R_drew)); exact HO285.out))) (Kd.R_lt (by (with_reducible repeat (first | apply Kd.R_alloc | apply Kd.R_drewN | apply Kd.R_drew)); exact HO292.out))) (Kd.R_lt (by (with_reducible repeat (first | apply Kd.R_alloc | apply Kd.R_drewN | apply Kd.R_drew)); exact HO297.out))) (below_size (by repeat (first | (with_reducible first | exact HB.out | apply below_alloc | apply pw_below_drewN | apply below_drew1 | refine below_set ?_ GE271.out | refine below_set ?_ GE289.out) | exact HB.out)))); have n9_ := Aside0.mk (Kd.R_lower (Kd.R_new' (Kd.R_new' (Kd.R_new' ho1 (Kd.R_lt (by (with_reducible repeat (first | apply Kd.R_alloc | apply Kd.R_drewN | apply Kd.R_drew)); exact HO278.out))) (Kd.R_lt (by (with_reducible repeat (first | apply Kd.R_alloc | apply Kd.R_drewN | apply Kd.R_drew)); exact HO288.out))) (Kd.R_lt (by (with_reducible repeat (first | apply Kd.R_alloc | apply Kd.R_drewN | apply Kd.R_drew)); exact HO300.out))) (below_size (by repeat (first | (with_reducible first | exact HB.out | apply below_alloc | apply pw_below_drewN | apply below_drew1 | refine below_set ?_ GE271.out | refine below_set ?_ GE289.out) | exact HB.out)))); have n10_ := Aside0.mk (blk_below (g := gb271) (o := .cells #[.slice A0_0 l0_0.length c0_0, .slice A0_1 l0_1.length c0_1] 25 (0, 0)) (by (with_reducible repeat (first | refine blk_drewN ?_ _ | refine blk_drew ?_ | refine blk_alloc ?_ _)); exact BK271.out) hb); have n11_ := Aside0.mk (blk_below (g := gb289) (o := .cells #[.slice Ao44 t283.length co44, .slice Ao47 t286.length co47] 31 (0, 0)) (by (with_reducible repeat (first | refine blk_drewN ?_ _ | refine blk_drew ?_ | refine blk_alloc ?_ _)); exact BK289.out) hb); have n12_ := Aside0.mk (below_step (by repeat (first | (with_reducible first | exact HB.out | apply below_alloc | apply pw_below_drewN | apply below_drew1 | refine below_set ?_ GE271.out | refine below_set ?_ GE289.out) | exact HB.out)) hb); clear HO275; clear HO278; clear HO281; clear HO285; clear HO288; clear HO292; clear HO297; clear HO300; clear BK271; clear BK289; clear HB; have HO275 := n0_; have HO278 := n1_; have HO281 := n2_; have HO285 := n3_; have HO288 := n4_; have HO292 := n5_; have HO297 := n6_; have HO300 := n7_; have HO311 := n8_; have HO314 := n9_; have BK271 := n10_; have BK289 := n11_; have HB := n12_; clear n0_ n1_ n2_ n3_ n4_ n5_ n6_ n7_ n8_ n9_ n10_ n11_ n12_; (try clear hb); (try clear hb2); (try clear hk); (try clear hi); (try clear ho0); (try clear ho1); obtain ⟨Ao61, co61, eo61⟩ := Kd.R_slice HO311.out; subst eo61; obtain ⟨Ao62, co62, eo62⟩ := Kd.R_slice HO314.out; subst eo62) | ((with_reducible refine gate_callee (f := 17) rfl ?_); refine goesL_ (some 76) rfl rfl Try.func17 (by kernel_rfl) rfl #[.agg #[.slice Ao61 t309.length co61, .slice Ao62 t312.length co62]] rfl (by (try simp only [List.map_toArray, List.map_cons, List.map_nil]); first | done | rfl | (simp only [List.length_drop, List.length_take]; rfl)) ?_; (with_reducible refine (impl_NeedlessBlocks.calls k _ _ t309 _ _ t312 t315 t318 _ ?side1 ?side2 ?side3 ?side4 A26.out).mono ?_); (case side1 => repeat (first | exact (Kd.R_reads' HO311.out).2.2 | (with_reducible refine Kd.C_alloc ?_ _) | (with_reducible refine Kd.C_drewN ?_ _) | (with_reducible refine Kd.C_drew ?_))); (case side2 => exact (Kd.R_reads' HO311.out).2.1); (case side3 => repeat (first | exact (Kd.R_reads' HO314.out).2.2 | (with_reducible refine Kd.C_alloc ?_ _) | (with_reducible refine Kd.C_drewN ?_ _) | (with_reducible refine Kd.C_drew ?_))); (case side4 => exact (Kd.R_reads' HO314.out).2.1); rintro e w63 ⟨v316, rfl, ho0, hb⟩; refine ⟨_, rfl, ?_⟩; have n0_ := Aside0.mk (Kd.R_elder' (by (with_reducible repeat (first | apply Kd.R_alloc | apply Kd.R_drewN | apply Kd.R_drew)); exact HO275.out) (Kd.R_base ho0) hb); have n1_ := Aside0.mk (Kd.R_below (by (with_reducible repeat (first | apply Kd.R_alloc | apply Kd.R_drewN | apply Kd.R_drew)); exact HO278.out) hb); have n2_ := Aside0.mk (Kd.R_elder' (by (with_reducible repeat (first | apply Kd.R_alloc | apply Kd.R_drewN | apply Kd.R_drew)); exact HO281.out) (Kd.R_base ho0) hb); have n3_ := Aside0.mk (Kd.R_elder' (by (with_reducible repeat (first | apply Kd.R_alloc | apply Kd.R_drewN | apply Kd.R_drew)); exact HO285.out) (Kd.R_base ho0) hb); have n4_ := Aside0.mk (Kd.R_below (by (with_reducible repeat (first | apply Kd.R_alloc | apply Kd.R_drewN | apply Kd.R_drew)); exact HO288.out) hb); have n5_ := Aside0.mk (Kd.R_elder' (by (with_reducible repeat (first | apply Kd.R_alloc | apply Kd.R_drewN | apply Kd.R_drew)); exact HO292.out) (Kd.R_base ho0) hb); have n6_ := Aside0.mk (Kd.R_elder' (by (with_reducible repeat (first | apply Kd.R_alloc | apply Kd.R_drewN | apply Kd.R_drew)); exact HO297.out) (Kd.R_base ho0) hb); have n7_ := Aside0.mk (Kd.R_below (by (with_reducible repeat (first | apply Kd.R_alloc | apply Kd.R_drewN | apply Kd.R_drew)); exact HO300.out) hb); have n8_ := Aside0.mk (Kd.R_elder' (by (with_reducible repeat (first | apply Kd.R_alloc | apply Kd.R_drewN | apply Kd.R_drew)); exact HO311.out) (Kd.R_base ho0) hb); have n9_ := Aside0.mk (Kd.R_below (by (with_reducible repeat (first | apply Kd.R_alloc | apply Kd.R_drewN | apply Kd.R_drew)); exact HO314.out) hb); have n10_ := Aside0.mk (Kd.R_lower (Kd.R_new' (Kd.R_new' (Kd.R_new' (Kd.R_new' (Kd.R_new' (Kd.R_new' ho0 (Kd.R_lt (by (with_reducible repeat (first | apply Kd.R_alloc | apply Kd.R_drewN | apply Kd.R_drew)); exact HO275.out))) (Kd.R_lt (by (with_reducible repeat (first | apply Kd.R_alloc | apply Kd.R_drewN | apply Kd.R_drew)); exact HO281.out))) (Kd.R_lt (by (with_reducible repeat (first | apply Kd.R_alloc | apply Kd.R_drewN | apply Kd.R_drew)); exact HO285.out))) (Kd.R_lt (by (with_reducible repeat (first | apply Kd.R_alloc | apply Kd.R_drewN | apply Kd.R_drew)); exact HO292.out))) (Kd.R_lt (by (with_reducible repeat (first | apply Kd.R_alloc | apply Kd.R_drewN | apply Kd.R_drew)); exact HO297.out))) (Kd.R_lt (by (with_reducible repeat (first | apply Kd.R_alloc | apply Kd.R_drewN | apply Kd.R_drew)); exact HO311.out))) (below_size (by repeat (first | (with_reducible first | exact HB.out | apply below_alloc | apply pw_below_drewN | apply below_drew1 | refine below_set ?_ GE271.out | refine below_set ?_ GE289.out) | exact HB.out)))); have n11_ := Aside0.mk (blk_below (g := gb271) (o := .cells #[.slice A0_0 l0_0.length c0_0, .slice A0_1 l0_1.length c0_1] 25 (0, 0)) (by (with_reducible repeat (first | refine blk_drewN ?_ _ | refine blk_drew ?_ | refine blk_alloc ?_ _)); exact BK271.out) hb); have n12_ := Aside0.mk (blk_below (g := gb289) (o := .cells #[.slice Ao44 t283.length co44, .slice Ao47 t286.length co47] 31 (0, 0)) (by (with_reducible repeat (first | refine blk_drewN ?_ _ | refine blk_drew ?_ | refine blk_alloc ?_ _)); exact BK289.out) hb); have n13_ := Aside0.mk (below_step (by repeat (first | (with_reducible first | exact HB.out | apply below_alloc | apply pw_below_drewN | apply below_drew1 | refine below_set ?_ GE271.out | refine below_set ?_ GE289.out) | exact HB.out)) hb); clear HO275; clear HO278; clear HO281; clear HO285; clear HO288; clear HO292; clear HO297; clear HO300; clear HO311; clear HO314; clear BK271; clear BK289; clear HB; have HO275 := n0_; have HO278 := n1_; have HO281 := n2_; have HO285 := n3_; have HO288 := n4_; have HO292 := n5_; have HO297 := n6_; have HO300 := n7_; have HO311 := n8_; have HO314 := n9_; have HO317 := n10_; have BK271 := n11_; have BK289 := n12_; have HB := n13_; clear n0_ n1_ n2_ n3_ n4_ n5_ n6_ n7_ n8_ n9_ n10_ n11_ n12_ n13_; (try clear hb); (try clear hb2); (try clear hk); (try clear hi); (try clear ho0); obtain ⟨Ao64, co64, eo64⟩ := Kd.R_slice HO317.out; subst eo64) | ((with_reducible refine gate_callee (f := 18) rfl ?_); refine goesL_ (some 81) rfl rfl Try.func18 (by kernel_rfl) rfl #[.slice Ao64 t315.length co64, .slice Ao50 t279.length co50] rfl (by (try simp only [List.map_toArray, List.map_cons, List.map_nil]); first | done | rfl | (simp only [List.length_drop, List.length_take]; rfl)) ?_; (with_reducible refine (laws_eqIntS.calls k _ _ t315 _ _ t279 true _ ?side1 ?side2 ?side3 ?side4 A27.out).mono ?_); (case side1 => repeat (first | exact (Kd.R_reads' HO317.out).2.2 | (with_reducible refine Kd.C_alloc ?_ _) | (with_reducible refine Kd.C_drewN ?_ _) | (with_reducible refine Kd.C_drew ?_))); (case side2 => exact (Kd.R_reads' HO317.out).2.1); (case side3 => repeat (first | exact (Kd.R_reads' HO281.out).2.2 | (with_reducible refine Kd.C_alloc ?_ _) | (with_reducible refine Kd.C_drewN ?_ _) | (with_reducible refine Kd.C_drew ?_))); (case side4 => exact (Kd.R_reads' HO281.out).2.1); rintro e w' ⟨rfl, ⟨nd, rfl⟩⟩; refine ⟨_, rfl, ?_⟩) | ((with_reducible refine gate_callee (f := 20) rfl ?_); refine goesL_ (some 90) rfl rfl Try.func20 (by kernel_rfl) rfl #[.slice Ao49 t307.length co49, .int .i64 1] rfl (by (try simp only [List.map_toArray, List.map_cons, List.map_nil]); first | done | (rw [show t307.length = t290.length from (Kd.R_reads' HO292.out).1.symm] <;> rfl) | rfl | (simp only [List.length_drop, List.length_take]; rfl)) ?_; (with_reducible refine (laws_heldIntS.calls k _ _ t307 1 t320 _ ?side1 ?side2 A30.out).mono ?_); (case side1 => repeat (first | exact (Kd.R_reads' HO292.out).2.2 | (with_reducible refine Kd.C_alloc ?_ _) | (with_reducible refine Kd.C_drewN ?_ _) | (with_reducible refine Kd.C_drew ?_))); (case side2 => rw [show t307.length = t290.length from (Kd.R_reads' HO292.out).1.symm]; exact (Kd.R_reads' HO292.out).2.1); rintro e w' ⟨rfl, ⟨nd, rfl⟩⟩; refine ⟨_, rfl, ?_⟩))
             go_ret
             exact ⟨by first | rfl | (simp [errW_none, errW_some] <;> rfl) | (simp [*, errW_none, errW_some] <;> rfl), by repeat (first | (with_reducible first | exact HB.out | apply below_alloc | apply pw_below_drewN | apply below_drew1 | refine below_set ?_ GE271.out | refine below_set ?_ GE289.out) | exact HB.out)⟩
            ·rw [if_neg c32] at H
             exact absurd H (by simp)
         ·replace c28 := Bool.eq_false_iff.mpr c28
          subst c28
          have H1 : (none) = some r := by rw [if_neg (show ¬ (false = true) by decide)] at H; exact H
          clear H
          have H := H1
          clear H1
          exact absurd H (by simp)
        ·rw [if_neg c24] at H
         exact absurd H (by simp)
      ·replace c20 := Bool.eq_false_iff.mpr c20
       subst c20
       have H1 : (none) = some r := by rw [if_neg (show ¬ (false = true) by decide)] at H; exact H
       clear H
       have H := H1
       clear H1
       exact absurd H (by simp)
    ·replace c16 := Bool.eq_false_iff.mpr c16
     subst c16
     have H1 : (none) = some r := by rw [if_neg (show ¬ (false = true) by decide)] at H; exact H
     clear H
     have H := H1
     clear H1
     exact absurd H (by simp)
  ·replace c12 := Bool.eq_false_iff.mpr c12
   subst c12
   have H1 : (none) = some r := by rw [if_neg (show ¬ (false = true) by decide)] at H; exact H
   clear H
   have H := H1
   clear H1
   exact absurd H (by simp)

end Go.Proofs.Ytpjdlobkeafacaa.PNeedlessBlocks
