-- PRINTED by drive.py (a program of this session's, over the kit's print.py; wip/tools/drive.py). Lean checks it.
import Derived.Test.YtpjdlobkeafacaaPNeedlessBlocksx0
import Derived.Test.YtpjdlobkeafacaaPNeedlessBlocksx5
namespace Go.Proofs.Ytpjdlobkeafacaa.PNeedlessBlocks
open Go.RowKit Go.Proofs.YtpjdlobkeafacaaW.PrintWords Go.Proofs.YtpjdlobkeafacaaW.PrintLast Go.Proofs.YtpjdlobkeafacaaW.PrintMore
attribute [local go_sem] max2_int min2_int max_two min_two max_three min_three max_four min_four   -- for this text's walks alone
set_option linter.unusedVariables false
set_option linter.unusedSimpArgs false

/-! ### impl_Block_50: function 50 -/
-- by hand (wip/ext/gen_Block_del.tpl)
theorem impl_Block_50.info : (Try.prog.info? 35).map (·.size) = some k35.sz := by kernel_rfl
set_option maxHeartbeats 1000000 in
set_option maxRecDepth 100000 in
theorem impl_Block_50.one (g n c k : Nat) (l : List S35) (P0 : Nat → Prop) (w0 w : World) (hB : Below w0.heap.size w0 w) (ho : Kd.R k35 35 w w0.heap.size P0 (.slice (some ⟨g, 0, none⟩) n c) l) (hk : k < n) :
    Calls Try.prog 50 #[.slice (some ⟨g, 0, none⟩) n c, .int .i64 k, .int .i64 (k + 1)] w fun e w' => e = .returned (.slice (some ⟨g, 0, none⟩) (n - 1) c) ∧ Kd.R k35 35 w' w0.heap.size P0 (.slice (some ⟨g, 0, none⟩) (n - 1) c) (l.eraseIdx k) ∧ Below w0.heap.size w0 w' ∧ w.grownBy w' (some g) := by
  obtain ⟨hn, hnc, _⟩ := Kd.R_reads' ho
  obtain ⟨m, rfl⟩ : ∃ m, n = m + 1 := ⟨n - 1, by omega⟩
  have hcm : c ≤ 9223372036854775807 := by
    obtain ⟨hok, inner, hown, hr⟩ := ho
    rcases hown.2 with ⟨hv, _⟩ | ⟨g', cap', cur, hv, hb, hh, h1, hcm, _⟩
    · cases hv
    · injection hv with _ _ hc'
      rw [hc']; simpa [maxLen] using hcm
  have hkc : k ≤ c := by omega
  have hkc1 : k + 1 ≤ c := by omega
  have hkn1 : k + 1 ≤ m + 1 := hk
  have hi0 : (0 : Int) ≤ (k : Int) + 1 := by omega
  have hi1 : (k : Int) + 1 ≤ (m : Int) + 1 := by omega
  have hne : ¬ c = m := by omega
  have hmc : m ≤ c := by omega
  have hmc1 : m + 1 ≤ c := by omega
  obtain ⟨A, hA⟩ : ∃ A, (if c = k + 1 then (some ⟨g, 0, none⟩ : Option Addr) else some ⟨g, (k + 1) * 4, none⟩) = A := ⟨_, rfl⟩
  have HA := Aside0.mk (hA.symm.trans (show (if c = k + 1 then (some ⟨g, 0, none⟩ : Option Addr) else some ⟨g, (k + 1) * 4, none⟩) = if c = k + 1 then some ⟨g, 0, none⟩ else (some (⟨g, 0, none⟩ : Addr)).map (·.add ((k + 1) * k35.sz)) from by simp [Addr.add]; rfl))
  have hgb := Kd.R_base ho g (by simp [Value.ownBlock])
  have HO := Aside0.mk ho
  have HB := Aside0.mk hB
  have HS := Aside0.mk hB.size
  clear ho hB hn
  go_enter Try.func50, Try.ntmps50
  go_wp2_with fail
  go_region_law (refine Kd.R_delete_step k35 (w0 := w0) w0.heap.size rfl (.tmp 22) (.tmp 25) 29 35 rfl Try.underlying29 impl_Block_50.info (g := g) (n := m + 1) (c := c) (k := k) (m := m + 1 - (k + 1)) (c2 := c - (k + 1)) (A := A) (xs := l) (ok := P0) (by simp [Act.eval, Act.put]) (by simp [Act.eval, Act.put]) HA.out rfl (Kd.R_drew HO.out) hk (below_drew1 HB.out) (by exact HS.out) ?_; intro w1 ho hb hg)
  simp only [Nat.add_sub_cancel] at ho ⊢
  obtain ⟨w2, hcl, ho2, hg2⟩ := own_clear k35 w0.heap.size 29 35 (.agg #[.int .i64 0, .int .i64 0, .int .i64 0, .int .i64 0]) Try.underlying29 (fun _ => by rfl) (by kernel_rfl) (by decide +kernel) ho (by omega)
  have hcl' : ∀ ty c1, (Builtin.clear_ #[29] ty #[.slice (some ⟨g, m * 4, none⟩) 1 c1]).run Try.prog w1 = .ok (.tuple #[]) w2 := hcl
  have hg3 := World.grownBy.trans hg hg2
  have HG := Aside0.mk (show w.grownBy w2 (some g) from ⟨hg3.os, hg3.tape, hg3.output, hg3.size, hg3.block⟩)
  have HO2 := Aside0.mk ho2
  clear ho ho2 hg hg2 hb hcl hg3
  go_wp2
  go_ret
  exact ⟨rfl, HO2.out, HB.out.grown HG.out HS.out (fun k' hk' => by cases hk'; exact hgb), HG.out⟩
def impl_Block_50.f (l0 : List S35) (a1 a2 : Int) : Option (List S35) := if 0 ≤ a1 ∧ a2 = a1 + 1 ∧ a1 < l0.length then some (l0.eraseIdx a1.toNat) else none
theorem impl_Block_50.calls (P0_ : Nat → Prop) (u9000_ : Value) (l0 : List S35) (a1 a2 : Int) (r : List S35) (w0 w : World) (hB : Below w0.heap.size w0 w) (ho0 : Kd.R k35 35 w w0.heap.size P0_ u9000_ l0) (h : impl_Block_50.f l0 a1 a2 = some r) :
    Calls Try.prog 50 #[u9000_, .int .i64 a1, .int .i64 a2] w fun e w' => ∃ v0_ : Value, e = .returned (v0_) ∧ Kd.R k35 35 w' w0.heap.size (fun k_ => (P0_ k_ ∨ w.heap.size ≤ k_)) v0_ r ∧ Below w0.heap.size w0 w' ∧ Kept w w' (fun k_ => P0_ k_) := by
  unfold impl_Block_50.f at h
  split at h
  · rename_i hc
    obtain ⟨h0, rfl, h1⟩ := hc
    obtain rfl := Option.some.inj h
    obtain ⟨g, c, rfl, _⟩ := Kd.R_form ho0 (by omega)
    obtain ⟨k, rfl⟩ : ∃ k : Nat, a1 = k := ⟨a1.toNat, by omega⟩
    refine (impl_Block_50.one g l0.length c k l0 P0_ w0 w hB ho0 (by omega)).mono ?_
    rintro e w' ⟨rfl, hr, hb, hg⟩
    have hP := ho0.1 g (by simp [Value.ownBlock])
    exact ⟨_, rfl, Kd.R_mono (by simpa using hr) (fun _ hk => .inl hk), hb, Kept.of_grown hg (Kept.refl _ _) (fun k' hk' => by cases hk'; exact .inl hP)⟩
  · cases h

/-! ### impl_Bolts_without: function 36 -/
def impl_Bolts_without.f (l0_0 : List Int) (l0_1 : List (S35)) (a1 : Int) : Option (List Int × (List (S35))) := (impl_Bolts_own.f l0_0 l0_1).bind fun bt228 => ((impl_Block_50.f bt228.2 a1 (wrap64 (a1 + 1))).bind fun t235 => (some (bt228.1, t235)))
set_option maxHeartbeats 8000000 in
set_option maxRecDepth 100000 in
theorem impl_Bolts_without.calls (A0_0 : Option Addr) (c0_0 : Nat) (l0_0 : List Int) (A0_1 : Option Addr) (c0_1 : Nat) (l0_1 : List (S35)) (a1 : Int) (r1 : List Int) (r2 : List (S35)) (w : World) (hr0_0 : Kd.C (Kd.int .i64) w A0_0 l0_0.length l0_0) (hc0_0 : l0_0.length ≤ c0_0) (hr0_1 : Kd.C k35 w A0_1 l0_1.length l0_1) (hc0_1 : l0_1.length ≤ c0_1) (h : impl_Bolts_without.f l0_0 l0_1 a1 = some (r1, r2)) :
  Calls Try.prog 36 #[.agg #[.slice A0_0 l0_0.length c0_0, .slice A0_1 l0_1.length c0_1], .int .i64 a1] w fun e w' => ∃ v0_ v1_ : Value, e = .returned (.agg #[v0_, v1_]) ∧ Kd.R (Kd.int .i64) 3 w' w.heap.size (fun _ => True) v0_ r1 ∧ Kd.R k35 35 w' w.heap.size (fun _ => True) v1_ r2 ∧ Below w.heap.size w w' := by
 have hu31 := Try.underlying31
 have HR0_0 := Aside0.mk hr0_0
 have HC0_0 := Aside0.mk hc0_0
 clear hr0_0 hc0_0
 have HR0_1 := Aside0.mk hr0_1
 have HC0_1 := Aside0.mk hc0_1
 clear hr0_1 hc0_1
 have HB := Aside0.mk (Below.refl w.heap.size w)
 have H : ((impl_Bolts_own.f l0_0 l0_1).bind fun bt228 => ((impl_Block_50.f bt228.2 a1 (wrap64 (a1 + 1))).bind fun t235 => (some (bt228.1, t235)))) = some (r1, r2) := h
 clear h
 replace H := Option.bind_eq_some_iff.mp H
 obtain ⟨⟨t228, t231⟩, A30, H⟩ := H
 replace H : ((impl_Block_50.f t231 a1 (wrap64 (a1 + 1))).bind fun t235 => (some (t228, t235))) = some (r1, r2) := H
 have A3 := Aside0.mk A30
 clear A30
 replace H := Option.bind_eq_some_iff.mp H
 obtain ⟨t235, A40, H⟩ := H
 replace H : (some (t228, t235)) = some (r1, r2) := H
 have A4 := Aside0.mk A40
 clear A40
 simp only [Option.some.injEq, Prod.mk.injEq] at H
 obtain ⟨rfl, rfl⟩ := H
 go_enter Try.func36, Try.ntmps36
 go_wp2_with (first | ((with_reducible refine gate_dst (N := 2) rfl ?_); refine box_event ?hg (N := 2) ?hd (cs := #[.slice A0_0 l0_0.length c0_0, .slice A0_1 l0_1.length c0_1]) (t := 31) ?hr ?_; (case hd => rfl); (case hg => rfl); (case hr => first | (go_simp; done) | (go_simp; rfl)); intro gb226 hg w5 hbox hb; have n0_ := Aside0.mk (below_step (by repeat (first | (with_reducible first | exact HB.out | apply below_alloc | apply pw_below_drewN | apply below_drew1) | exact HB.out)) hb); have n1_ := Aside0.mk (hbox); have n2_ := Aside0.mk ((by rw [hg]; exact (below_size (by repeat (first | (with_reducible first | exact HB.out | apply below_alloc | apply pw_below_drewN | apply below_drew1) | exact HB.out))) : w.heap.size ≤ gb226)); have n3_ := Aside0.mk ((by rw [hg]; exact (below_size (by repeat (first | (with_reducible first | exact HB.out | apply below_alloc | apply pw_below_drewN | apply below_drew1) | exact HB.out))) : w.heap.size ≤ gb226)); clear HB; have HB := n0_; have BK226 := n1_; have GW226 := n2_; have GE226 := n3_; clear n0_ n1_ n2_ n3_; clear hb hbox hg) | ((with_reducible refine gate_dst (N := 4) rfl ?_); refine box_event ?hg (N := 4) ?hd (cs := #[.slice none 0 0, .slice none 0 0]) (t := 31) ?hr ?_; (case hd => rfl); (case hg => rfl); (case hr => first | (go_simp; done) | (go_simp; rfl)); intro gb227 hg w6 hbox hb; have n0_ := Aside0.mk (blk_below (g := gb226) (o := .cells #[.slice A0_0 l0_0.length c0_0, .slice A0_1 l0_1.length c0_1] 31 (0, 0)) (by (with_reducible repeat (first | refine blk_drewN ?_ _ | refine blk_drew ?_ | refine blk_alloc ?_ _)); exact BK226.out) hb); have n1_ := Aside0.mk (below_step (by repeat (first | (with_reducible first | exact HB.out | apply below_alloc | apply pw_below_drewN | apply below_drew1 | refine below_set ?_ GE226.out) | exact HB.out)) hb); have n2_ := Aside0.mk (hbox); have n3_ := Aside0.mk ((by rw [hg]; exact (below_size (by repeat (first | (with_reducible first | exact HB.out | apply below_alloc | apply pw_below_drewN | apply below_drew1 | refine below_set ?_ GE226.out) | exact HB.out))) : w.heap.size ≤ gb227)); have n4_ := Aside0.mk ((by rw [hg]; exact (below_size (by repeat (first | (with_reducible first | exact HB.out | apply below_alloc | apply pw_below_drewN | apply below_drew1 | refine below_set ?_ GE226.out) | exact HB.out))) : w.heap.size ≤ gb227)); have n5_ := Aside0.mk ((by rw [hg]; exact Nat.ne_of_lt (blk_lt (g := gb226) (o := .cells #[.slice A0_0 l0_0.length c0_0, .slice A0_1 l0_1.length c0_1] 31 (0, 0)) (by (with_reducible repeat (first | refine blk_drewN ?_ _ | refine blk_drew ?_ | refine blk_alloc ?_ _)); exact BK226.out)) : gb226 ≠ gb227)); have n6_ := Aside0.mk ((by rw [hg]; exact Nat.ne_of_gt (blk_lt (g := gb226) (o := .cells #[.slice A0_0 l0_0.length c0_0, .slice A0_1 l0_1.length c0_1] 31 (0, 0)) (by (with_reducible repeat (first | refine blk_drewN ?_ _ | refine blk_drew ?_ | refine blk_alloc ?_ _)); exact BK226.out)) : gb227 ≠ gb226)); clear BK226; clear HB; have BK226 := n0_; have HB := n1_; have BK227 := n2_; have GW227 := n3_; have GE227 := n4_; have NB226_227 := n5_; have NB227_226 := n6_; clear n0_ n1_ n2_ n3_ n4_ n5_ n6_; clear hb hbox hg; have hnb7 := NB226_227.out; have hnc7 := NB227_226.out; have hcz8_0 : w6.cell? ⟨gb226, 0, none⟩ = some (.slice A0_0 l0_0.length c0_0) := (blk_cell BK226.out 0).trans rfl; have hcz8_1 : w6.cell? ⟨gb226, 1, none⟩ = some (.slice A0_1 l0_1.length c0_1) := (blk_cell BK226.out 1).trans rfl; have hfz8_0 := blk_frozen BK226.out 0; have hfz8_1 := blk_frozen BK226.out 1) | ((with_reducible refine gate_callee (f := 30) rfl ?_); refine goesL_ (some 7) rfl rfl Try.func30 (by kernel_rfl) rfl #[.agg #[.slice A0_0 l0_0.length c0_0, .slice A0_1 l0_1.length c0_1]] rfl (by (try simp only [List.map_toArray, List.map_cons, List.map_nil]); first | done | rfl | (simp only [List.length_drop, List.length_take]; rfl)) ?_; (with_reducible refine (impl_Bolts_own.calls _ _ l0_0 _ _ l0_1 t228 t231 _ ?side1 ?side2 ?side3 ?side4 A3.out).mono ?_); (case side1 => repeat (first | exact (Kd.C_below HR0_0.out HB.out) | (with_reducible refine Kd.C_alloc ?_ _) | (with_reducible refine Kd.C_drewN ?_ _) | (with_reducible refine Kd.C_drew ?_))); (case side2 => exact HC0_0.out); (case side3 => repeat (first | exact (Kd.C_below HR0_1.out HB.out) | (with_reducible refine Kd.C_alloc ?_ _) | (with_reducible refine Kd.C_drewN ?_ _) | (with_reducible refine Kd.C_drew ?_))); (case side4 => exact HC0_1.out); rintro e w9 ⟨v229, v232, rfl, ho0, ho1, hb⟩; refine ⟨_, rfl, ?_⟩; have n0_ := Aside0.mk (Kd.R_lower ho0 (below_size (by repeat (first | (with_reducible first | exact HB.out | apply below_alloc | apply pw_below_drewN | apply below_drew1 | refine below_set ?_ GE226.out | refine below_set ?_ GE227.out) | exact HB.out)))); have n1_ := Aside0.mk (Kd.R_lower ho1 (below_size (by repeat (first | (with_reducible first | exact HB.out | apply below_alloc | apply pw_below_drewN | apply below_drew1 | refine below_set ?_ GE226.out | refine below_set ?_ GE227.out) | exact HB.out)))); have n2_ := Aside0.mk (blk_below (g := gb226) (o := .cells #[.slice A0_0 l0_0.length c0_0, .slice A0_1 l0_1.length c0_1] 31 (0, 0)) (by (with_reducible repeat (first | refine blk_drewN ?_ _ | refine blk_drew ?_ | refine blk_alloc ?_ _)); exact BK226.out) hb); have n3_ := Aside0.mk (blk_below (g := gb227) (o := .cells #[.slice none 0 0, .slice none 0 0] 31 (0, 0)) (by (with_reducible repeat (first | refine blk_drewN ?_ _ | refine blk_drew ?_ | refine blk_alloc ?_ _)); exact BK227.out) hb); have n4_ := Aside0.mk (below_step (by repeat (first | (with_reducible first | exact HB.out | apply below_alloc | apply pw_below_drewN | apply below_drew1 | refine below_set ?_ GE226.out | refine below_set ?_ GE227.out) | exact HB.out)) hb); clear BK226; clear BK227; clear HB; have HO230 := n0_; have HO233 := n1_; have BK226 := n2_; have BK227 := n3_; have HB := n4_; clear n0_ n1_ n2_ n3_ n4_; (try clear hb); (try clear hb2); (try clear hk); (try clear hi); (try clear ho0); (try clear ho1)) | ((with_reducible refine gate_dst (N := 5) rfl ?_); refine box_event ?hg (N := 5) ?hd (cs := #[.slice none 0 0, .slice none 0 0]) (t := 31) ?hr ?_; (case hd => rfl); (case hg => rfl); (case hr => first | (go_simp; done) | (go_simp; rfl)); intro gb234 hg w10 hbox hb; have n0_ := Aside0.mk (Kd.R_below (by (with_reducible repeat (first | apply Kd.R_alloc | apply Kd.R_drewN | apply Kd.R_drew)); exact HO230.out) hb); have n1_ := Aside0.mk (Kd.R_below (by (with_reducible repeat (first | apply Kd.R_alloc | apply Kd.R_drewN | apply Kd.R_drew)); exact HO233.out) hb); have n2_ := Aside0.mk (blk_below (g := gb226) (o := .cells #[.slice A0_0 l0_0.length c0_0, .slice A0_1 l0_1.length c0_1] 31 (0, 0)) (by (with_reducible repeat (first | refine blk_drewN ?_ _ | refine blk_drew ?_ | refine blk_alloc ?_ _)); exact BK226.out) hb); have n3_ := Aside0.mk (blk_below (g := gb227) (o := .cells #[.slice none 0 0, .slice none 0 0] 31 (0, 0)) (by (with_reducible repeat (first | refine blk_drewN ?_ _ | refine blk_drew ?_ | refine blk_alloc ?_ _)); exact BK227.out) hb); have n4_ := Aside0.mk (below_step (by repeat (first | (with_reducible first | exact HB.out | apply below_alloc | apply pw_below_drewN | apply below_drew1 | refine below_set ?_ GE226.out | refine below_set ?_ GE227.out) | exact HB.out)) hb); have n5_ := Aside0.mk (hbox); have n6_ := Aside0.mk ((by rw [hg]; exact (below_size (by repeat (first | (with_reducible first | exact HB.out | apply below_alloc | apply pw_below_drewN | apply below_drew1 | refine below_set ?_ GE226.out | refine below_set ?_ GE227.out) | exact HB.out))) : w.heap.size ≤ gb234)); have n7_ := Aside0.mk ((by rw [hg]; exact (below_size (by repeat (first | (with_reducible first | exact HB.out | apply below_alloc | apply pw_below_drewN | apply below_drew1 | refine below_set ?_ GE226.out | refine below_set ?_ GE227.out) | exact HB.out))) : w.heap.size ≤ gb234)); have n8_ := Aside0.mk ((by rw [hg]; exact Nat.ne_of_lt (blk_lt (g := gb226) (o := .cells #[.slice A0_0 l0_0.length c0_0, .slice A0_1 l0_1.length c0_1] 31 (0, 0)) (by (with_reducible repeat (first | refine blk_drewN ?_ _ | refine blk_drew ?_ | refine blk_alloc ?_ _)); exact BK226.out)) : gb226 ≠ gb234)); have n9_ := Aside0.mk ((by rw [hg]; exact Nat.ne_of_gt (blk_lt (g := gb226) (o := .cells #[.slice A0_0 l0_0.length c0_0, .slice A0_1 l0_1.length c0_1] 31 (0, 0)) (by (with_reducible repeat (first | refine blk_drewN ?_ _ | refine blk_drew ?_ | refine blk_alloc ?_ _)); exact BK226.out)) : gb234 ≠ gb226)); have n10_ := Aside0.mk ((by rw [hg]; exact Nat.ne_of_lt (blk_lt (g := gb227) (o := .cells #[.slice none 0 0, .slice none 0 0] 31 (0, 0)) (by (with_reducible repeat (first | refine blk_drewN ?_ _ | refine blk_drew ?_ | refine blk_alloc ?_ _)); exact BK227.out)) : gb227 ≠ gb234)); have n11_ := Aside0.mk ((by rw [hg]; exact Nat.ne_of_gt (blk_lt (g := gb227) (o := .cells #[.slice none 0 0, .slice none 0 0] 31 (0, 0)) (by (with_reducible repeat (first | refine blk_drewN ?_ _ | refine blk_drew ?_ | refine blk_alloc ?_ _)); exact BK227.out)) : gb234 ≠ gb227)); clear HO230; clear HO233; clear BK226; clear BK227; clear HB; have HO230 := n0_; have HO233 := n1_; have BK226 := n2_; have BK227 := n3_; have HB := n4_; have BK234 := n5_; have GW234 := n6_; have GE234 := n7_; have NB226_234 := n8_; have NB234_226 := n9_; have NB227_234 := n10_; have NB234_227 := n11_; clear n0_ n1_ n2_ n3_ n4_ n5_ n6_ n7_ n8_ n9_ n10_ n11_; clear hb hbox hg; obtain ⟨Ao11, co11, eo11⟩ := Kd.R_slice HO230.out; subst eo11; have hnb12 := NB234_226.out; have hnc12 := NB226_234.out; have hnb13 := NB234_227.out; have hnc13 := NB227_234.out; have hcz14_0 : w10.cell? ⟨gb234, 0, none⟩ = some (.slice none 0 0) := (blk_cell BK234.out 0).trans rfl; have hcz14_1 : w10.cell? ⟨gb234, 1, none⟩ = some (.slice none 0 0) := (blk_cell BK234.out 1).trans rfl; have hfz14_0 := blk_frozen BK234.out 0; have hfz14_1 := blk_frozen BK234.out 1; obtain ⟨Ao15, co15, eo15⟩ := Kd.R_slice HO233.out; subst eo15) | ((with_reducible refine gate_store (t := 31) (p := 5) rfl ?_); refine store_event (t := 31) (p := 5) (v := ?vo_w16) (w1 := ((w10.setCell ⟨gb234, 0, none⟩ (.slice Ao11 t228.length co11)).setCell ⟨gb234, 1, none⟩ (.slice Ao15 t231.length co15))) ?hg ?ho ?hn ?hr ?_; (case ho => rfl); (case hg => rfl); (case hn => rfl); (case hr => first | (go_simp; done) | (go_simp; rfl)); intro w16 hw; have n0_ : Aside0 (Kd.R (Kd.int .i64) 3 w16 w.heap.size (fun _ => True) (.slice Ao11 t228.length co11) t228) := ⟨(by rw [hw]; exact (by (with_reducible repeat (first | apply Kd.R_alloc | apply Kd.R_drewN | apply Kd.R_drew)); exact Kd.R_mono (Kd.R_far (p := ⟨gb234, 1, none⟩) (Kd.R_far (p := ⟨gb234, 0, none⟩) (Kd.R_types HO230.out BK234.out (by decide)) (fun _ hk => hk.2) (.slice Ao11 t228.length co11)) (fun _ hk => hk.2) (.slice Ao15 t231.length co15)) (fun _ hk => trivial)))⟩; have n1_ : Aside0 (Kd.R k35 35 w16 w.heap.size (fun _ => True) (.slice Ao15 t231.length co15) t231) := ⟨(by rw [hw]; exact (by (with_reducible repeat (first | apply Kd.R_alloc | apply Kd.R_drewN | apply Kd.R_drew)); exact Kd.R_mono (Kd.R_far (p := ⟨gb234, 1, none⟩) (Kd.R_far (p := ⟨gb234, 0, none⟩) (Kd.R_types HO233.out BK234.out (by decide)) (fun _ hk => hk.2) (.slice Ao11 t228.length co11)) (fun _ hk => hk.2) (.slice Ao15 t231.length co15)) (fun _ hk => trivial)))⟩; have n2_ : Aside0 (w16.heap[gb226]? = some (.cells #[.slice A0_0 l0_0.length c0_0, .slice A0_1 l0_1.length c0_1] 31 (0, 0))) := ⟨(by rw [hw]; exact (by (with_reducible repeat (first | refine blk_drewN ?_ _ | refine blk_drew ?_ | refine blk_alloc ?_ _)); refine blk_far ?_ NB226_234.out _; (with_reducible repeat (first | refine blk_drewN ?_ _ | refine blk_drew ?_ | refine blk_alloc ?_ _)); refine blk_far ?_ NB226_234.out _; (with_reducible repeat (first | refine blk_drewN ?_ _ | refine blk_drew ?_ | refine blk_alloc ?_ _)); exact BK226.out))⟩; have n3_ : Aside0 (w16.heap[gb227]? = some (.cells #[.slice none 0 0, .slice none 0 0] 31 (0, 0))) := ⟨(by rw [hw]; exact (by (with_reducible repeat (first | refine blk_drewN ?_ _ | refine blk_drew ?_ | refine blk_alloc ?_ _)); refine blk_far ?_ NB227_234.out _; (with_reducible repeat (first | refine blk_drewN ?_ _ | refine blk_drew ?_ | refine blk_alloc ?_ _)); refine blk_far ?_ NB227_234.out _; (with_reducible repeat (first | refine blk_drewN ?_ _ | refine blk_drew ?_ | refine blk_alloc ?_ _)); exact BK227.out))⟩; have n4_ : Aside0 (w16.heap[gb234]? = some (.cells #[.slice Ao11 t228.length co11, .slice Ao15 t231.length co15] 31 (0, 0))) := ⟨(by rw [hw]; exact (by (with_reducible repeat (first | refine blk_drewN ?_ _ | refine blk_drew ?_ | refine blk_alloc ?_ _)); refine blk_put (cs := #[.slice Ao11 t228.length co11, .slice none 0 0]) ?_ 1 _ rfl; (with_reducible repeat (first | refine blk_drewN ?_ _ | refine blk_drew ?_ | refine blk_alloc ?_ _)); refine blk_put (cs := #[.slice none 0 0, .slice none 0 0]) ?_ 0 _ rfl; (with_reducible repeat (first | refine blk_drewN ?_ _ | refine blk_drew ?_ | refine blk_alloc ?_ _)); exact BK234.out))⟩; have n5_ : Aside0 (Below w.heap.size w w16) := ⟨(by rw [hw]; exact (by repeat (first | (with_reducible first | exact HB.out | apply below_alloc | apply pw_below_drewN | apply below_drew1 | refine below_set ?_ GE226.out | refine below_set ?_ GE227.out | refine below_set ?_ GE234.out) | exact HB.out)))⟩; clear hw; clear HO230; clear HO233; clear BK226; clear BK227; clear BK234; clear HB; have HO230 := n0_; have HO233 := n1_; have BK226 := n2_; have BK227 := n3_; have BK234 := n4_; have HB := n5_; clear n0_ n1_ n2_ n3_ n4_ n5_; have hcz17_0 : w16.cell? ⟨gb234, 0, none⟩ = some (.slice Ao11 t228.length co11) := (blk_cell BK234.out 0).trans rfl; have hcz17_1 : w16.cell? ⟨gb234, 1, none⟩ = some (.slice Ao15 t231.length co15) := (blk_cell BK234.out 1).trans rfl; have hfz17_0 := blk_frozen BK234.out 0; have hfz17_1 := blk_frozen BK234.out 1) | ((with_reducible refine gate_callee (f := 50) rfl ?_); refine goesL_ (some 13) rfl rfl Try.func50 (by kernel_rfl) rfl #[.slice Ao15 t231.length co15, .int .i64 a1, .int .i64 (wrap64 (a1 + 1))] rfl (by (try simp only [List.map_toArray, List.map_cons, List.map_nil]); first | done | rfl | (simp only [List.length_drop, List.length_take]; rfl)) ?_; (with_reducible refine (impl_Block_50.calls (fun k_ => some k_ = (.slice Ao15 t231.length co15 : Value).ownBlock) (.slice Ao15 t231.length co15) t231 a1 (wrap64 (a1 + 1)) t235 w _ ?side1 ?side2 A4.out).mono ?_); (case side1 => repeat (first | (with_reducible first | exact HB.out | apply below_alloc | apply pw_below_drewN | apply below_drew1 | refine below_set ?_ GE226.out | refine below_set ?_ GE227.out | refine below_set ?_ GE234.out) | exact HB.out)); (case side2 => exact Kd.R_tight rfl HO233.out); rintro e w18 ⟨v236, rfl, ho0, hb, hkp⟩; refine ⟨_, rfl, ?_⟩; have n0_ := Aside0.mk (blk_kept (by (with_reducible repeat (first | refine blk_drewN ?_ _ | refine blk_drew ?_ | refine blk_alloc ?_ _)); exact BK226.out) hkp (fun hs_ => (fun e_ => (Kd.R_ne HO233.out BK226.out (by decide)) e_) hs_)); have n1_ := Aside0.mk (blk_kept (by (with_reducible repeat (first | refine blk_drewN ?_ _ | refine blk_drew ?_ | refine blk_alloc ?_ _)); exact BK227.out) hkp (fun hs_ => (fun e_ => (Kd.R_ne HO233.out BK227.out (by decide)) e_) hs_)); have n2_ := Aside0.mk (Kd.R_mono (ok' := fun k_ => True) (Kd.R_keptB ((Kd.R_apart' HO230.out (Kd.R_typed HO233.out) (by decide))) hkp (fun k_ hk_ hs_ => (hk_.2) hs_)) (fun k_ hk_ => trivial)); have n3_ := Aside0.mk (blk_kept (by (with_reducible repeat (first | refine blk_drewN ?_ _ | refine blk_drew ?_ | refine blk_alloc ?_ _)); exact BK234.out) hkp (fun hs_ => (fun e_ => (Kd.R_ne HO233.out BK234.out (by decide)) e_) hs_)); have n4_ := Aside0.mk (Kd.R_mono (ok' := fun k_ => True) ho0 (fun k_ hk_ => trivial)); have n5_ := Aside0.mk (hb); clear BK226; clear BK227; clear HO230; clear BK234; clear HB; clear HO233; have BK226 := n0_; have BK227 := n1_; have HO230 := n2_; have BK234 := n3_; have HO237 := n4_; have HB := n5_; clear n0_ n1_ n2_ n3_ n4_ n5_; (try clear hb); (try clear hkp); (try clear ho0); obtain ⟨Ao19, co19, eo19⟩ := Kd.R_slice HO237.out; subst eo19; have hcz20_0 : w18.cell? ⟨gb234, 0, none⟩ = some (.slice Ao11 t228.length co11) := (blk_cell BK234.out 0).trans rfl; have hcz20_1 : w18.cell? ⟨gb234, 1, none⟩ = some (.slice Ao15 t231.length co15) := (blk_cell BK234.out 1).trans rfl; have hfz20_0 := blk_frozen BK234.out 0; have hfz20_1 := blk_frozen BK234.out 1; have hcz21_0 : w18.cell? ⟨gb227, 0, none⟩ = some (.slice none 0 0) := (blk_cell BK227.out 0).trans rfl; have hcz21_1 : w18.cell? ⟨gb227, 1, none⟩ = some (.slice none 0 0) := (blk_cell BK227.out 1).trans rfl; have hfz21_0 := blk_frozen BK227.out 0; have hfz21_1 := blk_frozen BK227.out 1))
 refine bodyPost_ret (results_cell_row rfl _ _ gb227 31 #[.slice Ao11 t228.length co11, .slice Ao19 t235.length co19] (0, 0) _ rfl (by (with_reducible repeat (first | refine blk_drewN ?_ _ | refine blk_drew ?_ | refine blk_alloc ?_ _)); refine blk_put (cs := #[.slice Ao11 t228.length co11, .slice none 0 0]) ?_ 1 _ rfl; (with_reducible repeat (first | refine blk_drewN ?_ _ | refine blk_drew ?_ | refine blk_alloc ?_ _)); refine blk_put (cs := #[.slice none 0 0, .slice none 0 0]) ?_ 0 _ rfl; (with_reducible repeat (first | refine blk_drewN ?_ _ | refine blk_drew ?_ | refine blk_alloc ?_ _)); refine blk_far ?_ NB227_234.out _; (with_reducible repeat (first | refine blk_drewN ?_ _ | refine blk_drew ?_ | refine blk_alloc ?_ _)); exact BK227.out) Try.underlying31 rfl (by kernel_rfl)) rfl ?_
 exact ⟨_, _, by first | rfl | (simp [errW_none, errW_some] <;> rfl) | (simp [*, errW_none, errW_some] <;> rfl), by (with_reducible repeat (first | apply Kd.R_alloc | apply Kd.R_drewN | apply Kd.R_drew)); exact Kd.R_mono (Kd.R_far (p := ⟨gb227, 1, none⟩) (Kd.R_far (p := ⟨gb227, 0, none⟩) (Kd.R_far (p := ⟨gb234, 1, none⟩) (Kd.R_types (Kd.R_types HO230.out BK234.out (by decide)) BK227.out (by decide)) (fun _ hk => hk.1.2) (.slice Ao19 t235.length co19)) (fun _ hk => hk.2) (.slice Ao11 t228.length co11)) (fun _ hk => hk.2) (.slice Ao19 t235.length co19)) (fun _ hk => trivial), by (with_reducible repeat (first | apply Kd.R_alloc | apply Kd.R_drewN | apply Kd.R_drew)); exact Kd.R_mono (Kd.R_far (p := ⟨gb227, 1, none⟩) (Kd.R_far (p := ⟨gb227, 0, none⟩) (Kd.R_far (p := ⟨gb234, 1, none⟩) (Kd.R_types (Kd.R_types HO237.out BK234.out (by decide)) BK227.out (by decide)) (fun _ hk => hk.1.2) (.slice Ao19 t235.length co19)) (fun _ hk => hk.2) (.slice Ao11 t228.length co11)) (fun _ hk => hk.2) (.slice Ao19 t235.length co19)) (fun _ hk => trivial), by repeat (first | (with_reducible first | exact HB.out | apply below_alloc | apply pw_below_drewN | apply below_drew1 | refine below_set ?_ GE226.out | refine below_set ?_ GE227.out | refine below_set ?_ GE234.out) | exact HB.out)⟩

/-! ### slices_DeleteFunc_string_string: function 53 -/
-- by hand (wip/ext/DeleteFuncBolts.tpl)
def hitB (s : ByteArray) (a i b j : Int) : Bool := (wrap64 (bt s a - 48) == i) && (wrap64 (bt s b - 48) == j)
def freeB (bs : List S35) (s : ByteArray) : Bool := !(bs.any fun x => hitB s x.f0 x.f1 x.f2 x.f3)
def fitsB (bs : List S35) (s : ByteArray) : Bool := bs.all fun x => decide (0 ≤ x.f0) && decide (x.f0 < s.size) && decide (0 ≤ x.f2) && decide (x.f2 < s.size)
theorem allowed_f1 : Try.prog.funcs[60]? = some Try.f60 ∧ (Try.f60.name == "runtime.NumGoroutine") = false ∧ Try.f60.body.isSome = true := ⟨Try.func60, by kernel_rfl, by kernel_rfl⟩
theorem states_f1 : Try.prog.funcs[54]? = some Try.f54 ∧ (Try.f54.name == "runtime.NumGoroutine") = false ∧ Try.f54.body.isSome = true := ⟨Try.func54, by kernel_rfl, by kernel_rfl⟩
set_option maxHeartbeats 1000000 in
theorem allowed_c1 (g : Nat) (s : ByteArray) (a i b j : Int) (w : World) (hg : w.cell? ⟨g, 0, none⟩ = some (.string s)) (ha : 0 ≤ a) (ha' : a < s.size) (hb : 0 ≤ b) (hb' : b < s.size) :
    Calls Try.prog 60 #[.agg #[.int .i64 a, .int .i64 i, .int .i64 b, .int .i64 j], .pointer (some ⟨g, 0, none⟩)] w fun e w' => e = .returned (.bool (hitB s a i b j)) ∧ Below w.heap.size w w' := by
  have hub := Try.underlying35
  have hlt := World.block_lt_of_cell? w _ hg
  have HB0 := Aside0.mk (show Below w.heap.size w (w.alloc (.cells #[.int .i64 a, .int .i64 i, .int .i64 b, .int .i64 j] 35)) from below_alloc (Below.refl _ _) _)
  have HW := Aside0.mk (show ∃ W, W = w.alloc (.cells #[.int .i64 a, .int .i64 i, .int .i64 b, .int .i64 j] 35) ∧ W.cell? ⟨g, 0, none⟩ = some (.string s) ∧ W.cell? ⟨w.heap.size, 0, none⟩ = some (.int .i64 a) ∧ W.cell? ⟨w.heap.size, 1, none⟩ = some (.int .i64 i) ∧ W.cell? ⟨w.heap.size, 2, none⟩ = some (.int .i64 b) ∧ W.cell? ⟨w.heap.size, 3, none⟩ = some (.int .i64 j) from ⟨_, rfl, by rw [World.cell?_alloc_past _ _ _ hlt]; exact hg, by go_simp, by go_simp, by go_simp, by go_simp⟩)
  have ha0 : decide (0 ≤ a) = true := decide_eq_true ha
  have ha1 : decide (a < (s.size : Int)) = true := decide_eq_true ha'
  have hb0 : decide (0 ≤ b) = true := decide_eq_true hb
  have hb1 : decide (b < (s.size : Int)) = true := decide_eq_true hb'
  have ha2 : a.toNat < s.size := by omega
  have hb2 : b.toNat < s.size := by omega
  obtain ⟨R, hR⟩ : ∃ R, R = hitB s a i b j := ⟨_, rfl⟩
  rw [← hR]
  unfold hitB at hR
  have hxa := bt_at s a ha2
  have hxb := bt_at s b hb2
  have ra := bt_range s a
  have rb := bt_range s b
  generalize bt s a = xa at hxa ra hR
  generalize bt s b = xb at hxb rb hR
  have wa1 : IntKind.i64.wrap xa = xa := by rw [IntKind.wrap_i64]; omega
  have wa2 : IntKind.i64.wrap (xa - 48) = xa - 48 := by rw [IntKind.wrap_i64]; omega
  have wb1 : IntKind.i64.wrap xb = xb := by rw [IntKind.wrap_i64]; omega
  have wb2 : IntKind.i64.wrap (xb - 48) = xb - 48 := by rw [IntKind.wrap_i64]; omega
  rw [w64 (by omega) (by omega), w64 (by omega) (by omega)] at hR
  clear hg ra rb
  cases h1 : (xa - 48 == i)
  · have HR := Aside0.mk (show R = false by rw [hR, h1]; rfl)
    clear hR
    go_enter Try.func60, Try.ntmps60
    go_wp2
    obtain ⟨W, hW, g0, x0, x1, x2, x3⟩ := HW.out
    rw [← hW] at HB0 ⊢
    clear hW HW
    go_quiet (fail)
    go_wp2
    go_ret
    exact ⟨by rw [HR.out]; rfl, below_step HB0.out (pw_below_drewN (Below.refl _ _) nq)⟩
  · obtain ⟨J, hJ⟩ : ∃ J, (xb - 48 == j) = J := ⟨_, rfl⟩
    have HR := Aside0.mk (show R = J by rw [hR, h1, hJ]; rfl)
    clear hR
    go_enter Try.func60, Try.ntmps60
    go_wp2
    obtain ⟨W, hW, g0, x0, x1, x2, x3⟩ := HW.out
    rw [← hW] at HB0 ⊢
    clear hW HW
    go_quiet (fail)
    go_wp2
    go_ret
    exact ⟨by rw [HR.out]; rfl, below_step HB0.out (pw_below_drewN (Below.refl _ _) nq)⟩
theorem fitsB_mem {bs : List S35} {s : ByteArray} (h : fitsB bs s = true) (x : S35) (hx : x ∈ bs) : 0 ≤ x.f0 ∧ x.f0 < s.size ∧ 0 ≤ x.f2 ∧ x.f2 < s.size := by
  have := List.all_eq_true.1 h x hx
  simp only [Bool.and_eq_true, decide_eq_true_eq] at this
  exact ⟨this.1.1.1, this.1.1.2, this.1.2, this.2⟩
set_option maxHeartbeats 1000000 in
theorem allowed_c2 (A0 : Option Addr) (c0 : Nat) (l0 : List Int) (A1 : Option Addr) (c1 : Nat) (l1 : List S35) (s : ByteArray) (w : World) (hr1 : Kd.C k35 w A1 l1.length l1) (hf : fitsB l1 s = true) :
    Calls Try.prog 55 #[.agg #[.slice A0 l0.length c0, .slice A1 l1.length c1], .string s] w fun e w' => e = .returned (.bool (freeB l1 s)) ∧ Below w.heap.size w w' := by
  have hu := Try.underlying31
  have hmf : ∀ (fn : Fn) (first cap : Array Value) (w : World), (Instr.makeFunc fn first cap).run Try.prog w = .ok (.func fn first cap) w := fun _ _ _ _ => rfl
  have HB0 := Aside0.mk (show Below w.heap.size w ((w.alloc (.cells #[.slice A0 l0.length c0, .slice A1 l1.length c1] 31)).alloc (.cells #[.string s] 9)) from ((Below.refl _ w).alloc (Nat.le_refl _) _).alloc (by simp) _)
  have HG := Aside0.mk (show ((w.alloc (.cells #[.slice A0 l0.length c0, .slice A1 l1.length c1] 31)).alloc (.cells #[.string s] 9)).cell? ⟨w.heap.size + 1, 0, none⟩ = some (.string s) from by go_simp)
  have HC := Aside0.mk (fun (W : World) (hb : Below w.heap.size w W) (hg : W.cell? ⟨w.heap.size + 1, 0, none⟩ = some (.string s)) =>
    impl_Block_45.any 60 Try.f60 allowed_f1 #[.pointer (some ⟨w.heap.size + 1, 0, none⟩)] (fun x => hitB s x.f0 x.f1 x.f2 x.f3) A1 c1 l1 W (Kd.C_below hr1 hb)
      (fun w1 x hx hb1 => allowed_c1 (w.heap.size + 1) s x.f0 x.f1 x.f2 x.f3 w1 ((hb1.cell (World.block_lt_of_cell? W _ hg)).trans hg) (fitsB_mem hf x hx).1 (fitsB_mem hf x hx).2.1 (fitsB_mem hf x hx).2.2.1 (fitsB_mem hf x hx).2.2.2))
  clear hr1 hf
  go_enter Try.func55, Try.ntmps55
  go_wp2_with (go_at_call 45; refine (HC.out _ HB0.out HG.out).mono ?_; rintro e w2 ⟨rfl, hb⟩; have HB := Aside0.mk (below_step HB0.out hb); clear hb)
  go_ret
  exact ⟨rfl, HB.out⟩
set_option maxHeartbeats 1000000 in
theorem states_c1 (g : Nat) (A0 : Option Addr) (c0 : Nat) (l0 : List Int) (A1 : Option Addr) (c1 : Nat) (l1 : List S35) (s : ByteArray) (w : World) (hr1 : Kd.C k35 w A1 l1.length l1) (hf : fitsB l1 s = true)
    (hg0 : w.cell? ⟨g, 0, none⟩ = some (.slice A0 l0.length c0)) (hg1 : w.cell? ⟨g, 1, none⟩ = some (.slice A1 l1.length c1)) :
    Calls Try.prog 54 #[.string s, .pointer (some ⟨g, 0, none⟩)] w fun e w' => e = .returned (.bool (!freeB l1 s)) ∧ Below w.heap.size w w' := by
  have hu := Try.underlying31
  have HC := Aside0.mk (allowed_c2 A0 c0 l0 A1 c1 l1 s w hr1 hf)
  clear hr1 hf
  go_enter Try.func54, Try.ntmps54
  go_wp2_with (go_at_call 55; refine HC.out.mono ?_; rintro e w2 ⟨rfl, hb⟩; have HB := Aside0.mk hb; clear hb)
  go_ret
  exact ⟨rfl, HB.out⟩
set_option maxHeartbeats 1000000 in
set_option maxRecDepth 100000 in
theorem slices_DeleteFunc_string_string.index (F : FuncId) (fn : Func) (hf : Try.prog.funcs[F]? = some fn ∧ (fn.name == "runtime.NumGoroutine") = false ∧ fn.body.isSome = true) (caps : Array Value) (p : ByteArray → Bool)
    (A : Option Addr) (c : Nat) (l : List ByteArray) (w : World) (hr : Kd.C Kd.string w A l.length l)
    (hp : ∀ (w1 : World) (x : ByteArray), x ∈ l → Below w.heap.size w w1 → Calls Try.prog F (#[.string x] ++ caps) w1 fun e w2 => e = .returned (.bool (p x)) ∧ Below w1.heap.size w1 w2) :
    Calls Try.prog 59 #[.slice A l.length c, .func (.func F) #[] caps] w fun e w' => e = .returned (.int .i64 (idxI p l)) ∧ Below w.heap.size w w' := by
  have hl := hr.2.1
  have HR := Aside0.mk hr
  have HF := Aside0.mk hf
  have HP := Aside0.mk hp
  clear hr hf hp
  go_enter Try.func59, Try.ntmps59
  go_wp2
  go_loopw [8] (fun v8 w' => ∃ k : Nat, k ≤ l.length ∧ v8 = .int .i64 k ∧ Aside0 (∀ j (hj : j < l.length), j < k → p l[j] = false) ∧ Aside0 (Below w.heap.size w w')) (fun v8 _ => l.length - (intOf v8).toNat)
  case atStart => exact ⟨0, Nat.zero_le _, rfl, ⟨fun j _ h => absurd h (by omega)⟩, ⟨Below.refl _ _⟩⟩
  case round =>
    obtain ⟨k, hk, rfl, HN, HB⟩ := hrel
    by_cases hlt : k < l.length
    · obtain ⟨ad, rfl, hx0⟩ := Kd.at_string HR.out (k : Int) (by omega) (by omega)
      simp only [Int.toNat_natCast] at hx0
      replace hx0 := (HB.out.cell (World.block_lt_of_cell? w _ hx0)).trans hx0
      have ex : rdOf ByteArray.empty l (k : Int) = l[k] := by simp [rdOf, hlt]
      rw [ex] at hx0
      clear ex
      go_wp2_with ((with_reducible refine gate_dst (N := 16) rfl ?_); go_must (refine goesC_ (some 16) rfl rfl caps HF.out #[.string l[k]] rfl rfl (by (try simp only [List.map_toArray, List.map_cons, List.map_nil]); first | done | rfl) ?_; refine (HP.out _ l[k] (List.getElem_mem hlt) HB.out).mono ?_; rintro e w2 ⟨rfl, hb⟩; refine ⟨_, rfl, ?_⟩; have HB2 := Aside0.mk (below_step HB.out hb); clear hb))
      · have hpk : p l[k] = true := by assumption
        go_ret
        exact ⟨ret_int (idxI_hit p l k hlt hpk fun j hj => HN.out j (by omega) hj).symm, HB2.out⟩
      · have hpk : p l[k] = false := by assumption
        go_roundw
        case rel =>
          refine ⟨k + 1, by omega, by go_num, ⟨fun j hj hjk => ?_⟩, HB2⟩
          rcases Nat.lt_or_ge j k with h | h
          · exact HN.out j hj h
          · obtain rfl : j = k := by omega
            exact hpk
        case measure => simp [intOf]; omega
    · go_wp2
      go_ret
      exact ⟨ret_int (idxI_miss p l fun j hj => HN.out j hj (by omega)).symm, HB.out⟩
/-- A block of texts: f tells the first n. -/
def strsAt (w : World) (g c : Nat) (e : TypeId) (n : Nat) (f : Nat → ByteArray) : Prop := ∃ cur : Array Value, w.heap[g]? = some (.cells cur e (0, 0)) ∧ cur.size = c ∧ ∀ j, j < n → cur[j]? = some (.string (f j))
section
variable {w : World} {g c n : Nat} {e : TypeId} {f : Nat → ByteArray}
theorem strsAt_cell (h : strsAt w g c e n f) (j : Nat) (hj : j < n) : w.cell? ⟨g, j, none⟩ = some (.string (f j)) := by
  obtain ⟨cur, hh, _, hc⟩ := h
  rw [cell_of_row _ _ _ _ _ _ hh]
  exact hc j hj
theorem strsAt_frozen (h : strsAt w g c e n f) (j : Nat) : w.frozen? ⟨g, j, none⟩ = false := by
  obtain ⟨cur, hh, _⟩ := h
  exact blk_frozen hh _
theorem strsAt_set (h : strsAt w g c e n f) (j : Nat) (s : ByteArray) : strsAt (w.setCell ⟨g, j, none⟩ (.string s)) g c e n (fun i => if i = j then s else f i) := by
  obtain ⟨cur, hh, hcs, hc⟩ := h
  refine ⟨cur.setIfInBounds j (.string s), blk_set hh j _, by simpa using hcs, fun i hi => ?_⟩
  have hc := hc i hi
  have hlt : i < cur.size := (Array.getElem?_eq_some_iff.1 hc).1
  by_cases q : i = j
  · subst q; simp [hlt]
  · simp [q, Array.getElem?_setIfInBounds, Ne.symm q, hc]
theorem strsAt_below {w' : World} (h : strsAt w g c e n f) (hb : Below w.heap.size w w') : strsAt w' g c e n f := by
  obtain ⟨cur, hh, r⟩ := h
  exact ⟨cur, (hb.block g (Array.getElem?_eq_some_iff.1 hh).1).trans hh, r⟩
theorem strsAt_clear (h : strsAt w g c e n f) {o : Nat} {news : List Value} (hn : n ≤ c) (hl : o + news.length = n) : strsAt (w.setCells g o news) g c e o f := by
  obtain ⟨cur, hh, hcs, hc⟩ := h
  obtain ⟨cur', h3, h4, h5⟩ := setCells_row news o w cur hh (by omega)
  refine ⟨cur', h3, by omega, fun j hj => ?_⟩
  have e1 : cur'[j]? = cur'.toList[j]? := by simp
  have e2 : cur[j]? = cur.toList[j]? := by simp
  rw [e1, h5, List.append_assoc, List.getElem?_append_left (by rw [List.length_take, Array.length_toList]; omega), List.getElem?_take_of_lt hj, ← e2]
  exact hc j (by omega)
theorem strsAt_of {base : Nat} {ok : Nat → Prop} {xs : List ByteArray} (hR : Kd.R Kd.string e w base ok (.slice (some ⟨g, 0, none⟩) n c) xs) : n = xs.length ∧ base ≤ g ∧ n ≤ c ∧ c ≤ maxLen ∧ ok g ∧ strsAt w g c e xs.length (fun j => xs.getD j ByteArray.empty) := by
  obtain ⟨hok, inner, hown, hr⟩ := hR
  rcases hown.2 with ⟨hv, _⟩ | ⟨g', cap', cur, hv, hb, hh, h1, hcm, hcs, htake⟩
  · cases hv
  injection hv with ha hn hc
  injection ha with ha
  injection ha with hg
  subst hg; subst hc
  have hs1 : Kd.string.sz = 1 := rfl
  rw [hs1, Nat.mul_one] at hcs htake
  refine ⟨hn, hb, by omega, hcm, hok g (by simp [Value.ownBlock]), cur, hh, hcs, fun j hj => ?_⟩
  have h2 := hr.2 j xs[j] (List.getElem?_eq_getElem hj)
  have h3 : (inner.drop (j * 1)).take 1 = [Value.string xs[j]] := h2
  rw [Nat.mul_one] at h3
  have h4 : inner[j]? = some (Value.string xs[j]) := by
    have h5 : ((inner.drop j).take 1)[0]? = some (Value.string xs[j]) := by rw [h3]; rfl
    rw [List.getElem?_take_of_lt (by omega), List.getElem?_drop] at h5
    exact h5
  rw [← htake, List.getElem?_take_of_lt hj] at h4
  have e2 : cur[j]? = cur.toList[j]? := by simp
  rw [e2, h4]
  simp [List.getD, List.getElem?_eq_getElem hj]
theorem strsAt_R {base : Nat} {ok : Nat → Prop} {xs : List ByteArray} (h : strsAt w g c e n f) (hb : base ≤ g) (hk : ok g) (hn : n ≤ c) (hc : c ≤ maxLen) (hl : xs.length = n) (hf : ∀ j (hj : j < xs.length), f j = xs[j]) : Kd.R Kd.string e w base ok (.slice (some ⟨g, 0, none⟩) n c) xs := by
  obtain ⟨cur, hh, hcs, hcc⟩ := h
  refine ⟨fun k hk' => ?_, xs.map Value.string, ⟨by simp [Kd.string, Kd.scalar], .inr ⟨g, c, cur, by rw [hl], hb, hh, by omega, hc, by simp [Kd.string, Kd.scalar, hcs], ?_⟩⟩, ⟨by simp [Kd.string, Kd.scalar], fun j p hj => ?_⟩⟩
  · have : g = k := by simpa [Value.ownBlock] using hk'
    exact this ▸ hk
  · have hs1 : Kd.string.sz = 1 := rfl
    rw [hs1, Nat.mul_one]
    apply List.ext_getElem?
    intro j
    by_cases hj : j < xs.length
    · rw [List.getElem?_take_of_lt hj]
      have e2 : cur[j]? = cur.toList[j]? := by simp
      rw [← e2, hcc j (by omega), List.getElem?_map, List.getElem?_eq_getElem hj, hf j hj]
      rfl
    · rw [List.getElem?_eq_none (by rw [List.length_take]; omega), List.getElem?_eq_none (by simp; omega)]
  · have hjl := (List.getElem?_eq_some_iff.1 hj).1
    show ((xs.map Value.string).drop (j * 1)).take 1 = [Value.string p]
    rw [Nat.mul_one, List.drop_eq_getElem_cons (by simpa using hjl)]
    have := (List.getElem?_eq_some_iff.1 hj).2
    simp [this]
end
theorem below_setCells {B : Nat} {a w : World} (h : Below B a w) (g o : Nat) (vs : List Value) (hg : B ≤ g) : Below B a (w.setCells g o vs) := by
  obtain ⟨h1, h2, h3, h4⟩ := setCells_same g vs o w
  exact h.trans ⟨h1, h2, h3, by rw [h4]; exact Nat.le_refl _, fun i hi => setCells_far vs o i (by omega)⟩
/-- What is kept of the first j. -/
def keptOf (p : ByteArray → Bool) (l : List ByteArray) (j : Nat) : List ByteArray := (l.take j).filter fun x => !p x
theorem keptOf_step (p : ByteArray → Bool) (l : List ByteArray) (j : Nat) (h : j < l.length) : keptOf p l (j + 1) = if p l[j] = true then keptOf p l j else keptOf p l j ++ [l[j]] := by
  unfold keptOf
  rw [List.take_succ_eq_append_getElem h, List.filter_append]
  cases hq : p l[j] <;> simp [hq]
theorem keptOf_le (p : ByteArray → Bool) (l : List ByteArray) (j : Nat) : (keptOf p l j).length ≤ j := by
  unfold keptOf
  exact Nat.le_trans (List.length_filter_le _ _) (by rw [List.length_take]; omega)
theorem keptOf_all (p : ByteArray → Bool) (l : List ByteArray) (k : Nat) (h : k ≤ l.length) (hn : ∀ j (hj : j < l.length), j < k → p l[j] = false) : keptOf p l k = l.take k := by
  unfold keptOf
  rw [List.filter_eq_self]
  intro x hx
  obtain ⟨j, hj, rfl⟩ := List.getElem_of_mem hx
  have hj' : j < k := by rw [List.length_take] at hj; omega
  rw [List.getElem_take, hn j (by omega) hj']
  rfl
theorem idxI_cases (p : ByteArray → Bool) (l : List ByteArray) : (idxI p l = -1 ∧ ∀ j (hj : j < l.length), p l[j] = false) ∨ ∃ k : Nat, ∃ hk : k < l.length, idxI p l = (k : Int) ∧ p l[k] = true ∧ ∀ j (hj : j < l.length), j < k → p l[j] = false := by
  unfold idxI
  by_cases h : l.any p = true
  · rw [if_pos h]
    obtain ⟨x, hx, hp⟩ := List.any_eq_true.1 h
    have hlt : l.findIdx p < l.length := List.findIdx_lt_length_of_exists ⟨x, hx, hp⟩
    exact .inr ⟨l.findIdx p, hlt, rfl, List.findIdx_getElem, fun j hj hjk => by simpa using List.not_of_lt_findIdx hjk⟩
  · rw [if_neg h]
    exact .inl ⟨rfl, fun j hj => by
      cases hq : p l[j]
      · rfl
      · exact absurd (List.any_eq_true.2 ⟨l[j], List.getElem_mem hj, hq⟩) h⟩
set_option maxHeartbeats 2000000 in
set_option maxRecDepth 100000 in
theorem slices_DeleteFunc_string_string.strike (F : FuncId) (fn : Func) (hf : Try.prog.funcs[F]? = some fn ∧ (fn.name == "runtime.NumGoroutine") = false ∧ fn.body.isSome = true) (caps : Array Value) (p : ByteArray → Bool)
    (g n c : Nat) (l : List ByteArray) (P0 : Nat → Prop) (w0 w : World) (hB : Below w0.heap.size w0 w) (ho : Kd.R Kd.string 9 w w0.heap.size P0 (.slice (some ⟨g, 0, none⟩) n c) l)
    (hp : ∀ (w1 : World) (x : ByteArray), x ∈ l → Below w0.heap.size w0 w1 → Calls Try.prog F (#[.string x] ++ caps) w1 fun e w2 => e = .returned (.bool (p x)) ∧ Below w1.heap.size w1 w2) :
    Calls Try.prog 53 #[.slice (some ⟨g, 0, none⟩) n c, .func (.func F) #[] caps] w fun e w' => ∃ m : Nat, e = .returned (.slice (some ⟨g, 0, none⟩) m c) ∧ Kd.R Kd.string 9 w' w0.heap.size P0 (.slice (some ⟨g, 0, none⟩) m c) (l.filter fun x => !p x) ∧ Below w0.heap.size w0 w' := by
  obtain ⟨hn, hbg, hnc, hcm, hok, hst⟩ := strsAt_of ho
  subst hn
  have HC := Aside0.mk (slices_DeleteFunc_string_string.index F fn hf caps p (some ⟨g, 0, none⟩) c l w (Kd.R_reads' ho).2.2 (fun w1 x hx hb => hp w1 x hx (below_step hB hb)))
  have HP := Aside0.mk hp
  have HF := Aside0.mk hf
  have HO := Aside0.mk ho
  have HB := Aside0.mk hB
  have HOK := Aside0.mk hok
  have HS := Aside0.mk hst
  have HBG := Aside0.mk hbg
  have HCM := Aside0.mk hcm
  have hl := (Kd.R_reads' ho).2.2.2.1
  clear hp hf ho hB hok hst hbg hcm
  have hfull : keptOf p l l.length = l.filter fun x => !p x := by unfold keptOf; rw [List.take_length]
  rcases idxI_cases p l with ⟨e1, hall⟩ | ⟨k0, hk0, e1, ht, hall⟩
  · rw [e1] at HC
    have e2 : (l.filter fun x => !p x) = l := by
      rw [← hfull, keptOf_all p l l.length (Nat.le_refl _) (fun j hj _ => hall j hj), List.take_length]
    rw [e2]
    clear e2 hfull hall e1
    go_enter Try.func53, Try.ntmps53
    go_wp2_with (go_at_call 59; refine HC.out.mono ?_; rintro e w' ⟨rfl, hb⟩; have HB2 := Aside0.mk hb; clear hb)
    go_ret
    exact ⟨_, rfl, Kd.R_below HO.out HB2.out, below_step HB.out HB2.out⟩
  · rw [e1] at HC
    have hne1 : ((k0 : Int) == -1) = false := beq_eq_false_iff_ne.2 (by omega)
    have HK0 := Aside0.mk (show keptOf p l (k0 + 1) = l.take k0 by rw [keptOf_step p l k0 hk0, if_pos ht, keptOf_all p l k0 (by omega) hall])
    have HFU := Aside0.mk hfull
    clear hfull hall ht e1
    go_enter Try.func53, Try.ntmps53
    go_wp2_with (go_at_call 59; refine HC.out.mono ?_; rintro e w' ⟨rfl, hb⟩; have HB2 := Aside0.mk (below_step HB.out hb); have HS2 := Aside0.mk (strsAt_below HS.out hb); clear hb)
    go_loopg [5, 6, 7] (l.length - (k0 + 1)) (fun gg s5 s6 _ wr => ∃ (i j : Nat) (f : Nat → ByteArray), s5 = .int .i64 i ∧ s6 = .int .i64 j ∧ i < j ∧ j ≤ l.length ∧ j + gg = l.length ∧ Aside0 (i = (keptOf p l j).length) ∧ Aside0 (strsAt wr g c 9 l.length f) ∧ Aside0 (∀ q, q < i → f q = (keptOf p l j).getD q ByteArray.empty) ∧ Aside0 (∀ q, j ≤ q → f q = l.getD q ByteArray.empty) ∧ Aside0 (Below w0.heap.size w0 wr))
    case atStart => exact ⟨k0, k0 + 1, _, rfl, by go_num, by omega, by omega, by omega, ⟨by rw [HK0.out, List.length_take]; omega⟩, HS2, ⟨fun q hq => by rw [HK0.out]; simp [List.getD, List.getElem?_take_of_lt hq]⟩, ⟨fun q _ => rfl⟩, HB2⟩
    case round =>
      obtain ⟨i, j, f, rfl, rfl, hij, hjl, hj1, HI, HSf, HLO, HHI, HBf⟩ := hrel
      by_cases hlt : j < l.length
      · have hcj := strsAt_cell HSf.out j hlt
        have hfi := strsAt_frozen HSf.out i
        have hci := strsAt_cell HSf.out i (by omega)
        have ex : f j = l[j] := by rw [HHI.out j (Nat.le_refl _)]; simp [List.getD, List.getElem?_eq_getElem hlt]
        rw [ex] at hcj
        have hcall := HP.out wr l[j] (List.getElem_mem hlt) HBf.out
        have HST := Aside0.mk (keptOf_step p l j hlt)
        obtain ⟨x, hx⟩ : ∃ x, x = l[j] := ⟨_, rfl⟩
        rw [← hx] at hcj hcall ex HST
        have HEX := Aside0.mk ex
        have hjz : (j : Int) < (l.length : Int) := by omega
        clear hx ex hfi hci
        cases hpx : p x with
        | false =>
          rw [hpx] at hcall HST
          go_wp2_with ((with_reducible refine gate_dst (N := 28) rfl ?_); go_must (refine goesC_ (some 28) rfl rfl caps HF.out #[.string x] rfl rfl (by (try simp only [List.map_toArray, List.map_cons, List.map_nil]); first | done | rfl) ?_; refine hcall.mono ?_; rintro e w2 ⟨rfl, hb⟩; refine ⟨_, rfl, ?_⟩; have HB3 := Aside0.mk (below_step HBf.out hb); have HS3 := Aside0.mk (strsAt_below HSf.out hb); have hci := strsAt_cell HS3.out i (by omega); have hfi := strsAt_frozen HS3.out i; clear hb))
          go_roundg (l.length - (j + 1))
          case measure => omega
          case rel =>
            have HST' : keptOf p l (j + 1) = keptOf p l j ++ [x] := by have := HST.out; simpa using this
            refine ⟨i + 1, j + 1, _, by go_num, by go_num, by omega, by omega, by omega, ⟨by rw [HST', List.length_append, ← HI.out]; rfl⟩, ⟨strsAt_set HS3.out i x⟩, ⟨fun q hq => ?_⟩, ⟨fun q hq => ?_⟩, ⟨below_setCell HB3.out g i _ HBG.out⟩⟩
            · by_cases e : q = i
              · subst e
                rw [if_pos rfl, HST']
                have hz := HI.out
                simp [List.getD, List.getElem?_append_right (show (keptOf p l j).length ≤ q by omega), ← hz]
              · rw [if_neg e, HLO.out q (by omega), HST']
                have hz := HI.out
                simp [List.getD, List.getElem?_append_left (show q < (keptOf p l j).length by omega)]
            · rw [if_neg (by omega)]
              exact HHI.out q (by omega)
        | true =>
          rw [hpx] at hcall HST
          go_wp2_with ((with_reducible refine gate_dst (N := 28) rfl ?_); go_must (refine goesC_ (some 28) rfl rfl caps HF.out #[.string x] rfl rfl (by (try simp only [List.map_toArray, List.map_cons, List.map_nil]); first | done | rfl) ?_; refine hcall.mono ?_; rintro e w2 ⟨rfl, hb⟩; refine ⟨_, rfl, ?_⟩; have HB3 := Aside0.mk (below_step HBf.out hb); have HS3 := Aside0.mk (strsAt_below HSf.out hb); clear hb))
          go_roundg (l.length - (j + 1))
          case measure => omega
          case rel =>
            have HST' : keptOf p l (j + 1) = keptOf p l j := by have := HST.out; simpa using this
            exact ⟨i, j + 1, f, rfl, by go_num, by omega, by omega, by omega, ⟨by rw [HST']; exact HI.out⟩, HS3, ⟨by rw [HST']; exact HLO.out⟩, ⟨fun q hq => HHI.out q (by omega)⟩, HB3⟩
      · obtain rfl : j = l.length := by omega
        have hltz : ¬ (l.length : Int) < (l.length : Int) := by omega
        have hne : ¬ c = i := by omega
        have hic : i ≤ c := by omega
        obtain ⟨news, hnews⟩ : ∃ news, news = List.replicate (l.length - i) (Value.string ⟨#[]⟩) := ⟨_, rfl⟩
        have hcl : ∀ ty, (Builtin.clear_ #[59] ty #[.slice (some ⟨g, i, none⟩) (l.length - i) (c - i)]).run Try.prog wr = .ok (.tuple #[]) (wr.setCells g i news) := by
          intro ty
          rw [hnews]
          exact Lib.run_clear_slice wr _ _ ty _ Try.underlying59 (fun _ => rfl) rfl rfl g i _ _ (by omega) (fun t ht => by rw [strsAt_cell HSf.out (i + t) (by omega)]; rfl) (fun t ht => strsAt_frozen HSf.out (i + t))
        have HS4 := Aside0.mk (strsAt_clear (o := i) (news := news) HSf.out hnc (by rw [hnews, List.length_replicate]; omega))
        have HB4 := Aside0.mk (below_setCells HBf.out g i news HBG.out)
        clear hnews
        generalize wr.setCells g i news = W4 at hcl HS4 HB4
        go_wp2
        go_ret
        refine ⟨i, rfl, strsAt_R HS4.out HBG.out HOK.out hic HCM.out (by rw [← HFU.out]; exact HI.out.symm) (fun q hq => ?_), HB4.out⟩
        have hqi : q < i := by rw [← HFU.out] at hq; have := HI.out; omega
        rw [HLO.out q hqi]
        simp only [HFU.out]
        simp [List.getD, List.getElem?_eq_getElem hq]
theorem gr_below {w w' : World} {g : Nat} (h : Below w.heap.size w w') : w.grownBy w' (some g) := ⟨h.os, h.tape, h.output, h.size, fun i hi _ => h.block i hi⟩
theorem gr_sets (w : World) (g o : Nat) (vs : List Value) : w.grownBy (w.setCells g o vs) (some g) := by
  obtain ⟨h1, h2, h3, h4⟩ := setCells_same g vs o w
  exact ⟨h1, h2, h3, by rw [h4]; exact Nat.le_refl _, fun i hi hne => setCells_far vs o i (fun e => hne (by rw [e]))⟩
theorem gr_set (w : World) (g o : Nat) (v : Value) : w.grownBy (w.setCell ⟨g, o, none⟩ v) (some g) := gr_sets w g o [v]
set_option maxHeartbeats 2000000 in
set_option maxRecDepth 100000 in
theorem slices_DeleteFunc_string_string.strike2 (F : FuncId) (fn : Func) (hf : Try.prog.funcs[F]? = some fn ∧ (fn.name == "runtime.NumGoroutine") = false ∧ fn.body.isSome = true) (caps : Array Value) (p : ByteArray → Bool)
    (g n c : Nat) (l : List ByteArray) (P0 : Nat → Prop) (w0 w : World) (hB : Below w0.heap.size w0 w) (ho : Kd.R Kd.string 9 w w0.heap.size P0 (.slice (some ⟨g, 0, none⟩) n c) l)
    (hp : ∀ (w1 : World) (x : ByteArray), x ∈ l → w.grownBy w1 (some g) → Calls Try.prog F (#[.string x] ++ caps) w1 fun e w2 => e = .returned (.bool (p x)) ∧ Below w1.heap.size w1 w2) :
    Calls Try.prog 53 #[.slice (some ⟨g, 0, none⟩) n c, .func (.func F) #[] caps] w fun e w' => ∃ m : Nat, e = .returned (.slice (some ⟨g, 0, none⟩) m c) ∧ Kd.R Kd.string 9 w' w0.heap.size P0 (.slice (some ⟨g, 0, none⟩) m c) (l.filter fun x => !p x) ∧ Below w0.heap.size w0 w' ∧ w.grownBy w' (some g) := by
  obtain ⟨hn, hbg, hnc, hcm, hok, hst⟩ := strsAt_of ho
  subst hn
  have HC := Aside0.mk (slices_DeleteFunc_string_string.index F fn hf caps p (some ⟨g, 0, none⟩) c l w (Kd.R_reads' ho).2.2 (fun w1 x hx hb => hp w1 x hx (gr_below hb)))
  have HP := Aside0.mk hp
  have HF := Aside0.mk hf
  have HO := Aside0.mk ho
  have HB := Aside0.mk hB
  have HOK := Aside0.mk hok
  have HS := Aside0.mk hst
  have HBG := Aside0.mk hbg
  have HCM := Aside0.mk hcm
  have hl := (Kd.R_reads' ho).2.2.2.1
  clear hp hf ho hB hok hst hbg hcm
  have hfull : keptOf p l l.length = l.filter fun x => !p x := by unfold keptOf; rw [List.take_length]
  rcases idxI_cases p l with ⟨e1, hall⟩ | ⟨k0, hk0, e1, ht, hall⟩
  · rw [e1] at HC
    have e2 : (l.filter fun x => !p x) = l := by
      rw [← hfull, keptOf_all p l l.length (Nat.le_refl _) (fun j hj _ => hall j hj), List.take_length]
    rw [e2]
    clear e2 hfull hall e1
    go_enter Try.func53, Try.ntmps53
    go_wp2_with (go_at_call 59; refine HC.out.mono ?_; rintro e w' ⟨rfl, hb⟩; have HB2 := Aside0.mk hb; clear hb)
    go_ret
    exact ⟨_, rfl, Kd.R_below HO.out HB2.out, below_step HB.out HB2.out, gr_below HB2.out⟩
  · rw [e1] at HC
    have hne1 : ((k0 : Int) == -1) = false := beq_eq_false_iff_ne.2 (by omega)
    have HK0 := Aside0.mk (show keptOf p l (k0 + 1) = l.take k0 by rw [keptOf_step p l k0 hk0, if_pos ht, keptOf_all p l k0 (by omega) hall])
    have HFU := Aside0.mk hfull
    clear hfull hall ht e1
    go_enter Try.func53, Try.ntmps53
    go_wp2_with (go_at_call 59; refine HC.out.mono ?_; rintro e w' ⟨rfl, hb⟩; have HB2 := Aside0.mk (below_step HB.out hb); have HG2 := Aside0.mk (gr_below (g := g) hb); have HS2 := Aside0.mk (strsAt_below HS.out hb); clear hb)
    go_loopg [5, 6, 7] (l.length - (k0 + 1)) (fun gg s5 s6 _ wr => ∃ (i j : Nat) (f : Nat → ByteArray), s5 = .int .i64 i ∧ s6 = .int .i64 j ∧ i < j ∧ j ≤ l.length ∧ j + gg = l.length ∧ Aside0 (i = (keptOf p l j).length) ∧ Aside0 (strsAt wr g c 9 l.length f) ∧ Aside0 (∀ q, q < i → f q = (keptOf p l j).getD q ByteArray.empty) ∧ Aside0 (∀ q, j ≤ q → f q = l.getD q ByteArray.empty) ∧ Aside0 (Below w0.heap.size w0 wr) ∧ Aside0 (w.grownBy wr (some g)))
    case atStart => exact ⟨k0, k0 + 1, _, rfl, by go_num, by omega, by omega, by omega, ⟨by rw [HK0.out, List.length_take]; omega⟩, HS2, ⟨fun q hq => by rw [HK0.out]; simp [List.getD, List.getElem?_take_of_lt hq]⟩, ⟨fun q _ => rfl⟩, HB2, HG2⟩
    case round =>
      obtain ⟨i, j, f, rfl, rfl, hij, hjl, hj1, HI, HSf, HLO, HHI, HBf, HGf⟩ := hrel
      by_cases hlt : j < l.length
      · have hcj := strsAt_cell HSf.out j hlt
        have hfi := strsAt_frozen HSf.out i
        have hci := strsAt_cell HSf.out i (by omega)
        have ex : f j = l[j] := by rw [HHI.out j (Nat.le_refl _)]; simp [List.getD, List.getElem?_eq_getElem hlt]
        rw [ex] at hcj
        have hcall := HP.out wr l[j] (List.getElem_mem hlt) HGf.out
        have HST := Aside0.mk (keptOf_step p l j hlt)
        obtain ⟨x, hx⟩ : ∃ x, x = l[j] := ⟨_, rfl⟩
        rw [← hx] at hcj hcall ex HST
        have HEX := Aside0.mk ex
        have hjz : (j : Int) < (l.length : Int) := by omega
        clear hx ex hfi hci
        cases hpx : p x with
        | false =>
          rw [hpx] at hcall HST
          go_wp2_with ((with_reducible refine gate_dst (N := 28) rfl ?_); go_must (refine goesC_ (some 28) rfl rfl caps HF.out #[.string x] rfl rfl (by (try simp only [List.map_toArray, List.map_cons, List.map_nil]); first | done | rfl) ?_; refine hcall.mono ?_; rintro e w2 ⟨rfl, hb⟩; refine ⟨_, rfl, ?_⟩; have HB3 := Aside0.mk (below_step HBf.out hb); have HG3 := Aside0.mk (HGf.out.trans (gr_below hb)); have HS3 := Aside0.mk (strsAt_below HSf.out hb); have hci := strsAt_cell HS3.out i (by omega); have hfi := strsAt_frozen HS3.out i; clear hb))
          go_roundg (l.length - (j + 1))
          case measure => omega
          case rel =>
            have HST' : keptOf p l (j + 1) = keptOf p l j ++ [x] := by have := HST.out; simpa using this
            refine ⟨i + 1, j + 1, _, by go_num, by go_num, by omega, by omega, by omega, ⟨by rw [HST', List.length_append, ← HI.out]; rfl⟩, ⟨strsAt_set HS3.out i x⟩, ⟨fun q hq => ?_⟩, ⟨fun q hq => ?_⟩, ⟨below_setCell HB3.out g i _ HBG.out⟩, ⟨HG3.out.trans (gr_set _ _ _ _)⟩⟩
            · by_cases e : q = i
              · subst e
                rw [if_pos rfl, HST']
                have hz := HI.out
                simp [List.getD, List.getElem?_append_right (show (keptOf p l j).length ≤ q by omega), ← hz]
              · rw [if_neg e, HLO.out q (by omega), HST']
                have hz := HI.out
                simp [List.getD, List.getElem?_append_left (show q < (keptOf p l j).length by omega)]
            · rw [if_neg (by omega)]
              exact HHI.out q (by omega)
        | true =>
          rw [hpx] at hcall HST
          go_wp2_with ((with_reducible refine gate_dst (N := 28) rfl ?_); go_must (refine goesC_ (some 28) rfl rfl caps HF.out #[.string x] rfl rfl (by (try simp only [List.map_toArray, List.map_cons, List.map_nil]); first | done | rfl) ?_; refine hcall.mono ?_; rintro e w2 ⟨rfl, hb⟩; refine ⟨_, rfl, ?_⟩; have HB3 := Aside0.mk (below_step HBf.out hb); have HG3 := Aside0.mk (HGf.out.trans (gr_below hb)); have HS3 := Aside0.mk (strsAt_below HSf.out hb); clear hb))
          go_roundg (l.length - (j + 1))
          case measure => omega
          case rel =>
            have HST' : keptOf p l (j + 1) = keptOf p l j := by have := HST.out; simpa using this
            exact ⟨i, j + 1, f, rfl, by go_num, by omega, by omega, by omega, ⟨by rw [HST']; exact HI.out⟩, HS3, ⟨by rw [HST']; exact HLO.out⟩, ⟨fun q hq => HHI.out q (by omega)⟩, HB3, HG3⟩
      · obtain rfl : j = l.length := by omega
        have hltz : ¬ (l.length : Int) < (l.length : Int) := by omega
        have hne : ¬ c = i := by omega
        have hic : i ≤ c := by omega
        obtain ⟨news, hnews⟩ : ∃ news, news = List.replicate (l.length - i) (Value.string ⟨#[]⟩) := ⟨_, rfl⟩
        have hcl : ∀ ty, (Builtin.clear_ #[59] ty #[.slice (some ⟨g, i, none⟩) (l.length - i) (c - i)]).run Try.prog wr = .ok (.tuple #[]) (wr.setCells g i news) := by
          intro ty
          rw [hnews]
          exact Lib.run_clear_slice wr _ _ ty _ Try.underlying59 (fun _ => rfl) rfl rfl g i _ _ (by omega) (fun t ht => by rw [strsAt_cell HSf.out (i + t) (by omega)]; rfl) (fun t ht => strsAt_frozen HSf.out (i + t))
        have HS4 := Aside0.mk (strsAt_clear (o := i) (news := news) HSf.out hnc (by rw [hnews, List.length_replicate]; omega))
        have HB4 := Aside0.mk (below_setCells HBf.out g i news HBG.out)
        have HG4 := Aside0.mk (HGf.out.trans (gr_sets wr g i news))
        clear hnews
        generalize wr.setCells g i news = W4 at hcl HS4 HB4 HG4
        go_wp2
        go_ret
        refine ⟨i, rfl, strsAt_R HS4.out HBG.out HOK.out hic HCM.out (by rw [← HFU.out]; exact HI.out.symm) (fun q hq => ?_), HB4.out, HG4.out⟩
        have hqi : q < i := by rw [← HFU.out] at hq; have := HI.out; omega
        rw [HLO.out q hqi]
        simp only [HFU.out]
        simp [List.getD, List.getElem?_eq_getElem hq]
def slices_DeleteFunc_string_string.f (l0 : List ByteArray) (l1_0 : List Int) (l1_1 : List S35) : Option (List ByteArray) := if (decide (0 < l0.length) && l0.all (fitsB l1_1)) = true then some (l0.filter (freeB l1_1)) else none
theorem slices_DeleteFunc_string_string.calls (P0_ : Nat → Prop) (u9000_ : Value) (l0 : List ByteArray) (A1_0 : Option Addr) (c1_0 : Nat) (l1_0 : List Int) (A1_1 : Option Addr) (c1_1 : Nat) (l1_1 : List S35) (r : List ByteArray) (w0 w : World) (hB : Below w0.heap.size w0 w) (ho0 : Kd.R Kd.string 9 w w0.heap.size P0_ u9000_ l0)
    (hr1_0 : ∀ W', Kept w W' (fun k_ => P0_ k_) → Kd.C (Kd.int .i64) W' A1_0 l1_0.length l1_0) (hc1_0 : l1_0.length ≤ c1_0) (hr1_1 : ∀ W', Kept w W' (fun k_ => P0_ k_) → Kd.C k35 W' A1_1 l1_1.length l1_1) (hc1_1 : l1_1.length ≤ c1_1) (h : slices_DeleteFunc_string_string.f l0 l1_0 l1_1 = some r)
    (b : Nat) (hbx : w.heap[b]? = some (.cells #[.slice A1_0 l1_0.length c1_0, .slice A1_1 l1_1.length c1_1] 31 (0, 0))) (hne : some b ≠ u9000_.ownBlock) :
    Calls Try.prog 53 #[u9000_, .func (.func 54) #[] #[.pointer (some ⟨b, 0, none⟩)]] w fun e w' => ∃ v0_ : Value, e = .returned (v0_) ∧ Kd.R Kd.string 9 w' w0.heap.size (fun k_ => (P0_ k_ ∨ w.heap.size ≤ k_)) v0_ r ∧ Below w0.heap.size w0 w' ∧ Kept w w' (fun k_ => P0_ k_) := by
  unfold slices_DeleteFunc_string_string.f at h
  split at h
  · rename_i hc
    simp only [Bool.and_eq_true, decide_eq_true_eq] at hc
    obtain ⟨hpos, hfit⟩ := hc
    obtain rfl := Option.some.inj h
    obtain ⟨g, c, rfl, _⟩ := Kd.R_form ho0 hpos
    have hP := ho0.1 g (by simp [Value.ownBlock])
    have hgb : g ≠ b := fun e => hne (by rw [e]; rfl)
    have hblt : b < w.heap.size := blk_lt hbx
    refine (slices_DeleteFunc_string_string.strike2 54 Try.f54 states_f1 #[.pointer (some ⟨b, 0, none⟩)] (fun x => !freeB l1_1 x) g l0.length c l0 P0_ w0 w hB ho0 (fun w1 x hx hg => ?_)).mono ?_
    · have hbx1 : w1.heap[b]? = some (.cells #[.slice A1_0 l1_0.length c1_0, .slice A1_1 l1_1.length c1_1] 31 (0, 0)) := (hg.block b hblt (fun e => hgb (by injection e with e; exact e.symm))).trans hbx
      exact states_c1 b A1_0 c1_0 l1_0 A1_1 c1_1 l1_1 x w1 (hr1_1 w1 (Kept.of_grown hg (Kept.refl _ _) (fun k' hk' => by cases hk'; exact .inl hP))) (List.all_eq_true.1 hfit x hx) ((blk_cell hbx1 0).trans rfl) ((blk_cell hbx1 1).trans rfl)
    · rintro e w' ⟨m, rfl, hr, hb, hg⟩
      exact ⟨_, rfl, Kd.R_mono (by simpa using hr) (fun _ hk => .inl hk), hb, Kept.of_grown hg (Kept.refl _ _) (fun k' hk' => by cases hk'; exact .inl hP)⟩
  · cases h

/-! ### impl_Bolts_states: function 38 -/
mutual
def impl_Bolts_states.l0 : Nat → List ByteArray → List Int → Int → Int → List Int → List (S35) → Option (List ByteArray)
 | 0, _, _, _, _, _, _ => none
 | k + 1, x3, x12, x13, x14, x239000, x239001 => if x14 < x13 then (if 0 ≤ x14 then (if x14 < (x12.length : Int) then (impl_Bolts_states.l1 k (rd x12 x14) ([] : List ByteArray) x12 x13 x14 x3 (x3.length : Int) 0 x239000 x239001) else (none)) else (none)) else ((slices_DeleteFunc_string_string.f x3 x239000 x239001).bind fun t242 => (some t242))
def impl_Bolts_states.l1 : Nat → Int → List ByteArray → List Int → Int → Int → List ByteArray → Int → Int → List Int → List (S35) → Option (List ByteArray)
 | 0, _, _, _, _, _, _, _, _, _, _ => none
 | k + 1, x5, x6, x12, x13, x14, x18, x19, x20, x239000, x239001 => if x20 < x19 then (if 0 ≤ x20 then (if x20 < (x18.length : Int) then (impl_Bolts_states.l2 k x5 x6 (rdOf ByteArray.empty x18 x20) x12 x13 x14 x18 x19 x20 x5 0 x239000 x239001) else (none)) else (none)) else (impl_Bolts_states.l0 k x6 x12 x13 (wrap64 (x14 + 1)) x239000 x239001)
def impl_Bolts_states.l2 : Nat → Int → List ByteArray → ByteArray → List Int → Int → Int → List ByteArray → Int → Int → Int → Int → List Int → List (S35) → Option (List ByteArray)
 | 0, _, _, _, _, _, _, _, _, _, _, _, _, _ => none
 | k + 1, x5, x6, x8, x12, x13, x14, x18, x19, x20, x24, x25, x239000, x239001 => if x25 < x24 then ((some (([(48 + ((x25) % 256)) % 256] : List Int) : List Int)).bind fun y247 => (if x8.size + (strOfNums y247).size ≤ 9223372036854775807 then (if x6.length < 8796093022208 then (impl_Bolts_states.l2 k x5 (x6 ++ [x8 ++ (strOfNums y247)]) x8 x12 x13 x14 x18 x19 x20 x24 (wrap64 (x25 + 1)) x239000 x239001) else (none)) else (none))) else (impl_Bolts_states.l1 k x5 x6 x12 x13 x14 x18 x19 (wrap64 (x20 + 1)) x239000 x239001)
end
def impl_Bolts_states.f (k : Nat) (l0_0 : List Int) (l0_1 : List (S35)) : Option (List ByteArray) := impl_Bolts_states.l0 k (([(⟨#[]⟩ : ByteArray)] : List ByteArray)) l0_0 (l0_0.length : Int) 0 l0_0 l0_1
theorem impl_Bolts_states.mono_l : ∀ k, (∀ y0 y1 y2 y3 y4 y5, LeO (impl_Bolts_states.l0 k y0 y1 y2 y3 y4 y5) (impl_Bolts_states.l0 (k + 1) y0 y1 y2 y3 y4 y5)) ∧ (∀ y0 y1 y2 y3 y4 y5 y6 y7 y8 y9, LeO (impl_Bolts_states.l1 k y0 y1 y2 y3 y4 y5 y6 y7 y8 y9) (impl_Bolts_states.l1 (k + 1) y0 y1 y2 y3 y4 y5 y6 y7 y8 y9)) ∧ (∀ y0 y1 y2 y3 y4 y5 y6 y7 y8 y9 y10 y11 y12, LeO (impl_Bolts_states.l2 k y0 y1 y2 y3 y4 y5 y6 y7 y8 y9 y10 y11 y12) (impl_Bolts_states.l2 (k + 1) y0 y1 y2 y3 y4 y5 y6 y7 y8 y9 y10 y11 y12))
 | 0 => ⟨fun _ _ _ _ _ _ r h => by simp [impl_Bolts_states.l0] at h, fun _ _ _ _ _ _ _ _ _ _ r h => by simp [impl_Bolts_states.l1] at h, fun _ _ _ _ _ _ _ _ _ _ _ _ _ r h => by simp [impl_Bolts_states.l2] at h⟩
 | k + 1 => by
  obtain ⟨ih0, ih1, ih2⟩ := impl_Bolts_states.mono_l k
  refine ⟨?_, ?_, ?_⟩
  ·intro y0 y1 y2 y3 y4 y5
   unfold impl_Bolts_states.l0
   repeat' first
   | (with_reducible exact ih0 _ _ _ _ _ _)
   | (with_reducible exact ih1 _ _ _ _ _ _ _ _ _ _)
   | (with_reducible exact ih2 _ _ _ _ _ _ _ _ _ _ _ _ _)
   | (with_reducible exact LeO.refl _)
   | (with_reducible exact LeO.none _)
   | (with_reducible refine LeO.ite ?_ ?_)
   | (with_reducible refine LeO.bind ?_ (fun _ => ?_))
   | exact ih0 _ _ _ _ _ _
   | exact ih1 _ _ _ _ _ _ _ _ _ _
   | exact ih2 _ _ _ _ _ _ _ _ _ _ _ _ _
   | exact LeO.none _
   | refine LeO.ite ?_ ?_
   | refine LeO.bind ?_ (fun _ => ?_)
  ·intro y0 y1 y2 y3 y4 y5 y6 y7 y8 y9
   unfold impl_Bolts_states.l1
   repeat' first
   | (with_reducible exact ih0 _ _ _ _ _ _)
   | (with_reducible exact ih1 _ _ _ _ _ _ _ _ _ _)
   | (with_reducible exact ih2 _ _ _ _ _ _ _ _ _ _ _ _ _)
   | (with_reducible exact LeO.refl _)
   | (with_reducible exact LeO.none _)
   | (with_reducible refine LeO.ite ?_ ?_)
   | (with_reducible refine LeO.bind ?_ (fun _ => ?_))
   | exact ih0 _ _ _ _ _ _
   | exact ih1 _ _ _ _ _ _ _ _ _ _
   | exact ih2 _ _ _ _ _ _ _ _ _ _ _ _ _
   | exact LeO.none _
   | refine LeO.ite ?_ ?_
   | refine LeO.bind ?_ (fun _ => ?_)
  ·intro y0 y1 y2 y3 y4 y5 y6 y7 y8 y9 y10 y11 y12
   unfold impl_Bolts_states.l2
   repeat' first
   | (with_reducible exact ih0 _ _ _ _ _ _)
   | (with_reducible exact ih1 _ _ _ _ _ _ _ _ _ _)
   | (with_reducible exact ih2 _ _ _ _ _ _ _ _ _ _ _ _ _)
   | (with_reducible exact LeO.refl _)
   | (with_reducible exact LeO.none _)
   | (with_reducible refine LeO.ite ?_ ?_)
   | (with_reducible refine LeO.bind ?_ (fun _ => ?_))
   | exact ih0 _ _ _ _ _ _
   | exact ih1 _ _ _ _ _ _ _ _ _ _
   | exact ih2 _ _ _ _ _ _ _ _ _ _ _ _ _
   | exact LeO.none _
   | refine LeO.ite ?_ ?_
   | refine LeO.bind ?_ (fun _ => ?_)
theorem impl_Bolts_states.mono : ∀ a0 a1 k, LeO (impl_Bolts_states.f k a0 a1) (impl_Bolts_states.f (k + 1) a0 a1) := by
 intro a0 a1 k
 obtain ⟨ih0, ih1, ih2⟩ := impl_Bolts_states.mono_l k
 unfold impl_Bolts_states.f
 repeat' first
   | (with_reducible exact ih0 _ _ _ _ _ _)
   | (with_reducible exact ih1 _ _ _ _ _ _ _ _ _ _)
   | (with_reducible exact ih2 _ _ _ _ _ _ _ _ _ _ _ _ _)
   | (with_reducible exact LeO.refl _)
   | (with_reducible exact LeO.none _)
   | (with_reducible refine LeO.ite ?_ ?_)
   | (with_reducible refine LeO.bind ?_ (fun _ => ?_))
   | exact ih0 _ _ _ _ _ _
   | exact ih1 _ _ _ _ _ _ _ _ _ _
   | exact ih2 _ _ _ _ _ _ _ _ _ _ _ _ _
   | exact LeO.none _
   | refine LeO.ite ?_ ?_
   | refine LeO.bind ?_ (fun _ => ?_)
set_option maxHeartbeats 8000000 in
set_option maxRecDepth 100000 in
theorem impl_Bolts_states.calls (k : Nat) (A0_0 : Option Addr) (c0_0 : Nat) (l0_0 : List Int) (A0_1 : Option Addr) (c0_1 : Nat) (l0_1 : List (S35)) (r : List ByteArray) (w : World) (hr0_0 : Kd.C (Kd.int .i64) w A0_0 l0_0.length l0_0) (hc0_0 : l0_0.length ≤ c0_0) (hr0_1 : Kd.C k35 w A0_1 l0_1.length l0_1) (hc0_1 : l0_1.length ≤ c0_1) (h : impl_Bolts_states.f k l0_0 l0_1 = some r) :
  Calls Try.prog 38 #[.agg #[.slice A0_0 l0_0.length c0_0, .slice A0_1 l0_1.length c0_1]] w fun e w' => ∃ v0_ : Value, e = .returned (v0_) ∧ Kd.R Kd.string 9 w' w.heap.size (fun _ => True) v0_ r ∧ Below w.heap.size w w' := by
 have hu31 := Try.underlying31
 have HR0_0 := Aside0.mk hr0_0
 have HC0_0 := Aside0.mk hc0_0
 clear hr0_0 hc0_0
 have HR0_1 := Aside0.mk hr0_1
 have HC0_1 := Aside0.mk hc0_1
 clear hr0_1 hc0_1
 have HB := Aside0.mk (Below.refl w.heap.size w)
 have H : (impl_Bolts_states.l0 k (([(⟨#[]⟩ : ByteArray)] : List ByteArray)) l0_0 (l0_0.length : Int) 0 l0_0 l0_1) = some r := h
 clear h
 obtain ⟨y239, hy239⟩ : ∃ y_ : List ByteArray, y_ = (([(⟨#[]⟩ : ByteArray)] : List ByteArray)) := ⟨_, rfl⟩
 replace H : (impl_Bolts_states.l0 k y239 l0_0 (l0_0.length : Int) 0 l0_0 l0_1) = some r := by first | (rw [hy239]; with_reducible exact H) | (have H2_ := (Option.bind_some _ _).symm.trans H; rw [hy239]; with_reducible exact H2_) | (have H2_ := (Option.bind_some _ _).symm.trans H; with_reducible exact H2_) | with_reducible exact H | (rw [hy239]; exact H) | exact H
 have Ny239 := Aside0.mk hy239
 clear hy239
 have H' := Aside0.mk H
 clear H
 go_enter Try.func38, Try.ntmps38
 go_wp2_with (first | ((with_reducible refine gate_dst (N := 1) rfl ?_); refine box_event ?hg (N := 1) ?hd (cs := #[.slice A0_0 l0_0.length c0_0, .slice A0_1 l0_1.length c0_1]) (t := 31) ?hr ?_; (case hd => rfl); (case hg => rfl); (case hr => first | (go_simp; done) | (go_simp; rfl)); intro gb238 hg w2 hbox hb; have n0_ := Aside0.mk (below_step (by repeat (first | (with_reducible first | exact HB.out | apply below_alloc | apply pw_below_drewN | apply below_drew1) | exact HB.out)) hb); have n1_ := Aside0.mk (hbox); have n2_ := Aside0.mk ((by rw [hg]; exact (below_size (by repeat (first | (with_reducible first | exact HB.out | apply below_alloc | apply pw_below_drewN | apply below_drew1) | exact HB.out))) : w.heap.size ≤ gb238)); have n3_ := Aside0.mk ((by rw [hg]; exact (below_size (by repeat (first | (with_reducible first | exact HB.out | apply below_alloc | apply pw_below_drewN | apply below_drew1) | exact HB.out))) : w.heap.size ≤ gb238)); clear HB; have HB := n0_; have BK238 := n1_; have GW238 := n2_; have GE238 := n3_; clear n0_ n1_ n2_ n3_; clear hb hbox hg) | ((with_reducible refine gate_dst (N := 10) rfl ?_); refine Kd.R_lit Kd.string _ 9 ?hg (N := 10) ?hd (xs := ([(⟨#[]⟩ : ByteArray)] : List ByteArray)) (inner := [.string (⟨#[]⟩ : ByteArray)]) (ok := fun _ => True) (okp := fun _ => True) ?hr ?hp (fun _ hk => hk) trivial (Below.refl _ _) (Nat.le_refl _) (by simp) ?_; (case hd => rfl); (case hg => rfl); (case hr => first | (go_simp; done) | (go_simp; rfl)); (case hp => exact (Reps.one (show Kd.M Kd.string _ _ _ (⟨#[]⟩ : ByteArray) [.string (⟨#[]⟩ : ByteArray)] from rfl) (Reps.none _ _))); intro v240 w3 ho4 hb hg_ hnew_; clear hg_ hnew_; (first | rw [← Ny239.out] at ho4 | (simp only [Int.reduceToNat] at ho4; rw [← Ny239.out] at ho4)); have n0_ := Aside0.mk (Kd.R_lower ho4 (below_size (by repeat (first | (with_reducible first | exact HB.out | apply below_alloc | apply pw_below_drewN | apply below_drew1 | refine below_set ?_ GE238.out) | exact HB.out)))); have n1_ := Aside0.mk (blk_below (g := gb238) (o := .cells #[.slice A0_0 l0_0.length c0_0, .slice A0_1 l0_1.length c0_1] 31 (0, 0)) (by (with_reducible repeat (first | refine blk_drewN ?_ _ | refine blk_drew ?_ | refine blk_alloc ?_ _)); exact BK238.out) hb); have n2_ := Aside0.mk (below_step (by repeat (first | (with_reducible first | exact HB.out | apply below_alloc | apply pw_below_drewN | apply below_drew1 | refine below_set ?_ GE238.out) | exact HB.out)) hb); clear BK238; clear HB; have HO241 := n0_; have BK238 := n1_; have HB := n2_; clear n0_ n1_ n2_; clear hb ho4; have hcz5_0 : w3.cell? ⟨gb238, 0, none⟩ = some (.slice A0_0 l0_0.length c0_0) := (blk_cell BK238.out 0).trans rfl; have hcz5_1 : w3.cell? ⟨gb238, 1, none⟩ = some (.slice A0_1 l0_1.length c0_1) := (blk_cell BK238.out 1).trans rfl; have hfz5_0 := blk_frozen BK238.out 0; have hfz5_1 := blk_frozen BK238.out 1))
 go_loopg [3, 14] k (fun kq v3 v14 w' => ∃ (x3_1 : List ByteArray) (x14_1 : Int), v14 = .int .i64 x14_1 ∧ Aside0 (impl_Bolts_states.l0 kq x3_1 l0_0 (l0_0.length : Int) x14_1 l0_0 l0_1 = some r) ∧ Aside0 (kq ≤ k) ∧ Aside0 (Kd.R Kd.string 9 w' w.heap.size (fun _ => True) v3 x3_1) ∧ Aside0 (w'.heap[gb238]? = some (.cells #[(.slice A0_0 l0_0.length c0_0), (.slice A0_1 l0_1.length c0_1)] 31 (0, 0))) ∧ Aside0 (Below w.heap.size w w'))
 case atStart => exact ⟨(y239), (0), (by first | rfl | (simp; done) | (simp [*]; done)), H', ⟨Nat.le_refl _⟩, ⟨by (with_reducible repeat (first | apply Kd.R_alloc | apply Kd.R_drewN | apply Kd.R_drew)); exact HO241.out⟩, ⟨by (with_reducible repeat (first | refine blk_drewN ?_ _ | refine blk_drew ?_ | refine blk_alloc ?_ _)); exact BK238.out⟩, ⟨by repeat (first | (with_reducible first | exact HB.out | apply below_alloc | apply pw_below_drewN | apply below_drew1 | refine below_set ?_ GE238.out) | exact HB.out)⟩⟩
 case round =>
  clear H'
  try clear p2
  try clear c3
  try clear hcz5_0
  try clear hcz5_1
  try clear hfz5_0
  try clear hfz5_1
  obtain ⟨x3_1, x14_1, rfl, HA, HK1, HO_3, BK238, HB⟩ := hrel
  cases gk with
  | zero => exact absurd HA.out (by simp [impl_Bolts_states.l0])
  | succ k1 =>
   have H := HA.out
   clear HA
   simp only [impl_Bolts_states.l0] at H
   by_cases c6 : x14_1 < (l0_0.length : Int)
   ·rw [if_pos c6] at H
    have c6b0 : decide (x14_1 < (l0_0.length : Int)) = true := decide_eq_true c6
    clear c6
    by_cases c7 : 0 ≤ x14_1
    ·rw [if_pos c7] at H
     have c7b0 : decide (0 ≤ x14_1) = true := decide_eq_true c7
     clear c7
     by_cases c8 : x14_1 < (l0_0.length : Int)
     ·rw [if_pos c8] at H
      have c8b0 : decide (x14_1 < (l0_0.length : Int)) = true := decide_eq_true c8
      clear c8
      have H' := Aside0.mk H
      clear H
      have p245 : 0 ≤ (x14_1 : Int) := of_decide_eq_true (by first | (with_reducible assumption) | assumption)
      have q245 : x14_1 < (l0_0.length : Int) := of_decide_eq_true (by first | (with_reducible assumption) | assumption)
      obtain ⟨ad245, e245, hx245_0⟩ := Kd.at_int HR0_0.out x14_1 p245 q245
      cases e245
      replace hx245_0 := (HB.out.cell (World.block_lt_of_cell? w _ hx245_0)).trans hx245_0
      replace p245 := eq_true p245
      replace q245 := eq_true q245
      obtain ⟨Ao9, co9, eo9⟩ := Kd.R_slice HO_3.out
      subst eo9
      go_wp2
      go_loopg [6, 20] k1 (fun kq v6 v20 w' => ∃ (x6_2 : List ByteArray) (x20_2 : Int), v20 = .int .i64 x20_2 ∧ Aside0 (impl_Bolts_states.l1 kq (rd l0_0 x14_1) x6_2 l0_0 (l0_0.length : Int) x14_1 x3_1 (x3_1.length : Int) x20_2 l0_0 l0_1 = some r) ∧ Aside0 (kq ≤ k1) ∧ Aside0 (Kd.R Kd.string 9 w' w.heap.size (fun k_ => some k_ ≠ ((.slice Ao9 x3_1.length co9) : Value).ownBlock) v6 x6_2) ∧ Aside0 (Kd.R Kd.string 9 w' w.heap.size (fun k_ => some k_ ≠ (v6 : Value).ownBlock) (.slice Ao9 x3_1.length co9) x3_1) ∧ Aside0 (w'.heap[gb238]? = some (.cells #[(.slice (some ad245) l0_0.length c0_0), (.slice A0_1 l0_1.length c0_1)] 31 (0, 0))) ∧ Aside0 (Below w.heap.size w w'))
      case atStart => exact ⟨(([] : List ByteArray)), (0), (by first | rfl | (simp; done) | (simp [*]; done)), H', ⟨Nat.le_refl _⟩, ⟨by first | exact Kd.R_nil _ _ _ _ _ | exact Kd.N_nil _ _ _ _ _ | exact Kd.V_nil _ _ _ _ _ | exact Kd.Q_nil _ _ _ _ _ | exact Kd.S_nil _ _ _ _ _⟩, ⟨by (with_reducible repeat (first | apply Kd.R_alloc | apply Kd.R_drewN | apply Kd.R_drew)); exact Kd.R_mono HO_3.out (fun _ hk => (by simp [Value.ownBlock]))⟩, ⟨by (with_reducible repeat (first | refine blk_drewN ?_ _ | refine blk_drew ?_ | refine blk_alloc ?_ _)); exact BK238.out⟩, ⟨by repeat (first | (with_reducible first | exact HB.out | apply below_alloc | apply pw_below_drewN | apply below_drew1 | refine below_set ?_ GE238.out) | exact HB.out)⟩⟩
      case round =>
       clear H'
       try clear p2
       try clear q2
       try clear hx2
       try clear c3
       try clear c6
       try clear c6b0
       try clear c7
       try clear c7b0
       try clear c8
       try clear c8b0
       try clear hcz5_0
       try clear hcz5_1
       try clear hfz5_0
       try clear hfz5_1
       try clear hx245_0
       try clear p2
       try clear p245
       try clear q245
       obtain ⟨x6_2, x20_2, rfl, HA, HK2, HO_6, HO_18, BK238, HB⟩ := hrel
       cases gk with
       | zero => exact absurd HA.out (by simp [impl_Bolts_states.l1])
       | succ k2 =>
        have H := HA.out
        clear HA
        simp only [impl_Bolts_states.l1] at H
        by_cases c10 : x20_2 < (x3_1.length : Int)
        ·rw [if_pos c10] at H
         have c10b0 : decide (x20_2 < (x3_1.length : Int)) = true := decide_eq_true c10
         clear c10
         by_cases c11 : 0 ≤ x20_2
         ·rw [if_pos c11] at H
          have c11b0 : decide (0 ≤ x20_2) = true := decide_eq_true c11
          clear c11
          by_cases c12 : x20_2 < (x3_1.length : Int)
          ·rw [if_pos c12] at H
           have c12b0 : decide (x20_2 < (x3_1.length : Int)) = true := decide_eq_true c12
           clear c12
           have H' := Aside0.mk H
           clear H
           have p246 : 0 ≤ (x20_2 : Int) := of_decide_eq_true (by first | (with_reducible assumption) | assumption)
           have q246 : x20_2 < (x3_1.length : Int) := of_decide_eq_true (by first | (with_reducible assumption) | assumption)
           obtain ⟨ad246, e246, hx246_0⟩ := Kd.at_string (Kd.R_reads' HO_18.out).2.2 x20_2 p246 q246
           cases e246
           replace p246 := eq_true p246
           replace q246 := eq_true q246
           go_wp2
           go_loopg [6, 25] k2 (fun kq v6 v25 w' => ∃ (x6_3 : List ByteArray) (x25_3 : Int), v25 = .int .i64 x25_3 ∧ Aside0 (impl_Bolts_states.l2 kq (rd l0_0 x14_1) x6_3 (rdOf ByteArray.empty x3_1 x20_2) l0_0 (l0_0.length : Int) x14_1 x3_1 (x3_1.length : Int) x20_2 (rd l0_0 x14_1) x25_3 l0_0 l0_1 = some r) ∧ Aside0 (kq ≤ k2) ∧ Aside0 (Kd.R Kd.string 9 w' w.heap.size (fun k_ => some k_ ≠ ((.slice (some ad246) x3_1.length co9) : Value).ownBlock) v6 x6_3) ∧ Aside0 (Kd.R Kd.string 9 w' w.heap.size (fun k_ => some k_ ≠ (v6 : Value).ownBlock) (.slice (some ad246) x3_1.length co9) x3_1) ∧ Aside0 (w'.heap[gb238]? = some (.cells #[(.slice (some ad245) l0_0.length c0_0), (.slice A0_1 l0_1.length c0_1)] 31 (0, 0))) ∧ Aside0 (Below w.heap.size w w'))
           case atStart => exact ⟨(x6_2), (0), (by first | rfl | (simp; done) | (simp [*]; done)), H', ⟨Nat.le_refl _⟩, ⟨by (with_reducible repeat (first | apply Kd.R_alloc | apply Kd.R_drewN | apply Kd.R_drew)); exact HO_6.out⟩, ⟨by (with_reducible repeat (first | apply Kd.R_alloc | apply Kd.R_drewN | apply Kd.R_drew)); exact HO_18.out⟩, ⟨by (with_reducible repeat (first | refine blk_drewN ?_ _ | refine blk_drew ?_ | refine blk_alloc ?_ _)); exact BK238.out⟩, ⟨by repeat (first | (with_reducible first | exact HB.out | apply below_alloc | apply pw_below_drewN | apply below_drew1 | refine below_set ?_ GE238.out) | exact HB.out)⟩⟩
           case round =>
            clear H'
            try clear c1
            try clear p2
            try clear q2
            try clear hx2
            try clear c3
            try clear c6
            try clear c6b0
            try clear c7
            try clear c7b0
            try clear c8
            try clear c8b0
            try clear c10
            try clear c10b0
            try clear c11
            try clear c11b0
            try clear c12
            try clear c12b0
            try clear hcz5_0
            try clear hcz5_1
            try clear hfz5_0
            try clear hfz5_1
            try clear hx245_0
            try clear hx246_0
            try clear p2
            try clear p245
            try clear p246
            try clear q2
            try clear q245
            try clear q246
            obtain ⟨x6_3, x25_3, rfl, HA, HK3, HO_6, HO_18, BK238, HB⟩ := hrel
            cases gk with
            | zero => exact absurd HA.out (by simp [impl_Bolts_states.l2])
            | succ k3 =>
             have H := HA.out
             clear HA
             simp only [impl_Bolts_states.l2] at H
             by_cases c13 : x25_3 < (rd l0_0 x14_1)
             ·rw [if_pos c13] at H
              have c13b0 : decide (x25_3 < (rd l0_0 x14_1)) = true := decide_eq_true c13
              clear c13
              obtain ⟨y247, hy247⟩ : ∃ y_ : List Int, y_ = (([(48 + ((x25_3) % 256)) % 256] : List Int)) := ⟨_, rfl⟩
              replace H : (if (rdOf ByteArray.empty x3_1 x20_2).size + (strOfNums y247).size ≤ 9223372036854775807 then (if x6_3.length < 8796093022208 then (impl_Bolts_states.l2 k3 (rd l0_0 x14_1) (x6_3 ++ [(rdOf ByteArray.empty x3_1 x20_2) ++ (strOfNums y247)]) (rdOf ByteArray.empty x3_1 x20_2) l0_0 (l0_0.length : Int) x14_1 x3_1 (x3_1.length : Int) x20_2 (rd l0_0 x14_1) (wrap64 (x25_3 + 1)) l0_0 l0_1) else (none)) else (none)) = some r := by first | (rw [hy247]; with_reducible exact H) | (have H2_ := (Option.bind_some _ _).symm.trans H; rw [hy247]; with_reducible exact H2_) | (have H2_ := (Option.bind_some _ _).symm.trans H; with_reducible exact H2_) | with_reducible exact H | (rw [hy247]; exact H) | exact H
              have Ny247 := Aside0.mk hy247
              clear hy247
              by_cases c14 : (rdOf ByteArray.empty x3_1 x20_2).size + (strOfNums y247).size ≤ 9223372036854775807
              ·rw [if_pos c14] at H
               have c14b0 := eq_true c14
               have c14b1 : decide ((rdOf ByteArray.empty x3_1 x20_2).size + (strOfNums y247).size ≤ 9223372036854775807) = true := decide_eq_true c14
               try have c14b2 : (9223372036854775807 < (rdOf ByteArray.empty x3_1 x20_2).size + (strOfNums y247).size) = False := eq_false (Nat.not_lt.2 c14)
               by_cases c15 : x6_3.length < 8796093022208
               ·rw [if_pos c15] at H
                have LMc15 := Aside0.mk c15
                clear c15
                obtain ⟨y250, hy250⟩ : ∃ y_ : List ByteArray, y_ = (x6_3 ++ [(rdOf ByteArray.empty x3_1 x20_2) ++ (strOfNums y247)]) := ⟨_, rfl⟩
                replace H : (impl_Bolts_states.l2 k3 (rd l0_0 x14_1) y250 (rdOf ByteArray.empty x3_1 x20_2) l0_0 (l0_0.length : Int) x14_1 x3_1 (x3_1.length : Int) x20_2 (rd l0_0 x14_1) (wrap64 (x25_3 + 1)) l0_0 l0_1) = some r := by first | (rw [hy250]; with_reducible exact H) | (have H2_ := (Option.bind_some _ _).symm.trans H; rw [hy250]; with_reducible exact H2_) | (have H2_ := (Option.bind_some _ _).symm.trans H; with_reducible exact H2_) | with_reducible exact H | (rw [hy250]; exact H) | exact H
                have Ny250 := Aside0.mk hy250
                clear hy250
                have H' := Aside0.mk H
                clear H
                go_wp2_with (first | ((with_reducible refine gate_dst (N := 33) rfl ?_); refine Kd.R_lit (Kd.int .u8) _ 5 ?hg (N := 33) ?hd (xs := ([(48 + ((x25_3) % 256)) % 256] : List Int)) (inner := [.int .u8 ((48 + ((x25_3) % 256)) % 256)]) (ok := fun _ => True) (okp := fun _ => True) ?hr ?hp (fun _ hk => hk) trivial (Below.refl _ _) (Nat.le_refl _) (by simp) ?_; (case hd => rfl); (case hg => rfl); (case hr => first | (go_simp; done) | (go_simp; rfl)); (case hp => exact (Reps.one (show Kd.M (Kd.int .u8) _ _ _ ((48 + ((x25_3) % 256)) % 256) [.int .u8 ((48 + ((x25_3) % 256)) % 256)] from rfl) (Reps.none _ _))); intro v248 w16 ho17 hb hg_ hnew_; clear hg_ hnew_; (first | rw [← Ny247.out] at ho17 | (simp only [Int.reduceToNat] at ho17; rw [← Ny247.out] at ho17)); have n0_ := Aside0.mk (Kd.R_below (by (with_reducible repeat (first | apply Kd.R_alloc | apply Kd.R_drewN | apply Kd.R_drew)); exact HO_6.out) hb); have n1_ := Aside0.mk (Kd.R_below (by (with_reducible repeat (first | apply Kd.R_alloc | apply Kd.R_drewN | apply Kd.R_drew)); exact HO_18.out) hb); have n2_ := Aside0.mk (Kd.R_lower ho17 (below_size (by repeat (first | (with_reducible first | exact HB.out | apply below_alloc | apply pw_below_drewN | apply below_drew1 | refine below_set ?_ GE238.out) | exact HB.out)))); have n3_ := Aside0.mk (blk_below (g := gb238) (o := .cells #[.slice (some ad245) l0_0.length c0_0, .slice A0_1 l0_1.length c0_1] 31 (0, 0)) (by (with_reducible repeat (first | refine blk_drewN ?_ _ | refine blk_drew ?_ | refine blk_alloc ?_ _)); exact BK238.out) hb); have n4_ := Aside0.mk (below_step (by repeat (first | (with_reducible first | exact HB.out | apply below_alloc | apply pw_below_drewN | apply below_drew1 | refine below_set ?_ GE238.out) | exact HB.out)) hb); clear HO_6; clear HO_18; clear BK238; clear HB; have HO_6 := n0_; have HO_18 := n1_; have HO249 := n2_; have BK238 := n3_; have HB := n4_; clear n0_ n1_ n2_ n3_ n4_; clear hb ho17; have hcv18 := own_string (P := Try.prog) Try.underlying73 Try.underlying5 Try.underlying9 (Kd.own_of_R HO249.out)) | ((with_reducible refine gate_builtin (b := .append) (xs := #[.tmp 28, .tmp 36]) rfl ?_); at_builtin; refine Kd.R_append Kd.string (w0 := w) w.heap.size rfl (.tmp 28) (.tmp 36) 59 9 (.string ⟨#[]⟩) 16 rfl Try.underlying59 info9 rfl (by decide) (by omega) u6 x6_3 ((rdOf ByteArray.empty x3_1 x20_2) ++ (strOfNums y247)) [.string ((rdOf ByteArray.empty x3_1 x20_2) ++ (strOfNums y247))] (fun k_ => some k_ ≠ (.slice (some ad246) x3_1.length co9 : Value).ownBlock) (fun _ => False) rfl rfl ?aP (fun _ hk => hk.elim) ?aF ?aO ?aB ?aS ?aL ?_; (case aP => exact rfl); (case aB => exact (by repeat (first | (with_reducible first | exact HB.out | apply below_alloc | apply pw_below_drewN | apply below_drew1 | refine below_set ?_ GE238.out) | exact HB.out))); (case aF => exact (fun k_ hk => Kd.fresh' (Kd.R_lt (by (with_reducible repeat (first | apply Kd.R_alloc | apply Kd.R_drewN | apply Kd.R_drew)); exact HO_18.out)) k_ hk)); (case aO => exact (by (with_reducible repeat (first | apply Kd.R_alloc | apply Kd.R_drewN | apply Kd.R_drew)); exact HO_6.out)); (case aS => exact (below_size (by repeat (first | (with_reducible first | exact HB.out | apply below_alloc | apply pw_below_drewN | apply below_drew1 | refine below_set ?_ GE238.out) | exact HB.out)))); (case aL => have := LMc15.out; omega); intro v251 w19 ho hb hg hat; rw [← Ny250.out] at ho; have n0_ := Aside0.mk (Kd.R_after (ok := (fun _ => True)) (by (with_reducible repeat (first | apply Kd.R_alloc | apply Kd.R_drewN | apply Kd.R_drew)); exact Kd.R_mono HO_18.out (fun _ hk => ⟨trivial, hk⟩)) hg hat); have n1_ := Aside0.mk (blk_grown (g := gb238) (o := .cells #[.slice (some ad245) l0_0.length c0_0, .slice A0_1 l0_1.length c0_1] 31 (0, 0)) (by (with_reducible repeat (first | refine blk_drewN ?_ _ | refine blk_drew ?_ | refine blk_alloc ?_ _)); exact BK238.out) hg (Kd.R_ne HO_6.out BK238.out (by decide))); have n2_ := Aside0.mk (Kd.R_over' (by (with_reducible repeat (first | apply Kd.R_alloc | apply Kd.R_drewN | apply Kd.R_drew)); exact HO249.out) (Kd.R_typed (by (with_reducible repeat (first | apply Kd.R_alloc | apply Kd.R_drewN | apply Kd.R_drew)); exact HO_6.out)) (by decide) hg); have n3_ := Aside0.mk (hb); have n4_ := Aside0.mk (ho); clear HO_18; clear BK238; clear HO249; clear HB; clear HO_6; have HO_18 := n0_; have BK238 := n1_; have HO249 := n2_; have HB := n3_; have HO252 := n4_; clear n0_ n1_ n2_ n3_ n4_; clear ho hb hg hat))
                go_roundg k3
                case measure => have := HK1.out; have := HK2.out; have := HK3.out; omega
                case rel => exact ⟨(y250), (wrap64 (x25_3 + 1)), (by first | rfl | (simp; done) | (simp [*]; done)), H', ⟨by have := HK1.out; have := HK2.out; have := HK3.out; omega⟩, ⟨by (with_reducible repeat (first | apply Kd.R_alloc | apply Kd.R_drewN | apply Kd.R_drew)); exact HO252.out⟩, ⟨by (with_reducible repeat (first | apply Kd.R_alloc | apply Kd.R_drewN | apply Kd.R_drew)); exact Kd.R_mono HO_18.out (fun _ hk => hk.2)⟩, ⟨by (with_reducible repeat (first | refine blk_drewN ?_ _ | refine blk_drew ?_ | refine blk_alloc ?_ _)); exact BK238.out⟩, ⟨by repeat (first | (with_reducible first | exact HB.out | apply below_alloc | apply pw_below_drewN | apply below_drew1 | refine below_set ?_ GE238.out) | exact HB.out)⟩⟩
               ·rw [if_neg c15] at H
                exact absurd H (by simp)
              ·rw [if_neg c14] at H
               exact absurd H (by simp)
             ·rw [if_neg c13] at H
              have c13b0 : decide (x25_3 < (rd l0_0 x14_1)) = false := decide_eq_false c13
              clear c13
              have H' := Aside0.mk H
              clear H
              go_wp2
              go_roundg k3
              case measure => have := HK1.out; have := HK2.out; have := HK3.out; omega
              case rel => exact ⟨(x6_3), (wrap64 (x20_2 + 1)), (by first | rfl | (simp; done) | (simp [*]; done)), H', ⟨by have := HK1.out; have := HK2.out; have := HK3.out; omega⟩, ⟨by (with_reducible repeat (first | apply Kd.R_alloc | apply Kd.R_drewN | apply Kd.R_drew)); exact HO_6.out⟩, ⟨by (with_reducible repeat (first | apply Kd.R_alloc | apply Kd.R_drewN | apply Kd.R_drew)); exact HO_18.out⟩, ⟨by (with_reducible repeat (first | refine blk_drewN ?_ _ | refine blk_drew ?_ | refine blk_alloc ?_ _)); exact BK238.out⟩, ⟨by repeat (first | (with_reducible first | exact HB.out | apply below_alloc | apply pw_below_drewN | apply below_drew1 | refine below_set ?_ GE238.out) | exact HB.out)⟩⟩
          ·rw [if_neg c12] at H
           exact absurd H (by simp)
         ·rw [if_neg c11] at H
          exact absurd H (by simp)
        ·rw [if_neg c10] at H
         have c10b0 : decide (x20_2 < (x3_1.length : Int)) = false := decide_eq_false c10
         clear c10
         have H' := Aside0.mk H
         clear H
         go_wp2
         go_roundg k2
         case measure => have := HK1.out; have := HK2.out; omega
         case rel => exact ⟨(x6_2), (wrap64 (x14_1 + 1)), (by first | rfl | (simp; done) | (simp [*]; done)), H', ⟨by have := HK1.out; have := HK2.out; omega⟩, ⟨by (with_reducible repeat (first | apply Kd.R_alloc | apply Kd.R_drewN | apply Kd.R_drew)); exact Kd.R_mono HO_6.out (fun _ hk => trivial)⟩, ⟨by (with_reducible repeat (first | refine blk_drewN ?_ _ | refine blk_drew ?_ | refine blk_alloc ?_ _)); exact BK238.out⟩, ⟨by repeat (first | (with_reducible first | exact HB.out | apply below_alloc | apply pw_below_drewN | apply below_drew1 | refine below_set ?_ GE238.out) | exact HB.out)⟩⟩
     ·rw [if_neg c8] at H
      exact absurd H (by simp)
    ·rw [if_neg c7] at H
     exact absurd H (by simp)
   ·rw [if_neg c6] at H
    have c6b0 : decide (x14_1 < (l0_0.length : Int)) = false := decide_eq_false c6
    clear c6
    replace H := Option.bind_eq_some_iff.mp H
    obtain ⟨t242, A200, H⟩ := H
    replace H : (some t242) = some r := H
    have A20 := Aside0.mk A200
    clear A200
    obtain rfl := Option.some.inj H
    have hcz21_0 : wr.cell? ⟨gb238, 0, none⟩ = some (.slice A0_0 l0_0.length c0_0) := (blk_cell BK238.out 0).trans rfl
    have hcz21_1 : wr.cell? ⟨gb238, 1, none⟩ = some (.slice A0_1 l0_1.length c0_1) := (blk_cell BK238.out 1).trans rfl
    have hfz21_0 := blk_frozen BK238.out 0
    have hfz21_1 := blk_frozen BK238.out 1
    obtain ⟨Ao22, co22, eo22⟩ := Kd.R_slice HO_3.out
    subst eo22
    have hmf : ∀ (fn : Fn) (first cap : Array Value) (w : World), (Instr.makeFunc fn first cap).run Try.prog w = .ok (.func fn first cap) w := fun _ _ _ _ => rfl
    go_wp2_with (first | (go_at_call 53; refine (slices_DeleteFunc_string_string.calls (fun k_ => some k_ = (.slice Ao22 x3_1.length co22 : Value).ownBlock) (.slice Ao22 x3_1.length co22) x3_1 _ _ l0_0 _ _ l0_1 t242 w _ ?side1 ?side2 ?side3 ?side4 ?side5 ?side6 A20.out gb238 (by (with_reducible repeat (first | refine blk_drewN ?_ _ | refine blk_drew ?_ | refine blk_alloc ?_ _)); exact BK238.out) (fun e_ => (Kd.R_ne HO_3.out BK238.out (by decide)) e_)).mono ?_; (case side1 => repeat (first | (with_reducible first | exact HB.out | apply below_alloc | apply pw_below_drewN | apply below_drew1 | refine below_set ?_ GE238.out) | exact HB.out)); (case side2 => exact Kd.R_tight rfl HO_3.out); (case side3 => exact Kd.C_kept_came (Kd.heap_int .i64) HR0_0.out (by repeat (first | (with_reducible first | exact HB.out | apply below_alloc | apply pw_below_drewN | apply below_drew1 | refine below_set ?_ GE238.out) | exact HB.out)) (fun k_ hs_ => (fun e_ => Kd.R_base HO_3.out k_ e_.symm) hs_)); (case side4 => exact HC0_0.out); (case side5 => exact Kd.C_kept_came k35_heap HR0_1.out (by repeat (first | (with_reducible first | exact HB.out | apply below_alloc | apply pw_below_drewN | apply below_drew1 | refine below_set ?_ GE238.out) | exact HB.out)) (fun k_ hs_ => (fun e_ => Kd.R_base HO_3.out k_ e_.symm) hs_)); (case side6 => exact HC0_1.out); rintro e w23 ⟨v243, rfl, ho0, hb, hkp⟩; have n0_ := Aside0.mk (blk_kept (by (with_reducible repeat (first | refine blk_drewN ?_ _ | refine blk_drew ?_ | refine blk_alloc ?_ _)); exact BK238.out) hkp (fun hs_ => (fun e_ => (Kd.R_ne HO_3.out BK238.out (by decide)) e_) hs_)); have n1_ := Aside0.mk (Kd.R_mono (ok' := fun k_ => True) ho0 (fun k_ hk_ => trivial)); have n2_ := Aside0.mk (hb); clear BK238; clear HB; clear HO_3; have BK238 := n0_; have HO244 := n1_; have HB := n2_; clear n0_ n1_ n2_; (try clear hb); (try clear hkp); (try clear ho0)))
    go_ret
    exact ⟨_, by first | rfl | (simp [errW_none, errW_some] <;> rfl) | (simp [*, errW_none, errW_some] <;> rfl), by (with_reducible repeat (first | apply Kd.R_alloc | apply Kd.R_drewN | apply Kd.R_drew)); exact HO244.out, by repeat (first | (with_reducible first | exact HB.out | apply below_alloc | apply pw_below_drewN | apply below_drew1 | refine below_set ?_ GE238.out) | exact HB.out)⟩

end Go.Proofs.Ytpjdlobkeafacaa.PNeedlessBlocks
