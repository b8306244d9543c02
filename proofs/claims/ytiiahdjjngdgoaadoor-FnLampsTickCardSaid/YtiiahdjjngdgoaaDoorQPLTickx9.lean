-- squeezed (sq3.py); PRINTED by drive.py (a program of this session's, over the kit's print.py; wip/tools/drive.py). Lean checks it.
import Derived.Test.YtiiahdjjngdgoaaDoorQPLTickx0
import Derived.Test.YtiiahdjjngdgoaaDoorQPLTickx1
import Derived.Test.YtiiahdjjngdgoaaDoorQPLTickx3
import Derived.Test.YtiiahdjjngdgoaaDoorQPLTickx4
import Derived.Test.YtiiahdjjngdgoaaDoorQPLTickx5
import Derived.Test.YtiiahdjjngdgoaaDoorQSq
namespace Go.Proofs.YtiiahdjjngdgoaaDoor.PLTick
open Go.RowKit Go.Proofs.YtiiahdjjngdgoaaDoorW.PrintWords Go.Proofs.YtiiahdjjngdgoaaDoorW.PrintLast Go.Proofs.YtiiahdjjngdgoaaDoorW.PrintMore
attribute [local go_sem] max2_int min2_int max_two min_two max_three min_three max_four min_four   -- for this text's walks alone
set_option linter.unusedVariables false
set_option linter.unusedSimpArgs false

/-! ### spec_DrawTickOnce: function 86 -/
def spec_DrawTickOnce.f (k : Nat) (l0 : List Int) : Option (List ByteArray × ByteArray) := (spec_l1Cur_lamps.f k l0 0 0).bind fun bt319 => ((spec_l1Cur_lit.f k l0 bt319.2.1 bt319.2.2 bt319.1).bind fun bt325 => (some (bt319.1, bt325.1)))
instance spec_DrawTickOnce.mI (k : Nat) : Mo (spec_DrawTickOnce.f k) (spec_DrawTickOnce.f (k + 1)) := by
 (repeat refine mE fun _ => ?_); unfold spec_DrawTickOnce.f; exact mG
theorem spec_DrawTickOnce.mono : ∀ a0 k, LeO (spec_DrawTickOnce.f k a0) (spec_DrawTickOnce.f (k + 1) a0) := fun a0 k => (spec_DrawTickOnce.mI k).out a0
set_option maxHeartbeats 8000000 in
set_option maxRecDepth 100000 in
theorem spec_DrawTickOnce.calls (k : Nat) (A0 : Option Addr) (c0 : Nat) (l0 : List Int) (r1 : List ByteArray) (r2 : ByteArray) (w : World) (hr0 : Kd.C (Kd.int .u8) w A0 l0.length l0) (hc0 : l0.length ≤ c0) (h : spec_DrawTickOnce.f k l0 = some (r1, r2)) :
  Calls Tryd.prog 86 #[.slice A0 l0.length c0] w fun e w' => ∃ v0_ : Value, e = .returned (.tuple #[.agg #[v0_], .string r2]) ∧ Kd.R Kd.string 9 w' w.heap.size (fun _ => True) v0_ r1 ∧ Below w.heap.size w w' := by
 have hu26 := Tryd.underlying26
 have hu73 := Tryd.underlying73
 have HR0 := aM hr0
 have HC0 := aM hc0
 clear hr0 hc0
 have HB := aM (Below.refl w.heap.size w)
 have H := h
 clear h; unfold spec_DrawTickOnce.f at H
 replace H := bC H; obtain ⟨⟨t319, t322, t323⟩, A2, H⟩ := H; try dsimp only at H
 replace H := bC H; obtain ⟨⟨t325, t326, t327⟩, A3, H⟩ := H; try dsimp only at H
 simp only [Option.some.injEq, Prod.mk.injEq] at H
 obtain ⟨rfl, rfl⟩ := H
 go_enter Tryd.func86, Tryd.ntmps86
 try go_wp2_with (first | (refine bX (N := 2) rfl (cs := #[.slice none 0 0]) (t := 26) ?_; intro gb317 hg w4 BK317 hb; have GW317 := gE hg HB; have GE317 := gE hg HB; replace HB := hS HB hb; clear hb hg) | ((with_reducible refine gate_dst (N := 8) rfl ?_); refine box_event ?hg (N := 8) ?hd (cs := #[.slice A0 l0.length c0, .int .i64 0, .int .u64 0]) (t := 73) ?hr ?_; (case hd => rfl); (case hg => rfl); (case hr => first | (go_simp; done) | (go_simp; rfl)); intro gb318 hg w5 hbox hb; have HI318 := sS73 ((show IsS73 w w5 gb318 l0 0 0 from ⟨_, _, hbox, (by rw [hg]; exact (below_size (bel HB)) : w.heap.size ≤ gb318), HR0.out⟩)); have GI_HI318 := IsS73.geI HI318; have NB318_317 := nbR hg BK317; have NB317_318 := nbL hg BK317; replace BK317 := bB BK317 hb; replace HB := hS HB hb; clear hb hbox hg) | ((with_reducible refine gG 68 (some 10) rfl rfl ?_); refine gD Tryd.func68 (spec_l1Cur_lamps.calls k gb318 l0 0 0 t319 t322 t323 w _ tS73 (bel HB) A2.out) ?_; rintro w6 v320 ⟨ho0, hi, hb, hk⟩; have HO321 := rL ho0 HB; replace BK317 := aM (KeepBut.blk hk (g' := gb317) (o := .cells #[.slice none 0 0] 26 (0, 0)) (bU BK317.out) NB317_318.out (by simp)); replace HB := aM (hb); replace HI318 := sS73 (hi); clear hb hk hi ho0) | (refine bX (N := 5) rfl (cs := #[.slice none 0 0]) (t := 26) ?_; intro gb324 hg w7 BK324 hb; have GW324 := gE hg HB; have GE324 := gE hg HB; have NB317_324 := nbL hg BK317; have NB324_317 := nbR hg BK317; have NB318_324 := (nbI hg : Ap gb318 gb324); have NB324_318 := (nbJ hg : Ap gb324 gb318); replace HO321 := rB HO321 hb; replace BK317 := bB BK317 hb; replace HI318 := bS73 gb318 hb; replace HB := hS HB hb; clear hb hg; obtain ⟨Ao8, co8, eo8⟩ := Kd.R_slice HO321.out; subst eo8; have hnb9 := NB324_317.out; have hnc9 := NB317_324.out; have hnb10 := NB324_318.out; have hnc10 := NB318_324.out; obtain ⟨hcz11_0, hfz11_0⟩ := hC1 BK324))
 have n0_ : Aside0 (Kd.R Kd.string 9 (w7.setCell ⟨gb324, 0, none⟩ (.slice Ao8 t319.length co8)) w.heap.size (fun _ => True) (.slice Ao8 t319.length co8) t319) := ⟨rU (Kd.R_mono (Kd.R_far (p := ⟨gb324, 0, none⟩) (Kd.R_types HO321.out BK324.out (by decide)) (fun _ hk => hk.2) (.slice Ao8 t319.length co8)) (fun _ hk => trivial))⟩
 have n1_ : Aside0 ((w7.setCell ⟨gb324, 0, none⟩ (.slice Ao8 t319.length co8)).heap[gb317]? = some (.cells #[.slice none 0 0] 26 (0, 0))) := ⟨by (with_reducible repeat (first | refine blk_drewN ?_ _ | refine blk_drew ?_ | refine blk_alloc ?_ _)); refine blk_far ?_ NB317_324.out _; (with_reducible repeat (first | refine blk_drewN ?_ _ | refine blk_drew ?_ | refine blk_alloc ?_ _)); exact BK317.out⟩
 have n2_ : Aside0 ((w7.setCell ⟨gb324, 0, none⟩ (.slice Ao8 t319.length co8)).heap[gb324]? = some (.cells #[.slice Ao8 t319.length co8] 26 (0, 0))) := ⟨by (with_reducible repeat (first | refine blk_drewN ?_ _ | refine blk_drew ?_ | refine blk_alloc ?_ _)); refine blk_put (cs := #[.slice none 0 0]) ?_ 0 _ rfl; (with_reducible repeat (first | refine blk_drewN ?_ _ | refine blk_drew ?_ | refine blk_alloc ?_ _)); exact BK324.out⟩
 have n3_ : IsC73 w (w7.setCell ⟨gb324, 0, none⟩ (.slice Ao8 t319.length co8)) gb318 l0 t322 t323 := ⟨tS73⟩
 have n4_ : Aside0 (Below w.heap.size w (w7.setCell ⟨gb324, 0, none⟩ (.slice Ao8 t319.length co8))) := hV HB
 (try clear HO321)
 (try clear BK317)
 (try clear BK324)
 (try clear HI318)
 (try clear HB)
 generalize (w7.setCell ⟨gb324, 0, none⟩ (.slice Ao8 t319.length co8)) = w12 at n0_ n1_ n2_ n3_ n4_ ⊢
 have HO321 := n0_
 have BK317 := n1_
 have BK324 := n2_
 have HI318 := n3_
 have HB := n4_
 clear n0_ n1_ n2_ n3_ n4_
 have n0_ := aM (Kd.R_drew HO321.out)
 have n1_ := aM (blk_drew BK317.out)
 have n2_ := aM (blk_drew BK324.out)
 have n3_ := sS73 (IsS73.drew HI318.out)
 have n4_ := aM (below_drew1 HB.out)
 clear HO321
 clear BK317
 clear BK324
 clear HI318
 clear HB
 have HO321 := n0_
 have BK317 := n1_
 have BK324 := n2_
 have HI318 := n3_
 have HB := n4_
 clear n0_ n1_ n2_ n3_ n4_
 refine start_ (n := 6) (S := fun w' => w'.cell? ⟨gb324, 0, none⟩ = some (.slice Ao8 t319.length co8)) (ds := []) #[false, false, false, false, false, false] (by kernel_rfl) rfl rfl ((blk_cell BK324.out 0).trans rfl) (fun hHeld => ?_)
 generalize w12.drew = w13 at HO321 BK317 BK324 HI318 HB hHeld ⊢
 refine pure_ (i := 1) (N := some 12) (v := ?_) (a' := ?_) #[false, true, false, false, false, false] rfl rfl (by kernel_rfl) (fun _ _ _ h => h) (Or.inl ⟨by rfl, ?_⟩) ?_ ?_
 rotate_left
 ·intro w'
  go_simp
  with_reducible rfl
 rotate_left
 ·simp only [Act.put, List.setIfInBounds_toArray, List.set_cons_zero, List.set_cons_succ, i64_w, i32_w]
  rfl
 refine take_ (i := 0) (N := some 11) (v := ?_) (a' := ?_) #[true, true, false, false, false, false] rfl rfl (by kernel_rfl) (fun _ _ _ h => h) (Or.inl ⟨by rfl, ?_⟩) hHeld ?_ ?_
 rotate_left
 ·intro w' s0
  go_simp
  with_reducible rfl
 rotate_left
 ·simp only [Act.put, List.setIfInBounds_toArray, List.set_cons_zero, List.set_cons_succ, i64_w, i32_w]
  rfl
 refine take_ (i := 2) (N := some 13) (v := ?_) (a' := ?_) #[true, true, true, false, false, false] rfl rfl (by kernel_rfl) (fun _ _ _ h => h) (Or.inl ⟨by rfl, ?_⟩) hHeld ?_ ?_
 rotate_left
 ·intro w' s0
  go_simp
  with_reducible rfl
 rotate_left
 ·simp only [Act.put, List.setIfInBounds_toArray, List.set_cons_zero, List.set_cons_succ, i64_w, i32_w]
  rfl
 refine one_ (i := 3) (N := some 14) #[true, true, true, true, false, false] rfl rfl (by kernel_rfl) (by decide) (fun K hK => ?_)
 refine goes_ Tryd.func69 (by kernel_rfl) rfl #[.pointer (some ⟨gb318, 0, none⟩), .agg #[.slice Ao8 t319.length co8]] (by rfl) rfl rfl (by (try simp only [List.map_toArray, List.map_cons, List.map_nil]); first | done | rfl | (simp only [List.length_drop, List.length_take]; rfl)) ?_
 with_reducible refine (spec_l1Cur_lit.calls k gb318 l0 t322 t323 _ _ t319 t325 t326 t327 w _ ?side1 ?side2 ?side3 ?side4 ?side5 A3.out).mono ?_
 (case side1 => exact tS73)
 (case side2 => exact bel HB)
 (case side3 => exact cU ((Kd.R_reads' HO321.out).2.2))
 (case side4 => exact (Kd.R_reads' HO321.out).2.1)
 (case side5 => exact far_slice (IsS73.own_ne HI318.out HO321.out (by decide)))
 rintro e w14 ⟨rfl, hi, hb, hk⟩
 refine ⟨_, rfl, ?_⟩
 have n0_ := aM (KeepBut.blk hk (g' := gb317) (o := .cells #[.slice none 0 0] 26 (0, 0)) (bU BK317.out) NB317_318.out (by simp))
 have n1_ := aM (Kd.R_mono (Kd.R_keep (IsS73.apart (show IsS73 w _ gb318 l0 t322 t323 from tS73) (rU HO321.out) (by decide)) hk (fun _ h => h.2)) (fun _ h => h.1))
 have n2_ := aM (KeepBut.blk hk (g' := gb324) (o := .cells #[.slice Ao8 t319.length co8] 26 (0, 0)) (bU BK324.out) NB324_318.out (by simp))
 have n3_ := aM (hb)
 have n4_ := sS73 (hi)
 clear BK317
 clear HO321
 clear BK324
 clear HB
 clear HI318
 have BK317 := n0_
 have HO321 := n1_
 have BK324 := n2_
 have HB := n3_
 have HI318 := n4_
 clear n0_ n1_ n2_ n3_ n4_
 (try clear hb)
 (try clear hb2)
 (try clear hk)
 (try clear hi)
 refine hK.out _ _ ((blk_cell BK324.out 0).trans rfl) (fun hHeld => ?_)
 clear hK K
 refine norm_ (a' := ?_) ?_ ?_
 rotate_left
 ·show Act.put _ (some 14) _ = _
  simp only [Act.put, List.setIfInBounds_toArray, List.set_cons_zero, List.set_cons_succ, i64_w, i32_w]
  rfl
 refine one_ (i := 4) (N := none) #[true, true, true, true, true, false] rfl rfl (by kernel_rfl) (by decide) (fun K hK => ?_)
 have hs15 : w14.cell? ⟨gb317, 0, none⟩ = some (.slice none 0 0) := (blk_cell BK317.out 0).trans rfl
 have hfs15 := blk_frozen BK317.out 0
 have hns15_1 := NB324_317.out
 have hms15_1 := NB317_324.out
 refine skip_ (w1 := ?_) (by rfl) rfl ?_ ?_
 rotate_left
 ·go_simp
  rfl
 refine hK.out _ _ (((cell_far (p := ⟨gb317, _, none⟩) NB324_317.out _).trans (hHeld))) (fun hHeld => ?_)
 clear hK K
 refine pure_ (i := 5) (N := some 3) (v := ?_) (a' := ?_) #[true, true, true, true, true, true] rfl rfl (by kernel_rfl) (fun _ _ _ h => h) (Or.inl ⟨by rfl, ?_⟩) ?_ ?_
 rotate_left
 ·intro w'
  go_simp
  with_reducible rfl
 rotate_left
 ·simp only [Act.put, List.setIfInBounds_toArray, List.set_cons_zero, List.set_cons_succ, i64_w, i32_w]
  rfl
 refine done_ (by kernel_rfl) ?_
 try go_wp2
 refine bodyPost_ret (results_ct rfl _ _ gb317 26 #[.slice Ao8 t319.length co8] (0, 0) _ rfl (by (with_reducible repeat (first | refine blk_drewN ?_ _ | refine blk_drew ?_ | refine blk_alloc ?_ _)); refine blk_put (cs := #[.slice none 0 0]) ?_ 0 _ rfl; (with_reducible repeat (first | refine blk_drewN ?_ _ | refine blk_drew ?_ | refine blk_alloc ?_ _)); exact BK317.out) Tryd.underlying26 rfl (by kernel_rfl)) rfl ?_
 exact ⟨_, eW, rU (Kd.R_mono (Kd.R_far (p := ⟨gb317, 0, none⟩) (Kd.R_types HO321.out BK317.out (by decide)) (fun _ hk => hk.2) (.slice Ao8 t319.length co8)) (fun _ hk => trivial)), bel HB⟩

/-! ### spec_DrawCycleOfLamps: function 16 -/
def spec_DrawCycleOfLamps.f (k : Nat) (l0 : List Int) : Option (List ByteArray × ByteArray) := (spec_DrawTickOnce.f k l0).bind fun bt329 => (some (bt329.1, bt329.2))
instance spec_DrawCycleOfLamps.mI (k : Nat) : Mo (spec_DrawCycleOfLamps.f k) (spec_DrawCycleOfLamps.f (k + 1)) := by
 (repeat refine mE fun _ => ?_); unfold spec_DrawCycleOfLamps.f; exact mG
theorem spec_DrawCycleOfLamps.mono : ∀ a0 k, LeO (spec_DrawCycleOfLamps.f k a0) (spec_DrawCycleOfLamps.f (k + 1) a0) := fun a0 k => (spec_DrawCycleOfLamps.mI k).out a0
set_option maxHeartbeats 8000000 in
set_option maxRecDepth 100000 in
theorem spec_DrawCycleOfLamps.calls (k : Nat) (A0 : Option Addr) (c0 : Nat) (l0 : List Int) (r1 : List ByteArray) (r2 : ByteArray) (w : World) (hr0 : Kd.C (Kd.int .u8) w A0 l0.length l0) (hc0 : l0.length ≤ c0) (h : spec_DrawCycleOfLamps.f k l0 = some (r1, r2)) :
  Calls Tryd.prog 16 #[.slice A0 l0.length c0] w fun e w' => ∃ v0_ : Value, e = .returned (.tuple #[.agg #[v0_], .string r2]) ∧ Kd.R Kd.string 9 w' w.heap.size (fun _ => True) v0_ r1 ∧ Below w.heap.size w w' := by
 have hu26 := Tryd.underlying26
 have HR0 := aM hr0
 have HC0 := aM hc0
 clear hr0 hc0
 have HB := aM (Below.refl w.heap.size w)
 have H := h
 clear h; unfold spec_DrawCycleOfLamps.f at H
 replace H := bC H; obtain ⟨⟨t329, t332⟩, A2, H⟩ := H; try dsimp only at H
 simp only [Option.some.injEq, Prod.mk.injEq] at H
 obtain ⟨rfl, rfl⟩ := H
 go_enter Tryd.func16, Tryd.ntmps16
 go_wp2_with (first | (refine bX (N := 2) rfl (cs := #[.slice none 0 0]) (t := 26) ?_; intro gb328 hg w3 BK328 hb; have GW328 := gE hg HB; have GE328 := gE hg HB; replace HB := hS HB hb; clear hb hg) | ((with_reducible refine gG 86 (some 5) rfl rfl ?_); refine gD Tryd.func86 (spec_DrawTickOnce.calls k _ _ l0 t329 t332 _ (cU (Kd.C_below HR0.out HB.out)) HC0.out A2.out) ?_; rintro w4 v330 ⟨ho0, hb⟩; have HO331 := rL ho0 HB; replace BK328 := bB BK328 hb; replace HB := hS HB hb; clear hb ho0; obtain ⟨Ao5, co5, eo5⟩ := Kd.R_slice HO331.out; subst eo5; obtain ⟨hcz6_0, hfz6_0⟩ := hC1 BK328))
 refine bodyPost_ret (results_ct rfl _ _ gb328 26 #[.slice Ao5 t329.length co5] (0, 0) _ rfl (by (with_reducible repeat (first | refine blk_drewN ?_ _ | refine blk_drew ?_ | refine blk_alloc ?_ _)); refine blk_put (cs := #[.slice none 0 0]) ?_ 0 _ rfl; (with_reducible repeat (first | refine blk_drewN ?_ _ | refine blk_drew ?_ | refine blk_alloc ?_ _)); exact BK328.out) Tryd.underlying26 rfl (by kernel_rfl)) rfl ?_
 exact ⟨_, eW, rU (Kd.R_mono (Kd.R_far (p := ⟨gb328, 0, none⟩) (Kd.R_types HO331.out BK328.out (by decide)) (fun _ hk => hk.2) (.slice Ao5 t329.length co5)) (fun _ hk => trivial)), bel HB⟩

/-! ### slices_Index_string_string: function 87 -/
def slices_Index_string_string.l0 : Nat → List ByteArray → ByteArray → Int → Int → Option (Int)
 | 0, _, _, _, _ => none
 | k + 1, x0, x1, x7, x8 => if x8 < x7 then (if 0 ≤ x8 then (if x8 < (x0.length : Int) then (if x1.toList = (rdOf ByteArray.empty x0 x8).toList then (some x8) else (slices_Index_string_string.l0 k x0 x1 x7 (wrap64 (x8 + 1)))) else (none)) else (none)) else (some (-1))
def slices_Index_string_string.f (k : Nat) (l0 : List ByteArray) (a1 : ByteArray) : Option (Int) := slices_Index_string_string.l0 k l0 a1 (l0.length : Int) 0
theorem slices_Index_string_string.mono_l : ∀ k, Mo (slices_Index_string_string.l0 k) (slices_Index_string_string.l0 (k + 1))
 | 0 => m0
 | k + 1 => by
  have ih0 := slices_Index_string_string.mono_l k
  (repeat refine mE fun _ => ?_) <;> first | (unfold slices_Index_string_string.l0; exact mG)
instance slices_Index_string_string.mI (k : Nat) : Mo (slices_Index_string_string.f k) (slices_Index_string_string.f (k + 1)) := by
 have ih0 := slices_Index_string_string.mono_l k
 (repeat refine mE fun _ => ?_); unfold slices_Index_string_string.f; exact mG
theorem slices_Index_string_string.mono : ∀ a0 a1 k, LeO (slices_Index_string_string.f k a0 a1) (slices_Index_string_string.f (k + 1) a0 a1) := fun a0 a1 k => (slices_Index_string_string.mI k).out a0 a1
set_option maxHeartbeats 8000000 in
set_option maxRecDepth 100000 in
theorem slices_Index_string_string.calls (k : Nat) (A0 : Option Addr) (c0 : Nat) (l0 : List ByteArray) (a1 : ByteArray) (r : Int) (w : World) (hr0 : Kd.C Kd.string w A0 l0.length l0) (hc0 : l0.length ≤ c0) (h : slices_Index_string_string.f k l0 a1 = some r) :
  Calls Tryd.prog 87 #[.slice A0 l0.length c0, .string a1] w fun e w' => e = .returned (.int .i64 r) ∧ Drawn0 w w' := by
 have HR0 := aM hr0
 have HC0 := aM hc0
 clear hr0 hc0
 have H := h
 clear h; unfold slices_Index_string_string.f at H
 have H' := aM H
 clear H
 go_enter Tryd.func87, Tryd.ntmps87
 go_wp2
 go_loopg [8] k (fun kq v8 w' => ∃ (x8_1 : Int), v8 = .int .i64 x8_1 ∧ Aside0 (slices_Index_string_string.l0 kq l0 a1 (l0.length : Int) x8_1 = some r) ∧ Aside0 (kq ≤ k) ∧ Drawn0 w w')
 case atStart => exact ⟨(0), rF, H', kR, d0⟩
 case round =>
  clear H'
  obtain ⟨x8_1, rfl, HA, HK1, ⟨m1, rfl⟩⟩ := hrel
  obtain rfl | ⟨k1, rfl⟩ := fz gk
  ·exact zA HA
  have H := HA.out
  clear HA
  simp only [slices_Index_string_string.l0] at H
  refine iI H ?_ ?_ <;> clear H <;> intro c3 H
  ·have c3b0 := dT c3
   clear c3
   refine iY H ?_; clear H; intro c4 H
   have c4b0 := dT c4
   clear c4
   refine iY H ?_; clear H; intro c5 H
   have c5b0 := dT c5
   clear c5
   refine iI H ?_ ?_ <;> clear H <;> intro c6 H
   ·have c6b0 := qT c6
    have c6b1 := nF c6
    clear c6
    obtain rfl := Option.some.inj H
    have p333 : 0 ≤ (x8_1 : Int) := oD
    have q333 : x8_1 < (l0.length : Int) := oD
    obtain ⟨ad333, e333, hx333_0⟩ := Kd.at_string HR0.out x8_1 p333 q333
    cases e333
    replace p333 := eq_true p333
    replace q333 := eq_true q333
    go_wp2
    go_ret
    exact ⟨rF, d0⟩
   have c6b0 := qF c6
   have c6b1 := nT c6
   have H' := aM H
   clear H
   have p333 : 0 ≤ (x8_1 : Int) := oD
   have q333 : x8_1 < (l0.length : Int) := oD
   obtain ⟨ad333, e333, hx333_0⟩ := Kd.at_string HR0.out x8_1 p333 q333
   cases e333
   replace p333 := eq_true p333
   replace q333 := eq_true q333
   go_wp2
   go_roundg k1
   case measure => have := HK1.out; omega
   case rel => exact ⟨(wrap64 (x8_1 + 1)), rF, H', ⟨by have := HK1.out; omega⟩, d0⟩
  have c3b0 := dF c3
  clear c3
  obtain rfl := Option.some.inj H
  go_wp2
  go_ret
  exact ⟨rF, d0⟩

/-! ### impl_CycleOfLamps: function 17 -/
-- by hand (wip/ext/Cycle.tpl)
set_option maxHeartbeats 1000000 in
set_option maxRecDepth 100000 in
/-- slices.Min over texts that a slice has. -/
theorem cyMin (b off c : Nat) (l : List ByteArray) (w : World) (hr : Kd.C Kd.string w (some ⟨b, off, none⟩) l.length l) (hp : 0 < l.length) :
    Calls Tryd.prog 88 #[.slice (some ⟨b, off, none⟩) l.length c] w fun e w' => e = .returned (.string (Lib.minOfS l)) ∧ w' = w := by
  have hmx : ∀ (w : World) (x y : ByteArray), (Builtin.min2 (.string x) (.string y)).run Tryd.prog w = .ok (.string (Lib.minS x y)) w := fun w x y => by
    have h := Lib.run_min_strs (P := Tryd.prog) w #[] 0 x y
    simpa [Builtin.min_] using h
  obtain ⟨ad0, e0, h0⟩ := Kd.at_string hr 0 (by decide) (by omega)
  cases e0
  have ex0 : rdOf ByteArray.empty l 0 = l[0] := by simp [rdOf, hp]
  rw [ex0] at h0
  have hl63 := hr.2.1
  have HR := aM hr
  have hp1 : ¬ (l.length : Int) < 1 := by omega
  have p0 : (0 < l.length) = True := eq_true hp
  have e1 : Lib.minOfS (l.take 1) = l[0] := by
    obtain ⟨a, r, rfl⟩ : ∃ a r, l = a :: r := by cases l with | nil => simp at hp | cons a r => exact ⟨a, r, rfl⟩
    simp [Lib.minOfS, Lib.minS]
  have E1 := aM e1
  have HP := aM hp
  obtain ⟨s0, hs0⟩ : ∃ s, s = l[0] := ⟨_, rfl⟩
  rw [← hs0] at h0 E1
  go_loud (rw [show (⟨b, off, none⟩ : Addr).add (Int.toNat 0) = ⟨b, off, none⟩ from rfl] at h0)
  clear ex0 e1 hr hs0
  go_enter Tryd.func88, Tryd.ntmps88
  go_wp2
  go_loopg [3, 4] (l.length - 1) (fun gg v3 v4 w' => ∃ k : Nat, k + gg = l.length ∧ 1 ≤ k ∧ v3 = .string (Lib.minOfS (l.take k)) ∧ v4 = .int .i64 k ∧ w' = w)
  case atStart => exact ⟨1, by have := HP.out; omega, Nat.le_refl _, by rw [E1.out], rfl, rfl⟩
  case round =>
    clear h0 E1
    obtain ⟨k, hks, hk1, rfl, rfl, rfl⟩ := hrel
    by_cases hq : k < l.length
    · obtain ⟨ad, e, hx⟩ := Kd.at_string HR.out (k : Int) (by omega) (by omega)
      cases e
      simp only [Int.toNat_natCast] at hx
      rw [show rdOf ByteArray.empty l (k : Int) = l[k] by simp [rdOf, hq]] at hx
      have hst := minOfS_take l k hq hk1
      obtain ⟨s, hs⟩ : ∃ s, s = l[k] := ⟨_, rfl⟩
      rw [← hs] at hx hst
      obtain ⟨M, hM⟩ : ∃ M, M = Lib.minOfS (l.take k) := ⟨_, rfl⟩
      rw [← hM] at hst ⊢
      have HST := aM hst
      have hk63 : k < 9223372036854775807 := by omega
      replace hx : wr.cell? ⟨b, off + k, none⟩ = some (.string s) := by have h9 := hx; simp only [Addr.add] at h9; rw [if_neg (show ¬ k = 0 by omega)] at h9; exact h9
      clear hs hst hM
      go_wp2
      go_roundg (l.length - (k + 1))
      case measure => omega
      case rel => exact ⟨k + 1, by omega, by omega, by rw [HST.out], by go_num, rfl⟩
    · have e : l.take k = l := List.take_of_length_le (by omega)
      rw [e]
      go_wp2
      go_ret
      exact ⟨rfl, rfl⟩
def cyRen : Go.Shelf.Ren := ⟨fun | 4 => 145 | n => n, fun | 22 => 24 | 25 => 9 | n => n, fun n => n⟩
theorem cyLay : Go.Proofs.Lays8.n4 Tryd.prog cyRen := {
  mixed := by kernel_rfl
  f4 := ⟨Tryd.f145.name, by kernel_rfl, Tryd.func145.trans (congrArg some (by kernel_rfl))⟩
  t0 := Tryd.underlying0
  a0 := Tryd.isAgg0
  z0 := Tryd.sizeOf0
  v0 := Tryd.zeroValue0
  t3 := Tryd.underlying3
  a3 := Tryd.isAgg3
  z3 := Tryd.sizeOf3
  v3 := Tryd.zeroValue3
  t4 := Tryd.underlying4
  a4 := Tryd.isAgg4
  z4 := Tryd.sizeOf4
  v4 := Tryd.zeroValue4
  t9 := Tryd.underlying9
  a9 := Tryd.isAgg9
  z9 := Tryd.sizeOf9
  v9 := Tryd.zeroValue9
  t20 := Tryd.underlying20
  a20 := Tryd.isAgg20
  z20 := Tryd.sizeOf20
  v20 := Tryd.zeroValue20
  t22 := Tryd.underlying24
  a22 := Tryd.isAgg24
  z22 := Tryd.sizeOf24
  v22 := Tryd.zeroValue24 }
theorem cyInfo : (Tryd.prog.info? 9).map (fun i => (i.zero, i.size, i.bytes)) = some (some (.string ⟨#[]⟩), 1, 16) := by kernel_rfl
set_option maxHeartbeats 1000000 in
/-- slices.Grow of no slice: a new row without texts. -/
theorem cyGrow (n : Nat) (w : World) (h1 : 0 < n) (h2 : n ≤ 4000) :
    Calls Tryd.prog 145 #[.slice none 0 0, .int .i64 n] w fun e w' => ∃ v : Value, e = .returned v ∧ Kd.R Kd.string 9 w' w.heap.size (fun _ => True) v [] ∧ Below w.heap.size w w' := by
  obtain ⟨i0, hi, hzz⟩ := Option.map_eq_some_iff.1 cyInfo
  simp only [Prod.mk.injEq] at hzz
  obtain ⟨hz, hs, hb⟩ := hzz
  refine (Any8.slices_Grow_grow cyLay i0 (.string ⟨#[]⟩) hi hz (by omega) none 0 0 n [] w (Nat.le_refl _) (by omega) (by rw [hb]; omega) (by omega) (by simp) (fun _ => rfl) (fun a h => by cases h)).mono ?_
  rintro e w' ⟨rfl, rfl⟩
  have hge := grownCap_ge w (0 + n) 0 (cyRen.t 25)
  have hle := grownCap_le_maxLen w (0 + n) 0 (cyRen.t 25) (by simp only [maxLen]; omega)
  refine ⟨_, rfl, ?_, (below_drew1 (Below.refl _ _)).alloc (by simp) _⟩
  refine Kd.R_of_own (xs := []) ⟨by simp [encs], .inr ⟨w.heap.size, grownCap w (0 + n) 0 (cyRen.t 25), _, rfl, Nat.le_refl _, (MapKept.heap_alloc w.drew _).1, Nat.zero_le _, hle, ?_, by simp [encs]⟩⟩ (fun _ _ => trivial)
  have e : (Value.string ⟨#[]⟩).cells.size = 1 := rfl
  simp only [Builtin.zeroCells, Array.size_append, Array.size_map, Array.size_range, e, Nat.zero_add] at hge ⊢
  simp
  omega
set_option maxHeartbeats 2000000 in
set_option maxRecDepth 100000 in
/-- slices.Concat of two rows of texts. -/
theorem cyConcat (g cc : Nat) (A1 A2 : Option Addr) (c1 c2 : Nat) (l1 l2 : List ByteArray) (w : World) (hg0 : w.cell? ⟨g, 0, none⟩ = some (.slice A1 l1.length c1)) (hg1 : w.cell? ⟨g, 1, none⟩ = some (.slice A2 l2.length c2)) (hr1 : Kd.C Kd.string w A1 l1.length l1) (hr2 : Kd.C Kd.string w A2 l2.length l2) (hp : 0 < l1.length + l2.length) (hl : l1.length + l2.length ≤ 2000) :
    Calls Tryd.prog 89 #[.slice (some ⟨g, 0, none⟩) 2 cc] w fun e w' => ∃ v : Value, e = .returned v ∧ Kd.R Kd.string 9 w' w.heap.size (fun _ => True) v (l1 ++ l2) ∧ Below w.heap.size w w' := by
  have HG0 := aM hg0
  have HG1 := aM hg1
  have HR1 := aM hr1
  have HR2 := aM hr2
  have HP := aM hp
  have b1 : l1.length ≤ 2000 := by omega
  have b2 : l2.length ≤ 2000 := by omega
  have HGR := aM (fun W => cyGrow (l1.length + l2.length) W hp (by omega))
  clear hr1 hr2 hp
  go_enter Tryd.func89, Tryd.ntmps89
  go_wp2
  go_loopg [3, 11] 2 (fun gg v3 v11 w' => ∃ k : Nat, k + gg = 2 ∧ v11 = .int .i64 k ∧ v3 = .int .i64 (if k = 0 then 0 else if k = 1 then (l1.length : Int) else (l1.length : Int) + l2.length) ∧ w' = w)
  case atStart => exact ⟨0, rfl, rfl, rfl, rfl⟩
  case round =>
    obtain ⟨k, hk, rfl, rfl, rfl⟩ := hrel
    have hk3 : k = 0 ∨ k = 1 ∨ k = 2 := by omega
    rcases hk3 with rfl | rfl | rfl
    · simp only [if_true]
      go_wp2
      go_roundg 1
      case measure => omega
      case rel => exact ⟨1, rfl, rfl, by simp, rfl⟩
    · simp only [Nat.one_ne_zero, if_false, if_true]
      go_wp2
      go_roundg 0
      case measure => omega
      case rel => exact ⟨2, rfl, rfl, by simp, rfl⟩
    · rw [if_neg (by decide), if_neg (by decide)]
      go_wp2_with (go_at_call 145; refine (HGR.out _).mono ?_; rintro e w1 ⟨v, rfl, ho, hb⟩; have HO1 := aM ho; have HB1 := aM hb; clear ho hb)
      obtain ⟨W0, hW0⟩ : ∃ W0, W0 = wr := ⟨_, rfl⟩
      subst hW0
      go_loopg [6, 27] 2 (fun gg v6 v27 w' => ∃ k : Nat, k + gg = 2 ∧ v27 = .int .i64 k ∧ Aside0 (Kd.R Kd.string 9 w' W0.heap.size (fun _ => True) v6 (if k = 0 then [] else if k = 1 then l1 else l1 ++ l2)) ∧ Aside0 (Below W0.heap.size W0 w'))
      case atStart => exact ⟨0, rfl, rfl, HO1, HB1⟩
      case round =>
        clear HO1 HB1
        obtain ⟨k, hk, rfl, HO, HB⟩ := hrel
        have hk3 : k = 0 ∨ k = 1 ∨ k = 2 := by omega
        have hg0 := (HB.out.cell (World.block_lt_of_cell? _ _ HG0.out)).trans HG0.out
        have hg1 := (HB.out.cell (World.block_lt_of_cell? _ _ HG1.out)).trans HG1.out
        have HC1 := aM (Kd.C_below HR1.out HB.out)
        have HC2 := aM (Kd.C_below HR2.out HB.out)
        rcases hk3 with rfl | rfl | rfl
        · rw [if_pos rfl] at HO
          go_wp2_with ((with_reducible refine gate_builtin (b := .append) (xs := #[.tmp 31, .tmp 32]) rfl ?_); at_builtin; refine Kd.R_append_row Value.string ByteArray.empty (w0 := W0) W0.heap.size rfl (.tmp 31) (.tmp 32) 24 9 (.string ⟨#[]⟩) 16 rfl Tryd.underlying24 cyInfo rfl (by decide) u6 [] l1 A1 l1.length c1 (fun _ => True) rfl rfl (fun _ _ => trivial) HO.out HC1.out HB.out (below_size HB.out) (by simp only [List.length_nil]; omega) ?_; intro v1 w1 ho hb hg hat; have HO1 := aM ho; have HB1 := aM hb; clear ho hb hg hat)
          go_roundg 1
          case measure => omega
          case rel => exact ⟨1, rfl, rfl, HO1, HB1⟩
        · rw [if_neg (by decide), if_pos rfl] at HO
          go_wp2_with ((with_reducible refine gate_builtin (b := .append) (xs := #[.tmp 31, .tmp 32]) rfl ?_); at_builtin; refine Kd.R_append_row Value.string ByteArray.empty (w0 := W0) W0.heap.size rfl (.tmp 31) (.tmp 32) 24 9 (.string ⟨#[]⟩) 16 rfl Tryd.underlying24 cyInfo rfl (by decide) u6 l1 l2 A2 l2.length c2 (fun _ => True) rfl rfl (fun _ _ => trivial) HO.out HC2.out HB.out (below_size HB.out) (by omega) ?_; intro v1 w1 ho hb hg hat; have HO1 := aM ho; have HB1 := aM hb; clear ho hb hg hat)
          go_roundg 0
          case measure => omega
          case rel => exact ⟨2, rfl, rfl, HO1, HB1⟩
        · rw [if_neg (by decide), if_neg (by decide)] at HO
          go_wp2
          go_ret
          exact ⟨_, rfl, HO.out, HB.out⟩
theorem addr0 (g n : Nat) : (⟨g, 0, none⟩ : Addr).add n = ⟨g, n, none⟩ := by
  simp only [Addr.add]
  by_cases h : n = 0
  · rw [if_pos h, h]
  · rw [if_neg h, Nat.zero_add]
theorem addrN (g m n : Nat) : (⟨g, m, none⟩ : Addr).add n = ⟨g, m + n, none⟩ := by
  simp only [Addr.add]
  by_cases h : n = 0
  · rw [if_pos h, h]; rfl
  · rw [if_neg h]
theorem cyIndex_ev (l : List ByteArray) (a : ByteArray) (hl : l.length ≤ 4000) (ha : a ∈ l) : Ev (fun k => slices_Index_string_string.f k l a) (idxS l a : Nat) := by
  have hlt : idxS l a < l.length := List.findIdx_lt_length.2 ⟨a, ha, by simp⟩
  have key : ∀ (n i : Nat), i + n = idxS l a → Ev (fun k => slices_Index_string_string.l0 k l a (l.length : Int) (i : Int)) ((idxS l a : Nat) : Int) := by
    intro n
    induction n with
    | zero =>
      intro i hi
      have hi' : i = idxS l a := by omega
      have hp : i < l.length := by omega
      have er : rdOf ByteArray.empty l (i : Int) = l[i] := by simp [rdOf, hp]
      have e : l[i] = a := by
        subst hi'
        have := List.findIdx_getElem (p := fun x => decide (x = a)) (xs := l) (w := hlt)
        exact of_decide_eq_true this
      refine Ev.last fun k => ?_
      rw [slices_Index_string_string.l0, if_pos (by omega), if_pos (by omega), if_pos (by omega), er, e]
      rw [if_pos (by simp)]
      rw [hi']
    | succ n ih =>
      intro i hi
      have hp : i < l.length := by omega
      have er : rdOf ByteArray.empty l (i : Int) = l[i] := by simp [rdOf, hp]
      have e : ¬ l[i] = a := by
        have := List.not_of_lt_findIdx (p := fun x => decide (x = a)) (xs := l) (i := i) (by show i < idxS l a; omega)
        simpa using this
      refine Ev.next ⟨0, fun k _ => ?_⟩ (ih (i + 1) (by omega))
      rw [slices_Index_string_string.l0, if_pos (by omega), if_pos (by omega), if_pos (by omega), er, w64 (by omega) (by omega)]
      rw [if_neg (fun h => e (ByteArray.ext (Array.toList_inj.1 (by simpa [ByteArray.toList_eq] using h)).symm))]
      rfl
  exact key (idxS l a) 0 (by omega)
theorem minOfS_mem : ∀ (l : List ByteArray), 0 < l.length → Lib.minOfS l ∈ l := by
  intro l h
  have key : ∀ (n k : Nat), k + n = l.length → 0 < k → Lib.minOfS (l.take k) ∈ l → Lib.minOfS l ∈ l := by
    intro n
    induction n with
    | zero => intro k hk _ hm; rw [List.take_of_length_le (by omega)] at hm; exact hm
    | succ n ih =>
      intro k hk h0 hm
      refine ih (k + 1) (by omega) (by omega) ?_
      rw [minOfS_take l k (by omega) h0]
      unfold Lib.minS
      split
      · exact hm
      · exact List.getElem_mem _
  refine key (l.length - 1) 1 (by omega) (by decide) ?_
  obtain ⟨a, r, rfl⟩ : ∃ a r, l = a :: r := by cases l with | nil => simp at h | cons a r => exact ⟨a, r, rfl⟩
  simp [Lib.minOfS, Lib.minS]
/-- The place of the least text. -/
def cyI (c : List ByteArray) : Nat := idxS c (Lib.minOfS c)
def cyS (c : List ByteArray) : List ByteArray := c.drop (cyI c) ++ c.take (cyI c)
theorem cyI_lt {c : List ByteArray} (h : 0 < c.length) : cyI c < c.length := List.findIdx_lt_length.2 ⟨_, minOfS_mem c h, by simp⟩
def impl_CycleOfLamps.f (l0_0 : List ByteArray) (a1 : ByteArray) : Option (List ByteArray × Bool) := (impl_Lamps_lit.f l0_0 a1).bind fun b => (if b = true then ((impl_Lamps_course.f l0_0 a1).bind fun r => (if 0 ≤ r.2 ∧ r.2 < r.1.length ∧ r.1.length ≤ 1100 then some (cyS (r.1.drop r.2.toNat), true) else none)) else some ([], false))
set_option maxHeartbeats 2000000 in
set_option maxRecDepth 100000 in
theorem impl_CycleOfLamps.calls (A0_0 : Option Addr) (c0_0 : Nat) (l0_0 : List ByteArray) (a1 : ByteArray) (r1 : List ByteArray) (r2 : Bool) (w : World) (hr0_0 : Kd.C Kd.string w A0_0 l0_0.length l0_0) (hc0_0 : l0_0.length ≤ c0_0) (h : impl_CycleOfLamps.f l0_0 a1 = some (r1, r2)) :
    Calls Tryd.prog 17 #[.agg #[.slice A0_0 l0_0.length c0_0], .string a1] w fun e w' => ∃ v0_ : Value, e = .returned (.tuple #[v0_, .bool r2]) ∧ Kd.R Kd.string 9 w' w.heap.size (fun _ => True) v0_ r1 ∧ Below w.heap.size w w' := by
 unfold impl_CycleOfLamps.f at h
 have hu := Tryd.underlying26
 have hus := Tryd.underlying9
 obtain ⟨b, hlit, h⟩ := Option.bind_eq_some_iff.mp h
 have HLI := aM (fun W (hb : Below w.heap.size w W) => impl_Lamps_lit.calls A0_0 c0_0 l0_0 a1 b W (Kd.C_below hr0_0 hb) hc0_0 hlit)
 have HB0 := aM (show Below w.heap.size w (w.alloc (.cells #[.slice A0_0 l0_0.length c0_0] 26)) from (Below.refl _ w).alloc (Nat.le_refl _) _)
 have BK0 := aM (show (w.alloc (.cells #[.slice A0_0 l0_0.length c0_0] 26)).heap[w.heap.size]? = some (.cells #[.slice A0_0 l0_0.length c0_0] 26 (0, 0)) from (MapKept.heap_alloc w _).1)
 cases b with
 | false =>
  simp only [Bool.false_eq_true, if_false, Option.some.injEq, Prod.mk.injEq] at h
  obtain ⟨rfl, rfl⟩ := h
  clear hr0_0 hlit
  go_enter Tryd.func17, Tryd.ntmps17
  go_wp2_with (go_at_call 71; refine (HLI.out _ HB0.out).mono ?_; rintro e w1 ⟨rfl, hb⟩; have HB1 := aM (below_step HB0.out hb); clear hb)
  go_ret2
  exact ⟨_, rfl, Kd.R_nil _ _ _ _ _, HB1.out⟩
 | true =>
  simp only [if_true] at h
  obtain ⟨⟨R1, R2⟩, hcr, h⟩ := Option.bind_eq_some_iff.mp h
  simp only at h
  split at h
  case isFalse => cases h
  case isTrue hall =>
  obtain ⟨hd0, hdl, h1100⟩ := hall
  simp only [Option.some.injEq, Prod.mk.injEq] at h
  obtain ⟨rfl, rfl⟩ := h
  obtain ⟨d, rfl⟩ : ∃ d : Nat, R2 = (d : Int) := ⟨R2.toNat, by omega⟩
  have hd : d < R1.length := by omega
  rw [Int.toNat_natCast]
  have HCO := aM (fun W (hb : Below w.heap.size w W) => impl_Lamps_course.calls A0_0 c0_0 l0_0 a1 R1 d W (Kd.C_below hr0_0 hb) hc0_0 hcr)
  have HD := aM hd
  have H11 := aM h1100
  have hdi : (d : Int) ≤ (R1.length : Int) := by omega
  obtain ⟨C, hC⟩ : ∃ C, C = R1.drop d := ⟨_, rfl⟩
  have hCl : C.length = R1.length - d := by rw [hC, List.length_drop]
  have hCp : 0 < C.length := by omega
  obtain ⟨KI, hKI⟩ := cyIndex_ev C (Lib.minOfS C) (by omega) (minOfS_mem C hCp)
  have HIX := aM (hKI KI (Nat.le_refl _))
  have HCE := aM hC
  have HCL := aM hCl
  have HCP := aM hCp
  rw [← hC]
  clear hr0_0 hlit hcr hd hd0 hdl h1100 hC hCl hCp hKI h
  go_enter Tryd.func17, Tryd.ntmps17
  go_wp2_with (first
   | (go_at_call 71; refine (HLI.out _ HB0.out).mono ?_; rintro e w1 ⟨rfl, hb⟩; have HB1 := aM (below_step HB0.out hb); have BK1 := aM (blk_below BK0.out hb); have hcl1 := (blk_cell BK1.out 0).trans rfl; clear hb)
   | (go_at_call 73; refine (HCO.out _ HB1.out).mono ?_; rintro e w2 ⟨v0, rfl, ho, hb⟩; have HB2 := aM (below_step HB1.out hb); obtain ⟨g, co, rfl, hg1, hg2, hg3⟩ := Kd.R_form ho (by have := HD.out; omega); have hco := (Kd.R_reads' ho).2.1; have HO := aM ho; have dco : d ≤ co := (by have := HD.out; omega); have dne : ¬ co = d := (by have := HD.out; omega); have hcc := Kd.C_drop (m := d) (Kd.R_reads' ho).2.2 (Nat.le_of_lt HD.out) hco; rw [if_neg dne] at hcc; replace hcc : Kd.C Kd.string w2 (some ((⟨g, 0, none⟩ : Addr).add (d * 1))) (R1.drop d).length (R1.drop d) := hcc; rw [Nat.mul_one, addr0, ← HCE.out] at hcc; have HCC := aM hcc; have dcl : C.length ≤ co - d := (by have := HCL.out; omega); clear hb ho hg1 hg2 hg3 hcl1 hcc)
   | (go_at_call 88; rw [← HCL.out]; refine (cyMin g d (co - d) C w2 HCC.out HCP.out).mono ?_; rintro e w3 ⟨rfl, rfl⟩)
   | (go_at_call 87; refine (slices_Index_string_string.calls KI (some ⟨g, d, none⟩) (co - d) C (Lib.minOfS C) ((cyI C : Nat) : Int) _ HCC.out dcl HIX.out).mono ?_; rintro e w4 ⟨rfl, ⟨nd, rfl⟩⟩))
  have HB3 := aM (below_step HB2.out (pw_below_drewN (Below.refl _ _) nd))
  have HC3 := aM (Kd.C_below HCC.out (pw_below_drewN (Below.refl _ _) nd))
  have HIE := aM (cyI_lt HCP.out)
  have HFIN := aM (show cyS C = C.drop (cyI C) ++ C.take (cyI C) from rfl)
  generalize w3.drewN nd = W3 at HB3 HC3 ⊢
  obtain ⟨I, hI⟩ : ∃ I, I = cyI C := ⟨_, rfl⟩
  rw [← hI] at HIE HFIN ⊢
  have i1 : I ≤ C.length := Nat.le_of_lt HIE.out
  have i2 : I ≤ co - d := by omega
  have i3 : ¬ co - d = I := by have := HIE.out; omega
  have i4 : (I : Int) ≤ (C.length : Int) := by omega
  clear hI HIX HCC HO HB2
  go_still_tail 6, (by kernel_rfl)
  change wpList _ _ _ _ _ W3.drew
  have HB4 := aM (below_drew1 HB3.out)
  have HC4 := aM (Kd.C_drew HC3.out)
  generalize W3.drew = W4 at HB4 HC4 ⊢
  clear HB3 HC3
  have hLd : (C.drop I).length = C.length - I := List.length_drop
  have hLt : (C.take I).length = I := by rw [List.length_take]; omega
  have HB5 := aM (HB4.out.alloc (below_size HB4.out) (.cells #[.slice (some ⟨g, d + I, none⟩) (C.length - I) (co - d - I), .slice (some ⟨g, d, none⟩) I (co - d)] 24))
  have HD5 := aM (show Kd.C Kd.string (W4.alloc (.cells #[.slice (some ⟨g, d + I, none⟩) (C.length - I) (co - d - I), .slice (some ⟨g, d, none⟩) I (co - d)] 24)) (some ⟨g, d + I, none⟩) (C.drop I).length (C.drop I) from by
   have h1 := Kd.C_drop (c := co - d) (m := I) HC4.out i1 dcl
   rw [if_neg i3] at h1
   replace h1 : Kd.C Kd.string W4 (some ((⟨g, d, none⟩ : Addr).add (I * 1))) (C.drop I).length (C.drop I) := h1
   rw [Nat.mul_one, addrN] at h1
   exact Kd.C_alloc h1 _)
  have HT5 := aM (Kd.C_alloc (Kd.C_take (m := I) HC4.out i1) (.cells #[.slice (some ⟨g, d + I, none⟩) (C.length - I) (co - d - I), .slice (some ⟨g, d, none⟩) I (co - d)] 24))
  have HNW := aM (MapKept.heap_alloc W4 (.cells #[.slice (some ⟨g, d + I, none⟩) (C.length - I) (co - d - I), .slice (some ⟨g, d, none⟩) I (co - d)] 24)).1
  have HCK := aM (show 0 < (C.drop I).length + (C.take I).length ∧ (C.drop I).length + (C.take I).length ≤ 2000 from by have := HCP.out; have := HCL.out; have := H11.out; omega)
  go_wp2_with (go_at_call 89; refine (cyConcat W4.heap.size 2 (some ⟨g, d + I, none⟩) (some ⟨g, d, none⟩) (co - d - I) (co - d) (C.drop I) (C.take I) _ (by rw [hLd]; exact (blk_cell HNW.out 0).trans rfl) (by rw [hLt]; exact (blk_cell HNW.out 1).trans rfl) HD5.out HT5.out HCK.out.1 HCK.out.2).mono ?_; rintro e w5 ⟨v, rfl, ho, hb⟩; have HO5 := aM (Kd.R_lower ho (below_size HB5.out)); have HB6 := aM (below_step HB5.out hb); clear ho hb)
  go_ret2
  exact ⟨_, rfl, HFIN.out ▸ HO5.out, HB6.out⟩

end Go.Proofs.YtiiahdjjngdgoaaDoor.PLTick
