-- squeezed (sq3.py); PRINTED by drive.py (a program of this session's, over the kit's print.py; wip/tools/drive.py). Lean checks it.
import Derived.Test.YtcogjabdddikjaaDoorQPHidAllx0
import Derived.Test.YtcogjabdddikjaaDoorQPHidAllx3
import Derived.Test.YtcogjabdddikjaaDoorQPHidAllx10
import Derived.Test.YtcogjabdddikjaaDoorQSq
namespace Go.Proofs.YtcogjabdddikjaaDoor.PHidAll
open Go.RowKit Go.Proofs.YtcogjabdddikjaaDoorW.PrintWords Go.Proofs.YtcogjabdddikjaaDoorW.PrintLast Go.Proofs.YtcogjabdddikjaaDoorW.PrintMore
attribute [local go_sem] max2_int min2_int max_two min_two max_three min_three max_four min_four   -- for this text's walks alone
set_option linter.unusedVariables false
set_option linter.unusedSimpArgs false

/-! ### impl_Clue_145: function 145 -/
-- by hand (wip/ext/gen_Clue_del.tpl)
theorem impl_Clue_145.info : (Tryd.prog.info? 59).map (·.size) = some k59.sz := by kernel_rfl
set_option maxHeartbeats 1000000 in
set_option maxRecDepth 100000 in
theorem impl_Clue_145.one (g n c k : Nat) (l : List S59) (P0 : Nat → Prop) (w0 w : World) (hB : Below w0.heap.size w0 w) (ho : Kd.R k59 59 w w0.heap.size P0 (.slice (some ⟨g, 0, none⟩) n c) l) (hk : k < n) :
    Calls Tryd.prog 145 #[.slice (some ⟨g, 0, none⟩) n c, .int .i64 k, .int .i64 (k + 1)] w fun e w' => e = .returned (.slice (some ⟨g, 0, none⟩) (n - 1) c) ∧ Kd.R k59 59 w' w0.heap.size P0 (.slice (some ⟨g, 0, none⟩) (n - 1) c) (l.eraseIdx k) ∧ Below w0.heap.size w0 w' ∧ w.grownBy w' (some g) := by
  obtain ⟨hn, hnc, _⟩ := Kd.R_reads' ho
  obtain ⟨m, rfl⟩ : ∃ m, n = m + 1 := ⟨n - 1, by omega⟩
  have hcm : c ≤ 9223372036854775807 := by
    obtain ⟨hok, inner, hown, hr⟩ := ho
    rcases hown.2 with ⟨hv, _⟩ | ⟨g', cap', cur, hv, hb, hh, h1, hcm, _⟩
    · cases hv
    · injection hv with _ _ hc'
      rw [hc']; simpa [maxLen] using hcm
  have hkc : k ≤ c := by omega
  have hkc1 : k + 1 ≤ c := by omega
  have hkn1 : k + 1 ≤ m + 1 := hk
  have hi0 : (0 : Int) ≤ (k : Int) + 1 := by omega
  have hi1 : (k : Int) + 1 ≤ (m : Int) + 1 := by omega
  have hne : ¬ c = m := by omega
  have hmc : m ≤ c := by omega
  have hmc1 : m + 1 ≤ c := by omega
  obtain ⟨A, hA⟩ : ∃ A, (if c = k + 1 then (some ⟨g, 0, none⟩ : Option Addr) else some ⟨g, (k + 1) * 3, none⟩) = A := ⟨_, rfl⟩
  have HA := aM (hA.symm.trans (show (if c = k + 1 then (some ⟨g, 0, none⟩ : Option Addr) else some ⟨g, (k + 1) * 3, none⟩) = if c = k + 1 then some ⟨g, 0, none⟩ else (some (⟨g, 0, none⟩ : Addr)).map (·.add ((k + 1) * k59.sz)) from by simp [Addr.add]; rfl))
  have hgb := Kd.R_base ho g (by simp [Value.ownBlock])
  have HO := aM ho
  have HB := aM hB
  have HS := aM hB.size
  clear ho hB hn
  go_enter Tryd.func145, Tryd.ntmps145
  go_wp2_with fail
  go_region_law (refine Kd.R_delete_step k59 (w0 := w0) w0.heap.size rfl (.tmp 22) (.tmp 25) 55 59 rfl Tryd.underlying55 impl_Clue_145.info (g := g) (n := m + 1) (c := c) (k := k) (m := m + 1 - (k + 1)) (c2 := c - (k + 1)) (A := A) (xs := l) (ok := P0) (by simp [Act.eval, Act.put]) (by simp [Act.eval, Act.put]) HA.out rfl (Kd.R_drew HO.out) hk (below_drew1 HB.out) (by exact HS.out) ?_; intro w1 ho hb hg)
  simp only [Nat.add_sub_cancel] at ho ⊢
  obtain ⟨w2, hcl, ho2, hg2⟩ := own_clear k59 w0.heap.size 55 59 (.agg #[.int .i64 0, .int .i64 0, .int .i64 0]) Tryd.underlying55 (fun _ => by rfl) (by kernel_rfl) (by decide +kernel) ho (by omega)
  have hcl' : ∀ ty c1, (Builtin.clear_ #[55] ty #[.slice (some ⟨g, m * 3, none⟩) 1 c1]).run Tryd.prog w1 = .ok (.tuple #[]) w2 := hcl
  have hg3 := World.grownBy.trans hg hg2
  have HG := aM (show w.grownBy w2 (some g) from ⟨hg3.os, hg3.tape, hg3.output, hg3.size, hg3.block⟩)
  have HO2 := aM ho2
  clear ho ho2 hg hg2 hb hcl hg3
  go_wp2
  go_ret
  exact ⟨rfl, HO2.out, HB.out.grown HG.out HS.out (fun k' hk' => by cases hk'; exact hgb), HG.out⟩
def impl_Clue_145.f (l0 : List S59) (a1 a2 : Int) : Option (List S59) := if 0 ≤ a1 ∧ a2 = a1 + 1 ∧ a1 < l0.length then some (l0.eraseIdx a1.toNat) else none
theorem impl_Clue_145.calls (P0_ : Nat → Prop) (u9000_ : Value) (l0 : List S59) (a1 a2 : Int) (r : List S59) (w0 w : World) (hB : Below w0.heap.size w0 w) (ho0 : Kd.R k59 59 w w0.heap.size P0_ u9000_ l0) (h : impl_Clue_145.f l0 a1 a2 = some r) :
    Calls Tryd.prog 145 #[u9000_, .int .i64 a1, .int .i64 a2] w fun e w' => ∃ v0_ : Value, e = .returned (v0_) ∧ Kd.R k59 59 w' w0.heap.size (fun k_ => (P0_ k_ ∨ w.heap.size ≤ k_)) v0_ r ∧ Below w0.heap.size w0 w' ∧ Kept w w' (fun k_ => P0_ k_) := by
 unfold impl_Clue_145.f at h
 split at h
 ·rename_i hc
  obtain ⟨h0, rfl, h1⟩ := hc
  obtain rfl := Option.some.inj h
  obtain ⟨g, c, rfl, _⟩ := Kd.R_form ho0 (by omega)
  obtain ⟨k, rfl⟩ : ∃ k : Nat, a1 = k := ⟨a1.toNat, by omega⟩
  refine (impl_Clue_145.one g l0.length c k l0 P0_ w0 w hB ho0 (by omega)).mono ?_
  rintro e w' ⟨rfl, hr, hb, hg⟩
  have hP := ho0.1 g (by simp [Value.ownBlock])
  exact ⟨_, rfl, Kd.R_mono (by simpa using hr) (fun _ hk => .inl hk), hb, Kept.of_grown hg (Kept.refl _ _) (fun k' hk' => by cases hk'; exact .inl hP)⟩
 cases h

/-! ### impl_Puzzle_without: function 123 -/
def impl_Puzzle_without.f (a0_0 : Int) (l0_1 : List (S59)) (a1 : Int) : Option (Int × (List (S59))) := (impl_Clue_122.f l0_1).bind fun t229 => ((impl_Clue_145.f t229 a1 (wrap64 (a1 + 1))).bind fun t232 => (some (a0_0, t232)))
def impl_Puzzle_without.T1 : Bool × List (List Nat × List Nat) := (true, [([], []), ([0], [0]), ([], []), ([2], [2]), ([3], [3]), ([], []), ([], []), ([6], [6]), ([4, 5, 7, 4], [4, 5, 7]), ([1, 8], [1, 8]), ([9, 8, 0, 1, 2, 3, 4, 5, 6, 7, 8, 9], [9])])
def impl_Puzzle_without.B1 : List Nat := [0, 1, 0, 4, 12, 0, 0, 64, 252, 511, 1023]
theorem impl_Puzzle_without.tab1 : rtab .any (opsOf Tryd.f123 1) = impl_Puzzle_without.T1 := by kernel_rfl
theorem impl_Puzzle_without.bits1 : waitsOk impl_Puzzle_without.T1.2 impl_Puzzle_without.B1 = true := by kernel_rfl
set_option maxHeartbeats 8000000 in
set_option maxRecDepth 100000 in
theorem impl_Puzzle_without.calls (a0_0 : Int) (A0_1 : Option Addr) (c0_1 : Nat) (l0_1 : List (S59)) (a1 : Int) (r1 : Int) (r2 : List (S59)) (w : World) (hr0_1 : Kd.C k59 w A0_1 l0_1.length l0_1) (hc0_1 : l0_1.length ≤ c0_1) (h : impl_Puzzle_without.f a0_0 l0_1 a1 = some (r1, r2)) :
  Calls Tryd.prog 123 #[.agg #[.int .i64 a0_0, .slice A0_1 l0_1.length c0_1], .int .i64 a1] w fun e w' => ∃ v1_ : Value, e = .returned (.agg #[.int .i64 r1, v1_]) ∧ Kd.R k59 59 w' w.heap.size (fun _ => True) v1_ r2 ∧ Below w.heap.size w w' := by
 have hu57 := Tryd.underlying57
 have HR0_1 := aM hr0_1
 have HC0_1 := aM hc0_1
 clear hr0_1 hc0_1
 have HB := aM (Below.refl w.heap.size w)
 have H := h
 clear h; unfold impl_Puzzle_without.f at H
 replace H := bC H; obtain ⟨t229, A3, H⟩ := H
 replace H := bC H; obtain ⟨t232, A4, H⟩ := H
 simp only [Option.some.injEq, Prod.mk.injEq] at H
 obtain ⟨rfl, rfl⟩ := H
 go_enter Tryd.func123, Tryd.ntmps123
 try go_wp2_with (first | (refine bX (N := 2) rfl (cs := #[.int .i64 a0_0, .slice A0_1 l0_1.length c0_1]) (t := 57) ?_; intro gb227 hg w5 BK227 hb; have GW227 := gE hg HB; have GE227 := gE hg HB; replace HB := hS HB hb; clear hb hg) | (refine bX (N := 4) rfl (cs := #[.int .i64 0, .slice none 0 0]) (t := 57) ?_; intro gb228 hg w6 BK228 hb; have GW228 := gE hg HB; have GE228 := gE hg HB; have NB227_228 := nbL hg BK227; have NB228_227 := nbR hg BK227; replace BK227 := bB BK227 hb; replace HB := hS HB hb; clear hb hg))
 have n0_ := aM (blk_drew BK227.out)
 have n1_ := aM (blk_drew BK228.out)
 have n2_ := aM (below_drew1 HB.out)
 clear BK227
 clear BK228
 clear HB
 have BK227 := n0_
 have BK228 := n1_
 have HB := n2_
 clear n0_ n1_ n2_
 refine start_ (n := 11) (S := fun w' => w'.cell? ⟨gb227, 0, none⟩ = some (.int .i64 a0_0) ∧ w'.cell? ⟨gb227, 1, none⟩ = some (.slice A0_1 l0_1.length c0_1)) (ds := []) #[false, false, false, false, false, false, false, false, false, false, false] (by kernel_rfl) rfl rfl ⟨(blk_cell BK227.out 0).trans rfl, (blk_cell BK227.out 1).trans rfl⟩ (fun hHeld => ?_); refine with_tabW impl_Puzzle_without.tab1 impl_Puzzle_without.bits1 (fun HT_ HW_ => ?_)
 generalize w6.drew = w7 at BK227 BK228 HB hHeld ⊢
 refine pure_ (i := 0) (N := some 5) (v := ?_) (a' := ?_) #[true, false, false, false, false, false, false, false, false, false, false] rfl rfl (any_of HT_.out (by kernel_rfl)) (fun _ _ _ h => h) (Or.inl ⟨by rfl, ?_⟩) ?_ ?_
 rotate_left
 ·intro w'
  go_simp
  with_reducible rfl
 rotate_left
 ·simp only [Act.put, List.setIfInBounds_toArray, List.set_cons_zero, List.set_cons_succ, i64_w, i32_w]
  rfl
 refine pure_ (i := 2) (N := some 7) (v := ?_) (a' := ?_) #[true, false, true, false, false, false, false, false, false, false, false] rfl rfl (any_of HT_.out (by kernel_rfl)) (fun _ _ _ h => h) (Or.inl ⟨by rfl, ?_⟩) ?_ ?_
 rotate_left
 ·intro w'
  go_simp
  with_reducible rfl
 rotate_left
 ·simp only [Act.put, List.setIfInBounds_toArray, List.set_cons_zero, List.set_cons_succ, i64_w, i32_w]
  rfl
 refine pure_ (i := 5) (N := some 10) (v := ?_) (a' := ?_) #[true, false, true, false, false, true, false, false, false, false, false] rfl rfl (any_of HT_.out (by kernel_rfl)) (fun _ _ _ h => h) (Or.inl ⟨by rfl, ?_⟩) ?_ ?_
 rotate_left
 ·intro w'
  go_simp
  with_reducible rfl
 rotate_left
 ·simp only [Act.put, List.setIfInBounds_toArray, List.set_cons_zero, List.set_cons_succ, i64_w, i32_w]
  rfl
 refine pure_ (i := 6) (N := some 11) (v := ?_) (a' := ?_) #[true, false, true, false, false, true, true, false, false, false, false] rfl rfl (any_of HT_.out (by kernel_rfl)) (fun _ _ _ h => h) (Or.inl ⟨by rfl, ?_⟩) ?_ ?_
 rotate_left
 ·intro w'
  go_simp
  with_reducible rfl
 rotate_left
 ·simp only [Act.put, List.setIfInBounds_toArray, List.set_cons_zero, List.set_cons_succ, i64_w, i32_w]
  rfl
 refine pure_ (i := 7) (N := some 12) (v := ?_) (a' := ?_) #[true, false, true, false, false, true, true, true, false, false, false] rfl rfl (any_of HT_.out (by kernel_rfl)) (fun _ _ _ h => h) (Or.inl ⟨by rfl, ?_⟩) ?_ ?_
 rotate_left
 ·intro w'
  go_simp
  with_reducible rfl
 rotate_left
 ·simp only [Act.put, List.setIfInBounds_toArray, List.set_cons_zero, List.set_cons_succ, i64_w, i32_w]
  rfl
 refine take_ (i := 1) (N := some 6) (v := ?_) (a' := ?_) #[true, true, true, false, false, true, true, true, false, false, false] rfl rfl (take_ofW HT_.out HW_.out (by kernel_rfl)) (fun _ _ _ h => h) (Or.inl ⟨by rfl, ?_⟩) hHeld ?_ ?_
 rotate_left
 ·rintro w' ⟨s0, s1⟩
  go_simp
  with_reducible rfl
 rotate_left
 ·simp only [Act.put, List.setIfInBounds_toArray, List.set_cons_zero, List.set_cons_succ, i64_w, i32_w]
  rfl
 refine take_ (i := 3) (N := some 8) (v := ?_) (a' := ?_) #[true, true, true, true, false, true, true, true, false, false, false] rfl rfl (take_ofW HT_.out HW_.out (by kernel_rfl)) (fun _ _ _ h => h) (Or.inl ⟨by rfl, ?_⟩) hHeld ?_ ?_
 rotate_left
 ·rintro w' ⟨s0, s1⟩
  go_simp
  with_reducible rfl
 rotate_left
 ·simp only [Act.put, List.setIfInBounds_toArray, List.set_cons_zero, List.set_cons_succ, i64_w, i32_w]
  rfl
 refine one_ (i := 4) (N := some 9) #[true, true, true, true, true, true, true, true, false, false, false] rfl rfl (one_of HT_.out (by kernel_rfl)) (by decide) (fun K hK => ?_)
 refine goes_ Tryd.func122 (by kernel_rfl) rfl #[.slice A0_1 l0_1.length c0_1] (by rfl) rfl rfl (by (try simp only [List.map_toArray, List.map_cons, List.map_nil]); first | done | rfl | (simp only [List.length_drop, List.length_take]; rfl)) ?_
 with_reducible refine (impl_Clue_122.calls _ _ l0_1 t229 _ ?side1 ?side2 A3.out).mono ?_
 (case side1 => exact cU (Kd.C_below HR0_1.out HB.out))
 (case side2 => exact HC0_1.out)
 rintro e w8 ⟨v230, rfl, ho0, hb⟩
 refine ⟨_, rfl, ?_⟩
 have n0_ := rL ho0 HB
 have n1_ := bB BK227 hb
 have n2_ := bB BK228 hb
 have n3_ := hS HB hb
 clear BK227
 clear BK228
 clear HB
 have HO231 := n0_
 have BK227 := n1_
 have BK228 := n2_
 have HB := n3_
 clear n0_ n1_ n2_ n3_
 (try clear hb)
 (try clear hb2)
 (try clear hk)
 (try clear hi)
 (try clear ho0)
 obtain ⟨Ao9, co9, eo9⟩ := Kd.R_slice HO231.out
 (first | subst eo9 | (injection eo9 with f1_ f2_ f3_; have f4_ := f1_.symm; have f5_ := f3_.symm; clear f1_ f2_ f3_; subst f4_; subst f5_))
 refine hK.out _ _ ⟨(blk_cell BK227.out 0).trans rfl, (blk_cell BK227.out 1).trans rfl⟩ (fun hHeld => ?_)
 clear hK K
 refine norm_ (a' := ?_) ?_ ?_
 rotate_left
 ·show Act.put _ (some 9) _ = _
  simp only [Act.put, List.setIfInBounds_toArray, List.set_cons_zero, List.set_cons_succ, i64_w, i32_w]
  rfl
 refine one_ (i := 8) (N := some 13) #[true, true, true, true, true, true, true, true, true, false, false] rfl rfl (one_of HT_.out (by kernel_rfl)) (by decide) (fun K hK => ?_)
 refine goes_ Tryd.func145 (by kernel_rfl) rfl #[.slice Ao9 t229.length co9, .int .i64 a1, .int .i64 (wrap64 (a1 + 1))] (by rfl) rfl rfl (by (try simp only [List.map_toArray, List.map_cons, List.map_nil]); first | done | rfl | (simp only [List.length_drop, List.length_take]; rfl)) ?_
 with_reducible refine (impl_Clue_145.calls (fun k_ => some k_ = (.slice Ao9 t229.length co9 : Value).ownBlock) (.slice Ao9 t229.length co9) t229 a1 (wrap64 (a1 + 1)) t232 w _ ?side1 ?side2 A4.out).mono ?_
 (case side1 => exact bel HB)
 (case side2 => exact Kd.R_tight rfl HO231.out)
 rintro e w10 ⟨v233, rfl, ho0, hb, hkp⟩
 refine ⟨_, rfl, ?_⟩
 have n0_ := aM (blk_kept (bU BK227.out) hkp (fun hs_ => (fun e_ => (Kd.R_ne HO231.out BK227.out (by decide)) e_) hs_))
 have n1_ := aM (blk_kept (bU BK228.out) hkp (fun hs_ => (fun e_ => (Kd.R_ne HO231.out BK228.out (by decide)) e_) hs_))
 have n2_ := aM (Kd.R_mono (ok' := fun k_ => True) ho0 (fun k_ hk_ => trivial))
 have n3_ := aM (hb)
 clear BK227
 clear BK228
 clear HB
 clear HO231
 have BK227 := n0_
 have BK228 := n1_
 have HO234 := n2_
 have HB := n3_
 clear n0_ n1_ n2_ n3_
 (try clear hb)
 (try clear hkp)
 (try clear ho0)
 obtain ⟨Ao11, co11, eo11⟩ := Kd.R_slice HO234.out
 (first | subst eo11 | (injection eo11 with f1_ f2_ f3_; have f4_ := f1_.symm; have f5_ := f3_.symm; clear f1_ f2_ f3_; subst f4_; subst f5_))
 refine hK.out _ _ ⟨(blk_cell BK227.out 0).trans rfl, (blk_cell BK227.out 1).trans rfl⟩ (fun hHeld => ?_)
 clear hK K
 refine norm_ (a' := ?_) ?_ ?_
 rotate_left
 ·show Act.put _ (some 13) _ = _
  simp only [Act.put, List.setIfInBounds_toArray, List.set_cons_zero, List.set_cons_succ, i64_w, i32_w]
  rfl
 refine pure_ (i := 9) (N := some 14) (v := ?_) (a' := ?_) #[true, true, true, true, true, true, true, true, true, true, false] rfl rfl (any_of HT_.out (by kernel_rfl)) (fun _ _ _ h => h) (Or.inl ⟨by rfl, ?_⟩) ?_ ?_
 rotate_left
 ·intro w'
  go_simp
  with_reducible rfl
 rotate_left
 ·simp only [Act.put, List.setIfInBounds_toArray, List.set_cons_zero, List.set_cons_succ, i64_w, i32_w]
  rfl
 refine one_ (i := 10) (N := none) #[true, true, true, true, true, true, true, true, true, true, true] rfl rfl (one_of HT_.out (by kernel_rfl)) (by decide) (fun K hK => ?_)
 have hs12 : w10.cell? ⟨gb228, 0, none⟩ = some (.int .i64 0) := (blk_cell BK228.out 0).trans rfl
 have hfs12 := blk_frozen BK228.out 0
 have hns12_0 := NB227_228.out
 have hms12_0 := NB228_227.out
 have hs13 : w10.cell? ⟨gb228, 1, none⟩ = some (.slice none 0 0) := (blk_cell BK228.out 1).trans rfl
 have hfs13 := blk_frozen BK228.out 1
 have hns13_0 := NB227_228.out
 have hms13_0 := NB228_227.out
 refine skip_ (w1 := ?_) (by rfl) rfl ?_ ?_
 rotate_left
 ·go_simp
  rfl
 refine hK.out _ _ ⟨((cell_far (p := ⟨gb228, _, none⟩) NB227_228.out _).trans (((cell_far (p := ⟨gb228, _, none⟩) NB227_228.out _).trans (hHeld.1)))), ((cell_far (p := ⟨gb228, _, none⟩) NB227_228.out _).trans (((cell_far (p := ⟨gb228, _, none⟩) NB227_228.out _).trans (hHeld.2))))⟩ (fun hHeld => ?_)
 clear hK K
 refine done_ (done_of HT_.out (by kernel_rfl)) ?_
 try go_wp2
 refine bodyPost_ret (results_cell_row rfl _ _ gb228 57 #[.int .i64 a0_0, .slice Ao11 t232.length co11] (0, 0) _ rfl (by (with_reducible repeat (first | refine blk_drewN ?_ _ | refine blk_drew ?_ | refine blk_alloc ?_ _)); refine blk_put (cs := #[.int .i64 a0_0, .slice none 0 0]) ?_ 1 _ rfl; (with_reducible repeat (first | refine blk_drewN ?_ _ | refine blk_drew ?_ | refine blk_alloc ?_ _)); refine blk_put (cs := #[.int .i64 0, .slice none 0 0]) ?_ 0 _ rfl; (with_reducible repeat (first | refine blk_drewN ?_ _ | refine blk_drew ?_ | refine blk_alloc ?_ _)); exact BK228.out) Tryd.underlying57 rfl (by kernel_rfl)) rfl ?_
 exact ⟨_, eW, rU (Kd.R_mono (Kd.R_far (p := ⟨gb228, 1, none⟩) (Kd.R_far (p := ⟨gb228, 0, none⟩) (Kd.R_types HO234.out BK228.out (by decide)) (fun _ hk => hk.2) (.int .i64 a0_0)) (fun _ hk => hk.2) (.slice Ao11 t232.length co11)) (fun _ hk => trivial)), bel HB⟩

/-! ### impl_HarderPuzzle: function 56 -/
mutual
def impl_HarderPuzzle.j0 : Nat → Bool → Int → List (S59) → Option (Int × (List (S59)) × Bool)
 | 0, _, _, _ => none
 | k + 1, x19, x236000, x236001 => if x19 = true then (some (0, ([] : List (S59)), false)) else ((impl_Clue_122.f x236001).bind fun t239 => (impl_HarderPuzzle.l0 k 0 x236000 t239))
def impl_HarderPuzzle.l0 : Nat → Int → Int → List (S59) → Option (Int × (List (S59)) × Bool)
 | 0, _, _, _ => none
 | k + 1, x7, x243000, x243001 => if x7 < (x243001.length : Int) then ((impl_Puzzle_without.f x243000 x243001 x7).bind fun bt243 => ((impl_Puzzle_solutions.f bt243.1 bt243.2).bind fun t248 => (if (t248.length : Int) = 1 then (impl_HarderPuzzle.l0 k x7 bt243.1 bt243.2) else (impl_HarderPuzzle.l0 k (wrap64 (x7 + 1)) x243000 x243001)))) else (some (x243000, x243001, true))
end
def impl_HarderPuzzle.f (k : Nat) (a0_0 : Int) (l0_1 : List (S59)) : Option (Int × (List (S59)) × Bool) := (impl_IsSolved.f a0_0 l0_1).bind fun bt237 => (if bt237.2 = true then (impl_HarderPuzzle.j0 k (!bt237.1) a0_0 l0_1) else (impl_HarderPuzzle.j0 k true a0_0 l0_1))
theorem impl_HarderPuzzle.mono_l : ∀ k, Mo (impl_HarderPuzzle.j0 k) (impl_HarderPuzzle.j0 (k + 1)) ∧ Mo (impl_HarderPuzzle.l0 k) (impl_HarderPuzzle.l0 (k + 1))
 | 0 => m0
 | k + 1 => by
  have ⟨ih0, ih1⟩ := impl_HarderPuzzle.mono_l k
  refine ⟨?_, ?_⟩ <;> (repeat refine mE fun _ => ?_) <;> first | (unfold impl_HarderPuzzle.j0; exact mG) | (unfold impl_HarderPuzzle.l0; exact mG)
instance impl_HarderPuzzle.mI (k : Nat) : Mo (impl_HarderPuzzle.f k) (impl_HarderPuzzle.f (k + 1)) := by
 have ⟨ih0, ih1⟩ := impl_HarderPuzzle.mono_l k
 (repeat refine mE fun _ => ?_); unfold impl_HarderPuzzle.f; exact mG
theorem impl_HarderPuzzle.mono : ∀ a0 a1 k, LeO (impl_HarderPuzzle.f k a0 a1) (impl_HarderPuzzle.f (k + 1) a0 a1) := fun a0 a1 k => (impl_HarderPuzzle.mI k).out a0 a1
def impl_HarderPuzzle.T4 : Bool × List (List Nat × List Nat) := (true, [([], []), ([0], [0]), ([], []), ([2], [2]), ([3], [3]), ([1, 4], [1, 4]), ([], []), ([6, 5, 4, 0, 1, 2, 3, 4, 5, 6], [5, 6])])
def impl_HarderPuzzle.B4 : List Nat := [0, 1, 0, 4, 12, 31, 0, 127]
theorem impl_HarderPuzzle.tab4 : rtab .any (opsOf Tryd.f56 4) = impl_HarderPuzzle.T4 := by kernel_rfl
theorem impl_HarderPuzzle.bits4 : waitsOk impl_HarderPuzzle.T4.2 impl_HarderPuzzle.B4 = true := by kernel_rfl
set_option maxHeartbeats 8000000 in
set_option maxRecDepth 100000 in
theorem impl_HarderPuzzle.calls (k : Nat) (a0_0 : Int) (A0_1 : Option Addr) (c0_1 : Nat) (l0_1 : List (S59)) (r1 : Int) (r2 : List (S59)) (r3 : Bool) (w : World) (hr0_1 : Kd.C k59 w A0_1 l0_1.length l0_1) (hc0_1 : l0_1.length ≤ c0_1) (h : impl_HarderPuzzle.f k a0_0 l0_1 = some (r1, r2, r3)) :
  Calls Tryd.prog 56 #[.agg #[.int .i64 a0_0, .slice A0_1 l0_1.length c0_1]] w fun e w' => ∃ v1_ : Value, e = .returned (.tuple #[.agg #[.int .i64 r1, v1_], .bool r3]) ∧ Kd.R k59 59 w' w.heap.size (fun _ => True) v1_ r2 ∧ Below w.heap.size w w' := by
 have hu57 := Tryd.underlying57
 have HR0_1 := aM hr0_1
 have HC0_1 := aM hc0_1
 clear hr0_1 hc0_1
 have HB := aM (Below.refl w.heap.size w)
 have H := h
 clear h; unfold impl_HarderPuzzle.f at H
 replace H := bC H; obtain ⟨⟨t237, t238⟩, A2, H⟩ := H; try dsimp only at H
 have HC3 := aM H
 clear H
 go_enter Tryd.func56, Tryd.ntmps56
 go_upto_region 2 with (first | (refine bX (N := 1) rfl (cs := #[.int .i64 a0_0, .slice A0_1 l0_1.length c0_1]) (t := 57) ?_; intro gb235 hg w4 BK235 hb; have GW235 := gE hg HB; have GE235 := gE hg HB; replace HB := hS HB hb; clear hb hg) | (refine bX (N := 2) rfl (cs := #[.int .i64 0, .slice none 0 0]) (t := 57) ?_; intro gb236 hg w5 BK236 hb; have GW236 := gE hg HB; have GE236 := gE hg HB; have NB235_236 := nbL hg BK235; have NB236_235 := nbR hg BK235; replace BK235 := bB BK235 hb; replace HB := hS HB hb; clear hb hg; have hnb6 := NB235_236.out; have hnc6 := NB236_235.out; obtain ⟨hcz7_0, hcz7_1, hfz7_0, hfz7_1⟩ := hC2 BK235) | ((with_reducible refine gG 58 (some 11) rfl rfl ?_); refine gC Tryd.func58 (impl_IsSolved.calls a0_0 _ _ l0_1 t237 t238 _ (cU (Kd.C_below HR0_1.out HB.out)) HC0_1.out A2.out) ?_; rintro w8 hb; replace BK235 := bB BK235 hb; replace BK236 := bB BK236 hb; replace HB := hS HB hb; clear hb))
 (try simp only [Act.put, List.setIfInBounds_toArray, List.set_cons_zero, List.set_cons_succ])
 go_cut [19] (fun v19 wc => ∃ (kq : Nat) (x19_2 : Bool), v19 = .bool x19_2 ∧ Aside0 (impl_HarderPuzzle.j0 kq x19_2 a0_0 l0_1 = some (r1, r2, r3)) ∧ Aside0 (kq ≤ k) ∧ Aside0 (wc.heap[gb235]? = some (.cells #[.int .i64 a0_0, (.slice A0_1 l0_1.length c0_1)] 57 (0, 0))) ∧ Aside0 (wc.heap[gb236]? = some (.cells #[.int .i64 0, (.slice none 0 0)] 57 (0, 0))) ∧ Aside0 (Below w.heap.size w wc))
 case first =>
  have H := HC3.out
  clear HC3
  refine iB H ?_ ?_ <;> clear H <;> rintro rfl H
  ·have H' := aM H
   clear H
   go_wp2
   go_meet
   case rel => exact ⟨_, (!t237), rF, H', kL, ⟨bU BK235.out⟩, ⟨bU BK236.out⟩, hV HB⟩
  have H' := aM H
  clear H
  go_wp2
  go_meet
  case rel => exact ⟨_, (true), rF, H', kL, ⟨bU BK235.out⟩, ⟨bU BK236.out⟩, hV HB⟩
 case rest =>
  clear HC3
  try clear hcz7_0;try clear hcz7_1;try clear hfz7_0;try clear hfz7_1
  obtain ⟨kq, x19_2, rfl, HA, HJ2, BK235, BK236, HB⟩ := hcut
  obtain rfl | ⟨kj2, rfl⟩ := fz kq
  ·exact zA HA
  have H := HA.out
  clear HA
  simp only [impl_HarderPuzzle.j0] at H
  refine iB H ?_ ?_ <;> clear H <;> rintro rfl H
  ·simp only [Option.some.injEq, Prod.mk.injEq] at H
   obtain ⟨rfl, rfl, rfl⟩ := H
   have hnb11 := NB236_235.out
   have hnc11 := NB235_236.out
   obtain ⟨hcz12_0, hcz12_1, hfz12_0, hfz12_1⟩ := hC2 BK236
   go_wp2
   refine bodyPost_ret (results_ct rfl _ _ gb236 57 #[.int .i64 0, .slice none 0 0] (0, 0) _ rfl (by (with_reducible repeat (first | refine blk_drewN ?_ _ | refine blk_drew ?_ | refine blk_alloc ?_ _)); refine blk_put (cs := #[.int .i64 0, .slice none 0 0]) ?_ 1 _ rfl; (with_reducible repeat (first | refine blk_drewN ?_ _ | refine blk_drew ?_ | refine blk_alloc ?_ _)); refine blk_put (cs := #[.int .i64 0, .slice none 0 0]) ?_ 0 _ rfl; (with_reducible repeat (first | refine blk_drewN ?_ _ | refine blk_drew ?_ | refine blk_alloc ?_ _)); exact BK236.out) Tryd.underlying57 rfl (by kernel_rfl)) rfl ?_
   exact ⟨_, eW, by first | exact Kd.R_nil _ _ _ _ _ | exact Kd.N_nil _ _ _ _ _ | exact Kd.V_nil _ _ _ _ _ | exact Kd.Q_nil _ _ _ _ _ | exact Kd.S_nil _ _ _ _ _, bel HB⟩
  replace H := bC H; obtain ⟨t239, A13, H⟩ := H
  have H' := aM H
  clear H
  try go_wp2
  have n0_ := aM (blk_drew BK235.out)
  have n1_ := aM (blk_drew BK236.out)
  have n2_ := aM (below_drew1 HB.out)
  clear BK235
  clear BK236
  clear HB
  have BK235 := n0_
  have BK236 := n1_
  have HB := n2_
  clear n0_ n1_ n2_
  refine start_ (n := 8) (S := fun w' => w'.cell? ⟨gb235, 0, none⟩ = some (.int .i64 a0_0) ∧ w'.cell? ⟨gb235, 1, none⟩ = some (.slice A0_1 l0_1.length c0_1)) (ds := []) #[false, false, false, false, false, false, false, false] (by kernel_rfl) rfl rfl ⟨(blk_cell BK235.out 0).trans rfl, (blk_cell BK235.out 1).trans rfl⟩ (fun hHeld => ?_); refine with_tabW impl_HarderPuzzle.tab4 impl_HarderPuzzle.bits4 (fun HT_ HW_ => ?_)
  generalize wc.drew = w14 at BK235 BK236 HB hHeld ⊢
  refine pure_ (i := 0) (N := some 21) (v := ?_) (a' := ?_) #[true, false, false, false, false, false, false, false] rfl rfl (any_of HT_.out (by kernel_rfl)) (fun _ _ _ h => h) (Or.inl ⟨by rfl, ?_⟩) ?_ ?_
  rotate_left
  ·intro w'
   go_simp
   with_reducible rfl
  rotate_left
  ·simp only [Act.put, List.setIfInBounds_toArray, List.set_cons_zero, List.set_cons_succ, i64_w, i32_w]
   rfl
  refine pure_ (i := 2) (N := some 23) (v := ?_) (a' := ?_) #[true, false, true, false, false, false, false, false] rfl rfl (any_of HT_.out (by kernel_rfl)) (fun _ _ _ h => h) (Or.inl ⟨by rfl, ?_⟩) ?_ ?_
  rotate_left
  ·intro w'
   go_simp
   with_reducible rfl
  rotate_left
  ·simp only [Act.put, List.setIfInBounds_toArray, List.set_cons_zero, List.set_cons_succ, i64_w, i32_w]
   rfl
  refine take_ (i := 1) (N := some 22) (v := ?_) (a' := ?_) #[true, true, true, false, false, false, false, false] rfl rfl (take_ofW HT_.out HW_.out (by kernel_rfl)) (fun _ _ _ h => h) (Or.inl ⟨by rfl, ?_⟩) hHeld ?_ ?_
  rotate_left
  ·rintro w' ⟨s0, s1⟩
   go_simp
   with_reducible rfl
  rotate_left
  ·simp only [Act.put, List.setIfInBounds_toArray, List.set_cons_zero, List.set_cons_succ, i64_w, i32_w]
   rfl
  refine take_ (i := 3) (N := some 24) (v := ?_) (a' := ?_) #[true, true, true, true, false, false, false, false] rfl rfl (take_ofW HT_.out HW_.out (by kernel_rfl)) (fun _ _ _ h => h) (Or.inl ⟨by rfl, ?_⟩) hHeld ?_ ?_
  rotate_left
  ·rintro w' ⟨s0, s1⟩
   go_simp
   with_reducible rfl
  rotate_left
  ·simp only [Act.put, List.setIfInBounds_toArray, List.set_cons_zero, List.set_cons_succ, i64_w, i32_w]
   rfl
  refine join_ (σ := Value × Nat) 1 #[true, true, true, true, true, true, true, false] (fun s_ => [(25, s_.1), (6, .pointer (some ⟨s_.2, 0, none⟩)), (26, .agg #[.int .i64 a0_0, s_.1])]) (fun s_ w' => (w'.cell? ⟨gb235, 0, none⟩ = some (.int .i64 a0_0) ∧ w'.cell? ⟨gb235, 1, none⟩ = some (.slice A0_1 l0_1.length c0_1)) ∧ (Kd.R k59 59 w' w.heap.size (fun _ => True) s_.1 t239) ∧ (w'.heap[gb235]? = some (.cells #[.int .i64 a0_0, .slice A0_1 l0_1.length c0_1] 57 (0, 0))) ∧ (w'.heap[gb236]? = some (.cells #[.int .i64 0, .slice none 0 0] 57 (0, 0))) ∧ (w'.heap[s_.2]? = some (.cells #[.int .i64 0, .slice none 0 0] 57 (0, 0))) ∧ (w.heap.size ≤ s_.2) ∧ (w.heap.size ≤ s_.2) ∧ (gb235 ≠ s_.2) ∧ (s_.2 ≠ gb235) ∧ (gb236 ≠ s_.2) ∧ (s_.2 ≠ gb236) ∧ (Below w.heap.size w w')) ?_ ?_
  rotate_left
  ·intro hCont
   refine two_ (i := 4) (j := 6) (Ni := some 25) (Nj := some 6) #[true, true, true, true, true, false, false, false] #[true, true, true, true, false, false, true, false] rfl rfl rfl rfl (two_of HT_.out (by kernel_rfl)) (by decide) (by decide) (fun K hK => ?_) (fun K hK => ?_)
   ·skip
    refine goes_ Tryd.func122 (by kernel_rfl) rfl #[.slice A0_1 l0_1.length c0_1] (by rfl) rfl rfl (by (try simp only [List.map_toArray, List.map_cons, List.map_nil]); first | done | rfl | (simp only [List.length_drop, List.length_take]; rfl)) ?_
    with_reducible refine (impl_Clue_122.calls _ _ l0_1 t239 _ ?side1 ?side2 A13.out).mono ?_
    (case side1 => exact cU (Kd.C_below HR0_1.out HB.out))
    (case side2 => exact HC0_1.out)
    rintro e w15 ⟨v240, rfl, ho0, hb⟩
    refine ⟨_, rfl, ?_⟩
    have n0_ := rL ho0 HB
    have n1_ := bB BK235 hb
    have n2_ := bB BK236 hb
    have n3_ := hS HB hb
    clear BK235
    clear BK236
    clear HB
    have HO241 := n0_
    have BK235 := n1_
    have BK236 := n2_
    have HB := n3_
    clear n0_ n1_ n2_ n3_
    (try clear hb)
    (try clear hb2)
    (try clear hk)
    (try clear hi)
    (try clear ho0)
    obtain ⟨Ao16, co16, eo16⟩ := Kd.R_slice HO241.out
    (first | subst eo16 | (injection eo16 with f1_ f2_ f3_; have f4_ := f1_.symm; have f5_ := f3_.symm; clear f1_ f2_ f3_; subst f4_; subst f5_))
    refine hK.out _ _ ⟨(blk_cell BK235.out 0).trans rfl, (blk_cell BK235.out 1).trans rfl⟩ (fun hHeld => ?_)
    clear hK K
    refine norm_ (a' := ?_) ?_ ?_
    rotate_left
    ·show Act.put _ (some 25) _ = _
     simp only [Act.put, List.setIfInBounds_toArray, List.set_cons_zero, List.set_cons_succ, i64_w, i32_w]
     rfl
    refine pure_ (i := 5) (N := some 26) (v := ?_) (a' := ?_) #[true, true, true, true, true, true, false, false] rfl rfl (any_of HT_.out (by kernel_rfl)) (fun _ _ _ h => h) (Or.inl ⟨by rfl, ?_⟩) ?_ ?_
    rotate_left
    ·intro w'
     go_simp
     with_reducible rfl
    rotate_left
    ·simp only [Act.put, List.setIfInBounds_toArray, List.set_cons_zero, List.set_cons_succ, i64_w, i32_w]
     rfl
    refine one_ (i := 6) (N := some 6) #[true, true, true, true, true, true, true, false] rfl rfl (one_of HT_.out (by kernel_rfl)) (by decide) (fun K hK => ?_)
    refine box_step ?hg (N := 6) ?hd (cs := #[.int .i64 0, .slice none 0 0]) (t := 57) ?hr ?_; (case hd => rfl); (case hg => rfl); (case hr => first | (go_simp; done) | (go_simp; rfl))
    intro gb242 hg w17 hbox hb
    have n0_ := rB HO241 hb
    have n1_ := bB BK235 hb
    have n2_ := bB BK236 hb
    have n3_ := hS HB hb
    have n4_ := aM hbox
    have n5_ := gE hg HB
    have n6_ := gE hg HB
    have n7_ := nbL hg BK235
    have n8_ := nbR hg BK235
    have n9_ := nbL hg BK236
    have n10_ := nbR hg BK236
    clear HO241
    clear BK235
    clear BK236
    clear HB
    have HO241 := n0_
    have BK235 := n1_
    have BK236 := n2_
    have HB := n3_
    have BK242 := n4_
    have GW242 := n5_
    have GE242 := n6_
    have NB235_242 := n7_
    have NB242_235 := n8_
    have NB236_242 := n9_
    have NB242_236 := n10_
    clear n0_ n1_ n2_ n3_ n4_ n5_ n6_ n7_ n8_ n9_ n10_
    clear hb hbox hg
    refine hK.out _ _ ⟨(blk_cell BK235.out 0).trans rfl, (blk_cell BK235.out 1).trans rfl⟩ (fun hHeld => ?_)
    clear hK K
    refine norm_ (a' := ?_) ?_ ?_
    rotate_left
    ·show Act.put _ (some 6) _ = _
     simp only [Act.put, List.setIfInBounds_toArray, List.set_cons_zero, List.set_cons_succ, i64_w, i32_w]
     rfl
    exact norm_ (by simp only [putAll, Act.put, List.setIfInBounds_toArray, List.set_cons_zero, List.set_cons_succ]) (hCont (.slice Ao16 t239.length co16, gb242) _ ⟨hHeld, (rU HO241.out), (bU BK235.out), (bU BK236.out), (bU BK242.out), GW242.out, GE242.out, NB235_242.out, NB242_235.out, NB236_242.out, NB242_236.out, (bel HB)⟩)
   skip
   refine box_step ?hg (N := 6) ?hd (cs := #[.int .i64 0, .slice none 0 0]) (t := 57) ?hr ?_; (case hd => rfl); (case hg => rfl); (case hr => first | (go_simp; done) | (go_simp; rfl))
   intro gb242 hg w15 hbox hb
   have n0_ := bB BK235 hb
   have n1_ := bB BK236 hb
   have n2_ := hS HB hb
   have n3_ := aM hbox
   have n4_ := gE hg HB
   have n5_ := gE hg HB
   have n6_ := nbL hg BK235
   have n7_ := nbR hg BK235
   have n8_ := nbL hg BK236
   have n9_ := nbR hg BK236
   clear BK235
   clear BK236
   clear HB
   have BK235 := n0_
   have BK236 := n1_
   have HB := n2_
   have BK242 := n3_
   have GW242 := n4_
   have GE242 := n5_
   have NB235_242 := n6_
   have NB242_235 := n7_
   have NB236_242 := n8_
   have NB242_236 := n9_
   clear n0_ n1_ n2_ n3_ n4_ n5_ n6_ n7_ n8_ n9_
   clear hb hbox hg
   refine hK.out _ _ ⟨(blk_cell BK235.out 0).trans rfl, (blk_cell BK235.out 1).trans rfl⟩ (fun hHeld => ?_)
   clear hK K
   refine norm_ (a' := ?_) ?_ ?_
   rotate_left
   ·show Act.put _ (some 6) _ = _
    simp only [Act.put, List.setIfInBounds_toArray, List.set_cons_zero, List.set_cons_succ, i64_w, i32_w]
    rfl
   refine one_ (i := 4) (N := some 25) #[true, true, true, true, true, false, true, false] rfl rfl (one_of HT_.out (by kernel_rfl)) (by decide) (fun K hK => ?_)
   refine goes_ Tryd.func122 (by kernel_rfl) rfl #[.slice A0_1 l0_1.length c0_1] (by rfl) rfl rfl (by (try simp only [List.map_toArray, List.map_cons, List.map_nil]); first | done | rfl | (simp only [List.length_drop, List.length_take]; rfl)) ?_
   with_reducible refine (impl_Clue_122.calls _ _ l0_1 t239 _ ?side1 ?side2 A13.out).mono ?_
   (case side1 => exact cU (Kd.C_below HR0_1.out HB.out))
   (case side2 => exact HC0_1.out)
   rintro e w16 ⟨v240, rfl, ho0, hb⟩
   refine ⟨_, rfl, ?_⟩
   have n0_ := rL ho0 HB
   have n1_ := bB BK235 hb
   have n2_ := bB BK236 hb
   have n3_ := bB BK242 hb
   have n4_ := hS HB hb
   clear BK235
   clear BK236
   clear BK242
   clear HB
   have HO241 := n0_
   have BK235 := n1_
   have BK236 := n2_
   have BK242 := n3_
   have HB := n4_
   clear n0_ n1_ n2_ n3_ n4_
   (try clear hb)
   (try clear hb2)
   (try clear hk)
   (try clear hi)
   (try clear ho0)
   obtain ⟨Ao17, co17, eo17⟩ := Kd.R_slice HO241.out
   (first | subst eo17 | (injection eo17 with f1_ f2_ f3_; have f4_ := f1_.symm; have f5_ := f3_.symm; clear f1_ f2_ f3_; subst f4_; subst f5_))
   refine hK.out _ _ ⟨(blk_cell BK235.out 0).trans rfl, (blk_cell BK235.out 1).trans rfl⟩ (fun hHeld => ?_)
   clear hK K
   refine norm_ (a' := ?_) ?_ ?_
   rotate_left
   ·show Act.put _ (some 25) _ = _
    simp only [Act.put, List.setIfInBounds_toArray, List.set_cons_zero, List.set_cons_succ, i64_w, i32_w]
    rfl
   refine pure_ (i := 5) (N := some 26) (v := ?_) (a' := ?_) #[true, true, true, true, true, true, true, false] rfl rfl (any_of HT_.out (by kernel_rfl)) (fun _ _ _ h => h) (Or.inl ⟨by rfl, ?_⟩) ?_ ?_
   rotate_left
   ·intro w'
    go_simp
    with_reducible rfl
   rotate_left
   ·simp only [Act.put, List.setIfInBounds_toArray, List.set_cons_zero, List.set_cons_succ, i64_w, i32_w]
    rfl
   exact norm_ (by simp only [putAll, Act.put, List.setIfInBounds_toArray, List.set_cons_zero, List.set_cons_succ]) (hCont (.slice Ao17 t239.length co17, gb242) _ ⟨hHeld, (rU HO241.out), (bU BK235.out), (bU BK236.out), (bU BK242.out), GW242.out, GE242.out, NB235_242.out, NB242_235.out, NB236_242.out, NB242_236.out, (bel HB)⟩)
  rintro ⟨v240, gb242⟩ w18 ⟨hS_, h0_, h1_, h2_, h3_, h4_, h5_, h6_, h7_, h8_, h9_, h10_⟩
  have n0_ : Aside0 (Kd.R k59 59 w18 w.heap.size (fun _ => True) v240 t239) := ⟨h0_⟩
  have n1_ : Aside0 (w18.heap[gb235]? = some (.cells #[.int .i64 a0_0, .slice A0_1 l0_1.length c0_1] 57 (0, 0))) := ⟨h1_⟩
  have n2_ : Aside0 (w18.heap[gb236]? = some (.cells #[.int .i64 0, .slice none 0 0] 57 (0, 0))) := ⟨h2_⟩
  have n3_ : Aside0 (w18.heap[gb242]? = some (.cells #[.int .i64 0, .slice none 0 0] 57 (0, 0))) := ⟨h3_⟩
  have n4_ : Ge w gb242 := ⟨h4_⟩
  have n5_ : Ge w gb242 := ⟨h5_⟩
  have n6_ : Ap gb235 gb242 := ⟨h6_⟩
  have n7_ : Ap gb242 gb235 := ⟨h7_⟩
  have n8_ : Ap gb236 gb242 := ⟨h8_⟩
  have n9_ : Ap gb242 gb236 := ⟨h9_⟩
  have n10_ : Aside0 (Below w.heap.size w w18) := ⟨h10_⟩
  clear BK235
  clear BK236
  clear HB
  clear h0_ h1_ h2_ h3_ h4_ h5_ h6_ h7_ h8_ h9_ h10_
  have HO241 := n0_
  have BK235 := n1_
  have BK236 := n2_
  have BK242 := n3_
  have GW242 := n4_
  have GE242 := n5_
  have NB235_242 := n6_
  have NB242_235 := n7_
  have NB236_242 := n8_
  have NB242_236 := n9_
  have HB := n10_
  clear n0_ n1_ n2_ n3_ n4_ n5_ n6_ n7_ n8_ n9_ n10_
  have hHeld : w18.cell? ⟨gb235, 0, none⟩ = some (.int .i64 a0_0) ∧ w18.cell? ⟨gb235, 1, none⟩ = some (.slice A0_1 l0_1.length c0_1) := hS_
  obtain ⟨Ao19, co19, eo19⟩ := Kd.R_slice HO241.out
  (first | subst eo19 | (injection eo19 with f1_ f2_ f3_; have f4_ := f1_.symm; have f5_ := f3_.symm; clear f1_ f2_ f3_; subst f4_; subst f5_))
  refine norm_ (a' := ?_) ?_ ?_
  rotate_left
  ·simp only [putAll, Act.put, List.setIfInBounds_toArray, List.set_cons_zero, List.set_cons_succ]
   rfl
  refine one_ (i := 7) (N := none) #[true, true, true, true, true, true, true, true] rfl rfl (one_of HT_.out (by kernel_rfl)) (by decide) (fun K hK => ?_)
  have hs20 : w18.cell? ⟨gb242, 0, none⟩ = some (.int .i64 0) := (blk_cell BK242.out 0).trans rfl
  have hfs20 := blk_frozen BK242.out 0
  have hns20_0 := NB235_242.out
  have hns20_1 := NB236_242.out
  have hms20_0 := NB242_235.out
  have hms20_1 := NB242_236.out
  have hs21 : w18.cell? ⟨gb242, 1, none⟩ = some (.slice none 0 0) := (blk_cell BK242.out 1).trans rfl
  have hfs21 := blk_frozen BK242.out 1
  have hns21_0 := NB235_242.out
  have hns21_1 := NB236_242.out
  have hms21_0 := NB242_235.out
  have hms21_1 := NB242_236.out
  refine skip_ (w1 := ?_) (by rfl) rfl ?_ ?_
  rotate_left
  ·go_simp
   rfl
  refine hK.out _ _ ⟨((cell_far (p := ⟨gb242, _, none⟩) NB235_242.out _).trans (((cell_far (p := ⟨gb242, _, none⟩) NB235_242.out _).trans (hHeld.1)))), ((cell_far (p := ⟨gb242, _, none⟩) NB235_242.out _).trans (((cell_far (p := ⟨gb242, _, none⟩) NB235_242.out _).trans (hHeld.2))))⟩ (fun hHeld => ?_)
  clear hK K
  refine done_ (done_of HT_.out (by kernel_rfl)) ?_
  try go_wp2
  go_loopg [7] kj2 (fun kq v7 w' => ∃ (x7_2 : Int) (x243000_2 : Int) (x243001_2 : List (S59)) (u243001 : Value), v7 = .int .i64 x7_2 ∧ Aside0 (impl_HarderPuzzle.l0 kq x7_2 x243000_2 x243001_2 = some (r1, r2, r3)) ∧ Aside0 (kq ≤ kj2) ∧ Aside0 (Kd.R k59 59 w' w.heap.size (fun _ => True) u243001 x243001_2) ∧ Aside0 (w'.heap[gb235]? = some (.cells #[.int .i64 a0_0, (.slice A0_1 l0_1.length c0_1)] 57 (0, 0))) ∧ Aside0 (w'.heap[gb236]? = some (.cells #[.int .i64 0, (.slice none 0 0)] 57 (0, 0))) ∧ Aside0 (w'.heap[gb242]? = some (.cells #[.int .i64 x243000_2, u243001] 57 (0, 0))) ∧ Aside0 (Below w.heap.size w w'))
  case atStart => exact ⟨(0), (a0_0), (t239), (.slice Ao19 t239.length co19), rF, H', kR, ⟨rU (Kd.R_mono (Kd.R_far (p := ⟨gb242, 1, none⟩) (Kd.R_far (p := ⟨gb242, 0, none⟩) (Kd.R_types HO241.out BK242.out (by decide)) (fun _ hk => hk.2) (.int .i64 a0_0)) (fun _ hk => hk.2) (.slice Ao19 t239.length co19)) (fun _ hk => trivial))⟩, ⟨by (with_reducible repeat (first | refine blk_drewN ?_ _ | refine blk_drew ?_ | refine blk_alloc ?_ _)); refine blk_far ?_ NB235_242.out _; (with_reducible repeat (first | refine blk_drewN ?_ _ | refine blk_drew ?_ | refine blk_alloc ?_ _)); refine blk_far ?_ NB235_242.out _; (with_reducible repeat (first | refine blk_drewN ?_ _ | refine blk_drew ?_ | refine blk_alloc ?_ _)); exact BK235.out⟩, ⟨by (with_reducible repeat (first | refine blk_drewN ?_ _ | refine blk_drew ?_ | refine blk_alloc ?_ _)); refine blk_far ?_ NB236_242.out _; (with_reducible repeat (first | refine blk_drewN ?_ _ | refine blk_drew ?_ | refine blk_alloc ?_ _)); refine blk_far ?_ NB236_242.out _; (with_reducible repeat (first | refine blk_drewN ?_ _ | refine blk_drew ?_ | refine blk_alloc ?_ _)); exact BK236.out⟩, ⟨by (with_reducible repeat (first | refine blk_drewN ?_ _ | refine blk_drew ?_ | refine blk_alloc ?_ _)); refine blk_put (cs := #[.int .i64 a0_0, .slice none 0 0]) ?_ 1 _ rfl; (with_reducible repeat (first | refine blk_drewN ?_ _ | refine blk_drew ?_ | refine blk_alloc ?_ _)); refine blk_put (cs := #[.int .i64 0, .slice none 0 0]) ?_ 0 _ rfl; (with_reducible repeat (first | refine blk_drewN ?_ _ | refine blk_drew ?_ | refine blk_alloc ?_ _)); exact BK242.out⟩, hV HB⟩
  case round =>
   clear H'
   obtain ⟨x7_2, x243000_2, x243001_2, u243001, rfl, HA, HK2, HO_243001, BK235, BK236, BK242, HB⟩ := hrel
   obtain rfl | ⟨k2, rfl⟩ := fz gk
   ·exact zA HA
   have H := HA.out
   clear HA
   simp only [impl_HarderPuzzle.l0] at H
   refine iI H ?_ ?_ <;> clear H <;> intro c22 H
   ·have c22b0 := dT c22
    clear c22
    replace H := bC H; obtain ⟨⟨t243, t244⟩, A23, H⟩ := H; try dsimp only at H
    replace H := bC H; obtain ⟨t248, A24, H⟩ := H
    refine iI H ?_ ?_ <;> clear H <;> intro c25 H
    ·have c25b0 := qT c25
     have c25b1 := nF c25
     clear c25
     have H' := aM H
     clear H
     have hnb26 := NB242_235.out
     have hnc26 := NB235_242.out
     have hnb27 := NB242_236.out
     have hnc27 := NB236_242.out
     obtain ⟨hcz28_0, hcz28_1, hfz28_0, hfz28_1⟩ := hC2 BK242
     obtain ⟨Ao29, co29, eo29⟩ := Kd.R_slice HO_243001.out
     subst eo29
     go_wp2_with (first | ((with_reducible refine gG 123 (some 34) rfl rfl ?_); refine gD Tryd.func123 (impl_Puzzle_without.calls x243000_2 _ _ x243001_2 x7_2 t243 t244 _ (cU ((Kd.R_reads' HO_243001.out).2.2)) ((Kd.R_reads' HO_243001.out).2.1) A23.out) ?_; rintro w30 v245 ⟨ho0, hb⟩; have HO246 := aM (Kd.R_lower (Kd.R_new' ho0 (Kd.R_lt (rU HO_243001.out))) (below_size (bel HB))); replace HO_243001 := aM (Kd.R_elder' (rU HO_243001.out) (Kd.R_base ho0) hb); replace BK235 := bB BK235 hb; replace BK236 := bB BK236 hb; replace BK242 := bB BK242 hb; replace HB := hS HB hb; clear hb ho0) | (refine bX (N := 8) rfl (cs := #[.int .i64 0, .slice none 0 0]) (t := 57) ?_; intro gb247 hg w31 BK247 hb; have GW247 := gE hg HB; have GE247 := gE hg HB; have NB235_247 := nbL hg BK235; have NB247_235 := nbR hg BK235; have NB236_247 := nbL hg BK236; have NB247_236 := nbR hg BK236; have NB242_247 := nbL hg BK242; have NB247_242 := nbR hg BK242; replace HO_243001 := rB HO_243001 hb; replace HO246 := rB HO246 hb; replace BK235 := bB BK235 hb; replace BK236 := bB BK236 hb; replace BK242 := bB BK242 hb; replace HB := hS HB hb; clear hb hg; have hnb32 := NB247_235.out; have hnc32 := NB235_247.out; have hnb33 := NB247_236.out; have hnc33 := NB236_247.out; have hnb34 := NB247_242.out; have hnc34 := NB242_247.out; obtain ⟨hcz35_0, hcz35_1, hfz35_0, hfz35_1⟩ := hC2 BK247; obtain ⟨Ao36, co36, eo36⟩ := Kd.R_slice HO246.out; subst eo36) | ((with_reducible refine gG 118 (some 36) rfl rfl ?_); refine gL Tryd.func118 #[.agg #[.int .i64 t243, .slice Ao36 t244.length co36]] ?_; (with_reducible refine (impl_Puzzle_solutions.calls t243 _ _ t244 t248 _ ?side1 ((Kd.R_reads' HO246.out).2.1) A24.out).mono ?_); (case side1 => refine (Kd.R_reads' (e := 59) (base := w.heap.size) (ok := fun k_ => (True ∧ some k_ ≠ (.slice Ao29 x243001_2.length co29 : Value).ownBlock)) (n := t244.length) (c := co36) ?_).2.2; exact (rU (Kd.R_mono (Kd.R_far (p := ⟨gb247, 1, none⟩) (Kd.R_far (p := ⟨gb247, 0, none⟩) (Kd.R_types HO246.out BK247.out (by decide)) (fun _ hk => hk.2) (.int .i64 t243)) (fun _ hk => hk.2) (.slice Ao36 t244.length co36)) (fun _ h_ => h_.1)))); rintro e w37 ⟨v249, rfl, ho0, hb⟩; refine ⟨_, rfl, ?_⟩; have HO250 := rL ho0 HB; replace HO_243001 := aM (Kd.R_below (rU (Kd.R_mono (Kd.R_far (p := ⟨gb247, 1, none⟩) (Kd.R_far (p := ⟨gb247, 0, none⟩) (Kd.R_types HO_243001.out BK247.out (by decide)) (fun _ hk => hk.2) (.int .i64 t243)) (fun _ hk => hk.2) (.slice Ao36 t244.length co36)) (fun _ h_ => h_.1))) hb); replace HO246 := aM (Kd.R_below (rU (Kd.R_mono (Kd.R_far (p := ⟨gb247, 1, none⟩) (Kd.R_far (p := ⟨gb247, 0, none⟩) (Kd.R_types HO246.out BK247.out (by decide)) (fun _ hk => hk.2) (.int .i64 t243)) (fun _ hk => hk.2) (.slice Ao36 t244.length co36)) (fun _ h_ => h_.1))) hb); replace BK235 := aM (blk_below (g := gb235) (o := .cells #[.int .i64 a0_0, .slice A0_1 l0_1.length c0_1] 57 (0, 0)) (by (with_reducible repeat (first | refine blk_drewN ?_ _ | refine blk_drew ?_ | refine blk_alloc ?_ _)); refine blk_far ?_ NB235_247.out _; (with_reducible repeat (first | refine blk_drewN ?_ _ | refine blk_drew ?_ | refine blk_alloc ?_ _)); refine blk_far ?_ NB235_247.out _; (with_reducible repeat (first | refine blk_drewN ?_ _ | refine blk_drew ?_ | refine blk_alloc ?_ _)); exact BK235.out) hb); replace BK236 := aM (blk_below (g := gb236) (o := .cells #[.int .i64 0, .slice none 0 0] 57 (0, 0)) (by (with_reducible repeat (first | refine blk_drewN ?_ _ | refine blk_drew ?_ | refine blk_alloc ?_ _)); refine blk_far ?_ NB236_247.out _; (with_reducible repeat (first | refine blk_drewN ?_ _ | refine blk_drew ?_ | refine blk_alloc ?_ _)); refine blk_far ?_ NB236_247.out _; (with_reducible repeat (first | refine blk_drewN ?_ _ | refine blk_drew ?_ | refine blk_alloc ?_ _)); exact BK236.out) hb); replace BK242 := aM (blk_below (g := gb242) (o := .cells #[.int .i64 x243000_2, .slice Ao29 x243001_2.length co29] 57 (0, 0)) (by (with_reducible repeat (first | refine blk_drewN ?_ _ | refine blk_drew ?_ | refine blk_alloc ?_ _)); refine blk_far ?_ NB242_247.out _; (with_reducible repeat (first | refine blk_drewN ?_ _ | refine blk_drew ?_ | refine blk_alloc ?_ _)); refine blk_far ?_ NB242_247.out _; (with_reducible repeat (first | refine blk_drewN ?_ _ | refine blk_drew ?_ | refine blk_alloc ?_ _)); exact BK242.out) hb); replace BK247 := aM (blk_below (g := gb247) (o := .cells #[.int .i64 t243, .slice Ao36 t244.length co36] 57 (0, 0)) (by (with_reducible repeat (first | refine blk_drewN ?_ _ | refine blk_drew ?_ | refine blk_alloc ?_ _)); refine blk_put (cs := #[.int .i64 t243, .slice none 0 0]) ?_ 1 _ rfl; (with_reducible repeat (first | refine blk_drewN ?_ _ | refine blk_drew ?_ | refine blk_alloc ?_ _)); refine blk_put (cs := #[.int .i64 0, .slice none 0 0]) ?_ 0 _ rfl; (with_reducible repeat (first | refine blk_drewN ?_ _ | refine blk_drew ?_ | refine blk_alloc ?_ _)); exact BK247.out) hb); replace HB := hS HB hb; clear hb ho0; obtain ⟨Ao38, co38, eo38⟩ := Kd.R_slice HO250.out; subst eo38; obtain ⟨hcz39_0, hcz39_1, hfz39_0, hfz39_1⟩ := hC2 BK247; obtain ⟨hcz40_0, hcz40_1, hfz40_0, hfz40_1⟩ := hC2 BK242))
     go_roundg k2
     case measure => have := HJ2.out; have := HK2.out; omega
     case rel => exact ⟨(x7_2), (t243), (t244), (.slice Ao36 t244.length co36), rF, H', ⟨by have := HJ2.out; have := HK2.out; omega⟩, ⟨rU (Kd.R_mono (Kd.R_far (p := ⟨gb242, 1, none⟩) (Kd.R_far (p := ⟨gb242, 0, none⟩) (Kd.R_types HO246.out BK242.out (by decide)) (fun _ hk => hk.2) (.int .i64 t243)) (fun _ hk => hk.2) (.slice Ao36 t244.length co36)) (fun _ hk => trivial))⟩, ⟨by (with_reducible repeat (first | refine blk_drewN ?_ _ | refine blk_drew ?_ | refine blk_alloc ?_ _)); refine blk_far ?_ NB235_242.out _; (with_reducible repeat (first | refine blk_drewN ?_ _ | refine blk_drew ?_ | refine blk_alloc ?_ _)); refine blk_far ?_ NB235_242.out _; (with_reducible repeat (first | refine blk_drewN ?_ _ | refine blk_drew ?_ | refine blk_alloc ?_ _)); exact BK235.out⟩, ⟨by (with_reducible repeat (first | refine blk_drewN ?_ _ | refine blk_drew ?_ | refine blk_alloc ?_ _)); refine blk_far ?_ NB236_242.out _; (with_reducible repeat (first | refine blk_drewN ?_ _ | refine blk_drew ?_ | refine blk_alloc ?_ _)); refine blk_far ?_ NB236_242.out _; (with_reducible repeat (first | refine blk_drewN ?_ _ | refine blk_drew ?_ | refine blk_alloc ?_ _)); exact BK236.out⟩, ⟨by (with_reducible repeat (first | refine blk_drewN ?_ _ | refine blk_drew ?_ | refine blk_alloc ?_ _)); refine blk_put (cs := #[.int .i64 t243, .slice Ao29 x243001_2.length co29]) ?_ 1 _ rfl; (with_reducible repeat (first | refine blk_drewN ?_ _ | refine blk_drew ?_ | refine blk_alloc ?_ _)); refine blk_put (cs := #[.int .i64 x243000_2, .slice Ao29 x243001_2.length co29]) ?_ 0 _ rfl; (with_reducible repeat (first | refine blk_drewN ?_ _ | refine blk_drew ?_ | refine blk_alloc ?_ _)); exact BK242.out⟩, hV HB⟩
    have c25b0 := qF c25
    have c25b1 := nT c25
    have H' := aM H
    clear H
    have hnb41 := NB242_235.out
    have hnc41 := NB235_242.out
    have hnb42 := NB242_236.out
    have hnc42 := NB236_242.out
    obtain ⟨hcz43_0, hcz43_1, hfz43_0, hfz43_1⟩ := hC2 BK242
    obtain ⟨Ao44, co44, eo44⟩ := Kd.R_slice HO_243001.out
    subst eo44
    go_wp2_with (first | ((with_reducible refine gG 123 (some 34) rfl rfl ?_); refine gD Tryd.func123 (impl_Puzzle_without.calls x243000_2 _ _ x243001_2 x7_2 t243 t244 _ (cU ((Kd.R_reads' HO_243001.out).2.2)) ((Kd.R_reads' HO_243001.out).2.1) A23.out) ?_; rintro w45 v245 ⟨ho0, hb⟩; have HO246 := aM (Kd.R_lower (Kd.R_new' ho0 (Kd.R_lt (rU HO_243001.out))) (below_size (bel HB))); replace HO_243001 := aM (Kd.R_elder' (rU HO_243001.out) (Kd.R_base ho0) hb); replace BK235 := bB BK235 hb; replace BK236 := bB BK236 hb; replace BK242 := bB BK242 hb; replace HB := hS HB hb; clear hb ho0) | (refine bX (N := 8) rfl (cs := #[.int .i64 0, .slice none 0 0]) (t := 57) ?_; intro gb247 hg w46 BK247 hb; have GW247 := gE hg HB; have GE247 := gE hg HB; have NB235_247 := nbL hg BK235; have NB247_235 := nbR hg BK235; have NB236_247 := nbL hg BK236; have NB247_236 := nbR hg BK236; have NB242_247 := nbL hg BK242; have NB247_242 := nbR hg BK242; replace HO_243001 := rB HO_243001 hb; replace HO246 := rB HO246 hb; replace BK235 := bB BK235 hb; replace BK236 := bB BK236 hb; replace BK242 := bB BK242 hb; replace HB := hS HB hb; clear hb hg; have hnb47 := NB247_235.out; have hnc47 := NB235_247.out; have hnb48 := NB247_236.out; have hnc48 := NB236_247.out; have hnb49 := NB247_242.out; have hnc49 := NB242_247.out; obtain ⟨hcz50_0, hcz50_1, hfz50_0, hfz50_1⟩ := hC2 BK247; obtain ⟨Ao51, co51, eo51⟩ := Kd.R_slice HO246.out; subst eo51) | ((with_reducible refine gG 118 (some 36) rfl rfl ?_); refine gL Tryd.func118 #[.agg #[.int .i64 t243, .slice Ao51 t244.length co51]] ?_; (with_reducible refine (impl_Puzzle_solutions.calls t243 _ _ t244 t248 _ ?side1 ((Kd.R_reads' HO246.out).2.1) A24.out).mono ?_); (case side1 => refine (Kd.R_reads' (e := 59) (base := w.heap.size) (ok := fun k_ => (True ∧ some k_ ≠ (.slice Ao44 x243001_2.length co44 : Value).ownBlock)) (n := t244.length) (c := co51) ?_).2.2; exact (rU (Kd.R_mono (Kd.R_far (p := ⟨gb247, 1, none⟩) (Kd.R_far (p := ⟨gb247, 0, none⟩) (Kd.R_types HO246.out BK247.out (by decide)) (fun _ hk => hk.2) (.int .i64 t243)) (fun _ hk => hk.2) (.slice Ao51 t244.length co51)) (fun _ h_ => h_.1)))); rintro e w52 ⟨v249, rfl, ho0, hb⟩; refine ⟨_, rfl, ?_⟩; have HO250 := rL ho0 HB; replace HO_243001 := aM (Kd.R_below (rU (Kd.R_mono (Kd.R_far (p := ⟨gb247, 1, none⟩) (Kd.R_far (p := ⟨gb247, 0, none⟩) (Kd.R_types HO_243001.out BK247.out (by decide)) (fun _ hk => hk.2) (.int .i64 t243)) (fun _ hk => hk.2) (.slice Ao51 t244.length co51)) (fun _ h_ => h_.1))) hb); replace HO246 := aM (Kd.R_below (rU (Kd.R_mono (Kd.R_far (p := ⟨gb247, 1, none⟩) (Kd.R_far (p := ⟨gb247, 0, none⟩) (Kd.R_types HO246.out BK247.out (by decide)) (fun _ hk => hk.2) (.int .i64 t243)) (fun _ hk => hk.2) (.slice Ao51 t244.length co51)) (fun _ h_ => h_.1))) hb); replace BK235 := aM (blk_below (g := gb235) (o := .cells #[.int .i64 a0_0, .slice A0_1 l0_1.length c0_1] 57 (0, 0)) (by (with_reducible repeat (first | refine blk_drewN ?_ _ | refine blk_drew ?_ | refine blk_alloc ?_ _)); refine blk_far ?_ NB235_247.out _; (with_reducible repeat (first | refine blk_drewN ?_ _ | refine blk_drew ?_ | refine blk_alloc ?_ _)); refine blk_far ?_ NB235_247.out _; (with_reducible repeat (first | refine blk_drewN ?_ _ | refine blk_drew ?_ | refine blk_alloc ?_ _)); exact BK235.out) hb); replace BK236 := aM (blk_below (g := gb236) (o := .cells #[.int .i64 0, .slice none 0 0] 57 (0, 0)) (by (with_reducible repeat (first | refine blk_drewN ?_ _ | refine blk_drew ?_ | refine blk_alloc ?_ _)); refine blk_far ?_ NB236_247.out _; (with_reducible repeat (first | refine blk_drewN ?_ _ | refine blk_drew ?_ | refine blk_alloc ?_ _)); refine blk_far ?_ NB236_247.out _; (with_reducible repeat (first | refine blk_drewN ?_ _ | refine blk_drew ?_ | refine blk_alloc ?_ _)); exact BK236.out) hb); replace BK242 := aM (blk_below (g := gb242) (o := .cells #[.int .i64 x243000_2, .slice Ao44 x243001_2.length co44] 57 (0, 0)) (by (with_reducible repeat (first | refine blk_drewN ?_ _ | refine blk_drew ?_ | refine blk_alloc ?_ _)); refine blk_far ?_ NB242_247.out _; (with_reducible repeat (first | refine blk_drewN ?_ _ | refine blk_drew ?_ | refine blk_alloc ?_ _)); refine blk_far ?_ NB242_247.out _; (with_reducible repeat (first | refine blk_drewN ?_ _ | refine blk_drew ?_ | refine blk_alloc ?_ _)); exact BK242.out) hb); replace BK247 := aM (blk_below (g := gb247) (o := .cells #[.int .i64 t243, .slice Ao51 t244.length co51] 57 (0, 0)) (by (with_reducible repeat (first | refine blk_drewN ?_ _ | refine blk_drew ?_ | refine blk_alloc ?_ _)); refine blk_put (cs := #[.int .i64 t243, .slice none 0 0]) ?_ 1 _ rfl; (with_reducible repeat (first | refine blk_drewN ?_ _ | refine blk_drew ?_ | refine blk_alloc ?_ _)); refine blk_put (cs := #[.int .i64 0, .slice none 0 0]) ?_ 0 _ rfl; (with_reducible repeat (first | refine blk_drewN ?_ _ | refine blk_drew ?_ | refine blk_alloc ?_ _)); exact BK247.out) hb); replace HB := hS HB hb; clear hb ho0; obtain ⟨Ao53, co53, eo53⟩ := Kd.R_slice HO250.out; subst eo53))
    go_roundg k2
    case measure => have := HJ2.out; have := HK2.out; omega
    case rel => exact ⟨(wrap64 (x7_2 + 1)), (x243000_2), (x243001_2), (.slice Ao44 x243001_2.length co44), rF, H', ⟨by have := HJ2.out; have := HK2.out; omega⟩, ⟨rU (Kd.R_mono HO_243001.out (fun _ hk => trivial))⟩, ⟨bU BK235.out⟩, ⟨bU BK236.out⟩, ⟨bU BK242.out⟩, hV HB⟩
   have c22b0 := dF c22
   clear c22
   simp only [Option.some.injEq, Prod.mk.injEq] at H
   obtain ⟨rfl, rfl, rfl⟩ := H
   have hnb54 := NB242_235.out
   have hnc54 := NB235_242.out
   have hnb55 := NB242_236.out
   have hnc55 := NB236_242.out
   obtain ⟨hcz56_0, hcz56_1, hfz56_0, hfz56_1⟩ := hC2 BK242
   obtain ⟨Ao57, co57, eo57⟩ := Kd.R_slice HO_243001.out
   subst eo57
   have hnb58 := NB236_235.out
   have hnc58 := NB235_236.out
   obtain ⟨hcz59_0, hcz59_1, hfz59_0, hfz59_1⟩ := hC2 BK236
   go_wp2
   refine bodyPost_ret (results_ct rfl _ _ gb236 57 #[.int .i64 x243000_2, .slice Ao57 x243001_2.length co57] (0, 0) _ rfl (by (with_reducible repeat (first | refine blk_drewN ?_ _ | refine blk_drew ?_ | refine blk_alloc ?_ _)); refine blk_put (cs := #[.int .i64 x243000_2, .slice none 0 0]) ?_ 1 _ rfl; (with_reducible repeat (first | refine blk_drewN ?_ _ | refine blk_drew ?_ | refine blk_alloc ?_ _)); refine blk_put (cs := #[.int .i64 0, .slice none 0 0]) ?_ 0 _ rfl; (with_reducible repeat (first | refine blk_drewN ?_ _ | refine blk_drew ?_ | refine blk_alloc ?_ _)); exact BK236.out) Tryd.underlying57 rfl (by kernel_rfl)) rfl ?_
   exact ⟨_, eW, rU (Kd.R_mono (Kd.R_far (p := ⟨gb236, 1, none⟩) (Kd.R_far (p := ⟨gb236, 0, none⟩) (Kd.R_types HO_243001.out BK236.out (by decide)) (fun _ hk => hk.2) (.int .i64 x243000_2)) (fun _ hk => hk.2) (.slice Ao57 x243001_2.length co57)) (fun _ hk => trivial)), bel HB⟩

/-! ### spec_pzRings: function 129 -/
def spec_pzRings.f (a0 : Int) : Option (Bool) := (spec_l1In.f a0 1 7).bind fun t251 => (some t251)
set_option maxHeartbeats 8000000 in
set_option maxRecDepth 100000 in
theorem spec_pzRings.calls (a0 : Int) (r : Bool) (w : World) (h : spec_pzRings.f a0 = some r) :
  Calls Tryd.prog 129 #[.int .i64 a0] w fun e w' => e = .returned (.bool r) ∧ Drawn0 w w' := by
 have H := h
 clear h; unfold spec_pzRings.f at H
 replace H := bC H; obtain ⟨t251, A2, H⟩ := H
 obtain rfl := Option.some.inj H
 go_enter Tryd.func129, Tryd.ntmps129
 go_wp2_with (first | ((with_reducible refine gG 115 (some 4) rfl rfl ?_); refine gL Tryd.func115 #[.int .i64 a0, .int .i64 1, .int .i64 7] ?_; (with_reducible refine (spec_l1In.calls a0 1 7 t251 _ A2.out).mono ?_); rintro e w' ⟨rfl, ⟨nd, rfl⟩⟩; refine ⟨_, rfl, ?_⟩))
 go_ret
 exact ⟨rF, d0⟩

end Go.Proofs.YtcogjabdddikjaaDoor.PHidAll
