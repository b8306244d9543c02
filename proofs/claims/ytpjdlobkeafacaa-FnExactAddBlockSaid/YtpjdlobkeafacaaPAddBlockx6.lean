-- squeezed; PRINTED by drive.py (a program of this session's, over the kit's print.py; wip/tools/drive.py). Lean checks it.
import Derived.Test.YtpjdlobkeafacaaPAddBlockx0
import Derived.Test.YtpjdlobkeafacaaPAddBlockx1
import Derived.Test.YtpjdlobkeafacaaPAddBlockx2
import Derived.Test.YtpjdlobkeafacaaPAddBlockx3
import Derived.Test.YtpjdlobkeafacaaPAddBlockx4
import Derived.Test.YtpjdlobkeafacaaPAddBlockx5
import Derived.Test.YtpjdlobkeafacaaUp
namespace Go.Proofs.Ytpjdlobkeafacaa.PAddBlock
open Go.RowKit Go.Proofs.YtpjdlobkeafacaaW.PrintWords Go.Proofs.YtpjdlobkeafacaaW.PrintLast Go.Proofs.YtpjdlobkeafacaaW.PrintMore
attribute [local go_sem] max2_int min2_int max_two min_two max_three min_three max_four min_four   -- for this text's walks alone
set_option linter.unusedVariables false
set_option linter.unusedSimpArgs false

/-! ### laws_FnExactAddBlock: function 3 -/
def laws_FnExactAddBlock.f (k : Nat) (l0_0 : List Int) (l0_1 : List (S27)) (a1_0 : Int) (a1_1 : Int) (a1_2 : Int) (a1_3 : Int) : Option (Bool) := (laws_szBolts.f l0_0 l0_1 1048576).bind fun t228 => (if t228 < 0 then (some true) else ((laws_toBolts.f k l0_0 l0_1).bind fun bt229 => ((laws_toBlock.f a1_0 a1_1 a1_2 a1_3).bind fun bt235 => ((spec_AddBlock.f k bt229.1 bt229.2 bt235.1 bt235.2.1 bt235.2.2.1 bt235.2.2.2).bind fun bt239 => ((laws_toBolts.f k l0_0 l0_1).bind fun bt247 => ((laws_toBlock.f a1_0 a1_1 a1_2 a1_3).bind fun bt254 => ((impl_AddBlock.f bt247.1 bt247.2 bt254.1 bt254.2.1 bt254.2.2.1 bt254.2.2.2).bind fun bt258 => ((laws_eqBolts.f k bt258.1 bt258.2.1 bt239.1 bt239.2.1).bind fun t266 => (if t266 = true then (if (bt258.2.2 != bt239.2.2) = true then (none) else ((laws_toBolts.f k l0_0 l0_1).bind fun bt267 => ((laws_eqBolts.f k bt247.1 bt247.2 bt267.1 bt267.2).bind fun t273 => (if t273 = true then ((laws_markBolts.f k bt247.1 bt247.2 1).bind fun bt274 => (if bt274.1 < 0 then (none) else ((laws_eqBolts.f k bt258.1 bt258.2.1 bt239.1 bt239.2.1).bind fun t277 => (if t277 = true then ((laws_markBolts.f k bt258.1 bt258.2.1 1).bind fun bt278 => ((laws_heldBolts.f k bt278.2.1 bt278.2.2 1).bind fun t281 => (if t281 < 0 then (none) else (if t281 = bt278.1 then ((laws_toBolts.f k l0_0 l0_1).bind fun bt282 => ((laws_toBlock.f a1_0 a1_1 a1_2 a1_3).bind fun bt288 => ((impl_AddBlock.f bt282.1 bt282.2 bt288.1 bt288.2.1 bt288.2.2.1 bt288.2.2.2).bind fun bt292 => ((laws_eqBolts.f k bt292.1 bt292.2.1 bt239.1 bt239.2.1).bind fun t300 => (if t300 = true then (if (bt292.2.2 != bt239.2.2) = true then (none) else ((laws_heldBolts.f k bt278.2.1 bt278.2.2 1).bind fun t301 => (if t301 < 0 then (none) else (if t301 = bt278.1 then (some true) else (none))))) else (none)))))) else (none))))) else (none))))) else (none))))) else (none))))))))))
theorem laws_FnExactAddBlock.mono : ∀ a0 a1 a2 a3 a4 a5 k, LeO (laws_FnExactAddBlock.f k a0 a1 a2 a3 a4 a5) (laws_FnExactAddBlock.f (k + 1) a0 a1 a2 a3 a4 a5) := by
 intro a0 a1 a2 a3 a4 a5 k
 unfold laws_FnExactAddBlock.f
 repeat' first
   | (with_reducible exact laws_eqBolts.mono _ _ _ _ _)
   | (with_reducible exact laws_heldBolts.mono _ _ _ _)
   | (with_reducible exact laws_markBolts.mono _ _ _ _)
   | (with_reducible exact laws_toBolts.mono _ _ _)
   | (with_reducible exact spec_AddBlock.mono _ _ _ _ _ _ _)
   | (with_reducible exact LeO.refl _)
   | (with_reducible exact LeO.none _)
   | (with_reducible refine LeO.ite ?_ ?_)
   | (with_reducible refine LeO.bind ?_ (fun _ => ?_))
   | exact laws_eqBolts.mono _ _ _ _ _
   | exact laws_heldBolts.mono _ _ _ _
   | exact laws_markBolts.mono _ _ _ _
   | exact laws_toBolts.mono _ _ _
   | exact spec_AddBlock.mono _ _ _ _ _ _ _
   | exact LeO.none _
   | refine LeO.ite ?_ ?_
   | refine LeO.bind ?_ (fun _ => ?_)
def laws_FnExactAddBlock.T5 : Bool × List (List Nat × List Nat) := (true, [([], []), ([0], [0]), ([], []), ([2, 1], [2]), ([1, 3, 3], [1, 3]), ([4], [4]), ([5], [5]), ([5], [5]), ([], []), ([8, 6, 4, 0, 1, 2, 3, 4, 5, 6, 8], [6, 8]), ([7, 9, 0, 1, 2, 3, 4, 5, 6, 7, 8, 9], [7])])
def laws_FnExactAddBlock.B5 : List Nat := [0, 1, 0, 7, 15, 31, 63, 63, 0, 383, 1023]
theorem laws_FnExactAddBlock.tab5 : rtab .any (opsOf Try.f3 5) = laws_FnExactAddBlock.T5 := by kernel_rfl
theorem laws_FnExactAddBlock.bits5 : waitsOk laws_FnExactAddBlock.T5.2 laws_FnExactAddBlock.B5 = true := by kernel_rfl
def laws_FnExactAddBlock.T7 : Bool × List (List Nat × List Nat) := (true, [([], []), ([], []), ([1], [1]), ([0, 2, 2], [0, 2]), ([3], [3]), ([4], [4]), ([4], [4]), ([], []), ([7, 5, 3, 0, 1, 2, 3, 4, 5, 7], [5, 7]), ([6, 8, 0, 1, 2, 3, 4, 5, 6, 7, 8], [6])])
def laws_FnExactAddBlock.B7 : List Nat := [0, 0, 2, 7, 15, 31, 31, 0, 191, 511]
theorem laws_FnExactAddBlock.tab7 : rtab .any (opsOf Try.f3 7) = laws_FnExactAddBlock.T7 := by kernel_rfl
theorem laws_FnExactAddBlock.bits7 : waitsOk laws_FnExactAddBlock.T7.2 laws_FnExactAddBlock.B7 = true := by kernel_rfl
def laws_FnExactAddBlock.T24 : Bool × List (List Nat × List Nat) := (true, [([], []), ([0], [0]), ([], []), ([2, 1], [2]), ([1, 3, 3], [1, 3]), ([4], [4]), ([5], [5]), ([5], [5]), ([], []), ([8, 6, 4, 0, 1, 2, 3, 4, 5, 6, 8], [6, 8]), ([7, 9, 0, 1, 2, 3, 4, 5, 6, 7, 8, 9], [7])])
def laws_FnExactAddBlock.B24 : List Nat := [0, 1, 0, 7, 15, 31, 63, 63, 0, 383, 1023]
theorem laws_FnExactAddBlock.tab24 : rtab .any (opsOf Try.f3 24) = laws_FnExactAddBlock.T24 := by kernel_rfl
theorem laws_FnExactAddBlock.bits24 : waitsOk laws_FnExactAddBlock.T24.2 laws_FnExactAddBlock.B24 = true := by kernel_rfl
set_option maxHeartbeats 8000000 in
set_option maxRecDepth 100000 in
theorem laws_FnExactAddBlock.calls (k : Nat) (A0_0 : Option Addr) (c0_0 : Nat) (l0_0 : List Int) (A0_1 : Option Addr) (c0_1 : Nat) (l0_1 : List (S27)) (a1_0 : Int) (a1_1 : Int) (a1_2 : Int) (a1_3 : Int) (r : Bool) (w : World) (hr0_0 : Kd.C (Kd.int .i64) w A0_0 l0_0.length l0_0) (hc0_0 : l0_0.length ≤ c0_0) (hr0_1 : Kd.C k27 w A0_1 l0_1.length l0_1) (hc0_1 : l0_1.length ≤ c0_1) (h : laws_FnExactAddBlock.f k l0_0 l0_1 a1_0 a1_1 a1_2 a1_3 = some r) :
  Calls Try.prog 3 #[.agg #[.slice A0_0 l0_0.length c0_0, .slice A0_1 l0_1.length c0_1], .agg #[.int .i64 a1_0, .int .i64 a1_1, .int .i64 a1_2, .int .i64 a1_3]] w fun e w' => e = .returned (.bool r) ∧ Below w.heap.size w w' := by
 have hu25 := Try.underlying25
 have hu27 := Try.underlying27
 have hu31 := Try.underlying31
 have HR0_0 := aM hr0_0
 have HC0_0 := aM hc0_0
 clear hr0_0 hc0_0
 have HR0_1 := aM hr0_1
 have HC0_1 := aM hc0_1
 clear hr0_1 hc0_1
 have HB := aM (Below.refl w.heap.size w)
 have H : ((laws_szBolts.f l0_0 l0_1 1048576).bind fun t228 => (if t228 < 0 then (some true) else ((laws_toBolts.f k l0_0 l0_1).bind fun bt229 => ((laws_toBlock.f a1_0 a1_1 a1_2 a1_3).bind fun bt235 => ((spec_AddBlock.f k bt229.1 bt229.2 bt235.1 bt235.2.1 bt235.2.2.1 bt235.2.2.2).bind fun bt239 => ((laws_toBolts.f k l0_0 l0_1).bind fun bt247 => ((laws_toBlock.f a1_0 a1_1 a1_2 a1_3).bind fun bt254 => ((impl_AddBlock.f bt247.1 bt247.2 bt254.1 bt254.2.1 bt254.2.2.1 bt254.2.2.2).bind fun bt258 => ((laws_eqBolts.f k bt258.1 bt258.2.1 bt239.1 bt239.2.1).bind fun t266 => (if t266 = true then (if (bt258.2.2 != bt239.2.2) = true then (none) else ((laws_toBolts.f k l0_0 l0_1).bind fun bt267 => ((laws_eqBolts.f k bt247.1 bt247.2 bt267.1 bt267.2).bind fun t273 => (if t273 = true then ((laws_markBolts.f k bt247.1 bt247.2 1).bind fun bt274 => (if bt274.1 < 0 then (none) else ((laws_eqBolts.f k bt258.1 bt258.2.1 bt239.1 bt239.2.1).bind fun t277 => (if t277 = true then ((laws_markBolts.f k bt258.1 bt258.2.1 1).bind fun bt278 => ((laws_heldBolts.f k bt278.2.1 bt278.2.2 1).bind fun t281 => (if t281 < 0 then (none) else (if t281 = bt278.1 then ((laws_toBolts.f k l0_0 l0_1).bind fun bt282 => ((laws_toBlock.f a1_0 a1_1 a1_2 a1_3).bind fun bt288 => ((impl_AddBlock.f bt282.1 bt282.2 bt288.1 bt288.2.1 bt288.2.2.1 bt288.2.2.2).bind fun bt292 => ((laws_eqBolts.f k bt292.1 bt292.2.1 bt239.1 bt239.2.1).bind fun t300 => (if t300 = true then (if (bt292.2.2 != bt239.2.2) = true then (none) else ((laws_heldBolts.f k bt278.2.1 bt278.2.2 1).bind fun t301 => (if t301 < 0 then (none) else (if t301 = bt278.1 then (some true) else (none))))) else (none)))))) else (none))))) else (none))))) else (none))))) else (none))))))))))) = some r := h
 clear h
 replace H := Option.bind_eq_some_iff.mp H
 obtain ⟨t228, A30, H⟩ := H
 replace H : (if t228 < 0 then (some true) else ((laws_toBolts.f k l0_0 l0_1).bind fun bt229 => ((laws_toBlock.f a1_0 a1_1 a1_2 a1_3).bind fun bt235 => ((spec_AddBlock.f k bt229.1 bt229.2 bt235.1 bt235.2.1 bt235.2.2.1 bt235.2.2.2).bind fun bt239 => ((laws_toBolts.f k l0_0 l0_1).bind fun bt247 => ((laws_toBlock.f a1_0 a1_1 a1_2 a1_3).bind fun bt254 => ((impl_AddBlock.f bt247.1 bt247.2 bt254.1 bt254.2.1 bt254.2.2.1 bt254.2.2.2).bind fun bt258 => ((laws_eqBolts.f k bt258.1 bt258.2.1 bt239.1 bt239.2.1).bind fun t266 => (if t266 = true then (if (bt258.2.2 != bt239.2.2) = true then (none) else ((laws_toBolts.f k l0_0 l0_1).bind fun bt267 => ((laws_eqBolts.f k bt247.1 bt247.2 bt267.1 bt267.2).bind fun t273 => (if t273 = true then ((laws_markBolts.f k bt247.1 bt247.2 1).bind fun bt274 => (if bt274.1 < 0 then (none) else ((laws_eqBolts.f k bt258.1 bt258.2.1 bt239.1 bt239.2.1).bind fun t277 => (if t277 = true then ((laws_markBolts.f k bt258.1 bt258.2.1 1).bind fun bt278 => ((laws_heldBolts.f k bt278.2.1 bt278.2.2 1).bind fun t281 => (if t281 < 0 then (none) else (if t281 = bt278.1 then ((laws_toBolts.f k l0_0 l0_1).bind fun bt282 => ((laws_toBlock.f a1_0 a1_1 a1_2 a1_3).bind fun bt288 => ((impl_AddBlock.f bt282.1 bt282.2 bt288.1 bt288.2.1 bt288.2.2.1 bt288.2.2.2).bind fun bt292 => ((laws_eqBolts.f k bt292.1 bt292.2.1 bt239.1 bt239.2.1).bind fun t300 => (if t300 = true then (if (bt292.2.2 != bt239.2.2) = true then (none) else ((laws_heldBolts.f k bt278.2.1 bt278.2.2 1).bind fun t301 => (if t301 < 0 then (none) else (if t301 = bt278.1 then (some true) else (none))))) else (none)))))) else (none))))) else (none))))) else (none))))) else (none)))))))))) = some r := H
 have A3 := aM A30
 clear A30
 by_cases c4 : t228 < 0
 ·rw [if_pos c4] at H
  have c4b0 : decide (t228 < 0) = true := decide_eq_true c4
  clear c4
  obtain rfl := Option.some.inj H
  go_enter Try.func3, Try.ntmps3
  go_wp2_with (first | ((with_reducible refine gate_dst (N := 2) rfl ?_); refine box_event ?hg (N := 2) ?hd (cs := #[.slice A0_0 l0_0.length c0_0, .slice A0_1 l0_1.length c0_1]) (t := 25) ?hr ?_; (case hd => rfl); (case hg => rfl); (case hr => first | (go_simp; done) | (go_simp; rfl)); intro gb226 hg w5 hbox hb; have n0_ := aM (below_step (by repeat (first | (with_reducible first | exact HB.out | apply aL | apply dN | apply dR) | exact HB.out)) hb); have n1_ := aM (hbox); have n2_ := aM ((by rw [hg]; exact (below_size (by repeat (first | (with_reducible first | exact HB.out | apply aL | apply dN | apply dR) | exact HB.out))) : w.heap.size ≤ gb226)); have n3_ := aM ((by rw [hg]; exact (below_size (by repeat (first | (with_reducible first | exact HB.out | apply aL | apply dN | apply dR) | exact HB.out))) : w.heap.size ≤ gb226)); clear HB; have HB := n0_; have BK226 := n1_; have GW226 := n2_; have GE226 := n3_; clear n0_ n1_ n2_ n3_; clear hb hbox hg) | ((with_reducible refine gate_dst (N := 3) rfl ?_); refine box_event ?hg (N := 3) ?hd (cs := #[.int .i64 a1_0, .int .i64 a1_1, .int .i64 a1_2, .int .i64 a1_3]) (t := 27) ?hr ?_; (case hd => rfl); (case hg => rfl); (case hr => first | (go_simp; done) | (go_simp; rfl)); intro gb227 hg w6 hbox hb; have n0_ := aM (blk_below (g := gb226) (o := .cells #[.slice A0_0 l0_0.length c0_0, .slice A0_1 l0_1.length c0_1] 25 (0, 0)) (bU BK226.out) hb); have n1_ := aM (below_step (by repeat (first | (with_reducible first | exact HB.out | apply aL | apply dN | apply dR | refine sT ?_ GE226.out) | exact HB.out)) hb); have n2_ := aM (hbox); have n3_ := aM ((by rw [hg]; exact (below_size (by repeat (first | (with_reducible first | exact HB.out | apply aL | apply dN | apply dR | refine sT ?_ GE226.out) | exact HB.out))) : w.heap.size ≤ gb227)); have n4_ := aM ((by rw [hg]; exact (below_size (by repeat (first | (with_reducible first | exact HB.out | apply aL | apply dN | apply dR | refine sT ?_ GE226.out) | exact HB.out))) : w.heap.size ≤ gb227)); have n5_ := aM ((by rw [hg]; exact Nat.ne_of_lt (blk_lt (g := gb226) (o := .cells #[.slice A0_0 l0_0.length c0_0, .slice A0_1 l0_1.length c0_1] 25 (0, 0)) (bU BK226.out)) : gb226 ≠ gb227)); have n6_ := aM ((by rw [hg]; exact Nat.ne_of_gt (blk_lt (g := gb226) (o := .cells #[.slice A0_0 l0_0.length c0_0, .slice A0_1 l0_1.length c0_1] 25 (0, 0)) (bU BK226.out)) : gb227 ≠ gb226)); clear BK226; clear HB; have BK226 := n0_; have HB := n1_; have BK227 := n2_; have GW227 := n3_; have GE227 := n4_; have NB226_227 := n5_; have NB227_226 := n6_; clear n0_ n1_ n2_ n3_ n4_ n5_ n6_; clear hb hbox hg; have hnb7 := NB226_227.out; have hnc7 := NB227_226.out; have hcz8_0 : w6.cell? ⟨gb226, 0, none⟩ = some (.slice A0_0 l0_0.length c0_0) := (blk_cell BK226.out 0).trans rfl; have hcz8_1 : w6.cell? ⟨gb226, 1, none⟩ = some (.slice A0_1 l0_1.length c0_1) := (blk_cell BK226.out 1).trans rfl; have hfz8_0 := blk_frozen BK226.out 0; have hfz8_1 := blk_frozen BK226.out 1) | ((with_reducible refine gate_callee (f := 6) rfl ?_); refine goesL_ (some 18) rfl rfl Try.func6 (by kernel_rfl) rfl #[.agg #[.slice A0_0 l0_0.length c0_0, .slice A0_1 l0_1.length c0_1], .int .i64 1048576] rfl (by (try simp only [List.map_toArray, List.map_cons, List.map_nil]); first | done | rfl | (simp only [List.length_drop, List.length_take]; rfl)) ?_; (with_reducible refine (laws_szBolts.calls _ _ l0_0 _ _ l0_1 1048576 t228 _ ?side1 ?side2 ?side3 ?side4 A3.out).mono ?_); (case side1 => exact cU (Kd.C_below HR0_0.out HB.out)); (case side2 => exact HC0_0.out); (case side3 => exact cU (Kd.C_below HR0_1.out HB.out)); (case side4 => exact HC0_1.out); rintro e w9 ⟨rfl, hb⟩; refine ⟨_, rfl, ?_⟩; have n0_ := aM (blk_below (g := gb226) (o := .cells #[.slice A0_0 l0_0.length c0_0, .slice A0_1 l0_1.length c0_1] 25 (0, 0)) (bU BK226.out) hb); have n1_ := aM (blk_below (g := gb227) (o := .cells #[.int .i64 a1_0, .int .i64 a1_1, .int .i64 a1_2, .int .i64 a1_3] 27 (0, 0)) (bU BK227.out) hb); have n2_ := aM (below_step (by repeat (first | (with_reducible first | exact HB.out | apply aL | apply dN | apply dR | refine sT ?_ GE226.out | refine sT ?_ GE227.out) | exact HB.out)) hb); clear BK226; clear BK227; clear HB; have BK226 := n0_; have BK227 := n1_; have HB := n2_; clear n0_ n1_ n2_; (try clear hb); (try clear hb2); (try clear hk); (try clear hi)))
  go_ret
  exact ⟨by first | rfl | (simp [errW_none, errW_some] <;> rfl) | (simp [*, errW_none, errW_some] <;> rfl), by repeat (first | (with_reducible first | exact HB.out | apply aL | apply dN | apply dR | refine sT ?_ GE226.out | refine sT ?_ GE227.out) | exact HB.out)⟩
 ·rw [if_neg c4] at H
  have c4b0 : decide (t228 < 0) = false := decide_eq_false c4
  clear c4
  replace H := Option.bind_eq_some_iff.mp H
  obtain ⟨⟨t229, t232⟩, A100, H⟩ := H
  replace H : ((laws_toBlock.f a1_0 a1_1 a1_2 a1_3).bind fun bt235 => ((spec_AddBlock.f k t229 t232 bt235.1 bt235.2.1 bt235.2.2.1 bt235.2.2.2).bind fun bt239 => ((laws_toBolts.f k l0_0 l0_1).bind fun bt247 => ((laws_toBlock.f a1_0 a1_1 a1_2 a1_3).bind fun bt254 => ((impl_AddBlock.f bt247.1 bt247.2 bt254.1 bt254.2.1 bt254.2.2.1 bt254.2.2.2).bind fun bt258 => ((laws_eqBolts.f k bt258.1 bt258.2.1 bt239.1 bt239.2.1).bind fun t266 => (if t266 = true then (if (bt258.2.2 != bt239.2.2) = true then (none) else ((laws_toBolts.f k l0_0 l0_1).bind fun bt267 => ((laws_eqBolts.f k bt247.1 bt247.2 bt267.1 bt267.2).bind fun t273 => (if t273 = true then ((laws_markBolts.f k bt247.1 bt247.2 1).bind fun bt274 => (if bt274.1 < 0 then (none) else ((laws_eqBolts.f k bt258.1 bt258.2.1 bt239.1 bt239.2.1).bind fun t277 => (if t277 = true then ((laws_markBolts.f k bt258.1 bt258.2.1 1).bind fun bt278 => ((laws_heldBolts.f k bt278.2.1 bt278.2.2 1).bind fun t281 => (if t281 < 0 then (none) else (if t281 = bt278.1 then ((laws_toBolts.f k l0_0 l0_1).bind fun bt282 => ((laws_toBlock.f a1_0 a1_1 a1_2 a1_3).bind fun bt288 => ((impl_AddBlock.f bt282.1 bt282.2 bt288.1 bt288.2.1 bt288.2.2.1 bt288.2.2.2).bind fun bt292 => ((laws_eqBolts.f k bt292.1 bt292.2.1 bt239.1 bt239.2.1).bind fun t300 => (if t300 = true then (if (bt292.2.2 != bt239.2.2) = true then (none) else ((laws_heldBolts.f k bt278.2.1 bt278.2.2 1).bind fun t301 => (if t301 < 0 then (none) else (if t301 = bt278.1 then (some true) else (none))))) else (none)))))) else (none))))) else (none))))) else (none))))) else (none)))))))) = some r := H
  have A10 := aM A100
  clear A100
  replace H := Option.bind_eq_some_iff.mp H
  obtain ⟨⟨t235, t236, t237, t238⟩, A110, H⟩ := H
  replace H : ((spec_AddBlock.f k t229 t232 t235 t236 t237 t238).bind fun bt239 => ((laws_toBolts.f k l0_0 l0_1).bind fun bt247 => ((laws_toBlock.f a1_0 a1_1 a1_2 a1_3).bind fun bt254 => ((impl_AddBlock.f bt247.1 bt247.2 bt254.1 bt254.2.1 bt254.2.2.1 bt254.2.2.2).bind fun bt258 => ((laws_eqBolts.f k bt258.1 bt258.2.1 bt239.1 bt239.2.1).bind fun t266 => (if t266 = true then (if (bt258.2.2 != bt239.2.2) = true then (none) else ((laws_toBolts.f k l0_0 l0_1).bind fun bt267 => ((laws_eqBolts.f k bt247.1 bt247.2 bt267.1 bt267.2).bind fun t273 => (if t273 = true then ((laws_markBolts.f k bt247.1 bt247.2 1).bind fun bt274 => (if bt274.1 < 0 then (none) else ((laws_eqBolts.f k bt258.1 bt258.2.1 bt239.1 bt239.2.1).bind fun t277 => (if t277 = true then ((laws_markBolts.f k bt258.1 bt258.2.1 1).bind fun bt278 => ((laws_heldBolts.f k bt278.2.1 bt278.2.2 1).bind fun t281 => (if t281 < 0 then (none) else (if t281 = bt278.1 then ((laws_toBolts.f k l0_0 l0_1).bind fun bt282 => ((laws_toBlock.f a1_0 a1_1 a1_2 a1_3).bind fun bt288 => ((impl_AddBlock.f bt282.1 bt282.2 bt288.1 bt288.2.1 bt288.2.2.1 bt288.2.2.2).bind fun bt292 => ((laws_eqBolts.f k bt292.1 bt292.2.1 bt239.1 bt239.2.1).bind fun t300 => (if t300 = true then (if (bt292.2.2 != bt239.2.2) = true then (none) else ((laws_heldBolts.f k bt278.2.1 bt278.2.2 1).bind fun t301 => (if t301 < 0 then (none) else (if t301 = bt278.1 then (some true) else (none))))) else (none)))))) else (none))))) else (none))))) else (none))))) else (none))))))) = some r := H
  have A11 := aM A110
  clear A110
  replace H := Option.bind_eq_some_iff.mp H
  obtain ⟨⟨t239, t242, t245⟩, A120, H⟩ := H
  replace H : ((laws_toBolts.f k l0_0 l0_1).bind fun bt247 => ((laws_toBlock.f a1_0 a1_1 a1_2 a1_3).bind fun bt254 => ((impl_AddBlock.f bt247.1 bt247.2 bt254.1 bt254.2.1 bt254.2.2.1 bt254.2.2.2).bind fun bt258 => ((laws_eqBolts.f k bt258.1 bt258.2.1 t239 t242).bind fun t266 => (if t266 = true then (if (bt258.2.2 != t245) = true then (none) else ((laws_toBolts.f k l0_0 l0_1).bind fun bt267 => ((laws_eqBolts.f k bt247.1 bt247.2 bt267.1 bt267.2).bind fun t273 => (if t273 = true then ((laws_markBolts.f k bt247.1 bt247.2 1).bind fun bt274 => (if bt274.1 < 0 then (none) else ((laws_eqBolts.f k bt258.1 bt258.2.1 t239 t242).bind fun t277 => (if t277 = true then ((laws_markBolts.f k bt258.1 bt258.2.1 1).bind fun bt278 => ((laws_heldBolts.f k bt278.2.1 bt278.2.2 1).bind fun t281 => (if t281 < 0 then (none) else (if t281 = bt278.1 then ((laws_toBolts.f k l0_0 l0_1).bind fun bt282 => ((laws_toBlock.f a1_0 a1_1 a1_2 a1_3).bind fun bt288 => ((impl_AddBlock.f bt282.1 bt282.2 bt288.1 bt288.2.1 bt288.2.2.1 bt288.2.2.2).bind fun bt292 => ((laws_eqBolts.f k bt292.1 bt292.2.1 t239 t242).bind fun t300 => (if t300 = true then (if (bt292.2.2 != t245) = true then (none) else ((laws_heldBolts.f k bt278.2.1 bt278.2.2 1).bind fun t301 => (if t301 < 0 then (none) else (if t301 = bt278.1 then (some true) else (none))))) else (none)))))) else (none))))) else (none))))) else (none))))) else (none)))))) = some r := H
  have A12 := aM A120
  clear A120
  replace H := Option.bind_eq_some_iff.mp H
  obtain ⟨⟨t247, t250⟩, A130, H⟩ := H
  replace H : ((laws_toBlock.f a1_0 a1_1 a1_2 a1_3).bind fun bt254 => ((impl_AddBlock.f t247 t250 bt254.1 bt254.2.1 bt254.2.2.1 bt254.2.2.2).bind fun bt258 => ((laws_eqBolts.f k bt258.1 bt258.2.1 t239 t242).bind fun t266 => (if t266 = true then (if (bt258.2.2 != t245) = true then (none) else ((laws_toBolts.f k l0_0 l0_1).bind fun bt267 => ((laws_eqBolts.f k t247 t250 bt267.1 bt267.2).bind fun t273 => (if t273 = true then ((laws_markBolts.f k t247 t250 1).bind fun bt274 => (if bt274.1 < 0 then (none) else ((laws_eqBolts.f k bt258.1 bt258.2.1 t239 t242).bind fun t277 => (if t277 = true then ((laws_markBolts.f k bt258.1 bt258.2.1 1).bind fun bt278 => ((laws_heldBolts.f k bt278.2.1 bt278.2.2 1).bind fun t281 => (if t281 < 0 then (none) else (if t281 = bt278.1 then ((laws_toBolts.f k l0_0 l0_1).bind fun bt282 => ((laws_toBlock.f a1_0 a1_1 a1_2 a1_3).bind fun bt288 => ((impl_AddBlock.f bt282.1 bt282.2 bt288.1 bt288.2.1 bt288.2.2.1 bt288.2.2.2).bind fun bt292 => ((laws_eqBolts.f k bt292.1 bt292.2.1 t239 t242).bind fun t300 => (if t300 = true then (if (bt292.2.2 != t245) = true then (none) else ((laws_heldBolts.f k bt278.2.1 bt278.2.2 1).bind fun t301 => (if t301 < 0 then (none) else (if t301 = bt278.1 then (some true) else (none))))) else (none)))))) else (none))))) else (none))))) else (none))))) else (none))))) = some r := H
  have A13 := aM A130
  clear A130
  replace H := Option.bind_eq_some_iff.mp H
  obtain ⟨⟨t254, t255, t256, t257⟩, A140, H⟩ := H
  replace H : ((impl_AddBlock.f t247 t250 t254 t255 t256 t257).bind fun bt258 => ((laws_eqBolts.f k bt258.1 bt258.2.1 t239 t242).bind fun t266 => (if t266 = true then (if (bt258.2.2 != t245) = true then (none) else ((laws_toBolts.f k l0_0 l0_1).bind fun bt267 => ((laws_eqBolts.f k t247 t250 bt267.1 bt267.2).bind fun t273 => (if t273 = true then ((laws_markBolts.f k t247 t250 1).bind fun bt274 => (if bt274.1 < 0 then (none) else ((laws_eqBolts.f k bt258.1 bt258.2.1 t239 t242).bind fun t277 => (if t277 = true then ((laws_markBolts.f k bt258.1 bt258.2.1 1).bind fun bt278 => ((laws_heldBolts.f k bt278.2.1 bt278.2.2 1).bind fun t281 => (if t281 < 0 then (none) else (if t281 = bt278.1 then ((laws_toBolts.f k l0_0 l0_1).bind fun bt282 => ((laws_toBlock.f a1_0 a1_1 a1_2 a1_3).bind fun bt288 => ((impl_AddBlock.f bt282.1 bt282.2 bt288.1 bt288.2.1 bt288.2.2.1 bt288.2.2.2).bind fun bt292 => ((laws_eqBolts.f k bt292.1 bt292.2.1 t239 t242).bind fun t300 => (if t300 = true then (if (bt292.2.2 != t245) = true then (none) else ((laws_heldBolts.f k bt278.2.1 bt278.2.2 1).bind fun t301 => (if t301 < 0 then (none) else (if t301 = bt278.1 then (some true) else (none))))) else (none)))))) else (none))))) else (none))))) else (none))))) else (none)))) = some r := H
  have A14 := aM A140
  clear A140
  replace H := Option.bind_eq_some_iff.mp H
  obtain ⟨⟨t258, t261, t264⟩, A150, H⟩ := H
  replace H : ((laws_eqBolts.f k t258 t261 t239 t242).bind fun t266 => (if t266 = true then (if (t264 != t245) = true then (none) else ((laws_toBolts.f k l0_0 l0_1).bind fun bt267 => ((laws_eqBolts.f k t247 t250 bt267.1 bt267.2).bind fun t273 => (if t273 = true then ((laws_markBolts.f k t247 t250 1).bind fun bt274 => (if bt274.1 < 0 then (none) else ((laws_eqBolts.f k t258 t261 t239 t242).bind fun t277 => (if t277 = true then ((laws_markBolts.f k t258 t261 1).bind fun bt278 => ((laws_heldBolts.f k bt278.2.1 bt278.2.2 1).bind fun t281 => (if t281 < 0 then (none) else (if t281 = bt278.1 then ((laws_toBolts.f k l0_0 l0_1).bind fun bt282 => ((laws_toBlock.f a1_0 a1_1 a1_2 a1_3).bind fun bt288 => ((impl_AddBlock.f bt282.1 bt282.2 bt288.1 bt288.2.1 bt288.2.2.1 bt288.2.2.2).bind fun bt292 => ((laws_eqBolts.f k bt292.1 bt292.2.1 t239 t242).bind fun t300 => (if t300 = true then (if (bt292.2.2 != t245) = true then (none) else ((laws_heldBolts.f k bt278.2.1 bt278.2.2 1).bind fun t301 => (if t301 < 0 then (none) else (if t301 = bt278.1 then (some true) else (none))))) else (none)))))) else (none))))) else (none))))) else (none))))) else (none))) = some r := H
  have A15 := aM A150
  clear A150
  replace H := Option.bind_eq_some_iff.mp H
  obtain ⟨t266, A160, H⟩ := H
  replace H : (if t266 = true then (if (t264 != t245) = true then (none) else ((laws_toBolts.f k l0_0 l0_1).bind fun bt267 => ((laws_eqBolts.f k t247 t250 bt267.1 bt267.2).bind fun t273 => (if t273 = true then ((laws_markBolts.f k t247 t250 1).bind fun bt274 => (if bt274.1 < 0 then (none) else ((laws_eqBolts.f k t258 t261 t239 t242).bind fun t277 => (if t277 = true then ((laws_markBolts.f k t258 t261 1).bind fun bt278 => ((laws_heldBolts.f k bt278.2.1 bt278.2.2 1).bind fun t281 => (if t281 < 0 then (none) else (if t281 = bt278.1 then ((laws_toBolts.f k l0_0 l0_1).bind fun bt282 => ((laws_toBlock.f a1_0 a1_1 a1_2 a1_3).bind fun bt288 => ((impl_AddBlock.f bt282.1 bt282.2 bt288.1 bt288.2.1 bt288.2.2.1 bt288.2.2.2).bind fun bt292 => ((laws_eqBolts.f k bt292.1 bt292.2.1 t239 t242).bind fun t300 => (if t300 = true then (if (bt292.2.2 != t245) = true then (none) else ((laws_heldBolts.f k bt278.2.1 bt278.2.2 1).bind fun t301 => (if t301 < 0 then (none) else (if t301 = bt278.1 then (some true) else (none))))) else (none)))))) else (none))))) else (none))))) else (none))))) else (none)) = some r := H
  have A16 := aM A160
  clear A160
  by_cases c17 : t266 = true
  ·subst c17
   have H1 : (if (t264 != t245) = true then (none) else ((laws_toBolts.f k l0_0 l0_1).bind fun bt267 => ((laws_eqBolts.f k t247 t250 bt267.1 bt267.2).bind fun t273 => (if t273 = true then ((laws_markBolts.f k t247 t250 1).bind fun bt274 => (if bt274.1 < 0 then (none) else ((laws_eqBolts.f k t258 t261 t239 t242).bind fun t277 => (if t277 = true then ((laws_markBolts.f k t258 t261 1).bind fun bt278 => ((laws_heldBolts.f k bt278.2.1 bt278.2.2 1).bind fun t281 => (if t281 < 0 then (none) else (if t281 = bt278.1 then ((laws_toBolts.f k l0_0 l0_1).bind fun bt282 => ((laws_toBlock.f a1_0 a1_1 a1_2 a1_3).bind fun bt288 => ((impl_AddBlock.f bt282.1 bt282.2 bt288.1 bt288.2.1 bt288.2.2.1 bt288.2.2.2).bind fun bt292 => ((laws_eqBolts.f k bt292.1 bt292.2.1 t239 t242).bind fun t300 => (if t300 = true then (if (bt292.2.2 != t245) = true then (none) else ((laws_heldBolts.f k bt278.2.1 bt278.2.2 1).bind fun t301 => (if t301 < 0 then (none) else (if t301 = bt278.1 then (some true) else (none))))) else (none)))))) else (none))))) else (none))))) else (none))))) = some r := by rw [if_pos rfl] at H; exact H
   clear H
   have H := H1
   clear H1
   by_cases c18 : (t264 != t245) = true
   ·rw [if_pos c18] at H
    exact absurd H (by simp)
   ·rw [if_neg c18] at H
    have c18b0 : (t264 != t245) = false := by simpa using c18
    (try (have c18b1 : decide (t264 = t245) = true := by simpa using c18))
    (try (have c18b2 : (t264 == t245) = true := by simpa using c18))
    clear c18
    replace H := Option.bind_eq_some_iff.mp H
    obtain ⟨⟨t267, t270⟩, A190, H⟩ := H
    replace H : ((laws_eqBolts.f k t247 t250 t267 t270).bind fun t273 => (if t273 = true then ((laws_markBolts.f k t247 t250 1).bind fun bt274 => (if bt274.1 < 0 then (none) else ((laws_eqBolts.f k t258 t261 t239 t242).bind fun t277 => (if t277 = true then ((laws_markBolts.f k t258 t261 1).bind fun bt278 => ((laws_heldBolts.f k bt278.2.1 bt278.2.2 1).bind fun t281 => (if t281 < 0 then (none) else (if t281 = bt278.1 then ((laws_toBolts.f k l0_0 l0_1).bind fun bt282 => ((laws_toBlock.f a1_0 a1_1 a1_2 a1_3).bind fun bt288 => ((impl_AddBlock.f bt282.1 bt282.2 bt288.1 bt288.2.1 bt288.2.2.1 bt288.2.2.2).bind fun bt292 => ((laws_eqBolts.f k bt292.1 bt292.2.1 t239 t242).bind fun t300 => (if t300 = true then (if (bt292.2.2 != t245) = true then (none) else ((laws_heldBolts.f k bt278.2.1 bt278.2.2 1).bind fun t301 => (if t301 < 0 then (none) else (if t301 = bt278.1 then (some true) else (none))))) else (none)))))) else (none))))) else (none))))) else (none))) = some r := H
    have A19 := aM A190
    clear A190
    replace H := Option.bind_eq_some_iff.mp H
    obtain ⟨t273, A200, H⟩ := H
    replace H : (if t273 = true then ((laws_markBolts.f k t247 t250 1).bind fun bt274 => (if bt274.1 < 0 then (none) else ((laws_eqBolts.f k t258 t261 t239 t242).bind fun t277 => (if t277 = true then ((laws_markBolts.f k t258 t261 1).bind fun bt278 => ((laws_heldBolts.f k bt278.2.1 bt278.2.2 1).bind fun t281 => (if t281 < 0 then (none) else (if t281 = bt278.1 then ((laws_toBolts.f k l0_0 l0_1).bind fun bt282 => ((laws_toBlock.f a1_0 a1_1 a1_2 a1_3).bind fun bt288 => ((impl_AddBlock.f bt282.1 bt282.2 bt288.1 bt288.2.1 bt288.2.2.1 bt288.2.2.2).bind fun bt292 => ((laws_eqBolts.f k bt292.1 bt292.2.1 t239 t242).bind fun t300 => (if t300 = true then (if (bt292.2.2 != t245) = true then (none) else ((laws_heldBolts.f k bt278.2.1 bt278.2.2 1).bind fun t301 => (if t301 < 0 then (none) else (if t301 = bt278.1 then (some true) else (none))))) else (none)))))) else (none))))) else (none))))) else (none)) = some r := H
    have A20 := aM A200
    clear A200
    by_cases c21 : t273 = true
    ·subst c21
     have H1 : ((laws_markBolts.f k t247 t250 1).bind fun bt274 => (if bt274.1 < 0 then (none) else ((laws_eqBolts.f k t258 t261 t239 t242).bind fun t277 => (if t277 = true then ((laws_markBolts.f k t258 t261 1).bind fun bt278 => ((laws_heldBolts.f k bt278.2.1 bt278.2.2 1).bind fun t281 => (if t281 < 0 then (none) else (if t281 = bt278.1 then ((laws_toBolts.f k l0_0 l0_1).bind fun bt282 => ((laws_toBlock.f a1_0 a1_1 a1_2 a1_3).bind fun bt288 => ((impl_AddBlock.f bt282.1 bt282.2 bt288.1 bt288.2.1 bt288.2.2.1 bt288.2.2.2).bind fun bt292 => ((laws_eqBolts.f k bt292.1 bt292.2.1 t239 t242).bind fun t300 => (if t300 = true then (if (bt292.2.2 != t245) = true then (none) else ((laws_heldBolts.f k bt278.2.1 bt278.2.2 1).bind fun t301 => (if t301 < 0 then (none) else (if t301 = bt278.1 then (some true) else (none))))) else (none)))))) else (none))))) else (none))))) = some r := by rw [if_pos rfl] at H; exact H
     clear H
     have H := H1
     clear H1
     replace H := Option.bind_eq_some_iff.mp H
     obtain ⟨⟨t274, t275, t276⟩, A220, H⟩ := H
     replace H : (if t274 < 0 then (none) else ((laws_eqBolts.f k t258 t261 t239 t242).bind fun t277 => (if t277 = true then ((laws_markBolts.f k t258 t261 1).bind fun bt278 => ((laws_heldBolts.f k bt278.2.1 bt278.2.2 1).bind fun t281 => (if t281 < 0 then (none) else (if t281 = bt278.1 then ((laws_toBolts.f k l0_0 l0_1).bind fun bt282 => ((laws_toBlock.f a1_0 a1_1 a1_2 a1_3).bind fun bt288 => ((impl_AddBlock.f bt282.1 bt282.2 bt288.1 bt288.2.1 bt288.2.2.1 bt288.2.2.2).bind fun bt292 => ((laws_eqBolts.f k bt292.1 bt292.2.1 t239 t242).bind fun t300 => (if t300 = true then (if (bt292.2.2 != t245) = true then (none) else ((laws_heldBolts.f k bt278.2.1 bt278.2.2 1).bind fun t301 => (if t301 < 0 then (none) else (if t301 = bt278.1 then (some true) else (none))))) else (none)))))) else (none))))) else (none)))) = some r := H
     have A22 := aM A220
     clear A220
     by_cases c23 : t274 < 0
     ·rw [if_pos c23] at H
      exact absurd H (by simp)
     ·rw [if_neg c23] at H
      have c23b0 : decide (t274 < 0) = false := decide_eq_false c23
      clear c23
      replace H := Option.bind_eq_some_iff.mp H
      obtain ⟨t277, A240, H⟩ := H
      replace H : (if t277 = true then ((laws_markBolts.f k t258 t261 1).bind fun bt278 => ((laws_heldBolts.f k bt278.2.1 bt278.2.2 1).bind fun t281 => (if t281 < 0 then (none) else (if t281 = bt278.1 then ((laws_toBolts.f k l0_0 l0_1).bind fun bt282 => ((laws_toBlock.f a1_0 a1_1 a1_2 a1_3).bind fun bt288 => ((impl_AddBlock.f bt282.1 bt282.2 bt288.1 bt288.2.1 bt288.2.2.1 bt288.2.2.2).bind fun bt292 => ((laws_eqBolts.f k bt292.1 bt292.2.1 t239 t242).bind fun t300 => (if t300 = true then (if (bt292.2.2 != t245) = true then (none) else ((laws_heldBolts.f k bt278.2.1 bt278.2.2 1).bind fun t301 => (if t301 < 0 then (none) else (if t301 = bt278.1 then (some true) else (none))))) else (none)))))) else (none))))) else (none)) = some r := H
      have A24 := aM A240
      clear A240
      by_cases c25 : t277 = true
      ·subst c25
       have H1 : ((laws_markBolts.f k t258 t261 1).bind fun bt278 => ((laws_heldBolts.f k bt278.2.1 bt278.2.2 1).bind fun t281 => (if t281 < 0 then (none) else (if t281 = bt278.1 then ((laws_toBolts.f k l0_0 l0_1).bind fun bt282 => ((laws_toBlock.f a1_0 a1_1 a1_2 a1_3).bind fun bt288 => ((impl_AddBlock.f bt282.1 bt282.2 bt288.1 bt288.2.1 bt288.2.2.1 bt288.2.2.2).bind fun bt292 => ((laws_eqBolts.f k bt292.1 bt292.2.1 t239 t242).bind fun t300 => (if t300 = true then (if (bt292.2.2 != t245) = true then (none) else ((laws_heldBolts.f k bt278.2.1 bt278.2.2 1).bind fun t301 => (if t301 < 0 then (none) else (if t301 = bt278.1 then (some true) else (none))))) else (none)))))) else (none))))) = some r := by rw [if_pos rfl] at H; exact H
       clear H
       have H := H1
       clear H1
       replace H := Option.bind_eq_some_iff.mp H
       obtain ⟨⟨t278, t279, t280⟩, A260, H⟩ := H
       replace H : ((laws_heldBolts.f k t279 t280 1).bind fun t281 => (if t281 < 0 then (none) else (if t281 = t278 then ((laws_toBolts.f k l0_0 l0_1).bind fun bt282 => ((laws_toBlock.f a1_0 a1_1 a1_2 a1_3).bind fun bt288 => ((impl_AddBlock.f bt282.1 bt282.2 bt288.1 bt288.2.1 bt288.2.2.1 bt288.2.2.2).bind fun bt292 => ((laws_eqBolts.f k bt292.1 bt292.2.1 t239 t242).bind fun t300 => (if t300 = true then (if (bt292.2.2 != t245) = true then (none) else ((laws_heldBolts.f k t279 t280 1).bind fun t301 => (if t301 < 0 then (none) else (if t301 = t278 then (some true) else (none))))) else (none)))))) else (none)))) = some r := H
       have A26 := aM A260
       clear A260
       replace H := Option.bind_eq_some_iff.mp H
       obtain ⟨t281, A270, H⟩ := H
       replace H : (if t281 < 0 then (none) else (if t281 = t278 then ((laws_toBolts.f k l0_0 l0_1).bind fun bt282 => ((laws_toBlock.f a1_0 a1_1 a1_2 a1_3).bind fun bt288 => ((impl_AddBlock.f bt282.1 bt282.2 bt288.1 bt288.2.1 bt288.2.2.1 bt288.2.2.2).bind fun bt292 => ((laws_eqBolts.f k bt292.1 bt292.2.1 t239 t242).bind fun t300 => (if t300 = true then (if (bt292.2.2 != t245) = true then (none) else ((laws_heldBolts.f k t279 t280 1).bind fun t301 => (if t301 < 0 then (none) else (if t301 = t278 then (some true) else (none))))) else (none)))))) else (none))) = some r := H
       have A27 := aM A270
       clear A270
       by_cases c28 : t281 < 0
       ·rw [if_pos c28] at H
        exact absurd H (by simp)
       ·rw [if_neg c28] at H
        have c28b0 : decide (t281 < 0) = false := decide_eq_false c28
        clear c28
        by_cases c29 : t281 = t278
        ·rw [if_pos c29] at H
         have c29b0 : (t281 == t278) = true := beq_iff_eq.mpr c29
         have c29b1 : (t281 != t278) = false := bne_eq_false_iff_eq.mpr c29
         clear c29
         replace H := Option.bind_eq_some_iff.mp H
         obtain ⟨⟨t282, t285⟩, A300, H⟩ := H
         replace H : ((laws_toBlock.f a1_0 a1_1 a1_2 a1_3).bind fun bt288 => ((impl_AddBlock.f t282 t285 bt288.1 bt288.2.1 bt288.2.2.1 bt288.2.2.2).bind fun bt292 => ((laws_eqBolts.f k bt292.1 bt292.2.1 t239 t242).bind fun t300 => (if t300 = true then (if (bt292.2.2 != t245) = true then (none) else ((laws_heldBolts.f k t279 t280 1).bind fun t301 => (if t301 < 0 then (none) else (if t301 = t278 then (some true) else (none))))) else (none))))) = some r := H
         have A30 := aM A300
         clear A300
         replace H := Option.bind_eq_some_iff.mp H
         obtain ⟨⟨t288, t289, t290, t291⟩, A310, H⟩ := H
         replace H : ((impl_AddBlock.f t282 t285 t288 t289 t290 t291).bind fun bt292 => ((laws_eqBolts.f k bt292.1 bt292.2.1 t239 t242).bind fun t300 => (if t300 = true then (if (bt292.2.2 != t245) = true then (none) else ((laws_heldBolts.f k t279 t280 1).bind fun t301 => (if t301 < 0 then (none) else (if t301 = t278 then (some true) else (none))))) else (none)))) = some r := H
         have A31 := aM A310
         clear A310
         replace H := Option.bind_eq_some_iff.mp H
         obtain ⟨⟨t292, t295, t298⟩, A320, H⟩ := H
         replace H : ((laws_eqBolts.f k t292 t295 t239 t242).bind fun t300 => (if t300 = true then (if (t298 != t245) = true then (none) else ((laws_heldBolts.f k t279 t280 1).bind fun t301 => (if t301 < 0 then (none) else (if t301 = t278 then (some true) else (none))))) else (none))) = some r := H
         have A32 := aM A320
         clear A320
         replace H := Option.bind_eq_some_iff.mp H
         obtain ⟨t300, A330, H⟩ := H
         replace H : (if t300 = true then (if (t298 != t245) = true then (none) else ((laws_heldBolts.f k t279 t280 1).bind fun t301 => (if t301 < 0 then (none) else (if t301 = t278 then (some true) else (none))))) else (none)) = some r := H
         have A33 := aM A330
         clear A330
         by_cases c34 : t300 = true
         ·subst c34
          have H1 : (if (t298 != t245) = true then (none) else ((laws_heldBolts.f k t279 t280 1).bind fun t301 => (if t301 < 0 then (none) else (if t301 = t278 then (some true) else (none))))) = some r := by rw [if_pos rfl] at H; exact H
          clear H
          have H := H1
          clear H1
          by_cases c35 : (t298 != t245) = true
          ·rw [if_pos c35] at H
           exact absurd H (by simp)
          ·rw [if_neg c35] at H
           have c35b0 : (t298 != t245) = false := by simpa using c35
           (try (have c35b1 : decide (t298 = t245) = true := by simpa using c35))
           (try (have c35b2 : (t298 == t245) = true := by simpa using c35))
           clear c35
           replace H := Option.bind_eq_some_iff.mp H
           obtain ⟨t301, A360, H⟩ := H
           replace H : (if t301 < 0 then (none) else (if t301 = t278 then (some true) else (none))) = some r := H
           have A36 := aM A360
           clear A360
           by_cases c37 : t301 < 0
           ·rw [if_pos c37] at H
            exact absurd H (by simp)
           ·rw [if_neg c37] at H
            have c37b0 : decide (t301 < 0) = false := decide_eq_false c37
            clear c37
            by_cases c38 : t301 = t278
            ·rw [if_pos c38] at H
             have c38b0 : (t301 == t278) = true := beq_iff_eq.mpr c38
             have c38b1 : (t301 != t278) = false := bne_eq_false_iff_eq.mpr c38
             clear c38
             obtain rfl := Option.some.inj H
             go_enter Try.func3, Try.ntmps3
             try go_wp2_with (first | ((with_reducible refine gate_dst (N := 2) rfl ?_); refine box_event ?hg (N := 2) ?hd (cs := #[.slice A0_0 l0_0.length c0_0, .slice A0_1 l0_1.length c0_1]) (t := 25) ?hr ?_; (case hd => rfl); (case hg => rfl); (case hr => first | (go_simp; done) | (go_simp; rfl)); intro gb226 hg w39 hbox hb; have n0_ := aM (below_step (by repeat (first | (with_reducible first | exact HB.out | apply aL | apply dN | apply dR) | exact HB.out)) hb); have n1_ := aM (hbox); have n2_ := aM ((by rw [hg]; exact (below_size (by repeat (first | (with_reducible first | exact HB.out | apply aL | apply dN | apply dR) | exact HB.out))) : w.heap.size ≤ gb226)); have n3_ := aM ((by rw [hg]; exact (below_size (by repeat (first | (with_reducible first | exact HB.out | apply aL | apply dN | apply dR) | exact HB.out))) : w.heap.size ≤ gb226)); clear HB; have HB := n0_; have BK226 := n1_; have GW226 := n2_; have GE226 := n3_; clear n0_ n1_ n2_ n3_; clear hb hbox hg) | ((with_reducible refine gate_dst (N := 3) rfl ?_); refine box_event ?hg (N := 3) ?hd (cs := #[.int .i64 a1_0, .int .i64 a1_1, .int .i64 a1_2, .int .i64 a1_3]) (t := 27) ?hr ?_; (case hd => rfl); (case hg => rfl); (case hr => first | (go_simp; done) | (go_simp; rfl)); intro gb227 hg w40 hbox hb; have n0_ := aM (blk_below (g := gb226) (o := .cells #[.slice A0_0 l0_0.length c0_0, .slice A0_1 l0_1.length c0_1] 25 (0, 0)) (bU BK226.out) hb); have n1_ := aM (below_step (by repeat (first | (with_reducible first | exact HB.out | apply aL | apply dN | apply dR | refine sT ?_ GE226.out) | exact HB.out)) hb); have n2_ := aM (hbox); have n3_ := aM ((by rw [hg]; exact (below_size (by repeat (first | (with_reducible first | exact HB.out | apply aL | apply dN | apply dR | refine sT ?_ GE226.out) | exact HB.out))) : w.heap.size ≤ gb227)); have n4_ := aM ((by rw [hg]; exact (below_size (by repeat (first | (with_reducible first | exact HB.out | apply aL | apply dN | apply dR | refine sT ?_ GE226.out) | exact HB.out))) : w.heap.size ≤ gb227)); have n5_ := aM ((by rw [hg]; exact Nat.ne_of_lt (blk_lt (g := gb226) (o := .cells #[.slice A0_0 l0_0.length c0_0, .slice A0_1 l0_1.length c0_1] 25 (0, 0)) (bU BK226.out)) : gb226 ≠ gb227)); have n6_ := aM ((by rw [hg]; exact Nat.ne_of_gt (blk_lt (g := gb226) (o := .cells #[.slice A0_0 l0_0.length c0_0, .slice A0_1 l0_1.length c0_1] 25 (0, 0)) (bU BK226.out)) : gb227 ≠ gb226)); clear BK226; clear HB; have BK226 := n0_; have HB := n1_; have BK227 := n2_; have GW227 := n3_; have GE227 := n4_; have NB226_227 := n5_; have NB227_226 := n6_; clear n0_ n1_ n2_ n3_ n4_ n5_ n6_; clear hb hbox hg; have hnb41 := NB226_227.out; have hnc41 := NB227_226.out; have hcz42_0 : w40.cell? ⟨gb226, 0, none⟩ = some (.slice A0_0 l0_0.length c0_0) := (blk_cell BK226.out 0).trans rfl; have hcz42_1 : w40.cell? ⟨gb226, 1, none⟩ = some (.slice A0_1 l0_1.length c0_1) := (blk_cell BK226.out 1).trans rfl; have hfz42_0 := blk_frozen BK226.out 0; have hfz42_1 := blk_frozen BK226.out 1) | ((with_reducible refine gate_callee (f := 6) rfl ?_); refine goesL_ (some 18) rfl rfl Try.func6 (by kernel_rfl) rfl #[.agg #[.slice A0_0 l0_0.length c0_0, .slice A0_1 l0_1.length c0_1], .int .i64 1048576] rfl (by (try simp only [List.map_toArray, List.map_cons, List.map_nil]); first | done | rfl | (simp only [List.length_drop, List.length_take]; rfl)) ?_; (with_reducible refine (laws_szBolts.calls _ _ l0_0 _ _ l0_1 1048576 t228 _ ?side1 ?side2 ?side3 ?side4 A3.out).mono ?_); (case side1 => exact cU (Kd.C_below HR0_0.out HB.out)); (case side2 => exact HC0_0.out); (case side3 => exact cU (Kd.C_below HR0_1.out HB.out)); (case side4 => exact HC0_1.out); rintro e w43 ⟨rfl, hb⟩; refine ⟨_, rfl, ?_⟩; have n0_ := aM (blk_below (g := gb226) (o := .cells #[.slice A0_0 l0_0.length c0_0, .slice A0_1 l0_1.length c0_1] 25 (0, 0)) (bU BK226.out) hb); have n1_ := aM (blk_below (g := gb227) (o := .cells #[.int .i64 a1_0, .int .i64 a1_1, .int .i64 a1_2, .int .i64 a1_3] 27 (0, 0)) (bU BK227.out) hb); have n2_ := aM (below_step (by repeat (first | (with_reducible first | exact HB.out | apply aL | apply dN | apply dR | refine sT ?_ GE226.out | refine sT ?_ GE227.out) | exact HB.out)) hb); clear BK226; clear BK227; clear HB; have BK226 := n0_; have BK227 := n1_; have HB := n2_; clear n0_ n1_ n2_; (try clear hb); (try clear hb2); (try clear hk); (try clear hi)))
             have n0_ := aM (blk_drew BK226.out)
             have n1_ := aM (blk_drew BK227.out)
             have n2_ := aM (below_drew1 HB.out)
             clear BK226
             clear BK227
             clear HB
             have BK226 := n0_
             have BK227 := n1_
             have HB := n2_
             clear n0_ n1_ n2_
             refine start_ (n := 11) (S := fun w' => True) (ds := []) #[false, false, false, false, false, false, false, false, false, false, false] (by kernel_rfl) rfl rfl trivial (fun hHeld => ?_); refine with_tabW laws_FnExactAddBlock.tab5 laws_FnExactAddBlock.bits5 (fun HT_ HW_ => ?_)
             generalize w43.drew = w44 at BK226 BK227 HB hHeld ⊢
             refine inv_at [0, 1, 2, 3, 4, 5, 6, 7, 8, 9, 10] (fun a0_ b a w' => ∃ (v230 : Value) (v233 : Value) (v240 : Value) (v243 : Value) (gb246 : Nat) (m1_ : Value) (m4_ : Value) (m5_ : Value) (m6_ : Value) (m8_ : Value), a = putSel a0_ b [(0, 22, .agg #[.slice A0_0 l0_0.length c0_0, .slice A0_1 l0_1.length c0_1]), (1, 23, m1_), (2, 24, .agg #[.int .i64 a1_0, .int .i64 a1_1, .int .i64 a1_2, .int .i64 a1_3]), (3, 25, .agg #[.int .i64 t235, .int .i64 t236, .int .i64 t237, .int .i64 t238]), (4, 26, m4_), (5, 21, m5_), (6, 27, m6_), (7, 28, .bool t245), (8, 6, m8_), (10, 7, .bool t245)] ∧ (w'.heap[gb226]? = some (.cells #[.slice A0_0 l0_0.length c0_0, .slice A0_1 l0_1.length c0_1] 25 (0, 0))) ∧ (w'.heap[gb227]? = some (.cells #[.int .i64 a1_0, .int .i64 a1_1, .int .i64 a1_2, .int .i64 a1_3] 27 (0, 0))) ∧ (Below w.heap.size w w') ∧ (b 1 = true → Kd.R (Kd.int .i64) 3 w' w.heap.size (fun k_ => some k_ ≠ (v240 : Value).ownBlock) v230 t229) ∧ (b 1 = true → Kd.R k35 35 w' w.heap.size (fun k_ => some k_ ≠ (v243 : Value).ownBlock) v233 t232) ∧ (b 4 = true → Kd.R (Kd.int .i64) 3 w' w.heap.size (fun k_ => some k_ ≠ (v230 : Value).ownBlock) v240 t239) ∧ (b 4 = true → Kd.R k35 35 w' w.heap.size (fun k_ => some k_ ≠ (v233 : Value).ownBlock) v243 t242) ∧ (b 8 = true → b 9 = false → w'.heap[gb246]? = some (.cells #[.slice none 0 0, .slice none 0 0] 31 (0, 0))) ∧ (b 8 = true → w.heap.size ≤ gb246) ∧ (b 8 = true → w.heap.size ≤ gb246) ∧ (b 8 = true → gb226 ≠ gb246) ∧ (b 8 = true → gb246 ≠ gb226) ∧ (b 8 = true → gb227 ≠ gb246) ∧ (b 8 = true → gb246 ≠ gb227) ∧ (b 9 = true → w'.heap[gb246]? = some (.cells #[v240, v243] 31 (0, 0))) ∧ (b 1 = true → (m1_ : Value) = .agg #[v230, v233]) ∧ (b 4 = true → (m4_ : Value) = .tuple #[.agg #[v240, v243], .bool t245]) ∧ (b 5 = true → (m5_ : Value) = .tuple #[.agg #[v240, v243], .bool t245]) ∧ (b 6 = true → (m6_ : Value) = .agg #[v240, v243]) ∧ (b 8 = true → (m8_ : Value) = .pointer (some ⟨gb246, 0, none⟩))) HT_.out HW_.out (by kernel_rfl) (by kernel_rfl) ?_ ?_ ?_
             ·exact ⟨.bool false, .bool false, .bool false, .bool false, 0, .bool false, .bool false, .bool false, .bool false, .bool false, by simp only [putSel, Bool.false_eq_true, if_false], BK226.out, BK227.out, HB.out, fun h_ => absurd h_ (by decide), fun h_ => absurd h_ (by decide), fun h_ => absurd h_ (by decide), fun h_ => absurd h_ (by decide), fun h_ => absurd h_ (by decide), fun h_ => absurd h_ (by decide), fun h_ => absurd h_ (by decide), fun h_ => absurd h_ (by decide), fun h_ => absurd h_ (by decide), fun h_ => absurd h_ (by decide), fun h_ => absurd h_ (by decide), fun h_ => absurd h_ (by decide), fun h_ => absurd h_ (by decide), fun h_ => absurd h_ (by decide), fun h_ => absurd h_ (by decide), fun h_ => absurd h_ (by decide), fun h_ => absurd h_ (by decide)⟩
             ·skip
              clear BK226 BK227 HB
              refine steps_cons ?_ ?_
              ·rintro b a w' ⟨v230, v233, v240, v243, gb246, m1_, m4_, m5_, m6_, m8_, ha, Q_BK226, Q_BK227, Q_HB, Q_HO231, Q_HO234, Q_HO241, Q_HO244, Q_BK246, Q_GW246, Q_GE246, Q_NB226_246, Q_NB246_226, Q_NB227_246, Q_NB246_227, Q_BK246_e9, Q_X1_, Q_X4_, Q_X5_, Q_X6_, Q_X8_⟩ hb_ hon hoff
               refine ⟨_, rfl, fun K hK => ?_⟩
               have e2 : a.tmps[2]? = some (.pointer (some ⟨gb226, 0, none⟩)) := by rw [ha]; exact (putSel_off rfl).trans rfl
               replace ha := aM ha
               have BK226 := aM Q_BK226
               have BK227 := aM Q_BK227
               have HB := aM Q_HB
               have hc0_ : w'.cell? ⟨gb226, 0, none⟩ = some (.slice A0_0 l0_0.length c0_0) := (blk_cell BK226.out 0).trans rfl
               have hc1_ : w'.cell? ⟨gb226, 1, none⟩ = some (.slice A0_1 l0_1.length c0_1) := (blk_cell BK226.out 1).trans rfl
               refine value_ (w1 := w') (v := .agg #[.slice A0_0 l0_0.length c0_0, .slice A0_1 l0_1.length c0_1]) (by rfl) rfl ?_ ?_
               ·go_simp
                (try simp only [i64_w])
                try rfl
               refine hK.out _ _ ⟨v230, v233, v240, v243, gb246, m1_, m4_, m5_, m6_, m8_, (by rw [ha.out]; exact putSel_upk 0 hb_ rfl rfl rfl), Q_BK226, Q_BK227, Q_HB, nB (hoff 1 (by kernel_rfl)), nB (hoff 1 (by kernel_rfl)), nB (hoff 4 (by kernel_rfl)), nB (hoff 4 (by kernel_rfl)), Q_BK246, Q_GW246, Q_GE246, Q_NB226_246, Q_NB246_226, Q_NB227_246, Q_NB246_227, nB (hoff 9 (by kernel_rfl)), nB (hoff 1 (by kernel_rfl)), nB (hoff 4 (by kernel_rfl)), nB (hoff 5 (by kernel_rfl)), nB (hoff 6 (by kernel_rfl)), Q_X8_⟩
              refine steps_cons ?_ ?_
              ·rintro b a w' ⟨v230, v233, v240, v243, gb246, m1_, m4_, m5_, m6_, m8_, ha, Q_BK226, Q_BK227, Q_HB, Q_HO231, Q_HO234, Q_HO241, Q_HO244, Q_BK246, Q_GW246, Q_GE246, Q_NB226_246, Q_NB246_226, Q_NB227_246, Q_NB246_227, Q_BK246_e9, Q_X1_, Q_X4_, Q_X5_, Q_X6_, Q_X8_⟩ hb_ hon hoff
               refine ⟨_, rfl, fun K hK => ?_⟩
               have e22 : a.tmps[22]? = some (.agg #[.slice A0_0 l0_0.length c0_0, .slice A0_1 l0_1.length c0_1]) := by rw [ha]; exact putSel_on (e := (0, 22, .agg #[.slice A0_0 l0_0.length c0_0, .slice A0_1 l0_1.length c0_1])) 0 rfl rfl (hon 0 (by kernel_rfl)) rfl
               replace ha := aM ha
               have BK226 := aM Q_BK226
               have BK227 := aM Q_BK227
               have HB := aM Q_HB
               refine goes_ Try.func8 (by kernel_rfl) rfl #[.agg #[.slice A0_0 l0_0.length c0_0, .slice A0_1 l0_1.length c0_1]] (by rfl) rfl rfl (by first | (simp only [List.map_toArray, List.map_cons, List.map_nil, Act.eval, Array.getD_eq_getD_getElem?, Option.getD_some, e22]; done) | (simp only [List.map_toArray, List.map_cons, List.map_nil, Act.eval, Array.getD_eq_getD_getElem?, Option.getD_some, e22]; rfl)) ?_
               with_reducible refine (laws_toBolts.calls k _ _ l0_0 _ _ l0_1 t229 t232 _ ?side1 ?side2 ?side3 ?side4 A10.out).mono ?_
               (case side1 => exact cU (Kd.C_below HR0_0.out HB.out))
               (case side2 => exact HC0_0.out)
               (case side3 => exact cU (Kd.C_below HR0_1.out HB.out))
               (case side4 => exact HC0_1.out)
               rintro e w45 ⟨v230, v233, rfl, ho0, ho1, hb⟩
               refine ⟨_, rfl, ?_⟩
               have n0_ := aM (Kd.R_lower ho0 (below_size (by repeat (first | (with_reducible first | exact HB.out | apply aL | apply dN | apply dR | refine sT ?_ GE226.out | refine sT ?_ GE227.out) | exact HB.out))))
               have n1_ := aM (Kd.R_lower ho1 (below_size (by repeat (first | (with_reducible first | exact HB.out | apply aL | apply dN | apply dR | refine sT ?_ GE226.out | refine sT ?_ GE227.out) | exact HB.out))))
               have n2_ := aM (blk_below (g := gb226) (o := .cells #[.slice A0_0 l0_0.length c0_0, .slice A0_1 l0_1.length c0_1] 25 (0, 0)) (bU BK226.out) hb)
               have n3_ := aM (blk_below (g := gb227) (o := .cells #[.int .i64 a1_0, .int .i64 a1_1, .int .i64 a1_2, .int .i64 a1_3] 27 (0, 0)) (bU BK227.out) hb)
               have n4_ := aM (below_step (by repeat (first | (with_reducible first | exact HB.out | apply aL | apply dN | apply dR | refine sT ?_ GE226.out | refine sT ?_ GE227.out) | exact HB.out)) hb)
               have z_BK246 := fun (h0_ : b 8 = true) (h1_ : b 9 = false) => (show w45.heap[gb246]? = some (.cells #[.slice none 0 0, .slice none 0 0] 31 (0, 0)) from by first | exact (blk_below (g := gb246) (o := .cells #[.slice none 0 0, .slice none 0 0] 31 (0, 0)) (bU (Q_BK246 h0_ h1_)) hb))
               clear BK226
               clear BK227
               clear HB
               have HO231 := n0_
               have HO234 := n1_
               have BK226 := n2_
               have BK227 := n3_
               have HB := n4_
               clear n0_ n1_ n2_ n3_ n4_
               (try clear hb)
               (try clear hb2)
               (try clear hk)
               (try clear hi)
               (try clear ho0)
               (try clear ho1)
               refine hK.out _ _ ⟨v230, v233, .bool false, .bool false, gb246, (.agg #[v230, v233]), m4_, m5_, m6_, m8_, (by rw [ha.out]; exact putSel_upk 1 hb_ rfl rfl rfl), (bU BK226.out), (bU BK227.out), (by repeat (first | (with_reducible first | exact HB.out | apply aL | apply dN | apply dR | refine sT ?_ GE226.out | refine sT ?_ GE227.out) | exact HB.out)), fun _ => (rU (Kd.R_mono HO231.out (fun _ _ => by simp [Value.ownBlock]))), fun _ => (rU (Kd.R_mono HO234.out (fun _ _ => by simp [Value.ownBlock]))), nB (hoff 4 (by kernel_rfl)), nB (hoff 4 (by kernel_rfl)), z_BK246, Q_GW246, Q_GE246, Q_NB226_246, Q_NB246_226, Q_NB227_246, Q_NB246_227, nB (hoff 9 (by kernel_rfl)), fun _ => rfl, nB (hoff 4 (by kernel_rfl)), nB (hoff 5 (by kernel_rfl)), nB (hoff 6 (by kernel_rfl)), Q_X8_⟩
              refine steps_cons ?_ ?_
              ·rintro b a w' ⟨v230, v233, v240, v243, gb246, m1_, m4_, m5_, m6_, m8_, ha, Q_BK226, Q_BK227, Q_HB, Q_HO231, Q_HO234, Q_HO241, Q_HO244, Q_BK246, Q_GW246, Q_GE246, Q_NB226_246, Q_NB246_226, Q_NB227_246, Q_NB246_227, Q_BK246_e9, Q_X1_, Q_X4_, Q_X5_, Q_X6_, Q_X8_⟩ hb_ hon hoff
               refine ⟨_, rfl, fun K hK => ?_⟩
               have e3 : a.tmps[3]? = some (.pointer (some ⟨gb227, 0, none⟩)) := by rw [ha]; exact (putSel_off rfl).trans rfl
               replace ha := aM ha
               have BK226 := aM Q_BK226
               have BK227 := aM Q_BK227
               have HB := aM Q_HB
               have hc0_ : w'.cell? ⟨gb227, 0, none⟩ = some (.int .i64 a1_0) := (blk_cell BK227.out 0).trans rfl
               have hc1_ : w'.cell? ⟨gb227, 1, none⟩ = some (.int .i64 a1_1) := (blk_cell BK227.out 1).trans rfl
               have hc2_ : w'.cell? ⟨gb227, 2, none⟩ = some (.int .i64 a1_2) := (blk_cell BK227.out 2).trans rfl
               have hc3_ : w'.cell? ⟨gb227, 3, none⟩ = some (.int .i64 a1_3) := (blk_cell BK227.out 3).trans rfl
               refine value_ (w1 := w') (v := .agg #[.int .i64 a1_0, .int .i64 a1_1, .int .i64 a1_2, .int .i64 a1_3]) (by rfl) rfl ?_ ?_
               ·go_simp
                (try simp only [i64_w])
                try rfl
               refine hK.out _ _ ⟨v230, v233, v240, v243, gb246, m1_, m4_, m5_, m6_, m8_, (by rw [ha.out]; exact putSel_upk 2 hb_ rfl rfl rfl), Q_BK226, Q_BK227, Q_HB, Q_HO231, Q_HO234, nB (hoff 4 (by kernel_rfl)), nB (hoff 4 (by kernel_rfl)), Q_BK246, Q_GW246, Q_GE246, Q_NB226_246, Q_NB246_226, Q_NB227_246, Q_NB246_227, nB (hoff 9 (by kernel_rfl)), Q_X1_, nB (hoff 4 (by kernel_rfl)), nB (hoff 5 (by kernel_rfl)), nB (hoff 6 (by kernel_rfl)), Q_X8_⟩
              refine steps_cons ?_ ?_
              ·rintro b a w' ⟨v230, v233, v240, v243, gb246, m1_, m4_, m5_, m6_, m8_, ha, Q_BK226, Q_BK227, Q_HB, Q_HO231, Q_HO234, Q_HO241, Q_HO244, Q_BK246, Q_GW246, Q_GE246, Q_NB226_246, Q_NB246_226, Q_NB227_246, Q_NB246_227, Q_BK246_e9, Q_X1_, Q_X4_, Q_X5_, Q_X6_, Q_X8_⟩ hb_ hon hoff
               refine ⟨_, rfl, fun K hK => ?_⟩
               have e24 : a.tmps[24]? = some (.agg #[.int .i64 a1_0, .int .i64 a1_1, .int .i64 a1_2, .int .i64 a1_3]) := by rw [ha]; exact putSel_on (e := (2, 24, .agg #[.int .i64 a1_0, .int .i64 a1_1, .int .i64 a1_2, .int .i64 a1_3])) 2 rfl rfl (hon 2 (by kernel_rfl)) rfl
               replace ha := aM ha
               have BK226 := aM Q_BK226
               have BK227 := aM Q_BK227
               have HB := aM Q_HB
               have HO231 := aM (Q_HO231 (hon 1 (by kernel_rfl)))
               have HO234 := aM (Q_HO234 (hon 1 (by kernel_rfl)))
               refine goes_ Try.func9 (by kernel_rfl) rfl #[.agg #[.int .i64 a1_0, .int .i64 a1_1, .int .i64 a1_2, .int .i64 a1_3]] (by rfl) rfl rfl (by first | (simp only [List.map_toArray, List.map_cons, List.map_nil, Act.eval, Array.getD_eq_getD_getElem?, Option.getD_some, e24]; done) | (simp only [List.map_toArray, List.map_cons, List.map_nil, Act.eval, Array.getD_eq_getD_getElem?, Option.getD_some, e24]; rfl)) ?_
               with_reducible refine (laws_toBlock.calls a1_0 a1_1 a1_2 a1_3 t235 t236 t237 t238 _ A11.out).mono ?_
               rintro e w47 ⟨rfl, hb⟩
               refine ⟨_, rfl, ?_⟩
               have n0_ := aM (Kd.R_below (rU HO231.out) hb)
               have n1_ := aM (Kd.R_below (rU HO234.out) hb)
               have n2_ := aM (blk_below (g := gb226) (o := .cells #[.slice A0_0 l0_0.length c0_0, .slice A0_1 l0_1.length c0_1] 25 (0, 0)) (bU BK226.out) hb)
               have n3_ := aM (blk_below (g := gb227) (o := .cells #[.int .i64 a1_0, .int .i64 a1_1, .int .i64 a1_2, .int .i64 a1_3] 27 (0, 0)) (bU BK227.out) hb)
               have n4_ := aM (below_step (by repeat (first | (with_reducible first | exact HB.out | apply aL | apply dN | apply dR | refine sT ?_ GE226.out | refine sT ?_ GE227.out) | exact HB.out)) hb)
               have z_BK246 := fun (h0_ : b 8 = true) (h1_ : b 9 = false) => (show w47.heap[gb246]? = some (.cells #[.slice none 0 0, .slice none 0 0] 31 (0, 0)) from by first | exact (blk_below (g := gb246) (o := .cells #[.slice none 0 0, .slice none 0 0] 31 (0, 0)) (bU (Q_BK246 h0_ h1_)) hb))
               clear HO231
               clear HO234
               clear BK226
               clear BK227
               clear HB
               have HO231 := n0_
               have HO234 := n1_
               have BK226 := n2_
               have BK227 := n3_
               have HB := n4_
               clear n0_ n1_ n2_ n3_ n4_
               (try clear hb)
               (try clear hb2)
               (try clear hk)
               (try clear hi)
               refine hK.out _ _ ⟨v230, v233, v240, v243, gb246, m1_, m4_, m5_, m6_, m8_, (by rw [ha.out]; exact putSel_upk 3 hb_ rfl rfl rfl), (bU BK226.out), (bU BK227.out), (by repeat (first | (with_reducible first | exact HB.out | apply aL | apply dN | apply dR | refine sT ?_ GE226.out | refine sT ?_ GE227.out) | exact HB.out)), fun _ => (rU HO231.out), fun _ => (rU HO234.out), nB (hoff 4 (by kernel_rfl)), nB (hoff 4 (by kernel_rfl)), z_BK246, Q_GW246, Q_GE246, Q_NB226_246, Q_NB246_226, Q_NB227_246, Q_NB246_227, nB (hoff 9 (by kernel_rfl)), Q_X1_, nB (hoff 4 (by kernel_rfl)), nB (hoff 5 (by kernel_rfl)), nB (hoff 6 (by kernel_rfl)), Q_X8_⟩
              refine steps_cons ?_ ?_
              ·rintro b a w' ⟨v230, v233, v240, v243, gb246, m1_, m4_, m5_, m6_, m8_, ha, Q_BK226, Q_BK227, Q_HB, Q_HO231, Q_HO234, Q_HO241, Q_HO244, Q_BK246, Q_GW246, Q_GE246, Q_NB226_246, Q_NB246_226, Q_NB227_246, Q_NB246_227, Q_BK246_e9, Q_X1_, Q_X4_, Q_X5_, Q_X6_, Q_X8_⟩ hb_ hon hoff
               refine ⟨_, rfl, fun K hK => ?_⟩
               have e23 : a.tmps[23]? = some (m1_) := by rw [ha]; exact putSel_on (e := (1, 23, m1_)) 1 rfl rfl (hon 1 (by kernel_rfl)) rfl
               rw [Q_X1_ (hon 1 (by kernel_rfl))] at e23
               have e25 : a.tmps[25]? = some (.agg #[.int .i64 t235, .int .i64 t236, .int .i64 t237, .int .i64 t238]) := by rw [ha]; exact putSel_on (e := (3, 25, .agg #[.int .i64 t235, .int .i64 t236, .int .i64 t237, .int .i64 t238])) 3 rfl rfl (hon 3 (by kernel_rfl)) rfl
               replace ha := aM ha
               have BK226 := aM Q_BK226
               have BK227 := aM Q_BK227
               have HB := aM Q_HB
               have HO231 := aM (Q_HO231 (hon 1 (by kernel_rfl)))
               have HO234 := aM (Q_HO234 (hon 1 (by kernel_rfl)))
               obtain ⟨Ao48, co48, eo48⟩ := Kd.R_slice HO231.out
               (first | subst eo48 | (injection eo48 with f1_ f2_ f3_; have f4_ := f1_.symm; have f5_ := f3_.symm; clear f1_ f2_ f3_; subst f4_; subst f5_))
               obtain ⟨Ao49, co49, eo49⟩ := Kd.R_slice HO234.out
               (first | subst eo49 | (injection eo49 with f1_ f2_ f3_; have f4_ := f1_.symm; have f5_ := f3_.symm; clear f1_ f2_ f3_; subst f4_; subst f5_))
               refine goes_ Try.func7 (by kernel_rfl) rfl #[.agg #[.slice Ao48 t229.length co48, .slice Ao49 t232.length co49], .agg #[.int .i64 t235, .int .i64 t236, .int .i64 t237, .int .i64 t238]] (by rfl) rfl rfl (by first | (simp only [List.map_toArray, List.map_cons, List.map_nil, Act.eval, Array.getD_eq_getD_getElem?, Option.getD_some, e23, e25]; done) | (simp only [List.map_toArray, List.map_cons, List.map_nil, Act.eval, Array.getD_eq_getD_getElem?, Option.getD_some, e23, e25]; rfl)) ?_
               with_reducible refine (spec_AddBlock.calls k _ _ t229 _ _ t232 t235 t236 t237 t238 t239 t242 t245 _ ?side1 ?side2 ?side3 ?side4 A12.out).mono ?_
               (case side1 => exact cU (Kd.R_reads' HO231.out).2.2)
               (case side2 => exact (Kd.R_reads' HO231.out).2.1)
               (case side3 => exact cU (Kd.R_reads' HO234.out).2.2)
               (case side4 => exact (Kd.R_reads' HO234.out).2.1)
               rintro e w50 ⟨v240, v243, rfl, ho0, ho1, hb⟩
               refine ⟨_, rfl, ?_⟩
               have n0_ := aM (Kd.R_elder' (rU HO231.out) (Kd.R_base ho0) hb)
               have n1_ := aM (Kd.R_elder' (rU HO234.out) (Kd.R_base ho1) hb)
               have n2_ := aM (Kd.R_lower (Kd.R_new' ho0 (Kd.R_lt (rU HO231.out))) (below_size (by repeat (first | (with_reducible first | exact HB.out | apply aL | apply dN | apply dR | refine sT ?_ GE226.out | refine sT ?_ GE227.out) | exact HB.out))))
               have n3_ := aM (Kd.R_lower (Kd.R_new' ho1 (Kd.R_lt (rU HO234.out))) (below_size (by repeat (first | (with_reducible first | exact HB.out | apply aL | apply dN | apply dR | refine sT ?_ GE226.out | refine sT ?_ GE227.out) | exact HB.out))))
               have n4_ := aM (blk_below (g := gb226) (o := .cells #[.slice A0_0 l0_0.length c0_0, .slice A0_1 l0_1.length c0_1] 25 (0, 0)) (bU BK226.out) hb)
               have n5_ := aM (blk_below (g := gb227) (o := .cells #[.int .i64 a1_0, .int .i64 a1_1, .int .i64 a1_2, .int .i64 a1_3] 27 (0, 0)) (bU BK227.out) hb)
               have n6_ := aM (below_step (by repeat (first | (with_reducible first | exact HB.out | apply aL | apply dN | apply dR | refine sT ?_ GE226.out | refine sT ?_ GE227.out) | exact HB.out)) hb)
               have z_BK246 := fun (h0_ : b 8 = true) (h1_ : b 9 = false) => (show w50.heap[gb246]? = some (.cells #[.slice none 0 0, .slice none 0 0] 31 (0, 0)) from by first | exact (blk_below (g := gb246) (o := .cells #[.slice none 0 0, .slice none 0 0] 31 (0, 0)) (bU (Q_BK246 h0_ h1_)) hb))
               clear HO231
               clear HO234
               clear BK226
               clear BK227
               clear HB
               have HO231 := n0_
               have HO234 := n1_
               have HO241 := n2_
               have HO244 := n3_
               have BK226 := n4_
               have BK227 := n5_
               have HB := n6_
               clear n0_ n1_ n2_ n3_ n4_ n5_ n6_
               (try clear hb)
               (try clear hb2)
               (try clear hk)
               (try clear hi)
               (try clear ho0)
               (try clear ho1)
               refine hK.out _ _ ⟨.slice Ao48 t229.length co48, .slice Ao49 t232.length co49, v240, v243, gb246, m1_, (.tuple #[.agg #[v240, v243], .bool t245]), m5_, m6_, m8_, (by rw [ha.out]; exact putSel_upk 4 hb_ rfl rfl rfl), (bU BK226.out), (bU BK227.out), (by repeat (first | (with_reducible first | exact HB.out | apply aL | apply dN | apply dR | refine sT ?_ GE226.out | refine sT ?_ GE227.out) | exact HB.out)), fun _ => (rU (Kd.R_mono HO231.out (by first | exact fun _ hk => hk.2 | grind))), fun _ => (rU (Kd.R_mono HO234.out (by first | exact fun _ hk => hk.2 | grind))), fun _ => (rU (Kd.R_mono HO241.out (by first | exact fun _ hk => hk.2 | grind))), fun _ => (rU (Kd.R_mono HO244.out (by first | exact fun _ hk => hk.2 | grind))), z_BK246, Q_GW246, Q_GE246, Q_NB226_246, Q_NB246_226, Q_NB227_246, Q_NB246_227, nB (hoff 9 (by kernel_rfl)), Q_X1_, fun _ => rfl, nB (hoff 5 (by kernel_rfl)), nB (hoff 6 (by kernel_rfl)), Q_X8_⟩
              refine steps_cons ?_ ?_
              ·rintro b a w' ⟨v230, v233, v240, v243, gb246, m1_, m4_, m5_, m6_, m8_, ha, Q_BK226, Q_BK227, Q_HB, Q_HO231, Q_HO234, Q_HO241, Q_HO244, Q_BK246, Q_GW246, Q_GE246, Q_NB226_246, Q_NB246_226, Q_NB227_246, Q_NB246_227, Q_BK246_e9, Q_X1_, Q_X4_, Q_X5_, Q_X6_, Q_X8_⟩ hb_ hon hoff
               refine ⟨_, rfl, fun K hK => ?_⟩
               have e26 : a.tmps[26]? = some (m4_) := by rw [ha]; exact putSel_on (e := (4, 26, m4_)) 4 rfl rfl (hon 4 (by kernel_rfl)) rfl
               rw [Q_X4_ (hon 4 (by kernel_rfl))] at e26
               replace ha := aM ha
               have BK226 := aM Q_BK226
               have BK227 := aM Q_BK227
               have HB := aM Q_HB
               have HO231 := aM (Q_HO231 (hon 1 (by kernel_rfl)))
               have HO234 := aM (Q_HO234 (hon 1 (by kernel_rfl)))
               have HO241 := aM (Q_HO241 (hon 4 (by kernel_rfl)))
               have HO244 := aM (Q_HO244 (hon 4 (by kernel_rfl)))
               refine value_ (w1 := w') (v := .tuple #[.agg #[v240, v243], .bool t245]) (by rfl) rfl ?_ ?_
               ·go_simp
                (try simp only [i64_w])
                try rfl
               refine hK.out _ _ ⟨v230, v233, v240, v243, gb246, m1_, m4_, (.tuple #[.agg #[v240, v243], .bool t245]), m6_, m8_, (by rw [ha.out]; exact putSel_upk 5 hb_ rfl rfl rfl), Q_BK226, Q_BK227, Q_HB, Q_HO231, Q_HO234, Q_HO241, Q_HO244, Q_BK246, Q_GW246, Q_GE246, Q_NB226_246, Q_NB246_226, Q_NB227_246, Q_NB246_227, nB (hoff 9 (by kernel_rfl)), Q_X1_, Q_X4_, fun _ => rfl, nB (hoff 6 (by kernel_rfl)), Q_X8_⟩
              refine steps_cons ?_ ?_
              ·rintro b a w' ⟨v230, v233, v240, v243, gb246, m1_, m4_, m5_, m6_, m8_, ha, Q_BK226, Q_BK227, Q_HB, Q_HO231, Q_HO234, Q_HO241, Q_HO244, Q_BK246, Q_GW246, Q_GE246, Q_NB226_246, Q_NB246_226, Q_NB227_246, Q_NB246_227, Q_BK246_e9, Q_X1_, Q_X4_, Q_X5_, Q_X6_, Q_X8_⟩ hb_ hon hoff
               refine ⟨_, rfl, fun K hK => ?_⟩
               have e21 : a.tmps[21]? = some (m5_) := by rw [ha]; exact putSel_on (e := (5, 21, m5_)) 5 rfl rfl (hon 5 (by kernel_rfl)) rfl
               rw [Q_X5_ (hon 5 (by kernel_rfl))] at e21
               replace ha := aM ha
               have BK226 := aM Q_BK226
               have BK227 := aM Q_BK227
               have HB := aM Q_HB
               have HO231 := aM (Q_HO231 (hon 1 (by kernel_rfl)))
               have HO234 := aM (Q_HO234 (hon 1 (by kernel_rfl)))
               have HO241 := aM (Q_HO241 (hon 4 (by kernel_rfl)))
               have HO244 := aM (Q_HO244 (hon 4 (by kernel_rfl)))
               refine value_ (w1 := w') (v := .agg #[v240, v243]) (by rfl) rfl ?_ ?_
               ·go_simp
                (try simp only [i64_w])
                try rfl
               refine hK.out _ _ ⟨v230, v233, v240, v243, gb246, m1_, m4_, m5_, (.agg #[v240, v243]), m8_, (by rw [ha.out]; exact putSel_upk 6 hb_ rfl rfl rfl), Q_BK226, Q_BK227, Q_HB, Q_HO231, Q_HO234, Q_HO241, Q_HO244, Q_BK246, Q_GW246, Q_GE246, Q_NB226_246, Q_NB246_226, Q_NB227_246, Q_NB246_227, nB (hoff 9 (by kernel_rfl)), Q_X1_, Q_X4_, Q_X5_, fun _ => rfl, Q_X8_⟩
              refine steps_cons ?_ ?_
              ·rintro b a w' ⟨v230, v233, v240, v243, gb246, m1_, m4_, m5_, m6_, m8_, ha, Q_BK226, Q_BK227, Q_HB, Q_HO231, Q_HO234, Q_HO241, Q_HO244, Q_BK246, Q_GW246, Q_GE246, Q_NB226_246, Q_NB246_226, Q_NB227_246, Q_NB246_227, Q_BK246_e9, Q_X1_, Q_X4_, Q_X5_, Q_X6_, Q_X8_⟩ hb_ hon hoff
               refine ⟨_, rfl, fun K hK => ?_⟩
               have e21 : a.tmps[21]? = some (m5_) := by rw [ha]; exact putSel_on (e := (5, 21, m5_)) 5 rfl rfl (hon 5 (by kernel_rfl)) rfl
               rw [Q_X5_ (hon 5 (by kernel_rfl))] at e21
               replace ha := aM ha
               have BK226 := aM Q_BK226
               have BK227 := aM Q_BK227
               have HB := aM Q_HB
               have HO231 := aM (Q_HO231 (hon 1 (by kernel_rfl)))
               have HO234 := aM (Q_HO234 (hon 1 (by kernel_rfl)))
               have HO241 := aM (Q_HO241 (hon 4 (by kernel_rfl)))
               have HO244 := aM (Q_HO244 (hon 4 (by kernel_rfl)))
               refine value_ (w1 := w') (v := .bool t245) (by rfl) rfl ?_ ?_
               ·go_simp
                (try simp only [i64_w])
                try rfl
               refine hK.out _ _ ⟨v230, v233, v240, v243, gb246, m1_, m4_, m5_, m6_, m8_, (by rw [ha.out]; exact putSel_upk 7 hb_ rfl rfl rfl), Q_BK226, Q_BK227, Q_HB, Q_HO231, Q_HO234, Q_HO241, Q_HO244, Q_BK246, Q_GW246, Q_GE246, Q_NB226_246, Q_NB246_226, Q_NB227_246, Q_NB246_227, Q_BK246_e9, Q_X1_, Q_X4_, Q_X5_, Q_X6_, Q_X8_⟩
              refine steps_cons ?_ ?_
              ·rintro b a w' ⟨v230, v233, v240, v243, gb246, m1_, m4_, m5_, m6_, m8_, ha, Q_BK226, Q_BK227, Q_HB, Q_HO231, Q_HO234, Q_HO241, Q_HO244, Q_BK246, Q_GW246, Q_GE246, Q_NB226_246, Q_NB246_226, Q_NB227_246, Q_NB246_227, Q_BK246_e9, Q_X1_, Q_X4_, Q_X5_, Q_X6_, Q_X8_⟩ hb_ hon hoff
               refine ⟨_, rfl, fun K hK => ?_⟩
               replace ha := aM ha
               have BK226 := aM Q_BK226
               have BK227 := aM Q_BK227
               have HB := aM Q_HB
               refine box_step ?hg (N := 6) ?hd (cs := #[.slice none 0 0, .slice none 0 0]) (t := 31) ?hr ?_; (case hd => rfl); (case hg => rfl); (case hr => first | (go_simp; done) | (go_simp; rfl))
               intro gb246 hg w45 hbox hb
               have n0_ := aM (blk_below (g := gb226) (o := .cells #[.slice A0_0 l0_0.length c0_0, .slice A0_1 l0_1.length c0_1] 25 (0, 0)) (bU BK226.out) hb)
               have n1_ := aM (blk_below (g := gb227) (o := .cells #[.int .i64 a1_0, .int .i64 a1_1, .int .i64 a1_2, .int .i64 a1_3] 27 (0, 0)) (bU BK227.out) hb)
               have n2_ := aM (below_step (by repeat (first | (with_reducible first | exact HB.out | apply aL | apply dN | apply dR | refine sT ?_ GE226.out | refine sT ?_ GE227.out) | exact HB.out)) hb)
               have n3_ := aM (hbox)
               have n4_ := aM ((by rw [hg]; exact (below_size (by repeat (first | (with_reducible first | exact HB.out | apply aL | apply dN | apply dR | refine sT ?_ GE226.out | refine sT ?_ GE227.out) | exact HB.out))) : w.heap.size ≤ gb246))
               have n5_ := aM ((by rw [hg]; exact (below_size (by repeat (first | (with_reducible first | exact HB.out | apply aL | apply dN | apply dR | refine sT ?_ GE226.out | refine sT ?_ GE227.out) | exact HB.out))) : w.heap.size ≤ gb246))
               have n6_ := aM ((by rw [hg]; exact Nat.ne_of_lt (blk_lt (g := gb226) (o := .cells #[.slice A0_0 l0_0.length c0_0, .slice A0_1 l0_1.length c0_1] 25 (0, 0)) (bU BK226.out)) : gb226 ≠ gb246))
               have n7_ := aM ((by rw [hg]; exact Nat.ne_of_gt (blk_lt (g := gb226) (o := .cells #[.slice A0_0 l0_0.length c0_0, .slice A0_1 l0_1.length c0_1] 25 (0, 0)) (bU BK226.out)) : gb246 ≠ gb226))
               have n8_ := aM ((by rw [hg]; exact Nat.ne_of_lt (blk_lt (g := gb227) (o := .cells #[.int .i64 a1_0, .int .i64 a1_1, .int .i64 a1_2, .int .i64 a1_3] 27 (0, 0)) (bU BK227.out)) : gb227 ≠ gb246))
               have n9_ := aM ((by rw [hg]; exact Nat.ne_of_gt (blk_lt (g := gb227) (o := .cells #[.int .i64 a1_0, .int .i64 a1_1, .int .i64 a1_2, .int .i64 a1_3] 27 (0, 0)) (bU BK227.out)) : gb246 ≠ gb227))
               have z_HO231 := fun (h0_ : b 1 = true) => (show Kd.R (Kd.int .i64) 3 w45 w.heap.size (fun k_ => some k_ ≠ (v240 : Value).ownBlock) v230 t229 from by first | exact (Kd.R_below (rU (Q_HO231 h0_)) hb) | exact Kd.R_mono (Kd.R_below (rU (Q_HO231 h0_)) hb) (fun _ h_ => by first | trivial | exact h_ | exact h_.1))
               have z_HO234 := fun (h0_ : b 1 = true) => (show Kd.R k35 35 w45 w.heap.size (fun k_ => some k_ ≠ (v243 : Value).ownBlock) v233 t232 from by first | exact (Kd.R_below (rU (Q_HO234 h0_)) hb) | exact Kd.R_mono (Kd.R_below (rU (Q_HO234 h0_)) hb) (fun _ h_ => by first | trivial | exact h_ | exact h_.1))
               have z_HO241 := fun (h0_ : b 4 = true) => (show Kd.R (Kd.int .i64) 3 w45 w.heap.size (fun k_ => some k_ ≠ (v230 : Value).ownBlock) v240 t239 from by first | exact (Kd.R_below (rU (Q_HO241 h0_)) hb) | exact Kd.R_mono (Kd.R_below (rU (Q_HO241 h0_)) hb) (fun _ h_ => by first | trivial | exact h_ | exact h_.1))
               have z_HO244 := fun (h0_ : b 4 = true) => (show Kd.R k35 35 w45 w.heap.size (fun k_ => some k_ ≠ (v233 : Value).ownBlock) v243 t242 from by first | exact (Kd.R_below (rU (Q_HO244 h0_)) hb) | exact Kd.R_mono (Kd.R_below (rU (Q_HO244 h0_)) hb) (fun _ h_ => by first | trivial | exact h_ | exact h_.1))
               clear BK226
               clear BK227
               clear HB
               have BK226 := n0_
               have BK227 := n1_
               have HB := n2_
               have BK246 := n3_
               have GW246 := n4_
               have GE246 := n5_
               have NB226_246 := n6_
               have NB246_226 := n7_
               have NB227_246 := n8_
               have NB246_227 := n9_
               clear n0_ n1_ n2_ n3_ n4_ n5_ n6_ n7_ n8_ n9_
               clear hb hbox hg
               refine hK.out _ _ ⟨v230, v233, v240, v243, gb246, m1_, m4_, m5_, m6_, (.pointer (some ⟨gb246, 0, none⟩)), (by rw [ha.out]; exact putSel_upk 8 hb_ rfl rfl rfl), (bU BK226.out), (bU BK227.out), (by repeat (first | (with_reducible first | exact HB.out | apply aL | apply dN | apply dR | refine sT ?_ GE226.out | refine sT ?_ GE227.out | refine sT ?_ GE246.out) | exact HB.out)), z_HO231, z_HO234, z_HO241, z_HO244, fun _ _ => (bU BK246.out), fun _ => GW246.out, fun _ => GE246.out, fun _ => NB226_246.out, fun _ => NB246_226.out, fun _ => NB227_246.out, fun _ => NB246_227.out, nB (hoff 9 (by kernel_rfl)), Q_X1_, Q_X4_, Q_X5_, Q_X6_, fun _ => rfl⟩
              refine steps_cons ?_ ?_
              ·rintro b a w' ⟨v230, v233, v240, v243, gb246, m1_, m4_, m5_, m6_, m8_, ha, Q_BK226, Q_BK227, Q_HB, Q_HO231, Q_HO234, Q_HO241, Q_HO244, Q_BK246, Q_GW246, Q_GE246, Q_NB226_246, Q_NB246_226, Q_NB227_246, Q_NB246_227, Q_BK246_e9, Q_X1_, Q_X4_, Q_X5_, Q_X6_, Q_X8_⟩ hb_ hon hoff
               refine ⟨_, rfl, fun K hK => ?_⟩
               have e6 : a.tmps[6]? = some (m8_) := by rw [ha]; exact putSel_on (e := (8, 6, m8_)) 8 rfl rfl (hon 8 (by kernel_rfl)) rfl
               rw [Q_X8_ (hon 8 (by kernel_rfl))] at e6
               have e27 : a.tmps[27]? = some (m6_) := by rw [ha]; exact putSel_on (e := (6, 27, m6_)) 6 rfl rfl (hon 6 (by kernel_rfl)) rfl
               rw [Q_X6_ (hon 6 (by kernel_rfl))] at e27
               replace ha := aM ha
               have BK226 := aM Q_BK226
               have BK227 := aM Q_BK227
               have HB := aM Q_HB
               have HO231 := aM (Q_HO231 (hon 1 (by kernel_rfl)))
               have HO234 := aM (Q_HO234 (hon 1 (by kernel_rfl)))
               have HO241 := aM (Q_HO241 (hon 4 (by kernel_rfl)))
               have HO244 := aM (Q_HO244 (hon 4 (by kernel_rfl)))
               have BK246 := aM (Q_BK246 (hon 8 (by kernel_rfl)) hb_)
               have GW246 := aM (Q_GW246 (hon 8 (by kernel_rfl)))
               have GE246 := aM (Q_GE246 (hon 8 (by kernel_rfl)))
               have NB226_246 := aM (Q_NB226_246 (hon 8 (by kernel_rfl)))
               have NB246_226 := aM (Q_NB246_226 (hon 8 (by kernel_rfl)))
               have NB227_246 := aM (Q_NB227_246 (hon 8 (by kernel_rfl)))
               have NB246_227 := aM (Q_NB246_227 (hon 8 (by kernel_rfl)))
               obtain ⟨Ao52, co52, eo52⟩ := Kd.R_slice HO241.out
               (first | subst eo52 | (injection eo52 with f1_ f2_ f3_; have f4_ := f1_.symm; have f5_ := f3_.symm; clear f1_ f2_ f3_; subst f4_; subst f5_))
               obtain ⟨Ao54, co54, eo54⟩ := Kd.R_slice HO244.out
               (first | subst eo54 | (injection eo54 with f1_ f2_ f3_; have f4_ := f1_.symm; have f5_ := f3_.symm; clear f1_ f2_ f3_; subst f4_; subst f5_))
               have hs53 : w'.cell? ⟨gb246, 0, none⟩ = some (.slice none 0 0) := (blk_cell BK246.out 0).trans rfl
               have hfs53 := blk_frozen BK246.out 0
               have hns53_0 := NB226_246.out
               have hns53_1 := NB227_246.out
               have hms53_0 := NB246_226.out
               have hms53_1 := NB246_227.out
               have hs55 : w'.cell? ⟨gb246, 1, none⟩ = some (.slice none 0 0) := (blk_cell BK246.out 1).trans rfl
               have hfs55 := blk_frozen BK246.out 1
               have hns55_0 := NB226_246.out
               have hns55_1 := NB227_246.out
               have hms55_0 := NB246_226.out
               have hms55_1 := NB246_227.out
               refine skip_ (w1 := ?_) (by rfl) rfl ?_ ?_
               rotate_left
               ·go_simp
                rfl
               refine hK.out _ _ ⟨v230, v233, .slice Ao52 t239.length co52, .slice Ao54 t242.length co54, gb246, m1_, m4_, m5_, m6_, m8_, (by rw [ha.out]; exact putSel_none (v := undef) rfl), (by (with_reducible repeat (first | refine blk_drewN ?_ _ | refine blk_drew ?_ | refine blk_alloc ?_ _)); refine blk_far ?_ NB226_246.out _; (with_reducible repeat (first | refine blk_drewN ?_ _ | refine blk_drew ?_ | refine blk_alloc ?_ _)); refine blk_far ?_ NB226_246.out _; (with_reducible repeat (first | refine blk_drewN ?_ _ | refine blk_drew ?_ | refine blk_alloc ?_ _)); exact BK226.out), (by (with_reducible repeat (first | refine blk_drewN ?_ _ | refine blk_drew ?_ | refine blk_alloc ?_ _)); refine blk_far ?_ NB227_246.out _; (with_reducible repeat (first | refine blk_drewN ?_ _ | refine blk_drew ?_ | refine blk_alloc ?_ _)); refine blk_far ?_ NB227_246.out _; (with_reducible repeat (first | refine blk_drewN ?_ _ | refine blk_drew ?_ | refine blk_alloc ?_ _)); exact BK227.out), (by repeat (first | (with_reducible first | exact HB.out | apply aL | apply dN | apply dR | refine sT ?_ GE226.out | refine sT ?_ GE227.out | refine sT ?_ GE246.out) | exact HB.out)), fun _ => (rU (Kd.R_mono (Kd.R_far (p := ⟨gb246, 1, none⟩) (Kd.R_far (p := ⟨gb246, 0, none⟩) (Kd.R_types HO231.out BK246.out (by decide)) (by first | exact fun _ hk => hk.2 | grind) (.slice Ao52 t239.length co52)) (by first | exact fun _ hk => hk.2 | grind) (.slice Ao54 t242.length co54)) (by first | exact fun _ hk => hk.1 | grind))), fun _ => (rU (Kd.R_mono (Kd.R_far (p := ⟨gb246, 1, none⟩) (Kd.R_far (p := ⟨gb246, 0, none⟩) (Kd.R_types HO234.out BK246.out (by decide)) (by first | exact fun _ hk => hk.2 | grind) (.slice Ao52 t239.length co52)) (by first | exact fun _ hk => hk.2 | grind) (.slice Ao54 t242.length co54)) (by first | exact fun _ hk => hk.1 | grind))), fun _ => (rU (Kd.R_mono (Kd.R_far (p := ⟨gb246, 1, none⟩) (Kd.R_far (p := ⟨gb246, 0, none⟩) (Kd.R_types HO241.out BK246.out (by decide)) (by first | exact fun _ hk => hk.2 | grind) (.slice Ao52 t239.length co52)) (by first | exact fun _ hk => hk.2 | grind) (.slice Ao54 t242.length co54)) (by first | exact fun _ hk => hk.1 | grind))), fun _ => (rU (Kd.R_mono (Kd.R_far (p := ⟨gb246, 1, none⟩) (Kd.R_far (p := ⟨gb246, 0, none⟩) (Kd.R_types HO244.out BK246.out (by decide)) (by first | exact fun _ hk => hk.2 | grind) (.slice Ao52 t239.length co52)) (by first | exact fun _ hk => hk.2 | grind) (.slice Ao54 t242.length co54)) (by first | exact fun _ hk => hk.1 | grind))), fun _ h1_ => absurd ((up_self b 9).symm.trans h1_) (by decide), fun _ => GW246.out, fun _ => GE246.out, fun _ => NB226_246.out, fun _ => NB246_226.out, fun _ => NB227_246.out, fun _ => NB246_227.out, fun _ => (by (with_reducible repeat (first | refine blk_drewN ?_ _ | refine blk_drew ?_ | refine blk_alloc ?_ _)); refine blk_put (cs := #[.slice Ao52 t239.length co52, .slice none 0 0]) ?_ 1 _ rfl; (with_reducible repeat (first | refine blk_drewN ?_ _ | refine blk_drew ?_ | refine blk_alloc ?_ _)); refine blk_put (cs := #[.slice none 0 0, .slice none 0 0]) ?_ 0 _ rfl; (with_reducible repeat (first | refine blk_drewN ?_ _ | refine blk_drew ?_ | refine blk_alloc ?_ _)); exact BK246.out), Q_X1_, Q_X4_, Q_X5_, Q_X6_, Q_X8_⟩
              refine steps_cons ?_ ?_
              ·rintro b a w' ⟨v230, v233, v240, v243, gb246, m1_, m4_, m5_, m6_, m8_, ha, Q_BK226, Q_BK227, Q_HB, Q_HO231, Q_HO234, Q_HO241, Q_HO244, Q_BK246, Q_GW246, Q_GE246, Q_NB226_246, Q_NB246_226, Q_NB227_246, Q_NB246_227, Q_BK246_e9, Q_X1_, Q_X4_, Q_X5_, Q_X6_, Q_X8_⟩ hb_ hon hoff
               refine ⟨_, rfl, fun K hK => ?_⟩
               have e28 : a.tmps[28]? = some (.bool t245) := by rw [ha]; exact putSel_on (e := (7, 28, .bool t245)) 7 rfl rfl (hon 7 (by kernel_rfl)) rfl
               replace ha := aM ha
               have BK226 := aM Q_BK226
               have BK227 := aM Q_BK227
               have HB := aM Q_HB
               have HO231 := aM (Q_HO231 (hon 1 (by kernel_rfl)))
               have HO234 := aM (Q_HO234 (hon 1 (by kernel_rfl)))
               have HO241 := aM (Q_HO241 (hon 4 (by kernel_rfl)))
               have HO244 := aM (Q_HO244 (hon 4 (by kernel_rfl)))
               have GW246 := aM (Q_GW246 (hon 8 (by kernel_rfl)))
               have GE246 := aM (Q_GE246 (hon 8 (by kernel_rfl)))
               have NB226_246 := aM (Q_NB226_246 (hon 8 (by kernel_rfl)))
               have NB246_226 := aM (Q_NB246_226 (hon 8 (by kernel_rfl)))
               have NB227_246 := aM (Q_NB227_246 (hon 8 (by kernel_rfl)))
               have NB246_227 := aM (Q_NB246_227 (hon 8 (by kernel_rfl)))
               have BK246 := aM (Q_BK246_e9 (hon 9 (by kernel_rfl)))
               refine value_ (w1 := w') (v := .bool t245) (by rfl) rfl ?_ ?_
               ·go_simp
                (try simp only [i64_w])
                try rfl
               refine hK.out _ _ ⟨v230, v233, v240, v243, gb246, m1_, m4_, m5_, m6_, m8_, (by rw [ha.out]; exact putSel_upk 9 hb_ rfl rfl rfl), Q_BK226, Q_BK227, Q_HB, Q_HO231, Q_HO234, Q_HO241, Q_HO244, fun _ h1_ => absurd ((hon 9 (by kernel_rfl)).symm.trans h1_) (by decide), Q_GW246, Q_GE246, Q_NB226_246, Q_NB246_226, Q_NB227_246, Q_NB246_227, Q_BK246_e9, Q_X1_, Q_X4_, Q_X5_, Q_X6_, Q_X8_⟩
              exact steps_nil
             rintro b a w55 hall ⟨v230, v233, v240, v243, gb246, m1_, m4_, m5_, m6_, m8_, ha, Q_BK226, Q_BK227, Q_HB, Q_HO231, Q_HO234, Q_HO241, Q_HO244, Q_BK246, Q_GW246, Q_GE246, Q_NB226_246, Q_NB246_226, Q_NB227_246, Q_NB246_227, Q_BK246_e9, Q_X1_, Q_X4_, Q_X5_, Q_X6_, Q_X8_⟩
             clear BK226 BK227 HB
             have hb0_ := hall 0 (by kernel_rfl)
             have hb1_ := hall 1 (by kernel_rfl)
             have hb2_ := hall 2 (by kernel_rfl)
             have hb3_ := hall 3 (by kernel_rfl)
             have hb4_ := hall 4 (by kernel_rfl)
             have hb5_ := hall 5 (by kernel_rfl)
             have hb6_ := hall 6 (by kernel_rfl)
             have hb7_ := hall 7 (by kernel_rfl)
             have hb8_ := hall 8 (by kernel_rfl)
             have hb9_ := hall 9 (by kernel_rfl)
             have hb10_ := hall 10 (by kernel_rfl)
             subst ha
             obtain rfl := Q_X1_ hb1_
             obtain rfl := Q_X4_ hb4_
             obtain rfl := Q_X5_ hb5_
             obtain rfl := Q_X6_ hb6_
             obtain rfl := Q_X8_ hb8_
             simp only [putSel, hb0_, hb1_, hb2_, hb3_, hb4_, hb5_, hb6_, hb7_, hb8_, hb9_, hb10_, if_true, Act.put, List.setIfInBounds_toArray, List.set_cons_zero, List.set_cons_succ]
             have BK226 := aM Q_BK226
             clear Q_BK226
             have BK227 := aM Q_BK227
             clear Q_BK227
             have HB := aM Q_HB
             clear Q_HB
             have HO231 := aM (Q_HO231 hb1_)
             clear Q_HO231
             have HO234 := aM (Q_HO234 hb1_)
             clear Q_HO234
             have HO241 := aM (Q_HO241 hb4_)
             clear Q_HO241
             have HO244 := aM (Q_HO244 hb4_)
             clear Q_HO244
             clear Q_BK246
             have GW246 := aM (Q_GW246 hb8_)
             clear Q_GW246
             have GE246 := aM (Q_GE246 hb8_)
             clear Q_GE246
             have NB226_246 := aM (Q_NB226_246 hb8_)
             clear Q_NB226_246
             have NB246_226 := aM (Q_NB246_226 hb8_)
             clear Q_NB246_226
             have NB227_246 := aM (Q_NB227_246 hb8_)
             clear Q_NB227_246
             have NB246_227 := aM (Q_NB246_227 hb8_)
             clear Q_NB246_227
             have BK246 := aM (Q_BK246_e9 hb9_)
             clear Q_BK246_e9
             clear hall hb0_ hb1_ hb2_ hb3_ hb4_ hb5_ hb6_ hb7_ hb8_ hb9_ hb10_
             have hnb56 := NB226_246.out
             have hnc56 := NB246_226.out
             have hcz57_0 : w55.cell? ⟨gb226, 0, none⟩ = some (.slice A0_0 l0_0.length c0_0) := (blk_cell BK226.out 0).trans rfl
             have hcz57_1 : w55.cell? ⟨gb226, 1, none⟩ = some (.slice A0_1 l0_1.length c0_1) := (blk_cell BK226.out 1).trans rfl
             have hfz57_0 := blk_frozen BK226.out 0
             have hfz57_1 := blk_frozen BK226.out 1
             try go_wp2_with (first | ((with_reducible refine gate_callee (f := 8) rfl ?_); refine goesL_ (some 30) rfl rfl Try.func8 (by kernel_rfl) rfl #[.agg #[.slice A0_0 l0_0.length c0_0, .slice A0_1 l0_1.length c0_1]] rfl (by (try simp only [List.map_toArray, List.map_cons, List.map_nil]); first | done | rfl | (simp only [List.length_drop, List.length_take]; rfl)) ?_; (with_reducible refine (laws_toBolts.calls k _ _ l0_0 _ _ l0_1 t247 t250 _ ?side1 ?side2 ?side3 ?side4 A13.out).mono ?_); (case side1 => exact cU (Kd.C_below HR0_0.out HB.out)); (case side2 => exact HC0_0.out); (case side3 => exact cU (Kd.C_below HR0_1.out HB.out)); (case side4 => exact HC0_1.out); rintro e w58 ⟨v248, v251, rfl, ho0, ho1, hb⟩; refine ⟨_, rfl, ?_⟩; have n0_ := aM (Kd.R_elder' (rU HO231.out) (Kd.R_base ho0) hb); have n1_ := aM (Kd.R_elder' (rU HO234.out) (Kd.R_base ho1) hb); have n2_ := aM (Kd.R_elder' (rU HO241.out) (Kd.R_base ho0) hb); have n3_ := aM (Kd.R_elder' (rU HO244.out) (Kd.R_base ho1) hb); have n4_ := aM (Kd.R_lower (Kd.R_new' (Kd.R_new' ho0 (Kd.R_lt (rU HO231.out))) (Kd.R_lt (rU HO241.out))) (below_size (by repeat (first | (with_reducible first | exact HB.out | apply aL | apply dN | apply dR | refine sT ?_ GE226.out | refine sT ?_ GE227.out | refine sT ?_ GE246.out) | exact HB.out)))); have n5_ := aM (Kd.R_lower (Kd.R_new' (Kd.R_new' ho1 (Kd.R_lt (rU HO234.out))) (Kd.R_lt (rU HO244.out))) (below_size (by repeat (first | (with_reducible first | exact HB.out | apply aL | apply dN | apply dR | refine sT ?_ GE226.out | refine sT ?_ GE227.out | refine sT ?_ GE246.out) | exact HB.out)))); have n6_ := aM (blk_below (g := gb226) (o := .cells #[.slice A0_0 l0_0.length c0_0, .slice A0_1 l0_1.length c0_1] 25 (0, 0)) (bU BK226.out) hb); have n7_ := aM (blk_below (g := gb227) (o := .cells #[.int .i64 a1_0, .int .i64 a1_1, .int .i64 a1_2, .int .i64 a1_3] 27 (0, 0)) (bU BK227.out) hb); have n8_ := aM (blk_below (g := gb246) (o := .cells #[v240, v243] 31 (0, 0)) (bU BK246.out) hb); have n9_ := aM (below_step (by repeat (first | (with_reducible first | exact HB.out | apply aL | apply dN | apply dR | refine sT ?_ GE226.out | refine sT ?_ GE227.out | refine sT ?_ GE246.out) | exact HB.out)) hb); clear HO231; clear HO234; clear HO241; clear HO244; clear BK226; clear BK227; clear BK246; clear HB; have HO231 := n0_; have HO234 := n1_; have HO241 := n2_; have HO244 := n3_; have HO249 := n4_; have HO252 := n5_; have BK226 := n6_; have BK227 := n7_; have BK246 := n8_; have HB := n9_; clear n0_ n1_ n2_ n3_ n4_ n5_ n6_ n7_ n8_ n9_; (try clear hb); (try clear hb2); (try clear hk); (try clear hi); (try clear ho0); (try clear ho1)) | ((with_reducible refine gate_dst (N := 8) rfl ?_); refine box_event ?hg (N := 8) ?hd (cs := #[.slice none 0 0, .slice none 0 0]) (t := 31) ?hr ?_; (case hd => rfl); (case hg => rfl); (case hr => first | (go_simp; done) | (go_simp; rfl)); intro gb253 hg w59 hbox hb; have n0_ := aM (Kd.R_below (rU HO231.out) hb); have n1_ := aM (Kd.R_below (rU HO234.out) hb); have n2_ := aM (Kd.R_below (rU HO241.out) hb); have n3_ := aM (Kd.R_below (rU HO244.out) hb); have n4_ := aM (Kd.R_below (rU HO249.out) hb); have n5_ := aM (Kd.R_below (rU HO252.out) hb); have n6_ := aM (blk_below (g := gb226) (o := .cells #[.slice A0_0 l0_0.length c0_0, .slice A0_1 l0_1.length c0_1] 25 (0, 0)) (bU BK226.out) hb); have n7_ := aM (blk_below (g := gb227) (o := .cells #[.int .i64 a1_0, .int .i64 a1_1, .int .i64 a1_2, .int .i64 a1_3] 27 (0, 0)) (bU BK227.out) hb); have n8_ := aM (blk_below (g := gb246) (o := .cells #[v240, v243] 31 (0, 0)) (bU BK246.out) hb); have n9_ := aM (below_step (by repeat (first | (with_reducible first | exact HB.out | apply aL | apply dN | apply dR | refine sT ?_ GE226.out | refine sT ?_ GE227.out | refine sT ?_ GE246.out) | exact HB.out)) hb); have n10_ := aM (hbox); have n11_ := aM ((by rw [hg]; exact (below_size (by repeat (first | (with_reducible first | exact HB.out | apply aL | apply dN | apply dR | refine sT ?_ GE226.out | refine sT ?_ GE227.out | refine sT ?_ GE246.out) | exact HB.out))) : w.heap.size ≤ gb253)); have n12_ := aM ((by rw [hg]; exact (below_size (by repeat (first | (with_reducible first | exact HB.out | apply aL | apply dN | apply dR | refine sT ?_ GE226.out | refine sT ?_ GE227.out | refine sT ?_ GE246.out) | exact HB.out))) : w.heap.size ≤ gb253)); have n13_ := aM ((by rw [hg]; exact Nat.ne_of_lt (blk_lt (g := gb226) (o := .cells #[.slice A0_0 l0_0.length c0_0, .slice A0_1 l0_1.length c0_1] 25 (0, 0)) (bU BK226.out)) : gb226 ≠ gb253)); have n14_ := aM ((by rw [hg]; exact Nat.ne_of_gt (blk_lt (g := gb226) (o := .cells #[.slice A0_0 l0_0.length c0_0, .slice A0_1 l0_1.length c0_1] 25 (0, 0)) (bU BK226.out)) : gb253 ≠ gb226)); have n15_ := aM ((by rw [hg]; exact Nat.ne_of_lt (blk_lt (g := gb227) (o := .cells #[.int .i64 a1_0, .int .i64 a1_1, .int .i64 a1_2, .int .i64 a1_3] 27 (0, 0)) (bU BK227.out)) : gb227 ≠ gb253)); have n16_ := aM ((by rw [hg]; exact Nat.ne_of_gt (blk_lt (g := gb227) (o := .cells #[.int .i64 a1_0, .int .i64 a1_1, .int .i64 a1_2, .int .i64 a1_3] 27 (0, 0)) (bU BK227.out)) : gb253 ≠ gb227)); have n17_ := aM ((by rw [hg]; exact Nat.ne_of_lt (blk_lt (g := gb246) (o := .cells #[v240, v243] 31 (0, 0)) (bU BK246.out)) : gb246 ≠ gb253)); have n18_ := aM ((by rw [hg]; exact Nat.ne_of_gt (blk_lt (g := gb246) (o := .cells #[v240, v243] 31 (0, 0)) (bU BK246.out)) : gb253 ≠ gb246)); clear HO231; clear HO234; clear HO241; clear HO244; clear HO249; clear HO252; clear BK226; clear BK227; clear BK246; clear HB; have HO231 := n0_; have HO234 := n1_; have HO241 := n2_; have HO244 := n3_; have HO249 := n4_; have HO252 := n5_; have BK226 := n6_; have BK227 := n7_; have BK246 := n8_; have HB := n9_; have BK253 := n10_; have GW253 := n11_; have GE253 := n12_; have NB226_253 := n13_; have NB253_226 := n14_; have NB227_253 := n15_; have NB253_227 := n16_; have NB246_253 := n17_; have NB253_246 := n18_; clear n0_ n1_ n2_ n3_ n4_ n5_ n6_ n7_ n8_ n9_ n10_ n11_ n12_ n13_ n14_ n15_ n16_ n17_ n18_; clear hb hbox hg; obtain ⟨Ao60, co60, eo60⟩ := Kd.R_slice HO249.out; subst eo60; have hnb61 := NB253_226.out; have hnc61 := NB226_253.out; have hnb62 := NB253_227.out; have hnc62 := NB227_253.out; have hnb63 := NB253_246.out; have hnc63 := NB246_253.out; have hcz64_0 : w59.cell? ⟨gb253, 0, none⟩ = some (.slice none 0 0) := (blk_cell BK253.out 0).trans rfl; have hcz64_1 : w59.cell? ⟨gb253, 1, none⟩ = some (.slice none 0 0) := (blk_cell BK253.out 1).trans rfl; have hfz64_0 := blk_frozen BK253.out 0; have hfz64_1 := blk_frozen BK253.out 1; obtain ⟨Ao65, co65, eo65⟩ := Kd.R_slice HO252.out; subst eo65))
             have n0_ : Aside0 (Kd.R (Kd.int .i64) 3 ((w59.setCell ⟨gb253, 0, none⟩ (.slice Ao60 t247.length co60)).setCell ⟨gb253, 1, none⟩ (.slice Ao65 t250.length co65)) w.heap.size (fun k_ => some k_ ≠ (v240 : Value).ownBlock ∧ some k_ ≠ (.slice Ao60 t247.length co60 : Value).ownBlock) v230 t229) := ⟨by (with_reducible repeat (first | apply Kd.R_alloc | apply Kd.R_drewN | apply Kd.R_drew)); exact Kd.R_mono (Kd.R_far (p := ⟨gb253, 1, none⟩) (Kd.R_far (p := ⟨gb253, 0, none⟩) (Kd.R_types HO231.out BK253.out (by decide)) (by first | exact fun _ hk => hk.2 | grind) (.slice Ao60 t247.length co60)) (by first | exact fun _ hk => hk.2 | grind) (.slice Ao65 t250.length co65)) (by first | exact fun _ hk => ⟨hk.1.1, hk.1.2⟩ | grind)⟩
             have n1_ : Aside0 (Kd.R k35 35 ((w59.setCell ⟨gb253, 0, none⟩ (.slice Ao60 t247.length co60)).setCell ⟨gb253, 1, none⟩ (.slice Ao65 t250.length co65)) w.heap.size (fun k_ => some k_ ≠ (v243 : Value).ownBlock ∧ some k_ ≠ (.slice Ao65 t250.length co65 : Value).ownBlock) v233 t232) := ⟨by (with_reducible repeat (first | apply Kd.R_alloc | apply Kd.R_drewN | apply Kd.R_drew)); exact Kd.R_mono (Kd.R_far (p := ⟨gb253, 1, none⟩) (Kd.R_far (p := ⟨gb253, 0, none⟩) (Kd.R_types HO234.out BK253.out (by decide)) (by first | exact fun _ hk => hk.2 | grind) (.slice Ao60 t247.length co60)) (by first | exact fun _ hk => hk.2 | grind) (.slice Ao65 t250.length co65)) (by first | exact fun _ hk => ⟨hk.1.1, hk.1.2⟩ | grind)⟩
             have n2_ : Aside0 (Kd.R (Kd.int .i64) 3 ((w59.setCell ⟨gb253, 0, none⟩ (.slice Ao60 t247.length co60)).setCell ⟨gb253, 1, none⟩ (.slice Ao65 t250.length co65)) w.heap.size (fun k_ => some k_ ≠ (v230 : Value).ownBlock ∧ some k_ ≠ (.slice Ao60 t247.length co60 : Value).ownBlock) v240 t239) := ⟨by (with_reducible repeat (first | apply Kd.R_alloc | apply Kd.R_drewN | apply Kd.R_drew)); exact Kd.R_mono (Kd.R_far (p := ⟨gb253, 1, none⟩) (Kd.R_far (p := ⟨gb253, 0, none⟩) (Kd.R_types HO241.out BK253.out (by decide)) (by first | exact fun _ hk => hk.2 | grind) (.slice Ao60 t247.length co60)) (by first | exact fun _ hk => hk.2 | grind) (.slice Ao65 t250.length co65)) (by first | exact fun _ hk => ⟨hk.1.1, hk.1.2⟩ | grind)⟩
             have n3_ : Aside0 (Kd.R k35 35 ((w59.setCell ⟨gb253, 0, none⟩ (.slice Ao60 t247.length co60)).setCell ⟨gb253, 1, none⟩ (.slice Ao65 t250.length co65)) w.heap.size (fun k_ => some k_ ≠ (v233 : Value).ownBlock ∧ some k_ ≠ (.slice Ao65 t250.length co65 : Value).ownBlock) v243 t242) := ⟨by (with_reducible repeat (first | apply Kd.R_alloc | apply Kd.R_drewN | apply Kd.R_drew)); exact Kd.R_mono (Kd.R_far (p := ⟨gb253, 1, none⟩) (Kd.R_far (p := ⟨gb253, 0, none⟩) (Kd.R_types HO244.out BK253.out (by decide)) (by first | exact fun _ hk => hk.2 | grind) (.slice Ao60 t247.length co60)) (by first | exact fun _ hk => hk.2 | grind) (.slice Ao65 t250.length co65)) (by first | exact fun _ hk => ⟨hk.1.1, hk.1.2⟩ | grind)⟩
             have n4_ : Aside0 (Kd.R (Kd.int .i64) 3 ((w59.setCell ⟨gb253, 0, none⟩ (.slice Ao60 t247.length co60)).setCell ⟨gb253, 1, none⟩ (.slice Ao65 t250.length co65)) w.heap.size (fun k_ => some k_ ≠ (v230 : Value).ownBlock ∧ some k_ ≠ (v240 : Value).ownBlock) (.slice Ao60 t247.length co60) t247) := ⟨by (with_reducible repeat (first | apply Kd.R_alloc | apply Kd.R_drewN | apply Kd.R_drew)); exact Kd.R_mono (Kd.R_far (p := ⟨gb253, 1, none⟩) (Kd.R_far (p := ⟨gb253, 0, none⟩) (Kd.R_types HO249.out BK253.out (by decide)) (by first | exact fun _ hk => hk.2 | grind) (.slice Ao60 t247.length co60)) (by first | exact fun _ hk => hk.2 | grind) (.slice Ao65 t250.length co65)) (by first | exact fun _ hk => ⟨hk.1.1.2, hk.1.2⟩ | grind)⟩
             have n5_ : Aside0 (Kd.R k35 35 ((w59.setCell ⟨gb253, 0, none⟩ (.slice Ao60 t247.length co60)).setCell ⟨gb253, 1, none⟩ (.slice Ao65 t250.length co65)) w.heap.size (fun k_ => some k_ ≠ (v233 : Value).ownBlock ∧ some k_ ≠ (v243 : Value).ownBlock) (.slice Ao65 t250.length co65) t250) := ⟨by (with_reducible repeat (first | apply Kd.R_alloc | apply Kd.R_drewN | apply Kd.R_drew)); exact Kd.R_mono (Kd.R_far (p := ⟨gb253, 1, none⟩) (Kd.R_far (p := ⟨gb253, 0, none⟩) (Kd.R_types HO252.out BK253.out (by decide)) (by first | exact fun _ hk => hk.2 | grind) (.slice Ao60 t247.length co60)) (by first | exact fun _ hk => hk.2 | grind) (.slice Ao65 t250.length co65)) (by first | exact fun _ hk => ⟨hk.1.1.2, hk.1.2⟩ | grind)⟩
             have n6_ : Aside0 (((w59.setCell ⟨gb253, 0, none⟩ (.slice Ao60 t247.length co60)).setCell ⟨gb253, 1, none⟩ (.slice Ao65 t250.length co65)).heap[gb226]? = some (.cells #[.slice A0_0 l0_0.length c0_0, .slice A0_1 l0_1.length c0_1] 25 (0, 0))) := ⟨by (with_reducible repeat (first | refine blk_drewN ?_ _ | refine blk_drew ?_ | refine blk_alloc ?_ _)); refine blk_far ?_ NB226_253.out _; (with_reducible repeat (first | refine blk_drewN ?_ _ | refine blk_drew ?_ | refine blk_alloc ?_ _)); refine blk_far ?_ NB226_253.out _; (with_reducible repeat (first | refine blk_drewN ?_ _ | refine blk_drew ?_ | refine blk_alloc ?_ _)); exact BK226.out⟩
             have n7_ : Aside0 (((w59.setCell ⟨gb253, 0, none⟩ (.slice Ao60 t247.length co60)).setCell ⟨gb253, 1, none⟩ (.slice Ao65 t250.length co65)).heap[gb227]? = some (.cells #[.int .i64 a1_0, .int .i64 a1_1, .int .i64 a1_2, .int .i64 a1_3] 27 (0, 0))) := ⟨by (with_reducible repeat (first | refine blk_drewN ?_ _ | refine blk_drew ?_ | refine blk_alloc ?_ _)); refine blk_far ?_ NB227_253.out _; (with_reducible repeat (first | refine blk_drewN ?_ _ | refine blk_drew ?_ | refine blk_alloc ?_ _)); refine blk_far ?_ NB227_253.out _; (with_reducible repeat (first | refine blk_drewN ?_ _ | refine blk_drew ?_ | refine blk_alloc ?_ _)); exact BK227.out⟩
             have n8_ : Aside0 (((w59.setCell ⟨gb253, 0, none⟩ (.slice Ao60 t247.length co60)).setCell ⟨gb253, 1, none⟩ (.slice Ao65 t250.length co65)).heap[gb246]? = some (.cells #[v240, v243] 31 (0, 0))) := ⟨by (with_reducible repeat (first | refine blk_drewN ?_ _ | refine blk_drew ?_ | refine blk_alloc ?_ _)); refine blk_far ?_ NB246_253.out _; (with_reducible repeat (first | refine blk_drewN ?_ _ | refine blk_drew ?_ | refine blk_alloc ?_ _)); refine blk_far ?_ NB246_253.out _; (with_reducible repeat (first | refine blk_drewN ?_ _ | refine blk_drew ?_ | refine blk_alloc ?_ _)); exact BK246.out⟩
             have n9_ : Aside0 (((w59.setCell ⟨gb253, 0, none⟩ (.slice Ao60 t247.length co60)).setCell ⟨gb253, 1, none⟩ (.slice Ao65 t250.length co65)).heap[gb253]? = some (.cells #[.slice Ao60 t247.length co60, .slice Ao65 t250.length co65] 31 (0, 0))) := ⟨by (with_reducible repeat (first | refine blk_drewN ?_ _ | refine blk_drew ?_ | refine blk_alloc ?_ _)); refine blk_put (cs := #[.slice Ao60 t247.length co60, .slice none 0 0]) ?_ 1 _ rfl; (with_reducible repeat (first | refine blk_drewN ?_ _ | refine blk_drew ?_ | refine blk_alloc ?_ _)); refine blk_put (cs := #[.slice none 0 0, .slice none 0 0]) ?_ 0 _ rfl; (with_reducible repeat (first | refine blk_drewN ?_ _ | refine blk_drew ?_ | refine blk_alloc ?_ _)); exact BK253.out⟩
             have n10_ : Aside0 (Below w.heap.size w ((w59.setCell ⟨gb253, 0, none⟩ (.slice Ao60 t247.length co60)).setCell ⟨gb253, 1, none⟩ (.slice Ao65 t250.length co65))) := ⟨by repeat (first | (with_reducible first | exact HB.out | apply aL | apply dN | apply dR | refine sT ?_ GE226.out | refine sT ?_ GE227.out | refine sT ?_ GE246.out | refine sT ?_ GE253.out) | exact HB.out)⟩
             (try clear HO231)
             (try clear HO234)
             (try clear HO241)
             (try clear HO244)
             (try clear HO249)
             (try clear HO252)
             (try clear BK226)
             (try clear BK227)
             (try clear BK246)
             (try clear BK253)
             (try clear HB)
             generalize ((w59.setCell ⟨gb253, 0, none⟩ (.slice Ao60 t247.length co60)).setCell ⟨gb253, 1, none⟩ (.slice Ao65 t250.length co65)) = w66 at n0_ n1_ n2_ n3_ n4_ n5_ n6_ n7_ n8_ n9_ n10_ ⊢
             have HO231 := n0_
             have HO234 := n1_
             have HO241 := n2_
             have HO244 := n3_
             have HO249 := n4_
             have HO252 := n5_
             have BK226 := n6_
             have BK227 := n7_
             have BK246 := n8_
             have BK253 := n9_
             have HB := n10_
             clear n0_ n1_ n2_ n3_ n4_ n5_ n6_ n7_ n8_ n9_ n10_
             have n0_ := aM (Kd.R_drew HO231.out)
             have n1_ := aM (Kd.R_drew HO234.out)
             have n2_ := aM (Kd.R_drew HO241.out)
             have n3_ := aM (Kd.R_drew HO244.out)
             have n4_ := aM (Kd.R_drew HO249.out)
             have n5_ := aM (Kd.R_drew HO252.out)
             have n6_ := aM (blk_drew BK226.out)
             have n7_ := aM (blk_drew BK227.out)
             have n8_ := aM (blk_drew BK246.out)
             have n9_ := aM (blk_drew BK253.out)
             have n10_ := aM (below_drew1 HB.out)
             clear HO231
             clear HO234
             clear HO241
             clear HO244
             clear HO249
             clear HO252
             clear BK226
             clear BK227
             clear BK246
             clear BK253
             clear HB
             have HO231 := n0_
             have HO234 := n1_
             have HO241 := n2_
             have HO244 := n3_
             have HO249 := n4_
             have HO252 := n5_
             have BK226 := n6_
             have BK227 := n7_
             have BK246 := n8_
             have BK253 := n9_
             have HB := n10_
             clear n0_ n1_ n2_ n3_ n4_ n5_ n6_ n7_ n8_ n9_ n10_
             refine start_ (n := 10) (S := fun w' => True) (ds := []) #[false, false, false, false, false, false, false, false, false, false] (by kernel_rfl) rfl rfl trivial (fun hHeld => ?_); refine with_tabW laws_FnExactAddBlock.tab7 laws_FnExactAddBlock.bits7 (fun HT_ HW_ => ?_)
             generalize w66.drew = w67 at HO231 HO234 HO241 HO244 HO249 HO252 BK226 BK227 BK246 BK253 HB hHeld ⊢
             refine inv_at [0, 1, 2, 3, 4, 5, 6, 7, 8, 9] (fun a0_ b a w' => ∃ (v259 : Value) (v262 : Value) (gb265 : Nat) (m3_ : Value) (m4_ : Value) (m5_ : Value) (m7_ : Value), a = putSel a0_ b [(0, 32, .agg #[.slice Ao60 t247.length co60, .slice Ao65 t250.length co65]), (1, 33, .agg #[.int .i64 a1_0, .int .i64 a1_1, .int .i64 a1_2, .int .i64 a1_3]), (2, 34, .agg #[.int .i64 t254, .int .i64 t255, .int .i64 t256, .int .i64 t257]), (3, 35, m3_), (4, 31, m4_), (5, 36, m5_), (6, 37, .bool t264), (7, 9, m7_), (9, 10, .bool t264)] ∧ (Kd.R (Kd.int .i64) 3 w' w.heap.size (fun k_ => some k_ ≠ (v240 : Value).ownBlock ∧ some k_ ≠ (.slice Ao60 t247.length co60 : Value).ownBlock ∧ some k_ ≠ (v259 : Value).ownBlock) v230 t229) ∧ (Kd.R k35 35 w' w.heap.size (fun k_ => some k_ ≠ (v243 : Value).ownBlock ∧ some k_ ≠ (.slice Ao65 t250.length co65 : Value).ownBlock ∧ some k_ ≠ (v262 : Value).ownBlock) v233 t232) ∧ (Kd.R (Kd.int .i64) 3 w' w.heap.size (fun k_ => some k_ ≠ (v230 : Value).ownBlock ∧ some k_ ≠ (.slice Ao60 t247.length co60 : Value).ownBlock ∧ some k_ ≠ (v259 : Value).ownBlock) v240 t239) ∧ (Kd.R k35 35 w' w.heap.size (fun k_ => some k_ ≠ (v233 : Value).ownBlock ∧ some k_ ≠ (.slice Ao65 t250.length co65 : Value).ownBlock ∧ some k_ ≠ (v262 : Value).ownBlock) v243 t242) ∧ (Kd.R (Kd.int .i64) 3 w' w.heap.size (fun k_ => some k_ ≠ (v230 : Value).ownBlock ∧ some k_ ≠ (v240 : Value).ownBlock ∧ some k_ ≠ (v259 : Value).ownBlock) (.slice Ao60 t247.length co60) t247) ∧ (Kd.R k35 35 w' w.heap.size (fun k_ => some k_ ≠ (v233 : Value).ownBlock ∧ some k_ ≠ (v243 : Value).ownBlock ∧ some k_ ≠ (v262 : Value).ownBlock) (.slice Ao65 t250.length co65) t250) ∧ (w'.heap[gb226]? = some (.cells #[.slice A0_0 l0_0.length c0_0, .slice A0_1 l0_1.length c0_1] 25 (0, 0))) ∧ (w'.heap[gb227]? = some (.cells #[.int .i64 a1_0, .int .i64 a1_1, .int .i64 a1_2, .int .i64 a1_3] 27 (0, 0))) ∧ (w'.heap[gb246]? = some (.cells #[v240, v243] 31 (0, 0))) ∧ (w'.heap[gb253]? = some (.cells #[.slice Ao60 t247.length co60, .slice Ao65 t250.length co65] 31 (0, 0))) ∧ (Below w.heap.size w w') ∧ (b 3 = true → Kd.R (Kd.int .i64) 3 w' w.heap.size (fun k_ => some k_ ≠ (v230 : Value).ownBlock ∧ some k_ ≠ (v240 : Value).ownBlock ∧ some k_ ≠ (.slice Ao60 t247.length co60 : Value).ownBlock) v259 t258) ∧ (b 3 = true → Kd.R k35 35 w' w.heap.size (fun k_ => some k_ ≠ (v233 : Value).ownBlock ∧ some k_ ≠ (v243 : Value).ownBlock ∧ some k_ ≠ (.slice Ao65 t250.length co65 : Value).ownBlock) v262 t261) ∧ (b 7 = true → b 8 = false → w'.heap[gb265]? = some (.cells #[.slice none 0 0, .slice none 0 0] 31 (0, 0))) ∧ (b 7 = true → w.heap.size ≤ gb265) ∧ (b 7 = true → w.heap.size ≤ gb265) ∧ (b 7 = true → gb226 ≠ gb265) ∧ (b 7 = true → gb265 ≠ gb226) ∧ (b 7 = true → gb227 ≠ gb265) ∧ (b 7 = true → gb265 ≠ gb227) ∧ (b 7 = true → gb246 ≠ gb265) ∧ (b 7 = true → gb265 ≠ gb246) ∧ (b 7 = true → gb253 ≠ gb265) ∧ (b 7 = true → gb265 ≠ gb253) ∧ (b 8 = true → w'.heap[gb265]? = some (.cells #[v259, v262] 31 (0, 0))) ∧ (b 3 = true → (m3_ : Value) = .tuple #[.agg #[v259, v262], .bool t264]) ∧ (b 4 = true → (m4_ : Value) = .tuple #[.agg #[v259, v262], .bool t264]) ∧ (b 5 = true → (m5_ : Value) = .agg #[v259, v262]) ∧ (b 7 = true → (m7_ : Value) = .pointer (some ⟨gb265, 0, none⟩))) HT_.out HW_.out (by kernel_rfl) (by kernel_rfl) ?_ ?_ ?_
             ·exact ⟨.bool false, .bool false, 0, .bool false, .bool false, .bool false, .bool false, by simp only [putSel, Bool.false_eq_true, if_false], Kd.R_mono HO231.out (fun _ hk => ⟨hk.1, hk.2, by simp [Value.ownBlock]⟩), Kd.R_mono HO234.out (fun _ hk => ⟨hk.1, hk.2, by simp [Value.ownBlock]⟩), Kd.R_mono HO241.out (fun _ hk => ⟨hk.1, hk.2, by simp [Value.ownBlock]⟩), Kd.R_mono HO244.out (fun _ hk => ⟨hk.1, hk.2, by simp [Value.ownBlock]⟩), Kd.R_mono HO249.out (fun _ hk => ⟨hk.1, hk.2, by simp [Value.ownBlock]⟩), Kd.R_mono HO252.out (fun _ hk => ⟨hk.1, hk.2, by simp [Value.ownBlock]⟩), BK226.out, BK227.out, BK246.out, BK253.out, HB.out, fun h_ => absurd h_ (by decide), fun h_ => absurd h_ (by decide), fun h_ => absurd h_ (by decide), fun h_ => absurd h_ (by decide), fun h_ => absurd h_ (by decide), fun h_ => absurd h_ (by decide), fun h_ => absurd h_ (by decide), fun h_ => absurd h_ (by decide), fun h_ => absurd h_ (by decide), fun h_ => absurd h_ (by decide), fun h_ => absurd h_ (by decide), fun h_ => absurd h_ (by decide), fun h_ => absurd h_ (by decide), fun h_ => absurd h_ (by decide), fun h_ => absurd h_ (by decide), fun h_ => absurd h_ (by decide), fun h_ => absurd h_ (by decide), fun h_ => absurd h_ (by decide)⟩
             ·skip
              clear BK226 BK227 BK246 BK253 HB HO231 HO234 HO241 HO244 HO249 HO252
              refine steps_cons ?_ ?_
              ·rintro b a w' ⟨v259, v262, gb265, m3_, m4_, m5_, m7_, ha, Q_HO231, Q_HO234, Q_HO241, Q_HO244, Q_HO249, Q_HO252, Q_BK226, Q_BK227, Q_BK246, Q_BK253, Q_HB, Q_HO260, Q_HO263, Q_BK265, Q_GW265, Q_GE265, Q_NB226_265, Q_NB265_226, Q_NB227_265, Q_NB265_227, Q_NB246_265, Q_NB265_246, Q_NB253_265, Q_NB265_253, Q_BK265_e8, Q_X3_, Q_X4_, Q_X5_, Q_X7_⟩ hb_ hon hoff
               refine ⟨_, rfl, fun K hK => ?_⟩
               have e8 : a.tmps[8]? = some (.pointer (some ⟨gb253, 0, none⟩)) := by rw [ha]; exact (putSel_off rfl).trans rfl
               replace ha := aM ha
               have HO231 := aM Q_HO231
               have HO234 := aM Q_HO234
               have HO241 := aM Q_HO241
               have HO244 := aM Q_HO244
               have HO249 := aM Q_HO249
               have HO252 := aM Q_HO252
               have BK226 := aM Q_BK226
               have BK227 := aM Q_BK227
               have BK246 := aM Q_BK246
               have BK253 := aM Q_BK253
               have HB := aM Q_HB
               have hc0_ : w'.cell? ⟨gb253, 0, none⟩ = some (.slice Ao60 t247.length co60) := (blk_cell BK253.out 0).trans rfl
               have hc1_ : w'.cell? ⟨gb253, 1, none⟩ = some (.slice Ao65 t250.length co65) := (blk_cell BK253.out 1).trans rfl
               refine value_ (w1 := w') (v := .agg #[.slice Ao60 t247.length co60, .slice Ao65 t250.length co65]) (by rfl) rfl ?_ ?_
               ·go_simp
                (try simp only [i64_w])
                try rfl
               refine hK.out _ _ ⟨v259, v262, gb265, m3_, m4_, m5_, m7_, (by rw [ha.out]; exact putSel_upk 0 hb_ rfl rfl rfl), Q_HO231, Q_HO234, Q_HO241, Q_HO244, Q_HO249, Q_HO252, Q_BK226, Q_BK227, Q_BK246, Q_BK253, Q_HB, nB (hoff 3 (by kernel_rfl)), nB (hoff 3 (by kernel_rfl)), Q_BK265, Q_GW265, Q_GE265, Q_NB226_265, Q_NB265_226, Q_NB227_265, Q_NB265_227, Q_NB246_265, Q_NB265_246, Q_NB253_265, Q_NB265_253, nB (hoff 8 (by kernel_rfl)), nB (hoff 3 (by kernel_rfl)), nB (hoff 4 (by kernel_rfl)), nB (hoff 5 (by kernel_rfl)), Q_X7_⟩
              refine steps_cons ?_ ?_
              ·rintro b a w' ⟨v259, v262, gb265, m3_, m4_, m5_, m7_, ha, Q_HO231, Q_HO234, Q_HO241, Q_HO244, Q_HO249, Q_HO252, Q_BK226, Q_BK227, Q_BK246, Q_BK253, Q_HB, Q_HO260, Q_HO263, Q_BK265, Q_GW265, Q_GE265, Q_NB226_265, Q_NB265_226, Q_NB227_265, Q_NB265_227, Q_NB246_265, Q_NB265_246, Q_NB253_265, Q_NB265_253, Q_BK265_e8, Q_X3_, Q_X4_, Q_X5_, Q_X7_⟩ hb_ hon hoff
               refine ⟨_, rfl, fun K hK => ?_⟩
               have e3 : a.tmps[3]? = some (.pointer (some ⟨gb227, 0, none⟩)) := by rw [ha]; exact (putSel_off rfl).trans rfl
               replace ha := aM ha
               have HO231 := aM Q_HO231
               have HO234 := aM Q_HO234
               have HO241 := aM Q_HO241
               have HO244 := aM Q_HO244
               have HO249 := aM Q_HO249
               have HO252 := aM Q_HO252
               have BK226 := aM Q_BK226
               have BK227 := aM Q_BK227
               have BK246 := aM Q_BK246
               have BK253 := aM Q_BK253
               have HB := aM Q_HB
               have hc0_ : w'.cell? ⟨gb227, 0, none⟩ = some (.int .i64 a1_0) := (blk_cell BK227.out 0).trans rfl
               have hc1_ : w'.cell? ⟨gb227, 1, none⟩ = some (.int .i64 a1_1) := (blk_cell BK227.out 1).trans rfl
               have hc2_ : w'.cell? ⟨gb227, 2, none⟩ = some (.int .i64 a1_2) := (blk_cell BK227.out 2).trans rfl
               have hc3_ : w'.cell? ⟨gb227, 3, none⟩ = some (.int .i64 a1_3) := (blk_cell BK227.out 3).trans rfl
               refine value_ (w1 := w') (v := .agg #[.int .i64 a1_0, .int .i64 a1_1, .int .i64 a1_2, .int .i64 a1_3]) (by rfl) rfl ?_ ?_
               ·go_simp
                (try simp only [i64_w])
                try rfl
               refine hK.out _ _ ⟨v259, v262, gb265, m3_, m4_, m5_, m7_, (by rw [ha.out]; exact putSel_upk 1 hb_ rfl rfl rfl), Q_HO231, Q_HO234, Q_HO241, Q_HO244, Q_HO249, Q_HO252, Q_BK226, Q_BK227, Q_BK246, Q_BK253, Q_HB, nB (hoff 3 (by kernel_rfl)), nB (hoff 3 (by kernel_rfl)), Q_BK265, Q_GW265, Q_GE265, Q_NB226_265, Q_NB265_226, Q_NB227_265, Q_NB265_227, Q_NB246_265, Q_NB265_246, Q_NB253_265, Q_NB265_253, nB (hoff 8 (by kernel_rfl)), nB (hoff 3 (by kernel_rfl)), nB (hoff 4 (by kernel_rfl)), nB (hoff 5 (by kernel_rfl)), Q_X7_⟩
              refine steps_cons ?_ ?_
              ·rintro b a w' ⟨v259, v262, gb265, m3_, m4_, m5_, m7_, ha, Q_HO231, Q_HO234, Q_HO241, Q_HO244, Q_HO249, Q_HO252, Q_BK226, Q_BK227, Q_BK246, Q_BK253, Q_HB, Q_HO260, Q_HO263, Q_BK265, Q_GW265, Q_GE265, Q_NB226_265, Q_NB265_226, Q_NB227_265, Q_NB265_227, Q_NB246_265, Q_NB265_246, Q_NB253_265, Q_NB265_253, Q_BK265_e8, Q_X3_, Q_X4_, Q_X5_, Q_X7_⟩ hb_ hon hoff
               refine ⟨_, rfl, fun K hK => ?_⟩
               have e33 : a.tmps[33]? = some (.agg #[.int .i64 a1_0, .int .i64 a1_1, .int .i64 a1_2, .int .i64 a1_3]) := by rw [ha]; exact putSel_on (e := (1, 33, .agg #[.int .i64 a1_0, .int .i64 a1_1, .int .i64 a1_2, .int .i64 a1_3])) 1 rfl rfl (hon 1 (by kernel_rfl)) rfl
               replace ha := aM ha
               have HO231 := aM Q_HO231
               have HO234 := aM Q_HO234
               have HO241 := aM Q_HO241
               have HO244 := aM Q_HO244
               have HO249 := aM Q_HO249
               have HO252 := aM Q_HO252
               have BK226 := aM Q_BK226
               have BK227 := aM Q_BK227
               have BK246 := aM Q_BK246
               have BK253 := aM Q_BK253
               have HB := aM Q_HB
               refine goes_ Try.func9 (by kernel_rfl) rfl #[.agg #[.int .i64 a1_0, .int .i64 a1_1, .int .i64 a1_2, .int .i64 a1_3]] (by rfl) rfl rfl (by first | (simp only [List.map_toArray, List.map_cons, List.map_nil, Act.eval, Array.getD_eq_getD_getElem?, Option.getD_some, e33]; done) | (simp only [List.map_toArray, List.map_cons, List.map_nil, Act.eval, Array.getD_eq_getD_getElem?, Option.getD_some, e33]; rfl)) ?_
               with_reducible refine (laws_toBlock.calls a1_0 a1_1 a1_2 a1_3 t254 t255 t256 t257 _ A14.out).mono ?_
               rintro e w68 ⟨rfl, hb⟩
               refine ⟨_, rfl, ?_⟩
               have n0_ := aM (Kd.R_below (rU HO231.out) hb)
               have n1_ := aM (Kd.R_below (rU HO234.out) hb)
               have n2_ := aM (Kd.R_below (rU HO241.out) hb)
               have n3_ := aM (Kd.R_below (rU HO244.out) hb)
               have n4_ := aM (Kd.R_below (rU HO249.out) hb)
               have n5_ := aM (Kd.R_below (rU HO252.out) hb)
               have n6_ := aM (blk_below (g := gb226) (o := .cells #[.slice A0_0 l0_0.length c0_0, .slice A0_1 l0_1.length c0_1] 25 (0, 0)) (bU BK226.out) hb)
               have n7_ := aM (blk_below (g := gb227) (o := .cells #[.int .i64 a1_0, .int .i64 a1_1, .int .i64 a1_2, .int .i64 a1_3] 27 (0, 0)) (bU BK227.out) hb)
               have n8_ := aM (blk_below (g := gb246) (o := .cells #[v240, v243] 31 (0, 0)) (bU BK246.out) hb)
               have n9_ := aM (blk_below (g := gb253) (o := .cells #[.slice Ao60 t247.length co60, .slice Ao65 t250.length co65] 31 (0, 0)) (bU BK253.out) hb)
               have n10_ := aM (below_step (by repeat (first | (with_reducible first | exact HB.out | apply aL | apply dN | apply dR | refine sT ?_ GE226.out | refine sT ?_ GE227.out | refine sT ?_ GE246.out | refine sT ?_ GE253.out) | exact HB.out)) hb)
               have z_BK265 := fun (h0_ : b 7 = true) (h1_ : b 8 = false) => (show w68.heap[gb265]? = some (.cells #[.slice none 0 0, .slice none 0 0] 31 (0, 0)) from by first | exact (blk_below (g := gb265) (o := .cells #[.slice none 0 0, .slice none 0 0] 31 (0, 0)) (bU (Q_BK265 h0_ h1_)) hb))
               clear HO231
               clear HO234
               clear HO241
               clear HO244
               clear HO249
               clear HO252
               clear BK226
               clear BK227
               clear BK246
               clear BK253
               clear HB
               have HO231 := n0_
               have HO234 := n1_
               have HO241 := n2_
               have HO244 := n3_
               have HO249 := n4_
               have HO252 := n5_
               have BK226 := n6_
               have BK227 := n7_
               have BK246 := n8_
               have BK253 := n9_
               have HB := n10_
               clear n0_ n1_ n2_ n3_ n4_ n5_ n6_ n7_ n8_ n9_ n10_
               (try clear hb)
               (try clear hb2)
               (try clear hk)
               (try clear hi)
               refine hK.out _ _ ⟨v259, v262, gb265, m3_, m4_, m5_, m7_, (by rw [ha.out]; exact putSel_upk 2 hb_ rfl rfl rfl), (rU HO231.out), (rU HO234.out), (rU HO241.out), (rU HO244.out), (rU HO249.out), (rU HO252.out), (bU BK226.out), (bU BK227.out), (bU BK246.out), (bU BK253.out), (by repeat (first | (with_reducible first | exact HB.out | apply aL | apply dN | apply dR | refine sT ?_ GE226.out | refine sT ?_ GE227.out | refine sT ?_ GE246.out | refine sT ?_ GE253.out) | exact HB.out)), nB (hoff 3 (by kernel_rfl)), nB (hoff 3 (by kernel_rfl)), z_BK265, Q_GW265, Q_GE265, Q_NB226_265, Q_NB265_226, Q_NB227_265, Q_NB265_227, Q_NB246_265, Q_NB265_246, Q_NB253_265, Q_NB265_253, nB (hoff 8 (by kernel_rfl)), nB (hoff 3 (by kernel_rfl)), nB (hoff 4 (by kernel_rfl)), nB (hoff 5 (by kernel_rfl)), Q_X7_⟩
              refine steps_cons ?_ ?_
              ·rintro b a w' ⟨v259, v262, gb265, m3_, m4_, m5_, m7_, ha, Q_HO231, Q_HO234, Q_HO241, Q_HO244, Q_HO249, Q_HO252, Q_BK226, Q_BK227, Q_BK246, Q_BK253, Q_HB, Q_HO260, Q_HO263, Q_BK265, Q_GW265, Q_GE265, Q_NB226_265, Q_NB265_226, Q_NB227_265, Q_NB265_227, Q_NB246_265, Q_NB265_246, Q_NB253_265, Q_NB265_253, Q_BK265_e8, Q_X3_, Q_X4_, Q_X5_, Q_X7_⟩ hb_ hon hoff
               refine ⟨_, rfl, fun K hK => ?_⟩
               have e32 : a.tmps[32]? = some (.agg #[.slice Ao60 t247.length co60, .slice Ao65 t250.length co65]) := by rw [ha]; exact putSel_on (e := (0, 32, .agg #[.slice Ao60 t247.length co60, .slice Ao65 t250.length co65])) 0 rfl rfl (hon 0 (by kernel_rfl)) rfl
               have e34 : a.tmps[34]? = some (.agg #[.int .i64 t254, .int .i64 t255, .int .i64 t256, .int .i64 t257]) := by rw [ha]; exact putSel_on (e := (2, 34, .agg #[.int .i64 t254, .int .i64 t255, .int .i64 t256, .int .i64 t257])) 2 rfl rfl (hon 2 (by kernel_rfl)) rfl
               replace ha := aM ha
               have HO231 := aM Q_HO231
               have HO234 := aM Q_HO234
               have HO241 := aM Q_HO241
               have HO244 := aM Q_HO244
               have HO249 := aM Q_HO249
               have HO252 := aM Q_HO252
               have BK226 := aM Q_BK226
               have BK227 := aM Q_BK227
               have BK246 := aM Q_BK246
               have BK253 := aM Q_BK253
               have HB := aM Q_HB
               refine goes_ Try.func10 (by kernel_rfl) rfl #[.agg #[.slice Ao60 t247.length co60, .slice Ao65 t250.length co65], .agg #[.int .i64 t254, .int .i64 t255, .int .i64 t256, .int .i64 t257]] (by rfl) rfl rfl (by first | (simp only [List.map_toArray, List.map_cons, List.map_nil, Act.eval, Array.getD_eq_getD_getElem?, Option.getD_some, e32, e34]; done) | (simp only [List.map_toArray, List.map_cons, List.map_nil, Act.eval, Array.getD_eq_getD_getElem?, Option.getD_some, e32, e34]; rfl)) ?_
               with_reducible refine (impl_AddBlock.calls _ _ t247 _ _ t250 t254 t255 t256 t257 t258 t261 t264 _ ?side1 ?side2 ?side3 ?side4 A15.out).mono ?_
               (case side1 => exact cU (Kd.R_reads' HO249.out).2.2)
               (case side2 => exact (Kd.R_reads' HO249.out).2.1)
               (case side3 => exact cU (Kd.R_reads' HO252.out).2.2)
               (case side4 => exact (Kd.R_reads' HO252.out).2.1)
               rintro e w70 ⟨v259, v262, rfl, ho0, ho1, hb⟩
               refine ⟨_, rfl, ?_⟩
               have n0_ := aM (Kd.R_elder' (rU HO231.out) (Kd.R_base ho0) hb)
               have n1_ := aM (Kd.R_elder' (rU HO234.out) (Kd.R_base ho1) hb)
               have n2_ := aM (Kd.R_elder' (rU HO241.out) (Kd.R_base ho0) hb)
               have n3_ := aM (Kd.R_elder' (rU HO244.out) (Kd.R_base ho1) hb)
               have n4_ := aM (Kd.R_elder' (rU HO249.out) (Kd.R_base ho0) hb)
               have n5_ := aM (Kd.R_elder' (rU HO252.out) (Kd.R_base ho1) hb)
               have n6_ := aM (Kd.R_lower (Kd.R_new' (Kd.R_new' (Kd.R_new' ho0 (Kd.R_lt (rU HO231.out))) (Kd.R_lt (rU HO241.out))) (Kd.R_lt (rU HO249.out))) (below_size (by repeat (first | (with_reducible first | exact HB.out | apply aL | apply dN | apply dR | refine sT ?_ GE226.out | refine sT ?_ GE227.out | refine sT ?_ GE246.out | refine sT ?_ GE253.out) | exact HB.out))))
               have n7_ := aM (Kd.R_lower (Kd.R_new' (Kd.R_new' (Kd.R_new' ho1 (Kd.R_lt (rU HO234.out))) (Kd.R_lt (rU HO244.out))) (Kd.R_lt (rU HO252.out))) (below_size (by repeat (first | (with_reducible first | exact HB.out | apply aL | apply dN | apply dR | refine sT ?_ GE226.out | refine sT ?_ GE227.out | refine sT ?_ GE246.out | refine sT ?_ GE253.out) | exact HB.out))))
               have n8_ := aM (blk_below (g := gb226) (o := .cells #[.slice A0_0 l0_0.length c0_0, .slice A0_1 l0_1.length c0_1] 25 (0, 0)) (bU BK226.out) hb)
               have n9_ := aM (blk_below (g := gb227) (o := .cells #[.int .i64 a1_0, .int .i64 a1_1, .int .i64 a1_2, .int .i64 a1_3] 27 (0, 0)) (bU BK227.out) hb)
               have n10_ := aM (blk_below (g := gb246) (o := .cells #[v240, v243] 31 (0, 0)) (bU BK246.out) hb)
               have n11_ := aM (blk_below (g := gb253) (o := .cells #[.slice Ao60 t247.length co60, .slice Ao65 t250.length co65] 31 (0, 0)) (bU BK253.out) hb)
               have n12_ := aM (below_step (by repeat (first | (with_reducible first | exact HB.out | apply aL | apply dN | apply dR | refine sT ?_ GE226.out | refine sT ?_ GE227.out | refine sT ?_ GE246.out | refine sT ?_ GE253.out) | exact HB.out)) hb)
               have z_BK265 := fun (h0_ : b 7 = true) (h1_ : b 8 = false) => (show w70.heap[gb265]? = some (.cells #[.slice none 0 0, .slice none 0 0] 31 (0, 0)) from by first | exact (blk_below (g := gb265) (o := .cells #[.slice none 0 0, .slice none 0 0] 31 (0, 0)) (bU (Q_BK265 h0_ h1_)) hb))
               clear HO231
               clear HO234
               clear HO241
               clear HO244
               clear HO249
               clear HO252
               clear BK226
               clear BK227
               clear BK246
               clear BK253
               clear HB
               have HO231 := n0_
               have HO234 := n1_
               have HO241 := n2_
               have HO244 := n3_
               have HO249 := n4_
               have HO252 := n5_
               have HO260 := n6_
               have HO263 := n7_
               have BK226 := n8_
               have BK227 := n9_
               have BK246 := n10_
               have BK253 := n11_
               have HB := n12_
               clear n0_ n1_ n2_ n3_ n4_ n5_ n6_ n7_ n8_ n9_ n10_ n11_ n12_
               (try clear hb)
               (try clear hb2)
               (try clear hk)
               (try clear hi)
               (try clear ho0)
               (try clear ho1)
               refine hK.out _ _ ⟨v259, v262, gb265, (.tuple #[.agg #[v259, v262], .bool t264]), m4_, m5_, m7_, (by rw [ha.out]; exact putSel_upk 3 hb_ rfl rfl rfl), (rU (Kd.R_mono HO231.out (by first | exact fun _ hk => ⟨hk.1.1, ⟨hk.1.2, hk.2⟩⟩ | grind))), (rU (Kd.R_mono HO234.out (by first | exact fun _ hk => ⟨hk.1.1, ⟨hk.1.2, hk.2⟩⟩ | grind))), (rU (Kd.R_mono HO241.out (by first | exact fun _ hk => ⟨hk.1.1, ⟨hk.1.2, hk.2⟩⟩ | grind))), (rU (Kd.R_mono HO244.out (by first | exact fun _ hk => ⟨hk.1.1, ⟨hk.1.2, hk.2⟩⟩ | grind))), (rU (Kd.R_mono HO249.out (by first | exact fun _ hk => ⟨hk.1.1, ⟨hk.1.2, hk.2⟩⟩ | grind))), (rU (Kd.R_mono HO252.out (by first | exact fun _ hk => ⟨hk.1.1, ⟨hk.1.2, hk.2⟩⟩ | grind))), (bU BK226.out), (bU BK227.out), (bU BK246.out), (bU BK253.out), (by repeat (first | (with_reducible first | exact HB.out | apply aL | apply dN | apply dR | refine sT ?_ GE226.out | refine sT ?_ GE227.out | refine sT ?_ GE246.out | refine sT ?_ GE253.out) | exact HB.out)), fun _ => (rU (Kd.R_mono HO260.out (by first | exact fun _ hk => ⟨hk.1.1.2, ⟨hk.1.2, hk.2⟩⟩ | grind))), fun _ => (rU (Kd.R_mono HO263.out (by first | exact fun _ hk => ⟨hk.1.1.2, ⟨hk.1.2, hk.2⟩⟩ | grind))), z_BK265, Q_GW265, Q_GE265, Q_NB226_265, Q_NB265_226, Q_NB227_265, Q_NB265_227, Q_NB246_265, Q_NB265_246, Q_NB253_265, Q_NB265_253, nB (hoff 8 (by kernel_rfl)), fun _ => rfl, nB (hoff 4 (by kernel_rfl)), nB (hoff 5 (by kernel_rfl)), Q_X7_⟩
              refine steps_cons ?_ ?_
              ·rintro b a w' ⟨v259, v262, gb265, m3_, m4_, m5_, m7_, ha, Q_HO231, Q_HO234, Q_HO241, Q_HO244, Q_HO249, Q_HO252, Q_BK226, Q_BK227, Q_BK246, Q_BK253, Q_HB, Q_HO260, Q_HO263, Q_BK265, Q_GW265, Q_GE265, Q_NB226_265, Q_NB265_226, Q_NB227_265, Q_NB265_227, Q_NB246_265, Q_NB265_246, Q_NB253_265, Q_NB265_253, Q_BK265_e8, Q_X3_, Q_X4_, Q_X5_, Q_X7_⟩ hb_ hon hoff
               refine ⟨_, rfl, fun K hK => ?_⟩
               have e35 : a.tmps[35]? = some (m3_) := by rw [ha]; exact putSel_on (e := (3, 35, m3_)) 3 rfl rfl (hon 3 (by kernel_rfl)) rfl
               rw [Q_X3_ (hon 3 (by kernel_rfl))] at e35
               replace ha := aM ha
               have HO231 := aM Q_HO231
               have HO234 := aM Q_HO234
               have HO241 := aM Q_HO241
               have HO244 := aM Q_HO244
               have HO249 := aM Q_HO249
               have HO252 := aM Q_HO252
               have BK226 := aM Q_BK226
               have BK227 := aM Q_BK227
               have BK246 := aM Q_BK246
               have BK253 := aM Q_BK253
               have HB := aM Q_HB
               have HO260 := aM (Q_HO260 (hon 3 (by kernel_rfl)))
               have HO263 := aM (Q_HO263 (hon 3 (by kernel_rfl)))
               refine value_ (w1 := w') (v := .tuple #[.agg #[v259, v262], .bool t264]) (by rfl) rfl ?_ ?_
               ·go_simp
                (try simp only [i64_w])
                try rfl
               refine hK.out _ _ ⟨v259, v262, gb265, m3_, (.tuple #[.agg #[v259, v262], .bool t264]), m5_, m7_, (by rw [ha.out]; exact putSel_upk 4 hb_ rfl rfl rfl), Q_HO231, Q_HO234, Q_HO241, Q_HO244, Q_HO249, Q_HO252, Q_BK226, Q_BK227, Q_BK246, Q_BK253, Q_HB, Q_HO260, Q_HO263, Q_BK265, Q_GW265, Q_GE265, Q_NB226_265, Q_NB265_226, Q_NB227_265, Q_NB265_227, Q_NB246_265, Q_NB265_246, Q_NB253_265, Q_NB265_253, nB (hoff 8 (by kernel_rfl)), Q_X3_, fun _ => rfl, nB (hoff 5 (by kernel_rfl)), Q_X7_⟩
              refine steps_cons ?_ ?_
              ·rintro b a w' ⟨v259, v262, gb265, m3_, m4_, m5_, m7_, ha, Q_HO231, Q_HO234, Q_HO241, Q_HO244, Q_HO249, Q_HO252, Q_BK226, Q_BK227, Q_BK246, Q_BK253, Q_HB, Q_HO260, Q_HO263, Q_BK265, Q_GW265, Q_GE265, Q_NB226_265, Q_NB265_226, Q_NB227_265, Q_NB265_227, Q_NB246_265, Q_NB265_246, Q_NB253_265, Q_NB265_253, Q_BK265_e8, Q_X3_, Q_X4_, Q_X5_, Q_X7_⟩ hb_ hon hoff
               refine ⟨_, rfl, fun K hK => ?_⟩
               have e31 : a.tmps[31]? = some (m4_) := by rw [ha]; exact putSel_on (e := (4, 31, m4_)) 4 rfl rfl (hon 4 (by kernel_rfl)) rfl
               rw [Q_X4_ (hon 4 (by kernel_rfl))] at e31
               replace ha := aM ha
               have HO231 := aM Q_HO231
               have HO234 := aM Q_HO234
               have HO241 := aM Q_HO241
               have HO244 := aM Q_HO244
               have HO249 := aM Q_HO249
               have HO252 := aM Q_HO252
               have BK226 := aM Q_BK226
               have BK227 := aM Q_BK227
               have BK246 := aM Q_BK246
               have BK253 := aM Q_BK253
               have HB := aM Q_HB
               have HO260 := aM (Q_HO260 (hon 3 (by kernel_rfl)))
               have HO263 := aM (Q_HO263 (hon 3 (by kernel_rfl)))
               refine value_ (w1 := w') (v := .agg #[v259, v262]) (by rfl) rfl ?_ ?_
               ·go_simp
                (try simp only [i64_w])
                try rfl
               refine hK.out _ _ ⟨v259, v262, gb265, m3_, m4_, (.agg #[v259, v262]), m7_, (by rw [ha.out]; exact putSel_upk 5 hb_ rfl rfl rfl), Q_HO231, Q_HO234, Q_HO241, Q_HO244, Q_HO249, Q_HO252, Q_BK226, Q_BK227, Q_BK246, Q_BK253, Q_HB, Q_HO260, Q_HO263, Q_BK265, Q_GW265, Q_GE265, Q_NB226_265, Q_NB265_226, Q_NB227_265, Q_NB265_227, Q_NB246_265, Q_NB265_246, Q_NB253_265, Q_NB265_253, nB (hoff 8 (by kernel_rfl)), Q_X3_, Q_X4_, fun _ => rfl, Q_X7_⟩
              refine steps_cons ?_ ?_
              ·rintro b a w' ⟨v259, v262, gb265, m3_, m4_, m5_, m7_, ha, Q_HO231, Q_HO234, Q_HO241, Q_HO244, Q_HO249, Q_HO252, Q_BK226, Q_BK227, Q_BK246, Q_BK253, Q_HB, Q_HO260, Q_HO263, Q_BK265, Q_GW265, Q_GE265, Q_NB226_265, Q_NB265_226, Q_NB227_265, Q_NB265_227, Q_NB246_265, Q_NB265_246, Q_NB253_265, Q_NB265_253, Q_BK265_e8, Q_X3_, Q_X4_, Q_X5_, Q_X7_⟩ hb_ hon hoff
               refine ⟨_, rfl, fun K hK => ?_⟩
               have e31 : a.tmps[31]? = some (m4_) := by rw [ha]; exact putSel_on (e := (4, 31, m4_)) 4 rfl rfl (hon 4 (by kernel_rfl)) rfl
               rw [Q_X4_ (hon 4 (by kernel_rfl))] at e31
               replace ha := aM ha
               have HO231 := aM Q_HO231
               have HO234 := aM Q_HO234
               have HO241 := aM Q_HO241
               have HO244 := aM Q_HO244
               have HO249 := aM Q_HO249
               have HO252 := aM Q_HO252
               have BK226 := aM Q_BK226
               have BK227 := aM Q_BK227
               have BK246 := aM Q_BK246
               have BK253 := aM Q_BK253
               have HB := aM Q_HB
               have HO260 := aM (Q_HO260 (hon 3 (by kernel_rfl)))
               have HO263 := aM (Q_HO263 (hon 3 (by kernel_rfl)))
               refine value_ (w1 := w') (v := .bool t264) (by rfl) rfl ?_ ?_
               ·go_simp
                (try simp only [i64_w])
                try rfl
               refine hK.out _ _ ⟨v259, v262, gb265, m3_, m4_, m5_, m7_, (by rw [ha.out]; exact putSel_upk 6 hb_ rfl rfl rfl), Q_HO231, Q_HO234, Q_HO241, Q_HO244, Q_HO249, Q_HO252, Q_BK226, Q_BK227, Q_BK246, Q_BK253, Q_HB, Q_HO260, Q_HO263, Q_BK265, Q_GW265, Q_GE265, Q_NB226_265, Q_NB265_226, Q_NB227_265, Q_NB265_227, Q_NB246_265, Q_NB265_246, Q_NB253_265, Q_NB265_253, Q_BK265_e8, Q_X3_, Q_X4_, Q_X5_, Q_X7_⟩
              refine steps_cons ?_ ?_
              ·rintro b a w' ⟨v259, v262, gb265, m3_, m4_, m5_, m7_, ha, Q_HO231, Q_HO234, Q_HO241, Q_HO244, Q_HO249, Q_HO252, Q_BK226, Q_BK227, Q_BK246, Q_BK253, Q_HB, Q_HO260, Q_HO263, Q_BK265, Q_GW265, Q_GE265, Q_NB226_265, Q_NB265_226, Q_NB227_265, Q_NB265_227, Q_NB246_265, Q_NB265_246, Q_NB253_265, Q_NB265_253, Q_BK265_e8, Q_X3_, Q_X4_, Q_X5_, Q_X7_⟩ hb_ hon hoff
               refine ⟨_, rfl, fun K hK => ?_⟩
               replace ha := aM ha
               have HO231 := aM Q_HO231
               have HO234 := aM Q_HO234
               have HO241 := aM Q_HO241
               have HO244 := aM Q_HO244
               have HO249 := aM Q_HO249
               have HO252 := aM Q_HO252
               have BK226 := aM Q_BK226
               have BK227 := aM Q_BK227
               have BK246 := aM Q_BK246
               have BK253 := aM Q_BK253
               have HB := aM Q_HB
               refine box_step ?hg (N := 9) ?hd (cs := #[.slice none 0 0, .slice none 0 0]) (t := 31) ?hr ?_; (case hd => rfl); (case hg => rfl); (case hr => first | (go_simp; done) | (go_simp; rfl))
               intro gb265 hg w68 hbox hb
               have n0_ := aM (Kd.R_below (rU HO231.out) hb)
               have n1_ := aM (Kd.R_below (rU HO234.out) hb)
               have n2_ := aM (Kd.R_below (rU HO241.out) hb)
               have n3_ := aM (Kd.R_below (rU HO244.out) hb)
               have n4_ := aM (Kd.R_below (rU HO249.out) hb)
               have n5_ := aM (Kd.R_below (rU HO252.out) hb)
               have n6_ := aM (blk_below (g := gb226) (o := .cells #[.slice A0_0 l0_0.length c0_0, .slice A0_1 l0_1.length c0_1] 25 (0, 0)) (bU BK226.out) hb)
               have n7_ := aM (blk_below (g := gb227) (o := .cells #[.int .i64 a1_0, .int .i64 a1_1, .int .i64 a1_2, .int .i64 a1_3] 27 (0, 0)) (bU BK227.out) hb)
               have n8_ := aM (blk_below (g := gb246) (o := .cells #[v240, v243] 31 (0, 0)) (bU BK246.out) hb)
               have n9_ := aM (blk_below (g := gb253) (o := .cells #[.slice Ao60 t247.length co60, .slice Ao65 t250.length co65] 31 (0, 0)) (bU BK253.out) hb)
               have n10_ := aM (below_step (by repeat (first | (with_reducible first | exact HB.out | apply aL | apply dN | apply dR | refine sT ?_ GE226.out | refine sT ?_ GE227.out | refine sT ?_ GE246.out | refine sT ?_ GE253.out) | exact HB.out)) hb)
               have n11_ := aM (hbox)
               have n12_ := aM ((by rw [hg]; exact (below_size (by repeat (first | (with_reducible first | exact HB.out | apply aL | apply dN | apply dR | refine sT ?_ GE226.out | refine sT ?_ GE227.out | refine sT ?_ GE246.out | refine sT ?_ GE253.out) | exact HB.out))) : w.heap.size ≤ gb265))
               have n13_ := aM ((by rw [hg]; exact (below_size (by repeat (first | (with_reducible first | exact HB.out | apply aL | apply dN | apply dR | refine sT ?_ GE226.out | refine sT ?_ GE227.out | refine sT ?_ GE246.out | refine sT ?_ GE253.out) | exact HB.out))) : w.heap.size ≤ gb265))
               have n14_ := aM ((by rw [hg]; exact Nat.ne_of_lt (blk_lt (g := gb226) (o := .cells #[.slice A0_0 l0_0.length c0_0, .slice A0_1 l0_1.length c0_1] 25 (0, 0)) (bU BK226.out)) : gb226 ≠ gb265))
               have n15_ := aM ((by rw [hg]; exact Nat.ne_of_gt (blk_lt (g := gb226) (o := .cells #[.slice A0_0 l0_0.length c0_0, .slice A0_1 l0_1.length c0_1] 25 (0, 0)) (bU BK226.out)) : gb265 ≠ gb226))
               have n16_ := aM ((by rw [hg]; exact Nat.ne_of_lt (blk_lt (g := gb227) (o := .cells #[.int .i64 a1_0, .int .i64 a1_1, .int .i64 a1_2, .int .i64 a1_3] 27 (0, 0)) (bU BK227.out)) : gb227 ≠ gb265))
               have n17_ := aM ((by rw [hg]; exact Nat.ne_of_gt (blk_lt (g := gb227) (o := .cells #[.int .i64 a1_0, .int .i64 a1_1, .int .i64 a1_2, .int .i64 a1_3] 27 (0, 0)) (bU BK227.out)) : gb265 ≠ gb227))
               have n18_ := aM ((by rw [hg]; exact Nat.ne_of_lt (blk_lt (g := gb246) (o := .cells #[v240, v243] 31 (0, 0)) (bU BK246.out)) : gb246 ≠ gb265))
               have n19_ := aM ((by rw [hg]; exact Nat.ne_of_gt (blk_lt (g := gb246) (o := .cells #[v240, v243] 31 (0, 0)) (bU BK246.out)) : gb265 ≠ gb246))
               have n20_ := aM ((by rw [hg]; exact Nat.ne_of_lt (blk_lt (g := gb253) (o := .cells #[.slice Ao60 t247.length co60, .slice Ao65 t250.length co65] 31 (0, 0)) (bU BK253.out)) : gb253 ≠ gb265))
               have n21_ := aM ((by rw [hg]; exact Nat.ne_of_gt (blk_lt (g := gb253) (o := .cells #[.slice Ao60 t247.length co60, .slice Ao65 t250.length co65] 31 (0, 0)) (bU BK253.out)) : gb265 ≠ gb253))
               have z_HO260 := fun (h0_ : b 3 = true) => (show Kd.R (Kd.int .i64) 3 w68 w.heap.size (fun k_ => some k_ ≠ (v230 : Value).ownBlock ∧ some k_ ≠ (v240 : Value).ownBlock ∧ some k_ ≠ (.slice Ao60 t247.length co60 : Value).ownBlock) v259 t258 from by first | exact (Kd.R_below (rU (Q_HO260 h0_)) hb) | exact Kd.R_mono (Kd.R_below (rU (Q_HO260 h0_)) hb) (fun _ h_ => by first | trivial | exact h_ | exact h_.1))
               have z_HO263 := fun (h0_ : b 3 = true) => (show Kd.R k35 35 w68 w.heap.size (fun k_ => some k_ ≠ (v233 : Value).ownBlock ∧ some k_ ≠ (v243 : Value).ownBlock ∧ some k_ ≠ (.slice Ao65 t250.length co65 : Value).ownBlock) v262 t261 from by first | exact (Kd.R_below (rU (Q_HO263 h0_)) hb) | exact Kd.R_mono (Kd.R_below (rU (Q_HO263 h0_)) hb) (fun _ h_ => by first | trivial | exact h_ | exact h_.1))
               clear HO231
               clear HO234
               clear HO241
               clear HO244
               clear HO249
               clear HO252
               clear BK226
               clear BK227
               clear BK246
               clear BK253
               clear HB
               have HO231 := n0_
               have HO234 := n1_
               have HO241 := n2_
               have HO244 := n3_
               have HO249 := n4_
               have HO252 := n5_
               have BK226 := n6_
               have BK227 := n7_
               have BK246 := n8_
               have BK253 := n9_
               have HB := n10_
               have BK265 := n11_
               have GW265 := n12_
               have GE265 := n13_
               have NB226_265 := n14_
               have NB265_226 := n15_
               have NB227_265 := n16_
               have NB265_227 := n17_
               have NB246_265 := n18_
               have NB265_246 := n19_
               have NB253_265 := n20_
               have NB265_253 := n21_
               clear n0_ n1_ n2_ n3_ n4_ n5_ n6_ n7_ n8_ n9_ n10_ n11_ n12_ n13_ n14_ n15_ n16_ n17_ n18_ n19_ n20_ n21_
               clear hb hbox hg
               refine hK.out _ _ ⟨v259, v262, gb265, m3_, m4_, m5_, (.pointer (some ⟨gb265, 0, none⟩)), (by rw [ha.out]; exact putSel_upk 7 hb_ rfl rfl rfl), (rU HO231.out), (rU HO234.out), (rU HO241.out), (rU HO244.out), (rU HO249.out), (rU HO252.out), (bU BK226.out), (bU BK227.out), (bU BK246.out), (bU BK253.out), (by repeat (first | (with_reducible first | exact HB.out | apply aL | apply dN | apply dR | refine sT ?_ GE226.out | refine sT ?_ GE227.out | refine sT ?_ GE246.out | refine sT ?_ GE253.out | refine sT ?_ GE265.out) | exact HB.out)), z_HO260, z_HO263, fun _ _ => (bU BK265.out), fun _ => GW265.out, fun _ => GE265.out, fun _ => NB226_265.out, fun _ => NB265_226.out, fun _ => NB227_265.out, fun _ => NB265_227.out, fun _ => NB246_265.out, fun _ => NB265_246.out, fun _ => NB253_265.out, fun _ => NB265_253.out, nB (hoff 8 (by kernel_rfl)), Q_X3_, Q_X4_, Q_X5_, fun _ => rfl⟩
              refine steps_cons ?_ ?_
              ·rintro b a w' ⟨v259, v262, gb265, m3_, m4_, m5_, m7_, ha, Q_HO231, Q_HO234, Q_HO241, Q_HO244, Q_HO249, Q_HO252, Q_BK226, Q_BK227, Q_BK246, Q_BK253, Q_HB, Q_HO260, Q_HO263, Q_BK265, Q_GW265, Q_GE265, Q_NB226_265, Q_NB265_226, Q_NB227_265, Q_NB265_227, Q_NB246_265, Q_NB265_246, Q_NB253_265, Q_NB265_253, Q_BK265_e8, Q_X3_, Q_X4_, Q_X5_, Q_X7_⟩ hb_ hon hoff
               refine ⟨_, rfl, fun K hK => ?_⟩
               have e9 : a.tmps[9]? = some (m7_) := by rw [ha]; exact putSel_on (e := (7, 9, m7_)) 7 rfl rfl (hon 7 (by kernel_rfl)) rfl
               rw [Q_X7_ (hon 7 (by kernel_rfl))] at e9
               have e36 : a.tmps[36]? = some (m5_) := by rw [ha]; exact putSel_on (e := (5, 36, m5_)) 5 rfl rfl (hon 5 (by kernel_rfl)) rfl
               rw [Q_X5_ (hon 5 (by kernel_rfl))] at e36
               replace ha := aM ha
               have HO231 := aM Q_HO231
               have HO234 := aM Q_HO234
               have HO241 := aM Q_HO241
               have HO244 := aM Q_HO244
               have HO249 := aM Q_HO249
               have HO252 := aM Q_HO252
               have BK226 := aM Q_BK226
               have BK227 := aM Q_BK227
               have BK246 := aM Q_BK246
               have BK253 := aM Q_BK253
               have HB := aM Q_HB
               have HO260 := aM (Q_HO260 (hon 3 (by kernel_rfl)))
               have HO263 := aM (Q_HO263 (hon 3 (by kernel_rfl)))
               have BK265 := aM (Q_BK265 (hon 7 (by kernel_rfl)) hb_)
               have GW265 := aM (Q_GW265 (hon 7 (by kernel_rfl)))
               have GE265 := aM (Q_GE265 (hon 7 (by kernel_rfl)))
               have NB226_265 := aM (Q_NB226_265 (hon 7 (by kernel_rfl)))
               have NB265_226 := aM (Q_NB265_226 (hon 7 (by kernel_rfl)))
               have NB227_265 := aM (Q_NB227_265 (hon 7 (by kernel_rfl)))
               have NB265_227 := aM (Q_NB265_227 (hon 7 (by kernel_rfl)))
               have NB246_265 := aM (Q_NB246_265 (hon 7 (by kernel_rfl)))
               have NB265_246 := aM (Q_NB265_246 (hon 7 (by kernel_rfl)))
               have NB253_265 := aM (Q_NB253_265 (hon 7 (by kernel_rfl)))
               have NB265_253 := aM (Q_NB265_253 (hon 7 (by kernel_rfl)))
               obtain ⟨Ao72, co72, eo72⟩ := Kd.R_slice HO260.out
               (first | subst eo72 | (injection eo72 with f1_ f2_ f3_; have f4_ := f1_.symm; have f5_ := f3_.symm; clear f1_ f2_ f3_; subst f4_; subst f5_))
               obtain ⟨Ao74, co74, eo74⟩ := Kd.R_slice HO263.out
               (first | subst eo74 | (injection eo74 with f1_ f2_ f3_; have f4_ := f1_.symm; have f5_ := f3_.symm; clear f1_ f2_ f3_; subst f4_; subst f5_))
               have hs73 : w'.cell? ⟨gb265, 0, none⟩ = some (.slice none 0 0) := (blk_cell BK265.out 0).trans rfl
               have hfs73 := blk_frozen BK265.out 0
               have hns73_0 := NB226_265.out
               have hns73_1 := NB227_265.out
               have hns73_2 := NB246_265.out
               have hns73_3 := NB253_265.out
               have hms73_0 := NB265_226.out
               have hms73_1 := NB265_227.out
               have hms73_2 := NB265_246.out
               have hms73_3 := NB265_253.out
               have hs75 : w'.cell? ⟨gb265, 1, none⟩ = some (.slice none 0 0) := (blk_cell BK265.out 1).trans rfl
               have hfs75 := blk_frozen BK265.out 1
               have hns75_0 := NB226_265.out
               have hns75_1 := NB227_265.out
               have hns75_2 := NB246_265.out
               have hns75_3 := NB253_265.out
               have hms75_0 := NB265_226.out
               have hms75_1 := NB265_227.out
               have hms75_2 := NB265_246.out
               have hms75_3 := NB265_253.out
               refine skip_ (w1 := ?_) (by rfl) rfl ?_ ?_
               rotate_left
               ·go_simp
                rfl
               refine hK.out _ _ ⟨.slice Ao72 t258.length co72, .slice Ao74 t261.length co74, gb265, m3_, m4_, m5_, m7_, (by rw [ha.out]; exact putSel_none (v := undef) rfl), (rU (Kd.R_mono (Kd.R_far (p := ⟨gb265, 1, none⟩) (Kd.R_far (p := ⟨gb265, 0, none⟩) (Kd.R_types HO231.out BK265.out (by decide)) (by first | exact fun _ hk => hk.2 | grind) (.slice Ao72 t258.length co72)) (by first | exact fun _ hk => hk.2 | grind) (.slice Ao74 t261.length co74)) (by first | exact fun _ hk => ⟨hk.1.1, ⟨hk.1.2.1, hk.1.2.2⟩⟩ | grind))), (rU (Kd.R_mono (Kd.R_far (p := ⟨gb265, 1, none⟩) (Kd.R_far (p := ⟨gb265, 0, none⟩) (Kd.R_types HO234.out BK265.out (by decide)) (by first | exact fun _ hk => hk.2 | grind) (.slice Ao72 t258.length co72)) (by first | exact fun _ hk => hk.2 | grind) (.slice Ao74 t261.length co74)) (by first | exact fun _ hk => ⟨hk.1.1, ⟨hk.1.2.1, hk.1.2.2⟩⟩ | grind))), (rU (Kd.R_mono (Kd.R_far (p := ⟨gb265, 1, none⟩) (Kd.R_far (p := ⟨gb265, 0, none⟩) (Kd.R_types HO241.out BK265.out (by decide)) (by first | exact fun _ hk => hk.2 | grind) (.slice Ao72 t258.length co72)) (by first | exact fun _ hk => hk.2 | grind) (.slice Ao74 t261.length co74)) (by first | exact fun _ hk => ⟨hk.1.1, ⟨hk.1.2.1, hk.1.2.2⟩⟩ | grind))), (rU (Kd.R_mono (Kd.R_far (p := ⟨gb265, 1, none⟩) (Kd.R_far (p := ⟨gb265, 0, none⟩) (Kd.R_types HO244.out BK265.out (by decide)) (by first | exact fun _ hk => hk.2 | grind) (.slice Ao72 t258.length co72)) (by first | exact fun _ hk => hk.2 | grind) (.slice Ao74 t261.length co74)) (by first | exact fun _ hk => ⟨hk.1.1, ⟨hk.1.2.1, hk.1.2.2⟩⟩ | grind))), (rU (Kd.R_mono (Kd.R_far (p := ⟨gb265, 1, none⟩) (Kd.R_far (p := ⟨gb265, 0, none⟩) (Kd.R_types HO249.out BK265.out (by decide)) (by first | exact fun _ hk => hk.2 | grind) (.slice Ao72 t258.length co72)) (by first | exact fun _ hk => hk.2 | grind) (.slice Ao74 t261.length co74)) (by first | exact fun _ hk => ⟨hk.1.1, ⟨hk.1.2.1, hk.1.2.2⟩⟩ | grind))), (rU (Kd.R_mono (Kd.R_far (p := ⟨gb265, 1, none⟩) (Kd.R_far (p := ⟨gb265, 0, none⟩) (Kd.R_types HO252.out BK265.out (by decide)) (by first | exact fun _ hk => hk.2 | grind) (.slice Ao72 t258.length co72)) (by first | exact fun _ hk => hk.2 | grind) (.slice Ao74 t261.length co74)) (by first | exact fun _ hk => ⟨hk.1.1, ⟨hk.1.2.1, hk.1.2.2⟩⟩ | grind))), (by (with_reducible repeat (first | refine blk_drewN ?_ _ | refine blk_drew ?_ | refine blk_alloc ?_ _)); refine blk_far ?_ NB226_265.out _; (with_reducible repeat (first | refine blk_drewN ?_ _ | refine blk_drew ?_ | refine blk_alloc ?_ _)); refine blk_far ?_ NB226_265.out _; (with_reducible repeat (first | refine blk_drewN ?_ _ | refine blk_drew ?_ | refine blk_alloc ?_ _)); exact BK226.out), (by (with_reducible repeat (first | refine blk_drewN ?_ _ | refine blk_drew ?_ | refine blk_alloc ?_ _)); refine blk_far ?_ NB227_265.out _; (with_reducible repeat (first | refine blk_drewN ?_ _ | refine blk_drew ?_ | refine blk_alloc ?_ _)); refine blk_far ?_ NB227_265.out _; (with_reducible repeat (first | refine blk_drewN ?_ _ | refine blk_drew ?_ | refine blk_alloc ?_ _)); exact BK227.out), (by (with_reducible repeat (first | refine blk_drewN ?_ _ | refine blk_drew ?_ | refine blk_alloc ?_ _)); refine blk_far ?_ NB246_265.out _; (with_reducible repeat (first | refine blk_drewN ?_ _ | refine blk_drew ?_ | refine blk_alloc ?_ _)); refine blk_far ?_ NB246_265.out _; (with_reducible repeat (first | refine blk_drewN ?_ _ | refine blk_drew ?_ | refine blk_alloc ?_ _)); exact BK246.out), (by (with_reducible repeat (first | refine blk_drewN ?_ _ | refine blk_drew ?_ | refine blk_alloc ?_ _)); refine blk_far ?_ NB253_265.out _; (with_reducible repeat (first | refine blk_drewN ?_ _ | refine blk_drew ?_ | refine blk_alloc ?_ _)); refine blk_far ?_ NB253_265.out _; (with_reducible repeat (first | refine blk_drewN ?_ _ | refine blk_drew ?_ | refine blk_alloc ?_ _)); exact BK253.out), (by repeat (first | (with_reducible first | exact HB.out | apply aL | apply dN | apply dR | refine sT ?_ GE226.out | refine sT ?_ GE227.out | refine sT ?_ GE246.out | refine sT ?_ GE253.out | refine sT ?_ GE265.out) | exact HB.out)), fun _ => (rU (Kd.R_mono (Kd.R_far (p := ⟨gb265, 1, none⟩) (Kd.R_far (p := ⟨gb265, 0, none⟩) (Kd.R_types HO260.out BK265.out (by decide)) (by first | exact fun _ hk => hk.2 | grind) (.slice Ao72 t258.length co72)) (by first | exact fun _ hk => hk.2 | grind) (.slice Ao74 t261.length co74)) (by first | exact fun _ hk => ⟨hk.1.1, ⟨hk.1.2.1, hk.1.2.2⟩⟩ | grind))), fun _ => (rU (Kd.R_mono (Kd.R_far (p := ⟨gb265, 1, none⟩) (Kd.R_far (p := ⟨gb265, 0, none⟩) (Kd.R_types HO263.out BK265.out (by decide)) (by first | exact fun _ hk => hk.2 | grind) (.slice Ao72 t258.length co72)) (by first | exact fun _ hk => hk.2 | grind) (.slice Ao74 t261.length co74)) (by first | exact fun _ hk => ⟨hk.1.1, ⟨hk.1.2.1, hk.1.2.2⟩⟩ | grind))), fun _ h1_ => absurd ((up_self b 8).symm.trans h1_) (by decide), fun _ => GW265.out, fun _ => GE265.out, fun _ => NB226_265.out, fun _ => NB265_226.out, fun _ => NB227_265.out, fun _ => NB265_227.out, fun _ => NB246_265.out, fun _ => NB265_246.out, fun _ => NB253_265.out, fun _ => NB265_253.out, fun _ => (by (with_reducible repeat (first | refine blk_drewN ?_ _ | refine blk_drew ?_ | refine blk_alloc ?_ _)); refine blk_put (cs := #[.slice Ao72 t258.length co72, .slice none 0 0]) ?_ 1 _ rfl; (with_reducible repeat (first | refine blk_drewN ?_ _ | refine blk_drew ?_ | refine blk_alloc ?_ _)); refine blk_put (cs := #[.slice none 0 0, .slice none 0 0]) ?_ 0 _ rfl; (with_reducible repeat (first | refine blk_drewN ?_ _ | refine blk_drew ?_ | refine blk_alloc ?_ _)); exact BK265.out), Q_X3_, Q_X4_, Q_X5_, Q_X7_⟩
              refine steps_cons ?_ ?_
              ·rintro b a w' ⟨v259, v262, gb265, m3_, m4_, m5_, m7_, ha, Q_HO231, Q_HO234, Q_HO241, Q_HO244, Q_HO249, Q_HO252, Q_BK226, Q_BK227, Q_BK246, Q_BK253, Q_HB, Q_HO260, Q_HO263, Q_BK265, Q_GW265, Q_GE265, Q_NB226_265, Q_NB265_226, Q_NB227_265, Q_NB265_227, Q_NB246_265, Q_NB265_246, Q_NB253_265, Q_NB265_253, Q_BK265_e8, Q_X3_, Q_X4_, Q_X5_, Q_X7_⟩ hb_ hon hoff
               refine ⟨_, rfl, fun K hK => ?_⟩
               have e37 : a.tmps[37]? = some (.bool t264) := by rw [ha]; exact putSel_on (e := (6, 37, .bool t264)) 6 rfl rfl (hon 6 (by kernel_rfl)) rfl
               replace ha := aM ha
               have HO231 := aM Q_HO231
               have HO234 := aM Q_HO234
               have HO241 := aM Q_HO241
               have HO244 := aM Q_HO244
               have HO249 := aM Q_HO249
               have HO252 := aM Q_HO252
               have BK226 := aM Q_BK226
               have BK227 := aM Q_BK227
               have BK246 := aM Q_BK246
               have BK253 := aM Q_BK253
               have HB := aM Q_HB
               have HO260 := aM (Q_HO260 (hon 3 (by kernel_rfl)))
               have HO263 := aM (Q_HO263 (hon 3 (by kernel_rfl)))
               have GW265 := aM (Q_GW265 (hon 7 (by kernel_rfl)))
               have GE265 := aM (Q_GE265 (hon 7 (by kernel_rfl)))
               have NB226_265 := aM (Q_NB226_265 (hon 7 (by kernel_rfl)))
               have NB265_226 := aM (Q_NB265_226 (hon 7 (by kernel_rfl)))
               have NB227_265 := aM (Q_NB227_265 (hon 7 (by kernel_rfl)))
               have NB265_227 := aM (Q_NB265_227 (hon 7 (by kernel_rfl)))
               have NB246_265 := aM (Q_NB246_265 (hon 7 (by kernel_rfl)))
               have NB265_246 := aM (Q_NB265_246 (hon 7 (by kernel_rfl)))
               have NB253_265 := aM (Q_NB253_265 (hon 7 (by kernel_rfl)))
               have NB265_253 := aM (Q_NB265_253 (hon 7 (by kernel_rfl)))
               have BK265 := aM (Q_BK265_e8 (hon 8 (by kernel_rfl)))
               refine value_ (w1 := w') (v := .bool t264) (by rfl) rfl ?_ ?_
               ·go_simp
                (try simp only [i64_w])
                try rfl
               refine hK.out _ _ ⟨v259, v262, gb265, m3_, m4_, m5_, m7_, (by rw [ha.out]; exact putSel_upk 8 hb_ rfl rfl rfl), Q_HO231, Q_HO234, Q_HO241, Q_HO244, Q_HO249, Q_HO252, Q_BK226, Q_BK227, Q_BK246, Q_BK253, Q_HB, Q_HO260, Q_HO263, fun _ h1_ => absurd ((hon 8 (by kernel_rfl)).symm.trans h1_) (by decide), Q_GW265, Q_GE265, Q_NB226_265, Q_NB265_226, Q_NB227_265, Q_NB265_227, Q_NB246_265, Q_NB265_246, Q_NB253_265, Q_NB265_253, Q_BK265_e8, Q_X3_, Q_X4_, Q_X5_, Q_X7_⟩
              exact steps_nil
             rintro b a w75 hall ⟨v259, v262, gb265, m3_, m4_, m5_, m7_, ha, Q_HO231, Q_HO234, Q_HO241, Q_HO244, Q_HO249, Q_HO252, Q_BK226, Q_BK227, Q_BK246, Q_BK253, Q_HB, Q_HO260, Q_HO263, Q_BK265, Q_GW265, Q_GE265, Q_NB226_265, Q_NB265_226, Q_NB227_265, Q_NB265_227, Q_NB246_265, Q_NB265_246, Q_NB253_265, Q_NB265_253, Q_BK265_e8, Q_X3_, Q_X4_, Q_X5_, Q_X7_⟩
             clear BK226 BK227 BK246 BK253 HB HO231 HO234 HO241 HO244 HO249 HO252
             have hb0_ := hall 0 (by kernel_rfl)
             have hb1_ := hall 1 (by kernel_rfl)
             have hb2_ := hall 2 (by kernel_rfl)
             have hb3_ := hall 3 (by kernel_rfl)
             have hb4_ := hall 4 (by kernel_rfl)
             have hb5_ := hall 5 (by kernel_rfl)
             have hb6_ := hall 6 (by kernel_rfl)
             have hb7_ := hall 7 (by kernel_rfl)
             have hb8_ := hall 8 (by kernel_rfl)
             have hb9_ := hall 9 (by kernel_rfl)
             subst ha
             obtain rfl := Q_X3_ hb3_
             obtain rfl := Q_X4_ hb4_
             obtain rfl := Q_X5_ hb5_
             obtain rfl := Q_X7_ hb7_
             simp only [putSel, hb0_, hb1_, hb2_, hb3_, hb4_, hb5_, hb6_, hb7_, hb8_, hb9_, if_true, Act.put, List.setIfInBounds_toArray, List.set_cons_zero, List.set_cons_succ]
             have HO231 := aM Q_HO231
             clear Q_HO231
             have HO234 := aM Q_HO234
             clear Q_HO234
             have HO241 := aM Q_HO241
             clear Q_HO241
             have HO244 := aM Q_HO244
             clear Q_HO244
             have HO249 := aM Q_HO249
             clear Q_HO249
             have HO252 := aM Q_HO252
             clear Q_HO252
             have BK226 := aM Q_BK226
             clear Q_BK226
             have BK227 := aM Q_BK227
             clear Q_BK227
             have BK246 := aM Q_BK246
             clear Q_BK246
             have BK253 := aM Q_BK253
             clear Q_BK253
             have HB := aM Q_HB
             clear Q_HB
             have HO260 := aM (Q_HO260 hb3_)
             clear Q_HO260
             have HO263 := aM (Q_HO263 hb3_)
             clear Q_HO263
             clear Q_BK265
             have GW265 := aM (Q_GW265 hb7_)
             clear Q_GW265
             have GE265 := aM (Q_GE265 hb7_)
             clear Q_GE265
             have NB226_265 := aM (Q_NB226_265 hb7_)
             clear Q_NB226_265
             have NB265_226 := aM (Q_NB265_226 hb7_)
             clear Q_NB265_226
             have NB227_265 := aM (Q_NB227_265 hb7_)
             clear Q_NB227_265
             have NB265_227 := aM (Q_NB265_227 hb7_)
             clear Q_NB265_227
             have NB246_265 := aM (Q_NB246_265 hb7_)
             clear Q_NB246_265
             have NB265_246 := aM (Q_NB265_246 hb7_)
             clear Q_NB265_246
             have NB253_265 := aM (Q_NB253_265 hb7_)
             clear Q_NB253_265
             have NB265_253 := aM (Q_NB265_253 hb7_)
             clear Q_NB265_253
             have BK265 := aM (Q_BK265_e8 hb8_)
             clear Q_BK265_e8
             clear hall hb0_ hb1_ hb2_ hb3_ hb4_ hb5_ hb6_ hb7_ hb8_ hb9_
             have hnb76 := NB265_226.out
             have hnc76 := NB226_265.out
             have hnb77 := NB265_227.out
             have hnc77 := NB227_265.out
             have hnb78 := NB265_246.out
             have hnc78 := NB246_265.out
             have hnb79 := NB265_253.out
             have hnc79 := NB253_265.out
             have hcz80_0 : w75.cell? ⟨gb265, 0, none⟩ = some (v259) := (blk_cell BK265.out 0).trans rfl
             have hcz80_1 : w75.cell? ⟨gb265, 1, none⟩ = some (v262) := (blk_cell BK265.out 1).trans rfl
             have hfz80_0 := blk_frozen BK265.out 0
             have hfz80_1 := blk_frozen BK265.out 1
             have hnb81 := NB246_227.out
             have hnc81 := NB227_246.out
             have hcz82_0 : w75.cell? ⟨gb246, 0, none⟩ = some (v240) := (blk_cell BK246.out 0).trans rfl
             have hcz82_1 : w75.cell? ⟨gb246, 1, none⟩ = some (v243) := (blk_cell BK246.out 1).trans rfl
             have hfz82_0 := blk_frozen BK246.out 0
             have hfz82_1 := blk_frozen BK246.out 1
             obtain ⟨Ao83, co83, eo83⟩ := Kd.R_slice HO260.out
             subst eo83
             obtain ⟨Ao84, co84, eo84⟩ := Kd.R_slice HO263.out
             subst eo84
             obtain ⟨Ao85, co85, eo85⟩ := Kd.R_slice HO241.out
             subst eo85
             obtain ⟨Ao86, co86, eo86⟩ := Kd.R_slice HO244.out
             subst eo86
             try go_wp2_with (first | ((with_reducible refine gate_callee (f := 11) rfl ?_); refine goesL_ (some 40) rfl rfl Try.func11 (by kernel_rfl) rfl #[.agg #[.slice Ao83 t258.length co83, .slice Ao84 t261.length co84], .agg #[.slice Ao85 t239.length co85, .slice Ao86 t242.length co86]] rfl (by (try simp only [List.map_toArray, List.map_cons, List.map_nil]); first | done | rfl | (simp only [List.length_drop, List.length_take]; rfl)) ?_; (with_reducible refine (laws_eqBolts.calls k _ _ t258 _ _ t261 _ _ t239 _ _ t242 true _ ?side1 ?side2 ?side3 ?side4 ?side5 ?side6 ?side7 ?side8 A16.out).mono ?_); (case side1 => exact cU (Kd.R_reads' HO260.out).2.2); (case side2 => exact (Kd.R_reads' HO260.out).2.1); (case side3 => exact cU (Kd.R_reads' HO263.out).2.2); (case side4 => exact (Kd.R_reads' HO263.out).2.1); (case side5 => exact cU (Kd.R_reads' HO241.out).2.2); (case side6 => exact (Kd.R_reads' HO241.out).2.1); (case side7 => exact cU (Kd.R_reads' HO244.out).2.2); (case side8 => exact (Kd.R_reads' HO244.out).2.1); rintro e w87 ⟨rfl, hb⟩; refine ⟨_, rfl, ?_⟩; have n0_ := aM (Kd.R_below (rU HO231.out) hb); have n1_ := aM (Kd.R_below (rU HO234.out) hb); have n2_ := aM (Kd.R_below (rU HO241.out) hb); have n3_ := aM (Kd.R_below (rU HO244.out) hb); have n4_ := aM (Kd.R_below (rU HO249.out) hb); have n5_ := aM (Kd.R_below (rU HO252.out) hb); have n6_ := aM (Kd.R_below (rU HO260.out) hb); have n7_ := aM (Kd.R_below (rU HO263.out) hb); have n8_ := aM (blk_below (g := gb226) (o := .cells #[.slice A0_0 l0_0.length c0_0, .slice A0_1 l0_1.length c0_1] 25 (0, 0)) (bU BK226.out) hb); have n9_ := aM (blk_below (g := gb227) (o := .cells #[.int .i64 a1_0, .int .i64 a1_1, .int .i64 a1_2, .int .i64 a1_3] 27 (0, 0)) (bU BK227.out) hb); have n10_ := aM (blk_below (g := gb246) (o := .cells #[.slice Ao85 t239.length co85, .slice Ao86 t242.length co86] 31 (0, 0)) (bU BK246.out) hb); have n11_ := aM (blk_below (g := gb253) (o := .cells #[.slice Ao60 t247.length co60, .slice Ao65 t250.length co65] 31 (0, 0)) (bU BK253.out) hb); have n12_ := aM (blk_below (g := gb265) (o := .cells #[.slice Ao83 t258.length co83, .slice Ao84 t261.length co84] 31 (0, 0)) (bU BK265.out) hb); have n13_ := aM (below_step (by repeat (first | (with_reducible first | exact HB.out | apply aL | apply dN | apply dR | refine sT ?_ GE226.out | refine sT ?_ GE227.out | refine sT ?_ GE246.out | refine sT ?_ GE253.out | refine sT ?_ GE265.out) | exact HB.out)) hb); clear HO231; clear HO234; clear HO241; clear HO244; clear HO249; clear HO252; clear HO260; clear HO263; clear BK226; clear BK227; clear BK246; clear BK253; clear BK265; clear HB; have HO231 := n0_; have HO234 := n1_; have HO241 := n2_; have HO244 := n3_; have HO249 := n4_; have HO252 := n5_; have HO260 := n6_; have HO263 := n7_; have BK226 := n8_; have BK227 := n9_; have BK246 := n10_; have BK253 := n11_; have BK265 := n12_; have HB := n13_; clear n0_ n1_ n2_ n3_ n4_ n5_ n6_ n7_ n8_ n9_ n10_ n11_ n12_ n13_; (try clear hb); (try clear hb2); (try clear hk); (try clear hi)))
             have n0_ := aM (Kd.R_drew HO231.out)
             have n1_ := aM (Kd.R_drew HO234.out)
             have n2_ := aM (Kd.R_drew HO241.out)
             have n3_ := aM (Kd.R_drew HO244.out)
             have n4_ := aM (Kd.R_drew HO249.out)
             have n5_ := aM (Kd.R_drew HO252.out)
             have n6_ := aM (Kd.R_drew HO260.out)
             have n7_ := aM (Kd.R_drew HO263.out)
             have n8_ := aM (blk_drew BK226.out)
             have n9_ := aM (blk_drew BK227.out)
             have n10_ := aM (blk_drew BK246.out)
             have n11_ := aM (blk_drew BK253.out)
             have n12_ := aM (blk_drew BK265.out)
             have n13_ := aM (below_drew1 HB.out)
             clear HO231
             clear HO234
             clear HO241
             clear HO244
             clear HO249
             clear HO252
             clear HO260
             clear HO263
             clear BK226
             clear BK227
             clear BK246
             clear BK253
             clear BK265
             clear HB
             have HO231 := n0_
             have HO234 := n1_
             have HO241 := n2_
             have HO244 := n3_
             have HO249 := n4_
             have HO252 := n5_
             have HO260 := n6_
             have HO263 := n7_
             have BK226 := n8_
             have BK227 := n9_
             have BK246 := n10_
             have BK253 := n11_
             have BK265 := n12_
             have HB := n13_
             clear n0_ n1_ n2_ n3_ n4_ n5_ n6_ n7_ n8_ n9_ n10_ n11_ n12_ n13_
             refine start_ (n := 5) (S := fun w' => w'.cell? ⟨gb253, 0, none⟩ = some (.slice Ao60 t247.length co60) ∧ w'.cell? ⟨gb253, 1, none⟩ = some (.slice Ao65 t250.length co65) ∧ w'.cell? ⟨gb226, 0, none⟩ = some (.slice A0_0 l0_0.length c0_0) ∧ w'.cell? ⟨gb226, 1, none⟩ = some (.slice A0_1 l0_1.length c0_1)) (ds := []) #[false, false, false, false, false] (by kernel_rfl) rfl rfl ⟨(blk_cell BK253.out 0).trans rfl, (blk_cell BK253.out 1).trans rfl, (blk_cell BK226.out 0).trans rfl, (blk_cell BK226.out 1).trans rfl⟩ (fun hHeld => ?_)
             generalize w87.drew = w88 at HO231 HO234 HO241 HO244 HO249 HO252 HO260 HO263 BK226 BK227 BK246 BK253 BK265 HB hHeld ⊢
             refine take_ (i := 0) (N := some 47) (v := ?_) (a' := ?_) #[true, false, false, false, false] rfl rfl (by kernel_rfl) (fun _ _ _ h => h) (Or.inl ⟨by rfl, ?_⟩) hHeld ?_ ?_
             rotate_left
             ·rintro w' ⟨s0, s1, s2, s3⟩
              go_simp
              with_reducible rfl
             rotate_left
             ·simp only [Act.put, List.setIfInBounds_toArray, List.set_cons_zero, List.set_cons_succ, i64_w, i32_w]
              rfl
             refine take_ (i := 1) (N := some 48) (v := ?_) (a' := ?_) #[true, true, false, false, false] rfl rfl (by kernel_rfl) (fun _ _ _ h => h) (Or.inl ⟨by rfl, ?_⟩) hHeld ?_ ?_
             rotate_left
             ·rintro w' ⟨s0, s1, s2, s3⟩
              go_simp
              with_reducible rfl
             rotate_left
             ·simp only [Act.put, List.setIfInBounds_toArray, List.set_cons_zero, List.set_cons_succ, i64_w, i32_w]
              rfl
             refine one_ (i := 2) (N := some 49) #[true, true, true, false, false] rfl rfl (by kernel_rfl) (by decide) (fun K hK => ?_)
             refine goes_ Try.func8 (by kernel_rfl) rfl #[.agg #[.slice A0_0 l0_0.length c0_0, .slice A0_1 l0_1.length c0_1]] (by rfl) rfl rfl (by (try simp only [List.map_toArray, List.map_cons, List.map_nil]); first | done | rfl | (simp only [List.length_drop, List.length_take]; rfl)) ?_
             with_reducible refine (laws_toBolts.calls k _ _ l0_0 _ _ l0_1 t267 t270 _ ?side1 ?side2 ?side3 ?side4 A19.out).mono ?_
             (case side1 => exact cU (Kd.C_below HR0_0.out HB.out))
             (case side2 => exact HC0_0.out)
             (case side3 => exact cU (Kd.C_below HR0_1.out HB.out))
             (case side4 => exact HC0_1.out)
             rintro e w89 ⟨v268, v271, rfl, ho0, ho1, hb⟩
             refine ⟨_, rfl, ?_⟩
             have n0_ := aM (Kd.R_elder' (rU HO231.out) (Kd.R_base ho0) hb)
             have n1_ := aM (Kd.R_elder' (rU HO234.out) (Kd.R_base ho1) hb)
             have n2_ := aM (Kd.R_elder' (rU HO241.out) (Kd.R_base ho0) hb)
             have n3_ := aM (Kd.R_elder' (rU HO244.out) (Kd.R_base ho1) hb)
             have n4_ := aM (Kd.R_elder' (rU HO249.out) (Kd.R_base ho0) hb)
             have n5_ := aM (Kd.R_elder' (rU HO252.out) (Kd.R_base ho1) hb)
             have n6_ := aM (Kd.R_elder' (rU HO260.out) (Kd.R_base ho0) hb)
             have n7_ := aM (Kd.R_elder' (rU HO263.out) (Kd.R_base ho1) hb)
             have n8_ := aM (Kd.R_lower (Kd.R_new' (Kd.R_new' (Kd.R_new' (Kd.R_new' ho0 (Kd.R_lt (rU HO231.out))) (Kd.R_lt (rU HO241.out))) (Kd.R_lt (rU HO249.out))) (Kd.R_lt (rU HO260.out))) (below_size (by repeat (first | (with_reducible first | exact HB.out | apply aL | apply dN | apply dR | refine sT ?_ GE226.out | refine sT ?_ GE227.out | refine sT ?_ GE246.out | refine sT ?_ GE253.out | refine sT ?_ GE265.out) | exact HB.out))))
             have n9_ := aM (Kd.R_lower (Kd.R_new' (Kd.R_new' (Kd.R_new' (Kd.R_new' ho1 (Kd.R_lt (rU HO234.out))) (Kd.R_lt (rU HO244.out))) (Kd.R_lt (rU HO252.out))) (Kd.R_lt (rU HO263.out))) (below_size (by repeat (first | (with_reducible first | exact HB.out | apply aL | apply dN | apply dR | refine sT ?_ GE226.out | refine sT ?_ GE227.out | refine sT ?_ GE246.out | refine sT ?_ GE253.out | refine sT ?_ GE265.out) | exact HB.out))))
             have n10_ := aM (blk_below (g := gb226) (o := .cells #[.slice A0_0 l0_0.length c0_0, .slice A0_1 l0_1.length c0_1] 25 (0, 0)) (bU BK226.out) hb)
             have n11_ := aM (blk_below (g := gb227) (o := .cells #[.int .i64 a1_0, .int .i64 a1_1, .int .i64 a1_2, .int .i64 a1_3] 27 (0, 0)) (bU BK227.out) hb)
             have n12_ := aM (blk_below (g := gb246) (o := .cells #[.slice Ao85 t239.length co85, .slice Ao86 t242.length co86] 31 (0, 0)) (bU BK246.out) hb)
             have n13_ := aM (blk_below (g := gb253) (o := .cells #[.slice Ao60 t247.length co60, .slice Ao65 t250.length co65] 31 (0, 0)) (bU BK253.out) hb)
             have n14_ := aM (blk_below (g := gb265) (o := .cells #[.slice Ao83 t258.length co83, .slice Ao84 t261.length co84] 31 (0, 0)) (bU BK265.out) hb)
             have n15_ := aM (below_step (by repeat (first | (with_reducible first | exact HB.out | apply aL | apply dN | apply dR | refine sT ?_ GE226.out | refine sT ?_ GE227.out | refine sT ?_ GE246.out | refine sT ?_ GE253.out | refine sT ?_ GE265.out) | exact HB.out)) hb)
             clear HO231
             clear HO234
             clear HO241
             clear HO244
             clear HO249
             clear HO252
             clear HO260
             clear HO263
             clear BK226
             clear BK227
             clear BK246
             clear BK253
             clear BK265
             clear HB
             have HO231 := n0_
             have HO234 := n1_
             have HO241 := n2_
             have HO244 := n3_
             have HO249 := n4_
             have HO252 := n5_
             have HO260 := n6_
             have HO263 := n7_
             have HO269 := n8_
             have HO272 := n9_
             have BK226 := n10_
             have BK227 := n11_
             have BK246 := n12_
             have BK253 := n13_
             have BK265 := n14_
             have HB := n15_
             clear n0_ n1_ n2_ n3_ n4_ n5_ n6_ n7_ n8_ n9_ n10_ n11_ n12_ n13_ n14_ n15_
             (try clear hb)
             (try clear hb2)
             (try clear hk)
             (try clear hi)
             (try clear ho0)
             (try clear ho1)
             obtain ⟨Ao90, co90, eo90⟩ := Kd.R_slice HO269.out
             (first | subst eo90 | (injection eo90 with f1_ f2_ f3_; have f4_ := f1_.symm; have f5_ := f3_.symm; clear f1_ f2_ f3_; subst f4_; subst f5_))
             obtain ⟨Ao91, co91, eo91⟩ := Kd.R_slice HO272.out
             (first | subst eo91 | (injection eo91 with f1_ f2_ f3_; have f4_ := f1_.symm; have f5_ := f3_.symm; clear f1_ f2_ f3_; subst f4_; subst f5_))
             refine hK.out _ _ ⟨(blk_cell BK253.out 0).trans rfl, (blk_cell BK253.out 1).trans rfl, (blk_cell BK226.out 0).trans rfl, (blk_cell BK226.out 1).trans rfl⟩ (fun hHeld => ?_)
             clear hK K
             refine norm_ (a' := ?_) ?_ ?_
             rotate_left
             ·show Act.put _ (some 49) _ = _
              simp only [Act.put, List.setIfInBounds_toArray, List.set_cons_zero, List.set_cons_succ, i64_w, i32_w]
              rfl
             refine one_ (i := 3) (N := some 50) #[true, true, true, true, false] rfl rfl (by kernel_rfl) (by decide) (fun K hK => ?_)
             refine goes_ Try.func11 (by kernel_rfl) rfl #[.agg #[.slice Ao60 t247.length co60, .slice Ao65 t250.length co65], .agg #[.slice Ao90 t267.length co90, .slice Ao91 t270.length co91]] (by rfl) rfl rfl (by (try simp only [List.map_toArray, List.map_cons, List.map_nil]); first | done | rfl | (simp only [List.length_drop, List.length_take]; rfl)) ?_
             with_reducible refine (laws_eqBolts.calls k _ _ t247 _ _ t250 _ _ t267 _ _ t270 true _ ?side1 ?side2 ?side3 ?side4 ?side5 ?side6 ?side7 ?side8 A20.out).mono ?_
             (case side1 => exact cU (Kd.R_reads' HO249.out).2.2)
             (case side2 => exact (Kd.R_reads' HO249.out).2.1)
             (case side3 => exact cU (Kd.R_reads' HO252.out).2.2)
             (case side4 => exact (Kd.R_reads' HO252.out).2.1)
             (case side5 => exact cU (Kd.R_reads' HO269.out).2.2)
             (case side6 => exact (Kd.R_reads' HO269.out).2.1)
             (case side7 => exact cU (Kd.R_reads' HO272.out).2.2)
             (case side8 => exact (Kd.R_reads' HO272.out).2.1)
             rintro e w92 ⟨rfl, hb⟩
             refine ⟨_, rfl, ?_⟩
             have n0_ := aM (Kd.R_below (rU HO231.out) hb)
             have n1_ := aM (Kd.R_below (rU HO234.out) hb)
             have n2_ := aM (Kd.R_below (rU HO241.out) hb)
             have n3_ := aM (Kd.R_below (rU HO244.out) hb)
             have n4_ := aM (Kd.R_below (rU HO249.out) hb)
             have n5_ := aM (Kd.R_below (rU HO252.out) hb)
             have n6_ := aM (Kd.R_below (rU HO260.out) hb)
             have n7_ := aM (Kd.R_below (rU HO263.out) hb)
             have n8_ := aM (Kd.R_below (rU HO269.out) hb)
             have n9_ := aM (Kd.R_below (rU HO272.out) hb)
             have n10_ := aM (blk_below (g := gb226) (o := .cells #[.slice A0_0 l0_0.length c0_0, .slice A0_1 l0_1.length c0_1] 25 (0, 0)) (bU BK226.out) hb)
             have n11_ := aM (blk_below (g := gb227) (o := .cells #[.int .i64 a1_0, .int .i64 a1_1, .int .i64 a1_2, .int .i64 a1_3] 27 (0, 0)) (bU BK227.out) hb)
             have n12_ := aM (blk_below (g := gb246) (o := .cells #[.slice Ao85 t239.length co85, .slice Ao86 t242.length co86] 31 (0, 0)) (bU BK246.out) hb)
             have n13_ := aM (blk_below (g := gb253) (o := .cells #[.slice Ao60 t247.length co60, .slice Ao65 t250.length co65] 31 (0, 0)) (bU BK253.out) hb)
             have n14_ := aM (blk_below (g := gb265) (o := .cells #[.slice Ao83 t258.length co83, .slice Ao84 t261.length co84] 31 (0, 0)) (bU BK265.out) hb)
             have n15_ := aM (below_step (by repeat (first | (with_reducible first | exact HB.out | apply aL | apply dN | apply dR | refine sT ?_ GE226.out | refine sT ?_ GE227.out | refine sT ?_ GE246.out | refine sT ?_ GE253.out | refine sT ?_ GE265.out) | exact HB.out)) hb)
             clear HO231
             clear HO234
             clear HO241
             clear HO244
             clear HO249
             clear HO252
             clear HO260
             clear HO263
             clear HO269
             clear HO272
             clear BK226
             clear BK227
             clear BK246
             clear BK253
             clear BK265
             clear HB
             have HO231 := n0_
             have HO234 := n1_
             have HO241 := n2_
             have HO244 := n3_
             have HO249 := n4_
             have HO252 := n5_
             have HO260 := n6_
             have HO263 := n7_
             have HO269 := n8_
             have HO272 := n9_
             have BK226 := n10_
             have BK227 := n11_
             have BK246 := n12_
             have BK253 := n13_
             have BK265 := n14_
             have HB := n15_
             clear n0_ n1_ n2_ n3_ n4_ n5_ n6_ n7_ n8_ n9_ n10_ n11_ n12_ n13_ n14_ n15_
             (try clear hb)
             (try clear hb2)
             (try clear hk)
             (try clear hi)
             refine hK.out _ _ ⟨(blk_cell BK253.out 0).trans rfl, (blk_cell BK253.out 1).trans rfl, (blk_cell BK226.out 0).trans rfl, (blk_cell BK226.out 1).trans rfl⟩ (fun hHeld => ?_)
             clear hK K
             refine norm_ (a' := ?_) ?_ ?_
             rotate_left
             ·show Act.put _ (some 50) _ = _
              simp only [Act.put, List.setIfInBounds_toArray, List.set_cons_zero, List.set_cons_succ, i64_w, i32_w]
              rfl
             refine pure_ (i := 4) (N := some 51) (v := ?_) (a' := ?_) #[true, true, true, true, true] rfl rfl (by kernel_rfl) (fun _ _ _ h => h) (Or.inl ⟨by rfl, ?_⟩) ?_ ?_
             rotate_left
             ·intro w'
              go_simp
              with_reducible rfl
             rotate_left
             ·simp only [Act.put, List.setIfInBounds_toArray, List.set_cons_zero, List.set_cons_succ, i64_w, i32_w]
              rfl
             refine done_ (by kernel_rfl) ?_
             have hcz93_0 : w92.cell? ⟨gb253, 0, none⟩ = some (.slice Ao60 t247.length co60) := (blk_cell BK253.out 0).trans rfl
             have hcz93_1 : w92.cell? ⟨gb253, 1, none⟩ = some (.slice Ao65 t250.length co65) := (blk_cell BK253.out 1).trans rfl
             have hfz93_0 := blk_frozen BK253.out 0
             have hfz93_1 := blk_frozen BK253.out 1
             try go_wp2_with (first | ((with_reducible refine gate_callee (f := 12) rfl ?_); refine goesL_ (some 54) rfl rfl Try.func12 (by kernel_rfl) rfl #[.agg #[.slice Ao60 t247.length co60, .slice Ao65 t250.length co65], .int .i64 1] rfl (by (try simp only [List.map_toArray, List.map_cons, List.map_nil]); first | done | rfl | (simp only [List.length_drop, List.length_take]; rfl)) ?_; (with_reducible refine (laws_markBolts.calls k (fun k_ => some k_ = (.slice Ao60 t247.length co60 : Value).ownBlock) (.slice Ao60 t247.length co60) t247 (fun k_ => some k_ = (.slice Ao65 t250.length co65 : Value).ownBlock) (.slice Ao65 t250.length co65) t250 1 t274 t275 t276 w _ ?side1 ?side2 ?side3 A22.out).mono ?_); (case side1 => repeat (first | (with_reducible first | exact HB.out | apply aL | apply dN | apply dR | refine sT ?_ GE226.out | refine sT ?_ GE227.out | refine sT ?_ GE246.out | refine sT ?_ GE253.out | refine sT ?_ GE265.out) | exact HB.out)); (case side2 => exact Kd.R_tight rfl HO249.out); (case side3 => exact Kd.R_tight rfl HO252.out); rintro e w94 ⟨rfl, hy0, hy1, hb, hkp⟩; refine ⟨_, rfl, ?_⟩; have n0_ := aM (blk_kept (bU BK226.out) hkp (fun hs_ => Or.elim hs_ (fun e_ => (fun e_ => (Kd.R_ne HO249.out BK226.out (by decide)) e_) e_) (fun e_ => (fun e_ => (Kd.R_ne HO252.out BK226.out (by decide)) e_) e_))); have n1_ := aM (blk_kept (bU BK227.out) hkp (fun hs_ => Or.elim hs_ (fun e_ => (fun e_ => (Kd.R_ne HO249.out BK227.out (by decide)) e_) e_) (fun e_ => (fun e_ => (Kd.R_ne HO252.out BK227.out (by decide)) e_) e_))); have n2_ := aM (Kd.R_mono (ok' := fun k_ => some k_ ≠ (.slice Ao85 t239.length co85 : Value).ownBlock ∧ some k_ ≠ (.slice Ao60 t247.length co60 : Value).ownBlock ∧ some k_ ≠ (.slice Ao83 t258.length co83 : Value).ownBlock ∧ some k_ ≠ (.slice Ao90 t267.length co90 : Value).ownBlock) (Kd.R_keptB ((Kd.R_apart' HO231.out (Kd.R_typed HO252.out) (by decide))) hkp (fun k_ hk_ hs_ => Or.elim hs_ (fun e_ => (hk_.1.1.2.1) e_) (fun e_ => (hk_.2) e_))) (by first | exact fun k_ hk_ => ⟨hk_.1.1.1.1, hk_.1.1.1.2.1, hk_.1.1.1.2.2, hk_.1.1.2⟩ | grind)); have n3_ := aM (Kd.R_mono (ok' := fun k_ => some k_ ≠ (.slice Ao86 t242.length co86 : Value).ownBlock ∧ some k_ ≠ (.slice Ao65 t250.length co65 : Value).ownBlock ∧ some k_ ≠ (.slice Ao84 t261.length co84 : Value).ownBlock ∧ some k_ ≠ (.slice Ao91 t270.length co91 : Value).ownBlock) (Kd.R_keptB ((Kd.R_apart' HO234.out (Kd.R_typed HO249.out) (by decide))) hkp (fun k_ hk_ hs_ => Or.elim hs_ (fun e_ => (hk_.2) e_) (fun e_ => (hk_.1.1.2.1) e_))) (by first | exact fun k_ hk_ => ⟨hk_.1.1.1.1, hk_.1.1.1.2.1, hk_.1.1.1.2.2, hk_.1.1.2⟩ | grind)); have n4_ := aM (Kd.R_mono (ok' := fun k_ => some k_ ≠ (v230 : Value).ownBlock ∧ some k_ ≠ (.slice Ao60 t247.length co60 : Value).ownBlock ∧ some k_ ≠ (.slice Ao83 t258.length co83 : Value).ownBlock ∧ some k_ ≠ (.slice Ao90 t267.length co90 : Value).ownBlock) (Kd.R_keptB ((Kd.R_apart' HO241.out (Kd.R_typed HO252.out) (by decide))) hkp (fun k_ hk_ hs_ => Or.elim hs_ (fun e_ => (hk_.1.1.2.1) e_) (fun e_ => (hk_.2) e_))) (by first | exact fun k_ hk_ => ⟨hk_.1.1.1.1, hk_.1.1.1.2.1, hk_.1.1.1.2.2, hk_.1.1.2⟩ | grind)); have n5_ := aM (Kd.R_mono (ok' := fun k_ => some k_ ≠ (v233 : Value).ownBlock ∧ some k_ ≠ (.slice Ao65 t250.length co65 : Value).ownBlock ∧ some k_ ≠ (.slice Ao84 t261.length co84 : Value).ownBlock ∧ some k_ ≠ (.slice Ao91 t270.length co91 : Value).ownBlock) (Kd.R_keptB ((Kd.R_apart' HO244.out (Kd.R_typed HO249.out) (by decide))) hkp (fun k_ hk_ hs_ => Or.elim hs_ (fun e_ => (hk_.2) e_) (fun e_ => (hk_.1.1.2.1) e_))) (by first | exact fun k_ hk_ => ⟨hk_.1.1.1.1, hk_.1.1.1.2.1, hk_.1.1.1.2.2, hk_.1.1.2⟩ | grind)); have n6_ := aM (blk_kept (bU BK246.out) hkp (fun hs_ => Or.elim hs_ (fun e_ => (fun e_ => (Kd.R_ne HO249.out BK246.out (by decide)) e_) e_) (fun e_ => (fun e_ => (Kd.R_ne HO252.out BK246.out (by decide)) e_) e_))); have n7_ := aM (Kd.R_reok rfl hy0 (fun k_ e_ => HO249.out.1 k_ e_)); have n8_ := aM (Kd.R_reok rfl hy1 (fun k_ e_ => HO252.out.1 k_ e_)); have n9_ := aM (blk_kept (bU BK253.out) hkp (fun hs_ => Or.elim hs_ (fun e_ => (fun e_ => (Kd.R_ne HO249.out BK253.out (by decide)) e_) e_) (fun e_ => (fun e_ => (Kd.R_ne HO252.out BK253.out (by decide)) e_) e_))); have n10_ := aM (Kd.R_mono (ok' := fun k_ => some k_ ≠ (v230 : Value).ownBlock ∧ some k_ ≠ (.slice Ao85 t239.length co85 : Value).ownBlock ∧ some k_ ≠ (.slice Ao60 t247.length co60 : Value).ownBlock ∧ some k_ ≠ (.slice Ao90 t267.length co90 : Value).ownBlock) (Kd.R_keptB ((Kd.R_apart' HO260.out (Kd.R_typed HO252.out) (by decide))) hkp (fun k_ hk_ hs_ => Or.elim hs_ (fun e_ => (hk_.1.1.2.2) e_) (fun e_ => (hk_.2) e_))) (by first | exact fun k_ hk_ => ⟨hk_.1.1.1.1, hk_.1.1.1.2.1, hk_.1.1.1.2.2, hk_.1.1.2⟩ | grind)); have n11_ := aM (Kd.R_mono (ok' := fun k_ => some k_ ≠ (v233 : Value).ownBlock ∧ some k_ ≠ (.slice Ao86 t242.length co86 : Value).ownBlock ∧ some k_ ≠ (.slice Ao65 t250.length co65 : Value).ownBlock ∧ some k_ ≠ (.slice Ao91 t270.length co91 : Value).ownBlock) (Kd.R_keptB ((Kd.R_apart' HO263.out (Kd.R_typed HO249.out) (by decide))) hkp (fun k_ hk_ hs_ => Or.elim hs_ (fun e_ => (hk_.2) e_) (fun e_ => (hk_.1.1.2.2) e_))) (by first | exact fun k_ hk_ => ⟨hk_.1.1.1.1, hk_.1.1.1.2.1, hk_.1.1.1.2.2, hk_.1.1.2⟩ | grind)); have n12_ := aM (blk_kept (bU BK265.out) hkp (fun hs_ => Or.elim hs_ (fun e_ => (fun e_ => (Kd.R_ne HO249.out BK265.out (by decide)) e_) e_) (fun e_ => (fun e_ => (Kd.R_ne HO252.out BK265.out (by decide)) e_) e_))); have n13_ := aM (Kd.R_mono (ok' := fun k_ => some k_ ≠ (v230 : Value).ownBlock ∧ some k_ ≠ (.slice Ao85 t239.length co85 : Value).ownBlock ∧ some k_ ≠ (.slice Ao60 t247.length co60 : Value).ownBlock ∧ some k_ ≠ (.slice Ao83 t258.length co83 : Value).ownBlock) (Kd.R_keptB ((Kd.R_apart' HO269.out (Kd.R_typed HO252.out) (by decide))) hkp (fun k_ hk_ hs_ => Or.elim hs_ (fun e_ => (hk_.1.1.2) e_) (fun e_ => (hk_.2) e_))) (by first | exact fun k_ hk_ => ⟨hk_.1.1.1.1.1.2, hk_.1.1.1.1.2, hk_.1.1.1.2, hk_.1.1.2⟩ | grind)); have n14_ := aM (Kd.R_mono (ok' := fun k_ => some k_ ≠ (v233 : Value).ownBlock ∧ some k_ ≠ (.slice Ao86 t242.length co86 : Value).ownBlock ∧ some k_ ≠ (.slice Ao65 t250.length co65 : Value).ownBlock ∧ some k_ ≠ (.slice Ao84 t261.length co84 : Value).ownBlock) (Kd.R_keptB ((Kd.R_apart' HO272.out (Kd.R_typed HO249.out) (by decide))) hkp (fun k_ hk_ hs_ => Or.elim hs_ (fun e_ => (hk_.2) e_) (fun e_ => (hk_.1.1.2) e_))) (by first | exact fun k_ hk_ => ⟨hk_.1.1.1.1.1.2, hk_.1.1.1.1.2, hk_.1.1.1.2, hk_.1.1.2⟩ | grind)); have n15_ := aM (hb); clear BK226; clear BK227; clear HO231; clear HO234; clear HO241; clear HO244; clear BK246; clear HO249; clear HO252; clear BK253; clear HO260; clear HO263; clear BK265; clear HO269; clear HO272; clear HB; have BK226 := n0_; have BK227 := n1_; have HO231 := n2_; have HO234 := n3_; have HO241 := n4_; have HO244 := n5_; have BK246 := n6_; have HO249 := n7_; have HO252 := n8_; have BK253 := n9_; have HO260 := n10_; have HO263 := n11_; have BK265 := n12_; have HO269 := n13_; have HO272 := n14_; have HB := n15_; clear n0_ n1_ n2_ n3_ n4_ n5_ n6_ n7_ n8_ n9_ n10_ n11_ n12_ n13_ n14_ n15_; (try clear hb); (try clear hkp); (try clear hy0); (try clear hy1); have hcz95_0 : w94.cell? ⟨gb265, 0, none⟩ = some (.slice Ao83 t258.length co83) := (blk_cell BK265.out 0).trans rfl; have hcz95_1 : w94.cell? ⟨gb265, 1, none⟩ = some (.slice Ao84 t261.length co84) := (blk_cell BK265.out 1).trans rfl; have hfz95_0 := blk_frozen BK265.out 0; have hfz95_1 := blk_frozen BK265.out 1; have hcz96_0 : w94.cell? ⟨gb246, 0, none⟩ = some (.slice Ao85 t239.length co85) := (blk_cell BK246.out 0).trans rfl; have hcz96_1 : w94.cell? ⟨gb246, 1, none⟩ = some (.slice Ao86 t242.length co86) := (blk_cell BK246.out 1).trans rfl; have hfz96_0 := blk_frozen BK246.out 0; have hfz96_1 := blk_frozen BK246.out 1) | (go_at_call 11; (with_reducible refine (laws_eqBolts.calls k _ _ t258 _ _ t261 _ _ t239 _ _ t242 true _ ?side1 ?side2 ?side3 ?side4 ?side5 ?side6 ?side7 ?side8 A24.out).mono ?_); (case side1 => exact cU (Kd.R_reads' HO260.out).2.2); (case side2 => exact (Kd.R_reads' HO260.out).2.1); (case side3 => exact cU (Kd.R_reads' HO263.out).2.2); (case side4 => exact (Kd.R_reads' HO263.out).2.1); (case side5 => exact cU (Kd.R_reads' HO241.out).2.2); (case side6 => exact (Kd.R_reads' HO241.out).2.1); (case side7 => exact cU (Kd.R_reads' HO244.out).2.2); (case side8 => exact (Kd.R_reads' HO244.out).2.1); rintro e w97 ⟨rfl, hb⟩; have n0_ := aM (Kd.R_below (rU HO231.out) hb); have n1_ := aM (Kd.R_below (rU HO234.out) hb); have n2_ := aM (Kd.R_below (rU HO241.out) hb); have n3_ := aM (Kd.R_below (rU HO244.out) hb); have n4_ := aM (Kd.R_below (rU HO249.out) hb); have n5_ := aM (Kd.R_below (rU HO252.out) hb); have n6_ := aM (Kd.R_below (rU HO260.out) hb); have n7_ := aM (Kd.R_below (rU HO263.out) hb); have n8_ := aM (Kd.R_below (rU HO269.out) hb); have n9_ := aM (Kd.R_below (rU HO272.out) hb); have n10_ := aM (blk_below (g := gb226) (o := .cells #[.slice A0_0 l0_0.length c0_0, .slice A0_1 l0_1.length c0_1] 25 (0, 0)) (bU BK226.out) hb); have n11_ := aM (blk_below (g := gb227) (o := .cells #[.int .i64 a1_0, .int .i64 a1_1, .int .i64 a1_2, .int .i64 a1_3] 27 (0, 0)) (bU BK227.out) hb); have n12_ := aM (blk_below (g := gb246) (o := .cells #[.slice Ao85 t239.length co85, .slice Ao86 t242.length co86] 31 (0, 0)) (bU BK246.out) hb); have n13_ := aM (blk_below (g := gb253) (o := .cells #[.slice Ao60 t247.length co60, .slice Ao65 t250.length co65] 31 (0, 0)) (bU BK253.out) hb); have n14_ := aM (blk_below (g := gb265) (o := .cells #[.slice Ao83 t258.length co83, .slice Ao84 t261.length co84] 31 (0, 0)) (bU BK265.out) hb); have n15_ := aM (below_step (by repeat (first | (with_reducible first | exact HB.out | apply aL | apply dN | apply dR | refine sT ?_ GE226.out | refine sT ?_ GE227.out | refine sT ?_ GE246.out | refine sT ?_ GE253.out | refine sT ?_ GE265.out) | exact HB.out)) hb); clear HO231; clear HO234; clear HO241; clear HO244; clear HO249; clear HO252; clear HO260; clear HO263; clear HO269; clear HO272; clear BK226; clear BK227; clear BK246; clear BK253; clear BK265; clear HB; have HO231 := n0_; have HO234 := n1_; have HO241 := n2_; have HO244 := n3_; have HO249 := n4_; have HO252 := n5_; have HO260 := n6_; have HO263 := n7_; have HO269 := n8_; have HO272 := n9_; have BK226 := n10_; have BK227 := n11_; have BK246 := n12_; have BK253 := n13_; have BK265 := n14_; have HB := n15_; clear n0_ n1_ n2_ n3_ n4_ n5_ n6_ n7_ n8_ n9_ n10_ n11_ n12_ n13_ n14_ n15_; (try clear hb); (try clear hb2); (try clear hk); (try clear hi); have hcz98_0 : w97.cell? ⟨gb265, 0, none⟩ = some (.slice Ao83 t258.length co83) := (blk_cell BK265.out 0).trans rfl; have hcz98_1 : w97.cell? ⟨gb265, 1, none⟩ = some (.slice Ao84 t261.length co84) := (blk_cell BK265.out 1).trans rfl; have hfz98_0 := blk_frozen BK265.out 0; have hfz98_1 := blk_frozen BK265.out 1) | ((with_reducible refine gate_callee (f := 12) rfl ?_); refine goesL_ (some 70) rfl rfl Try.func12 (by kernel_rfl) rfl #[.agg #[.slice Ao83 t258.length co83, .slice Ao84 t261.length co84], .int .i64 1] rfl (by (try simp only [List.map_toArray, List.map_cons, List.map_nil]); first | done | rfl | (simp only [List.length_drop, List.length_take]; rfl)) ?_; (with_reducible refine (laws_markBolts.calls k (fun k_ => some k_ = (.slice Ao83 t258.length co83 : Value).ownBlock) (.slice Ao83 t258.length co83) t258 (fun k_ => some k_ = (.slice Ao84 t261.length co84 : Value).ownBlock) (.slice Ao84 t261.length co84) t261 1 t278 t279 t280 w _ ?side1 ?side2 ?side3 A26.out).mono ?_); (case side1 => repeat (first | (with_reducible first | exact HB.out | apply aL | apply dN | apply dR | refine sT ?_ GE226.out | refine sT ?_ GE227.out | refine sT ?_ GE246.out | refine sT ?_ GE253.out | refine sT ?_ GE265.out) | exact HB.out)); (case side2 => exact Kd.R_tight rfl HO260.out); (case side3 => exact Kd.R_tight rfl HO263.out); rintro e w99 ⟨rfl, hy0, hy1, hb, hkp⟩; refine ⟨_, rfl, ?_⟩; have n0_ := aM (blk_kept (bU BK226.out) hkp (fun hs_ => Or.elim hs_ (fun e_ => (fun e_ => (Kd.R_ne HO260.out BK226.out (by decide)) e_) e_) (fun e_ => (fun e_ => (Kd.R_ne HO263.out BK226.out (by decide)) e_) e_))); have n1_ := aM (blk_kept (bU BK227.out) hkp (fun hs_ => Or.elim hs_ (fun e_ => (fun e_ => (Kd.R_ne HO260.out BK227.out (by decide)) e_) e_) (fun e_ => (fun e_ => (Kd.R_ne HO263.out BK227.out (by decide)) e_) e_))); have n2_ := aM (Kd.R_mono (ok' := fun k_ => some k_ ≠ (.slice Ao85 t239.length co85 : Value).ownBlock ∧ some k_ ≠ (.slice Ao60 t247.length co60 : Value).ownBlock ∧ some k_ ≠ (.slice Ao83 t258.length co83 : Value).ownBlock ∧ some k_ ≠ (.slice Ao90 t267.length co90 : Value).ownBlock) (Kd.R_keptB ((Kd.R_apart' HO231.out (Kd.R_typed HO263.out) (by decide))) hkp (fun k_ hk_ hs_ => Or.elim hs_ (fun e_ => (hk_.1.2.2.1) e_) (fun e_ => (hk_.2) e_))) (by first | exact fun k_ hk_ => ⟨hk_.1.1.1, hk_.1.1.2.1, hk_.1.1.2.2.1, hk_.1.1.2.2.2⟩ | grind)); have n3_ := aM (Kd.R_mono (ok' := fun k_ => some k_ ≠ (.slice Ao86 t242.length co86 : Value).ownBlock ∧ some k_ ≠ (.slice Ao65 t250.length co65 : Value).ownBlock ∧ some k_ ≠ (.slice Ao84 t261.length co84 : Value).ownBlock ∧ some k_ ≠ (.slice Ao91 t270.length co91 : Value).ownBlock) (Kd.R_keptB ((Kd.R_apart' HO234.out (Kd.R_typed HO260.out) (by decide))) hkp (fun k_ hk_ hs_ => Or.elim hs_ (fun e_ => (hk_.2) e_) (fun e_ => (hk_.1.2.2.1) e_))) (by first | exact fun k_ hk_ => ⟨hk_.1.1.1, hk_.1.1.2.1, hk_.1.1.2.2.1, hk_.1.1.2.2.2⟩ | grind)); have n4_ := aM (Kd.R_mono (ok' := fun k_ => some k_ ≠ (v230 : Value).ownBlock ∧ some k_ ≠ (.slice Ao60 t247.length co60 : Value).ownBlock ∧ some k_ ≠ (.slice Ao83 t258.length co83 : Value).ownBlock ∧ some k_ ≠ (.slice Ao90 t267.length co90 : Value).ownBlock) (Kd.R_keptB ((Kd.R_apart' HO241.out (Kd.R_typed HO263.out) (by decide))) hkp (fun k_ hk_ hs_ => Or.elim hs_ (fun e_ => (hk_.1.2.2.1) e_) (fun e_ => (hk_.2) e_))) (by first | exact fun k_ hk_ => ⟨hk_.1.1.1, hk_.1.1.2.1, hk_.1.1.2.2.1, hk_.1.1.2.2.2⟩ | grind)); have n5_ := aM (Kd.R_mono (ok' := fun k_ => some k_ ≠ (v233 : Value).ownBlock ∧ some k_ ≠ (.slice Ao65 t250.length co65 : Value).ownBlock ∧ some k_ ≠ (.slice Ao84 t261.length co84 : Value).ownBlock ∧ some k_ ≠ (.slice Ao91 t270.length co91 : Value).ownBlock) (Kd.R_keptB ((Kd.R_apart' HO244.out (Kd.R_typed HO260.out) (by decide))) hkp (fun k_ hk_ hs_ => Or.elim hs_ (fun e_ => (hk_.2) e_) (fun e_ => (hk_.1.2.2.1) e_))) (by first | exact fun k_ hk_ => ⟨hk_.1.1.1, hk_.1.1.2.1, hk_.1.1.2.2.1, hk_.1.1.2.2.2⟩ | grind)); have n6_ := aM (blk_kept (bU BK246.out) hkp (fun hs_ => Or.elim hs_ (fun e_ => (fun e_ => (Kd.R_ne HO260.out BK246.out (by decide)) e_) e_) (fun e_ => (fun e_ => (Kd.R_ne HO263.out BK246.out (by decide)) e_) e_))); have n7_ := aM (Kd.R_mono (ok' := fun k_ => some k_ ≠ (v230 : Value).ownBlock ∧ some k_ ≠ (.slice Ao85 t239.length co85 : Value).ownBlock ∧ some k_ ≠ (.slice Ao83 t258.length co83 : Value).ownBlock ∧ some k_ ≠ (.slice Ao90 t267.length co90 : Value).ownBlock) (Kd.R_keptB ((Kd.R_apart' HO249.out (Kd.R_typed HO263.out) (by decide))) hkp (fun k_ hk_ hs_ => Or.elim hs_ (fun e_ => (hk_.1.1.2.2) e_) (fun e_ => (hk_.2) e_))) (by first | exact fun k_ hk_ => ⟨hk_.1.1.1.1, hk_.1.1.1.2.1, hk_.1.1.1.2.2, hk_.1.1.2⟩ | grind)); have n8_ := aM (Kd.R_mono (ok' := fun k_ => some k_ ≠ (v233 : Value).ownBlock ∧ some k_ ≠ (.slice Ao86 t242.length co86 : Value).ownBlock ∧ some k_ ≠ (.slice Ao84 t261.length co84 : Value).ownBlock ∧ some k_ ≠ (.slice Ao91 t270.length co91 : Value).ownBlock) (Kd.R_keptB ((Kd.R_apart' HO252.out (Kd.R_typed HO260.out) (by decide))) hkp (fun k_ hk_ hs_ => Or.elim hs_ (fun e_ => (hk_.2) e_) (fun e_ => (hk_.1.1.2.2) e_))) (by first | exact fun k_ hk_ => ⟨hk_.1.1.1.1, hk_.1.1.1.2.1, hk_.1.1.1.2.2, hk_.1.1.2⟩ | grind)); have n9_ := aM (blk_kept (bU BK253.out) hkp (fun hs_ => Or.elim hs_ (fun e_ => (fun e_ => (Kd.R_ne HO260.out BK253.out (by decide)) e_) e_) (fun e_ => (fun e_ => (Kd.R_ne HO263.out BK253.out (by decide)) e_) e_))); have n10_ := aM (Kd.R_reok rfl hy0 (fun k_ e_ => HO260.out.1 k_ e_)); have n11_ := aM (Kd.R_reok rfl hy1 (fun k_ e_ => HO263.out.1 k_ e_)); have n12_ := aM (blk_kept (bU BK265.out) hkp (fun hs_ => Or.elim hs_ (fun e_ => (fun e_ => (Kd.R_ne HO260.out BK265.out (by decide)) e_) e_) (fun e_ => (fun e_ => (Kd.R_ne HO263.out BK265.out (by decide)) e_) e_))); have n13_ := aM (Kd.R_mono (ok' := fun k_ => some k_ ≠ (v230 : Value).ownBlock ∧ some k_ ≠ (.slice Ao85 t239.length co85 : Value).ownBlock ∧ some k_ ≠ (.slice Ao60 t247.length co60 : Value).ownBlock ∧ some k_ ≠ (.slice Ao83 t258.length co83 : Value).ownBlock) (Kd.R_keptB ((Kd.R_apart' HO269.out (Kd.R_typed HO263.out) (by decide))) hkp (fun k_ hk_ hs_ => Or.elim hs_ (fun e_ => (hk_.1.2.2.2) e_) (fun e_ => (hk_.2) e_))) (by first | exact fun k_ hk_ => ⟨hk_.1.1.1, hk_.1.1.2.1, hk_.1.1.2.2.1, hk_.1.1.2.2.2⟩ | grind)); have n14_ := aM (Kd.R_mono (ok' := fun k_ => some k_ ≠ (v233 : Value).ownBlock ∧ some k_ ≠ (.slice Ao86 t242.length co86 : Value).ownBlock ∧ some k_ ≠ (.slice Ao65 t250.length co65 : Value).ownBlock ∧ some k_ ≠ (.slice Ao84 t261.length co84 : Value).ownBlock) (Kd.R_keptB ((Kd.R_apart' HO272.out (Kd.R_typed HO260.out) (by decide))) hkp (fun k_ hk_ hs_ => Or.elim hs_ (fun e_ => (hk_.2) e_) (fun e_ => (hk_.1.2.2.2) e_))) (by first | exact fun k_ hk_ => ⟨hk_.1.1.1, hk_.1.1.2.1, hk_.1.1.2.2.1, hk_.1.1.2.2.2⟩ | grind)); have n15_ := aM (hb); clear BK226; clear BK227; clear HO231; clear HO234; clear HO241; clear HO244; clear BK246; clear HO249; clear HO252; clear BK253; clear HO260; clear HO263; clear BK265; clear HO269; clear HO272; clear HB; have BK226 := n0_; have BK227 := n1_; have HO231 := n2_; have HO234 := n3_; have HO241 := n4_; have HO244 := n5_; have BK246 := n6_; have HO249 := n7_; have HO252 := n8_; have BK253 := n9_; have HO260 := n10_; have HO263 := n11_; have BK265 := n12_; have HO269 := n13_; have HO272 := n14_; have HB := n15_; clear n0_ n1_ n2_ n3_ n4_ n5_ n6_ n7_ n8_ n9_ n10_ n11_ n12_ n13_ n14_ n15_; (try clear hb); (try clear hkp); (try clear hy0); (try clear hy1); have hcz100_0 : w99.cell? ⟨gb265, 0, none⟩ = some (.slice Ao83 t258.length co83) := (blk_cell BK265.out 0).trans rfl; have hcz100_1 : w99.cell? ⟨gb265, 1, none⟩ = some (.slice Ao84 t261.length co84) := (blk_cell BK265.out 1).trans rfl; have hfz100_0 := blk_frozen BK265.out 0; have hfz100_1 := blk_frozen BK265.out 1) | ((with_reducible refine gate_callee (f := 13) rfl ?_); refine goesL_ (some 73) rfl rfl Try.func13 (by kernel_rfl) rfl #[.agg #[.slice Ao83 t279.length co83, .slice Ao84 t280.length co84], .int .i64 1] rfl (by (try simp only [List.map_toArray, List.map_cons, List.map_nil]); first | done | (rw [show t279.length = t258.length from (Kd.R_reads' HO260.out).1.symm, show t280.length = t261.length from (Kd.R_reads' HO263.out).1.symm] <;> rfl) | rfl | (simp only [List.length_drop, List.length_take]; rfl)) ?_; (with_reducible refine (laws_heldBolts.calls k _ _ t279 _ _ t280 1 t281 _ ?side1 ?side2 ?side3 ?side4 A27.out).mono ?_); (case side1 => exact cU (Kd.R_reads' HO260.out).2.2); (case side2 => rw [show t279.length = t258.length from (Kd.R_reads' HO260.out).1.symm]; exact (Kd.R_reads' HO260.out).2.1); (case side3 => exact cU (Kd.R_reads' HO263.out).2.2); (case side4 => rw [show t280.length = t261.length from (Kd.R_reads' HO263.out).1.symm]; exact (Kd.R_reads' HO263.out).2.1); rintro e w101 ⟨rfl, hb⟩; refine ⟨_, rfl, ?_⟩; have n0_ := aM (Kd.R_below (rU HO231.out) hb); have n1_ := aM (Kd.R_below (rU HO234.out) hb); have n2_ := aM (Kd.R_below (rU HO241.out) hb); have n3_ := aM (Kd.R_below (rU HO244.out) hb); have n4_ := aM (Kd.R_below (rU HO249.out) hb); have n5_ := aM (Kd.R_below (rU HO252.out) hb); have n6_ := aM (Kd.R_below (rU HO260.out) hb); have n7_ := aM (Kd.R_below (rU HO263.out) hb); have n8_ := aM (Kd.R_below (rU HO269.out) hb); have n9_ := aM (Kd.R_below (rU HO272.out) hb); have n10_ := aM (blk_below (g := gb226) (o := .cells #[.slice A0_0 l0_0.length c0_0, .slice A0_1 l0_1.length c0_1] 25 (0, 0)) (bU BK226.out) hb); have n11_ := aM (blk_below (g := gb227) (o := .cells #[.int .i64 a1_0, .int .i64 a1_1, .int .i64 a1_2, .int .i64 a1_3] 27 (0, 0)) (bU BK227.out) hb); have n12_ := aM (blk_below (g := gb246) (o := .cells #[.slice Ao85 t239.length co85, .slice Ao86 t242.length co86] 31 (0, 0)) (bU BK246.out) hb); have n13_ := aM (blk_below (g := gb253) (o := .cells #[.slice Ao60 t247.length co60, .slice Ao65 t250.length co65] 31 (0, 0)) (bU BK253.out) hb); have n14_ := aM (blk_below (g := gb265) (o := .cells #[.slice Ao83 t258.length co83, .slice Ao84 t261.length co84] 31 (0, 0)) (bU BK265.out) hb); have n15_ := aM (below_step (by repeat (first | (with_reducible first | exact HB.out | apply aL | apply dN | apply dR | refine sT ?_ GE226.out | refine sT ?_ GE227.out | refine sT ?_ GE246.out | refine sT ?_ GE253.out | refine sT ?_ GE265.out) | exact HB.out)) hb); clear HO231; clear HO234; clear HO241; clear HO244; clear HO249; clear HO252; clear HO260; clear HO263; clear HO269; clear HO272; clear BK226; clear BK227; clear BK246; clear BK253; clear BK265; clear HB; have HO231 := n0_; have HO234 := n1_; have HO241 := n2_; have HO244 := n3_; have HO249 := n4_; have HO252 := n5_; have HO260 := n6_; have HO263 := n7_; have HO269 := n8_; have HO272 := n9_; have BK226 := n10_; have BK227 := n11_; have BK246 := n12_; have BK253 := n13_; have BK265 := n14_; have HB := n15_; clear n0_ n1_ n2_ n3_ n4_ n5_ n6_ n7_ n8_ n9_ n10_ n11_ n12_ n13_ n14_ n15_; (try clear hb); (try clear hb2); (try clear hk); (try clear hi)))
             have n0_ := aM (Kd.R_drew HO231.out)
             have n1_ := aM (Kd.R_drew HO234.out)
             have n2_ := aM (Kd.R_drew HO241.out)
             have n3_ := aM (Kd.R_drew HO244.out)
             have n4_ := aM (Kd.R_drew HO249.out)
             have n5_ := aM (Kd.R_drew HO252.out)
             have n6_ := aM (Kd.R_drew HO260.out)
             have n7_ := aM (Kd.R_drew HO263.out)
             have n8_ := aM (Kd.R_drew HO269.out)
             have n9_ := aM (Kd.R_drew HO272.out)
             have n10_ := aM (blk_drew BK226.out)
             have n11_ := aM (blk_drew BK227.out)
             have n12_ := aM (blk_drew BK246.out)
             have n13_ := aM (blk_drew BK253.out)
             have n14_ := aM (blk_drew BK265.out)
             have n15_ := aM (below_drew1 HB.out)
             clear HO231
             clear HO234
             clear HO241
             clear HO244
             clear HO249
             clear HO252
             clear HO260
             clear HO263
             clear HO269
             clear HO272
             clear BK226
             clear BK227
             clear BK246
             clear BK253
             clear BK265
             clear HB
             have HO231 := n0_
             have HO234 := n1_
             have HO241 := n2_
             have HO244 := n3_
             have HO249 := n4_
             have HO252 := n5_
             have HO260 := n6_
             have HO263 := n7_
             have HO269 := n8_
             have HO272 := n9_
             have BK226 := n10_
             have BK227 := n11_
             have BK246 := n12_
             have BK253 := n13_
             have BK265 := n14_
             have HB := n15_
             clear n0_ n1_ n2_ n3_ n4_ n5_ n6_ n7_ n8_ n9_ n10_ n11_ n12_ n13_ n14_ n15_
             refine start_ (n := 11) (S := fun w' => True) (ds := []) #[false, false, false, false, false, false, false, false, false, false, false] (by kernel_rfl) rfl rfl trivial (fun hHeld => ?_); refine with_tabW laws_FnExactAddBlock.tab24 laws_FnExactAddBlock.bits24 (fun HT_ HW_ => ?_)
             generalize w101.drew = w102 at HO231 HO234 HO241 HO244 HO249 HO252 HO260 HO263 HO269 HO272 BK226 BK227 BK246 BK253 BK265 HB hHeld ⊢
             refine inv_at [0, 1, 2, 3, 4, 5, 6, 7, 8, 9, 10] (fun a0_ b a w' => ∃ (v283 : Value) (v286 : Value) (v293 : Value) (v296 : Value) (gb299 : Nat) (m1_ : Value) (m4_ : Value) (m5_ : Value) (m6_ : Value) (m8_ : Value), a = putSel a0_ b [(0, 80, .agg #[.slice A0_0 l0_0.length c0_0, .slice A0_1 l0_1.length c0_1]), (1, 81, m1_), (2, 82, .agg #[.int .i64 a1_0, .int .i64 a1_1, .int .i64 a1_2, .int .i64 a1_3]), (3, 83, .agg #[.int .i64 t288, .int .i64 t289, .int .i64 t290, .int .i64 t291]), (4, 84, m4_), (5, 79, m5_), (6, 85, m6_), (7, 86, .bool t298), (8, 14, m8_), (10, 15, .bool t298)] ∧ (Kd.R (Kd.int .i64) 3 w' w.heap.size (fun k_ => some k_ ≠ (.slice Ao85 t239.length co85 : Value).ownBlock ∧ some k_ ≠ (.slice Ao60 t247.length co60 : Value).ownBlock ∧ some k_ ≠ (.slice Ao83 t258.length co83 : Value).ownBlock ∧ some k_ ≠ (.slice Ao90 t267.length co90 : Value).ownBlock) v230 t229) ∧ (Kd.R k35 35 w' w.heap.size (fun k_ => some k_ ≠ (.slice Ao86 t242.length co86 : Value).ownBlock ∧ some k_ ≠ (.slice Ao65 t250.length co65 : Value).ownBlock ∧ some k_ ≠ (.slice Ao84 t261.length co84 : Value).ownBlock ∧ some k_ ≠ (.slice Ao91 t270.length co91 : Value).ownBlock) v233 t232) ∧ (Kd.R (Kd.int .i64) 3 w' w.heap.size (fun k_ => some k_ ≠ (v230 : Value).ownBlock ∧ some k_ ≠ (.slice Ao60 t247.length co60 : Value).ownBlock ∧ some k_ ≠ (.slice Ao83 t258.length co83 : Value).ownBlock ∧ some k_ ≠ (.slice Ao90 t267.length co90 : Value).ownBlock) (.slice Ao85 t239.length co85) t239) ∧ (Kd.R k35 35 w' w.heap.size (fun k_ => some k_ ≠ (v233 : Value).ownBlock ∧ some k_ ≠ (.slice Ao65 t250.length co65 : Value).ownBlock ∧ some k_ ≠ (.slice Ao84 t261.length co84 : Value).ownBlock ∧ some k_ ≠ (.slice Ao91 t270.length co91 : Value).ownBlock) (.slice Ao86 t242.length co86) t242) ∧ (Kd.R (Kd.int .i64) 3 w' w.heap.size (fun k_ => some k_ ≠ (v230 : Value).ownBlock ∧ some k_ ≠ (.slice Ao85 t239.length co85 : Value).ownBlock ∧ some k_ ≠ (.slice Ao83 t258.length co83 : Value).ownBlock ∧ some k_ ≠ (.slice Ao90 t267.length co90 : Value).ownBlock) (.slice Ao60 t247.length co60) t275) ∧ (Kd.R k35 35 w' w.heap.size (fun k_ => some k_ ≠ (v233 : Value).ownBlock ∧ some k_ ≠ (.slice Ao86 t242.length co86 : Value).ownBlock ∧ some k_ ≠ (.slice Ao84 t261.length co84 : Value).ownBlock ∧ some k_ ≠ (.slice Ao91 t270.length co91 : Value).ownBlock) (.slice Ao65 t250.length co65) t276) ∧ (Kd.R (Kd.int .i64) 3 w' w.heap.size (fun k_ => some k_ ≠ (v230 : Value).ownBlock ∧ some k_ ≠ (.slice Ao85 t239.length co85 : Value).ownBlock ∧ some k_ ≠ (.slice Ao60 t247.length co60 : Value).ownBlock ∧ some k_ ≠ (.slice Ao90 t267.length co90 : Value).ownBlock) (.slice Ao83 t258.length co83) t279) ∧ (Kd.R k35 35 w' w.heap.size (fun k_ => some k_ ≠ (v233 : Value).ownBlock ∧ some k_ ≠ (.slice Ao86 t242.length co86 : Value).ownBlock ∧ some k_ ≠ (.slice Ao65 t250.length co65 : Value).ownBlock ∧ some k_ ≠ (.slice Ao91 t270.length co91 : Value).ownBlock) (.slice Ao84 t261.length co84) t280) ∧ (Kd.R (Kd.int .i64) 3 w' w.heap.size (fun k_ => some k_ ≠ (v230 : Value).ownBlock ∧ some k_ ≠ (.slice Ao85 t239.length co85 : Value).ownBlock ∧ some k_ ≠ (.slice Ao60 t247.length co60 : Value).ownBlock ∧ some k_ ≠ (.slice Ao83 t258.length co83 : Value).ownBlock) (.slice Ao90 t267.length co90) t267) ∧ (Kd.R k35 35 w' w.heap.size (fun k_ => some k_ ≠ (v233 : Value).ownBlock ∧ some k_ ≠ (.slice Ao86 t242.length co86 : Value).ownBlock ∧ some k_ ≠ (.slice Ao65 t250.length co65 : Value).ownBlock ∧ some k_ ≠ (.slice Ao84 t261.length co84 : Value).ownBlock) (.slice Ao91 t270.length co91) t270) ∧ (w'.heap[gb226]? = some (.cells #[.slice A0_0 l0_0.length c0_0, .slice A0_1 l0_1.length c0_1] 25 (0, 0))) ∧ (w'.heap[gb227]? = some (.cells #[.int .i64 a1_0, .int .i64 a1_1, .int .i64 a1_2, .int .i64 a1_3] 27 (0, 0))) ∧ (w'.heap[gb246]? = some (.cells #[.slice Ao85 t239.length co85, .slice Ao86 t242.length co86] 31 (0, 0))) ∧ (w'.heap[gb253]? = some (.cells #[.slice Ao60 t247.length co60, .slice Ao65 t250.length co65] 31 (0, 0))) ∧ (w'.heap[gb265]? = some (.cells #[.slice Ao83 t258.length co83, .slice Ao84 t261.length co84] 31 (0, 0))) ∧ (Below w.heap.size w w') ∧ (b 1 = true → Kd.R (Kd.int .i64) 3 w' w.heap.size (fun k_ => some k_ ≠ (v230 : Value).ownBlock ∧ some k_ ≠ (.slice Ao85 t239.length co85 : Value).ownBlock ∧ some k_ ≠ (.slice Ao60 t247.length co60 : Value).ownBlock ∧ some k_ ≠ (.slice Ao83 t258.length co83 : Value).ownBlock ∧ some k_ ≠ (.slice Ao90 t267.length co90 : Value).ownBlock) v283 t282) ∧ (b 1 = true → Kd.R k35 35 w' w.heap.size (fun k_ => some k_ ≠ (v233 : Value).ownBlock ∧ some k_ ≠ (.slice Ao86 t242.length co86 : Value).ownBlock ∧ some k_ ≠ (.slice Ao65 t250.length co65 : Value).ownBlock ∧ some k_ ≠ (.slice Ao84 t261.length co84 : Value).ownBlock ∧ some k_ ≠ (.slice Ao91 t270.length co91 : Value).ownBlock) v286 t285) ∧ (b 4 = true → Kd.R (Kd.int .i64) 3 w' w.heap.size (fun k_ => some k_ ≠ (v230 : Value).ownBlock ∧ some k_ ≠ (.slice Ao85 t239.length co85 : Value).ownBlock ∧ some k_ ≠ (.slice Ao60 t247.length co60 : Value).ownBlock ∧ some k_ ≠ (.slice Ao83 t258.length co83 : Value).ownBlock ∧ some k_ ≠ (.slice Ao90 t267.length co90 : Value).ownBlock) v293 t292) ∧ (b 4 = true → Kd.R k35 35 w' w.heap.size (fun k_ => some k_ ≠ (v233 : Value).ownBlock ∧ some k_ ≠ (.slice Ao86 t242.length co86 : Value).ownBlock ∧ some k_ ≠ (.slice Ao65 t250.length co65 : Value).ownBlock ∧ some k_ ≠ (.slice Ao84 t261.length co84 : Value).ownBlock ∧ some k_ ≠ (.slice Ao91 t270.length co91 : Value).ownBlock) v296 t295) ∧ (b 8 = true → b 9 = false → w'.heap[gb299]? = some (.cells #[.slice none 0 0, .slice none 0 0] 31 (0, 0))) ∧ (b 8 = true → w.heap.size ≤ gb299) ∧ (b 8 = true → w.heap.size ≤ gb299) ∧ (b 8 = true → gb226 ≠ gb299) ∧ (b 8 = true → gb299 ≠ gb226) ∧ (b 8 = true → gb227 ≠ gb299) ∧ (b 8 = true → gb299 ≠ gb227) ∧ (b 8 = true → gb246 ≠ gb299) ∧ (b 8 = true → gb299 ≠ gb246) ∧ (b 8 = true → gb253 ≠ gb299) ∧ (b 8 = true → gb299 ≠ gb253) ∧ (b 8 = true → gb265 ≠ gb299) ∧ (b 8 = true → gb299 ≠ gb265) ∧ (b 9 = true → w'.heap[gb299]? = some (.cells #[v293, v296] 31 (0, 0))) ∧ (b 1 = true → (m1_ : Value) = .agg #[v283, v286]) ∧ (b 4 = true → (m4_ : Value) = .tuple #[.agg #[v293, v296], .bool t298]) ∧ (b 5 = true → (m5_ : Value) = .tuple #[.agg #[v293, v296], .bool t298]) ∧ (b 6 = true → (m6_ : Value) = .agg #[v293, v296]) ∧ (b 8 = true → (m8_ : Value) = .pointer (some ⟨gb299, 0, none⟩))) HT_.out HW_.out (by kernel_rfl) (by kernel_rfl) ?_ ?_ ?_
             ·exact ⟨.bool false, .bool false, .bool false, .bool false, 0, .bool false, .bool false, .bool false, .bool false, .bool false, by simp only [putSel, Bool.false_eq_true, if_false], HO231.out, HO234.out, HO241.out, HO244.out, HO249.out, HO252.out, HO260.out, HO263.out, HO269.out, HO272.out, BK226.out, BK227.out, BK246.out, BK253.out, BK265.out, HB.out, fun h_ => absurd h_ (by decide), fun h_ => absurd h_ (by decide), fun h_ => absurd h_ (by decide), fun h_ => absurd h_ (by decide), fun h_ => absurd h_ (by decide), fun h_ => absurd h_ (by decide), fun h_ => absurd h_ (by decide), fun h_ => absurd h_ (by decide), fun h_ => absurd h_ (by decide), fun h_ => absurd h_ (by decide), fun h_ => absurd h_ (by decide), fun h_ => absurd h_ (by decide), fun h_ => absurd h_ (by decide), fun h_ => absurd h_ (by decide), fun h_ => absurd h_ (by decide), fun h_ => absurd h_ (by decide), fun h_ => absurd h_ (by decide), fun h_ => absurd h_ (by decide), fun h_ => absurd h_ (by decide), fun h_ => absurd h_ (by decide), fun h_ => absurd h_ (by decide), fun h_ => absurd h_ (by decide), fun h_ => absurd h_ (by decide)⟩
             ·skip
              clear BK226 BK227 BK246 BK253 BK265 HB HO231 HO234 HO241 HO244 HO249 HO252 HO260 HO263 HO269 HO272
              refine steps_cons ?_ ?_
              ·rintro b a w' ⟨v283, v286, v293, v296, gb299, m1_, m4_, m5_, m6_, m8_, ha, Q_HO231, Q_HO234, Q_HO241, Q_HO244, Q_HO249, Q_HO252, Q_HO260, Q_HO263, Q_HO269, Q_HO272, Q_BK226, Q_BK227, Q_BK246, Q_BK253, Q_BK265, Q_HB, Q_HO284, Q_HO287, Q_HO294, Q_HO297, Q_BK299, Q_GW299, Q_GE299, Q_NB226_299, Q_NB299_226, Q_NB227_299, Q_NB299_227, Q_NB246_299, Q_NB299_246, Q_NB253_299, Q_NB299_253, Q_NB265_299, Q_NB299_265, Q_BK299_e9, Q_X1_, Q_X4_, Q_X5_, Q_X6_, Q_X8_⟩ hb_ hon hoff
               refine ⟨_, rfl, fun K hK => ?_⟩
               have e2 : a.tmps[2]? = some (.pointer (some ⟨gb226, 0, none⟩)) := by rw [ha]; exact (putSel_off rfl).trans rfl
               replace ha := aM ha
               have HO231 := aM Q_HO231
               have HO234 := aM Q_HO234
               have HO241 := aM Q_HO241
               have HO244 := aM Q_HO244
               have HO249 := aM Q_HO249
               have HO252 := aM Q_HO252
               have HO260 := aM Q_HO260
               have HO263 := aM Q_HO263
               have HO269 := aM Q_HO269
               have HO272 := aM Q_HO272
               have BK226 := aM Q_BK226
               have BK227 := aM Q_BK227
               have BK246 := aM Q_BK246
               have BK253 := aM Q_BK253
               have BK265 := aM Q_BK265
               have HB := aM Q_HB
               have hc0_ : w'.cell? ⟨gb226, 0, none⟩ = some (.slice A0_0 l0_0.length c0_0) := (blk_cell BK226.out 0).trans rfl
               have hc1_ : w'.cell? ⟨gb226, 1, none⟩ = some (.slice A0_1 l0_1.length c0_1) := (blk_cell BK226.out 1).trans rfl
               refine value_ (w1 := w') (v := .agg #[.slice A0_0 l0_0.length c0_0, .slice A0_1 l0_1.length c0_1]) (by rfl) rfl ?_ ?_
               ·go_simp
                (try simp only [i64_w])
                try rfl
               refine hK.out _ _ ⟨v283, v286, v293, v296, gb299, m1_, m4_, m5_, m6_, m8_, (by rw [ha.out]; exact putSel_upk 0 hb_ rfl rfl rfl), Q_HO231, Q_HO234, Q_HO241, Q_HO244, Q_HO249, Q_HO252, Q_HO260, Q_HO263, Q_HO269, Q_HO272, Q_BK226, Q_BK227, Q_BK246, Q_BK253, Q_BK265, Q_HB, nB (hoff 1 (by kernel_rfl)), nB (hoff 1 (by kernel_rfl)), nB (hoff 4 (by kernel_rfl)), nB (hoff 4 (by kernel_rfl)), Q_BK299, Q_GW299, Q_GE299, Q_NB226_299, Q_NB299_226, Q_NB227_299, Q_NB299_227, Q_NB246_299, Q_NB299_246, Q_NB253_299, Q_NB299_253, Q_NB265_299, Q_NB299_265, nB (hoff 9 (by kernel_rfl)), nB (hoff 1 (by kernel_rfl)), nB (hoff 4 (by kernel_rfl)), nB (hoff 5 (by kernel_rfl)), nB (hoff 6 (by kernel_rfl)), Q_X8_⟩
              refine steps_cons ?_ ?_
              ·rintro b a w' ⟨v283, v286, v293, v296, gb299, m1_, m4_, m5_, m6_, m8_, ha, Q_HO231, Q_HO234, Q_HO241, Q_HO244, Q_HO249, Q_HO252, Q_HO260, Q_HO263, Q_HO269, Q_HO272, Q_BK226, Q_BK227, Q_BK246, Q_BK253, Q_BK265, Q_HB, Q_HO284, Q_HO287, Q_HO294, Q_HO297, Q_BK299, Q_GW299, Q_GE299, Q_NB226_299, Q_NB299_226, Q_NB227_299, Q_NB299_227, Q_NB246_299, Q_NB299_246, Q_NB253_299, Q_NB299_253, Q_NB265_299, Q_NB299_265, Q_BK299_e9, Q_X1_, Q_X4_, Q_X5_, Q_X6_, Q_X8_⟩ hb_ hon hoff
               refine ⟨_, rfl, fun K hK => ?_⟩
               have e80 : a.tmps[80]? = some (.agg #[.slice A0_0 l0_0.length c0_0, .slice A0_1 l0_1.length c0_1]) := by rw [ha]; exact putSel_on (e := (0, 80, .agg #[.slice A0_0 l0_0.length c0_0, .slice A0_1 l0_1.length c0_1])) 0 rfl rfl (hon 0 (by kernel_rfl)) rfl
               replace ha := aM ha
               have HO231 := aM Q_HO231
               have HO234 := aM Q_HO234
               have HO241 := aM Q_HO241
               have HO244 := aM Q_HO244
               have HO249 := aM Q_HO249
               have HO252 := aM Q_HO252
               have HO260 := aM Q_HO260
               have HO263 := aM Q_HO263
               have HO269 := aM Q_HO269
               have HO272 := aM Q_HO272
               have BK226 := aM Q_BK226
               have BK227 := aM Q_BK227
               have BK246 := aM Q_BK246
               have BK253 := aM Q_BK253
               have BK265 := aM Q_BK265
               have HB := aM Q_HB
               refine goes_ Try.func8 (by kernel_rfl) rfl #[.agg #[.slice A0_0 l0_0.length c0_0, .slice A0_1 l0_1.length c0_1]] (by rfl) rfl rfl (by first | (simp only [List.map_toArray, List.map_cons, List.map_nil, Act.eval, Array.getD_eq_getD_getElem?, Option.getD_some, e80]; done) | (simp only [List.map_toArray, List.map_cons, List.map_nil, Act.eval, Array.getD_eq_getD_getElem?, Option.getD_some, e80]; rfl)) ?_
               with_reducible refine (laws_toBolts.calls k _ _ l0_0 _ _ l0_1 t282 t285 _ ?side1 ?side2 ?side3 ?side4 A30.out).mono ?_
               (case side1 => exact cU (Kd.C_below HR0_0.out HB.out))
               (case side2 => exact HC0_0.out)
               (case side3 => exact cU (Kd.C_below HR0_1.out HB.out))
               (case side4 => exact HC0_1.out)
               rintro e w103 ⟨v283, v286, rfl, ho0, ho1, hb⟩
               refine ⟨_, rfl, ?_⟩
               have n0_ := aM (Kd.R_elder' (rU HO231.out) (Kd.R_base ho0) hb)
               have n1_ := aM (Kd.R_elder' (rU HO234.out) (Kd.R_base ho1) hb)
               have n2_ := aM (Kd.R_elder' (rU HO241.out) (Kd.R_base ho0) hb)
               have n3_ := aM (Kd.R_elder' (rU HO244.out) (Kd.R_base ho1) hb)
               have n4_ := aM (Kd.R_elder' (rU HO249.out) (Kd.R_base ho0) hb)
               have n5_ := aM (Kd.R_elder' (rU HO252.out) (Kd.R_base ho1) hb)
               have n6_ := aM (Kd.R_elder' (rU HO260.out) (Kd.R_base ho0) hb)
               have n7_ := aM (Kd.R_elder' (rU HO263.out) (Kd.R_base ho1) hb)
               have n8_ := aM (Kd.R_elder' (rU HO269.out) (Kd.R_base ho0) hb)
               have n9_ := aM (Kd.R_elder' (rU HO272.out) (Kd.R_base ho1) hb)
               have n10_ := aM (Kd.R_lower (Kd.R_new' (Kd.R_new' (Kd.R_new' (Kd.R_new' (Kd.R_new' ho0 (Kd.R_lt (rU HO231.out))) (Kd.R_lt (rU HO241.out))) (Kd.R_lt (rU HO249.out))) (Kd.R_lt (rU HO260.out))) (Kd.R_lt (rU HO269.out))) (below_size (by repeat (first | (with_reducible first | exact HB.out | apply aL | apply dN | apply dR | refine sT ?_ GE226.out | refine sT ?_ GE227.out | refine sT ?_ GE246.out | refine sT ?_ GE253.out | refine sT ?_ GE265.out) | exact HB.out))))
               have n11_ := aM (Kd.R_lower (Kd.R_new' (Kd.R_new' (Kd.R_new' (Kd.R_new' (Kd.R_new' ho1 (Kd.R_lt (rU HO234.out))) (Kd.R_lt (rU HO244.out))) (Kd.R_lt (rU HO252.out))) (Kd.R_lt (rU HO263.out))) (Kd.R_lt (rU HO272.out))) (below_size (by repeat (first | (with_reducible first | exact HB.out | apply aL | apply dN | apply dR | refine sT ?_ GE226.out | refine sT ?_ GE227.out | refine sT ?_ GE246.out | refine sT ?_ GE253.out | refine sT ?_ GE265.out) | exact HB.out))))
               have n12_ := aM (blk_below (g := gb226) (o := .cells #[.slice A0_0 l0_0.length c0_0, .slice A0_1 l0_1.length c0_1] 25 (0, 0)) (bU BK226.out) hb)
               have n13_ := aM (blk_below (g := gb227) (o := .cells #[.int .i64 a1_0, .int .i64 a1_1, .int .i64 a1_2, .int .i64 a1_3] 27 (0, 0)) (bU BK227.out) hb)
               have n14_ := aM (blk_below (g := gb246) (o := .cells #[.slice Ao85 t239.length co85, .slice Ao86 t242.length co86] 31 (0, 0)) (bU BK246.out) hb)
               have n15_ := aM (blk_below (g := gb253) (o := .cells #[.slice Ao60 t247.length co60, .slice Ao65 t250.length co65] 31 (0, 0)) (bU BK253.out) hb)
               have n16_ := aM (blk_below (g := gb265) (o := .cells #[.slice Ao83 t258.length co83, .slice Ao84 t261.length co84] 31 (0, 0)) (bU BK265.out) hb)
               have n17_ := aM (below_step (by repeat (first | (with_reducible first | exact HB.out | apply aL | apply dN | apply dR | refine sT ?_ GE226.out | refine sT ?_ GE227.out | refine sT ?_ GE246.out | refine sT ?_ GE253.out | refine sT ?_ GE265.out) | exact HB.out)) hb)
               have z_BK299 := fun (h0_ : b 8 = true) (h1_ : b 9 = false) => (show w103.heap[gb299]? = some (.cells #[.slice none 0 0, .slice none 0 0] 31 (0, 0)) from by first | exact (blk_below (g := gb299) (o := .cells #[.slice none 0 0, .slice none 0 0] 31 (0, 0)) (bU (Q_BK299 h0_ h1_)) hb))
               clear HO231
               clear HO234
               clear HO241
               clear HO244
               clear HO249
               clear HO252
               clear HO260
               clear HO263
               clear HO269
               clear HO272
               clear BK226
               clear BK227
               clear BK246
               clear BK253
               clear BK265
               clear HB
               have HO231 := n0_
               have HO234 := n1_
               have HO241 := n2_
               have HO244 := n3_
               have HO249 := n4_
               have HO252 := n5_
               have HO260 := n6_
               have HO263 := n7_
               have HO269 := n8_
               have HO272 := n9_
               have HO284 := n10_
               have HO287 := n11_
               have BK226 := n12_
               have BK227 := n13_
               have BK246 := n14_
               have BK253 := n15_
               have BK265 := n16_
               have HB := n17_
               clear n0_ n1_ n2_ n3_ n4_ n5_ n6_ n7_ n8_ n9_ n10_ n11_ n12_ n13_ n14_ n15_ n16_ n17_
               (try clear hb)
               (try clear hb2)
               (try clear hk)
               (try clear hi)
               (try clear ho0)
               (try clear ho1)
               refine hK.out _ _ ⟨v283, v286, v293, v296, gb299, (.agg #[v283, v286]), m4_, m5_, m6_, m8_, (by rw [ha.out]; exact putSel_upk 1 hb_ rfl rfl rfl), (rU (Kd.R_mono HO231.out (by first | exact fun _ hk => ⟨hk.1.1, ⟨hk.1.2.1, ⟨hk.1.2.2.1, ⟨hk.1.2.2.2, hk.2⟩⟩⟩⟩ | grind))), (rU (Kd.R_mono HO234.out (by first | exact fun _ hk => ⟨hk.1.1, ⟨hk.1.2.1, ⟨hk.1.2.2.1, ⟨hk.1.2.2.2, hk.2⟩⟩⟩⟩ | grind))), (rU (Kd.R_mono HO241.out (by first | exact fun _ hk => ⟨hk.1.1, ⟨hk.1.2.1, ⟨hk.1.2.2.1, ⟨hk.1.2.2.2, hk.2⟩⟩⟩⟩ | grind))), (rU (Kd.R_mono HO244.out (by first | exact fun _ hk => ⟨hk.1.1, ⟨hk.1.2.1, ⟨hk.1.2.2.1, ⟨hk.1.2.2.2, hk.2⟩⟩⟩⟩ | grind))), (rU (Kd.R_mono HO249.out (by first | exact fun _ hk => ⟨hk.1.1, ⟨hk.1.2.1, ⟨hk.1.2.2.1, ⟨hk.1.2.2.2, hk.2⟩⟩⟩⟩ | grind))), (rU (Kd.R_mono HO252.out (by first | exact fun _ hk => ⟨hk.1.1, ⟨hk.1.2.1, ⟨hk.1.2.2.1, ⟨hk.1.2.2.2, hk.2⟩⟩⟩⟩ | grind))), (rU (Kd.R_mono HO260.out (by first | exact fun _ hk => ⟨hk.1.1, ⟨hk.1.2.1, ⟨hk.1.2.2.1, ⟨hk.1.2.2.2, hk.2⟩⟩⟩⟩ | grind))), (rU (Kd.R_mono HO263.out (by first | exact fun _ hk => ⟨hk.1.1, ⟨hk.1.2.1, ⟨hk.1.2.2.1, ⟨hk.1.2.2.2, hk.2⟩⟩⟩⟩ | grind))), (rU (Kd.R_mono HO269.out (by first | exact fun _ hk => ⟨hk.1.1, ⟨hk.1.2.1, ⟨hk.1.2.2.1, ⟨hk.1.2.2.2, hk.2⟩⟩⟩⟩ | grind))), (rU (Kd.R_mono HO272.out (by first | exact fun _ hk => ⟨hk.1.1, ⟨hk.1.2.1, ⟨hk.1.2.2.1, ⟨hk.1.2.2.2, hk.2⟩⟩⟩⟩ | grind))), (bU BK226.out), (bU BK227.out), (bU BK246.out), (bU BK253.out), (bU BK265.out), (by repeat (first | (with_reducible first | exact HB.out | apply aL | apply dN | apply dR | refine sT ?_ GE226.out | refine sT ?_ GE227.out | refine sT ?_ GE246.out | refine sT ?_ GE253.out | refine sT ?_ GE265.out) | exact HB.out)), fun _ => (rU (Kd.R_mono HO284.out (by first | exact fun _ hk => ⟨hk.1.1.1.1.2, ⟨hk.1.1.1.2, ⟨hk.1.1.2, ⟨hk.1.2, hk.2⟩⟩⟩⟩ | grind))), fun _ => (rU (Kd.R_mono HO287.out (by first | exact fun _ hk => ⟨hk.1.1.1.1.2, ⟨hk.1.1.1.2, ⟨hk.1.1.2, ⟨hk.1.2, hk.2⟩⟩⟩⟩ | grind))), nB (hoff 4 (by kernel_rfl)), nB (hoff 4 (by kernel_rfl)), z_BK299, Q_GW299, Q_GE299, Q_NB226_299, Q_NB299_226, Q_NB227_299, Q_NB299_227, Q_NB246_299, Q_NB299_246, Q_NB253_299, Q_NB299_253, Q_NB265_299, Q_NB299_265, nB (hoff 9 (by kernel_rfl)), fun _ => rfl, nB (hoff 4 (by kernel_rfl)), nB (hoff 5 (by kernel_rfl)), nB (hoff 6 (by kernel_rfl)), Q_X8_⟩
              refine steps_cons ?_ ?_
              ·rintro b a w' ⟨v283, v286, v293, v296, gb299, m1_, m4_, m5_, m6_, m8_, ha, Q_HO231, Q_HO234, Q_HO241, Q_HO244, Q_HO249, Q_HO252, Q_HO260, Q_HO263, Q_HO269, Q_HO272, Q_BK226, Q_BK227, Q_BK246, Q_BK253, Q_BK265, Q_HB, Q_HO284, Q_HO287, Q_HO294, Q_HO297, Q_BK299, Q_GW299, Q_GE299, Q_NB226_299, Q_NB299_226, Q_NB227_299, Q_NB299_227, Q_NB246_299, Q_NB299_246, Q_NB253_299, Q_NB299_253, Q_NB265_299, Q_NB299_265, Q_BK299_e9, Q_X1_, Q_X4_, Q_X5_, Q_X6_, Q_X8_⟩ hb_ hon hoff
               refine ⟨_, rfl, fun K hK => ?_⟩
               have e3 : a.tmps[3]? = some (.pointer (some ⟨gb227, 0, none⟩)) := by rw [ha]; exact (putSel_off rfl).trans rfl
               replace ha := aM ha
               have HO231 := aM Q_HO231
               have HO234 := aM Q_HO234
               have HO241 := aM Q_HO241
               have HO244 := aM Q_HO244
               have HO249 := aM Q_HO249
               have HO252 := aM Q_HO252
               have HO260 := aM Q_HO260
               have HO263 := aM Q_HO263
               have HO269 := aM Q_HO269
               have HO272 := aM Q_HO272
               have BK226 := aM Q_BK226
               have BK227 := aM Q_BK227
               have BK246 := aM Q_BK246
               have BK253 := aM Q_BK253
               have BK265 := aM Q_BK265
               have HB := aM Q_HB
               have hc0_ : w'.cell? ⟨gb227, 0, none⟩ = some (.int .i64 a1_0) := (blk_cell BK227.out 0).trans rfl
               have hc1_ : w'.cell? ⟨gb227, 1, none⟩ = some (.int .i64 a1_1) := (blk_cell BK227.out 1).trans rfl
               have hc2_ : w'.cell? ⟨gb227, 2, none⟩ = some (.int .i64 a1_2) := (blk_cell BK227.out 2).trans rfl
               have hc3_ : w'.cell? ⟨gb227, 3, none⟩ = some (.int .i64 a1_3) := (blk_cell BK227.out 3).trans rfl
               refine value_ (w1 := w') (v := .agg #[.int .i64 a1_0, .int .i64 a1_1, .int .i64 a1_2, .int .i64 a1_3]) (by rfl) rfl ?_ ?_
               ·go_simp
                (try simp only [i64_w])
                try rfl
               refine hK.out _ _ ⟨v283, v286, v293, v296, gb299, m1_, m4_, m5_, m6_, m8_, (by rw [ha.out]; exact putSel_upk 2 hb_ rfl rfl rfl), Q_HO231, Q_HO234, Q_HO241, Q_HO244, Q_HO249, Q_HO252, Q_HO260, Q_HO263, Q_HO269, Q_HO272, Q_BK226, Q_BK227, Q_BK246, Q_BK253, Q_BK265, Q_HB, Q_HO284, Q_HO287, nB (hoff 4 (by kernel_rfl)), nB (hoff 4 (by kernel_rfl)), Q_BK299, Q_GW299, Q_GE299, Q_NB226_299, Q_NB299_226, Q_NB227_299, Q_NB299_227, Q_NB246_299, Q_NB299_246, Q_NB253_299, Q_NB299_253, Q_NB265_299, Q_NB299_265, nB (hoff 9 (by kernel_rfl)), Q_X1_, nB (hoff 4 (by kernel_rfl)), nB (hoff 5 (by kernel_rfl)), nB (hoff 6 (by kernel_rfl)), Q_X8_⟩
              refine steps_cons ?_ ?_
              ·rintro b a w' ⟨v283, v286, v293, v296, gb299, m1_, m4_, m5_, m6_, m8_, ha, Q_HO231, Q_HO234, Q_HO241, Q_HO244, Q_HO249, Q_HO252, Q_HO260, Q_HO263, Q_HO269, Q_HO272, Q_BK226, Q_BK227, Q_BK246, Q_BK253, Q_BK265, Q_HB, Q_HO284, Q_HO287, Q_HO294, Q_HO297, Q_BK299, Q_GW299, Q_GE299, Q_NB226_299, Q_NB299_226, Q_NB227_299, Q_NB299_227, Q_NB246_299, Q_NB299_246, Q_NB253_299, Q_NB299_253, Q_NB265_299, Q_NB299_265, Q_BK299_e9, Q_X1_, Q_X4_, Q_X5_, Q_X6_, Q_X8_⟩ hb_ hon hoff
               refine ⟨_, rfl, fun K hK => ?_⟩
               have e82 : a.tmps[82]? = some (.agg #[.int .i64 a1_0, .int .i64 a1_1, .int .i64 a1_2, .int .i64 a1_3]) := by rw [ha]; exact putSel_on (e := (2, 82, .agg #[.int .i64 a1_0, .int .i64 a1_1, .int .i64 a1_2, .int .i64 a1_3])) 2 rfl rfl (hon 2 (by kernel_rfl)) rfl
               replace ha := aM ha
               have HO231 := aM Q_HO231
               have HO234 := aM Q_HO234
               have HO241 := aM Q_HO241
               have HO244 := aM Q_HO244
               have HO249 := aM Q_HO249
               have HO252 := aM Q_HO252
               have HO260 := aM Q_HO260
               have HO263 := aM Q_HO263
               have HO269 := aM Q_HO269
               have HO272 := aM Q_HO272
               have BK226 := aM Q_BK226
               have BK227 := aM Q_BK227
               have BK246 := aM Q_BK246
               have BK253 := aM Q_BK253
               have BK265 := aM Q_BK265
               have HB := aM Q_HB
               have HO284 := aM (Q_HO284 (hon 1 (by kernel_rfl)))
               have HO287 := aM (Q_HO287 (hon 1 (by kernel_rfl)))
               refine goes_ Try.func9 (by kernel_rfl) rfl #[.agg #[.int .i64 a1_0, .int .i64 a1_1, .int .i64 a1_2, .int .i64 a1_3]] (by rfl) rfl rfl (by first | (simp only [List.map_toArray, List.map_cons, List.map_nil, Act.eval, Array.getD_eq_getD_getElem?, Option.getD_some, e82]; done) | (simp only [List.map_toArray, List.map_cons, List.map_nil, Act.eval, Array.getD_eq_getD_getElem?, Option.getD_some, e82]; rfl)) ?_
               with_reducible refine (laws_toBlock.calls a1_0 a1_1 a1_2 a1_3 t288 t289 t290 t291 _ A31.out).mono ?_
               rintro e w105 ⟨rfl, hb⟩
               refine ⟨_, rfl, ?_⟩
               have n0_ := aM (Kd.R_below (rU HO231.out) hb)
               have n1_ := aM (Kd.R_below (rU HO234.out) hb)
               have n2_ := aM (Kd.R_below (rU HO241.out) hb)
               have n3_ := aM (Kd.R_below (rU HO244.out) hb)
               have n4_ := aM (Kd.R_below (rU HO249.out) hb)
               have n5_ := aM (Kd.R_below (rU HO252.out) hb)
               have n6_ := aM (Kd.R_below (rU HO260.out) hb)
               have n7_ := aM (Kd.R_below (rU HO263.out) hb)
               have n8_ := aM (Kd.R_below (rU HO269.out) hb)
               have n9_ := aM (Kd.R_below (rU HO272.out) hb)
               have n10_ := aM (Kd.R_below (rU HO284.out) hb)
               have n11_ := aM (Kd.R_below (rU HO287.out) hb)
               have n12_ := aM (blk_below (g := gb226) (o := .cells #[.slice A0_0 l0_0.length c0_0, .slice A0_1 l0_1.length c0_1] 25 (0, 0)) (bU BK226.out) hb)
               have n13_ := aM (blk_below (g := gb227) (o := .cells #[.int .i64 a1_0, .int .i64 a1_1, .int .i64 a1_2, .int .i64 a1_3] 27 (0, 0)) (bU BK227.out) hb)
               have n14_ := aM (blk_below (g := gb246) (o := .cells #[.slice Ao85 t239.length co85, .slice Ao86 t242.length co86] 31 (0, 0)) (bU BK246.out) hb)
               have n15_ := aM (blk_below (g := gb253) (o := .cells #[.slice Ao60 t247.length co60, .slice Ao65 t250.length co65] 31 (0, 0)) (bU BK253.out) hb)
               have n16_ := aM (blk_below (g := gb265) (o := .cells #[.slice Ao83 t258.length co83, .slice Ao84 t261.length co84] 31 (0, 0)) (bU BK265.out) hb)
               have n17_ := aM (below_step (by repeat (first | (with_reducible first | exact HB.out | apply aL | apply dN | apply dR | refine sT ?_ GE226.out | refine sT ?_ GE227.out | refine sT ?_ GE246.out | refine sT ?_ GE253.out | refine sT ?_ GE265.out) | exact HB.out)) hb)
               have z_BK299 := fun (h0_ : b 8 = true) (h1_ : b 9 = false) => (show w105.heap[gb299]? = some (.cells #[.slice none 0 0, .slice none 0 0] 31 (0, 0)) from by first | exact (blk_below (g := gb299) (o := .cells #[.slice none 0 0, .slice none 0 0] 31 (0, 0)) (bU (Q_BK299 h0_ h1_)) hb))
               clear HO231
               clear HO234
               clear HO241
               clear HO244
               clear HO249
               clear HO252
               clear HO260
               clear HO263
               clear HO269
               clear HO272
               clear HO284
               clear HO287
               clear BK226
               clear BK227
               clear BK246
               clear BK253
               clear BK265
               clear HB
               have HO231 := n0_
               have HO234 := n1_
               have HO241 := n2_
               have HO244 := n3_
               have HO249 := n4_
               have HO252 := n5_
               have HO260 := n6_
               have HO263 := n7_
               have HO269 := n8_
               have HO272 := n9_
               have HO284 := n10_
               have HO287 := n11_
               have BK226 := n12_
               have BK227 := n13_
               have BK246 := n14_
               have BK253 := n15_
               have BK265 := n16_
               have HB := n17_
               clear n0_ n1_ n2_ n3_ n4_ n5_ n6_ n7_ n8_ n9_ n10_ n11_ n12_ n13_ n14_ n15_ n16_ n17_
               (try clear hb)
               (try clear hb2)
               (try clear hk)
               (try clear hi)
               refine hK.out _ _ ⟨v283, v286, v293, v296, gb299, m1_, m4_, m5_, m6_, m8_, (by rw [ha.out]; exact putSel_upk 3 hb_ rfl rfl rfl), (rU HO231.out), (rU HO234.out), (rU HO241.out), (rU HO244.out), (rU HO249.out), (rU HO252.out), (rU HO260.out), (rU HO263.out), (rU HO269.out), (rU HO272.out), (bU BK226.out), (bU BK227.out), (bU BK246.out), (bU BK253.out), (bU BK265.out), (by repeat (first | (with_reducible first | exact HB.out | apply aL | apply dN | apply dR | refine sT ?_ GE226.out | refine sT ?_ GE227.out | refine sT ?_ GE246.out | refine sT ?_ GE253.out | refine sT ?_ GE265.out) | exact HB.out)), fun _ => (rU HO284.out), fun _ => (rU HO287.out), nB (hoff 4 (by kernel_rfl)), nB (hoff 4 (by kernel_rfl)), z_BK299, Q_GW299, Q_GE299, Q_NB226_299, Q_NB299_226, Q_NB227_299, Q_NB299_227, Q_NB246_299, Q_NB299_246, Q_NB253_299, Q_NB299_253, Q_NB265_299, Q_NB299_265, nB (hoff 9 (by kernel_rfl)), Q_X1_, nB (hoff 4 (by kernel_rfl)), nB (hoff 5 (by kernel_rfl)), nB (hoff 6 (by kernel_rfl)), Q_X8_⟩
              refine steps_cons ?_ ?_
              ·rintro b a w' ⟨v283, v286, v293, v296, gb299, m1_, m4_, m5_, m6_, m8_, ha, Q_HO231, Q_HO234, Q_HO241, Q_HO244, Q_HO249, Q_HO252, Q_HO260, Q_HO263, Q_HO269, Q_HO272, Q_BK226, Q_BK227, Q_BK246, Q_BK253, Q_BK265, Q_HB, Q_HO284, Q_HO287, Q_HO294, Q_HO297, Q_BK299, Q_GW299, Q_GE299, Q_NB226_299, Q_NB299_226, Q_NB227_299, Q_NB299_227, Q_NB246_299, Q_NB299_246, Q_NB253_299, Q_NB299_253, Q_NB265_299, Q_NB299_265, Q_BK299_e9, Q_X1_, Q_X4_, Q_X5_, Q_X6_, Q_X8_⟩ hb_ hon hoff
               refine ⟨_, rfl, fun K hK => ?_⟩
               have e81 : a.tmps[81]? = some (m1_) := by rw [ha]; exact putSel_on (e := (1, 81, m1_)) 1 rfl rfl (hon 1 (by kernel_rfl)) rfl
               rw [Q_X1_ (hon 1 (by kernel_rfl))] at e81
               have e83 : a.tmps[83]? = some (.agg #[.int .i64 t288, .int .i64 t289, .int .i64 t290, .int .i64 t291]) := by rw [ha]; exact putSel_on (e := (3, 83, .agg #[.int .i64 t288, .int .i64 t289, .int .i64 t290, .int .i64 t291])) 3 rfl rfl (hon 3 (by kernel_rfl)) rfl
               replace ha := aM ha
               have HO231 := aM Q_HO231
               have HO234 := aM Q_HO234
               have HO241 := aM Q_HO241
               have HO244 := aM Q_HO244
               have HO249 := aM Q_HO249
               have HO252 := aM Q_HO252
               have HO260 := aM Q_HO260
               have HO263 := aM Q_HO263
               have HO269 := aM Q_HO269
               have HO272 := aM Q_HO272
               have BK226 := aM Q_BK226
               have BK227 := aM Q_BK227
               have BK246 := aM Q_BK246
               have BK253 := aM Q_BK253
               have BK265 := aM Q_BK265
               have HB := aM Q_HB
               have HO284 := aM (Q_HO284 (hon 1 (by kernel_rfl)))
               have HO287 := aM (Q_HO287 (hon 1 (by kernel_rfl)))
               obtain ⟨Ao106, co106, eo106⟩ := Kd.R_slice HO284.out
               (first | subst eo106 | (injection eo106 with f1_ f2_ f3_; have f4_ := f1_.symm; have f5_ := f3_.symm; clear f1_ f2_ f3_; subst f4_; subst f5_))
               obtain ⟨Ao107, co107, eo107⟩ := Kd.R_slice HO287.out
               (first | subst eo107 | (injection eo107 with f1_ f2_ f3_; have f4_ := f1_.symm; have f5_ := f3_.symm; clear f1_ f2_ f3_; subst f4_; subst f5_))
               refine goes_ Try.func10 (by kernel_rfl) rfl #[.agg #[.slice Ao106 t282.length co106, .slice Ao107 t285.length co107], .agg #[.int .i64 t288, .int .i64 t289, .int .i64 t290, .int .i64 t291]] (by rfl) rfl rfl (by first | (simp only [List.map_toArray, List.map_cons, List.map_nil, Act.eval, Array.getD_eq_getD_getElem?, Option.getD_some, e81, e83]; done) | (simp only [List.map_toArray, List.map_cons, List.map_nil, Act.eval, Array.getD_eq_getD_getElem?, Option.getD_some, e81, e83]; rfl)) ?_
               with_reducible refine (impl_AddBlock.calls _ _ t282 _ _ t285 t288 t289 t290 t291 t292 t295 t298 _ ?side1 ?side2 ?side3 ?side4 A32.out).mono ?_
               (case side1 => exact cU (Kd.R_reads' HO284.out).2.2)
               (case side2 => exact (Kd.R_reads' HO284.out).2.1)
               (case side3 => exact cU (Kd.R_reads' HO287.out).2.2)
               (case side4 => exact (Kd.R_reads' HO287.out).2.1)
               rintro e w108 ⟨v293, v296, rfl, ho0, ho1, hb⟩
               refine ⟨_, rfl, ?_⟩
               have n0_ := aM (Kd.R_elder' (rU HO231.out) (Kd.R_base ho0) hb)
               have n1_ := aM (Kd.R_elder' (rU HO234.out) (Kd.R_base ho1) hb)
               have n2_ := aM (Kd.R_elder' (rU HO241.out) (Kd.R_base ho0) hb)
               have n3_ := aM (Kd.R_elder' (rU HO244.out) (Kd.R_base ho1) hb)
               have n4_ := aM (Kd.R_elder' (rU HO249.out) (Kd.R_base ho0) hb)
               have n5_ := aM (Kd.R_elder' (rU HO252.out) (Kd.R_base ho1) hb)
               have n6_ := aM (Kd.R_elder' (rU HO260.out) (Kd.R_base ho0) hb)
               have n7_ := aM (Kd.R_elder' (rU HO263.out) (Kd.R_base ho1) hb)
               have n8_ := aM (Kd.R_elder' (rU HO269.out) (Kd.R_base ho0) hb)
               have n9_ := aM (Kd.R_elder' (rU HO272.out) (Kd.R_base ho1) hb)
               have n10_ := aM (Kd.R_elder' (rU HO284.out) (Kd.R_base ho0) hb)
               have n11_ := aM (Kd.R_elder' (rU HO287.out) (Kd.R_base ho1) hb)
               have n12_ := aM (Kd.R_lower (Kd.R_new' (Kd.R_new' (Kd.R_new' (Kd.R_new' (Kd.R_new' (Kd.R_new' ho0 (Kd.R_lt (rU HO231.out))) (Kd.R_lt (rU HO241.out))) (Kd.R_lt (rU HO249.out))) (Kd.R_lt (rU HO260.out))) (Kd.R_lt (rU HO269.out))) (Kd.R_lt (rU HO284.out))) (below_size (by repeat (first | (with_reducible first | exact HB.out | apply aL | apply dN | apply dR | refine sT ?_ GE226.out | refine sT ?_ GE227.out | refine sT ?_ GE246.out | refine sT ?_ GE253.out | refine sT ?_ GE265.out) | exact HB.out))))
               have n13_ := aM (Kd.R_lower (Kd.R_new' (Kd.R_new' (Kd.R_new' (Kd.R_new' (Kd.R_new' (Kd.R_new' ho1 (Kd.R_lt (rU HO234.out))) (Kd.R_lt (rU HO244.out))) (Kd.R_lt (rU HO252.out))) (Kd.R_lt (rU HO263.out))) (Kd.R_lt (rU HO272.out))) (Kd.R_lt (rU HO287.out))) (below_size (by repeat (first | (with_reducible first | exact HB.out | apply aL | apply dN | apply dR | refine sT ?_ GE226.out | refine sT ?_ GE227.out | refine sT ?_ GE246.out | refine sT ?_ GE253.out | refine sT ?_ GE265.out) | exact HB.out))))
               have n14_ := aM (blk_below (g := gb226) (o := .cells #[.slice A0_0 l0_0.length c0_0, .slice A0_1 l0_1.length c0_1] 25 (0, 0)) (bU BK226.out) hb)
               have n15_ := aM (blk_below (g := gb227) (o := .cells #[.int .i64 a1_0, .int .i64 a1_1, .int .i64 a1_2, .int .i64 a1_3] 27 (0, 0)) (bU BK227.out) hb)
               have n16_ := aM (blk_below (g := gb246) (o := .cells #[.slice Ao85 t239.length co85, .slice Ao86 t242.length co86] 31 (0, 0)) (bU BK246.out) hb)
               have n17_ := aM (blk_below (g := gb253) (o := .cells #[.slice Ao60 t247.length co60, .slice Ao65 t250.length co65] 31 (0, 0)) (bU BK253.out) hb)
               have n18_ := aM (blk_below (g := gb265) (o := .cells #[.slice Ao83 t258.length co83, .slice Ao84 t261.length co84] 31 (0, 0)) (bU BK265.out) hb)
               have n19_ := aM (below_step (by repeat (first | (with_reducible first | exact HB.out | apply aL | apply dN | apply dR | refine sT ?_ GE226.out | refine sT ?_ GE227.out | refine sT ?_ GE246.out | refine sT ?_ GE253.out | refine sT ?_ GE265.out) | exact HB.out)) hb)
               have z_BK299 := fun (h0_ : b 8 = true) (h1_ : b 9 = false) => (show w108.heap[gb299]? = some (.cells #[.slice none 0 0, .slice none 0 0] 31 (0, 0)) from by first | exact (blk_below (g := gb299) (o := .cells #[.slice none 0 0, .slice none 0 0] 31 (0, 0)) (bU (Q_BK299 h0_ h1_)) hb))
               clear HO231
               clear HO234
               clear HO241
               clear HO244
               clear HO249
               clear HO252
               clear HO260
               clear HO263
               clear HO269
               clear HO272
               clear HO284
               clear HO287
               clear BK226
               clear BK227
               clear BK246
               clear BK253
               clear BK265
               clear HB
               have HO231 := n0_
               have HO234 := n1_
               have HO241 := n2_
               have HO244 := n3_
               have HO249 := n4_
               have HO252 := n5_
               have HO260 := n6_
               have HO263 := n7_
               have HO269 := n8_
               have HO272 := n9_
               have HO284 := n10_
               have HO287 := n11_
               have HO294 := n12_
               have HO297 := n13_
               have BK226 := n14_
               have BK227 := n15_
               have BK246 := n16_
               have BK253 := n17_
               have BK265 := n18_
               have HB := n19_
               clear n0_ n1_ n2_ n3_ n4_ n5_ n6_ n7_ n8_ n9_ n10_ n11_ n12_ n13_ n14_ n15_ n16_ n17_ n18_ n19_
               (try clear hb)
               (try clear hb2)
               (try clear hk)
               (try clear hi)
               (try clear ho0)
               (try clear ho1)
               refine hK.out _ _ ⟨.slice Ao106 t282.length co106, .slice Ao107 t285.length co107, v293, v296, gb299, m1_, (.tuple #[.agg #[v293, v296], .bool t298]), m5_, m6_, m8_, (by rw [ha.out]; exact putSel_upk 4 hb_ rfl rfl rfl), (rU (Kd.R_mono HO231.out (by first | exact fun _ hk => ⟨hk.1.1, ⟨hk.1.2.1, ⟨hk.1.2.2.1, ⟨hk.1.2.2.2.1, ⟨hk.1.2.2.2.2, hk.2⟩⟩⟩⟩⟩ | grind))), (rU (Kd.R_mono HO234.out (by first | exact fun _ hk => ⟨hk.1.1, ⟨hk.1.2.1, ⟨hk.1.2.2.1, ⟨hk.1.2.2.2.1, ⟨hk.1.2.2.2.2, hk.2⟩⟩⟩⟩⟩ | grind))), (rU (Kd.R_mono HO241.out (by first | exact fun _ hk => ⟨hk.1.1, ⟨hk.1.2.1, ⟨hk.1.2.2.1, ⟨hk.1.2.2.2.1, ⟨hk.1.2.2.2.2, hk.2⟩⟩⟩⟩⟩ | grind))), (rU (Kd.R_mono HO244.out (by first | exact fun _ hk => ⟨hk.1.1, ⟨hk.1.2.1, ⟨hk.1.2.2.1, ⟨hk.1.2.2.2.1, ⟨hk.1.2.2.2.2, hk.2⟩⟩⟩⟩⟩ | grind))), (rU (Kd.R_mono HO249.out (by first | exact fun _ hk => ⟨hk.1.1, ⟨hk.1.2.1, ⟨hk.1.2.2.1, ⟨hk.1.2.2.2.1, ⟨hk.1.2.2.2.2, hk.2⟩⟩⟩⟩⟩ | grind))), (rU (Kd.R_mono HO252.out (by first | exact fun _ hk => ⟨hk.1.1, ⟨hk.1.2.1, ⟨hk.1.2.2.1, ⟨hk.1.2.2.2.1, ⟨hk.1.2.2.2.2, hk.2⟩⟩⟩⟩⟩ | grind))), (rU (Kd.R_mono HO260.out (by first | exact fun _ hk => ⟨hk.1.1, ⟨hk.1.2.1, ⟨hk.1.2.2.1, ⟨hk.1.2.2.2.1, ⟨hk.1.2.2.2.2, hk.2⟩⟩⟩⟩⟩ | grind))), (rU (Kd.R_mono HO263.out (by first | exact fun _ hk => ⟨hk.1.1, ⟨hk.1.2.1, ⟨hk.1.2.2.1, ⟨hk.1.2.2.2.1, ⟨hk.1.2.2.2.2, hk.2⟩⟩⟩⟩⟩ | grind))), (rU (Kd.R_mono HO269.out (by first | exact fun _ hk => ⟨hk.1.1, ⟨hk.1.2.1, ⟨hk.1.2.2.1, ⟨hk.1.2.2.2.1, ⟨hk.1.2.2.2.2, hk.2⟩⟩⟩⟩⟩ | grind))), (rU (Kd.R_mono HO272.out (by first | exact fun _ hk => ⟨hk.1.1, ⟨hk.1.2.1, ⟨hk.1.2.2.1, ⟨hk.1.2.2.2.1, ⟨hk.1.2.2.2.2, hk.2⟩⟩⟩⟩⟩ | grind))), (bU BK226.out), (bU BK227.out), (bU BK246.out), (bU BK253.out), (bU BK265.out), (by repeat (first | (with_reducible first | exact HB.out | apply aL | apply dN | apply dR | refine sT ?_ GE226.out | refine sT ?_ GE227.out | refine sT ?_ GE246.out | refine sT ?_ GE253.out | refine sT ?_ GE265.out) | exact HB.out)), fun _ => (rU (Kd.R_mono HO284.out (by first | exact fun _ hk => ⟨hk.1.1, ⟨hk.1.2.1, ⟨hk.1.2.2.1, ⟨hk.1.2.2.2.1, ⟨hk.1.2.2.2.2, hk.2⟩⟩⟩⟩⟩ | grind))), fun _ => (rU (Kd.R_mono HO287.out (by first | exact fun _ hk => ⟨hk.1.1, ⟨hk.1.2.1, ⟨hk.1.2.2.1, ⟨hk.1.2.2.2.1, ⟨hk.1.2.2.2.2, hk.2⟩⟩⟩⟩⟩ | grind))), fun _ => (rU (Kd.R_mono HO294.out (by first | exact fun _ hk => ⟨hk.1.1.1.1.1.2, ⟨hk.1.1.1.1.2, ⟨hk.1.1.1.2, ⟨hk.1.1.2, ⟨hk.1.2, hk.2⟩⟩⟩⟩⟩ | grind))), fun _ => (rU (Kd.R_mono HO297.out (by first | exact fun _ hk => ⟨hk.1.1.1.1.1.2, ⟨hk.1.1.1.1.2, ⟨hk.1.1.1.2, ⟨hk.1.1.2, ⟨hk.1.2, hk.2⟩⟩⟩⟩⟩ | grind))), z_BK299, Q_GW299, Q_GE299, Q_NB226_299, Q_NB299_226, Q_NB227_299, Q_NB299_227, Q_NB246_299, Q_NB299_246, Q_NB253_299, Q_NB299_253, Q_NB265_299, Q_NB299_265, nB (hoff 9 (by kernel_rfl)), Q_X1_, fun _ => rfl, nB (hoff 5 (by kernel_rfl)), nB (hoff 6 (by kernel_rfl)), Q_X8_⟩
              refine steps_cons ?_ ?_
              ·rintro b a w' ⟨v283, v286, v293, v296, gb299, m1_, m4_, m5_, m6_, m8_, ha, Q_HO231, Q_HO234, Q_HO241, Q_HO244, Q_HO249, Q_HO252, Q_HO260, Q_HO263, Q_HO269, Q_HO272, Q_BK226, Q_BK227, Q_BK246, Q_BK253, Q_BK265, Q_HB, Q_HO284, Q_HO287, Q_HO294, Q_HO297, Q_BK299, Q_GW299, Q_GE299, Q_NB226_299, Q_NB299_226, Q_NB227_299, Q_NB299_227, Q_NB246_299, Q_NB299_246, Q_NB253_299, Q_NB299_253, Q_NB265_299, Q_NB299_265, Q_BK299_e9, Q_X1_, Q_X4_, Q_X5_, Q_X6_, Q_X8_⟩ hb_ hon hoff
               refine ⟨_, rfl, fun K hK => ?_⟩
               have e84 : a.tmps[84]? = some (m4_) := by rw [ha]; exact putSel_on (e := (4, 84, m4_)) 4 rfl rfl (hon 4 (by kernel_rfl)) rfl
               rw [Q_X4_ (hon 4 (by kernel_rfl))] at e84
               replace ha := aM ha
               have HO231 := aM Q_HO231
               have HO234 := aM Q_HO234
               have HO241 := aM Q_HO241
               have HO244 := aM Q_HO244
               have HO249 := aM Q_HO249
               have HO252 := aM Q_HO252
               have HO260 := aM Q_HO260
               have HO263 := aM Q_HO263
               have HO269 := aM Q_HO269
               have HO272 := aM Q_HO272
               have BK226 := aM Q_BK226
               have BK227 := aM Q_BK227
               have BK246 := aM Q_BK246
               have BK253 := aM Q_BK253
               have BK265 := aM Q_BK265
               have HB := aM Q_HB
               have HO284 := aM (Q_HO284 (hon 1 (by kernel_rfl)))
               have HO287 := aM (Q_HO287 (hon 1 (by kernel_rfl)))
               have HO294 := aM (Q_HO294 (hon 4 (by kernel_rfl)))
               have HO297 := aM (Q_HO297 (hon 4 (by kernel_rfl)))
               refine value_ (w1 := w') (v := .tuple #[.agg #[v293, v296], .bool t298]) (by rfl) rfl ?_ ?_
               ·go_simp
                (try simp only [i64_w])
                try rfl
               refine hK.out _ _ ⟨v283, v286, v293, v296, gb299, m1_, m4_, (.tuple #[.agg #[v293, v296], .bool t298]), m6_, m8_, (by rw [ha.out]; exact putSel_upk 5 hb_ rfl rfl rfl), Q_HO231, Q_HO234, Q_HO241, Q_HO244, Q_HO249, Q_HO252, Q_HO260, Q_HO263, Q_HO269, Q_HO272, Q_BK226, Q_BK227, Q_BK246, Q_BK253, Q_BK265, Q_HB, Q_HO284, Q_HO287, Q_HO294, Q_HO297, Q_BK299, Q_GW299, Q_GE299, Q_NB226_299, Q_NB299_226, Q_NB227_299, Q_NB299_227, Q_NB246_299, Q_NB299_246, Q_NB253_299, Q_NB299_253, Q_NB265_299, Q_NB299_265, nB (hoff 9 (by kernel_rfl)), Q_X1_, Q_X4_, fun _ => rfl, nB (hoff 6 (by kernel_rfl)), Q_X8_⟩
              refine steps_cons ?_ ?_
              ·rintro b a w' ⟨v283, v286, v293, v296, gb299, m1_, m4_, m5_, m6_, m8_, ha, Q_HO231, Q_HO234, Q_HO241, Q_HO244, Q_HO249, Q_HO252, Q_HO260, Q_HO263, Q_HO269, Q_HO272, Q_BK226, Q_BK227, Q_BK246, Q_BK253, Q_BK265, Q_HB, Q_HO284, Q_HO287, Q_HO294, Q_HO297, Q_BK299, Q_GW299, Q_GE299, Q_NB226_299, Q_NB299_226, Q_NB227_299, Q_NB299_227, Q_NB246_299, Q_NB299_246, Q_NB253_299, Q_NB299_253, Q_NB265_299, Q_NB299_265, Q_BK299_e9, Q_X1_, Q_X4_, Q_X5_, Q_X6_, Q_X8_⟩ hb_ hon hoff
               refine ⟨_, rfl, fun K hK => ?_⟩
               have e79 : a.tmps[79]? = some (m5_) := by rw [ha]; exact putSel_on (e := (5, 79, m5_)) 5 rfl rfl (hon 5 (by kernel_rfl)) rfl
               rw [Q_X5_ (hon 5 (by kernel_rfl))] at e79
               replace ha := aM ha
               have HO231 := aM Q_HO231
               have HO234 := aM Q_HO234
               have HO241 := aM Q_HO241
               have HO244 := aM Q_HO244
               have HO249 := aM Q_HO249
               have HO252 := aM Q_HO252
               have HO260 := aM Q_HO260
               have HO263 := aM Q_HO263
               have HO269 := aM Q_HO269
               have HO272 := aM Q_HO272
               have BK226 := aM Q_BK226
               have BK227 := aM Q_BK227
               have BK246 := aM Q_BK246
               have BK253 := aM Q_BK253
               have BK265 := aM Q_BK265
               have HB := aM Q_HB
               have HO284 := aM (Q_HO284 (hon 1 (by kernel_rfl)))
               have HO287 := aM (Q_HO287 (hon 1 (by kernel_rfl)))
               have HO294 := aM (Q_HO294 (hon 4 (by kernel_rfl)))
               have HO297 := aM (Q_HO297 (hon 4 (by kernel_rfl)))
               refine value_ (w1 := w') (v := .agg #[v293, v296]) (by rfl) rfl ?_ ?_
               ·go_simp
                (try simp only [i64_w])
                try rfl
               refine hK.out _ _ ⟨v283, v286, v293, v296, gb299, m1_, m4_, m5_, (.agg #[v293, v296]), m8_, (by rw [ha.out]; exact putSel_upk 6 hb_ rfl rfl rfl), Q_HO231, Q_HO234, Q_HO241, Q_HO244, Q_HO249, Q_HO252, Q_HO260, Q_HO263, Q_HO269, Q_HO272, Q_BK226, Q_BK227, Q_BK246, Q_BK253, Q_BK265, Q_HB, Q_HO284, Q_HO287, Q_HO294, Q_HO297, Q_BK299, Q_GW299, Q_GE299, Q_NB226_299, Q_NB299_226, Q_NB227_299, Q_NB299_227, Q_NB246_299, Q_NB299_246, Q_NB253_299, Q_NB299_253, Q_NB265_299, Q_NB299_265, nB (hoff 9 (by kernel_rfl)), Q_X1_, Q_X4_, Q_X5_, fun _ => rfl, Q_X8_⟩
              refine steps_cons ?_ ?_
              ·rintro b a w' ⟨v283, v286, v293, v296, gb299, m1_, m4_, m5_, m6_, m8_, ha, Q_HO231, Q_HO234, Q_HO241, Q_HO244, Q_HO249, Q_HO252, Q_HO260, Q_HO263, Q_HO269, Q_HO272, Q_BK226, Q_BK227, Q_BK246, Q_BK253, Q_BK265, Q_HB, Q_HO284, Q_HO287, Q_HO294, Q_HO297, Q_BK299, Q_GW299, Q_GE299, Q_NB226_299, Q_NB299_226, Q_NB227_299, Q_NB299_227, Q_NB246_299, Q_NB299_246, Q_NB253_299, Q_NB299_253, Q_NB265_299, Q_NB299_265, Q_BK299_e9, Q_X1_, Q_X4_, Q_X5_, Q_X6_, Q_X8_⟩ hb_ hon hoff
               refine ⟨_, rfl, fun K hK => ?_⟩
               have e79 : a.tmps[79]? = some (m5_) := by rw [ha]; exact putSel_on (e := (5, 79, m5_)) 5 rfl rfl (hon 5 (by kernel_rfl)) rfl
               rw [Q_X5_ (hon 5 (by kernel_rfl))] at e79
               replace ha := aM ha
               have HO231 := aM Q_HO231
               have HO234 := aM Q_HO234
               have HO241 := aM Q_HO241
               have HO244 := aM Q_HO244
               have HO249 := aM Q_HO249
               have HO252 := aM Q_HO252
               have HO260 := aM Q_HO260
               have HO263 := aM Q_HO263
               have HO269 := aM Q_HO269
               have HO272 := aM Q_HO272
               have BK226 := aM Q_BK226
               have BK227 := aM Q_BK227
               have BK246 := aM Q_BK246
               have BK253 := aM Q_BK253
               have BK265 := aM Q_BK265
               have HB := aM Q_HB
               have HO284 := aM (Q_HO284 (hon 1 (by kernel_rfl)))
               have HO287 := aM (Q_HO287 (hon 1 (by kernel_rfl)))
               have HO294 := aM (Q_HO294 (hon 4 (by kernel_rfl)))
               have HO297 := aM (Q_HO297 (hon 4 (by kernel_rfl)))
               refine value_ (w1 := w') (v := .bool t298) (by rfl) rfl ?_ ?_
               ·go_simp
                (try simp only [i64_w])
                try rfl
               refine hK.out _ _ ⟨v283, v286, v293, v296, gb299, m1_, m4_, m5_, m6_, m8_, (by rw [ha.out]; exact putSel_upk 7 hb_ rfl rfl rfl), Q_HO231, Q_HO234, Q_HO241, Q_HO244, Q_HO249, Q_HO252, Q_HO260, Q_HO263, Q_HO269, Q_HO272, Q_BK226, Q_BK227, Q_BK246, Q_BK253, Q_BK265, Q_HB, Q_HO284, Q_HO287, Q_HO294, Q_HO297, Q_BK299, Q_GW299, Q_GE299, Q_NB226_299, Q_NB299_226, Q_NB227_299, Q_NB299_227, Q_NB246_299, Q_NB299_246, Q_NB253_299, Q_NB299_253, Q_NB265_299, Q_NB299_265, Q_BK299_e9, Q_X1_, Q_X4_, Q_X5_, Q_X6_, Q_X8_⟩
              refine steps_cons ?_ ?_
              ·rintro b a w' ⟨v283, v286, v293, v296, gb299, m1_, m4_, m5_, m6_, m8_, ha, Q_HO231, Q_HO234, Q_HO241, Q_HO244, Q_HO249, Q_HO252, Q_HO260, Q_HO263, Q_HO269, Q_HO272, Q_BK226, Q_BK227, Q_BK246, Q_BK253, Q_BK265, Q_HB, Q_HO284, Q_HO287, Q_HO294, Q_HO297, Q_BK299, Q_GW299, Q_GE299, Q_NB226_299, Q_NB299_226, Q_NB227_299, Q_NB299_227, Q_NB246_299, Q_NB299_246, Q_NB253_299, Q_NB299_253, Q_NB265_299, Q_NB299_265, Q_BK299_e9, Q_X1_, Q_X4_, Q_X5_, Q_X6_, Q_X8_⟩ hb_ hon hoff
               refine ⟨_, rfl, fun K hK => ?_⟩
               replace ha := aM ha
               have HO231 := aM Q_HO231
               have HO234 := aM Q_HO234
               have HO241 := aM Q_HO241
               have HO244 := aM Q_HO244
               have HO249 := aM Q_HO249
               have HO252 := aM Q_HO252
               have HO260 := aM Q_HO260
               have HO263 := aM Q_HO263
               have HO269 := aM Q_HO269
               have HO272 := aM Q_HO272
               have BK226 := aM Q_BK226
               have BK227 := aM Q_BK227
               have BK246 := aM Q_BK246
               have BK253 := aM Q_BK253
               have BK265 := aM Q_BK265
               have HB := aM Q_HB
               refine box_step ?hg (N := 14) ?hd (cs := #[.slice none 0 0, .slice none 0 0]) (t := 31) ?hr ?_; (case hd => rfl); (case hg => rfl); (case hr => first | (go_simp; done) | (go_simp; rfl))
               intro gb299 hg w103 hbox hb
               have n0_ := aM (Kd.R_below (rU HO231.out) hb)
               have n1_ := aM (Kd.R_below (rU HO234.out) hb)
               have n2_ := aM (Kd.R_below (rU HO241.out) hb)
               have n3_ := aM (Kd.R_below (rU HO244.out) hb)
               have n4_ := aM (Kd.R_below (rU HO249.out) hb)
               have n5_ := aM (Kd.R_below (rU HO252.out) hb)
               have n6_ := aM (Kd.R_below (rU HO260.out) hb)
               have n7_ := aM (Kd.R_below (rU HO263.out) hb)
               have n8_ := aM (Kd.R_below (rU HO269.out) hb)
               have n9_ := aM (Kd.R_below (rU HO272.out) hb)
               have n10_ := aM (blk_below (g := gb226) (o := .cells #[.slice A0_0 l0_0.length c0_0, .slice A0_1 l0_1.length c0_1] 25 (0, 0)) (bU BK226.out) hb)
               have n11_ := aM (blk_below (g := gb227) (o := .cells #[.int .i64 a1_0, .int .i64 a1_1, .int .i64 a1_2, .int .i64 a1_3] 27 (0, 0)) (bU BK227.out) hb)
               have n12_ := aM (blk_below (g := gb246) (o := .cells #[.slice Ao85 t239.length co85, .slice Ao86 t242.length co86] 31 (0, 0)) (bU BK246.out) hb)
               have n13_ := aM (blk_below (g := gb253) (o := .cells #[.slice Ao60 t247.length co60, .slice Ao65 t250.length co65] 31 (0, 0)) (bU BK253.out) hb)
               have n14_ := aM (blk_below (g := gb265) (o := .cells #[.slice Ao83 t258.length co83, .slice Ao84 t261.length co84] 31 (0, 0)) (bU BK265.out) hb)
               have n15_ := aM (below_step (by repeat (first | (with_reducible first | exact HB.out | apply aL | apply dN | apply dR | refine sT ?_ GE226.out | refine sT ?_ GE227.out | refine sT ?_ GE246.out | refine sT ?_ GE253.out | refine sT ?_ GE265.out) | exact HB.out)) hb)
               have n16_ := aM (hbox)
               have n17_ := aM ((by rw [hg]; exact (below_size (by repeat (first | (with_reducible first | exact HB.out | apply aL | apply dN | apply dR | refine sT ?_ GE226.out | refine sT ?_ GE227.out | refine sT ?_ GE246.out | refine sT ?_ GE253.out | refine sT ?_ GE265.out) | exact HB.out))) : w.heap.size ≤ gb299))
               have n18_ := aM ((by rw [hg]; exact (below_size (by repeat (first | (with_reducible first | exact HB.out | apply aL | apply dN | apply dR | refine sT ?_ GE226.out | refine sT ?_ GE227.out | refine sT ?_ GE246.out | refine sT ?_ GE253.out | refine sT ?_ GE265.out) | exact HB.out))) : w.heap.size ≤ gb299))
               have n19_ := aM ((by rw [hg]; exact Nat.ne_of_lt (blk_lt (g := gb226) (o := .cells #[.slice A0_0 l0_0.length c0_0, .slice A0_1 l0_1.length c0_1] 25 (0, 0)) (bU BK226.out)) : gb226 ≠ gb299))
               have n20_ := aM ((by rw [hg]; exact Nat.ne_of_gt (blk_lt (g := gb226) (o := .cells #[.slice A0_0 l0_0.length c0_0, .slice A0_1 l0_1.length c0_1] 25 (0, 0)) (bU BK226.out)) : gb299 ≠ gb226))
               have n21_ := aM ((by rw [hg]; exact Nat.ne_of_lt (blk_lt (g := gb227) (o := .cells #[.int .i64 a1_0, .int .i64 a1_1, .int .i64 a1_2, .int .i64 a1_3] 27 (0, 0)) (bU BK227.out)) : gb227 ≠ gb299))
               have n22_ := aM ((by rw [hg]; exact Nat.ne_of_gt (blk_lt (g := gb227) (o := .cells #[.int .i64 a1_0, .int .i64 a1_1, .int .i64 a1_2, .int .i64 a1_3] 27 (0, 0)) (bU BK227.out)) : gb299 ≠ gb227))
               have n23_ := aM ((by rw [hg]; exact Nat.ne_of_lt (blk_lt (g := gb246) (o := .cells #[.slice Ao85 t239.length co85, .slice Ao86 t242.length co86] 31 (0, 0)) (bU BK246.out)) : gb246 ≠ gb299))
               have n24_ := aM ((by rw [hg]; exact Nat.ne_of_gt (blk_lt (g := gb246) (o := .cells #[.slice Ao85 t239.length co85, .slice Ao86 t242.length co86] 31 (0, 0)) (bU BK246.out)) : gb299 ≠ gb246))
               have n25_ := aM ((by rw [hg]; exact Nat.ne_of_lt (blk_lt (g := gb253) (o := .cells #[.slice Ao60 t247.length co60, .slice Ao65 t250.length co65] 31 (0, 0)) (bU BK253.out)) : gb253 ≠ gb299))
               have n26_ := aM ((by rw [hg]; exact Nat.ne_of_gt (blk_lt (g := gb253) (o := .cells #[.slice Ao60 t247.length co60, .slice Ao65 t250.length co65] 31 (0, 0)) (bU BK253.out)) : gb299 ≠ gb253))
               have n27_ := aM ((by rw [hg]; exact Nat.ne_of_lt (blk_lt (g := gb265) (o := .cells #[.slice Ao83 t258.length co83, .slice Ao84 t261.length co84] 31 (0, 0)) (bU BK265.out)) : gb265 ≠ gb299))
               have n28_ := aM ((by rw [hg]; exact Nat.ne_of_gt (blk_lt (g := gb265) (o := .cells #[.slice Ao83 t258.length co83, .slice Ao84 t261.length co84] 31 (0, 0)) (bU BK265.out)) : gb299 ≠ gb265))
               have z_HO284 := fun (h0_ : b 1 = true) => (show Kd.R (Kd.int .i64) 3 w103 w.heap.size (fun k_ => some k_ ≠ (v230 : Value).ownBlock ∧ some k_ ≠ (.slice Ao85 t239.length co85 : Value).ownBlock ∧ some k_ ≠ (.slice Ao60 t247.length co60 : Value).ownBlock ∧ some k_ ≠ (.slice Ao83 t258.length co83 : Value).ownBlock ∧ some k_ ≠ (.slice Ao90 t267.length co90 : Value).ownBlock) v283 t282 from by first | exact (Kd.R_below (rU (Q_HO284 h0_)) hb) | exact Kd.R_mono (Kd.R_below (rU (Q_HO284 h0_)) hb) (fun _ h_ => by first | trivial | exact h_ | exact h_.1))
               have z_HO287 := fun (h0_ : b 1 = true) => (show Kd.R k35 35 w103 w.heap.size (fun k_ => some k_ ≠ (v233 : Value).ownBlock ∧ some k_ ≠ (.slice Ao86 t242.length co86 : Value).ownBlock ∧ some k_ ≠ (.slice Ao65 t250.length co65 : Value).ownBlock ∧ some k_ ≠ (.slice Ao84 t261.length co84 : Value).ownBlock ∧ some k_ ≠ (.slice Ao91 t270.length co91 : Value).ownBlock) v286 t285 from by first | exact (Kd.R_below (rU (Q_HO287 h0_)) hb) | exact Kd.R_mono (Kd.R_below (rU (Q_HO287 h0_)) hb) (fun _ h_ => by first | trivial | exact h_ | exact h_.1))
               have z_HO294 := fun (h0_ : b 4 = true) => (show Kd.R (Kd.int .i64) 3 w103 w.heap.size (fun k_ => some k_ ≠ (v230 : Value).ownBlock ∧ some k_ ≠ (.slice Ao85 t239.length co85 : Value).ownBlock ∧ some k_ ≠ (.slice Ao60 t247.length co60 : Value).ownBlock ∧ some k_ ≠ (.slice Ao83 t258.length co83 : Value).ownBlock ∧ some k_ ≠ (.slice Ao90 t267.length co90 : Value).ownBlock) v293 t292 from by first | exact (Kd.R_below (rU (Q_HO294 h0_)) hb) | exact Kd.R_mono (Kd.R_below (rU (Q_HO294 h0_)) hb) (fun _ h_ => by first | trivial | exact h_ | exact h_.1))
               have z_HO297 := fun (h0_ : b 4 = true) => (show Kd.R k35 35 w103 w.heap.size (fun k_ => some k_ ≠ (v233 : Value).ownBlock ∧ some k_ ≠ (.slice Ao86 t242.length co86 : Value).ownBlock ∧ some k_ ≠ (.slice Ao65 t250.length co65 : Value).ownBlock ∧ some k_ ≠ (.slice Ao84 t261.length co84 : Value).ownBlock ∧ some k_ ≠ (.slice Ao91 t270.length co91 : Value).ownBlock) v296 t295 from by first | exact (Kd.R_below (rU (Q_HO297 h0_)) hb) | exact Kd.R_mono (Kd.R_below (rU (Q_HO297 h0_)) hb) (fun _ h_ => by first | trivial | exact h_ | exact h_.1))
               clear HO231
               clear HO234
               clear HO241
               clear HO244
               clear HO249
               clear HO252
               clear HO260
               clear HO263
               clear HO269
               clear HO272
               clear BK226
               clear BK227
               clear BK246
               clear BK253
               clear BK265
               clear HB
               have HO231 := n0_
               have HO234 := n1_
               have HO241 := n2_
               have HO244 := n3_
               have HO249 := n4_
               have HO252 := n5_
               have HO260 := n6_
               have HO263 := n7_
               have HO269 := n8_
               have HO272 := n9_
               have BK226 := n10_
               have BK227 := n11_
               have BK246 := n12_
               have BK253 := n13_
               have BK265 := n14_
               have HB := n15_
               have BK299 := n16_
               have GW299 := n17_
               have GE299 := n18_
               have NB226_299 := n19_
               have NB299_226 := n20_
               have NB227_299 := n21_
               have NB299_227 := n22_
               have NB246_299 := n23_
               have NB299_246 := n24_
               have NB253_299 := n25_
               have NB299_253 := n26_
               have NB265_299 := n27_
               have NB299_265 := n28_
               clear n0_ n1_ n2_ n3_ n4_ n5_ n6_ n7_ n8_ n9_ n10_ n11_ n12_ n13_ n14_ n15_ n16_ n17_ n18_ n19_ n20_ n21_ n22_ n23_ n24_ n25_ n26_ n27_ n28_
               clear hb hbox hg
               refine hK.out _ _ ⟨v283, v286, v293, v296, gb299, m1_, m4_, m5_, m6_, (.pointer (some ⟨gb299, 0, none⟩)), (by rw [ha.out]; exact putSel_upk 8 hb_ rfl rfl rfl), (rU HO231.out), (rU HO234.out), (rU HO241.out), (rU HO244.out), (rU HO249.out), (rU HO252.out), (rU HO260.out), (rU HO263.out), (rU HO269.out), (rU HO272.out), (bU BK226.out), (bU BK227.out), (bU BK246.out), (bU BK253.out), (bU BK265.out), (by repeat (first | (with_reducible first | exact HB.out | apply aL | apply dN | apply dR | refine sT ?_ GE226.out | refine sT ?_ GE227.out | refine sT ?_ GE246.out | refine sT ?_ GE253.out | refine sT ?_ GE265.out | refine sT ?_ GE299.out) | exact HB.out)), z_HO284, z_HO287, z_HO294, z_HO297, fun _ _ => (bU BK299.out), fun _ => GW299.out, fun _ => GE299.out, fun _ => NB226_299.out, fun _ => NB299_226.out, fun _ => NB227_299.out, fun _ => NB299_227.out, fun _ => NB246_299.out, fun _ => NB299_246.out, fun _ => NB253_299.out, fun _ => NB299_253.out, fun _ => NB265_299.out, fun _ => NB299_265.out, nB (hoff 9 (by kernel_rfl)), Q_X1_, Q_X4_, Q_X5_, Q_X6_, fun _ => rfl⟩
              refine steps_cons ?_ ?_
              ·rintro b a w' ⟨v283, v286, v293, v296, gb299, m1_, m4_, m5_, m6_, m8_, ha, Q_HO231, Q_HO234, Q_HO241, Q_HO244, Q_HO249, Q_HO252, Q_HO260, Q_HO263, Q_HO269, Q_HO272, Q_BK226, Q_BK227, Q_BK246, Q_BK253, Q_BK265, Q_HB, Q_HO284, Q_HO287, Q_HO294, Q_HO297, Q_BK299, Q_GW299, Q_GE299, Q_NB226_299, Q_NB299_226, Q_NB227_299, Q_NB299_227, Q_NB246_299, Q_NB299_246, Q_NB253_299, Q_NB299_253, Q_NB265_299, Q_NB299_265, Q_BK299_e9, Q_X1_, Q_X4_, Q_X5_, Q_X6_, Q_X8_⟩ hb_ hon hoff
               refine ⟨_, rfl, fun K hK => ?_⟩
               have e14 : a.tmps[14]? = some (m8_) := by rw [ha]; exact putSel_on (e := (8, 14, m8_)) 8 rfl rfl (hon 8 (by kernel_rfl)) rfl
               rw [Q_X8_ (hon 8 (by kernel_rfl))] at e14
               have e85 : a.tmps[85]? = some (m6_) := by rw [ha]; exact putSel_on (e := (6, 85, m6_)) 6 rfl rfl (hon 6 (by kernel_rfl)) rfl
               rw [Q_X6_ (hon 6 (by kernel_rfl))] at e85
               replace ha := aM ha
               have HO231 := aM Q_HO231
               have HO234 := aM Q_HO234
               have HO241 := aM Q_HO241
               have HO244 := aM Q_HO244
               have HO249 := aM Q_HO249
               have HO252 := aM Q_HO252
               have HO260 := aM Q_HO260
               have HO263 := aM Q_HO263
               have HO269 := aM Q_HO269
               have HO272 := aM Q_HO272
               have BK226 := aM Q_BK226
               have BK227 := aM Q_BK227
               have BK246 := aM Q_BK246
               have BK253 := aM Q_BK253
               have BK265 := aM Q_BK265
               have HB := aM Q_HB
               have HO284 := aM (Q_HO284 (hon 1 (by kernel_rfl)))
               have HO287 := aM (Q_HO287 (hon 1 (by kernel_rfl)))
               have HO294 := aM (Q_HO294 (hon 4 (by kernel_rfl)))
               have HO297 := aM (Q_HO297 (hon 4 (by kernel_rfl)))
               have BK299 := aM (Q_BK299 (hon 8 (by kernel_rfl)) hb_)
               have GW299 := aM (Q_GW299 (hon 8 (by kernel_rfl)))
               have GE299 := aM (Q_GE299 (hon 8 (by kernel_rfl)))
               have NB226_299 := aM (Q_NB226_299 (hon 8 (by kernel_rfl)))
               have NB299_226 := aM (Q_NB299_226 (hon 8 (by kernel_rfl)))
               have NB227_299 := aM (Q_NB227_299 (hon 8 (by kernel_rfl)))
               have NB299_227 := aM (Q_NB299_227 (hon 8 (by kernel_rfl)))
               have NB246_299 := aM (Q_NB246_299 (hon 8 (by kernel_rfl)))
               have NB299_246 := aM (Q_NB299_246 (hon 8 (by kernel_rfl)))
               have NB253_299 := aM (Q_NB253_299 (hon 8 (by kernel_rfl)))
               have NB299_253 := aM (Q_NB299_253 (hon 8 (by kernel_rfl)))
               have NB265_299 := aM (Q_NB265_299 (hon 8 (by kernel_rfl)))
               have NB299_265 := aM (Q_NB299_265 (hon 8 (by kernel_rfl)))
               obtain ⟨Ao110, co110, eo110⟩ := Kd.R_slice HO294.out
               (first | subst eo110 | (injection eo110 with f1_ f2_ f3_; have f4_ := f1_.symm; have f5_ := f3_.symm; clear f1_ f2_ f3_; subst f4_; subst f5_))
               obtain ⟨Ao112, co112, eo112⟩ := Kd.R_slice HO297.out
               (first | subst eo112 | (injection eo112 with f1_ f2_ f3_; have f4_ := f1_.symm; have f5_ := f3_.symm; clear f1_ f2_ f3_; subst f4_; subst f5_))
               have hs111 : w'.cell? ⟨gb299, 0, none⟩ = some (.slice none 0 0) := (blk_cell BK299.out 0).trans rfl
               have hfs111 := blk_frozen BK299.out 0
               have hns111_0 := NB226_299.out
               have hns111_1 := NB227_299.out
               have hns111_2 := NB246_299.out
               have hns111_3 := NB253_299.out
               have hns111_4 := NB265_299.out
               have hms111_0 := NB299_226.out
               have hms111_1 := NB299_227.out
               have hms111_2 := NB299_246.out
               have hms111_3 := NB299_253.out
               have hms111_4 := NB299_265.out
               have hs113 : w'.cell? ⟨gb299, 1, none⟩ = some (.slice none 0 0) := (blk_cell BK299.out 1).trans rfl
               have hfs113 := blk_frozen BK299.out 1
               have hns113_0 := NB226_299.out
               have hns113_1 := NB227_299.out
               have hns113_2 := NB246_299.out
               have hns113_3 := NB253_299.out
               have hns113_4 := NB265_299.out
               have hms113_0 := NB299_226.out
               have hms113_1 := NB299_227.out
               have hms113_2 := NB299_246.out
               have hms113_3 := NB299_253.out
               have hms113_4 := NB299_265.out
               refine skip_ (w1 := ?_) (by rfl) rfl ?_ ?_
               rotate_left
               ·go_simp
                rfl
               refine hK.out _ _ ⟨v283, v286, .slice Ao110 t292.length co110, .slice Ao112 t295.length co112, gb299, m1_, m4_, m5_, m6_, m8_, (by rw [ha.out]; exact putSel_none (v := undef) rfl), (rU (Kd.R_mono (Kd.R_far (p := ⟨gb299, 1, none⟩) (Kd.R_far (p := ⟨gb299, 0, none⟩) (Kd.R_types HO231.out BK299.out (by decide)) (by first | exact fun _ hk => hk.2 | grind) (.slice Ao110 t292.length co110)) (by first | exact fun _ hk => hk.2 | grind) (.slice Ao112 t295.length co112)) (by first | exact fun _ hk => ⟨hk.1.1, ⟨hk.1.2.1, ⟨hk.1.2.2.1, ⟨hk.1.2.2.2.1, ⟨hk.1.2.2.2.2.1, hk.1.2.2.2.2.2⟩⟩⟩⟩⟩ | grind))), (rU (Kd.R_mono (Kd.R_far (p := ⟨gb299, 1, none⟩) (Kd.R_far (p := ⟨gb299, 0, none⟩) (Kd.R_types HO234.out BK299.out (by decide)) (by first | exact fun _ hk => hk.2 | grind) (.slice Ao110 t292.length co110)) (by first | exact fun _ hk => hk.2 | grind) (.slice Ao112 t295.length co112)) (by first | exact fun _ hk => ⟨hk.1.1, ⟨hk.1.2.1, ⟨hk.1.2.2.1, ⟨hk.1.2.2.2.1, ⟨hk.1.2.2.2.2.1, hk.1.2.2.2.2.2⟩⟩⟩⟩⟩ | grind))), (rU (Kd.R_mono (Kd.R_far (p := ⟨gb299, 1, none⟩) (Kd.R_far (p := ⟨gb299, 0, none⟩) (Kd.R_types HO241.out BK299.out (by decide)) (by first | exact fun _ hk => hk.2 | grind) (.slice Ao110 t292.length co110)) (by first | exact fun _ hk => hk.2 | grind) (.slice Ao112 t295.length co112)) (by first | exact fun _ hk => ⟨hk.1.1, ⟨hk.1.2.1, ⟨hk.1.2.2.1, ⟨hk.1.2.2.2.1, ⟨hk.1.2.2.2.2.1, hk.1.2.2.2.2.2⟩⟩⟩⟩⟩ | grind))), (rU (Kd.R_mono (Kd.R_far (p := ⟨gb299, 1, none⟩) (Kd.R_far (p := ⟨gb299, 0, none⟩) (Kd.R_types HO244.out BK299.out (by decide)) (by first | exact fun _ hk => hk.2 | grind) (.slice Ao110 t292.length co110)) (by first | exact fun _ hk => hk.2 | grind) (.slice Ao112 t295.length co112)) (by first | exact fun _ hk => ⟨hk.1.1, ⟨hk.1.2.1, ⟨hk.1.2.2.1, ⟨hk.1.2.2.2.1, ⟨hk.1.2.2.2.2.1, hk.1.2.2.2.2.2⟩⟩⟩⟩⟩ | grind))), (rU (Kd.R_mono (Kd.R_far (p := ⟨gb299, 1, none⟩) (Kd.R_far (p := ⟨gb299, 0, none⟩) (Kd.R_types HO249.out BK299.out (by decide)) (by first | exact fun _ hk => hk.2 | grind) (.slice Ao110 t292.length co110)) (by first | exact fun _ hk => hk.2 | grind) (.slice Ao112 t295.length co112)) (by first | exact fun _ hk => ⟨hk.1.1, ⟨hk.1.2.1, ⟨hk.1.2.2.1, ⟨hk.1.2.2.2.1, ⟨hk.1.2.2.2.2.1, hk.1.2.2.2.2.2⟩⟩⟩⟩⟩ | grind))), (rU (Kd.R_mono (Kd.R_far (p := ⟨gb299, 1, none⟩) (Kd.R_far (p := ⟨gb299, 0, none⟩) (Kd.R_types HO252.out BK299.out (by decide)) (by first | exact fun _ hk => hk.2 | grind) (.slice Ao110 t292.length co110)) (by first | exact fun _ hk => hk.2 | grind) (.slice Ao112 t295.length co112)) (by first | exact fun _ hk => ⟨hk.1.1, ⟨hk.1.2.1, ⟨hk.1.2.2.1, ⟨hk.1.2.2.2.1, ⟨hk.1.2.2.2.2.1, hk.1.2.2.2.2.2⟩⟩⟩⟩⟩ | grind))), (rU (Kd.R_mono (Kd.R_far (p := ⟨gb299, 1, none⟩) (Kd.R_far (p := ⟨gb299, 0, none⟩) (Kd.R_types HO260.out BK299.out (by decide)) (by first | exact fun _ hk => hk.2 | grind) (.slice Ao110 t292.length co110)) (by first | exact fun _ hk => hk.2 | grind) (.slice Ao112 t295.length co112)) (by first | exact fun _ hk => ⟨hk.1.1, ⟨hk.1.2.1, ⟨hk.1.2.2.1, ⟨hk.1.2.2.2.1, ⟨hk.1.2.2.2.2.1, hk.1.2.2.2.2.2⟩⟩⟩⟩⟩ | grind))), (rU (Kd.R_mono (Kd.R_far (p := ⟨gb299, 1, none⟩) (Kd.R_far (p := ⟨gb299, 0, none⟩) (Kd.R_types HO263.out BK299.out (by decide)) (by first | exact fun _ hk => hk.2 | grind) (.slice Ao110 t292.length co110)) (by first | exact fun _ hk => hk.2 | grind) (.slice Ao112 t295.length co112)) (by first | exact fun _ hk => ⟨hk.1.1, ⟨hk.1.2.1, ⟨hk.1.2.2.1, ⟨hk.1.2.2.2.1, ⟨hk.1.2.2.2.2.1, hk.1.2.2.2.2.2⟩⟩⟩⟩⟩ | grind))), (rU (Kd.R_mono (Kd.R_far (p := ⟨gb299, 1, none⟩) (Kd.R_far (p := ⟨gb299, 0, none⟩) (Kd.R_types HO269.out BK299.out (by decide)) (by first | exact fun _ hk => hk.2 | grind) (.slice Ao110 t292.length co110)) (by first | exact fun _ hk => hk.2 | grind) (.slice Ao112 t295.length co112)) (by first | exact fun _ hk => ⟨hk.1.1, ⟨hk.1.2.1, ⟨hk.1.2.2.1, ⟨hk.1.2.2.2.1, ⟨hk.1.2.2.2.2.1, hk.1.2.2.2.2.2⟩⟩⟩⟩⟩ | grind))), (rU (Kd.R_mono (Kd.R_far (p := ⟨gb299, 1, none⟩) (Kd.R_far (p := ⟨gb299, 0, none⟩) (Kd.R_types HO272.out BK299.out (by decide)) (by first | exact fun _ hk => hk.2 | grind) (.slice Ao110 t292.length co110)) (by first | exact fun _ hk => hk.2 | grind) (.slice Ao112 t295.length co112)) (by first | exact fun _ hk => ⟨hk.1.1, ⟨hk.1.2.1, ⟨hk.1.2.2.1, ⟨hk.1.2.2.2.1, ⟨hk.1.2.2.2.2.1, hk.1.2.2.2.2.2⟩⟩⟩⟩⟩ | grind))), (by (with_reducible repeat (first | refine blk_drewN ?_ _ | refine blk_drew ?_ | refine blk_alloc ?_ _)); refine blk_far ?_ NB226_299.out _; (with_reducible repeat (first | refine blk_drewN ?_ _ | refine blk_drew ?_ | refine blk_alloc ?_ _)); refine blk_far ?_ NB226_299.out _; (with_reducible repeat (first | refine blk_drewN ?_ _ | refine blk_drew ?_ | refine blk_alloc ?_ _)); exact BK226.out), (by (with_reducible repeat (first | refine blk_drewN ?_ _ | refine blk_drew ?_ | refine blk_alloc ?_ _)); refine blk_far ?_ NB227_299.out _; (with_reducible repeat (first | refine blk_drewN ?_ _ | refine blk_drew ?_ | refine blk_alloc ?_ _)); refine blk_far ?_ NB227_299.out _; (with_reducible repeat (first | refine blk_drewN ?_ _ | refine blk_drew ?_ | refine blk_alloc ?_ _)); exact BK227.out), (by (with_reducible repeat (first | refine blk_drewN ?_ _ | refine blk_drew ?_ | refine blk_alloc ?_ _)); refine blk_far ?_ NB246_299.out _; (with_reducible repeat (first | refine blk_drewN ?_ _ | refine blk_drew ?_ | refine blk_alloc ?_ _)); refine blk_far ?_ NB246_299.out _; (with_reducible repeat (first | refine blk_drewN ?_ _ | refine blk_drew ?_ | refine blk_alloc ?_ _)); exact BK246.out), (by (with_reducible repeat (first | refine blk_drewN ?_ _ | refine blk_drew ?_ | refine blk_alloc ?_ _)); refine blk_far ?_ NB253_299.out _; (with_reducible repeat (first | refine blk_drewN ?_ _ | refine blk_drew ?_ | refine blk_alloc ?_ _)); refine blk_far ?_ NB253_299.out _; (with_reducible repeat (first | refine blk_drewN ?_ _ | refine blk_drew ?_ | refine blk_alloc ?_ _)); exact BK253.out), (by (with_reducible repeat (first | refine blk_drewN ?_ _ | refine blk_drew ?_ | refine blk_alloc ?_ _)); refine blk_far ?_ NB265_299.out _; (with_reducible repeat (first | refine blk_drewN ?_ _ | refine blk_drew ?_ | refine blk_alloc ?_ _)); refine blk_far ?_ NB265_299.out _; (with_reducible repeat (first | refine blk_drewN ?_ _ | refine blk_drew ?_ | refine blk_alloc ?_ _)); exact BK265.out), (by repeat (first | (with_reducible first | exact HB.out | apply aL | apply dN | apply dR | refine sT ?_ GE226.out | refine sT ?_ GE227.out | refine sT ?_ GE246.out | refine sT ?_ GE253.out | refine sT ?_ GE265.out | refine sT ?_ GE299.out) | exact HB.out)), fun _ => (rU (Kd.R_mono (Kd.R_far (p := ⟨gb299, 1, none⟩) (Kd.R_far (p := ⟨gb299, 0, none⟩) (Kd.R_types HO284.out BK299.out (by decide)) (by first | exact fun _ hk => hk.2 | grind) (.slice Ao110 t292.length co110)) (by first | exact fun _ hk => hk.2 | grind) (.slice Ao112 t295.length co112)) (by first | exact fun _ hk => ⟨hk.1.1, ⟨hk.1.2.1, ⟨hk.1.2.2.1, ⟨hk.1.2.2.2.1, ⟨hk.1.2.2.2.2.1, hk.1.2.2.2.2.2⟩⟩⟩⟩⟩ | grind))), fun _ => (rU (Kd.R_mono (Kd.R_far (p := ⟨gb299, 1, none⟩) (Kd.R_far (p := ⟨gb299, 0, none⟩) (Kd.R_types HO287.out BK299.out (by decide)) (by first | exact fun _ hk => hk.2 | grind) (.slice Ao110 t292.length co110)) (by first | exact fun _ hk => hk.2 | grind) (.slice Ao112 t295.length co112)) (by first | exact fun _ hk => ⟨hk.1.1, ⟨hk.1.2.1, ⟨hk.1.2.2.1, ⟨hk.1.2.2.2.1, ⟨hk.1.2.2.2.2.1, hk.1.2.2.2.2.2⟩⟩⟩⟩⟩ | grind))), fun _ => (rU (Kd.R_mono (Kd.R_far (p := ⟨gb299, 1, none⟩) (Kd.R_far (p := ⟨gb299, 0, none⟩) (Kd.R_types HO294.out BK299.out (by decide)) (by first | exact fun _ hk => hk.2 | grind) (.slice Ao110 t292.length co110)) (by first | exact fun _ hk => hk.2 | grind) (.slice Ao112 t295.length co112)) (by first | exact fun _ hk => ⟨hk.1.1, ⟨hk.1.2.1, ⟨hk.1.2.2.1, ⟨hk.1.2.2.2.1, ⟨hk.1.2.2.2.2.1, hk.1.2.2.2.2.2⟩⟩⟩⟩⟩ | grind))), fun _ => (rU (Kd.R_mono (Kd.R_far (p := ⟨gb299, 1, none⟩) (Kd.R_far (p := ⟨gb299, 0, none⟩) (Kd.R_types HO297.out BK299.out (by decide)) (by first | exact fun _ hk => hk.2 | grind) (.slice Ao110 t292.length co110)) (by first | exact fun _ hk => hk.2 | grind) (.slice Ao112 t295.length co112)) (by first | exact fun _ hk => ⟨hk.1.1, ⟨hk.1.2.1, ⟨hk.1.2.2.1, ⟨hk.1.2.2.2.1, ⟨hk.1.2.2.2.2.1, hk.1.2.2.2.2.2⟩⟩⟩⟩⟩ | grind))), fun _ h1_ => absurd ((up_self b 9).symm.trans h1_) (by decide), fun _ => GW299.out, fun _ => GE299.out, fun _ => NB226_299.out, fun _ => NB299_226.out, fun _ => NB227_299.out, fun _ => NB299_227.out, fun _ => NB246_299.out, fun _ => NB299_246.out, fun _ => NB253_299.out, fun _ => NB299_253.out, fun _ => NB265_299.out, fun _ => NB299_265.out, fun _ => (by (with_reducible repeat (first | refine blk_drewN ?_ _ | refine blk_drew ?_ | refine blk_alloc ?_ _)); refine blk_put (cs := #[.slice Ao110 t292.length co110, .slice none 0 0]) ?_ 1 _ rfl; (with_reducible repeat (first | refine blk_drewN ?_ _ | refine blk_drew ?_ | refine blk_alloc ?_ _)); refine blk_put (cs := #[.slice none 0 0, .slice none 0 0]) ?_ 0 _ rfl; (with_reducible repeat (first | refine blk_drewN ?_ _ | refine blk_drew ?_ | refine blk_alloc ?_ _)); exact BK299.out), Q_X1_, Q_X4_, Q_X5_, Q_X6_, Q_X8_⟩
              refine steps_cons ?_ ?_
              ·rintro b a w' ⟨v283, v286, v293, v296, gb299, m1_, m4_, m5_, m6_, m8_, ha, Q_HO231, Q_HO234, Q_HO241, Q_HO244, Q_HO249, Q_HO252, Q_HO260, Q_HO263, Q_HO269, Q_HO272, Q_BK226, Q_BK227, Q_BK246, Q_BK253, Q_BK265, Q_HB, Q_HO284, Q_HO287, Q_HO294, Q_HO297, Q_BK299, Q_GW299, Q_GE299, Q_NB226_299, Q_NB299_226, Q_NB227_299, Q_NB299_227, Q_NB246_299, Q_NB299_246, Q_NB253_299, Q_NB299_253, Q_NB265_299, Q_NB299_265, Q_BK299_e9, Q_X1_, Q_X4_, Q_X5_, Q_X6_, Q_X8_⟩ hb_ hon hoff
               refine ⟨_, rfl, fun K hK => ?_⟩
               have e86 : a.tmps[86]? = some (.bool t298) := by rw [ha]; exact putSel_on (e := (7, 86, .bool t298)) 7 rfl rfl (hon 7 (by kernel_rfl)) rfl
               replace ha := aM ha
               have HO231 := aM Q_HO231
               have HO234 := aM Q_HO234
               have HO241 := aM Q_HO241
               have HO244 := aM Q_HO244
               have HO249 := aM Q_HO249
               have HO252 := aM Q_HO252
               have HO260 := aM Q_HO260
               have HO263 := aM Q_HO263
               have HO269 := aM Q_HO269
               have HO272 := aM Q_HO272
               have BK226 := aM Q_BK226
               have BK227 := aM Q_BK227
               have BK246 := aM Q_BK246
               have BK253 := aM Q_BK253
               have BK265 := aM Q_BK265
               have HB := aM Q_HB
               have HO284 := aM (Q_HO284 (hon 1 (by kernel_rfl)))
               have HO287 := aM (Q_HO287 (hon 1 (by kernel_rfl)))
               have HO294 := aM (Q_HO294 (hon 4 (by kernel_rfl)))
               have HO297 := aM (Q_HO297 (hon 4 (by kernel_rfl)))
               have GW299 := aM (Q_GW299 (hon 8 (by kernel_rfl)))
               have GE299 := aM (Q_GE299 (hon 8 (by kernel_rfl)))
               have NB226_299 := aM (Q_NB226_299 (hon 8 (by kernel_rfl)))
               have NB299_226 := aM (Q_NB299_226 (hon 8 (by kernel_rfl)))
               have NB227_299 := aM (Q_NB227_299 (hon 8 (by kernel_rfl)))
               have NB299_227 := aM (Q_NB299_227 (hon 8 (by kernel_rfl)))
               have NB246_299 := aM (Q_NB246_299 (hon 8 (by kernel_rfl)))
               have NB299_246 := aM (Q_NB299_246 (hon 8 (by kernel_rfl)))
               have NB253_299 := aM (Q_NB253_299 (hon 8 (by kernel_rfl)))
               have NB299_253 := aM (Q_NB299_253 (hon 8 (by kernel_rfl)))
               have NB265_299 := aM (Q_NB265_299 (hon 8 (by kernel_rfl)))
               have NB299_265 := aM (Q_NB299_265 (hon 8 (by kernel_rfl)))
               have BK299 := aM (Q_BK299_e9 (hon 9 (by kernel_rfl)))
               refine value_ (w1 := w') (v := .bool t298) (by rfl) rfl ?_ ?_
               ·go_simp
                (try simp only [i64_w])
                try rfl
               refine hK.out _ _ ⟨v283, v286, v293, v296, gb299, m1_, m4_, m5_, m6_, m8_, (by rw [ha.out]; exact putSel_upk 9 hb_ rfl rfl rfl), Q_HO231, Q_HO234, Q_HO241, Q_HO244, Q_HO249, Q_HO252, Q_HO260, Q_HO263, Q_HO269, Q_HO272, Q_BK226, Q_BK227, Q_BK246, Q_BK253, Q_BK265, Q_HB, Q_HO284, Q_HO287, Q_HO294, Q_HO297, fun _ h1_ => absurd ((hon 9 (by kernel_rfl)).symm.trans h1_) (by decide), Q_GW299, Q_GE299, Q_NB226_299, Q_NB299_226, Q_NB227_299, Q_NB299_227, Q_NB246_299, Q_NB299_246, Q_NB253_299, Q_NB299_253, Q_NB265_299, Q_NB299_265, Q_BK299_e9, Q_X1_, Q_X4_, Q_X5_, Q_X6_, Q_X8_⟩
              exact steps_nil
             rintro b a w113 hall ⟨v283, v286, v293, v296, gb299, m1_, m4_, m5_, m6_, m8_, ha, Q_HO231, Q_HO234, Q_HO241, Q_HO244, Q_HO249, Q_HO252, Q_HO260, Q_HO263, Q_HO269, Q_HO272, Q_BK226, Q_BK227, Q_BK246, Q_BK253, Q_BK265, Q_HB, Q_HO284, Q_HO287, Q_HO294, Q_HO297, Q_BK299, Q_GW299, Q_GE299, Q_NB226_299, Q_NB299_226, Q_NB227_299, Q_NB299_227, Q_NB246_299, Q_NB299_246, Q_NB253_299, Q_NB299_253, Q_NB265_299, Q_NB299_265, Q_BK299_e9, Q_X1_, Q_X4_, Q_X5_, Q_X6_, Q_X8_⟩
             clear BK226 BK227 BK246 BK253 BK265 HB HO231 HO234 HO241 HO244 HO249 HO252 HO260 HO263 HO269 HO272
             have hb0_ := hall 0 (by kernel_rfl)
             have hb1_ := hall 1 (by kernel_rfl)
             have hb2_ := hall 2 (by kernel_rfl)
             have hb3_ := hall 3 (by kernel_rfl)
             have hb4_ := hall 4 (by kernel_rfl)
             have hb5_ := hall 5 (by kernel_rfl)
             have hb6_ := hall 6 (by kernel_rfl)
             have hb7_ := hall 7 (by kernel_rfl)
             have hb8_ := hall 8 (by kernel_rfl)
             have hb9_ := hall 9 (by kernel_rfl)
             have hb10_ := hall 10 (by kernel_rfl)
             subst ha
             obtain rfl := Q_X1_ hb1_
             obtain rfl := Q_X4_ hb4_
             obtain rfl := Q_X5_ hb5_
             obtain rfl := Q_X6_ hb6_
             obtain rfl := Q_X8_ hb8_
             simp only [putSel, hb0_, hb1_, hb2_, hb3_, hb4_, hb5_, hb6_, hb7_, hb8_, hb9_, hb10_, if_true, Act.put, List.setIfInBounds_toArray, List.set_cons_zero, List.set_cons_succ]
             have HO231 := aM Q_HO231
             clear Q_HO231
             have HO234 := aM Q_HO234
             clear Q_HO234
             have HO241 := aM Q_HO241
             clear Q_HO241
             have HO244 := aM Q_HO244
             clear Q_HO244
             have HO249 := aM Q_HO249
             clear Q_HO249
             have HO252 := aM Q_HO252
             clear Q_HO252
             have HO260 := aM Q_HO260
             clear Q_HO260
             have HO263 := aM Q_HO263
             clear Q_HO263
             have HO269 := aM Q_HO269
             clear Q_HO269
             have HO272 := aM Q_HO272
             clear Q_HO272
             have BK226 := aM Q_BK226
             clear Q_BK226
             have BK227 := aM Q_BK227
             clear Q_BK227
             have BK246 := aM Q_BK246
             clear Q_BK246
             have BK253 := aM Q_BK253
             clear Q_BK253
             have BK265 := aM Q_BK265
             clear Q_BK265
             have HB := aM Q_HB
             clear Q_HB
             have HO284 := aM (Q_HO284 hb1_)
             clear Q_HO284
             have HO287 := aM (Q_HO287 hb1_)
             clear Q_HO287
             have HO294 := aM (Q_HO294 hb4_)
             clear Q_HO294
             have HO297 := aM (Q_HO297 hb4_)
             clear Q_HO297
             clear Q_BK299
             have GW299 := aM (Q_GW299 hb8_)
             clear Q_GW299
             have GE299 := aM (Q_GE299 hb8_)
             clear Q_GE299
             have NB226_299 := aM (Q_NB226_299 hb8_)
             clear Q_NB226_299
             have NB299_226 := aM (Q_NB299_226 hb8_)
             clear Q_NB299_226
             have NB227_299 := aM (Q_NB227_299 hb8_)
             clear Q_NB227_299
             have NB299_227 := aM (Q_NB299_227 hb8_)
             clear Q_NB299_227
             have NB246_299 := aM (Q_NB246_299 hb8_)
             clear Q_NB246_299
             have NB299_246 := aM (Q_NB299_246 hb8_)
             clear Q_NB299_246
             have NB253_299 := aM (Q_NB253_299 hb8_)
             clear Q_NB253_299
             have NB299_253 := aM (Q_NB299_253 hb8_)
             clear Q_NB299_253
             have NB265_299 := aM (Q_NB265_299 hb8_)
             clear Q_NB265_299
             have NB299_265 := aM (Q_NB299_265 hb8_)
             clear Q_NB299_265
             have BK299 := aM (Q_BK299_e9 hb9_)
             clear Q_BK299_e9
             clear hall hb0_ hb1_ hb2_ hb3_ hb4_ hb5_ hb6_ hb7_ hb8_ hb9_ hb10_
             have hnb114 := NB299_226.out
             have hnc114 := NB226_299.out
             have hnb115 := NB299_227.out
             have hnc115 := NB227_299.out
             have hnb116 := NB299_246.out
             have hnc116 := NB246_299.out
             have hnb117 := NB299_253.out
             have hnc117 := NB253_299.out
             have hnb118 := NB299_265.out
             have hnc118 := NB265_299.out
             have hcz119_0 : w113.cell? ⟨gb299, 0, none⟩ = some (v293) := (blk_cell BK299.out 0).trans rfl
             have hcz119_1 : w113.cell? ⟨gb299, 1, none⟩ = some (v296) := (blk_cell BK299.out 1).trans rfl
             have hfz119_0 := blk_frozen BK299.out 0
             have hfz119_1 := blk_frozen BK299.out 1
             have hcz120_0 : w113.cell? ⟨gb246, 0, none⟩ = some (.slice Ao85 t239.length co85) := (blk_cell BK246.out 0).trans rfl
             have hcz120_1 : w113.cell? ⟨gb246, 1, none⟩ = some (.slice Ao86 t242.length co86) := (blk_cell BK246.out 1).trans rfl
             have hfz120_0 := blk_frozen BK246.out 0
             have hfz120_1 := blk_frozen BK246.out 1
             obtain ⟨Ao121, co121, eo121⟩ := Kd.R_slice HO294.out
             subst eo121
             obtain ⟨Ao122, co122, eo122⟩ := Kd.R_slice HO297.out
             subst eo122
             try go_wp2_with (first | ((with_reducible refine gate_callee (f := 11) rfl ?_); refine goesL_ (some 89) rfl rfl Try.func11 (by kernel_rfl) rfl #[.agg #[.slice Ao121 t292.length co121, .slice Ao122 t295.length co122], .agg #[.slice Ao85 t239.length co85, .slice Ao86 t242.length co86]] rfl (by (try simp only [List.map_toArray, List.map_cons, List.map_nil]); first | done | rfl | (simp only [List.length_drop, List.length_take]; rfl)) ?_; (with_reducible refine (laws_eqBolts.calls k _ _ t292 _ _ t295 _ _ t239 _ _ t242 true _ ?side1 ?side2 ?side3 ?side4 ?side5 ?side6 ?side7 ?side8 A33.out).mono ?_); (case side1 => exact cU (Kd.R_reads' HO294.out).2.2); (case side2 => exact (Kd.R_reads' HO294.out).2.1); (case side3 => exact cU (Kd.R_reads' HO297.out).2.2); (case side4 => exact (Kd.R_reads' HO297.out).2.1); (case side5 => exact cU (Kd.R_reads' HO241.out).2.2); (case side6 => exact (Kd.R_reads' HO241.out).2.1); (case side7 => exact cU (Kd.R_reads' HO244.out).2.2); (case side8 => exact (Kd.R_reads' HO244.out).2.1); rintro e w123 ⟨rfl, hb⟩; refine ⟨_, rfl, ?_⟩; have n0_ := aM (Kd.R_below (rU HO231.out) hb); have n1_ := aM (Kd.R_below (rU HO234.out) hb); have n2_ := aM (Kd.R_below (rU HO241.out) hb); have n3_ := aM (Kd.R_below (rU HO244.out) hb); have n4_ := aM (Kd.R_below (rU HO249.out) hb); have n5_ := aM (Kd.R_below (rU HO252.out) hb); have n6_ := aM (Kd.R_below (rU HO260.out) hb); have n7_ := aM (Kd.R_below (rU HO263.out) hb); have n8_ := aM (Kd.R_below (rU HO269.out) hb); have n9_ := aM (Kd.R_below (rU HO272.out) hb); have n10_ := aM (Kd.R_below (rU HO284.out) hb); have n11_ := aM (Kd.R_below (rU HO287.out) hb); have n12_ := aM (Kd.R_below (rU HO294.out) hb); have n13_ := aM (Kd.R_below (rU HO297.out) hb); have n14_ := aM (blk_below (g := gb226) (o := .cells #[.slice A0_0 l0_0.length c0_0, .slice A0_1 l0_1.length c0_1] 25 (0, 0)) (bU BK226.out) hb); have n15_ := aM (blk_below (g := gb227) (o := .cells #[.int .i64 a1_0, .int .i64 a1_1, .int .i64 a1_2, .int .i64 a1_3] 27 (0, 0)) (bU BK227.out) hb); have n16_ := aM (blk_below (g := gb246) (o := .cells #[.slice Ao85 t239.length co85, .slice Ao86 t242.length co86] 31 (0, 0)) (bU BK246.out) hb); have n17_ := aM (blk_below (g := gb253) (o := .cells #[.slice Ao60 t247.length co60, .slice Ao65 t250.length co65] 31 (0, 0)) (bU BK253.out) hb); have n18_ := aM (blk_below (g := gb265) (o := .cells #[.slice Ao83 t258.length co83, .slice Ao84 t261.length co84] 31 (0, 0)) (bU BK265.out) hb); have n19_ := aM (blk_below (g := gb299) (o := .cells #[.slice Ao121 t292.length co121, .slice Ao122 t295.length co122] 31 (0, 0)) (bU BK299.out) hb); have n20_ := aM (below_step (by repeat (first | (with_reducible first | exact HB.out | apply aL | apply dN | apply dR | refine sT ?_ GE226.out | refine sT ?_ GE227.out | refine sT ?_ GE246.out | refine sT ?_ GE253.out | refine sT ?_ GE265.out | refine sT ?_ GE299.out) | exact HB.out)) hb); clear HO231; clear HO234; clear HO241; clear HO244; clear HO249; clear HO252; clear HO260; clear HO263; clear HO269; clear HO272; clear HO284; clear HO287; clear HO294; clear HO297; clear BK226; clear BK227; clear BK246; clear BK253; clear BK265; clear BK299; clear HB; have HO231 := n0_; have HO234 := n1_; have HO241 := n2_; have HO244 := n3_; have HO249 := n4_; have HO252 := n5_; have HO260 := n6_; have HO263 := n7_; have HO269 := n8_; have HO272 := n9_; have HO284 := n10_; have HO287 := n11_; have HO294 := n12_; have HO297 := n13_; have BK226 := n14_; have BK227 := n15_; have BK246 := n16_; have BK253 := n17_; have BK265 := n18_; have BK299 := n19_; have HB := n20_; clear n0_ n1_ n2_ n3_ n4_ n5_ n6_ n7_ n8_ n9_ n10_ n11_ n12_ n13_ n14_ n15_ n16_ n17_ n18_ n19_ n20_; (try clear hb); (try clear hb2); (try clear hk); (try clear hi); have hcz124_0 : w123.cell? ⟨gb265, 0, none⟩ = some (.slice Ao83 t258.length co83) := (blk_cell BK265.out 0).trans rfl; have hcz124_1 : w123.cell? ⟨gb265, 1, none⟩ = some (.slice Ao84 t261.length co84) := (blk_cell BK265.out 1).trans rfl; have hfz124_0 := blk_frozen BK265.out 0; have hfz124_1 := blk_frozen BK265.out 1) | ((with_reducible refine gate_callee (f := 13) rfl ?_); refine goesL_ (some 98) rfl rfl Try.func13 (by kernel_rfl) rfl #[.agg #[.slice Ao83 t279.length co83, .slice Ao84 t280.length co84], .int .i64 1] rfl (by (try simp only [List.map_toArray, List.map_cons, List.map_nil]); first | done | (rw [show t279.length = t258.length from (Kd.R_reads' HO260.out).1.symm, show t280.length = t261.length from (Kd.R_reads' HO263.out).1.symm] <;> rfl) | rfl | (simp only [List.length_drop, List.length_take]; rfl)) ?_; (with_reducible refine (laws_heldBolts.calls k _ _ t279 _ _ t280 1 t301 _ ?side1 ?side2 ?side3 ?side4 A36.out).mono ?_); (case side1 => exact cU (Kd.R_reads' HO260.out).2.2); (case side2 => rw [show t279.length = t258.length from (Kd.R_reads' HO260.out).1.symm]; exact (Kd.R_reads' HO260.out).2.1); (case side3 => exact cU (Kd.R_reads' HO263.out).2.2); (case side4 => rw [show t280.length = t261.length from (Kd.R_reads' HO263.out).1.symm]; exact (Kd.R_reads' HO263.out).2.1); rintro e w125 ⟨rfl, hb⟩; refine ⟨_, rfl, ?_⟩; have n0_ := aM (Kd.R_below (rU HO231.out) hb); have n1_ := aM (Kd.R_below (rU HO234.out) hb); have n2_ := aM (Kd.R_below (rU HO241.out) hb); have n3_ := aM (Kd.R_below (rU HO244.out) hb); have n4_ := aM (Kd.R_below (rU HO249.out) hb); have n5_ := aM (Kd.R_below (rU HO252.out) hb); have n6_ := aM (Kd.R_below (rU HO260.out) hb); have n7_ := aM (Kd.R_below (rU HO263.out) hb); have n8_ := aM (Kd.R_below (rU HO269.out) hb); have n9_ := aM (Kd.R_below (rU HO272.out) hb); have n10_ := aM (Kd.R_below (rU HO284.out) hb); have n11_ := aM (Kd.R_below (rU HO287.out) hb); have n12_ := aM (Kd.R_below (rU HO294.out) hb); have n13_ := aM (Kd.R_below (rU HO297.out) hb); have n14_ := aM (blk_below (g := gb226) (o := .cells #[.slice A0_0 l0_0.length c0_0, .slice A0_1 l0_1.length c0_1] 25 (0, 0)) (bU BK226.out) hb); have n15_ := aM (blk_below (g := gb227) (o := .cells #[.int .i64 a1_0, .int .i64 a1_1, .int .i64 a1_2, .int .i64 a1_3] 27 (0, 0)) (bU BK227.out) hb); have n16_ := aM (blk_below (g := gb246) (o := .cells #[.slice Ao85 t239.length co85, .slice Ao86 t242.length co86] 31 (0, 0)) (bU BK246.out) hb); have n17_ := aM (blk_below (g := gb253) (o := .cells #[.slice Ao60 t247.length co60, .slice Ao65 t250.length co65] 31 (0, 0)) (bU BK253.out) hb); have n18_ := aM (blk_below (g := gb265) (o := .cells #[.slice Ao83 t258.length co83, .slice Ao84 t261.length co84] 31 (0, 0)) (bU BK265.out) hb); have n19_ := aM (blk_below (g := gb299) (o := .cells #[.slice Ao121 t292.length co121, .slice Ao122 t295.length co122] 31 (0, 0)) (bU BK299.out) hb); have n20_ := aM (below_step (by repeat (first | (with_reducible first | exact HB.out | apply aL | apply dN | apply dR | refine sT ?_ GE226.out | refine sT ?_ GE227.out | refine sT ?_ GE246.out | refine sT ?_ GE253.out | refine sT ?_ GE265.out | refine sT ?_ GE299.out) | exact HB.out)) hb); clear HO231; clear HO234; clear HO241; clear HO244; clear HO249; clear HO252; clear HO260; clear HO263; clear HO269; clear HO272; clear HO284; clear HO287; clear HO294; clear HO297; clear BK226; clear BK227; clear BK246; clear BK253; clear BK265; clear BK299; clear HB; have HO231 := n0_; have HO234 := n1_; have HO241 := n2_; have HO244 := n3_; have HO249 := n4_; have HO252 := n5_; have HO260 := n6_; have HO263 := n7_; have HO269 := n8_; have HO272 := n9_; have HO284 := n10_; have HO287 := n11_; have HO294 := n12_; have HO297 := n13_; have BK226 := n14_; have BK227 := n15_; have BK246 := n16_; have BK253 := n17_; have BK265 := n18_; have BK299 := n19_; have HB := n20_; clear n0_ n1_ n2_ n3_ n4_ n5_ n6_ n7_ n8_ n9_ n10_ n11_ n12_ n13_ n14_ n15_ n16_ n17_ n18_ n19_ n20_; (try clear hb); (try clear hb2); (try clear hk); (try clear hi)))
             go_ret
             exact ⟨by first | rfl | (simp [errW_none, errW_some] <;> rfl) | (simp [*, errW_none, errW_some] <;> rfl), by repeat (first | (with_reducible first | exact HB.out | apply aL | apply dN | apply dR | refine sT ?_ GE226.out | refine sT ?_ GE227.out | refine sT ?_ GE246.out | refine sT ?_ GE253.out | refine sT ?_ GE265.out | refine sT ?_ GE299.out) | exact HB.out)⟩
            ·rw [if_neg c38] at H
             exact absurd H (by simp)
         ·replace c34 := Bool.eq_false_iff.mpr c34
          subst c34
          have H1 : (none) = some r := by rw [if_neg (show ¬ (false = true) by decide)] at H; exact H
          clear H
          have H := H1
          clear H1
          exact absurd H (by simp)
        ·rw [if_neg c29] at H
         exact absurd H (by simp)
      ·replace c25 := Bool.eq_false_iff.mpr c25
       subst c25
       have H1 : (none) = some r := by rw [if_neg (show ¬ (false = true) by decide)] at H; exact H
       clear H
       have H := H1
       clear H1
       exact absurd H (by simp)
    ·replace c21 := Bool.eq_false_iff.mpr c21
     subst c21
     have H1 : (none) = some r := by rw [if_neg (show ¬ (false = true) by decide)] at H; exact H
     clear H
     have H := H1
     clear H1
     exact absurd H (by simp)
  ·replace c17 := Bool.eq_false_iff.mpr c17
   subst c17
   have H1 : (none) = some r := by rw [if_neg (show ¬ (false = true) by decide)] at H; exact H
   clear H
   have H := H1
   clear H1
   exact absurd H (by simp)

end Go.Proofs.Ytpjdlobkeafacaa.PAddBlock
