-- PRINTED by drive.py (a program of this session's, over the kit's print.py; wip/tools/drive.py). Lean checks it.
import Derived.Test.YtifdgebdkhdmhaaDoorZSq
import Derived.Test.YtifdgebdkhdmhaaDoorZPLTickx0
import Derived.Test.YtifdgebdkhdmhaaDoorZPLTickx7
import Derived.Test.YtifdgebdkhdmhaaDoorZPLTickx8
namespace Go.Proofs.YtifdgebdkhdmhaaDoor.PLTick
open Go.RowKit Go.Proofs.YtifdgebdkhdmhaaDoorW.PrintWords Go.Proofs.YtifdgebdkhdmhaaDoorW.PrintLast Go.Proofs.YtifdgebdkhdmhaaDoorW.PrintMore
attribute [local go_sem] max2_int min2_int max_two min_two max_three min_three max_four min_four   -- for this text's walks alone
set_option linter.unusedVariables false
set_option linter.unusedSimpArgs false

/-! ### spec_RunningLamps: function 226 -/
mutual
def spec_RunningLamps.j0 : Nat → Int → Bool → Option (List ByteArray × Bool)
 | 0, _, _ => none
 | k + 1, x0, x12 => if x12 = true then (some (([] : List ByteArray), false)) else ((spec_riAll.f k (wrap64 (x0 - 2)) (⟨#[63]⟩ : ByteArray)).bind fun t254 => (if 1 + t254.size ≤ 9223372036854775807 then (if ((⟨#[49]⟩ : ByteArray) ++ t254).size + 1 ≤ 9223372036854775807 then (spec_RunningLamps.l0 k x0 1 (([((⟨#[49]⟩ : ByteArray) ++ t254) ++ (⟨#[48]⟩ : ByteArray)] : List ByteArray))) else (none)) else (none)))
def spec_RunningLamps.l0 : Nat → Int → Int → List ByteArray → Option (List ByteArray × Bool)
 | 0, _, _, _ => none
 | k + 1, x0, x5, x259000 => if x5 < x0 then ((spec_riAll.f k (wrap64 (x5 - 1)) (⟨#[63]⟩ : ByteArray)).bind fun t259 => (if t259.size + 2 ≤ 9223372036854775807 then ((spec_riAll.f k (wrap64 ((wrap64 (x0 - 1)) - x5)) (⟨#[63]⟩ : ByteArray)).bind fun t260 => (if (t259 ++ (⟨#[49, 48]⟩ : ByteArray)).size + t260.size ≤ 9223372036854775807 then (if x259000.length < 8796093022208 then (spec_RunningLamps.l0 k x0 (wrap64 (x5 + 1)) (x259000 ++ [(t259 ++ (⟨#[49, 48]⟩ : ByteArray)) ++ t260])) else (none)) else (none))) else (none))) else (some (x259000, true))
end
def spec_RunningLamps.f (k : Nat) (a0 : Int) : Option (List ByteArray × Bool) := (spec_laCount.f a0).bind fun t253 => (if t253 = true then (spec_RunningLamps.j0 k a0 (decide (a0 < 2))) else (spec_RunningLamps.j0 k a0 true))
theorem spec_RunningLamps.mono_l : ∀ k, (∀ y0 y1, LeO (spec_RunningLamps.j0 k y0 y1) (spec_RunningLamps.j0 (k + 1) y0 y1)) ∧ (∀ y0 y1 y2, LeO (spec_RunningLamps.l0 k y0 y1 y2) (spec_RunningLamps.l0 (k + 1) y0 y1 y2))
 | 0 => ⟨fun _ _ r h => by simp [spec_RunningLamps.j0] at h, fun _ _ _ r h => by simp [spec_RunningLamps.l0] at h⟩
 | k + 1 => by
  obtain ⟨ih0, ih1⟩ := spec_RunningLamps.mono_l k
  refine ⟨?_, ?_⟩
  ·intro y0 y1
   unfold spec_RunningLamps.j0
   repeat' first
   | wE ih0 _ _
   | wE ih1 _ _ _
   | wE spec_riAll.mono _ _ _
   | wE LeO.refl _
   | wE LeO.none _
   | wR LeO.ite ?_ ?_
   | wR LeO.bind ?_ (fun _ => ?_)
   | exact ih0 _ _
   | exact ih1 _ _ _
   | exact spec_riAll.mono _ _ _
   | exact LeO.none _
   | refine LeO.ite ?_ ?_
   | refine LeO.bind ?_ (fun _ => ?_)
  ·intro y0 y1 y2
   unfold spec_RunningLamps.l0
   repeat' first
   | wE ih0 _ _
   | wE ih1 _ _ _
   | wE spec_riAll.mono _ _ _
   | wE LeO.refl _
   | wE LeO.none _
   | wR LeO.ite ?_ ?_
   | wR LeO.bind ?_ (fun _ => ?_)
   | exact ih0 _ _
   | exact ih1 _ _ _
   | exact spec_riAll.mono _ _ _
   | exact LeO.none _
   | refine LeO.ite ?_ ?_
   | refine LeO.bind ?_ (fun _ => ?_)
theorem spec_RunningLamps.mono : ∀ a0 k, LeO (spec_RunningLamps.f k a0) (spec_RunningLamps.f (k + 1) a0) := by
 intro a0 k
 obtain ⟨ih0, ih1⟩ := spec_RunningLamps.mono_l k
 unfold spec_RunningLamps.f
 repeat' first
   | wE ih0 _ _
   | wE ih1 _ _ _
   | wE spec_riAll.mono _ _ _
   | wE LeO.refl _
   | wE LeO.none _
   | wR LeO.ite ?_ ?_
   | wR LeO.bind ?_ (fun _ => ?_)
   | exact ih0 _ _
   | exact ih1 _ _ _
   | exact spec_riAll.mono _ _ _
   | exact LeO.none _
   | refine LeO.ite ?_ ?_
   | refine LeO.bind ?_ (fun _ => ?_)
def spec_RunningLamps.T7 : Bool × List (List Nat × List Nat) := (true, [([], []), ([0], [0]), ([], []), ([2], [2]), ([3], [3]), ([4], [4]), ([], []), ([6], [6]), ([], []), ([7, 8], [7, 8]), ([9, 4], [9]), ([5, 10], [5, 10]), ([11], [11]), ([1, 12, 10], [1, 12]), ([0, 1, 2, 3, 4, 5, 6, 7, 8, 9, 10, 11, 12, 13], []), ([14, 13, 13, 0, 1, 2, 3, 4, 5, 6, 7, 8, 9, 10, 11, 12, 13], [13, 14])])
def spec_RunningLamps.B7 : List Nat := [0, 1, 0, 4, 12, 28, 0, 64, 0, 448, 988, 2044, 4092, 8191, 16383, 32767]
theorem spec_RunningLamps.tab7 : rtab .any (opsOf Tryd.f226 7) = spec_RunningLamps.T7 := by kernel_rfl
theorem spec_RunningLamps.bits7 : waitsOk spec_RunningLamps.T7.2 spec_RunningLamps.B7 = true := by kernel_rfl
set_option maxHeartbeats 8000000 in
set_option maxRecDepth 100000 in
theorem spec_RunningLamps.calls (k : Nat) (a0 : Int) (r1 : List ByteArray) (r2 : Bool) (w : World) (h : spec_RunningLamps.f k a0 = some (r1, r2)) :
  Calls Tryd.prog 226 #[.int .i64 a0] w fun e w' => ∃ v0_ : Value, e = .returned (.tuple #[.agg #[v0_], .bool r2]) ∧ Kd.R Kd.string 9 w' w.heap.size (fun _ => True) v0_ r1 ∧ Below w.heap.size w w' := by
 have hu29 := Tryd.underlying29
 have HB := aM (Below.refl w.heap.size w)
 have H : ((spec_laCount.f a0).bind fun t253 => (if t253 = true then (spec_RunningLamps.j0 k a0 (decide (a0 < 2))) else (spec_RunningLamps.j0 k a0 true))) = some (r1, r2) := h
 clear h
 have HC2 := aM H
 clear H
 go_enter Tryd.func226, Tryd.ntmps226
 go_upto_region 1 with (first | ((with_reducible refine gate_dst (N := 2) rfl ?_); refine box_event ?hg (N := 2) ?hd (cs := #[.slice none 0 0]) (t := 29) ?hr ?_; (case hd => rfl); (case hg => rfl); (case hr => first | (go_simp; done) | (go_simp; rfl)); intro gb252 hg w3 hbox hb; have n0_ := aM (below_step (by bB) hb); have n1_ := aM (hbox); have n2_ := aM ((by rw [hg]; exact (below_size (by bB)) : w.heap.size ≤ gb252)); have n3_ := aM ((by rw [hg]; exact (below_size (by bB)) : w.heap.size ≤ gb252)); clear HB; have HB := n0_; have BK252 := n1_; have GW252 := n2_; have GE252 := n3_; clear n0_ n1_ n2_ n3_; clear hb hbox hg))
 (try simp only [Act.put, List.setIfInBounds_toArray, List.set_cons_zero, List.set_cons_succ])
 go_cut [12] (fun v12 wc => ∃ (kq : Nat) (x12_1 : Bool), v12 = .bool x12_1 ∧ Aside0 (spec_RunningLamps.j0 kq a0 x12_1 = some (r1, r2)) ∧ Aside0 (kq ≤ k) ∧ Aside0 (wc.heap[gb252]? = some (.cells #[(.slice none 0 0)] 29 (0, 0))) ∧ Aside0 (Below w.heap.size w wc))
 case first =>
  have H := HC2.out
  clear HC2
  replace H := Option.bind_eq_some_iff.mp H
  obtain ⟨t253, A40, H⟩ := H
  replace H : (if t253 = true then (spec_RunningLamps.j0 k a0 (decide (a0 < 2))) else (spec_RunningLamps.j0 k a0 true)) = some (r1, r2) := H
  have A4 := aM A40
  clear A40
  by_cases c5 : t253 = true
  ·subst c5
   rw [if_pos rfl] at H
   have H' := aM H
   clear H
   go_wp2_with (first | ((with_reducible refine gate_callee (f := 227) rfl ?_); refine goesL_ (some 7) rfl rfl Tryd.func227 (by kernel_rfl) rfl #[.int .i64 a0] rfl (by mA) ?_; (with_reducible refine (spec_laCount.calls a0 true _ A4.out).mono ?_); rintro e w' ⟨rfl, ⟨nd, rfl⟩⟩; refine ⟨_, rfl, ?_⟩))
   go_meet
   case rel => exact ⟨_, (decide (a0 < 2)), (by rF), H', ⟨by first | omega | exact Nat.le_refl _⟩, ⟨by (with_reducible repeat (first | refine blk_drewN ?_ _ | refine blk_drew ?_ | refine blk_alloc ?_ _)); exact BK252.out⟩, ⟨by repeat (first | (with_reducible first | exact HB.out | apply below_alloc | apply pw_below_drewN | apply below_drew1 | refine below_set ?_ GE252.out) | exact HB.out)⟩⟩
  ·replace c5 := Bool.eq_false_iff.mpr c5
   subst c5
   rw [if_neg (show ¬ (false = true) by decide)] at H
   have H' := aM H
   clear H
   go_wp2_with (first | ((with_reducible refine gate_callee (f := 227) rfl ?_); refine goesL_ (some 7) rfl rfl Tryd.func227 (by kernel_rfl) rfl #[.int .i64 a0] rfl (by mA) ?_; (with_reducible refine (spec_laCount.calls a0 false _ A4.out).mono ?_); rintro e w' ⟨rfl, ⟨nd, rfl⟩⟩; refine ⟨_, rfl, ?_⟩))
   go_meet
   case rel => exact ⟨_, (true), (by rF), H', ⟨by first | omega | exact Nat.le_refl _⟩, ⟨by (with_reducible repeat (first | refine blk_drewN ?_ _ | refine blk_drew ?_ | refine blk_alloc ?_ _)); exact BK252.out⟩, ⟨by repeat (first | (with_reducible first | exact HB.out | apply below_alloc | apply pw_below_drewN | apply below_drew1 | refine below_set ?_ GE252.out) | exact HB.out)⟩⟩
 case rest =>
  clear HC2
  try clear c2
  try clear p2
  try clear c5
  obtain ⟨kq, x12_1, rfl, HA, HJ1, BK252, HB⟩ := hcut
  cases kq with
  | zero => exact absurd HA.out (by simp [spec_RunningLamps.j0])
  | succ kj1 =>
   have H := HA.out
   clear HA
   simp only [spec_RunningLamps.j0] at H
   by_cases c6 : x12_1 = true
   ·subst c6
    rw [if_pos rfl] at H
    simp only [Option.some.injEq, Prod.mk.injEq] at H
    obtain ⟨rfl, rfl⟩ := H
    have hcz7_0 : wc.cell? ⟨gb252, 0, none⟩ = some (.slice none 0 0) := (blk_cell BK252.out 0).trans rfl
    have hfz7_0 := blk_frozen BK252.out 0
    go_wp2
    refine bodyPost_ret (results_ct rfl _ _ gb252 29 #[.slice none 0 0] (0, 0) _ rfl (by (with_reducible repeat (first | refine blk_drewN ?_ _ | refine blk_drew ?_ | refine blk_alloc ?_ _)); refine blk_put (cs := #[.slice none 0 0]) ?_ 0 _ rfl; (with_reducible repeat (first | refine blk_drewN ?_ _ | refine blk_drew ?_ | refine blk_alloc ?_ _)); exact BK252.out) Tryd.underlying29 rfl (by kernel_rfl)) rfl ?_
    exact ⟨_, by eW, by first | exact Kd.R_nil _ _ _ _ _ | exact Kd.N_nil _ _ _ _ _ | exact Kd.V_nil _ _ _ _ _ | exact Kd.Q_nil _ _ _ _ _ | exact Kd.S_nil _ _ _ _ _, by repeat (first | (with_reducible first | exact HB.out | apply below_alloc | apply pw_below_drewN | apply below_drew1 | refine below_set ?_ GE252.out) | exact HB.out)⟩
   ·replace c6 := Bool.eq_false_iff.mpr c6
    subst c6
    rw [if_neg (show ¬ (false = true) by decide)] at H
    replace H := Option.bind_eq_some_iff.mp H
    obtain ⟨t254, A80, H⟩ := H
    replace H : (if 1 + t254.size ≤ 9223372036854775807 then (if ((⟨#[49]⟩ : ByteArray) ++ t254).size + 1 ≤ 9223372036854775807 then (spec_RunningLamps.l0 kj1 a0 1 (([((⟨#[49]⟩ : ByteArray) ++ t254) ++ (⟨#[48]⟩ : ByteArray)] : List ByteArray))) else (none)) else (none)) = some (r1, r2) := H
    have A8 := aM A80
    clear A80
    by_cases c9 : 1 + t254.size ≤ 9223372036854775807
    ·rw [if_pos c9] at H
     have c9b0 := eq_true c9
     have c9b1 : decide (1 + t254.size ≤ 9223372036854775807) = true := decide_eq_true c9
     try have c9b2 : (9223372036854775807 < 1 + t254.size) = False := eq_false (Nat.not_lt.2 c9)
     by_cases c10 : ((⟨#[49]⟩ : ByteArray) ++ t254).size + 1 ≤ 9223372036854775807
     ·rw [if_pos c10] at H
      have c10b0 := eq_true c10
      have c10b1 : decide (((⟨#[49]⟩ : ByteArray) ++ t254).size + 1 ≤ 9223372036854775807) = true := decide_eq_true c10
      try have c10b2 : (9223372036854775807 < ((⟨#[49]⟩ : ByteArray) ++ t254).size + 1) = False := eq_false (Nat.not_lt.2 c10)
      try have c10q : (9223372036854775807 < 1 + t254.size + 1) = False := eq_false (Nat.not_lt.2 (by have h_ := c10; (try simp only [ByteArray.size_append] at h_); exact h_))
      obtain ⟨y255, hy255⟩ : ∃ y_ : List ByteArray, y_ = (([((⟨#[49]⟩ : ByteArray) ++ t254) ++ (⟨#[48]⟩ : ByteArray)] : List ByteArray)) := ⟨_, rfl⟩
      replace H : (spec_RunningLamps.l0 kj1 a0 1 y255) = some (r1, r2) := by fH hy255
      have Ny255 := aM hy255
      clear hy255
      have H' := aM H
      clear H
      go_wp2_with (first | ((with_reducible refine gate_callee (f := 228) rfl ?_); refine goesL_ (some 16) rfl rfl Tryd.func228 (by kernel_rfl) rfl #[.int .i64 (wrap64 (a0 - 2)), .string (⟨#[63]⟩ : ByteArray)] rfl (by mA) ?_; (with_reducible refine (spec_riAll.calls kj1 (wrap64 (a0 - 2)) (⟨#[63]⟩ : ByteArray) t254 _ A8.out).mono ?_); rintro e w' ⟨rfl, ⟨nd, rfl⟩⟩; refine ⟨_, rfl, ?_⟩; (try (rw [drewN_self wc]; generalize hq_ : World.drewN wc _ = wc; have n0_ : Aside0 (wc.heap[gb252]? = some (.cells #[.slice none 0 0] 29 (0, 0))) := ⟨by rw [← hq_]; exact (by (with_reducible repeat (first | refine blk_drewN ?_ _ | refine blk_drew ?_ | refine blk_alloc ?_ _)); exact BK252.out)⟩; have n1_ : Aside0 (Below w.heap.size w wc) := ⟨by rw [← hq_]; exact (by repeat (first | (with_reducible first | exact HB.out | apply below_alloc | apply pw_below_drewN | apply below_drew1 | refine below_set ?_ GE252.out) | exact HB.out))⟩; clear BK252 HB hq_; have BK252 := n0_; have HB := n1_; clear n0_ n1_))) | ((with_reducible refine gate_dst (N := 19) rfl ?_); refine Kd.R_lit Kd.string _ 9 ?hg (N := 19) ?hd (xs := ([((⟨#[49]⟩ : ByteArray) ++ t254) ++ (⟨#[48]⟩ : ByteArray)] : List ByteArray)) (inner := [.string (((⟨#[49]⟩ : ByteArray) ++ t254) ++ (⟨#[48]⟩ : ByteArray))]) (ok := fun _ => True) (okp := fun _ => True) ?hr ?hp (fun _ hk => hk) trivial (Below.refl _ _) (Nat.le_refl _) (by simp) ?_; (case hd => rfl); (case hg => rfl); (case hr => first | (go_simp; done) | (go_simp; rfl)); (case hp => exact (Reps.one (show Kd.M Kd.string _ _ _ (((⟨#[49]⟩ : ByteArray) ++ t254) ++ (⟨#[48]⟩ : ByteArray)) [.string (((⟨#[49]⟩ : ByteArray) ++ t254) ++ (⟨#[48]⟩ : ByteArray))] from rfl) (Reps.none _ _))); intro v256 w11 ho12 hb hg_ hnew_; clear hg_ hnew_; (first | rw [← Ny255.out] at ho12 | (simp only [Int.reduceToNat] at ho12; rw [← Ny255.out] at ho12)); have n0_ := aM (Kd.R_lower ho12 (below_size (by repeat (first | (with_reducible first | exact HB.out | apply below_alloc | apply pw_below_drewN | apply below_drew1 | refine below_set ?_ GE252.out) | exact HB.out)))); have n1_ := aM (blk_below (g := gb252) (o := .cells #[.slice none 0 0] 29 (0, 0)) (by (with_reducible repeat (first | refine blk_drewN ?_ _ | refine blk_drew ?_ | refine blk_alloc ?_ _)); exact BK252.out) hb); have n2_ := aM (below_step (by repeat (first | (with_reducible first | exact HB.out | apply below_alloc | apply pw_below_drewN | apply below_drew1 | refine below_set ?_ GE252.out) | exact HB.out)) hb); clear BK252; clear HB; have HO257 := n0_; have BK252 := n1_; have HB := n2_; clear n0_ n1_ n2_; clear hb ho12; obtain ⟨Ao13, co13, eo13⟩ := Kd.R_slice HO257.out; subst eo13) | ((with_reducible refine gate_dst (N := 4) rfl ?_); refine box_event ?hg (N := 4) ?hd (cs := #[.slice none 0 0]) (t := 29) ?hr ?_; (case hd => rfl); (case hg => rfl); (case hr => first | (go_simp; done) | (go_simp; rfl)); intro gb258 hg w14 hbox hb; have n0_ := aM (Kd.R_below (by (rX); exact HO257.out) hb); have n1_ := aM (blk_below (g := gb252) (o := .cells #[.slice none 0 0] 29 (0, 0)) (by (with_reducible repeat (first | refine blk_drewN ?_ _ | refine blk_drew ?_ | refine blk_alloc ?_ _)); exact BK252.out) hb); have n2_ := aM (below_step (by repeat (first | (with_reducible first | exact HB.out | apply below_alloc | apply pw_below_drewN | apply below_drew1 | refine below_set ?_ GE252.out) | exact HB.out)) hb); have n3_ := aM (hbox); have n4_ := aM ((by rw [hg]; exact (below_size (by repeat (first | (with_reducible first | exact HB.out | apply below_alloc | apply pw_below_drewN | apply below_drew1 | refine below_set ?_ GE252.out) | exact HB.out))) : w.heap.size ≤ gb258)); have n5_ := aM ((by rw [hg]; exact (below_size (by repeat (first | (with_reducible first | exact HB.out | apply below_alloc | apply pw_below_drewN | apply below_drew1 | refine below_set ?_ GE252.out) | exact HB.out))) : w.heap.size ≤ gb258)); have n6_ := aM ((by rw [hg]; exact Nat.ne_of_lt (blk_lt (g := gb252) (o := .cells #[.slice none 0 0] 29 (0, 0)) (by (with_reducible repeat (first | refine blk_drewN ?_ _ | refine blk_drew ?_ | refine blk_alloc ?_ _)); exact BK252.out)) : gb252 ≠ gb258)); have n7_ := aM ((by rw [hg]; exact Nat.ne_of_gt (blk_lt (g := gb252) (o := .cells #[.slice none 0 0] 29 (0, 0)) (by (with_reducible repeat (first | refine blk_drewN ?_ _ | refine blk_drew ?_ | refine blk_alloc ?_ _)); exact BK252.out)) : gb258 ≠ gb252)); clear HO257; clear BK252; clear HB; have HO257 := n0_; have BK252 := n1_; have HB := n2_; have BK258 := n3_; have GW258 := n4_; have GE258 := n5_; have NB252_258 := n6_; have NB258_252 := n7_; clear n0_ n1_ n2_ n3_ n4_ n5_ n6_ n7_; clear hb hbox hg; have hnb15 := NB258_252.out; have hnc15 := NB252_258.out; have hcz16_0 : w14.cell? ⟨gb258, 0, none⟩ = some (.slice none 0 0) := (blk_cell BK258.out 0).trans rfl; have hfz16_0 := blk_frozen BK258.out 0))
      go_loopg [5] kj1 (fun kq v5 w' => ∃ (x5_2 : Int) (x259000_2 : List ByteArray) (u259000 : Value), v5 = .int .i64 x5_2 ∧ Aside0 (spec_RunningLamps.l0 kq a0 x5_2 x259000_2 = some (r1, r2)) ∧ Aside0 (kq ≤ kj1) ∧ Aside0 (Kd.R Kd.string 9 w' w.heap.size (fun _ => True) u259000 x259000_2) ∧ Aside0 (w'.heap[gb252]? = some (.cells #[(.slice none 0 0)] 29 (0, 0))) ∧ Aside0 (w'.heap[gb258]? = some (.cells #[u259000] 29 (0, 0))) ∧ Aside0 (Below w.heap.size w w'))
      case atStart => exact ⟨(1), (y255), (.slice Ao13 y255.length co13), (by rF), H', ⟨Nat.le_refl _⟩, ⟨by (rX); exact Kd.R_mono (Kd.R_far (p := ⟨gb258, 0, none⟩) (Kd.R_types HO257.out BK258.out (by decide)) (fun _ hk => hk.2) (.slice Ao13 y255.length co13)) (fun _ hk => trivial)⟩, ⟨by (with_reducible repeat (first | refine blk_drewN ?_ _ | refine blk_drew ?_ | refine blk_alloc ?_ _)); refine blk_far ?_ NB252_258.out _; (with_reducible repeat (first | refine blk_drewN ?_ _ | refine blk_drew ?_ | refine blk_alloc ?_ _)); exact BK252.out⟩, ⟨by (with_reducible repeat (first | refine blk_drewN ?_ _ | refine blk_drew ?_ | refine blk_alloc ?_ _)); refine blk_put (cs := #[.slice none 0 0]) ?_ 0 _ rfl; (with_reducible repeat (first | refine blk_drewN ?_ _ | refine blk_drew ?_ | refine blk_alloc ?_ _)); exact BK258.out⟩, ⟨by repeat (first | (with_reducible first | exact HB.out | apply below_alloc | apply pw_below_drewN | apply below_drew1 | refine below_set ?_ GE252.out | refine below_set ?_ GE258.out) | exact HB.out)⟩⟩
      case round =>
       clear H'
       try clear c1
       try clear c2
       try clear p2
       try clear c5
       try clear c6
       try clear p6
       try clear c9
       try clear c9b0
       try clear c9b1
       try clear c9b2
       try clear c10
       try clear c10b0
       try clear c10b1
       try clear c10b2
       try clear c15
       try clear hcz16_0
       try clear hcz7_0
       try clear hfz16_0
       try clear hfz7_0
       try clear p2
       obtain ⟨x5_2, x259000_2, u259000, rfl, HA, HK2, HO_259000, BK252, BK258, HB⟩ := hrel
       cases gk with
       | zero => exact absurd HA.out (by simp [spec_RunningLamps.l0])
       | succ k2 =>
        have H := HA.out
        clear HA
        simp only [spec_RunningLamps.l0] at H
        by_cases c17 : x5_2 < a0
        ·rw [if_pos c17] at H
         have c17b0 : decide (x5_2 < a0) = true := decide_eq_true c17
         clear c17
         replace H := Option.bind_eq_some_iff.mp H
         obtain ⟨t259, A180, H⟩ := H
         replace H : (if t259.size + 2 ≤ 9223372036854775807 then ((spec_riAll.f k2 (wrap64 ((wrap64 (a0 - 1)) - x5_2)) (⟨#[63]⟩ : ByteArray)).bind fun t260 => (if (t259 ++ (⟨#[49, 48]⟩ : ByteArray)).size + t260.size ≤ 9223372036854775807 then (if x259000_2.length < 8796093022208 then (spec_RunningLamps.l0 k2 a0 (wrap64 (x5_2 + 1)) (x259000_2 ++ [(t259 ++ (⟨#[49, 48]⟩ : ByteArray)) ++ t260])) else (none)) else (none))) else (none)) = some (r1, r2) := H
         have A18 := aM A180
         clear A180
         by_cases c19 : t259.size + 2 ≤ 9223372036854775807
         ·rw [if_pos c19] at H
          have c19b0 := eq_true c19
          have c19b1 : decide (t259.size + 2 ≤ 9223372036854775807) = true := decide_eq_true c19
          try have c19b2 : (9223372036854775807 < t259.size + 2) = False := eq_false (Nat.not_lt.2 c19)
          replace H := Option.bind_eq_some_iff.mp H
          obtain ⟨t260, A200, H⟩ := H
          replace H : (if (t259 ++ (⟨#[49, 48]⟩ : ByteArray)).size + t260.size ≤ 9223372036854775807 then (if x259000_2.length < 8796093022208 then (spec_RunningLamps.l0 k2 a0 (wrap64 (x5_2 + 1)) (x259000_2 ++ [(t259 ++ (⟨#[49, 48]⟩ : ByteArray)) ++ t260])) else (none)) else (none)) = some (r1, r2) := H
          have A20 := aM A200
          clear A200
          by_cases c21 : (t259 ++ (⟨#[49, 48]⟩ : ByteArray)).size + t260.size ≤ 9223372036854775807
          ·rw [if_pos c21] at H
           have c21b0 := eq_true c21
           have c21b1 : decide ((t259 ++ (⟨#[49, 48]⟩ : ByteArray)).size + t260.size ≤ 9223372036854775807) = true := decide_eq_true c21
           try have c21b2 : (9223372036854775807 < (t259 ++ (⟨#[49, 48]⟩ : ByteArray)).size + t260.size) = False := eq_false (Nat.not_lt.2 c21)
           try have c21q : (9223372036854775807 < t259.size + 2 + t260.size) = False := eq_false (Nat.not_lt.2 (by have h_ := c21; (try simp only [ByteArray.size_append] at h_); exact h_))
           by_cases c22 : x259000_2.length < 8796093022208
           ·rw [if_pos c22] at H
            have LMc22 := aM c22
            clear c22
            obtain ⟨y261, hy261⟩ : ∃ y_ : List ByteArray, y_ = (x259000_2 ++ [(t259 ++ (⟨#[49, 48]⟩ : ByteArray)) ++ t260]) := ⟨_, rfl⟩
            replace H : (spec_RunningLamps.l0 k2 a0 (wrap64 (x5_2 + 1)) y261) = some (r1, r2) := by fH hy261
            have Ny261 := aM hy261
            clear hy261
            have H' := aM H
            clear H
            try go_wp2
            have n0_ := aM (Kd.R_drew HO_259000.out)
            have n1_ := aM (blk_drew BK252.out)
            have n2_ := aM (blk_drew BK258.out)
            have n3_ := aM (below_drew1 HB.out)
            clear HO_259000
            clear BK252
            clear BK258
            clear HB
            have HO_259000 := n0_
            have BK252 := n1_
            have BK258 := n2_
            have HB := n3_
            clear n0_ n1_ n2_ n3_
            refine start_ (n := 16) (S := fun w' => w'.cell? ⟨gb258, 0, none⟩ = some (u259000)) (ds := [15]) #[false, false, false, false, false, false, false, false, false, false, false, false, false, false, false, false] (by kernel_rfl) rfl rfl ((blk_cell BK258.out 0).trans rfl) (fun hHeld => ?_); refine with_tabW spec_RunningLamps.tab7 spec_RunningLamps.bits7 (fun HT_ HW_ => ?_)
            generalize wr.drew = w23 at HO_259000 BK252 BK258 HB hHeld ⊢
            pU 0 (some 26) #[true, false, false, false, false, false, false, false, false, false, false, false, false, false, false, false]
            rotate_left
            ·intro w'
             go_simp
             with_reducible rfl
            rotate_left
            ·simp only [Act.put, List.setIfInBounds_toArray, List.set_cons_zero, List.set_cons_succ, i64_w, i32_w]
             rfl
            pU 2 (some 28) #[true, false, true, false, false, false, false, false, false, false, false, false, false, false, false, false]
            rotate_left
            ·intro w'
             go_simp
             with_reducible rfl
            rotate_left
            ·simp only [Act.put, List.setIfInBounds_toArray, List.set_cons_zero, List.set_cons_succ, i64_w, i32_w]
             rfl
            pU 3 (some 29) #[true, false, true, true, false, false, false, false, false, false, false, false, false, false, false, false]
            rotate_left
            ·intro w'
             go_simp
             with_reducible rfl
            rotate_left
            ·simp only [Act.put, List.setIfInBounds_toArray, List.set_cons_zero, List.set_cons_succ, i64_w, i32_w]
             rfl
            pU 6 (some 32) #[true, false, true, true, false, false, true, false, false, false, false, false, false, false, false, false]
            rotate_left
            ·intro w'
             go_simp
             with_reducible rfl
            rotate_left
            ·simp only [Act.put, List.setIfInBounds_toArray, List.set_cons_zero, List.set_cons_succ, i64_w, i32_w]
             rfl
            pU 7 (some 33) #[true, false, true, true, false, false, true, true, false, false, false, false, false, false, false, false]
            rotate_left
            ·intro w'
             go_simp
             with_reducible rfl
            rotate_left
            ·simp only [Act.put, List.setIfInBounds_toArray, List.set_cons_zero, List.set_cons_succ, i64_w, i32_w]
             rfl
            pU 8 (some 34) #[true, false, true, true, false, false, true, true, true, false, false, false, false, false, false, false]
            rotate_left
            ·intro w'
             go_simp
             with_reducible rfl
            rotate_left
            ·simp only [Act.put, List.setIfInBounds_toArray, List.set_cons_zero, List.set_cons_succ, i64_w, i32_w]
             rfl
            pU 9 (some 35) #[true, false, true, true, false, false, true, true, true, true, false, false, false, false, false, false]
            rotate_left
            ·intro w'
             go_simp
             with_reducible rfl
            rotate_left
            ·simp only [Act.put, List.setIfInBounds_toArray, List.set_cons_zero, List.set_cons_succ, i64_w, i32_w]
             rfl
            refine take_ (i := 1) (N := some 27) (v := ?_) (a' := ?_) #[true, true, true, true, false, false, true, true, true, true, false, false, false, false, false, false] rfl rfl (take_ofW HT_.out HW_.out (by kernel_rfl)) (fun _ _ _ h => h) (Or.inl ⟨by rfl, ?_⟩) hHeld ?_ ?_
            rotate_left
            ·intro w' s0
             go_simp
             with_reducible rfl
            rotate_left
            ·simp only [Act.put, List.setIfInBounds_toArray, List.set_cons_zero, List.set_cons_succ, i64_w, i32_w]
             rfl
            refine one_ (i := 4) (N := some 30) #[true, true, true, true, true, false, true, true, true, true, false, false, false, false, false, false] rfl rfl (one_of HT_.out (by kernel_rfl)) (by decide) (fun K hK => ?_)
            refine goes_ Tryd.func228 (by kernel_rfl) rfl #[.int .i64 (wrap64 (x5_2 - 1)), .string (⟨#[63]⟩ : ByteArray)] (by rfl) rfl rfl (by mA) ?_
            with_reducible refine (spec_riAll.calls k2 (wrap64 (x5_2 - 1)) (⟨#[63]⟩ : ByteArray) t259 _ A18.out).mono ?_
            rintro e w' ⟨rfl, ⟨nd, rfl⟩⟩
            refine ⟨_, rfl, ?_⟩
            refine hK.out _ _ ((blk_cell BK258.out 0).trans rfl) (fun hHeld => ?_)
            clear hK K
            refine norm_ (a' := ?_) ?_ ?_
            rotate_left
            ·show Act.put _ (some 30) _ = _
             simp only [Act.put, List.setIfInBounds_toArray, List.set_cons_zero, List.set_cons_succ, i64_w, i32_w]
             rfl
            pU 5 (some 31) #[true, true, true, true, true, true, true, true, true, true, false, false, false, false, false, false]
            rotate_left
            ·intro w'
             go_simp
             with_reducible rfl
            rotate_left
            ·simp only [Act.put, List.setIfInBounds_toArray, List.set_cons_zero, List.set_cons_succ, i64_w, i32_w]
             rfl
            refine one_ (i := 10) (N := some 36) #[true, true, true, true, true, true, true, true, true, true, true, false, false, false, false, false] rfl rfl (one_of HT_.out (by kernel_rfl)) (by decide) (fun K hK => ?_)
            refine goes_ Tryd.func228 (by kernel_rfl) rfl #[.int .i64 (wrap64 ((wrap64 (a0 - 1)) - x5_2)), .string (⟨#[63]⟩ : ByteArray)] (by rfl) rfl rfl (by mA) ?_
            with_reducible refine (spec_riAll.calls k2 (wrap64 ((wrap64 (a0 - 1)) - x5_2)) (⟨#[63]⟩ : ByteArray) t260 _ A20.out).mono ?_
            rintro e w' ⟨rfl, ⟨nd, rfl⟩⟩
            refine ⟨_, rfl, ?_⟩
            refine hK.out _ _ ((blk_cell BK258.out 0).trans rfl) (fun hHeld => ?_)
            clear hK K
            refine norm_ (a' := ?_) ?_ ?_
            rotate_left
            ·show Act.put _ (some 36) _ = _
             simp only [Act.put, List.setIfInBounds_toArray, List.set_cons_zero, List.set_cons_succ, i64_w, i32_w]
             rfl
            pU 11 (some 37) #[true, true, true, true, true, true, true, true, true, true, true, true, false, false, false, false]
            rotate_left
            ·intro w'
             go_simp
             with_reducible rfl
            rotate_left
            ·simp only [Act.put, List.setIfInBounds_toArray, List.set_cons_zero, List.set_cons_succ, i64_w, i32_w]
             rfl
            refine one_ (i := 12) (N := some 38) #[true, true, true, true, true, true, true, true, true, true, true, true, true, false, false, false] rfl rfl (one_of HT_.out (by kernel_rfl)) (by decide) (fun K hK => ?_)
            refine value_ (w1 := ?_) (v := ?_) (by rfl) rfl ?_ ?_
            rotate_left 2
            ·go_simp
             constructor
             ·rfl
             ·rfl
            refine hK.out _ _ ((blk_cell (blk_alloc BK258.out _) 0).trans rfl) (fun hHeld => ?_)
            clear hK K
            refine norm_ (a' := ?_) ?_ ?_
            rotate_left
            ·show Act.put _ (some 38) _ = _
             simp only [Act.put, List.setIfInBounds_toArray, List.set_cons_zero, List.set_cons_succ, i64_w, i32_w]
             rfl
            refine one_ (i := 13) (N := some 39) #[true, true, true, true, true, true, true, true, true, true, true, true, true, true, false, false] rfl rfl (one_of HT_.out (by kernel_rfl)) (by decide) (fun K hK => ?_)
            refine Kd.R_append_step Kd.string (w0 := w) w.heap.size (by rfl) (.tmp 27) (.tmp 38) 22 9 (.string ⟨#[]⟩) 16 rfl Tryd.underlying22 info9 rfl (by decide) (by omega) u259000 x259000_2 ((t259 ++ (⟨#[49, 48]⟩ : ByteArray)) ++ t260) [.string ((t259 ++ (⟨#[49, 48]⟩ : ByteArray)) ++ t260)] (fun _ => True) (fun _ => False) rfl rfl ?aP (fun _ hk => hk.elim) ?aF ?aO ?aB ?aS ?aL ?_
            (case aP => exact rfl)
            (case aB => exact (by repeat (first | (with_reducible first | exact HB.out | apply below_alloc | apply pw_below_drewN | apply below_drew1 | refine below_set ?_ GE252.out | refine below_set ?_ GE258.out) | exact HB.out)))
            (case aF => exact (fun _ _ => trivial))
            (case aO => exact (by (rX); exact HO_259000.out))
            (case aS => exact (below_size (by repeat (first | (with_reducible first | exact HB.out | apply below_alloc | apply pw_below_drewN | apply below_drew1 | refine below_set ?_ GE252.out | refine below_set ?_ GE258.out) | exact HB.out))))
            (case aL => have := LMc22.out; omega)
            intro v262 w24 ho hb hg hat
            rw [← Ny261.out] at ho
            have n0_ := aM (blk_grown (g := gb252) (o := .cells #[.slice none 0 0] 29 (0, 0)) (by (with_reducible repeat (first | refine blk_drewN ?_ _ | refine blk_drew ?_ | refine blk_alloc ?_ _)); exact BK252.out) hg (Kd.R_ne HO_259000.out BK252.out (by decide)))
            have n1_ := aM (blk_grown (g := gb258) (o := .cells #[u259000] 29 (0, 0)) (by (with_reducible repeat (first | refine blk_drewN ?_ _ | refine blk_drew ?_ | refine blk_alloc ?_ _)); exact BK258.out) hg (Kd.R_ne HO_259000.out BK258.out (by decide)))
            have n2_ := aM (hb)
            have n3_ := aM (ho)
            clear BK252
            clear BK258
            clear HB
            clear HO_259000
            have BK252 := n0_
            have BK258 := n1_
            have HB := n2_
            have HO263 := n3_
            clear n0_ n1_ n2_ n3_
            clear ho hb hg hat
            obtain ⟨Ao25, co25, eo25⟩ := Kd.R_slice HO263.out
            (first | subst eo25 | (injection eo25 with f1_ f2_ f3_; have f4_ := f1_.symm; have f5_ := f3_.symm; clear f1_ f2_ f3_; subst f4_; subst f5_))
            refine hK.out _ _ ((blk_cell BK258.out 0).trans rfl) (fun hHeld => ?_)
            clear hK K
            refine norm_ (a' := ?_) ?_ ?_
            rotate_left
            ·show Act.put _ (some 39) _ = _
             simp only [Act.put, List.setIfInBounds_toArray, List.set_cons_zero, List.set_cons_succ, i64_w, i32_w]
             rfl
            pU 14 (some 40) #[true, true, true, true, true, true, true, true, true, true, true, true, true, true, true, false]
            rotate_left
            ·intro w'
             go_simp
             with_reducible rfl
            rotate_left
            ·simp only [Act.put, List.setIfInBounds_toArray, List.set_cons_zero, List.set_cons_succ, i64_w, i32_w]
             rfl
            refine last_ (i := 15) (N := none) #[true, true, true, true, true, true, true, true, true, true, true, true, true, true, true, true] rfl rfl (one_of HT_.out (by kernel_rfl)) (by decide) (fun K hK => ?_)
            have hs26 : w24.cell? ⟨gb258, 0, none⟩ = some (u259000) := (blk_cell BK258.out 0).trans rfl
            have hfs26 := blk_frozen BK258.out 0
            have hns26_0 := NB252_258.out
            have hms26_0 := NB258_252.out
            refine skip_ (w1 := ?_) (by rfl) rfl ?_ ?_
            rotate_left
            ·go_simp
             rfl
            refine hK.out _ _ ?_
            clear hK K
            refine done_ (done_of HT_.out (by kernel_rfl)) ?_
            try go_wp2
            go_roundg k2
            case measure => have := HJ1.out; have := HK2.out; omega
            case rel => exact ⟨(wrap64 (x5_2 + 1)), (y261), (.slice Ao25 y261.length co25), (by rF), H', ⟨by have := HJ1.out; have := HK2.out; omega⟩, ⟨by (rX); exact Kd.R_mono (Kd.R_far (p := ⟨gb258, 0, none⟩) (Kd.R_types HO263.out BK258.out (by decide)) (fun _ hk => hk.2) (.slice Ao25 y261.length co25)) (fun _ hk => trivial)⟩, ⟨by (with_reducible repeat (first | refine blk_drewN ?_ _ | refine blk_drew ?_ | refine blk_alloc ?_ _)); refine blk_far ?_ NB252_258.out _; (with_reducible repeat (first | refine blk_drewN ?_ _ | refine blk_drew ?_ | refine blk_alloc ?_ _)); exact BK252.out⟩, ⟨by (with_reducible repeat (first | refine blk_drewN ?_ _ | refine blk_drew ?_ | refine blk_alloc ?_ _)); refine blk_put (cs := #[u259000]) ?_ 0 _ rfl; (with_reducible repeat (first | refine blk_drewN ?_ _ | refine blk_drew ?_ | refine blk_alloc ?_ _)); exact BK258.out⟩, ⟨by repeat (first | (with_reducible first | exact HB.out | apply below_alloc | apply pw_below_drewN | apply below_drew1 | refine below_set ?_ GE252.out | refine below_set ?_ GE258.out) | exact HB.out)⟩⟩
           ·rw [if_neg c22] at H
            exact absurd H (by simp)
          ·rw [if_neg c21] at H
           exact absurd H (by simp)
         ·rw [if_neg c19] at H
          exact absurd H (by simp)
        ·rw [if_neg c17] at H
         have c17b0 : decide (x5_2 < a0) = false := decide_eq_false c17
         clear c17
         simp only [Option.some.injEq, Prod.mk.injEq] at H
         obtain ⟨rfl, rfl⟩ := H
         have hnb27 := NB258_252.out
         have hnc27 := NB252_258.out
         have hcz28_0 : wr.cell? ⟨gb258, 0, none⟩ = some (u259000) := (blk_cell BK258.out 0).trans rfl
         have hfz28_0 := blk_frozen BK258.out 0
         obtain ⟨Ao29, co29, eo29⟩ := Kd.R_slice HO_259000.out
         subst eo29
         have hcz30_0 : wr.cell? ⟨gb252, 0, none⟩ = some (.slice none 0 0) := (blk_cell BK252.out 0).trans rfl
         have hfz30_0 := blk_frozen BK252.out 0
         go_wp2
         refine bodyPost_ret (results_ct rfl _ _ gb252 29 #[.slice Ao29 x259000_2.length co29] (0, 0) _ rfl (by (with_reducible repeat (first | refine blk_drewN ?_ _ | refine blk_drew ?_ | refine blk_alloc ?_ _)); refine blk_put (cs := #[.slice none 0 0]) ?_ 0 _ rfl; (with_reducible repeat (first | refine blk_drewN ?_ _ | refine blk_drew ?_ | refine blk_alloc ?_ _)); exact BK252.out) Tryd.underlying29 rfl (by kernel_rfl)) rfl ?_
         exact ⟨_, by eW, by (rX); exact Kd.R_mono (Kd.R_far (p := ⟨gb252, 0, none⟩) (Kd.R_types HO_259000.out BK252.out (by decide)) (fun _ hk => hk.2) (.slice Ao29 x259000_2.length co29)) (fun _ hk => trivial), by repeat (first | (with_reducible first | exact HB.out | apply below_alloc | apply pw_below_drewN | apply below_drew1 | refine below_set ?_ GE252.out | refine below_set ?_ GE258.out) | exact HB.out)⟩
     ·rw [if_neg c10] at H
      exact absurd H (by simp)
    ·rw [if_neg c9] at H
     exact absurd H (by simp)

/-! ### spec_l1Cur_sureLamps: function 201 -/
mutual
def spec_l1Cur_sureLamps.l0 : Nat → Int → Int → List Int → Int → Int → List ByteArray → Option (List ByteArray × Int × Int)
 | 0, _, _, _, _, _, _ => none
 | k + 1, x3, x9, x1000, x1001, x1002, x282000 => if x9 < x3 then (spec_l1Cur_sureLamps.l1 k x3 x9 (⟨#[]⟩ : ByteArray) 0 x1000 x1001 x1002 x282000) else (some (x282000, x1001, x1002))
def spec_l1Cur_sureLamps.l1 : Nat → Int → Int → ByteArray → Int → List Int → Int → Int → List ByteArray → Option (List ByteArray × Int × Int)
 | 0, _, _, _, _, _, _, _, _ => none
 | k + 1, x3, x9, x10, x11, x1000, x1001, x1002, x282000 => if x11 < x3 then ((spec_l1Cur_of.f x1000 x1001 x1002 (([(⟨#[63]⟩ : ByteArray), (⟨#[63]⟩ : ByteArray), (⟨#[48]⟩ : ByteArray), (⟨#[49]⟩ : ByteArray)] : List ByteArray))).bind fun bt285 => (if x10.size + bt285.1.size ≤ 9223372036854775807 then (spec_l1Cur_sureLamps.l1 k x3 x9 (x10 ++ bt285.1) (wrap64 (x11 + 1)) x1000 bt285.2.1 bt285.2.2 x282000) else (none))) else (if x282000.length < 8796093022208 then (spec_l1Cur_sureLamps.l0 k x3 (wrap64 (x9 + 1)) x1000 x1001 x1002 (x282000 ++ [x10])) else (none))
end
def spec_l1Cur_sureLamps.f (k : Nat) (s0_0 : List Int) (s0_1 : Int) (s0_2 : Int) : Option (List ByteArray × Int × Int) := (spec_l1Cur_pick.f s0_0 s0_1 s0_2 6).bind fun bt265 => ((spec_l1Cur_pick.f s0_0 bt265.2.1 bt265.2.2 5).bind fun bt268 => (if bt268.1 = 0 then ((spec_CountingLamps.f k (wrap64 (1 + bt265.1))).bind fun bt271 => (some (bt271.1, bt268.2.1, bt268.2.2))) else (if bt268.1 = 1 then ((spec_RunningLamps.f k (wrap64 ((wrap64 (1 + bt265.1)) + 1))).bind fun bt276 => (some (bt276.1, bt268.2.1, bt268.2.2))) else (spec_l1Cur_sureLamps.l0 k (wrap64 (1 + bt265.1)) 0 s0_0 bt268.2.1 bt268.2.2 ([] : List ByteArray)))))
theorem spec_l1Cur_sureLamps.mono_l : ∀ k, (∀ y0 y1 y2 y3 y4 y5, LeO (spec_l1Cur_sureLamps.l0 k y0 y1 y2 y3 y4 y5) (spec_l1Cur_sureLamps.l0 (k + 1) y0 y1 y2 y3 y4 y5)) ∧ (∀ y0 y1 y2 y3 y4 y5 y6 y7, LeO (spec_l1Cur_sureLamps.l1 k y0 y1 y2 y3 y4 y5 y6 y7) (spec_l1Cur_sureLamps.l1 (k + 1) y0 y1 y2 y3 y4 y5 y6 y7))
 | 0 => ⟨fun _ _ _ _ _ _ r h => by simp [spec_l1Cur_sureLamps.l0] at h, fun _ _ _ _ _ _ _ _ r h => by simp [spec_l1Cur_sureLamps.l1] at h⟩
 | k + 1 => by
  obtain ⟨ih0, ih1⟩ := spec_l1Cur_sureLamps.mono_l k
  refine ⟨?_, ?_⟩
  ·intro y0 y1 y2 y3 y4 y5
   unfold spec_l1Cur_sureLamps.l0
   repeat' first
   | wE ih0 _ _ _ _ _ _
   | wE ih1 _ _ _ _ _ _ _ _
   | wE spec_CountingLamps.mono _ _
   | wE spec_RunningLamps.mono _ _
   | wE LeO.refl _
   | wE LeO.none _
   | wR LeO.ite ?_ ?_
   | wR LeO.bind ?_ (fun _ => ?_)
   | exact ih0 _ _ _ _ _ _
   | exact ih1 _ _ _ _ _ _ _ _
   | exact spec_CountingLamps.mono _ _
   | exact spec_RunningLamps.mono _ _
   | exact LeO.none _
   | refine LeO.ite ?_ ?_
   | refine LeO.bind ?_ (fun _ => ?_)
  ·intro y0 y1 y2 y3 y4 y5 y6 y7
   unfold spec_l1Cur_sureLamps.l1
   repeat' first
   | wE ih0 _ _ _ _ _ _
   | wE ih1 _ _ _ _ _ _ _ _
   | wE spec_CountingLamps.mono _ _
   | wE spec_RunningLamps.mono _ _
   | wE LeO.refl _
   | wE LeO.none _
   | wR LeO.ite ?_ ?_
   | wR LeO.bind ?_ (fun _ => ?_)
   | exact ih0 _ _ _ _ _ _
   | exact ih1 _ _ _ _ _ _ _ _
   | exact spec_CountingLamps.mono _ _
   | exact spec_RunningLamps.mono _ _
   | exact LeO.none _
   | refine LeO.ite ?_ ?_
   | refine LeO.bind ?_ (fun _ => ?_)
theorem spec_l1Cur_sureLamps.mono : ∀ a0 a1 a2 k, LeO (spec_l1Cur_sureLamps.f k a0 a1 a2) (spec_l1Cur_sureLamps.f (k + 1) a0 a1 a2) := by
 intro a0 a1 a2 k
 obtain ⟨ih0, ih1⟩ := spec_l1Cur_sureLamps.mono_l k
 unfold spec_l1Cur_sureLamps.f
 repeat' first
   | wE ih0 _ _ _ _ _ _
   | wE ih1 _ _ _ _ _ _ _ _
   | wE spec_CountingLamps.mono _ _
   | wE spec_RunningLamps.mono _ _
   | wE LeO.refl _
   | wE LeO.none _
   | wR LeO.ite ?_ ?_
   | wR LeO.bind ?_ (fun _ => ?_)
   | exact ih0 _ _ _ _ _ _
   | exact ih1 _ _ _ _ _ _ _ _
   | exact spec_CountingLamps.mono _ _
   | exact spec_RunningLamps.mono _ _
   | exact LeO.none _
   | refine LeO.ite ?_ ?_
   | refine LeO.bind ?_ (fun _ => ?_)
set_option maxHeartbeats 8000000 in
set_option maxRecDepth 100000 in
theorem spec_l1Cur_sureLamps.calls (k : Nat) (g : Nat) (s0_0 : List Int) (s0_1 : Int) (s0_2 : Int) (r1 : List ByteArray) (r2 : Int) (r3 : Int) (w0 w : World) (hI : IsS147 w0 w g s0_0 s0_1 s0_2) (hB : Below w0.heap.size w0 w) (h : spec_l1Cur_sureLamps.f k s0_0 s0_1 s0_2 = some (r1, r2, r3)) :
  Calls Tryd.prog 201 #[.pointer (some ⟨g, 0, none⟩)] w fun e w' => ∃ v0_ : Value, e = .returned (.agg #[v0_]) ∧ Kd.R Kd.string 9 w' w.heap.size (fun _ => True) v0_ r1 ∧ IsS147 w0 w' g s0_0 r2 r3 ∧ Below w0.heap.size w0 w' ∧ KeepBut w w' g none := by
 have hu29 := Tryd.underlying29
 have HI0 := aM hI
 have HK := aM (KeepBut.refl w g none)
 have HL := aM hB.size
 clear hI
 have HW0 := aM hB.size
 have HB := aM hB
 clear hB
 have H : ((spec_l1Cur_pick.f s0_0 s0_1 s0_2 6).bind fun bt265 => ((spec_l1Cur_pick.f s0_0 bt265.2.1 bt265.2.2 5).bind fun bt268 => (if bt268.1 = 0 then ((spec_CountingLamps.f k (wrap64 (1 + bt265.1))).bind fun bt271 => (some (bt271.1, bt268.2.1, bt268.2.2))) else (if bt268.1 = 1 then ((spec_RunningLamps.f k (wrap64 ((wrap64 (1 + bt265.1)) + 1))).bind fun bt276 => (some (bt276.1, bt268.2.1, bt268.2.2))) else (spec_l1Cur_sureLamps.l0 k (wrap64 (1 + bt265.1)) 0 s0_0 bt268.2.1 bt268.2.2 ([] : List ByteArray)))))) = some (r1, r2, r3) := h
 clear h
 replace H := Option.bind_eq_some_iff.mp H
 obtain ⟨⟨t265, t266, t267⟩, A20, H⟩ := H
 dsimp only at H
 have A2 := aM A20
 clear A20
 replace H := Option.bind_eq_some_iff.mp H
 obtain ⟨⟨t268, t269, t270⟩, A30, H⟩ := H
 dsimp only at H
 have A3 := aM A30
 clear A30
 by_cases c4 : t268 = 0
 ·rw [if_pos c4] at H
  have c4b0 : (t268 == 0) = true := beq_iff_eq.mpr c4
  have c4b1 : (t268 != 0) = false := bne_eq_false_iff_eq.mpr c4
  clear c4
  replace H := Option.bind_eq_some_iff.mp H
  obtain ⟨⟨t271, t274⟩, A50, H⟩ := H
  dsimp only at H
  have A5 := aM A50
  clear A50
  simp only [Option.some.injEq, Prod.mk.injEq] at H
  obtain ⟨rfl, rfl, rfl⟩ := H
  go_enter Tryd.func201, Tryd.ntmps201
  go_wp2_with (first | ((with_reducible refine gate_dst (N := 2) rfl ?_); refine box_event ?hg (N := 2) ?hd (cs := #[.slice none 0 0]) (t := 29) ?hr ?_; (case hd => rfl); (case hg => rfl); (case hr => first | (go_simp; done) | (go_simp; rfl)); intro gb264 hg w6 hbox hb; have n0_ := aM (IsS147.below (by iI) hb); have n1_ := aM (KeepBut.trans (by iK) (KeepBut.of_below hb g none) (.inl rfl)); have n2_ := aM (below_step (by iB) hb); have n3_ := aM (hbox); have n4_ := aM ((by rw [hg]; exact (keep_size (w := w) (g := g) (row := none) (by iK)) : w.heap.size ≤ gb264)); have n5_ := aM ((Nat.le_trans HW0.out (by rw [hg]; exact (keep_size (w := w) (g := g) (row := none) (by iK)) : w.heap.size ≤ gb264) : w0.heap.size ≤ gb264)); have n6_ := aM ((by rw [hg]; exact Nat.ne_of_lt (IsS147.lt (show IsS147 w0 _ g s0_0 s0_1 s0_2 from by iI)) : g ≠ gb264)); have n7_ := aM ((by rw [hg]; exact Nat.ne_of_gt (IsS147.lt (show IsS147 w0 _ g s0_0 s0_1 s0_2 from by iI)) : gb264 ≠ g)); clear HI0; clear HK; clear HB; have HI0 := n0_; have HK := n1_; have HB := n2_; have BK264 := n3_; have GW264 := n4_; have GE264 := n5_; have NB0_264 := n6_; have NB264_0 := n7_; clear n0_ n1_ n2_ n3_ n4_ n5_ n6_ n7_; clear hb hbox hg) | ((with_reducible refine gate_callee (f := 168) rfl ?_); refine goesL_ (some 13) rfl rfl Tryd.func168 (by kernel_rfl) rfl #[.pointer (some ⟨g, 0, none⟩), .int .i64 6] rfl (by mA) ?_; (with_reducible refine (spec_l1Cur_pick.calls g s0_0 s0_1 s0_2 6 t265 t266 t267 w0 _ ?side1 ?side2 A2.out).mono ?_); (case side1 => repeat (first | (with_reducible first | exact HI0.out | apply IsS147.alloc | apply IsS147.drewN | apply IsS147.drew | apply IsS147.set_1 | apply IsS147.set_2 | refine IsS147.far ?_ NB0_264.out _) | exact HI0.out)); (case side2 => repeat (first | (with_reducible first | exact HB.out | apply below_alloc | apply pw_below_drewN | apply below_drew1 | refine below_set ?_ (IsS147.ge HI0.out) | refine below_set ?_ GE264.out) | exact HB.out)); rintro e w7 ⟨rfl, hi, hb, hk⟩; refine ⟨_, rfl, ?_⟩; have n0_ := aM (KeepBut.blk hk (g' := gb264) (o := .cells #[.slice none 0 0] 29 (0, 0)) (by (with_reducible repeat (first | refine blk_drewN ?_ _ | refine blk_drew ?_ | refine blk_alloc ?_ _)); exact BK264.out) NB264_0.out (by simp)); have n1_ := aM (KeepBut.trans (by repeat (first | (with_reducible first | exact HK.out | apply KeepBut.set_ | apply keep_drewN | apply keep_drew | apply keep_alloc | refine keep_far ?_ GW264.out _) | exact HK.out)) hk (.inl rfl)); have n2_ := aM (hb); have n3_ := aM (hi); clear BK264; clear HK; clear HB; clear HI0; have BK264 := n0_; have HK := n1_; have HB := n2_; have HI0 := n3_; clear n0_ n1_ n2_ n3_; cX) | ((with_reducible refine gate_callee (f := 168) rfl ?_); refine goesL_ (some 16) rfl rfl Tryd.func168 (by kernel_rfl) rfl #[.pointer (some ⟨g, 0, none⟩), .int .i64 5] rfl (by mA) ?_; (with_reducible refine (spec_l1Cur_pick.calls g s0_0 t266 t267 5 t268 t269 t270 w0 _ ?side1 ?side2 A3.out).mono ?_); (case side1 => repeat (first | (with_reducible first | exact HI0.out | apply IsS147.alloc | apply IsS147.drewN | apply IsS147.drew | apply IsS147.set_1 | apply IsS147.set_2 | refine IsS147.far ?_ NB0_264.out _) | exact HI0.out)); (case side2 => repeat (first | (with_reducible first | exact HB.out | apply below_alloc | apply pw_below_drewN | apply below_drew1 | refine below_set ?_ (IsS147.ge HI0.out) | refine below_set ?_ GE264.out) | exact HB.out)); rintro e w8 ⟨rfl, hi, hb, hk⟩; refine ⟨_, rfl, ?_⟩; have n0_ := aM (KeepBut.blk hk (g' := gb264) (o := .cells #[.slice none 0 0] 29 (0, 0)) (by (with_reducible repeat (first | refine blk_drewN ?_ _ | refine blk_drew ?_ | refine blk_alloc ?_ _)); exact BK264.out) NB264_0.out (by simp)); have n1_ := aM (KeepBut.trans (by repeat (first | (with_reducible first | exact HK.out | apply KeepBut.set_ | apply keep_drewN | apply keep_drew | apply keep_alloc | refine keep_far ?_ GW264.out _) | exact HK.out)) hk (.inl rfl)); have n2_ := aM (hb); have n3_ := aM (hi); clear BK264; clear HK; clear HB; clear HI0; have BK264 := n0_; have HK := n1_; have HB := n2_; have HI0 := n3_; clear n0_ n1_ n2_ n3_; cX) | ((with_reducible refine gate_callee (f := 203) rfl ?_); refine goesL_ (some 21) rfl rfl Tryd.func203 (by kernel_rfl) rfl #[.int .i64 (wrap64 (1 + t265))] rfl (by mA) ?_; (with_reducible refine (spec_CountingLamps.calls k (wrap64 (1 + t265)) t271 t274 _ A5.out).mono ?_); rintro e w9 ⟨v272, rfl, ho0, hb⟩; refine ⟨_, rfl, ?_⟩; have n0_ := aM (Kd.R_lower ho0 (keep_size (w := w) (g := g) (row := none) (by repeat (first | (with_reducible first | exact HK.out | apply KeepBut.set_ | apply keep_drewN | apply keep_drew | apply keep_alloc | refine keep_far ?_ GW264.out _) | exact HK.out)))); have n1_ := aM (IsS147.below (by repeat (first | (with_reducible first | exact HI0.out | apply IsS147.alloc | apply IsS147.drewN | apply IsS147.drew | apply IsS147.set_1 | apply IsS147.set_2 | refine IsS147.far ?_ NB0_264.out _) | exact HI0.out)) hb); have n2_ := aM (blk_below (g := gb264) (o := .cells #[.slice none 0 0] 29 (0, 0)) (by (with_reducible repeat (first | refine blk_drewN ?_ _ | refine blk_drew ?_ | refine blk_alloc ?_ _)); exact BK264.out) hb); have n3_ := aM (KeepBut.trans (by repeat (first | (with_reducible first | exact HK.out | apply KeepBut.set_ | apply keep_drewN | apply keep_drew | apply keep_alloc | refine keep_far ?_ GW264.out _) | exact HK.out)) (KeepBut.of_below hb g none) (.inl rfl)); have n4_ := aM (below_step (by repeat (first | (with_reducible first | exact HB.out | apply below_alloc | apply pw_below_drewN | apply below_drew1 | refine below_set ?_ (IsS147.ge HI0.out) | refine below_set ?_ GE264.out) | exact HB.out)) hb); clear HI0; clear BK264; clear HK; clear HB; have HO273 := n0_; have HI0 := n1_; have BK264 := n2_; have HK := n3_; have HB := n4_; clear n0_ n1_ n2_ n3_ n4_; cX; (try clear ho0)) | ((with_reducible refine gate_dst (N := 4) rfl ?_); refine box_event ?hg (N := 4) ?hd (cs := #[.slice none 0 0]) (t := 29) ?hr ?_; (case hd => rfl); (case hg => rfl); (case hr => first | (go_simp; done) | (go_simp; rfl)); intro gb275 hg w10 hbox hb; have n0_ := aM (Kd.R_below (by (rX); exact HO273.out) hb); have n1_ := aM (IsS147.below (by repeat (first | (with_reducible first | exact HI0.out | apply IsS147.alloc | apply IsS147.drewN | apply IsS147.drew | apply IsS147.set_1 | apply IsS147.set_2 | refine IsS147.far ?_ NB0_264.out _) | exact HI0.out)) hb); have n2_ := aM (blk_below (g := gb264) (o := .cells #[.slice none 0 0] 29 (0, 0)) (by (with_reducible repeat (first | refine blk_drewN ?_ _ | refine blk_drew ?_ | refine blk_alloc ?_ _)); exact BK264.out) hb); have n3_ := aM (KeepBut.trans (by repeat (first | (with_reducible first | exact HK.out | apply KeepBut.set_ | apply keep_drewN | apply keep_drew | apply keep_alloc | refine keep_far ?_ GW264.out _) | exact HK.out)) (KeepBut.of_below hb g none) (.inl rfl)); have n4_ := aM (below_step (by repeat (first | (with_reducible first | exact HB.out | apply below_alloc | apply pw_below_drewN | apply below_drew1 | refine below_set ?_ (IsS147.ge HI0.out) | refine below_set ?_ GE264.out) | exact HB.out)) hb); have n5_ := aM (hbox); have n6_ := aM ((by rw [hg]; exact (keep_size (w := w) (g := g) (row := none) (by repeat (first | (with_reducible first | exact HK.out | apply KeepBut.set_ | apply keep_drewN | apply keep_drew | apply keep_alloc | refine keep_far ?_ GW264.out _) | exact HK.out))) : w.heap.size ≤ gb275)); have n7_ := aM ((Nat.le_trans HW0.out (by rw [hg]; exact (keep_size (w := w) (g := g) (row := none) (by repeat (first | (with_reducible first | exact HK.out | apply KeepBut.set_ | apply keep_drewN | apply keep_drew | apply keep_alloc | refine keep_far ?_ GW264.out _) | exact HK.out))) : w.heap.size ≤ gb275) : w0.heap.size ≤ gb275)); have n8_ := aM ((by rw [hg]; exact Nat.ne_of_lt (blk_lt (g := gb264) (o := .cells #[.slice none 0 0] 29 (0, 0)) (by (with_reducible repeat (first | refine blk_drewN ?_ _ | refine blk_drew ?_ | refine blk_alloc ?_ _)); exact BK264.out)) : gb264 ≠ gb275)); have n9_ := aM ((by rw [hg]; exact Nat.ne_of_gt (blk_lt (g := gb264) (o := .cells #[.slice none 0 0] 29 (0, 0)) (by (with_reducible repeat (first | refine blk_drewN ?_ _ | refine blk_drew ?_ | refine blk_alloc ?_ _)); exact BK264.out)) : gb275 ≠ gb264)); have n10_ := aM ((by rw [hg]; exact Nat.ne_of_lt (IsS147.lt (show IsS147 w0 _ g s0_0 t269 t270 from by repeat (first | (with_reducible first | exact HI0.out | apply IsS147.alloc | apply IsS147.drewN | apply IsS147.drew | apply IsS147.set_1 | apply IsS147.set_2 | refine IsS147.far ?_ NB0_264.out _) | exact HI0.out))) : g ≠ gb275)); have n11_ := aM ((by rw [hg]; exact Nat.ne_of_gt (IsS147.lt (show IsS147 w0 _ g s0_0 t269 t270 from by repeat (first | (with_reducible first | exact HI0.out | apply IsS147.alloc | apply IsS147.drewN | apply IsS147.drew | apply IsS147.set_1 | apply IsS147.set_2 | refine IsS147.far ?_ NB0_264.out _) | exact HI0.out))) : gb275 ≠ g)); clear HO273; clear HI0; clear BK264; clear HK; clear HB; have HO273 := n0_; have HI0 := n1_; have BK264 := n2_; have HK := n3_; have HB := n4_; have BK275 := n5_; have GW275 := n6_; have GE275 := n7_; have NB264_275 := n8_; have NB275_264 := n9_; have NB0_275 := n10_; have NB275_0 := n11_; clear n0_ n1_ n2_ n3_ n4_ n5_ n6_ n7_ n8_ n9_ n10_ n11_; clear hb hbox hg; obtain ⟨Ao11, co11, eo11⟩ := Kd.R_slice HO273.out; subst eo11; have hnb12 := NB275_264.out; have hnc12 := NB264_275.out; have hnb13 := NB275_0.out; have hnc13 := NB0_275.out; have hcz14_0 : w10.cell? ⟨gb275, 0, none⟩ = some (.slice none 0 0) := (blk_cell BK275.out 0).trans rfl; have hfz14_0 := blk_frozen BK275.out 0; have hnb15 := NB264_0.out; have hnc15 := NB0_264.out; have hcz16_0 : w10.cell? ⟨gb264, 0, none⟩ = some (.slice none 0 0) := (blk_cell BK264.out 0).trans rfl; have hfz16_0 := blk_frozen BK264.out 0))
  refine bodyPost_ret (results_cell_row rfl _ _ gb264 29 #[.slice Ao11 t271.length co11] (0, 0) _ rfl (by (with_reducible repeat (first | refine blk_drewN ?_ _ | refine blk_drew ?_ | refine blk_alloc ?_ _)); refine blk_put (cs := #[.slice none 0 0]) ?_ 0 _ rfl; (with_reducible repeat (first | refine blk_drewN ?_ _ | refine blk_drew ?_ | refine blk_alloc ?_ _)); refine blk_far ?_ NB264_275.out _; (with_reducible repeat (first | refine blk_drewN ?_ _ | refine blk_drew ?_ | refine blk_alloc ?_ _)); exact BK264.out) Tryd.underlying29 rfl (by kernel_rfl)) rfl ?_
  exact ⟨_, by eW, by (rX); exact Kd.R_mono (Kd.R_far (p := ⟨gb264, 0, none⟩) (Kd.R_far (p := ⟨gb275, 0, none⟩) (Kd.R_types (Kd.R_types HO273.out BK275.out (by decide)) BK264.out (by decide)) (fun _ hk => hk.1.2) (.slice Ao11 t271.length co11)) (fun _ hk => hk.2) (.slice Ao11 t271.length co11)) (fun _ hk => trivial), by repeat (first | (with_reducible first | exact HI0.out | apply IsS147.alloc | apply IsS147.drewN | apply IsS147.drew | apply IsS147.set_1 | apply IsS147.set_2 | refine IsS147.far ?_ NB0_264.out _ | refine IsS147.far ?_ NB0_275.out _) | exact HI0.out), by repeat (first | (with_reducible first | exact HB.out | apply below_alloc | apply pw_below_drewN | apply below_drew1 | refine below_set ?_ (IsS147.ge HI0.out) | refine below_set ?_ GE264.out | refine below_set ?_ GE275.out) | exact HB.out), by repeat (first | (with_reducible first | exact HK.out | apply KeepBut.set_ | apply keep_drewN | apply keep_drew | apply keep_alloc | refine keep_far ?_ GW264.out _ | refine keep_far ?_ GW275.out _) | exact HK.out)⟩
 ·rw [if_neg c4] at H
  have c4b0 : (t268 == 0) = false := beq_eq_false_iff_ne.mpr c4
  have c4b1 : (t268 != 0) = true := bne_iff_ne.mpr c4
  by_cases c17 : t268 = 1
  ·rw [if_pos c17] at H
   have c17b0 : (t268 == 1) = true := beq_iff_eq.mpr c17
   have c17b1 : (t268 != 1) = false := bne_eq_false_iff_eq.mpr c17
   clear c17
   replace H := Option.bind_eq_some_iff.mp H
   obtain ⟨⟨t276, t279⟩, A180, H⟩ := H
   dsimp only at H
   have A18 := aM A180
   clear A180
   simp only [Option.some.injEq, Prod.mk.injEq] at H
   obtain ⟨rfl, rfl, rfl⟩ := H
   go_enter Tryd.func201, Tryd.ntmps201
   go_wp2_with (first | ((with_reducible refine gate_dst (N := 2) rfl ?_); refine box_event ?hg (N := 2) ?hd (cs := #[.slice none 0 0]) (t := 29) ?hr ?_; (case hd => rfl); (case hg => rfl); (case hr => first | (go_simp; done) | (go_simp; rfl)); intro gb264 hg w19 hbox hb; have n0_ := aM (IsS147.below (by iI) hb); have n1_ := aM (KeepBut.trans (by iK) (KeepBut.of_below hb g none) (.inl rfl)); have n2_ := aM (below_step (by iB) hb); have n3_ := aM (hbox); have n4_ := aM ((by rw [hg]; exact (keep_size (w := w) (g := g) (row := none) (by iK)) : w.heap.size ≤ gb264)); have n5_ := aM ((Nat.le_trans HW0.out (by rw [hg]; exact (keep_size (w := w) (g := g) (row := none) (by iK)) : w.heap.size ≤ gb264) : w0.heap.size ≤ gb264)); have n6_ := aM ((by rw [hg]; exact Nat.ne_of_lt (IsS147.lt (show IsS147 w0 _ g s0_0 s0_1 s0_2 from by iI)) : g ≠ gb264)); have n7_ := aM ((by rw [hg]; exact Nat.ne_of_gt (IsS147.lt (show IsS147 w0 _ g s0_0 s0_1 s0_2 from by iI)) : gb264 ≠ g)); clear HI0; clear HK; clear HB; have HI0 := n0_; have HK := n1_; have HB := n2_; have BK264 := n3_; have GW264 := n4_; have GE264 := n5_; have NB0_264 := n6_; have NB264_0 := n7_; clear n0_ n1_ n2_ n3_ n4_ n5_ n6_ n7_; clear hb hbox hg) | ((with_reducible refine gate_callee (f := 168) rfl ?_); refine goesL_ (some 13) rfl rfl Tryd.func168 (by kernel_rfl) rfl #[.pointer (some ⟨g, 0, none⟩), .int .i64 6] rfl (by mA) ?_; (with_reducible refine (spec_l1Cur_pick.calls g s0_0 s0_1 s0_2 6 t265 t266 t267 w0 _ ?side1 ?side2 A2.out).mono ?_); (case side1 => repeat (first | (with_reducible first | exact HI0.out | apply IsS147.alloc | apply IsS147.drewN | apply IsS147.drew | apply IsS147.set_1 | apply IsS147.set_2 | refine IsS147.far ?_ NB0_264.out _) | exact HI0.out)); (case side2 => repeat (first | (with_reducible first | exact HB.out | apply below_alloc | apply pw_below_drewN | apply below_drew1 | refine below_set ?_ (IsS147.ge HI0.out) | refine below_set ?_ GE264.out) | exact HB.out)); rintro e w20 ⟨rfl, hi, hb, hk⟩; refine ⟨_, rfl, ?_⟩; have n0_ := aM (KeepBut.blk hk (g' := gb264) (o := .cells #[.slice none 0 0] 29 (0, 0)) (by (with_reducible repeat (first | refine blk_drewN ?_ _ | refine blk_drew ?_ | refine blk_alloc ?_ _)); exact BK264.out) NB264_0.out (by simp)); have n1_ := aM (KeepBut.trans (by repeat (first | (with_reducible first | exact HK.out | apply KeepBut.set_ | apply keep_drewN | apply keep_drew | apply keep_alloc | refine keep_far ?_ GW264.out _) | exact HK.out)) hk (.inl rfl)); have n2_ := aM (hb); have n3_ := aM (hi); clear BK264; clear HK; clear HB; clear HI0; have BK264 := n0_; have HK := n1_; have HB := n2_; have HI0 := n3_; clear n0_ n1_ n2_ n3_; cX) | ((with_reducible refine gate_callee (f := 168) rfl ?_); refine goesL_ (some 16) rfl rfl Tryd.func168 (by kernel_rfl) rfl #[.pointer (some ⟨g, 0, none⟩), .int .i64 5] rfl (by mA) ?_; (with_reducible refine (spec_l1Cur_pick.calls g s0_0 t266 t267 5 t268 t269 t270 w0 _ ?side1 ?side2 A3.out).mono ?_); (case side1 => repeat (first | (with_reducible first | exact HI0.out | apply IsS147.alloc | apply IsS147.drewN | apply IsS147.drew | apply IsS147.set_1 | apply IsS147.set_2 | refine IsS147.far ?_ NB0_264.out _) | exact HI0.out)); (case side2 => repeat (first | (with_reducible first | exact HB.out | apply below_alloc | apply pw_below_drewN | apply below_drew1 | refine below_set ?_ (IsS147.ge HI0.out) | refine below_set ?_ GE264.out) | exact HB.out)); rintro e w21 ⟨rfl, hi, hb, hk⟩; refine ⟨_, rfl, ?_⟩; have n0_ := aM (KeepBut.blk hk (g' := gb264) (o := .cells #[.slice none 0 0] 29 (0, 0)) (by (with_reducible repeat (first | refine blk_drewN ?_ _ | refine blk_drew ?_ | refine blk_alloc ?_ _)); exact BK264.out) NB264_0.out (by simp)); have n1_ := aM (KeepBut.trans (by repeat (first | (with_reducible first | exact HK.out | apply KeepBut.set_ | apply keep_drewN | apply keep_drew | apply keep_alloc | refine keep_far ?_ GW264.out _) | exact HK.out)) hk (.inl rfl)); have n2_ := aM (hb); have n3_ := aM (hi); clear BK264; clear HK; clear HB; clear HI0; have BK264 := n0_; have HK := n1_; have HB := n2_; have HI0 := n3_; clear n0_ n1_ n2_ n3_; cX) | ((with_reducible refine gate_callee (f := 226) rfl ?_); refine goesL_ (some 30) rfl rfl Tryd.func226 (by kernel_rfl) rfl #[.int .i64 (wrap64 ((wrap64 (1 + t265)) + 1))] rfl (by mA) ?_; (with_reducible refine (spec_RunningLamps.calls k (wrap64 ((wrap64 (1 + t265)) + 1)) t276 t279 _ A18.out).mono ?_); rintro e w22 ⟨v277, rfl, ho0, hb⟩; refine ⟨_, rfl, ?_⟩; have n0_ := aM (Kd.R_lower ho0 (keep_size (w := w) (g := g) (row := none) (by repeat (first | (with_reducible first | exact HK.out | apply KeepBut.set_ | apply keep_drewN | apply keep_drew | apply keep_alloc | refine keep_far ?_ GW264.out _) | exact HK.out)))); have n1_ := aM (IsS147.below (by repeat (first | (with_reducible first | exact HI0.out | apply IsS147.alloc | apply IsS147.drewN | apply IsS147.drew | apply IsS147.set_1 | apply IsS147.set_2 | refine IsS147.far ?_ NB0_264.out _) | exact HI0.out)) hb); have n2_ := aM (blk_below (g := gb264) (o := .cells #[.slice none 0 0] 29 (0, 0)) (by (with_reducible repeat (first | refine blk_drewN ?_ _ | refine blk_drew ?_ | refine blk_alloc ?_ _)); exact BK264.out) hb); have n3_ := aM (KeepBut.trans (by repeat (first | (with_reducible first | exact HK.out | apply KeepBut.set_ | apply keep_drewN | apply keep_drew | apply keep_alloc | refine keep_far ?_ GW264.out _) | exact HK.out)) (KeepBut.of_below hb g none) (.inl rfl)); have n4_ := aM (below_step (by repeat (first | (with_reducible first | exact HB.out | apply below_alloc | apply pw_below_drewN | apply below_drew1 | refine below_set ?_ (IsS147.ge HI0.out) | refine below_set ?_ GE264.out) | exact HB.out)) hb); clear HI0; clear BK264; clear HK; clear HB; have HO278 := n0_; have HI0 := n1_; have BK264 := n2_; have HK := n3_; have HB := n4_; clear n0_ n1_ n2_ n3_ n4_; cX; (try clear ho0)) | ((with_reducible refine gate_dst (N := 6) rfl ?_); refine box_event ?hg (N := 6) ?hd (cs := #[.slice none 0 0]) (t := 29) ?hr ?_; (case hd => rfl); (case hg => rfl); (case hr => first | (go_simp; done) | (go_simp; rfl)); intro gb280 hg w23 hbox hb; have n0_ := aM (Kd.R_below (by (rX); exact HO278.out) hb); have n1_ := aM (IsS147.below (by repeat (first | (with_reducible first | exact HI0.out | apply IsS147.alloc | apply IsS147.drewN | apply IsS147.drew | apply IsS147.set_1 | apply IsS147.set_2 | refine IsS147.far ?_ NB0_264.out _) | exact HI0.out)) hb); have n2_ := aM (blk_below (g := gb264) (o := .cells #[.slice none 0 0] 29 (0, 0)) (by (with_reducible repeat (first | refine blk_drewN ?_ _ | refine blk_drew ?_ | refine blk_alloc ?_ _)); exact BK264.out) hb); have n3_ := aM (KeepBut.trans (by repeat (first | (with_reducible first | exact HK.out | apply KeepBut.set_ | apply keep_drewN | apply keep_drew | apply keep_alloc | refine keep_far ?_ GW264.out _) | exact HK.out)) (KeepBut.of_below hb g none) (.inl rfl)); have n4_ := aM (below_step (by repeat (first | (with_reducible first | exact HB.out | apply below_alloc | apply pw_below_drewN | apply below_drew1 | refine below_set ?_ (IsS147.ge HI0.out) | refine below_set ?_ GE264.out) | exact HB.out)) hb); have n5_ := aM (hbox); have n6_ := aM ((by rw [hg]; exact (keep_size (w := w) (g := g) (row := none) (by repeat (first | (with_reducible first | exact HK.out | apply KeepBut.set_ | apply keep_drewN | apply keep_drew | apply keep_alloc | refine keep_far ?_ GW264.out _) | exact HK.out))) : w.heap.size ≤ gb280)); have n7_ := aM ((Nat.le_trans HW0.out (by rw [hg]; exact (keep_size (w := w) (g := g) (row := none) (by repeat (first | (with_reducible first | exact HK.out | apply KeepBut.set_ | apply keep_drewN | apply keep_drew | apply keep_alloc | refine keep_far ?_ GW264.out _) | exact HK.out))) : w.heap.size ≤ gb280) : w0.heap.size ≤ gb280)); have n8_ := aM ((by rw [hg]; exact Nat.ne_of_lt (blk_lt (g := gb264) (o := .cells #[.slice none 0 0] 29 (0, 0)) (by (with_reducible repeat (first | refine blk_drewN ?_ _ | refine blk_drew ?_ | refine blk_alloc ?_ _)); exact BK264.out)) : gb264 ≠ gb280)); have n9_ := aM ((by rw [hg]; exact Nat.ne_of_gt (blk_lt (g := gb264) (o := .cells #[.slice none 0 0] 29 (0, 0)) (by (with_reducible repeat (first | refine blk_drewN ?_ _ | refine blk_drew ?_ | refine blk_alloc ?_ _)); exact BK264.out)) : gb280 ≠ gb264)); have n10_ := aM ((by rw [hg]; exact Nat.ne_of_lt (IsS147.lt (show IsS147 w0 _ g s0_0 t269 t270 from by repeat (first | (with_reducible first | exact HI0.out | apply IsS147.alloc | apply IsS147.drewN | apply IsS147.drew | apply IsS147.set_1 | apply IsS147.set_2 | refine IsS147.far ?_ NB0_264.out _) | exact HI0.out))) : g ≠ gb280)); have n11_ := aM ((by rw [hg]; exact Nat.ne_of_gt (IsS147.lt (show IsS147 w0 _ g s0_0 t269 t270 from by repeat (first | (with_reducible first | exact HI0.out | apply IsS147.alloc | apply IsS147.drewN | apply IsS147.drew | apply IsS147.set_1 | apply IsS147.set_2 | refine IsS147.far ?_ NB0_264.out _) | exact HI0.out))) : gb280 ≠ g)); clear HO278; clear HI0; clear BK264; clear HK; clear HB; have HO278 := n0_; have HI0 := n1_; have BK264 := n2_; have HK := n3_; have HB := n4_; have BK280 := n5_; have GW280 := n6_; have GE280 := n7_; have NB264_280 := n8_; have NB280_264 := n9_; have NB0_280 := n10_; have NB280_0 := n11_; clear n0_ n1_ n2_ n3_ n4_ n5_ n6_ n7_ n8_ n9_ n10_ n11_; clear hb hbox hg; obtain ⟨Ao24, co24, eo24⟩ := Kd.R_slice HO278.out; subst eo24; have hnb25 := NB280_264.out; have hnc25 := NB264_280.out; have hnb26 := NB280_0.out; have hnc26 := NB0_280.out; have hcz27_0 : w23.cell? ⟨gb280, 0, none⟩ = some (.slice none 0 0) := (blk_cell BK280.out 0).trans rfl; have hfz27_0 := blk_frozen BK280.out 0; have hnb28 := NB264_0.out; have hnc28 := NB0_264.out; have hcz29_0 : w23.cell? ⟨gb264, 0, none⟩ = some (.slice none 0 0) := (blk_cell BK264.out 0).trans rfl; have hfz29_0 := blk_frozen BK264.out 0))
   refine bodyPost_ret (results_cell_row rfl _ _ gb264 29 #[.slice Ao24 t276.length co24] (0, 0) _ rfl (by (with_reducible repeat (first | refine blk_drewN ?_ _ | refine blk_drew ?_ | refine blk_alloc ?_ _)); refine blk_put (cs := #[.slice none 0 0]) ?_ 0 _ rfl; (with_reducible repeat (first | refine blk_drewN ?_ _ | refine blk_drew ?_ | refine blk_alloc ?_ _)); refine blk_far ?_ NB264_280.out _; (with_reducible repeat (first | refine blk_drewN ?_ _ | refine blk_drew ?_ | refine blk_alloc ?_ _)); exact BK264.out) Tryd.underlying29 rfl (by kernel_rfl)) rfl ?_
   exact ⟨_, by eW, by (rX); exact Kd.R_mono (Kd.R_far (p := ⟨gb264, 0, none⟩) (Kd.R_far (p := ⟨gb280, 0, none⟩) (Kd.R_types (Kd.R_types HO278.out BK280.out (by decide)) BK264.out (by decide)) (fun _ hk => hk.1.2) (.slice Ao24 t276.length co24)) (fun _ hk => hk.2) (.slice Ao24 t276.length co24)) (fun _ hk => trivial), by repeat (first | (with_reducible first | exact HI0.out | apply IsS147.alloc | apply IsS147.drewN | apply IsS147.drew | apply IsS147.set_1 | apply IsS147.set_2 | refine IsS147.far ?_ NB0_264.out _ | refine IsS147.far ?_ NB0_280.out _) | exact HI0.out), by repeat (first | (with_reducible first | exact HB.out | apply below_alloc | apply pw_below_drewN | apply below_drew1 | refine below_set ?_ (IsS147.ge HI0.out) | refine below_set ?_ GE264.out | refine below_set ?_ GE280.out) | exact HB.out), by repeat (first | (with_reducible first | exact HK.out | apply KeepBut.set_ | apply keep_drewN | apply keep_drew | apply keep_alloc | refine keep_far ?_ GW264.out _ | refine keep_far ?_ GW280.out _) | exact HK.out)⟩
  ·rw [if_neg c17] at H
   have c17b0 : (t268 == 1) = false := beq_eq_false_iff_ne.mpr c17
   have c17b1 : (t268 != 1) = true := bne_iff_ne.mpr c17
   have H' := aM H
   clear H
   go_enter Tryd.func201, Tryd.ntmps201
   go_wp2_with (first | ((with_reducible refine gate_dst (N := 2) rfl ?_); refine box_event ?hg (N := 2) ?hd (cs := #[.slice none 0 0]) (t := 29) ?hr ?_; (case hd => rfl); (case hg => rfl); (case hr => first | (go_simp; done) | (go_simp; rfl)); intro gb264 hg w30 hbox hb; have n0_ := aM (IsS147.below (by iI) hb); have n1_ := aM (KeepBut.trans (by iK) (KeepBut.of_below hb g none) (.inl rfl)); have n2_ := aM (below_step (by iB) hb); have n3_ := aM (hbox); have n4_ := aM ((by rw [hg]; exact (keep_size (w := w) (g := g) (row := none) (by iK)) : w.heap.size ≤ gb264)); have n5_ := aM ((Nat.le_trans HW0.out (by rw [hg]; exact (keep_size (w := w) (g := g) (row := none) (by iK)) : w.heap.size ≤ gb264) : w0.heap.size ≤ gb264)); have n6_ := aM ((by rw [hg]; exact Nat.ne_of_lt (IsS147.lt (show IsS147 w0 _ g s0_0 s0_1 s0_2 from by iI)) : g ≠ gb264)); have n7_ := aM ((by rw [hg]; exact Nat.ne_of_gt (IsS147.lt (show IsS147 w0 _ g s0_0 s0_1 s0_2 from by iI)) : gb264 ≠ g)); clear HI0; clear HK; clear HB; have HI0 := n0_; have HK := n1_; have HB := n2_; have BK264 := n3_; have GW264 := n4_; have GE264 := n5_; have NB0_264 := n6_; have NB264_0 := n7_; clear n0_ n1_ n2_ n3_ n4_ n5_ n6_ n7_; clear hb hbox hg) | ((with_reducible refine gate_callee (f := 168) rfl ?_); refine goesL_ (some 13) rfl rfl Tryd.func168 (by kernel_rfl) rfl #[.pointer (some ⟨g, 0, none⟩), .int .i64 6] rfl (by mA) ?_; (with_reducible refine (spec_l1Cur_pick.calls g s0_0 s0_1 s0_2 6 t265 t266 t267 w0 _ ?side1 ?side2 A2.out).mono ?_); (case side1 => repeat (first | (with_reducible first | exact HI0.out | apply IsS147.alloc | apply IsS147.drewN | apply IsS147.drew | apply IsS147.set_1 | apply IsS147.set_2 | refine IsS147.far ?_ NB0_264.out _) | exact HI0.out)); (case side2 => repeat (first | (with_reducible first | exact HB.out | apply below_alloc | apply pw_below_drewN | apply below_drew1 | refine below_set ?_ (IsS147.ge HI0.out) | refine below_set ?_ GE264.out) | exact HB.out)); rintro e w31 ⟨rfl, hi, hb, hk⟩; refine ⟨_, rfl, ?_⟩; have n0_ := aM (KeepBut.blk hk (g' := gb264) (o := .cells #[.slice none 0 0] 29 (0, 0)) (by (with_reducible repeat (first | refine blk_drewN ?_ _ | refine blk_drew ?_ | refine blk_alloc ?_ _)); exact BK264.out) NB264_0.out (by simp)); have n1_ := aM (KeepBut.trans (by repeat (first | (with_reducible first | exact HK.out | apply KeepBut.set_ | apply keep_drewN | apply keep_drew | apply keep_alloc | refine keep_far ?_ GW264.out _) | exact HK.out)) hk (.inl rfl)); have n2_ := aM (hb); have n3_ := aM (hi); clear BK264; clear HK; clear HB; clear HI0; have BK264 := n0_; have HK := n1_; have HB := n2_; have HI0 := n3_; clear n0_ n1_ n2_ n3_; cX) | ((with_reducible refine gate_callee (f := 168) rfl ?_); refine goesL_ (some 16) rfl rfl Tryd.func168 (by kernel_rfl) rfl #[.pointer (some ⟨g, 0, none⟩), .int .i64 5] rfl (by mA) ?_; (with_reducible refine (spec_l1Cur_pick.calls g s0_0 t266 t267 5 t268 t269 t270 w0 _ ?side1 ?side2 A3.out).mono ?_); (case side1 => repeat (first | (with_reducible first | exact HI0.out | apply IsS147.alloc | apply IsS147.drewN | apply IsS147.drew | apply IsS147.set_1 | apply IsS147.set_2 | refine IsS147.far ?_ NB0_264.out _) | exact HI0.out)); (case side2 => repeat (first | (with_reducible first | exact HB.out | apply below_alloc | apply pw_below_drewN | apply below_drew1 | refine below_set ?_ (IsS147.ge HI0.out) | refine below_set ?_ GE264.out) | exact HB.out)); rintro e w32 ⟨rfl, hi, hb, hk⟩; refine ⟨_, rfl, ?_⟩; have n0_ := aM (KeepBut.blk hk (g' := gb264) (o := .cells #[.slice none 0 0] 29 (0, 0)) (by (with_reducible repeat (first | refine blk_drewN ?_ _ | refine blk_drew ?_ | refine blk_alloc ?_ _)); exact BK264.out) NB264_0.out (by simp)); have n1_ := aM (KeepBut.trans (by repeat (first | (with_reducible first | exact HK.out | apply KeepBut.set_ | apply keep_drewN | apply keep_drew | apply keep_alloc | refine keep_far ?_ GW264.out _) | exact HK.out)) hk (.inl rfl)); have n2_ := aM (hb); have n3_ := aM (hi); clear BK264; clear HK; clear HB; clear HI0; have BK264 := n0_; have HK := n1_; have HB := n2_; have HI0 := n3_; clear n0_ n1_ n2_ n3_; cX) | ((with_reducible refine gate_dst (N := 8) rfl ?_); refine box_event ?hg (N := 8) ?hd (cs := #[.slice none 0 0]) (t := 29) ?hr ?_; (case hd => rfl); (case hg => rfl); (case hr => first | (go_simp; done) | (go_simp; rfl)); intro gb281 hg w33 hbox hb; have n0_ := aM (IsS147.below (by repeat (first | (with_reducible first | exact HI0.out | apply IsS147.alloc | apply IsS147.drewN | apply IsS147.drew | apply IsS147.set_1 | apply IsS147.set_2 | refine IsS147.far ?_ NB0_264.out _) | exact HI0.out)) hb); have n1_ := aM (blk_below (g := gb264) (o := .cells #[.slice none 0 0] 29 (0, 0)) (by (with_reducible repeat (first | refine blk_drewN ?_ _ | refine blk_drew ?_ | refine blk_alloc ?_ _)); exact BK264.out) hb); have n2_ := aM (KeepBut.trans (by repeat (first | (with_reducible first | exact HK.out | apply KeepBut.set_ | apply keep_drewN | apply keep_drew | apply keep_alloc | refine keep_far ?_ GW264.out _) | exact HK.out)) (KeepBut.of_below hb g none) (.inl rfl)); have n3_ := aM (below_step (by repeat (first | (with_reducible first | exact HB.out | apply below_alloc | apply pw_below_drewN | apply below_drew1 | refine below_set ?_ (IsS147.ge HI0.out) | refine below_set ?_ GE264.out) | exact HB.out)) hb); have n4_ := aM (hbox); have n5_ := aM ((by rw [hg]; exact (keep_size (w := w) (g := g) (row := none) (by repeat (first | (with_reducible first | exact HK.out | apply KeepBut.set_ | apply keep_drewN | apply keep_drew | apply keep_alloc | refine keep_far ?_ GW264.out _) | exact HK.out))) : w.heap.size ≤ gb281)); have n6_ := aM ((Nat.le_trans HW0.out (by rw [hg]; exact (keep_size (w := w) (g := g) (row := none) (by repeat (first | (with_reducible first | exact HK.out | apply KeepBut.set_ | apply keep_drewN | apply keep_drew | apply keep_alloc | refine keep_far ?_ GW264.out _) | exact HK.out))) : w.heap.size ≤ gb281) : w0.heap.size ≤ gb281)); have n7_ := aM ((by rw [hg]; exact Nat.ne_of_lt (blk_lt (g := gb264) (o := .cells #[.slice none 0 0] 29 (0, 0)) (by (with_reducible repeat (first | refine blk_drewN ?_ _ | refine blk_drew ?_ | refine blk_alloc ?_ _)); exact BK264.out)) : gb264 ≠ gb281)); have n8_ := aM ((by rw [hg]; exact Nat.ne_of_gt (blk_lt (g := gb264) (o := .cells #[.slice none 0 0] 29 (0, 0)) (by (with_reducible repeat (first | refine blk_drewN ?_ _ | refine blk_drew ?_ | refine blk_alloc ?_ _)); exact BK264.out)) : gb281 ≠ gb264)); have n9_ := aM ((by rw [hg]; exact Nat.ne_of_lt (IsS147.lt (show IsS147 w0 _ g s0_0 t269 t270 from by repeat (first | (with_reducible first | exact HI0.out | apply IsS147.alloc | apply IsS147.drewN | apply IsS147.drew | apply IsS147.set_1 | apply IsS147.set_2 | refine IsS147.far ?_ NB0_264.out _) | exact HI0.out))) : g ≠ gb281)); have n10_ := aM ((by rw [hg]; exact Nat.ne_of_gt (IsS147.lt (show IsS147 w0 _ g s0_0 t269 t270 from by repeat (first | (with_reducible first | exact HI0.out | apply IsS147.alloc | apply IsS147.drewN | apply IsS147.drew | apply IsS147.set_1 | apply IsS147.set_2 | refine IsS147.far ?_ NB0_264.out _) | exact HI0.out))) : gb281 ≠ g)); clear HI0; clear BK264; clear HK; clear HB; have HI0 := n0_; have BK264 := n1_; have HK := n2_; have HB := n3_; have BK281 := n4_; have GW281 := n5_; have GE281 := n6_; have NB264_281 := n7_; have NB281_264 := n8_; have NB0_281 := n9_; have NB281_0 := n10_; clear n0_ n1_ n2_ n3_ n4_ n5_ n6_ n7_ n8_ n9_ n10_; clear hb hbox hg))
   go_loopg [9] k (fun kq v9 w' => ∃ (x9_1 : Int) (x1001_1 : Int) (x1002_1 : Int) (x282000_1 : List ByteArray) (u282000 : Value), v9 = .int .i64 x9_1 ∧ Aside0 (spec_l1Cur_sureLamps.l0 kq (wrap64 (1 + t265)) x9_1 s0_0 x1001_1 x1002_1 x282000_1 = some (r1, r2, r3)) ∧ Aside0 (kq ≤ k) ∧ Aside0 (Kd.R Kd.string 9 w' w.heap.size (fun _ => True) u282000 x282000_1) ∧ Aside0 (w'.heap[gb264]? = some (.cells #[(.slice none 0 0)] 29 (0, 0))) ∧ Aside0 (w'.heap[gb281]? = some (.cells #[u282000] 29 (0, 0))) ∧ Aside0 (IsS147 w0 w' g s0_0 x1001_1 x1002_1) ∧ Aside0 (KeepBut w w' g none) ∧ Aside0 (Below w0.heap.size w0 w'))
   case atStart => exact ⟨(0), (t269), (t270), (([] : List ByteArray)), (.slice none 0 0), (by rF), H', ⟨Nat.le_refl _⟩, ⟨by first | exact Kd.R_nil _ _ _ _ _ | exact Kd.N_nil _ _ _ _ _ | exact Kd.V_nil _ _ _ _ _ | exact Kd.Q_nil _ _ _ _ _ | exact Kd.S_nil _ _ _ _ _⟩, ⟨by (with_reducible repeat (first | refine blk_drewN ?_ _ | refine blk_drew ?_ | refine blk_alloc ?_ _)); exact BK264.out⟩, ⟨by (with_reducible repeat (first | refine blk_drewN ?_ _ | refine blk_drew ?_ | refine blk_alloc ?_ _)); exact BK281.out⟩, ⟨by repeat (first | (with_reducible first | exact HI0.out | apply IsS147.alloc | apply IsS147.drewN | apply IsS147.drew | apply IsS147.set_1 | apply IsS147.set_2 | refine IsS147.far ?_ NB0_264.out _ | refine IsS147.far ?_ NB0_281.out _) | exact HI0.out)⟩, ⟨by repeat (first | (with_reducible first | exact HK.out | apply KeepBut.set_ | apply keep_drewN | apply keep_drew | apply keep_alloc | refine keep_far ?_ GW264.out _ | refine keep_far ?_ GW281.out _) | exact HK.out)⟩, ⟨by repeat (first | (with_reducible first | exact HB.out | apply below_alloc | apply pw_below_drewN | apply below_drew1 | refine below_set ?_ (IsS147.ge HI0.out) | refine below_set ?_ GE264.out | refine below_set ?_ GE281.out) | exact HB.out)⟩⟩
   case round =>
    clear H'
    try clear c1
    try clear c2
    try clear p2
    try clear c4
    try clear c4b0
    try clear c4b1
    try clear p6
    try clear c12
    try clear c13
    try clear c15
    try clear c16
    try clear c17
    try clear c17b0
    try clear c17b1
    try clear c20
    try clear c22
    try clear c25
    try clear c26
    try clear c28
    try clear hcz14_0
    try clear hcz16_0
    try clear hcz27_0
    try clear hcz29_0
    try clear hfz14_0
    try clear hfz16_0
    try clear hfz27_0
    try clear hfz29_0
    obtain ⟨x9_1, x1001_1, x1002_1, x282000_1, u282000, rfl, HA, HK1, HO_282000, BK264, BK281, HI0, HK, HB⟩ := hrel
    cases gk with
    | zero => exact absurd HA.out (by simp [spec_l1Cur_sureLamps.l0])
    | succ k1 =>
     have H := HA.out
     clear HA
     simp only [spec_l1Cur_sureLamps.l0] at H
     by_cases c34 : x9_1 < (wrap64 (1 + t265))
     ·rw [if_pos c34] at H
      have c34b0 : decide (x9_1 < (wrap64 (1 + t265))) = true := decide_eq_true c34
      clear c34
      have H' := aM H
      clear H
      go_wp2
      go_loopg [10, 11] k1 (fun kq v10 v11 w' => ∃ (x10_2 : ByteArray) (x11_2 : Int) (x1001_2 : Int) (x1002_2 : Int), v10 = .string x10_2 ∧ v11 = .int .i64 x11_2 ∧ Aside0 (spec_l1Cur_sureLamps.l1 kq (wrap64 (1 + t265)) x9_1 x10_2 x11_2 s0_0 x1001_2 x1002_2 x282000_1 = some (r1, r2, r3)) ∧ Aside0 (kq ≤ k1) ∧ Aside0 (Kd.R Kd.string 9 w' w.heap.size (fun _ => True) u282000 x282000_1) ∧ Aside0 (w'.heap[gb264]? = some (.cells #[(.slice none 0 0)] 29 (0, 0))) ∧ Aside0 (w'.heap[gb281]? = some (.cells #[u282000] 29 (0, 0))) ∧ Aside0 (IsS147 w0 w' g s0_0 x1001_2 x1002_2) ∧ Aside0 (KeepBut w w' g none) ∧ Aside0 (Below w0.heap.size w0 w'))
      case atStart => exact ⟨((⟨#[]⟩ : ByteArray)), (0), (x1001_1), (x1002_1), (by rF), (by rF), H', ⟨Nat.le_refl _⟩, ⟨by (rX); exact HO_282000.out⟩, ⟨by (with_reducible repeat (first | refine blk_drewN ?_ _ | refine blk_drew ?_ | refine blk_alloc ?_ _)); exact BK264.out⟩, ⟨by (with_reducible repeat (first | refine blk_drewN ?_ _ | refine blk_drew ?_ | refine blk_alloc ?_ _)); exact BK281.out⟩, ⟨by repeat (first | (with_reducible first | exact HI0.out | apply IsS147.alloc | apply IsS147.drewN | apply IsS147.drew | apply IsS147.set_1 | apply IsS147.set_2 | refine IsS147.far ?_ NB0_264.out _ | refine IsS147.far ?_ NB0_281.out _) | exact HI0.out)⟩, ⟨by repeat (first | (with_reducible first | exact HK.out | apply KeepBut.set_ | apply keep_drewN | apply keep_drew | apply keep_alloc | refine keep_far ?_ GW264.out _ | refine keep_far ?_ GW281.out _) | exact HK.out)⟩, ⟨by repeat (first | (with_reducible first | exact HB.out | apply below_alloc | apply pw_below_drewN | apply below_drew1 | refine below_set ?_ (IsS147.ge HI0.out) | refine below_set ?_ GE264.out | refine below_set ?_ GE281.out) | exact HB.out)⟩⟩
      case round =>
       clear H'
       try clear c1
       try clear c2
       try clear p2
       try clear c3
       try clear c4
       try clear c4b0
       try clear c4b1
       try clear p6
       try clear c12
       try clear c13
       try clear c15
       try clear c16
       try clear c17
       try clear c17b0
       try clear c17b1
       try clear c20
       try clear c22
       try clear c25
       try clear c26
       try clear c28
       try clear c34
       try clear c34b0
       try clear hcz14_0
       try clear hcz16_0
       try clear hcz27_0
       try clear hcz29_0
       try clear hfz14_0
       try clear hfz16_0
       try clear hfz27_0
       try clear hfz29_0
       try clear p2
       try clear p6
       obtain ⟨x10_2, x11_2, x1001_2, x1002_2, rfl, rfl, HA, HK2, HO_282000, BK264, BK281, HI0, HK, HB⟩ := hrel
       cases gk with
       | zero => exact absurd HA.out (by simp [spec_l1Cur_sureLamps.l1])
       | succ k2 =>
        have H := HA.out
        clear HA
        simp only [spec_l1Cur_sureLamps.l1] at H
        by_cases c35 : x11_2 < (wrap64 (1 + t265))
        ·rw [if_pos c35] at H
         have c35b0 : decide (x11_2 < (wrap64 (1 + t265))) = true := decide_eq_true c35
         clear c35
         obtain ⟨y282, hy282⟩ : ∃ y_ : List ByteArray, y_ = (([(⟨#[63]⟩ : ByteArray), (⟨#[63]⟩ : ByteArray), (⟨#[48]⟩ : ByteArray), (⟨#[49]⟩ : ByteArray)] : List ByteArray)) := ⟨_, rfl⟩
         replace H : ((spec_l1Cur_of.f s0_0 x1001_2 x1002_2 y282).bind fun bt285 => (if x10_2.size + bt285.1.size ≤ 9223372036854775807 then (spec_l1Cur_sureLamps.l1 k2 (wrap64 (1 + t265)) x9_1 (x10_2 ++ bt285.1) (wrap64 (x11_2 + 1)) s0_0 bt285.2.1 bt285.2.2 x282000_1) else (none))) = some (r1, r2, r3) := by fH hy282
         have Ny282 := aM hy282
         clear hy282
         replace H := Option.bind_eq_some_iff.mp H
         obtain ⟨⟨t285, t286, t287⟩, A360, H⟩ := H
         dsimp only at H
         have A36 := aM A360
         clear A360
         by_cases c37 : x10_2.size + t285.size ≤ 9223372036854775807
         ·rw [if_pos c37] at H
          have c37b0 := eq_true c37
          have c37b1 : decide (x10_2.size + t285.size ≤ 9223372036854775807) = true := decide_eq_true c37
          try have c37b2 : (9223372036854775807 < x10_2.size + t285.size) = False := eq_false (Nat.not_lt.2 c37)
          have H' := aM H
          clear H
          go_wp2_with (first | ((with_reducible refine gate_dst (N := 46) rfl ?_); refine Kd.R_lit Kd.string _ 9 ?hg (N := 46) ?hd (xs := ([(⟨#[63]⟩ : ByteArray), (⟨#[63]⟩ : ByteArray), (⟨#[48]⟩ : ByteArray), (⟨#[49]⟩ : ByteArray)] : List ByteArray)) (inner := [.string (⟨#[63]⟩ : ByteArray), .string (⟨#[63]⟩ : ByteArray), .string (⟨#[48]⟩ : ByteArray), .string (⟨#[49]⟩ : ByteArray)]) (ok := fun _ => True) (okp := fun _ => True) ?hr ?hp (fun _ hk => hk) trivial (Below.refl _ _) (Nat.le_refl _) (by simp) ?_; (case hd => rfl); (case hg => rfl); (case hr => first | (go_simp; done) | (go_simp; rfl)); (case hp => exact (Reps.one (show Kd.M Kd.string _ _ _ (⟨#[63]⟩ : ByteArray) [.string (⟨#[63]⟩ : ByteArray)] from rfl) (Reps.one (show Kd.M Kd.string _ _ _ (⟨#[63]⟩ : ByteArray) [.string (⟨#[63]⟩ : ByteArray)] from rfl) (Reps.one (show Kd.M Kd.string _ _ _ (⟨#[48]⟩ : ByteArray) [.string (⟨#[48]⟩ : ByteArray)] from rfl) (Reps.one (show Kd.M Kd.string _ _ _ (⟨#[49]⟩ : ByteArray) [.string (⟨#[49]⟩ : ByteArray)] from rfl) (Reps.none _ _)))))); intro v283 w38 ho39 hb hg_ hnew_; clear hg_ hnew_; (first | rw [← Ny282.out] at ho39 | (simp only [Int.reduceToNat] at ho39; rw [← Ny282.out] at ho39)); have n0_ := aM (Kd.R_elder' (by (rX); exact HO_282000.out) (Kd.R_base ho39) hb); have n1_ := aM (Kd.R_lower (Kd.R_new' ho39 (Kd.R_lt (by (rX); exact HO_282000.out))) (keep_size (w := w) (g := g) (row := none) (by repeat (first | (with_reducible first | exact HK.out | apply KeepBut.set_ | apply keep_drewN | apply keep_drew | apply keep_alloc | refine keep_far ?_ GW264.out _ | refine keep_far ?_ GW281.out _) | exact HK.out)))); have n2_ := aM (blk_below (g := gb264) (o := .cells #[.slice none 0 0] 29 (0, 0)) (by (with_reducible repeat (first | refine blk_drewN ?_ _ | refine blk_drew ?_ | refine blk_alloc ?_ _)); exact BK264.out) hb); have n3_ := aM (blk_below (g := gb281) (o := .cells #[u282000] 29 (0, 0)) (by (with_reducible repeat (first | refine blk_drewN ?_ _ | refine blk_drew ?_ | refine blk_alloc ?_ _)); exact BK281.out) hb); have n4_ := aM (IsS147.below (by repeat (first | (with_reducible first | exact HI0.out | apply IsS147.alloc | apply IsS147.drewN | apply IsS147.drew | apply IsS147.set_1 | apply IsS147.set_2 | refine IsS147.far ?_ NB0_264.out _ | refine IsS147.far ?_ NB0_281.out _) | exact HI0.out)) hb); have n5_ := aM (KeepBut.trans (by repeat (first | (with_reducible first | exact HK.out | apply KeepBut.set_ | apply keep_drewN | apply keep_drew | apply keep_alloc | refine keep_far ?_ GW264.out _ | refine keep_far ?_ GW281.out _) | exact HK.out)) (KeepBut.of_below hb g none) (.inl rfl)); have n6_ := aM (below_step (by repeat (first | (with_reducible first | exact HB.out | apply below_alloc | apply pw_below_drewN | apply below_drew1 | refine below_set ?_ (IsS147.ge HI0.out) | refine below_set ?_ GE264.out | refine below_set ?_ GE281.out) | exact HB.out)) hb); clear HO_282000; clear BK264; clear BK281; clear HI0; clear HK; clear HB; have HO_282000 := n0_; have HO284 := n1_; have BK264 := n2_; have BK281 := n3_; have HI0 := n4_; have HK := n5_; have HB := n6_; clear n0_ n1_ n2_ n3_ n4_ n5_ n6_; clear hb ho39; obtain ⟨Ao40, co40, eo40⟩ := Kd.R_slice HO284.out; subst eo40) | ((with_reducible refine gate_callee (f := 173) rfl ?_); refine goesL_ (some 47) rfl rfl Tryd.func173 (by kernel_rfl) rfl #[.pointer (some ⟨g, 0, none⟩), .slice Ao40 y282.length co40] rfl (by mA) ?_; (with_reducible refine (spec_l1Cur_of.calls g s0_0 x1001_2 x1002_2 _ _ y282 t285 t286 t287 w0 _ ?side1 ?side2 ?side3 ?side4 ?side5 A36.out).mono ?_); (case side1 => repeat (first | (with_reducible first | exact HI0.out | apply IsS147.alloc | apply IsS147.drewN | apply IsS147.drew | apply IsS147.set_1 | apply IsS147.set_2 | refine IsS147.far ?_ NB0_264.out _ | refine IsS147.far ?_ NB0_281.out _) | exact HI0.out)); (case side2 => repeat (first | (with_reducible first | exact HB.out | apply below_alloc | apply pw_below_drewN | apply below_drew1 | refine below_set ?_ (IsS147.ge HI0.out) | refine below_set ?_ GE264.out | refine below_set ?_ GE281.out) | exact HB.out)); (case side3 => cC ((Kd.R_reads' HO284.out).2.2)); (case side4 => exact (Kd.R_reads' HO284.out).2.1); (case side5 => exact far_slice (IsS147.own_ne HI0.out HO284.out (by decide))); rintro e w41 ⟨rfl, hi, hb, hk⟩; refine ⟨_, rfl, ?_⟩; have n0_ := aM (Kd.R_mono (Kd.R_keep (IsS147.apart (show IsS147 w0 _ g s0_0 x1001_2 x1002_2 from by repeat (first | (with_reducible first | exact HI0.out | apply IsS147.alloc | apply IsS147.drewN | apply IsS147.drew | apply IsS147.set_1 | apply IsS147.set_2 | refine IsS147.far ?_ NB0_264.out _ | refine IsS147.far ?_ NB0_281.out _) | exact HI0.out)) (by (rX); exact HO_282000.out) (by decide)) hk (fun _ h => h.2)) (fun _ h => h.1)); have n1_ := aM (KeepBut.blk hk (g' := gb264) (o := .cells #[.slice none 0 0] 29 (0, 0)) (by (with_reducible repeat (first | refine blk_drewN ?_ _ | refine blk_drew ?_ | refine blk_alloc ?_ _)); exact BK264.out) NB264_0.out (by simp)); have n2_ := aM (KeepBut.blk hk (g' := gb281) (o := .cells #[u282000] 29 (0, 0)) (by (with_reducible repeat (first | refine blk_drewN ?_ _ | refine blk_drew ?_ | refine blk_alloc ?_ _)); exact BK281.out) NB281_0.out (by simp)); have n3_ := aM (Kd.R_mono (Kd.R_keep (IsS147.apart (show IsS147 w0 _ g s0_0 x1001_2 x1002_2 from by repeat (first | (with_reducible first | exact HI0.out | apply IsS147.alloc | apply IsS147.drewN | apply IsS147.drew | apply IsS147.set_1 | apply IsS147.set_2 | refine IsS147.far ?_ NB0_264.out _ | refine IsS147.far ?_ NB0_281.out _) | exact HI0.out)) (by (rX); exact HO284.out) (by decide)) hk (fun _ h => h.2)) (fun _ h => h.1)); have n4_ := aM (KeepBut.trans (by repeat (first | (with_reducible first | exact HK.out | apply KeepBut.set_ | apply keep_drewN | apply keep_drew | apply keep_alloc | refine keep_far ?_ GW264.out _ | refine keep_far ?_ GW281.out _) | exact HK.out)) hk (.inl rfl)); have n5_ := aM (hb); have n6_ := aM (hi); clear HO_282000; clear BK264; clear BK281; clear HO284; clear HK; clear HB; clear HI0; have HO_282000 := n0_; have BK264 := n1_; have BK281 := n2_; have HO284 := n3_; have HK := n4_; have HB := n5_; have HI0 := n6_; clear n0_ n1_ n2_ n3_ n4_ n5_ n6_; cX))
          go_roundg k2
          case measure => have := HK1.out; have := HK2.out; omega
          case rel => exact ⟨(x10_2 ++ t285), (wrap64 (x11_2 + 1)), (t286), (t287), (by rF), (by rF), H', ⟨by have := HK1.out; have := HK2.out; omega⟩, ⟨by (rX); exact Kd.R_mono HO_282000.out (fun _ hk => trivial)⟩, ⟨by (with_reducible repeat (first | refine blk_drewN ?_ _ | refine blk_drew ?_ | refine blk_alloc ?_ _)); exact BK264.out⟩, ⟨by (with_reducible repeat (first | refine blk_drewN ?_ _ | refine blk_drew ?_ | refine blk_alloc ?_ _)); exact BK281.out⟩, ⟨by repeat (first | (with_reducible first | exact HI0.out | apply IsS147.alloc | apply IsS147.drewN | apply IsS147.drew | apply IsS147.set_1 | apply IsS147.set_2 | refine IsS147.far ?_ NB0_264.out _ | refine IsS147.far ?_ NB0_281.out _) | exact HI0.out)⟩, ⟨by repeat (first | (with_reducible first | exact HK.out | apply KeepBut.set_ | apply keep_drewN | apply keep_drew | apply keep_alloc | refine keep_far ?_ GW264.out _ | refine keep_far ?_ GW281.out _) | exact HK.out)⟩, ⟨by repeat (first | (with_reducible first | exact HB.out | apply below_alloc | apply pw_below_drewN | apply below_drew1 | refine below_set ?_ (IsS147.ge HI0.out) | refine below_set ?_ GE264.out | refine below_set ?_ GE281.out) | exact HB.out)⟩⟩
         ·rw [if_neg c37] at H
          exact absurd H (by simp)
        ·rw [if_neg c35] at H
         have c35b0 : decide (x11_2 < (wrap64 (1 + t265))) = false := decide_eq_false c35
         clear c35
         by_cases c42 : x282000_1.length < 8796093022208
         ·rw [if_pos c42] at H
          have LMc42 := aM c42
          clear c42
          obtain ⟨y288, hy288⟩ : ∃ y_ : List ByteArray, y_ = (x282000_1 ++ [x10_2]) := ⟨_, rfl⟩
          replace H : (spec_l1Cur_sureLamps.l0 k2 (wrap64 (1 + t265)) (wrap64 (x9_1 + 1)) s0_0 x1001_2 x1002_2 y288) = some (r1, r2, r3) := by fH hy288
          have Ny288 := aM hy288
          clear hy288
          have H' := aM H
          clear H
          have hnb43 := NB281_264.out
          have hnc43 := NB264_281.out
          have hnb44 := NB281_0.out
          have hnc44 := NB0_281.out
          have hcz45_0 : wr.cell? ⟨gb281, 0, none⟩ = some (u282000) := (blk_cell BK281.out 0).trans rfl
          have hfz45_0 := blk_frozen BK281.out 0
          go_wp2_with (first | ((with_reducible refine gate_builtin (b := .append) (xs := #[.tmp 50, .tmp 52]) rfl ?_); at_builtin; refine Kd.R_append Kd.string w.heap.size rfl (.tmp 50) (.tmp 52) 22 9 (.string ⟨#[]⟩) 16 rfl Tryd.underlying22 info9 rfl (by decide) (by omega) u282000 x282000_1 x10_2 [.string x10_2] (fun _ => True) (fun _ => False) rfl rfl ?aP (fun _ hk => hk.elim) ?aF ?aO (Below.refl _ _) ?aS ?aL ?_; (case aP => exact rfl); (case aF => exact (fun _ _ => trivial)); (case aO => exact (by (rX); exact HO_282000.out)); (case aS => exact (keep_size (w := w) (g := g) (row := none) (by repeat (first | (with_reducible first | exact HK.out | apply KeepBut.set_ | apply keep_drewN | apply keep_drew | apply keep_alloc | refine keep_far ?_ GW264.out _ | refine keep_far ?_ GW281.out _) | exact HK.out)))); (case aL => have := LMc42.out; omega); intro v289 w46 ho hb hg hat; rw [← Ny288.out] at ho; have n0_ := aM (blk_grown (g := gb264) (o := .cells #[.slice none 0 0] 29 (0, 0)) (by (with_reducible repeat (first | refine blk_drewN ?_ _ | refine blk_drew ?_ | refine blk_alloc ?_ _)); exact BK264.out) hg (Kd.R_ne HO_282000.out BK264.out (by decide))); have n1_ := aM (blk_grown (g := gb281) (o := .cells #[u282000] 29 (0, 0)) (by (with_reducible repeat (first | refine blk_drewN ?_ _ | refine blk_drew ?_ | refine blk_alloc ?_ _)); exact BK281.out) hg (Kd.R_ne HO_282000.out BK281.out (by decide))); have n2_ := aM (IsS147.grown (by repeat (first | (with_reducible first | exact HI0.out | apply IsS147.alloc | apply IsS147.drewN | apply IsS147.drew | apply IsS147.set_1 | apply IsS147.set_2 | refine IsS147.far ?_ NB0_264.out _ | refine IsS147.far ?_ NB0_281.out _) | exact HI0.out)) hg (IsS147.own_ne HI0.out HO_282000.out (by decide))); have n3_ := aM (below_weaken (by repeat (first | (with_reducible first | exact HB.out | apply below_alloc | apply pw_below_drewN | apply below_drew1 | refine below_set ?_ (IsS147.ge HI0.out) | refine below_set ?_ GE264.out | refine below_set ?_ GE281.out) | exact HB.out)) HL.out hb); have n4_ := aM (KeepBut.trans (by repeat (first | (with_reducible first | exact HK.out | apply KeepBut.set_ | apply keep_drewN | apply keep_drew | apply keep_alloc | refine keep_far ?_ GW264.out _ | refine keep_far ?_ GW281.out _) | exact HK.out)) (KeepBut.of_grown hg g) (Kd.R_base2 HO_282000.out)); have n5_ := aM (ho); clear BK264; clear BK281; clear HI0; clear HB; clear HK; clear HO_282000; have BK264 := n0_; have BK281 := n1_; have HI0 := n2_; have HB := n3_; have HK := n4_; have HO290 := n5_; clear n0_ n1_ n2_ n3_ n4_ n5_; clear ho hb hg hat; obtain ⟨Ao47, co47, eo47⟩ := Kd.R_slice HO290.out; subst eo47; have hcz48_0 : w46.cell? ⟨gb281, 0, none⟩ = some (u282000) := (blk_cell BK281.out 0).trans rfl; have hfz48_0 := blk_frozen BK281.out 0))
          go_roundg k2
          case measure => have := HK1.out; have := HK2.out; omega
          case rel => exact ⟨(wrap64 (x9_1 + 1)), (x1001_2), (x1002_2), (y288), (.slice Ao47 y288.length co47), (by rF), H', ⟨by have := HK1.out; have := HK2.out; omega⟩, ⟨by (rX); exact Kd.R_mono (Kd.R_far (p := ⟨gb281, 0, none⟩) (Kd.R_types HO290.out BK281.out (by decide)) (fun _ hk => hk.2) (.slice Ao47 y288.length co47)) (fun _ hk => trivial)⟩, ⟨by (with_reducible repeat (first | refine blk_drewN ?_ _ | refine blk_drew ?_ | refine blk_alloc ?_ _)); refine blk_far ?_ NB264_281.out _; (with_reducible repeat (first | refine blk_drewN ?_ _ | refine blk_drew ?_ | refine blk_alloc ?_ _)); exact BK264.out⟩, ⟨by (with_reducible repeat (first | refine blk_drewN ?_ _ | refine blk_drew ?_ | refine blk_alloc ?_ _)); refine blk_put (cs := #[u282000]) ?_ 0 _ rfl; (with_reducible repeat (first | refine blk_drewN ?_ _ | refine blk_drew ?_ | refine blk_alloc ?_ _)); exact BK281.out⟩, ⟨by repeat (first | (with_reducible first | exact HI0.out | apply IsS147.alloc | apply IsS147.drewN | apply IsS147.drew | apply IsS147.set_1 | apply IsS147.set_2 | refine IsS147.far ?_ NB0_264.out _ | refine IsS147.far ?_ NB0_281.out _) | exact HI0.out)⟩, ⟨by repeat (first | (with_reducible first | exact HK.out | apply KeepBut.set_ | apply keep_drewN | apply keep_drew | apply keep_alloc | refine keep_far ?_ GW264.out _ | refine keep_far ?_ GW281.out _) | exact HK.out)⟩, ⟨by repeat (first | (with_reducible first | exact HB.out | apply below_alloc | apply pw_below_drewN | apply below_drew1 | refine below_set ?_ (IsS147.ge HI0.out) | refine below_set ?_ GE264.out | refine below_set ?_ GE281.out) | exact HB.out)⟩⟩
         ·rw [if_neg c42] at H
          exact absurd H (by simp)
     ·rw [if_neg c34] at H
      have c34b0 : decide (x9_1 < (wrap64 (1 + t265))) = false := decide_eq_false c34
      clear c34
      simp only [Option.some.injEq, Prod.mk.injEq] at H
      obtain ⟨rfl, rfl, rfl⟩ := H
      have hnb49 := NB281_264.out
      have hnc49 := NB264_281.out
      have hnb50 := NB281_0.out
      have hnc50 := NB0_281.out
      have hcz51_0 : wr.cell? ⟨gb281, 0, none⟩ = some (u282000) := (blk_cell BK281.out 0).trans rfl
      have hfz51_0 := blk_frozen BK281.out 0
      obtain ⟨Ao52, co52, eo52⟩ := Kd.R_slice HO_282000.out
      subst eo52
      have hnb53 := NB264_0.out
      have hnc53 := NB0_264.out
      have hcz54_0 : wr.cell? ⟨gb264, 0, none⟩ = some (.slice none 0 0) := (blk_cell BK264.out 0).trans rfl
      have hfz54_0 := blk_frozen BK264.out 0
      go_wp2
      refine bodyPost_ret (results_cell_row rfl _ _ gb264 29 #[.slice Ao52 x282000_1.length co52] (0, 0) _ rfl (by (with_reducible repeat (first | refine blk_drewN ?_ _ | refine blk_drew ?_ | refine blk_alloc ?_ _)); refine blk_put (cs := #[.slice none 0 0]) ?_ 0 _ rfl; (with_reducible repeat (first | refine blk_drewN ?_ _ | refine blk_drew ?_ | refine blk_alloc ?_ _)); exact BK264.out) Tryd.underlying29 rfl (by kernel_rfl)) rfl ?_
      exact ⟨_, by eW, by (rX); exact Kd.R_mono (Kd.R_far (p := ⟨gb264, 0, none⟩) (Kd.R_types HO_282000.out BK264.out (by decide)) (fun _ hk => hk.2) (.slice Ao52 x282000_1.length co52)) (fun _ hk => trivial), by repeat (first | (with_reducible first | exact HI0.out | apply IsS147.alloc | apply IsS147.drewN | apply IsS147.drew | apply IsS147.set_1 | apply IsS147.set_2 | refine IsS147.far ?_ NB0_264.out _ | refine IsS147.far ?_ NB0_281.out _) | exact HI0.out), by repeat (first | (with_reducible first | exact HB.out | apply below_alloc | apply pw_below_drewN | apply below_drew1 | refine below_set ?_ (IsS147.ge HI0.out) | refine below_set ?_ GE264.out | refine below_set ?_ GE281.out) | exact HB.out), by repeat (first | (with_reducible first | exact HK.out | apply KeepBut.set_ | apply keep_drewN | apply keep_drew | apply keep_alloc | refine keep_far ?_ GW264.out _ | refine keep_far ?_ GW281.out _) | exact HK.out)⟩

end Go.Proofs.YtifdgebdkhdmhaaDoor.PLTick
