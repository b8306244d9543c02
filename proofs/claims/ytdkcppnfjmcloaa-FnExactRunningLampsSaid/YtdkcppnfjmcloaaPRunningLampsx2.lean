-- PRINTED by drive.py (a program of this session's, over the kit's print.py; wip/tools/drive.py). Lean checks it.
import Derived.Test.YtdkcppnfjmcloaaPRunningLampsx0
import Derived.Test.YtdkcppnfjmcloaaPRunningLampsx1
namespace Go.Proofs.Ytdkcppnfjmcloaa.PRunningLamps
open Go.RowKit Go.Proofs.YtdkcppnfjmcloaaW.PrintWords Go.Proofs.YtdkcppnfjmcloaaW.PrintLast Go.Proofs.YtdkcppnfjmcloaaW.PrintMore
attribute [local go_sem] max2_int min2_int max_two min_two max_three min_three max_four min_four   -- for this text's walks alone
set_option linter.unusedVariables false
set_option linter.unusedSimpArgs false

/-! ### spec_riAll: function 64 -/
def spec_riAll.l0 : Nat → Int → ByteArray → ByteArray → Option (ByteArray)
 | 0, _, _, _ => none
 | k + 1, x0, x1, x5 => if x0 > 0 then (if x5.size + x1.size ≤ 9223372036854775807 then (spec_riAll.l0 k (wrap64 (x0 - 1)) x1 (x5 ++ x1)) else (none)) else (some x5)
def spec_riAll.f (k : Nat) (a0 : Int) (a1 : ByteArray) : Option (ByteArray) := spec_riAll.l0 k a0 a1 (⟨#[]⟩ : ByteArray)
theorem spec_riAll.mono_l : ∀ k, (∀ y0 y1 y2, LeO (spec_riAll.l0 k y0 y1 y2) (spec_riAll.l0 (k + 1) y0 y1 y2))
 | 0 => fun _ _ _ r h => by simp [spec_riAll.l0] at h
 | k + 1 => by
  have ih0 := spec_riAll.mono_l k
  ·intro y0 y1 y2
   unfold spec_riAll.l0
   repeat' first
   | (with_reducible exact ih0 _ _ _)
   | (with_reducible exact LeO.refl _)
   | (with_reducible exact LeO.none _)
   | (with_reducible refine LeO.ite ?_ ?_)
   | (with_reducible refine LeO.bind ?_ (fun _ => ?_))
   | exact ih0 _ _ _
   | exact LeO.none _
   | refine LeO.ite ?_ ?_
   | refine LeO.bind ?_ (fun _ => ?_)
theorem spec_riAll.mono : ∀ a0 a1 k, LeO (spec_riAll.f k a0 a1) (spec_riAll.f (k + 1) a0 a1) := by
 intro a0 a1 k
 have ih0 := spec_riAll.mono_l k
 unfold spec_riAll.f
 repeat' first
   | (with_reducible exact ih0 _ _ _)
   | (with_reducible exact LeO.refl _)
   | (with_reducible exact LeO.none _)
   | (with_reducible refine LeO.ite ?_ ?_)
   | (with_reducible refine LeO.bind ?_ (fun _ => ?_))
   | exact ih0 _ _ _
   | exact LeO.none _
   | refine LeO.ite ?_ ?_
   | refine LeO.bind ?_ (fun _ => ?_)
set_option maxHeartbeats 8000000 in
set_option maxRecDepth 100000 in
theorem spec_riAll.calls (k : Nat) (a0 : Int) (a1 : ByteArray) (r : ByteArray) (w : World) (h : spec_riAll.f k a0 a1 = some r) :
  Calls Try.prog 64 #[.int .i64 a0, .string a1] w fun e w' => e = .returned (.string r) ∧ Drawn0 w w' := by
 have H : (spec_riAll.l0 k a0 a1 (⟨#[]⟩ : ByteArray)) = some r := h
 clear h
 have H' := Aside0.mk H
 clear H
 go_enter Try.func64, Try.ntmps64
 go_wp2
 go_loopg [0, 5] k (fun kq v0 v5 w' => ∃ (x0_1 : Int) (x5_1 : ByteArray), v0 = .int .i64 x0_1 ∧ v5 = .string x5_1 ∧ Aside0 (spec_riAll.l0 kq x0_1 a1 x5_1 = some r) ∧ Aside0 (kq ≤ k) ∧ Drawn0 w w')
 case atStart => exact ⟨(a0), ((⟨#[]⟩ : ByteArray)), (by first | rfl | (simp; done) | (simp [*]; done)), (by first | rfl | (simp; done) | (simp [*]; done)), H', ⟨Nat.le_refl _⟩, by repeat (first | exact Drawn0.refl _ | apply Drawn0.step)⟩
 case round =>
  clear H'
  try clear p2
  obtain ⟨x0_1, x5_1, rfl, rfl, HA, HK1, ⟨m1, rfl⟩⟩ := hrel
  cases gk with
  | zero => exact absurd HA.out (by simp [spec_riAll.l0])
  | succ k1 =>
   have H := HA.out
   clear HA
   simp only [spec_riAll.l0] at H
   by_cases c3 : x0_1 > 0
   ·rw [if_pos c3] at H
    have c3b0 : decide (0 < x0_1) = true := decide_eq_true c3
    clear c3
    by_cases c4 : x5_1.size + a1.size ≤ 9223372036854775807
    ·rw [if_pos c4] at H
     have c4b0 := eq_true c4
     have c4b1 : decide (x5_1.size + a1.size ≤ 9223372036854775807) = true := decide_eq_true c4
     try have c4b2 : (9223372036854775807 < x5_1.size + a1.size) = False := eq_false (Nat.not_lt.2 c4)
     have H' := Aside0.mk H
     clear H
     go_wp2
     go_roundg k1
     case measure => have := HK1.out; omega
     case rel => exact ⟨(wrap64 (x0_1 - 1)), (x5_1 ++ a1), (by first | rfl | (simp; done) | (simp [*]; done)), (by first | rfl | (simp; done) | (simp [*]; done)), H', ⟨by have := HK1.out; omega⟩, by repeat (first | exact Drawn0.refl _ | apply Drawn0.step)⟩
    ·rw [if_neg c4] at H
     exact absurd H (by simp)
   ·rw [if_neg c3] at H
    have c3b0 : decide (0 < x0_1) = false := decide_eq_false c3
    clear c3
    obtain rfl := Option.some.inj H
    go_wp2
    go_ret
    exact ⟨by first | rfl | (simp; done) | (simp [*]; done), by repeat (first | exact Drawn0.refl _ | apply Drawn0.step)⟩

/-! ### spec_RunningLamps: function 31 -/
mutual
def spec_RunningLamps.j0 : Nat → Int → Bool → Option (List ByteArray × Bool)
 | 0, _, _ => none
 | k + 1, x0, x12 => if x12 = true then (some (([] : List ByteArray), false)) else ((spec_riAll.f k (wrap64 (x0 - 2)) (⟨#[63]⟩ : ByteArray)).bind fun t121 => (if 1 + t121.size ≤ 9223372036854775807 then (if ((⟨#[49]⟩ : ByteArray) ++ t121).size + 1 ≤ 9223372036854775807 then (spec_RunningLamps.l0 k x0 1 (([((⟨#[49]⟩ : ByteArray) ++ t121) ++ (⟨#[48]⟩ : ByteArray)] : List ByteArray))) else (none)) else (none)))
def spec_RunningLamps.l0 : Nat → Int → Int → List ByteArray → Option (List ByteArray × Bool)
 | 0, _, _, _ => none
 | k + 1, x0, x5, x126000 => if x5 < x0 then ((spec_riAll.f k (wrap64 (x5 - 1)) (⟨#[63]⟩ : ByteArray)).bind fun t126 => (if t126.size + 2 ≤ 9223372036854775807 then ((spec_riAll.f k (wrap64 ((wrap64 (x0 - 1)) - x5)) (⟨#[63]⟩ : ByteArray)).bind fun t127 => (if (t126 ++ (⟨#[49, 48]⟩ : ByteArray)).size + t127.size ≤ 9223372036854775807 then (if x126000.length < 8796093022208 then (spec_RunningLamps.l0 k x0 (wrap64 (x5 + 1)) (x126000 ++ [(t126 ++ (⟨#[49, 48]⟩ : ByteArray)) ++ t127])) else (none)) else (none))) else (none))) else (some (x126000, true))
end
def spec_RunningLamps.f (k : Nat) (a0 : Int) : Option (List ByteArray × Bool) := (spec_laCount.f a0).bind fun t120 => (if t120 = true then (spec_RunningLamps.j0 k a0 (decide (a0 < 2))) else (spec_RunningLamps.j0 k a0 true))
theorem spec_RunningLamps.mono_l : ∀ k, (∀ y0 y1, LeO (spec_RunningLamps.j0 k y0 y1) (spec_RunningLamps.j0 (k + 1) y0 y1)) ∧ (∀ y0 y1 y2, LeO (spec_RunningLamps.l0 k y0 y1 y2) (spec_RunningLamps.l0 (k + 1) y0 y1 y2))
 | 0 => ⟨fun _ _ r h => by simp [spec_RunningLamps.j0] at h, fun _ _ _ r h => by simp [spec_RunningLamps.l0] at h⟩
 | k + 1 => by
  obtain ⟨ih0, ih1⟩ := spec_RunningLamps.mono_l k
  refine ⟨?_, ?_⟩
  ·intro y0 y1
   unfold spec_RunningLamps.j0
   repeat' first
   | (with_reducible exact ih0 _ _)
   | (with_reducible exact ih1 _ _ _)
   | (with_reducible exact spec_riAll.mono _ _ _)
   | (with_reducible exact LeO.refl _)
   | (with_reducible exact LeO.none _)
   | (with_reducible refine LeO.ite ?_ ?_)
   | (with_reducible refine LeO.bind ?_ (fun _ => ?_))
   | exact ih0 _ _
   | exact ih1 _ _ _
   | exact spec_riAll.mono _ _ _
   | exact LeO.none _
   | refine LeO.ite ?_ ?_
   | refine LeO.bind ?_ (fun _ => ?_)
  ·intro y0 y1 y2
   unfold spec_RunningLamps.l0
   repeat' first
   | (with_reducible exact ih0 _ _)
   | (with_reducible exact ih1 _ _ _)
   | (with_reducible exact spec_riAll.mono _ _ _)
   | (with_reducible exact LeO.refl _)
   | (with_reducible exact LeO.none _)
   | (with_reducible refine LeO.ite ?_ ?_)
   | (with_reducible refine LeO.bind ?_ (fun _ => ?_))
   | exact ih0 _ _
   | exact ih1 _ _ _
   | exact spec_riAll.mono _ _ _
   | exact LeO.none _
   | refine LeO.ite ?_ ?_
   | refine LeO.bind ?_ (fun _ => ?_)
theorem spec_RunningLamps.mono : ∀ a0 k, LeO (spec_RunningLamps.f k a0) (spec_RunningLamps.f (k + 1) a0) := by
 intro a0 k
 obtain ⟨ih0, ih1⟩ := spec_RunningLamps.mono_l k
 unfold spec_RunningLamps.f
 repeat' first
   | (with_reducible exact ih0 _ _)
   | (with_reducible exact ih1 _ _ _)
   | (with_reducible exact spec_riAll.mono _ _ _)
   | (with_reducible exact LeO.refl _)
   | (with_reducible exact LeO.none _)
   | (with_reducible refine LeO.ite ?_ ?_)
   | (with_reducible refine LeO.bind ?_ (fun _ => ?_))
   | exact ih0 _ _
   | exact ih1 _ _ _
   | exact spec_riAll.mono _ _ _
   | exact LeO.none _
   | refine LeO.ite ?_ ?_
   | refine LeO.bind ?_ (fun _ => ?_)
def spec_RunningLamps.T7 : Bool × List (List Nat × List Nat) := (true, [([], []), ([0], [0]), ([], []), ([2], [2]), ([3], [3]), ([4], [4]), ([], []), ([6], [6]), ([], []), ([7, 8], [7, 8]), ([9, 4], [9]), ([5, 10], [5, 10]), ([11], [11]), ([1, 12, 10], [1, 12]), ([0, 1, 2, 3, 4, 5, 6, 7, 8, 9, 10, 11, 12, 13], []), ([14, 13, 13, 0, 1, 2, 3, 4, 5, 6, 7, 8, 9, 10, 11, 12, 13], [13, 14])])
def spec_RunningLamps.B7 : List Nat := [0, 1, 0, 4, 12, 28, 0, 64, 0, 448, 988, 2044, 4092, 8191, 16383, 32767]
theorem spec_RunningLamps.tab7 : rtab .any (opsOf Try.f31 7) = spec_RunningLamps.T7 := by kernel_rfl
theorem spec_RunningLamps.bits7 : waitsOk spec_RunningLamps.T7.2 spec_RunningLamps.B7 = true := by kernel_rfl
set_option maxHeartbeats 8000000 in
set_option maxRecDepth 100000 in
theorem spec_RunningLamps.calls (k : Nat) (a0 : Int) (r1 : List ByteArray) (r2 : Bool) (w : World) (h : spec_RunningLamps.f k a0 = some (r1, r2)) :
  Calls Try.prog 31 #[.int .i64 a0] w fun e w' => ∃ v0_ : Value, e = .returned (.tuple #[.agg #[v0_], .bool r2]) ∧ Kd.R Kd.string 9 w' w.heap.size (fun _ => True) v0_ r1 ∧ Below w.heap.size w w' := by
 have hu47 := Try.underlying47
 have HB := Aside0.mk (Below.refl w.heap.size w)
 have H : ((spec_laCount.f a0).bind fun t120 => (if t120 = true then (spec_RunningLamps.j0 k a0 (decide (a0 < 2))) else (spec_RunningLamps.j0 k a0 true))) = some (r1, r2) := h
 clear h
 have HC2 := Aside0.mk H
 clear H
 go_enter Try.func31, Try.ntmps31
 go_upto_region 1 with (first | ((with_reducible refine gate_dst (N := 2) rfl ?_); refine box_event ?hg (N := 2) ?hd (cs := #[.slice none 0 0]) (t := 47) ?hr ?_; (case hd => rfl); (case hg => rfl); (case hr => first | (go_simp; done) | (go_simp; rfl)); intro gb119 hg w3 hbox hb; have n0_ := Aside0.mk (below_step (by repeat (first | (with_reducible first | exact HB.out | apply below_alloc | apply pw_below_drewN | apply below_drew1) | exact HB.out)) hb); have n1_ := Aside0.mk (hbox); have n2_ := Aside0.mk ((by rw [hg]; exact (below_size (by repeat (first | (with_reducible first | exact HB.out | apply below_alloc | apply pw_below_drewN | apply below_drew1) | exact HB.out))) : w.heap.size ≤ gb119)); have n3_ := Aside0.mk ((by rw [hg]; exact (below_size (by repeat (first | (with_reducible first | exact HB.out | apply below_alloc | apply pw_below_drewN | apply below_drew1) | exact HB.out))) : w.heap.size ≤ gb119)); clear HB; have HB := n0_; have BK119 := n1_; have GW119 := n2_; have GE119 := n3_; clear n0_ n1_ n2_ n3_; clear hb hbox hg))
 (try simp only [Act.put, List.setIfInBounds_toArray, List.set_cons_zero, List.set_cons_succ])
 go_cut [12] (fun v12 wc => ∃ (kq : Nat) (x12_1 : Bool), v12 = .bool x12_1 ∧ Aside0 (spec_RunningLamps.j0 kq a0 x12_1 = some (r1, r2)) ∧ Aside0 (kq ≤ k) ∧ Aside0 (wc.heap[gb119]? = some (.cells #[(.slice none 0 0)] 47 (0, 0))) ∧ Aside0 (Below w.heap.size w wc))
 case first =>
  have H := HC2.out
  clear HC2
  replace H := Option.bind_eq_some_iff.mp H
  obtain ⟨t120, A40, H⟩ := H
  replace H : (if t120 = true then (spec_RunningLamps.j0 k a0 (decide (a0 < 2))) else (spec_RunningLamps.j0 k a0 true)) = some (r1, r2) := H
  have A4 := Aside0.mk A40
  clear A40
  by_cases c5 : t120 = true
  ·subst c5
   have H1 : (spec_RunningLamps.j0 k a0 (decide (a0 < 2))) = some (r1, r2) := by rw [if_pos rfl] at H; exact H
   clear H
   have H := H1
   clear H1
   have H' := Aside0.mk H
   clear H
   go_wp2_with (first | ((with_reducible refine gate_callee (f := 63) rfl ?_); refine goesL_ (some 7) rfl rfl Try.func63 (by kernel_rfl) rfl #[.int .i64 a0] rfl (by (try simp only [List.map_toArray, List.map_cons, List.map_nil]); first | done | rfl | (simp only [List.length_drop, List.length_take]; rfl)) ?_; (with_reducible refine (spec_laCount.calls a0 true _ A4.out).mono ?_); rintro e w' ⟨rfl, ⟨nd, rfl⟩⟩; refine ⟨_, rfl, ?_⟩))
   go_meet
   case rel => exact ⟨_, (decide (a0 < 2)), (by first | rfl | (simp; done) | (simp [*]; done)), H', ⟨by first | omega | exact Nat.le_refl _⟩, ⟨by (with_reducible repeat (first | refine blk_drewN ?_ _ | refine blk_drew ?_ | refine blk_alloc ?_ _)); exact BK119.out⟩, ⟨by repeat (first | (with_reducible first | exact HB.out | apply below_alloc | apply pw_below_drewN | apply below_drew1 | refine below_set ?_ GE119.out) | exact HB.out)⟩⟩
  ·replace c5 := Bool.eq_false_iff.mpr c5
   subst c5
   have H1 : (spec_RunningLamps.j0 k a0 true) = some (r1, r2) := by rw [if_neg (show ¬ (false = true) by decide)] at H; exact H
   clear H
   have H := H1
   clear H1
   have H' := Aside0.mk H
   clear H
   go_wp2_with (first | ((with_reducible refine gate_callee (f := 63) rfl ?_); refine goesL_ (some 7) rfl rfl Try.func63 (by kernel_rfl) rfl #[.int .i64 a0] rfl (by (try simp only [List.map_toArray, List.map_cons, List.map_nil]); first | done | rfl | (simp only [List.length_drop, List.length_take]; rfl)) ?_; (with_reducible refine (spec_laCount.calls a0 false _ A4.out).mono ?_); rintro e w' ⟨rfl, ⟨nd, rfl⟩⟩; refine ⟨_, rfl, ?_⟩))
   go_meet
   case rel => exact ⟨_, (true), (by first | rfl | (simp; done) | (simp [*]; done)), H', ⟨by first | omega | exact Nat.le_refl _⟩, ⟨by (with_reducible repeat (first | refine blk_drewN ?_ _ | refine blk_drew ?_ | refine blk_alloc ?_ _)); exact BK119.out⟩, ⟨by repeat (first | (with_reducible first | exact HB.out | apply below_alloc | apply pw_below_drewN | apply below_drew1 | refine below_set ?_ GE119.out) | exact HB.out)⟩⟩
 case rest =>
  clear HC2
  try clear p2
  try clear c3
  try clear c5
  obtain ⟨kq, x12_1, rfl, HA, HJ1, BK119, HB⟩ := hcut
  cases kq with
  | zero => exact absurd HA.out (by simp [spec_RunningLamps.j0])
  | succ kj1 =>
   have H := HA.out
   clear HA
   simp only [spec_RunningLamps.j0] at H
   by_cases c6 : x12_1 = true
   ·subst c6
    have H1 : (some (([] : List ByteArray), false)) = some (r1, r2) := by rw [if_pos rfl] at H; exact H
    clear H
    have H := H1
    clear H1
    simp only [Option.some.injEq, Prod.mk.injEq] at H
    obtain ⟨rfl, rfl⟩ := H
    have hcz7_0 : wc.cell? ⟨gb119, 0, none⟩ = some (.slice none 0 0) := (blk_cell BK119.out 0).trans rfl
    have hfz7_0 := blk_frozen BK119.out 0
    go_wp2
    refine bodyPost_ret (results_ct rfl _ _ gb119 47 #[.slice none 0 0] (0, 0) _ rfl (by (with_reducible repeat (first | refine blk_drewN ?_ _ | refine blk_drew ?_ | refine blk_alloc ?_ _)); refine blk_put (cs := #[.slice none 0 0]) ?_ 0 _ rfl; (with_reducible repeat (first | refine blk_drewN ?_ _ | refine blk_drew ?_ | refine blk_alloc ?_ _)); exact BK119.out) Try.underlying47 rfl (by kernel_rfl)) rfl ?_
    exact ⟨_, by first | rfl | (simp [errW_none, errW_some] <;> rfl) | (simp [*, errW_none, errW_some] <;> rfl), by first | exact Kd.R_nil _ _ _ _ _ | exact Kd.N_nil _ _ _ _ _ | exact Kd.V_nil _ _ _ _ _ | exact Kd.Q_nil _ _ _ _ _ | exact Kd.S_nil _ _ _ _ _, by repeat (first | (with_reducible first | exact HB.out | apply below_alloc | apply pw_below_drewN | apply below_drew1 | refine below_set ?_ GE119.out) | exact HB.out)⟩
   ·replace c6 := Bool.eq_false_iff.mpr c6
    subst c6
    have H1 : ((spec_riAll.f kj1 (wrap64 (a0 - 2)) (⟨#[63]⟩ : ByteArray)).bind fun t121 => (if 1 + t121.size ≤ 9223372036854775807 then (if ((⟨#[49]⟩ : ByteArray) ++ t121).size + 1 ≤ 9223372036854775807 then (spec_RunningLamps.l0 kj1 a0 1 (([((⟨#[49]⟩ : ByteArray) ++ t121) ++ (⟨#[48]⟩ : ByteArray)] : List ByteArray))) else (none)) else (none))) = some (r1, r2) := by rw [if_neg (show ¬ (false = true) by decide)] at H; exact H
    clear H
    have H := H1
    clear H1
    replace H := Option.bind_eq_some_iff.mp H
    obtain ⟨t121, A80, H⟩ := H
    replace H : (if 1 + t121.size ≤ 9223372036854775807 then (if ((⟨#[49]⟩ : ByteArray) ++ t121).size + 1 ≤ 9223372036854775807 then (spec_RunningLamps.l0 kj1 a0 1 (([((⟨#[49]⟩ : ByteArray) ++ t121) ++ (⟨#[48]⟩ : ByteArray)] : List ByteArray))) else (none)) else (none)) = some (r1, r2) := H
    have A8 := Aside0.mk A80
    clear A80
    by_cases c9 : 1 + t121.size ≤ 9223372036854775807
    ·rw [if_pos c9] at H
     have c9b0 := eq_true c9
     have c9b1 : decide (1 + t121.size ≤ 9223372036854775807) = true := decide_eq_true c9
     try have c9b2 : (9223372036854775807 < 1 + t121.size) = False := eq_false (Nat.not_lt.2 c9)
     by_cases c10 : ((⟨#[49]⟩ : ByteArray) ++ t121).size + 1 ≤ 9223372036854775807
     ·rw [if_pos c10] at H
      have c10b0 := eq_true c10
      have c10b1 : decide (((⟨#[49]⟩ : ByteArray) ++ t121).size + 1 ≤ 9223372036854775807) = true := decide_eq_true c10
      try have c10b2 : (9223372036854775807 < ((⟨#[49]⟩ : ByteArray) ++ t121).size + 1) = False := eq_false (Nat.not_lt.2 c10)
      try have c10q : (9223372036854775807 < 1 + t121.size + 1) = False := eq_false (Nat.not_lt.2 (by have h_ := c10; (try simp only [ByteArray.size_append] at h_); exact h_))
      obtain ⟨y122, hy122⟩ : ∃ y_ : List ByteArray, y_ = (([((⟨#[49]⟩ : ByteArray) ++ t121) ++ (⟨#[48]⟩ : ByteArray)] : List ByteArray)) := ⟨_, rfl⟩
      replace H : (spec_RunningLamps.l0 kj1 a0 1 y122) = some (r1, r2) := by first | (rw [hy122]; with_reducible exact H) | (have H2_ := (Option.bind_some _ _).symm.trans H; rw [hy122]; with_reducible exact H2_) | (have H2_ := (Option.bind_some _ _).symm.trans H; with_reducible exact H2_) | with_reducible exact H | (rw [hy122]; exact H) | exact H
      have Ny122 := Aside0.mk hy122
      clear hy122
      have H' := Aside0.mk H
      clear H
      go_wp2_with (first | ((with_reducible refine gate_callee (f := 64) rfl ?_); refine goesL_ (some 16) rfl rfl Try.func64 (by kernel_rfl) rfl #[.int .i64 (wrap64 (a0 - 2)), .string (⟨#[63]⟩ : ByteArray)] rfl (by (try simp only [List.map_toArray, List.map_cons, List.map_nil]); first | done | rfl | (simp only [List.length_drop, List.length_take]; rfl)) ?_; (with_reducible refine (spec_riAll.calls kj1 (wrap64 (a0 - 2)) (⟨#[63]⟩ : ByteArray) t121 _ A8.out).mono ?_); rintro e w' ⟨rfl, ⟨nd, rfl⟩⟩; refine ⟨_, rfl, ?_⟩; (try (rw [drewN_self wc]; generalize hq_ : World.drewN wc _ = wc; have n0_ : Aside0 (wc.heap[gb119]? = some (.cells #[.slice none 0 0] 47 (0, 0))) := ⟨by rw [← hq_]; exact (by (with_reducible repeat (first | refine blk_drewN ?_ _ | refine blk_drew ?_ | refine blk_alloc ?_ _)); exact BK119.out)⟩; have n1_ : Aside0 (Below w.heap.size w wc) := ⟨by rw [← hq_]; exact (by repeat (first | (with_reducible first | exact HB.out | apply below_alloc | apply pw_below_drewN | apply below_drew1 | refine below_set ?_ GE119.out) | exact HB.out))⟩; clear BK119 HB hq_; have BK119 := n0_; have HB := n1_; clear n0_ n1_))) | ((with_reducible refine gate_dst (N := 19) rfl ?_); refine Kd.R_lit Kd.string _ 9 ?hg (N := 19) ?hd (xs := ([((⟨#[49]⟩ : ByteArray) ++ t121) ++ (⟨#[48]⟩ : ByteArray)] : List ByteArray)) (inner := [.string (((⟨#[49]⟩ : ByteArray) ++ t121) ++ (⟨#[48]⟩ : ByteArray))]) (ok := fun _ => True) (okp := fun _ => True) ?hr ?hp (fun _ hk => hk) trivial (Below.refl _ _) (Nat.le_refl _) (by simp) ?_; (case hd => rfl); (case hg => rfl); (case hr => first | (go_simp; done) | (go_simp; rfl)); (case hp => exact (Reps.one (show Kd.M Kd.string _ _ _ (((⟨#[49]⟩ : ByteArray) ++ t121) ++ (⟨#[48]⟩ : ByteArray)) [.string (((⟨#[49]⟩ : ByteArray) ++ t121) ++ (⟨#[48]⟩ : ByteArray))] from rfl) (Reps.none _ _))); intro v123 w11 ho12 hb hg_ hnew_; clear hg_ hnew_; (first | rw [← Ny122.out] at ho12 | (simp only [Int.reduceToNat] at ho12; rw [← Ny122.out] at ho12)); have n0_ := Aside0.mk (Kd.R_lower ho12 (below_size (by repeat (first | (with_reducible first | exact HB.out | apply below_alloc | apply pw_below_drewN | apply below_drew1 | refine below_set ?_ GE119.out) | exact HB.out)))); have n1_ := Aside0.mk (blk_below (g := gb119) (o := .cells #[.slice none 0 0] 47 (0, 0)) (by (with_reducible repeat (first | refine blk_drewN ?_ _ | refine blk_drew ?_ | refine blk_alloc ?_ _)); exact BK119.out) hb); have n2_ := Aside0.mk (below_step (by repeat (first | (with_reducible first | exact HB.out | apply below_alloc | apply pw_below_drewN | apply below_drew1 | refine below_set ?_ GE119.out) | exact HB.out)) hb); clear BK119; clear HB; have HO124 := n0_; have BK119 := n1_; have HB := n2_; clear n0_ n1_ n2_; clear hb ho12; obtain ⟨Ao13, co13, eo13⟩ := Kd.R_slice HO124.out; subst eo13) | ((with_reducible refine gate_dst (N := 4) rfl ?_); refine box_event ?hg (N := 4) ?hd (cs := #[.slice none 0 0]) (t := 47) ?hr ?_; (case hd => rfl); (case hg => rfl); (case hr => first | (go_simp; done) | (go_simp; rfl)); intro gb125 hg w14 hbox hb; have n0_ := Aside0.mk (Kd.R_below (by (with_reducible repeat (first | apply Kd.R_alloc | apply Kd.R_drewN | apply Kd.R_drew)); exact HO124.out) hb); have n1_ := Aside0.mk (blk_below (g := gb119) (o := .cells #[.slice none 0 0] 47 (0, 0)) (by (with_reducible repeat (first | refine blk_drewN ?_ _ | refine blk_drew ?_ | refine blk_alloc ?_ _)); exact BK119.out) hb); have n2_ := Aside0.mk (below_step (by repeat (first | (with_reducible first | exact HB.out | apply below_alloc | apply pw_below_drewN | apply below_drew1 | refine below_set ?_ GE119.out) | exact HB.out)) hb); have n3_ := Aside0.mk (hbox); have n4_ := Aside0.mk ((by rw [hg]; exact (below_size (by repeat (first | (with_reducible first | exact HB.out | apply below_alloc | apply pw_below_drewN | apply below_drew1 | refine below_set ?_ GE119.out) | exact HB.out))) : w.heap.size ≤ gb125)); have n5_ := Aside0.mk ((by rw [hg]; exact (below_size (by repeat (first | (with_reducible first | exact HB.out | apply below_alloc | apply pw_below_drewN | apply below_drew1 | refine below_set ?_ GE119.out) | exact HB.out))) : w.heap.size ≤ gb125)); have n6_ := Aside0.mk ((by rw [hg]; exact Nat.ne_of_lt (blk_lt (g := gb119) (o := .cells #[.slice none 0 0] 47 (0, 0)) (by (with_reducible repeat (first | refine blk_drewN ?_ _ | refine blk_drew ?_ | refine blk_alloc ?_ _)); exact BK119.out)) : gb119 ≠ gb125)); have n7_ := Aside0.mk ((by rw [hg]; exact Nat.ne_of_gt (blk_lt (g := gb119) (o := .cells #[.slice none 0 0] 47 (0, 0)) (by (with_reducible repeat (first | refine blk_drewN ?_ _ | refine blk_drew ?_ | refine blk_alloc ?_ _)); exact BK119.out)) : gb125 ≠ gb119)); clear HO124; clear BK119; clear HB; have HO124 := n0_; have BK119 := n1_; have HB := n2_; have BK125 := n3_; have GW125 := n4_; have GE125 := n5_; have NB119_125 := n6_; have NB125_119 := n7_; clear n0_ n1_ n2_ n3_ n4_ n5_ n6_ n7_; clear hb hbox hg; have hnb15 := NB125_119.out; have hnc15 := NB119_125.out; have hcz16_0 : w14.cell? ⟨gb125, 0, none⟩ = some (.slice none 0 0) := (blk_cell BK125.out 0).trans rfl; have hfz16_0 := blk_frozen BK125.out 0))
      go_loopg [5] kj1 (fun kq v5 w' => ∃ (x5_2 : Int) (x126000_2 : List ByteArray) (u126000 : Value), v5 = .int .i64 x5_2 ∧ Aside0 (spec_RunningLamps.l0 kq a0 x5_2 x126000_2 = some (r1, r2)) ∧ Aside0 (kq ≤ kj1) ∧ Aside0 (Kd.R Kd.string 9 w' w.heap.size (fun _ => True) u126000 x126000_2) ∧ Aside0 (w'.heap[gb119]? = some (.cells #[(.slice none 0 0)] 47 (0, 0))) ∧ Aside0 (w'.heap[gb125]? = some (.cells #[u126000] 47 (0, 0))) ∧ Aside0 (Below w.heap.size w w'))
      case atStart => exact ⟨(1), (y122), (.slice Ao13 y122.length co13), (by first | rfl | (simp; done) | (simp [*]; done)), H', ⟨Nat.le_refl _⟩, ⟨by (with_reducible repeat (first | apply Kd.R_alloc | apply Kd.R_drewN | apply Kd.R_drew)); exact Kd.R_mono (Kd.R_far (p := ⟨gb125, 0, none⟩) (Kd.R_types HO124.out BK125.out (by decide)) (fun _ hk => hk.2) (.slice Ao13 y122.length co13)) (fun _ hk => trivial)⟩, ⟨by (with_reducible repeat (first | refine blk_drewN ?_ _ | refine blk_drew ?_ | refine blk_alloc ?_ _)); refine blk_far ?_ NB119_125.out _; (with_reducible repeat (first | refine blk_drewN ?_ _ | refine blk_drew ?_ | refine blk_alloc ?_ _)); exact BK119.out⟩, ⟨by (with_reducible repeat (first | refine blk_drewN ?_ _ | refine blk_drew ?_ | refine blk_alloc ?_ _)); refine blk_put (cs := #[.slice none 0 0]) ?_ 0 _ rfl; (with_reducible repeat (first | refine blk_drewN ?_ _ | refine blk_drew ?_ | refine blk_alloc ?_ _)); exact BK125.out⟩, ⟨by repeat (first | (with_reducible first | exact HB.out | apply below_alloc | apply pw_below_drewN | apply below_drew1 | refine below_set ?_ GE119.out | refine below_set ?_ GE125.out) | exact HB.out)⟩⟩
      case round =>
       clear H'
       try clear c1
       try clear p2
       try clear c3
       try clear c5
       try clear c6
       try clear p6
       try clear c9
       try clear c9b0
       try clear c9b1
       try clear c9b2
       try clear c10
       try clear c10b0
       try clear c10b1
       try clear c10b2
       try clear c15
       try clear hcz16_0
       try clear hcz7_0
       try clear hfz16_0
       try clear hfz7_0
       try clear p2
       obtain ⟨x5_2, x126000_2, u126000, rfl, HA, HK2, HO_126000, BK119, BK125, HB⟩ := hrel
       cases gk with
       | zero => exact absurd HA.out (by simp [spec_RunningLamps.l0])
       | succ k2 =>
        have H := HA.out
        clear HA
        simp only [spec_RunningLamps.l0] at H
        by_cases c17 : x5_2 < a0
        ·rw [if_pos c17] at H
         have c17b0 : decide (x5_2 < a0) = true := decide_eq_true c17
         clear c17
         replace H := Option.bind_eq_some_iff.mp H
         obtain ⟨t126, A180, H⟩ := H
         replace H : (if t126.size + 2 ≤ 9223372036854775807 then ((spec_riAll.f k2 (wrap64 ((wrap64 (a0 - 1)) - x5_2)) (⟨#[63]⟩ : ByteArray)).bind fun t127 => (if (t126 ++ (⟨#[49, 48]⟩ : ByteArray)).size + t127.size ≤ 9223372036854775807 then (if x126000_2.length < 8796093022208 then (spec_RunningLamps.l0 k2 a0 (wrap64 (x5_2 + 1)) (x126000_2 ++ [(t126 ++ (⟨#[49, 48]⟩ : ByteArray)) ++ t127])) else (none)) else (none))) else (none)) = some (r1, r2) := H
         have A18 := Aside0.mk A180
         clear A180
         by_cases c19 : t126.size + 2 ≤ 9223372036854775807
         ·rw [if_pos c19] at H
          have c19b0 := eq_true c19
          have c19b1 : decide (t126.size + 2 ≤ 9223372036854775807) = true := decide_eq_true c19
          try have c19b2 : (9223372036854775807 < t126.size + 2) = False := eq_false (Nat.not_lt.2 c19)
          replace H := Option.bind_eq_some_iff.mp H
          obtain ⟨t127, A200, H⟩ := H
          replace H : (if (t126 ++ (⟨#[49, 48]⟩ : ByteArray)).size + t127.size ≤ 9223372036854775807 then (if x126000_2.length < 8796093022208 then (spec_RunningLamps.l0 k2 a0 (wrap64 (x5_2 + 1)) (x126000_2 ++ [(t126 ++ (⟨#[49, 48]⟩ : ByteArray)) ++ t127])) else (none)) else (none)) = some (r1, r2) := H
          have A20 := Aside0.mk A200
          clear A200
          by_cases c21 : (t126 ++ (⟨#[49, 48]⟩ : ByteArray)).size + t127.size ≤ 9223372036854775807
          ·rw [if_pos c21] at H
           have c21b0 := eq_true c21
           have c21b1 : decide ((t126 ++ (⟨#[49, 48]⟩ : ByteArray)).size + t127.size ≤ 9223372036854775807) = true := decide_eq_true c21
           try have c21b2 : (9223372036854775807 < (t126 ++ (⟨#[49, 48]⟩ : ByteArray)).size + t127.size) = False := eq_false (Nat.not_lt.2 c21)
           try have c21q : (9223372036854775807 < t126.size + 2 + t127.size) = False := eq_false (Nat.not_lt.2 (by have h_ := c21; (try simp only [ByteArray.size_append] at h_); exact h_))
           by_cases c22 : x126000_2.length < 8796093022208
           ·rw [if_pos c22] at H
            have LMc22 := Aside0.mk c22
            clear c22
            obtain ⟨y128, hy128⟩ : ∃ y_ : List ByteArray, y_ = (x126000_2 ++ [(t126 ++ (⟨#[49, 48]⟩ : ByteArray)) ++ t127]) := ⟨_, rfl⟩
            replace H : (spec_RunningLamps.l0 k2 a0 (wrap64 (x5_2 + 1)) y128) = some (r1, r2) := by first | (rw [hy128]; with_reducible exact H) | (have H2_ := (Option.bind_some _ _).symm.trans H; rw [hy128]; with_reducible exact H2_) | (have H2_ := (Option.bind_some _ _).symm.trans H; with_reducible exact H2_) | with_reducible exact H | (rw [hy128]; exact H) | exact H
            have Ny128 := Aside0.mk hy128
            clear hy128
            have H' := Aside0.mk H
            clear H
            try go_wp2
            have n0_ := Aside0.mk (Kd.R_drew HO_126000.out)
            have n1_ := Aside0.mk (blk_drew BK119.out)
            have n2_ := Aside0.mk (blk_drew BK125.out)
            have n3_ := Aside0.mk (below_drew1 HB.out)
            clear HO_126000
            clear BK119
            clear BK125
            clear HB
            have HO_126000 := n0_
            have BK119 := n1_
            have BK125 := n2_
            have HB := n3_
            clear n0_ n1_ n2_ n3_
            refine start_ (n := 16) (S := fun w' => w'.cell? ⟨gb125, 0, none⟩ = some (u126000)) (ds := [15]) #[false, false, false, false, false, false, false, false, false, false, false, false, false, false, false, false] (by kernel_rfl) rfl rfl ((blk_cell BK125.out 0).trans rfl) (fun hHeld => ?_); refine with_tabW spec_RunningLamps.tab7 spec_RunningLamps.bits7 (fun HT_ HW_ => ?_)
            generalize wr.drew = w23 at HO_126000 BK119 BK125 HB hHeld ⊢
            refine pure_ (i := 0) (N := some 26) (v := ?_) (a' := ?_) #[true, false, false, false, false, false, false, false, false, false, false, false, false, false, false, false] rfl rfl (any_of HT_.out (by kernel_rfl)) (fun _ _ _ h => h) (Or.inl ⟨by rfl, ?_⟩) ?_ ?_
            rotate_left
            ·intro w'
             go_simp
             with_reducible rfl
            rotate_left
            ·simp only [Act.put, List.setIfInBounds_toArray, List.set_cons_zero, List.set_cons_succ, i64_w, i32_w]
             rfl
            refine pure_ (i := 2) (N := some 28) (v := ?_) (a' := ?_) #[true, false, true, false, false, false, false, false, false, false, false, false, false, false, false, false] rfl rfl (any_of HT_.out (by kernel_rfl)) (fun _ _ _ h => h) (Or.inl ⟨by rfl, ?_⟩) ?_ ?_
            rotate_left
            ·intro w'
             go_simp
             with_reducible rfl
            rotate_left
            ·simp only [Act.put, List.setIfInBounds_toArray, List.set_cons_zero, List.set_cons_succ, i64_w, i32_w]
             rfl
            refine pure_ (i := 3) (N := some 29) (v := ?_) (a' := ?_) #[true, false, true, true, false, false, false, false, false, false, false, false, false, false, false, false] rfl rfl (any_of HT_.out (by kernel_rfl)) (fun _ _ _ h => h) (Or.inl ⟨by rfl, ?_⟩) ?_ ?_
            rotate_left
            ·intro w'
             go_simp
             with_reducible rfl
            rotate_left
            ·simp only [Act.put, List.setIfInBounds_toArray, List.set_cons_zero, List.set_cons_succ, i64_w, i32_w]
             rfl
            refine pure_ (i := 6) (N := some 32) (v := ?_) (a' := ?_) #[true, false, true, true, false, false, true, false, false, false, false, false, false, false, false, false] rfl rfl (any_of HT_.out (by kernel_rfl)) (fun _ _ _ h => h) (Or.inl ⟨by rfl, ?_⟩) ?_ ?_
            rotate_left
            ·intro w'
             go_simp
             with_reducible rfl
            rotate_left
            ·simp only [Act.put, List.setIfInBounds_toArray, List.set_cons_zero, List.set_cons_succ, i64_w, i32_w]
             rfl
            refine pure_ (i := 7) (N := some 33) (v := ?_) (a' := ?_) #[true, false, true, true, false, false, true, true, false, false, false, false, false, false, false, false] rfl rfl (any_of HT_.out (by kernel_rfl)) (fun _ _ _ h => h) (Or.inl ⟨by rfl, ?_⟩) ?_ ?_
            rotate_left
            ·intro w'
             go_simp
             with_reducible rfl
            rotate_left
            ·simp only [Act.put, List.setIfInBounds_toArray, List.set_cons_zero, List.set_cons_succ, i64_w, i32_w]
             rfl
            refine pure_ (i := 8) (N := some 34) (v := ?_) (a' := ?_) #[true, false, true, true, false, false, true, true, true, false, false, false, false, false, false, false] rfl rfl (any_of HT_.out (by kernel_rfl)) (fun _ _ _ h => h) (Or.inl ⟨by rfl, ?_⟩) ?_ ?_
            rotate_left
            ·intro w'
             go_simp
             with_reducible rfl
            rotate_left
            ·simp only [Act.put, List.setIfInBounds_toArray, List.set_cons_zero, List.set_cons_succ, i64_w, i32_w]
             rfl
            refine pure_ (i := 9) (N := some 35) (v := ?_) (a' := ?_) #[true, false, true, true, false, false, true, true, true, true, false, false, false, false, false, false] rfl rfl (any_of HT_.out (by kernel_rfl)) (fun _ _ _ h => h) (Or.inl ⟨by rfl, ?_⟩) ?_ ?_
            rotate_left
            ·intro w'
             go_simp
             with_reducible rfl
            rotate_left
            ·simp only [Act.put, List.setIfInBounds_toArray, List.set_cons_zero, List.set_cons_succ, i64_w, i32_w]
             rfl
            refine take_ (i := 1) (N := some 27) (v := ?_) (a' := ?_) #[true, true, true, true, false, false, true, true, true, true, false, false, false, false, false, false] rfl rfl (take_ofW HT_.out HW_.out (by kernel_rfl)) (fun _ _ _ h => h) (Or.inl ⟨by rfl, ?_⟩) hHeld ?_ ?_
            rotate_left
            ·intro w' s0
             go_simp
             with_reducible rfl
            rotate_left
            ·simp only [Act.put, List.setIfInBounds_toArray, List.set_cons_zero, List.set_cons_succ, i64_w, i32_w]
             rfl
            refine one_ (i := 4) (N := some 30) #[true, true, true, true, true, false, true, true, true, true, false, false, false, false, false, false] rfl rfl (one_of HT_.out (by kernel_rfl)) (by decide) (fun K hK => ?_)
            refine goes_ Try.func64 (by kernel_rfl) rfl #[.int .i64 (wrap64 (x5_2 - 1)), .string (⟨#[63]⟩ : ByteArray)] (by rfl) rfl rfl (by (try simp only [List.map_toArray, List.map_cons, List.map_nil]); first | done | rfl | (simp only [List.length_drop, List.length_take]; rfl)) ?_
            with_reducible refine (spec_riAll.calls k2 (wrap64 (x5_2 - 1)) (⟨#[63]⟩ : ByteArray) t126 _ A18.out).mono ?_
            rintro e w' ⟨rfl, ⟨nd, rfl⟩⟩
            refine ⟨_, rfl, ?_⟩
            refine hK.out _ _ ((blk_cell BK125.out 0).trans rfl) (fun hHeld => ?_)
            clear hK K
            refine norm_ (a' := ?_) ?_ ?_
            rotate_left
            ·show Act.put _ (some 30) _ = _
             simp only [Act.put, List.setIfInBounds_toArray, List.set_cons_zero, List.set_cons_succ, i64_w, i32_w]
             rfl
            refine pure_ (i := 5) (N := some 31) (v := ?_) (a' := ?_) #[true, true, true, true, true, true, true, true, true, true, false, false, false, false, false, false] rfl rfl (any_of HT_.out (by kernel_rfl)) (fun _ _ _ h => h) (Or.inl ⟨by rfl, ?_⟩) ?_ ?_
            rotate_left
            ·intro w'
             go_simp
             with_reducible rfl
            rotate_left
            ·simp only [Act.put, List.setIfInBounds_toArray, List.set_cons_zero, List.set_cons_succ, i64_w, i32_w]
             rfl
            refine one_ (i := 10) (N := some 36) #[true, true, true, true, true, true, true, true, true, true, true, false, false, false, false, false] rfl rfl (one_of HT_.out (by kernel_rfl)) (by decide) (fun K hK => ?_)
            refine goes_ Try.func64 (by kernel_rfl) rfl #[.int .i64 (wrap64 ((wrap64 (a0 - 1)) - x5_2)), .string (⟨#[63]⟩ : ByteArray)] (by rfl) rfl rfl (by (try simp only [List.map_toArray, List.map_cons, List.map_nil]); first | done | rfl | (simp only [List.length_drop, List.length_take]; rfl)) ?_
            with_reducible refine (spec_riAll.calls k2 (wrap64 ((wrap64 (a0 - 1)) - x5_2)) (⟨#[63]⟩ : ByteArray) t127 _ A20.out).mono ?_
            rintro e w' ⟨rfl, ⟨nd, rfl⟩⟩
            refine ⟨_, rfl, ?_⟩
            refine hK.out _ _ ((blk_cell BK125.out 0).trans rfl) (fun hHeld => ?_)
            clear hK K
            refine norm_ (a' := ?_) ?_ ?_
            rotate_left
            ·show Act.put _ (some 36) _ = _
             simp only [Act.put, List.setIfInBounds_toArray, List.set_cons_zero, List.set_cons_succ, i64_w, i32_w]
             rfl
            refine pure_ (i := 11) (N := some 37) (v := ?_) (a' := ?_) #[true, true, true, true, true, true, true, true, true, true, true, true, false, false, false, false] rfl rfl (any_of HT_.out (by kernel_rfl)) (fun _ _ _ h => h) (Or.inl ⟨by rfl, ?_⟩) ?_ ?_
            rotate_left
            ·intro w'
             go_simp
             with_reducible rfl
            rotate_left
            ·simp only [Act.put, List.setIfInBounds_toArray, List.set_cons_zero, List.set_cons_succ, i64_w, i32_w]
             rfl
            refine one_ (i := 12) (N := some 38) #[true, true, true, true, true, true, true, true, true, true, true, true, true, false, false, false] rfl rfl (one_of HT_.out (by kernel_rfl)) (by decide) (fun K hK => ?_)
            refine value_ (w1 := ?_) (v := ?_) (by rfl) rfl ?_ ?_
            rotate_left 2
            ·go_simp
             constructor
             ·rfl
             ·rfl
            refine hK.out _ _ ((blk_cell (blk_alloc BK125.out _) 0).trans rfl) (fun hHeld => ?_)
            clear hK K
            refine norm_ (a' := ?_) ?_ ?_
            rotate_left
            ·show Act.put _ (some 38) _ = _
             simp only [Act.put, List.setIfInBounds_toArray, List.set_cons_zero, List.set_cons_succ, i64_w, i32_w]
             rfl
            refine one_ (i := 13) (N := some 39) #[true, true, true, true, true, true, true, true, true, true, true, true, true, true, false, false] rfl rfl (one_of HT_.out (by kernel_rfl)) (by decide) (fun K hK => ?_)
            refine Kd.R_append_step Kd.string (w0 := w) w.heap.size (by rfl) (.tmp 27) (.tmp 38) 45 9 (.string ⟨#[]⟩) 16 rfl Try.underlying45 info9 rfl (by decide) (by omega) u126000 x126000_2 ((t126 ++ (⟨#[49, 48]⟩ : ByteArray)) ++ t127) [.string ((t126 ++ (⟨#[49, 48]⟩ : ByteArray)) ++ t127)] (fun _ => True) (fun _ => False) rfl rfl ?aP (fun _ hk => hk.elim) ?aF ?aO ?aB ?aS ?aL ?_
            (case aP => exact rfl)
            (case aB => exact (by repeat (first | (with_reducible first | exact HB.out | apply below_alloc | apply pw_below_drewN | apply below_drew1 | refine below_set ?_ GE119.out | refine below_set ?_ GE125.out) | exact HB.out)))
            (case aF => exact (fun _ _ => trivial))
            (case aO => exact (by (with_reducible repeat (first | apply Kd.R_alloc | apply Kd.R_drewN | apply Kd.R_drew)); exact HO_126000.out))
            (case aS => exact (below_size (by repeat (first | (with_reducible first | exact HB.out | apply below_alloc | apply pw_below_drewN | apply below_drew1 | refine below_set ?_ GE119.out | refine below_set ?_ GE125.out) | exact HB.out))))
            (case aL => have := LMc22.out; omega)
            intro v129 w24 ho hb hg hat
            rw [← Ny128.out] at ho
            have n0_ := Aside0.mk (blk_grown (g := gb119) (o := .cells #[.slice none 0 0] 47 (0, 0)) (by (with_reducible repeat (first | refine blk_drewN ?_ _ | refine blk_drew ?_ | refine blk_alloc ?_ _)); exact BK119.out) hg (Kd.R_ne HO_126000.out BK119.out (by decide)))
            have n1_ := Aside0.mk (blk_grown (g := gb125) (o := .cells #[u126000] 47 (0, 0)) (by (with_reducible repeat (first | refine blk_drewN ?_ _ | refine blk_drew ?_ | refine blk_alloc ?_ _)); exact BK125.out) hg (Kd.R_ne HO_126000.out BK125.out (by decide)))
            have n2_ := Aside0.mk (hb)
            have n3_ := Aside0.mk (ho)
            clear BK119
            clear BK125
            clear HB
            clear HO_126000
            have BK119 := n0_
            have BK125 := n1_
            have HB := n2_
            have HO130 := n3_
            clear n0_ n1_ n2_ n3_
            clear ho hb hg hat
            obtain ⟨Ao25, co25, eo25⟩ := Kd.R_slice HO130.out
            (first | subst eo25 | (injection eo25 with f1_ f2_ f3_; have f4_ := f1_.symm; have f5_ := f3_.symm; clear f1_ f2_ f3_; subst f4_; subst f5_))
            refine hK.out _ _ ((blk_cell BK125.out 0).trans rfl) (fun hHeld => ?_)
            clear hK K
            refine norm_ (a' := ?_) ?_ ?_
            rotate_left
            ·show Act.put _ (some 39) _ = _
             simp only [Act.put, List.setIfInBounds_toArray, List.set_cons_zero, List.set_cons_succ, i64_w, i32_w]
             rfl
            refine pure_ (i := 14) (N := some 40) (v := ?_) (a' := ?_) #[true, true, true, true, true, true, true, true, true, true, true, true, true, true, true, false] rfl rfl (any_of HT_.out (by kernel_rfl)) (fun _ _ _ h => h) (Or.inl ⟨by rfl, ?_⟩) ?_ ?_
            rotate_left
            ·intro w'
             go_simp
             with_reducible rfl
            rotate_left
            ·simp only [Act.put, List.setIfInBounds_toArray, List.set_cons_zero, List.set_cons_succ, i64_w, i32_w]
             rfl
            refine last_ (i := 15) (N := none) #[true, true, true, true, true, true, true, true, true, true, true, true, true, true, true, true] rfl rfl (one_of HT_.out (by kernel_rfl)) (by decide) (fun K hK => ?_)
            have hs26 : w24.cell? ⟨gb125, 0, none⟩ = some (u126000) := (blk_cell BK125.out 0).trans rfl
            have hfs26 := blk_frozen BK125.out 0
            have hns26_0 := NB119_125.out
            have hms26_0 := NB125_119.out
            refine skip_ (w1 := ?_) (by rfl) rfl ?_ ?_
            rotate_left
            ·go_simp
             rfl
            refine hK.out _ _ ?_
            clear hK K
            refine done_ (done_of HT_.out (by kernel_rfl)) ?_
            try go_wp2
            go_roundg k2
            case measure => have := HJ1.out; have := HK2.out; omega
            case rel => exact ⟨(wrap64 (x5_2 + 1)), (y128), (.slice Ao25 y128.length co25), (by first | rfl | (simp; done) | (simp [*]; done)), H', ⟨by have := HJ1.out; have := HK2.out; omega⟩, ⟨by (with_reducible repeat (first | apply Kd.R_alloc | apply Kd.R_drewN | apply Kd.R_drew)); exact Kd.R_mono (Kd.R_far (p := ⟨gb125, 0, none⟩) (Kd.R_types HO130.out BK125.out (by decide)) (fun _ hk => hk.2) (.slice Ao25 y128.length co25)) (fun _ hk => trivial)⟩, ⟨by (with_reducible repeat (first | refine blk_drewN ?_ _ | refine blk_drew ?_ | refine blk_alloc ?_ _)); refine blk_far ?_ NB119_125.out _; (with_reducible repeat (first | refine blk_drewN ?_ _ | refine blk_drew ?_ | refine blk_alloc ?_ _)); exact BK119.out⟩, ⟨by (with_reducible repeat (first | refine blk_drewN ?_ _ | refine blk_drew ?_ | refine blk_alloc ?_ _)); refine blk_put (cs := #[u126000]) ?_ 0 _ rfl; (with_reducible repeat (first | refine blk_drewN ?_ _ | refine blk_drew ?_ | refine blk_alloc ?_ _)); exact BK125.out⟩, ⟨by repeat (first | (with_reducible first | exact HB.out | apply below_alloc | apply pw_below_drewN | apply below_drew1 | refine below_set ?_ GE119.out | refine below_set ?_ GE125.out) | exact HB.out)⟩⟩
           ·rw [if_neg c22] at H
            exact absurd H (by simp)
          ·rw [if_neg c21] at H
           exact absurd H (by simp)
         ·rw [if_neg c19] at H
          exact absurd H (by simp)
        ·rw [if_neg c17] at H
         have c17b0 : decide (x5_2 < a0) = false := decide_eq_false c17
         clear c17
         simp only [Option.some.injEq, Prod.mk.injEq] at H
         obtain ⟨rfl, rfl⟩ := H
         have hnb27 := NB125_119.out
         have hnc27 := NB119_125.out
         have hcz28_0 : wr.cell? ⟨gb125, 0, none⟩ = some (u126000) := (blk_cell BK125.out 0).trans rfl
         have hfz28_0 := blk_frozen BK125.out 0
         obtain ⟨Ao29, co29, eo29⟩ := Kd.R_slice HO_126000.out
         subst eo29
         have hcz30_0 : wr.cell? ⟨gb119, 0, none⟩ = some (.slice none 0 0) := (blk_cell BK119.out 0).trans rfl
         have hfz30_0 := blk_frozen BK119.out 0
         go_wp2
         refine bodyPost_ret (results_ct rfl _ _ gb119 47 #[.slice Ao29 x126000_2.length co29] (0, 0) _ rfl (by (with_reducible repeat (first | refine blk_drewN ?_ _ | refine blk_drew ?_ | refine blk_alloc ?_ _)); refine blk_put (cs := #[.slice none 0 0]) ?_ 0 _ rfl; (with_reducible repeat (first | refine blk_drewN ?_ _ | refine blk_drew ?_ | refine blk_alloc ?_ _)); exact BK119.out) Try.underlying47 rfl (by kernel_rfl)) rfl ?_
         exact ⟨_, by first | rfl | (simp [errW_none, errW_some] <;> rfl) | (simp [*, errW_none, errW_some] <;> rfl), by (with_reducible repeat (first | apply Kd.R_alloc | apply Kd.R_drewN | apply Kd.R_drew)); exact Kd.R_mono (Kd.R_far (p := ⟨gb119, 0, none⟩) (Kd.R_types HO_126000.out BK119.out (by decide)) (fun _ hk => hk.2) (.slice Ao29 x126000_2.length co29)) (fun _ hk => trivial), by repeat (first | (with_reducible first | exact HB.out | apply below_alloc | apply pw_below_drewN | apply below_drew1 | refine below_set ?_ GE119.out | refine below_set ?_ GE125.out) | exact HB.out)⟩
     ·rw [if_neg c10] at H
      exact absurd H (by simp)
    ·rw [if_neg c9] at H
     exact absurd H (by simp)

/-! ### impl_in: function 50 -/
def impl_in.f (a0 : Int) (a1 : Int) (a2 : Int) : Option (Bool) := if a0 ≥ a1 then (some (decide (a0 ≤ a2))) else (some false)
set_option maxHeartbeats 8000000 in
set_option maxRecDepth 100000 in
theorem impl_in.calls (a0 : Int) (a1 : Int) (a2 : Int) (r : Bool) (w : World) (h : impl_in.f a0 a1 a2 = some r) :
  Calls Try.prog 50 #[.int .i64 a0, .int .i64 a1, .int .i64 a2] w fun e w' => e = .returned (.bool r) ∧ Drawn0 w w' := by
 have H : (if a0 ≥ a1 then (some (decide (a0 ≤ a2))) else (some false)) = some r := h
 clear h
 by_cases c4 : a0 ≥ a1
 ·rw [if_pos c4] at H
  have c4b0 : decide (a1 ≤ a0) = true := decide_eq_true c4
  clear c4
  obtain rfl := Option.some.inj H
  go_enter Try.func50, Try.ntmps50
  go_wp2
  go_ret
  exact ⟨by first | rfl | (simp; done) | (simp [*]; done), by repeat (first | exact Drawn0.refl _ | apply Drawn0.step)⟩
 ·rw [if_neg c4] at H
  have c4b0 : decide (a1 ≤ a0) = false := decide_eq_false c4
  clear c4
  obtain rfl := Option.some.inj H
  go_enter Try.func50, Try.ntmps50
  go_wp2
  go_ret
  exact ⟨by first | rfl | (simp; done) | (simp [*]; done), by repeat (first | exact Drawn0.refl _ | apply Drawn0.step)⟩

/-! ### strings_Repeat: function 65 -/
-- by hand (wip/ext/Shelf.tpl)
def strings_Repeat.f (a0 : ByteArray) (a1 : Int) : Option ByteArray := if 0 ≤ a1 ∧ a0.size * a1.toNat ≤ 140737488355328 ∧ a1 ≤ 9223372036854775807 then some ⟨(Lib.repeatL a0.data.toList a1.toNat).toArray⟩ else none
theorem strings_Repeat.calls (a0 : ByteArray) (a1 : Int) (r : ByteArray) (w : World) (h : strings_Repeat.f a0 a1 = some r) :
    Calls Try.prog 65 #[.string a0, .int .i64 a1] w fun e w' => e = .returned (.string r) ∧ Below w.heap.size w w' := by
  unfold strings_Repeat.f at h
  split at h
  · rename_i hc
    obtain rfl := Option.some.inj h
    obtain ⟨c, rfl⟩ : ∃ c : Nat, a1 = c := ⟨a1.toNat, by omega⟩
    exact Try.strings_Repeat a0 c w (by omega) (by simpa using hc.2.1)
  · cases h

/-! ### impl_RunningLamps: function 32 -/
-- by hand (wip/ext/RunningLamps.tpl)
def runT (n k : Nat) : List UInt8 := if k = 0 then ((List.replicate n 63).set (n - 1) 48).set 0 49 else ((List.replicate n 63).set (k - 1) 49).set k 48
def runS (n k : Nat) : ByteArray := ⟨(runT n k).toArray⟩
def impl_RunningLamps.f (a0 : Int) : Option (List ByteArray × Bool) := if inB a0 2 10 = true then some ((List.range a0.toNat).map (runS a0.toNat), true) else some ([], false)
theorem runT_length (n k : Nat) : (runT n k).length = n := by unfold runT; split <;> simp
theorem rep63 (n : Nat) : (⟨(Lib.repeatL [63] n).toArray⟩ : ByteArray).size = n ∧ ∀ j, j < n → (⟨(Lib.repeatL [63] n).toArray⟩ : ByteArray).data.toList.getD j 0 = 63 := by
  have hl : (Lib.repeatL [63] n).length = n := by simp [Lib.repeatL_length]
  refine ⟨by show (Lib.repeatL [63] n).toArray.size = n; simpa using hl, fun j hj => ?_⟩
  show (Lib.repeatL [63] n).toArray.toList.getD j 0 = 63
  have : ∀ x ∈ Lib.repeatL [63] n, x = 63 := by
    intro x hx
    have h2 : ∀ (m : Nat), ∀ y ∈ Lib.repeatL [63] m, y = 63 := by
      intro m
      induction m with
      | zero => intro y hy; cases hy
      | succ m ih =>
        intro y hy
        have : Lib.repeatL [63] (m + 1) = [63] ++ Lib.repeatL [63] m := rfl
        rw [this, List.mem_append] at hy
        rcases hy with h | h
        · simpa using h
        · exact ih y h
    exact h2 n x hx
  have hj' : j < (Lib.repeatL [63] n).length := by omega
  simp only [List.getD, List.getElem?_eq_getElem (show j < (Lib.repeatL [63] n).toArray.toList.length by simpa using hj'), Option.getD_some]
  exact this _ (by simp)
theorem runT_0 (n q : Nat) (h : q < (runT (n + 1) 0).length) : (runT (n + 1) 0)[q] = if q = 0 then 49 else if q = n then 48 else 63 := by
  have e : runT (n + 1) 0 = ((List.replicate (n + 1) 63).set n 48).set 0 49 := rfl
  simp only [e, List.getElem_set, List.getElem_replicate]
  by_cases e1 : q = 0
  · subst e1; simp
  · rw [if_neg (Ne.symm e1), if_neg e1]
    by_cases e2 : q = n
    · subst e2; simp
    · rw [if_neg (Ne.symm e2), if_neg e2]
theorem runT_j (n j q : Nat) (h : q < (runT (n + 1) (j + 1)).length) : (runT (n + 1) (j + 1))[q] = if q = j + 1 then 48 else if q = j then 49 else 63 := by
  have e : runT (n + 1) (j + 1) = ((List.replicate (n + 1) 63).set j 49).set (j + 1) 48 := by unfold runT; rw [if_neg (by omega)]; rfl
  simp only [e, List.getElem_set, List.getElem_replicate]
  by_cases e1 : q = j + 1
  · subst e1; simp
  · rw [if_neg (Ne.symm e1), if_neg e1]
    by_cases e2 : q = j
    · subst e2; simp
    · rw [if_neg (Ne.symm e2), if_neg e2]
theorem impl_RunningLamps.info : (Try.prog.info? 9).map (fun i => (i.zero, i.size, i.bytes)) = some (some (.string ⟨#[]⟩), 1, 16) := by kernel_rfl
set_option maxHeartbeats 2000000 in
set_option maxRecDepth 100000 in
theorem impl_RunningLamps.calls (a0 : Int) (r1 : List ByteArray) (r2 : Bool) (w : World) (h : impl_RunningLamps.f a0 = some (r1, r2)) :
    Calls Try.prog 32 #[.int .i64 a0] w fun e w' => ∃ v0_ : Value, e = .returned (.tuple #[.agg #[v0_], .bool r2]) ∧ Kd.R Kd.string 9 w' w.heap.size (fun _ => True) v0_ r1 ∧ Below w.heap.size w w' := by
  unfold impl_RunningLamps.f at h
  have hu := Try.underlying47
  have hus := Try.underlying9
  have HI := Aside0.mk (fun w1 => impl_in.calls a0 2 10 _ w1 (inB_ite a0 2 10))
  obtain ⟨B, hB⟩ : ∃ B, B = inB a0 2 10 := ⟨_, rfl⟩
  rw [← hB] at h HI
  cases B with
  | false =>
    simp only [Bool.false_eq_true, if_false, Option.some.injEq, Prod.mk.injEq] at h
    obtain ⟨rfl, rfl⟩ := h
    clear hB
    go_enter Try.func32, Try.ntmps32
    go_wp2_with (go_at_call 50; refine (HI.out _).mono ?_; rintro e w' ⟨rfl, ⟨n, rfl⟩⟩)
    refine bodyPost_ret (results_ct rfl _ _ w.heap.size 47 #[.slice none 0 0] (0, 0) _ rfl (blk_put (cs := #[.slice none 0 0]) (show ((w.alloc (.cells #[.slice none 0 0] 47)).drewN n).heap[w.heap.size]? = some (.cells #[.slice none 0 0] 47 (0, 0)) from (MapKept.heap_alloc w _).1) 0 _ rfl) Try.underlying47 rfl (by kernel_rfl)) rfl ?_
    exact ⟨_, rfl, Kd.R_nil _ _ _ _ _, below_setCell (pw_below_drewN (below_alloc (Below.refl _ _) _) _) w.heap.size 0 _ (Nat.le_refl _)⟩
  | true =>
    have hlo := inB_lo hB.symm
    have hhi := inB_hi hB.symm
    clear hB
    obtain ⟨n, rfl⟩ : ∃ n : Nat, a0 = ((n + 1 : Nat) : Int) := ⟨a0.toNat - 1, by omega⟩
    simp only [if_true, Option.some.injEq, Prod.mk.injEq, Int.toNat_natCast] at h
    obtain ⟨rfl, rfl⟩ := h
    have hn9 : n ≤ 9 := by omega
    have hn1 : 1 ≤ n := by omega
    obtain ⟨S, hS⟩ : ∃ S : ByteArray, S = ⟨(Lib.repeatL [63] (n + 1)).toArray⟩ := ⟨_, rfl⟩
    have hR63 := rep63 (n + 1)
    rw [← hS] at hR63
    have hSz := Aside0.mk hR63.1
    have hS63 := Aside0.mk hR63.2
    have HRP := Aside0.mk (fun W => strings_Repeat.calls (⟨#[63]⟩ : ByteArray) ((n : Int) + 1) S W (by
      have e : ((n : Int) + 1).toNat = n + 1 := by omega
      unfold strings_Repeat.f
      rw [if_pos ⟨by omega, by rw [e]; show 1 * (n + 1) ≤ _; omega, by omega⟩, e, hS]))
    have hcv : ∀ (wx : World) (s : ByteArray), (convert 9 93 (.string s)).run Try.prog wx = .ok (.slice (some ⟨wx.heap.size, 0, none⟩) s.size (grownCap wx s.size 0 5)) (Lib.bytesWorld wx 5 s) := fun wx s => Lib.run_convert_string_bytes wx 9 93 5 s Try.underlying9 Try.underlying93 Try.underlying5
    clear hS hR63 hlo hhi
    have HN9 := Aside0.mk hn9
    have HN1 := Aside0.mk hn1
    clear hn9 hn1
    go_enter Try.func32, Try.ntmps32
    go_wp2_with (go_at_call 50; refine (HI.out _).mono ?_; rintro e w' ⟨rfl, ⟨nd, rfl⟩⟩)
    have BKR0 := Aside0.mk (show (((w.alloc (.cells #[.slice none 0 0] 47)).drewN nd).alloc (.cells #[.slice none 0 0] 47)).heap[w.heap.size]? = some (.cells #[.slice none 0 0] 47 (0, 0)) from blk_alloc (blk_drewN (MapKept.heap_alloc w _).1 nd) _)
    have BKL0 := Aside0.mk (show (((w.alloc (.cells #[.slice none 0 0] 47)).drewN nd).alloc (.cells #[.slice none 0 0] 47)).heap[w.heap.size + 1]? = some (.cells #[.slice none 0 0] 47 (0, 0)) from by
      have h5 := (MapKept.heap_alloc ((w.alloc (.cells #[.slice none 0 0] 47)).drewN nd) (.cells #[.slice none 0 0] 47)).1
      have h6 : ((w.alloc (.cells #[.slice none 0 0] 47)).drewN nd).heap.size = w.heap.size + 1 := by simp
      rw [h6] at h5
      exact h5)
    have HB0 := Aside0.mk (show Below w.heap.size w (((w.alloc (.cells #[.slice none 0 0] 47)).drewN nd).alloc (.cells #[.slice none 0 0] 47)) from (pw_below_drewN (below_alloc (Below.refl _ _) _) nd).alloc (by simp) _)
    obtain ⟨LB, hLB⟩ : ∃ LB, LB = w.heap.size + 1 := ⟨_, rfl⟩
    rw [← hLB] at BKL0 ⊢
    have HLB := Aside0.mk (show w.heap.size < LB by omega)
    clear hLB
    generalize (((w.alloc (.cells #[.slice none 0 0] 47)).drewN nd).alloc (.cells #[.slice none 0 0] 47)) = W0 at BKR0 BKL0 HB0 ⊢
    go_loopg [12] (n + 1) (fun gg v12 w' => ∃ k : Nat, k + gg = n + 1 ∧ v12 = .int .i64 k ∧ (∃ v, Aside0 (w'.heap[LB]? = some (.cells #[v] 47 (0, 0))) ∧ Aside0 (Kd.R Kd.string 9 w' w.heap.size (fun _ => True) v ((List.range k).map (runS (n + 1))))) ∧ Aside0 (w'.heap[w.heap.size]? = some (.cells #[.slice none 0 0] 47 (0, 0))) ∧ Aside0 (Below w.heap.size w w'))
    case atStart => exact ⟨0, by omega, rfl, ⟨.slice none 0 0, BKL0, ⟨Kd.R_nil _ _ _ _ _⟩⟩, BKR0, HB0⟩
    case round =>
      clear BKR0 BKL0 HB0
      obtain ⟨k, hks, rfl, ⟨v, BKL, HO⟩, BKR, HB⟩ := hrel
      obtain ⟨A, c, rfl⟩ := Kd.R_slice HO.out
      have hT : ∀ m, (List.range (m + 1)).map (runS (n + 1)) = (List.range m).map (runS (n + 1)) ++ [runS (n + 1) m] := fun m => by rw [List.range_succ, List.map_append]; rfl
      have HT := Aside0.mk (hT k)
      have HLE := Aside0.mk (show ((List.range k).map (runS (n + 1))).length = k by simp)
      clear hT
      obtain ⟨T, hTT⟩ : ∃ T, T = (List.range k).map (runS (n + 1)) := ⟨_, rfl⟩
      rw [← hTT] at HO HT HLE BKL
      by_cases hp : k < n + 1
      · clear hTT
        have hk10 : k ≤ 9 := by have := HN9.out; omega
        have hpk : (k : Int) < (n : Int) + 1 := by omega
        cases k with
        | zero =>
          have hk0 : (((0 : Nat) : Int) == 0) = true := rfl
          have hwn : wrap64 (n : Int) = (n : Int) := w64 (by have := HN9.out; omega) (by have := HN9.out; omega)
          go_upto_region 8 with (go_at_call 65; refine (HRP.out _).mono ?_; rintro e w1 ⟨rfl, hb⟩; have HB1 := Aside0.mk (below_step HB.out hb); have HO1 := Aside0.mk (Kd.R_below HO.out hb); have BKL1 := Aside0.mk (blk_below BKL.out hb); have BKR1 := Aside0.mk (blk_below BKR.out hb); clear hb)
          have hbb := below_bytes (Below.refl w1.heap.size w1) (Nat.le_refl _) 5 S
          have HBY2 := Aside0.mk (bytesAt_made w1 5 S)
          have HB2 := Aside0.mk (below_step HB1.out hbb)
          have HO2 := Aside0.mk (Kd.R_below HO1.out hbb)
          have BKL2 := Aside0.mk (blk_below BKL1.out hbb)
          have BKR2 := Aside0.mk (blk_below BKR1.out hbb)
          have HLT := Aside0.mk (blk_lt BKL1.out)
          clear hbb HB1 HO1 BKL1 BKR1
          obtain ⟨m, hm⟩ : ∃ m, m = (Lib.bytesCells w1 5 S).size := ⟨_, rfl⟩
          rw [← hm] at HBY2
          clear hm
          obtain ⟨K, hK⟩ : ∃ K, K = w1.heap.size := ⟨_, rfl⟩
          rw [← hK] at HBY2 HLT ⊢
          generalize grownCap w1 S.size 0 5 = cp
          generalize Lib.bytesWorld w1 5 S = W2 at HBY2 HB2 HO2 BKL2 BKR2 ⊢
          clear hK
          have hc1 := bytesAt_cell HBY2.out (n) (by have := hSz.out; have := HN9.out; have := HN1.out; omega)
          have hf1 := bytesAt_frozen HBY2.out (n) (by have := hSz.out; have := HN9.out; have := HN1.out; omega)
          have HBY3 := Aside0.mk (bytesAt_set HBY2.out (n) 48)
          have HO3 := Aside0.mk (R_bytes (j := n) (u := .int .u8 48) HO2.out HBY2.out)
          have BKL3 := Aside0.mk (blk_far (p := ⟨K, n, none⟩) BKL2.out (by have := HLT.out; simp; omega) (.int .u8 48))
          have BKR3 := Aside0.mk (blk_far (p := ⟨K, n, none⟩) BKR2.out (by have := HLT.out; have := HLB.out; simp; omega) (.int .u8 48))
          have HB3 := Aside0.mk (below_setCell HB2.out K (n) (.int .u8 48) (by have := HLT.out; have := HLB.out; omega))
          have hc2 := bytesAt_cell HBY3.out (0) (by have := hSz.out; have := HN9.out; have := HN1.out; omega)
          have hf2 := bytesAt_frozen HBY3.out (0) (by have := hSz.out; have := HN9.out; have := HN1.out; omega)
          have HBY4 := Aside0.mk (bytesAt_set HBY3.out (0) 49)
          have HO4 := Aside0.mk (R_bytes (j := 0) (u := .int .u8 49) HO3.out HBY3.out)
          have BKL4 := Aside0.mk (blk_far (p := ⟨K, 0, none⟩) BKL3.out (by have := HLT.out; simp; omega) (.int .u8 49))
          have BKR4 := Aside0.mk (blk_far (p := ⟨K, 0, none⟩) BKR3.out (by have := HLT.out; have := HLB.out; simp; omega) (.int .u8 49))
          have HB4 := Aside0.mk (below_setCell HB3.out K (0) (.int .u8 49) (by have := HLT.out; have := HLB.out; omega))
          have hcl4 := (blk_cell BKL4.out 0).trans rfl
          have hcs := bytesAt_string (P := Try.prog) (src := 93) (dst := 9) HBY4.out Try.underlying93 Try.underlying5 Try.underlying9 cp (runT (n + 1) 0) (by rw [runT_length]; exact hSz.out.symm) (fun q hq => by
            have := hS63.out q (by rw [runT_length] at hq; exact hq)
            rw [runT_0, this])
          have hcs' : (convert 93 9 (.slice (some ⟨K, 0, none⟩) S.size cp)).run Try.prog ((W2.setCell ⟨K, n, none⟩ (.int .u8 48)).setCell ⟨K, 0, none⟩ (.int .u8 49)) = .ok (.string (runS (n + 1) 0)) ((W2.setCell ⟨K, n, none⟩ (.int .u8 48)).setCell ⟨K, 0, none⟩ (.int .u8 49)) := hcs
          have hc2' : (W2.setCell ⟨K, n, none⟩ (.int .u8 48)).cell? ⟨K, 0, none⟩ = _ := hc2
          have hf2' : (W2.setCell ⟨K, n, none⟩ (.int .u8 48)).frozen? ⟨K, 0, none⟩ = _ := hf2
          have p6 : (0 : Int) < (S.size : Int) := by have := hSz.out; omega
          have q6 : (n : Int) < (S.size : Int) := by have := hSz.out; omega
          have q7 : (0 : Int) < (S.size : Int) := by have := hSz.out; omega
          clear hcs hc2 hf2 hcv
          go_upto_region 11 with fail
          replace HO4 := Aside0.mk (show Kd.R Kd.string 9 ((W2.setCell ⟨K, n, none⟩ (.int .u8 48)).setCell ⟨K, 0, none⟩ (.int .u8 49)) w.heap.size (fun _ => True) (.slice A T.length c) T from HO4.out)
          replace BKL4 := Aside0.mk (show ((W2.setCell ⟨K, n, none⟩ (.int .u8 48)).setCell ⟨K, 0, none⟩ (.int .u8 49)).heap[LB]? = some (.cells #[.slice A T.length c] 47 (0, 0)) from BKL4.out)
          replace BKR4 := Aside0.mk (show ((W2.setCell ⟨K, n, none⟩ (.int .u8 48)).setCell ⟨K, 0, none⟩ (.int .u8 49)).heap[w.heap.size]? = some (.cells #[.slice none 0 0] 47 (0, 0)) from BKR4.out)
          replace HB4 := Aside0.mk (show Below w.heap.size w ((W2.setCell ⟨K, n, none⟩ (.int .u8 48)).setCell ⟨K, 0, none⟩ (.int .u8 49)) from HB4.out)
          replace hcl4 : ((W2.setCell ⟨K, n, none⟩ (.int .u8 48)).setCell ⟨K, 0, none⟩ (.int .u8 49)).cell? ⟨LB, 0, none⟩ = some (.slice A T.length c) := hcl4
          clear HBY4 HBY3 HBY2 HO2 HO3 HB2 HB3 BKL2 BKL3 BKR2 BKR3 hc1 hf1 hc2' hf2'
          generalize ((W2.setCell ⟨K, n, none⟩ (.int .u8 48)).setCell ⟨K, 0, none⟩ (.int .u8 49)) = W4 at HO4 BKL4 BKR4 HB4 hcl4 hcs' ⊢
          go_wp2_with ((with_reducible refine gate_builtin (b := .append) (xs := #[.tmp 34, .tmp 37]) rfl ?_); at_builtin; refine Kd.R_append Kd.string (w0 := w) w.heap.size rfl (.tmp 34) (.tmp 37) 45 9 (.string ⟨#[]⟩) 16 rfl Try.underlying45 impl_RunningLamps.info rfl (by decide) (by omega) (.slice A T.length c) T (runS (n + 1) 0) [.string (runS (n + 1) 0)] (fun _ => True) (fun _ => False) rfl rfl rfl (fun _ hk => hk.elim) (fun _ _ => trivial) HO4.out HB4.out (below_size HB4.out) (by have := HLE.out; omega) ?_; intro v2 w5 ho hb hg hat; obtain ⟨A2, c2, rfl⟩ := Kd.R_slice ho; have HO5 := Aside0.mk ho; have HB5 := Aside0.mk hb; have BKL5 := Aside0.mk (blk_grown BKL4.out hg (Kd.R_ne HO4.out BKL4.out (by decide))); have BKR5 := Aside0.mk (blk_grown BKR4.out hg (Kd.R_ne HO4.out BKR4.out (by decide))); have hcl5 := (blk_cell BKL5.out 0).trans rfl; have hfl5 := blk_frozen BKL5.out 0; clear ho hb hg hat)
          go_roundg (n + 1 - (0 + 1))
          case measure => omega
          case rel => exact ⟨0 + 1, by omega, by go_num, ⟨_, ⟨blk_put (cs := #[.slice A T.length c]) BKL5.out 0 _ rfl⟩, ⟨by rw [HT.out]; have h9 := HO5.out; rw [List.length_append, List.length_singleton] at h9; exact Kd.R_set h9 BKL5.out (by decide) 0 _⟩⟩, ⟨blk_far (p := ⟨LB, 0, none⟩) BKR5.out (by have := HLB.out; simp; omega) _⟩, ⟨below_setCell HB5.out LB 0 _ (Nat.le_of_lt HLB.out)⟩⟩
        | succ j =>
          have hk0 : ((j : Int) + 1 == 0) = false := beq_eq_false_iff_ne.mpr (by omega)
          have hjn : j < n := by omega
          have hwj : wrap64 (j : Int) = (j : Int) := w64 (by omega) (by omega)
          go_upto_region 8 with (go_at_call 65; refine (HRP.out _).mono ?_; rintro e w1 ⟨rfl, hb⟩; have HB1 := Aside0.mk (below_step HB.out hb); have HO1 := Aside0.mk (Kd.R_below HO.out hb); have BKL1 := Aside0.mk (blk_below BKL.out hb); have BKR1 := Aside0.mk (blk_below BKR.out hb); clear hb)
          have hbb := below_bytes (Below.refl w1.heap.size w1) (Nat.le_refl _) 5 S
          have HBY2 := Aside0.mk (bytesAt_made w1 5 S)
          have HB2 := Aside0.mk (below_step HB1.out hbb)
          have HO2 := Aside0.mk (Kd.R_below HO1.out hbb)
          have BKL2 := Aside0.mk (blk_below BKL1.out hbb)
          have BKR2 := Aside0.mk (blk_below BKR1.out hbb)
          have HLT := Aside0.mk (blk_lt BKL1.out)
          clear hbb HB1 HO1 BKL1 BKR1
          obtain ⟨m, hm⟩ : ∃ m, m = (Lib.bytesCells w1 5 S).size := ⟨_, rfl⟩
          rw [← hm] at HBY2
          clear hm
          obtain ⟨K, hK⟩ : ∃ K, K = w1.heap.size := ⟨_, rfl⟩
          rw [← hK] at HBY2 HLT ⊢
          generalize grownCap w1 S.size 0 5 = cp
          generalize Lib.bytesWorld w1 5 S = W2 at HBY2 HB2 HO2 BKL2 BKR2 ⊢
          clear hK
          have hc1 := bytesAt_cell HBY2.out (j) (by have := hSz.out; have := HN9.out; have := HN1.out; omega)
          have hf1 := bytesAt_frozen HBY2.out (j) (by have := hSz.out; have := HN9.out; have := HN1.out; omega)
          have HBY3 := Aside0.mk (bytesAt_set HBY2.out (j) 49)
          have HO3 := Aside0.mk (R_bytes (j := j) (u := .int .u8 49) HO2.out HBY2.out)
          have BKL3 := Aside0.mk (blk_far (p := ⟨K, j, none⟩) BKL2.out (by have := HLT.out; simp; omega) (.int .u8 49))
          have BKR3 := Aside0.mk (blk_far (p := ⟨K, j, none⟩) BKR2.out (by have := HLT.out; have := HLB.out; simp; omega) (.int .u8 49))
          have HB3 := Aside0.mk (below_setCell HB2.out K (j) (.int .u8 49) (by have := HLT.out; have := HLB.out; omega))
          have hc2 := bytesAt_cell HBY3.out (j + 1) (by have := hSz.out; have := HN9.out; have := HN1.out; omega)
          have hf2 := bytesAt_frozen HBY3.out (j + 1) (by have := hSz.out; have := HN9.out; have := HN1.out; omega)
          have HBY4 := Aside0.mk (bytesAt_set HBY3.out (j + 1) 48)
          have HO4 := Aside0.mk (R_bytes (j := j + 1) (u := .int .u8 48) HO3.out HBY3.out)
          have BKL4 := Aside0.mk (blk_far (p := ⟨K, j + 1, none⟩) BKL3.out (by have := HLT.out; simp; omega) (.int .u8 48))
          have BKR4 := Aside0.mk (blk_far (p := ⟨K, j + 1, none⟩) BKR3.out (by have := HLT.out; have := HLB.out; simp; omega) (.int .u8 48))
          have HB4 := Aside0.mk (below_setCell HB3.out K (j + 1) (.int .u8 48) (by have := HLT.out; have := HLB.out; omega))
          have hcl4 := (blk_cell BKL4.out 0).trans rfl
          have hcs := bytesAt_string (P := Try.prog) (src := 93) (dst := 9) HBY4.out Try.underlying93 Try.underlying5 Try.underlying9 cp (runT (n + 1) (j + 1)) (by rw [runT_length]; exact hSz.out.symm) (fun q hq => by
            have := hS63.out q (by rw [runT_length] at hq; exact hq)
            rw [runT_j, this])
          have hcs' : (convert 93 9 (.slice (some ⟨K, 0, none⟩) S.size cp)).run Try.prog ((W2.setCell ⟨K, j, none⟩ (.int .u8 49)).setCell ⟨K, j + 1, none⟩ (.int .u8 48)) = .ok (.string (runS (n + 1) (j + 1))) ((W2.setCell ⟨K, j, none⟩ (.int .u8 49)).setCell ⟨K, j + 1, none⟩ (.int .u8 48)) := hcs
          have hc2' : (W2.setCell ⟨K, j, none⟩ (.int .u8 49)).cell? ⟨K, j + 1, none⟩ = _ := hc2
          have hf2' : (W2.setCell ⟨K, j, none⟩ (.int .u8 49)).frozen? ⟨K, j + 1, none⟩ = _ := hf2
          have p6 : (0 : Int) < (S.size : Int) := by have := hSz.out; omega
          have q6 : (j : Int) < (S.size : Int) := by have := hSz.out; omega
          have q7 : ((j + 1) : Int) < (S.size : Int) := by have := hSz.out; omega
          clear hcs hc2 hf2 hcv
          go_upto_region 11 with fail
          replace HO4 := Aside0.mk (show Kd.R Kd.string 9 ((W2.setCell ⟨K, j, none⟩ (.int .u8 49)).setCell ⟨K, j + 1, none⟩ (.int .u8 48)) w.heap.size (fun _ => True) (.slice A T.length c) T from HO4.out)
          replace BKL4 := Aside0.mk (show ((W2.setCell ⟨K, j, none⟩ (.int .u8 49)).setCell ⟨K, j + 1, none⟩ (.int .u8 48)).heap[LB]? = some (.cells #[.slice A T.length c] 47 (0, 0)) from BKL4.out)
          replace BKR4 := Aside0.mk (show ((W2.setCell ⟨K, j, none⟩ (.int .u8 49)).setCell ⟨K, j + 1, none⟩ (.int .u8 48)).heap[w.heap.size]? = some (.cells #[.slice none 0 0] 47 (0, 0)) from BKR4.out)
          replace HB4 := Aside0.mk (show Below w.heap.size w ((W2.setCell ⟨K, j, none⟩ (.int .u8 49)).setCell ⟨K, j + 1, none⟩ (.int .u8 48)) from HB4.out)
          replace hcl4 : ((W2.setCell ⟨K, j, none⟩ (.int .u8 49)).setCell ⟨K, j + 1, none⟩ (.int .u8 48)).cell? ⟨LB, 0, none⟩ = some (.slice A T.length c) := hcl4
          clear HBY4 HBY3 HBY2 HO2 HO3 HB2 HB3 BKL2 BKL3 BKR2 BKR3 hc1 hf1 hc2' hf2'
          generalize ((W2.setCell ⟨K, j, none⟩ (.int .u8 49)).setCell ⟨K, j + 1, none⟩ (.int .u8 48)) = W4 at HO4 BKL4 BKR4 HB4 hcl4 hcs' ⊢
          go_wp2_with ((with_reducible refine gate_builtin (b := .append) (xs := #[.tmp 34, .tmp 37]) rfl ?_); at_builtin; refine Kd.R_append Kd.string (w0 := w) w.heap.size rfl (.tmp 34) (.tmp 37) 45 9 (.string ⟨#[]⟩) 16 rfl Try.underlying45 impl_RunningLamps.info rfl (by decide) (by omega) (.slice A T.length c) T (runS (n + 1) (j + 1)) [.string (runS (n + 1) (j + 1))] (fun _ => True) (fun _ => False) rfl rfl rfl (fun _ hk => hk.elim) (fun _ _ => trivial) HO4.out HB4.out (below_size HB4.out) (by have := HLE.out; omega) ?_; intro v2 w5 ho hb hg hat; obtain ⟨A2, c2, rfl⟩ := Kd.R_slice ho; have HO5 := Aside0.mk ho; have HB5 := Aside0.mk hb; have BKL5 := Aside0.mk (blk_grown BKL4.out hg (Kd.R_ne HO4.out BKL4.out (by decide))); have BKR5 := Aside0.mk (blk_grown BKR4.out hg (Kd.R_ne HO4.out BKR4.out (by decide))); have hcl5 := (blk_cell BKL5.out 0).trans rfl; have hfl5 := blk_frozen BKL5.out 0; clear ho hb hg hat)
          go_roundg (n + 1 - ((j + 1) + 1))
          case measure => omega
          case rel => exact ⟨(j + 1) + 1, by omega, by go_num, ⟨_, ⟨blk_put (cs := #[.slice A T.length c]) BKL5.out 0 _ rfl⟩, ⟨by rw [HT.out]; have h9 := HO5.out; rw [List.length_append, List.length_singleton] at h9; exact Kd.R_set h9 BKL5.out (by decide) 0 _⟩⟩, ⟨blk_far (p := ⟨LB, 0, none⟩) BKR5.out (by have := HLB.out; simp; omega) _⟩, ⟨below_setCell HB5.out LB 0 _ (Nat.le_of_lt HLB.out)⟩⟩
      · have hkn : k = n + 1 := by omega
        subst hkn
        have hcL := (blk_cell BKL.out 0).trans rfl
        have hcR := (blk_cell BKR.out 0).trans rfl
        have hfR := blk_frozen BKR.out 0
        have HTT := Aside0.mk hTT
        clear hTT
        go_wp2
        refine bodyPost_ret (results_ct rfl _ _ w.heap.size 47 #[.slice A T.length c] (0, 0) _ rfl (blk_put (cs := #[.slice none 0 0]) BKR.out 0 _ rfl) Try.underlying47 rfl (by kernel_rfl)) rfl ?_
        exact ⟨_, rfl, by rw [← HTT.out]; exact Kd.R_set HO.out BKR.out (by decide) 0 _, below_setCell HB.out w.heap.size 0 _ (Nat.le_refl _)⟩

end Go.Proofs.Ytdkcppnfjmcloaa.PRunningLamps
