-- PRINTED by drive.py (a program of this session's, over the kit's print.py; wip/tools/drive.py). Lean checks it.
import Derived.Test.YtifdgebdkhdmhaaDoorZSq
import Derived.Test.YtifdgebdkhdmhaaDoorZPLTickx0
import Derived.Test.YtifdgebdkhdmhaaDoorZPLTickx2
namespace Go.Proofs.YtifdgebdkhdmhaaDoor.PLTick
open Go.RowKit Go.Proofs.YtifdgebdkhdmhaaDoorW.PrintWords Go.Proofs.YtifdgebdkhdmhaaDoorW.PrintLast Go.Proofs.YtifdgebdkhdmhaaDoorW.PrintMore
attribute [local go_sem] max2_int min2_int max_two min_two max_three min_three max_four min_four   -- for this text's walks alone
set_option linter.unusedVariables false
set_option linter.unusedSimpArgs false

/-! ### spec_laPath: function 114 -/
def spec_laPath.l0 : Nat → ByteArray → List Int → List ByteArray → List ByteArray → Option (List ByteArray × Int)
 | 0, _, _, _, _ => none
 | k + 1, x1, x6, x7, x126000 => (spec_laNumber.f x1).bind fun t129 => (if 0 ≤ t129 then (if t129 < (x6.length : Int) then (if (rd x6 t129) > 0 then (some (x7, wrap64 ((rd x6 t129) - 1))) else (if x7.length < 8796093022208 then ((some (x7 ++ [x1] : List ByteArray)).bind fun y132 => ((spec_laTick.f x126000 x1).bind fun t136 => (spec_laPath.l0 k t136 (x6.set (t129 : Int).toNat (y132.length : Int)) y132 x126000))) else (none))) else (none)) else (none))
def spec_laPath.f (k : Nat) (l0_0 : List ByteArray) (a1 : ByteArray) : Option (List ByteArray × Int) := if 0 ≤ (shl .i64 1 (a1.size : Int)) then (if (shl .i64 1 (a1.size : Int) : Int).toNat ≤ 35184372088832 then (spec_laPath.l0 k a1 (List.replicate (shl .i64 1 (a1.size : Int) : Int).toNat 0) ([] : List ByteArray) l0_0) else (none)) else (none)
theorem spec_laPath.mono_l : ∀ k, (∀ y0 y1 y2 y3, LeO (spec_laPath.l0 k y0 y1 y2 y3) (spec_laPath.l0 (k + 1) y0 y1 y2 y3))
 | 0 => fun _ _ _ _ r h => by simp [spec_laPath.l0] at h
 | k + 1 => by
  have ih0 := spec_laPath.mono_l k
  ·intro y0 y1 y2 y3
   unfold spec_laPath.l0
   repeat' first
   | wE ih0 _ _ _ _
   | wE LeO.refl _
   | wE LeO.none _
   | wR LeO.ite ?_ ?_
   | wR LeO.bind ?_ (fun _ => ?_)
   | exact ih0 _ _ _ _
   | exact LeO.none _
   | refine LeO.ite ?_ ?_
   | refine LeO.bind ?_ (fun _ => ?_)
theorem spec_laPath.mono : ∀ a0 a1 k, LeO (spec_laPath.f k a0 a1) (spec_laPath.f (k + 1) a0 a1) := by
 intro a0 a1 k
 have ih0 := spec_laPath.mono_l k
 unfold spec_laPath.f
 repeat' first
   | wE ih0 _ _ _ _
   | wE LeO.refl _
   | wE LeO.none _
   | wR LeO.ite ?_ ?_
   | wR LeO.bind ?_ (fun _ => ?_)
   | exact ih0 _ _ _ _
   | exact LeO.none _
   | refine LeO.ite ?_ ?_
   | refine LeO.bind ?_ (fun _ => ?_)
set_option maxHeartbeats 8000000 in
set_option maxRecDepth 100000 in
theorem spec_laPath.calls (k : Nat) (A0_0 : Option Addr) (c0_0 : Nat) (l0_0 : List ByteArray) (a1 : ByteArray) (r1 : List ByteArray) (r2 : Int) (w : World) (hr0_0 : Kd.C Kd.string w A0_0 l0_0.length l0_0) (hc0_0 : l0_0.length ≤ c0_0) (h : spec_laPath.f k l0_0 a1 = some (r1, r2)) :
  Calls Tryd.prog 114 #[.agg #[.slice A0_0 l0_0.length c0_0], .string a1] w fun e w' => ∃ v0_ : Value, e = .returned (.tuple #[v0_, .int .i64 r2]) ∧ Kd.R Kd.string 9 w' w.heap.size (fun _ => True) v0_ r1 ∧ Below w.heap.size w w' := by
 have hu29 := Tryd.underlying29
 have HR0_0 := aM hr0_0
 have HC0_0 := aM hc0_0
 clear hr0_0 hc0_0
 have HB := aM (Below.refl w.heap.size w)
 have H : (if 0 ≤ (shl .i64 1 (a1.size : Int)) then (if (shl .i64 1 (a1.size : Int) : Int).toNat ≤ 35184372088832 then (spec_laPath.l0 k a1 (List.replicate (shl .i64 1 (a1.size : Int) : Int).toNat 0) ([] : List ByteArray) l0_0) else (none)) else (none)) = some (r1, r2) := h
 clear h
 obtain ⟨ji3, hji3⟩ : ∃ j_ : Int, (shl .i64 1 (a1.size : Int)) = j_ := ⟨_, rfl⟩
 replace H : (if 0 ≤ (ji3) then (if (ji3 : Int).toNat ≤ 35184372088832 then (spec_laPath.l0 k a1 (List.replicate (ji3 : Int).toNat 0) ([] : List ByteArray) l0_0) else (none)) else (none)) = some (r1, r2) := by first | (rw [hji3] at H; exact H) | (simp only [hji3] at H ⊢; exact H)
 have hji3_ : (IntKind.i64.wrap (1 * 2 ^ min (a1.size : Int).toNat 64)) = ji3 := hji3
 have hji3z : (a1.size : Int) ≤ 64 → (IntKind.i64.wrap (1 * 2 ^ (a1.size : Int).toNat)) = ji3 := shl_small hji3
 have hji3u : (IntKind.i64.wrap (2 ^ min (a1.size : Int).toNat 64)) = ji3 := by have h_ := hji3_; rw [Int.one_mul] at h_; exact h_
 have hji3v : (a1.size : Int) ≤ 64 → (IntKind.i64.wrap (2 ^ (a1.size : Int).toNat)) = ji3 := fun hle_ => by have h_ := hji3z hle_; rw [Int.one_mul] at h_; exact h_
 have hji3y : (wrap64 (1 * 2 ^ min (a1.size : Int).toNat 64)) = ji3 := (i64_w _).symm.trans hji3_
 have hji3q : wrap64 (2 ^ min a1.size 64) = ji3 := by have h_ := hji3y; rw [Int.one_mul, Int.toNat_natCast] at h_; exact h_
 have hji3p : IntKind.i64.wrap (2 ^ min a1.size 64) = ji3 := by have h_ := hji3u; rw [Int.toNat_natCast] at h_; exact h_
 have hji3x : (a1.size : Int) ≤ 64 → (wrap64 (1 * 2 ^ (a1.size : Int).toNat)) = ji3 := fun h_ => (i64_w _).symm.trans (hji3z h_)
 by_cases c4 : 0 ≤ (ji3)
 ·rw [if_pos c4] at H
  have c4b0 := eq_true c4
  have c4b1 : decide (0 ≤ (ji3)) = true := decide_eq_true c4
  clear c4
  by_cases c5 : (ji3 : Int).toNat ≤ 35184372088832
  ·rw [if_pos c5] at H
   have c5b0 := eq_true c5
   have c5b1 : decide ((ji3 : Int).toNat ≤ 35184372088832) = true := decide_eq_true c5
   clear c5
   obtain ⟨y126, hy126⟩ : ∃ y_ : List Int, y_ = (List.replicate (ji3 : Int).toNat 0) := ⟨_, rfl⟩
   replace H : (spec_laPath.l0 k a1 y126 ([] : List ByteArray) l0_0) = some (r1, r2) := by fH hy126
   have Ny126 := aM hy126
   clear hy126
   have H' := aM H
   clear H
   go_enter Tryd.func114, Tryd.ntmps114
   go_wp2_with (first | ((with_reducible refine gate_dst (N := 2) rfl ?_); refine box_event ?hg (N := 2) ?hd (cs := #[.slice A0_0 l0_0.length c0_0]) (t := 29) ?hr ?_; (case hd => rfl); (case hg => rfl); (case hr => first | (go_simp; done) | (go_simp; rfl)); intro gb125 hg w6 hbox hb; have n0_ := aM (below_step (by bB) hb); have n1_ := aM (hbox); have n2_ := aM ((by rw [hg]; exact (below_size (by bB)) : w.heap.size ≤ gb125)); have n3_ := aM ((by rw [hg]; exact (below_size (by bB)) : w.heap.size ≤ gb125)); clear HB; have HB := n0_; have BK125 := n1_; have GW125 := n2_; have GE125 := n3_; clear n0_ n1_ n2_ n3_; clear hb hbox hg) | ((with_reducible refine gate_dst (N := 12) rfl ?_); refine Kd.R_make (Kd.int .i64) _ 3 rfl (N := 12) rfl 46 _ _ rfl ji3 rfl rfl Tryd.underlying46 (.int .i64 0) 8 info3 rfl (by decide) (by omega) 0 (ok := fun _ => True) (okp := fun _ => True) rfl (fun _ hk => hk) trivial (of_decide_eq_true (by first | (with_reducible assumption) | assumption)) (Nat.le_trans (Nat.mul_le_mul_right _ (of_decide_eq_true (by first | (with_reducible assumption) | assumption) : ji3.toNat ≤ 35184372088832)) (by omega)) (Below.refl _ _) (Nat.le_refl _) ?_; intro v127 w7 ho8 hb hg_ hnew_; clear hg_ hnew_; (first | rw [← Ny126.out] at ho8 | (simp only [Int.reduceToNat] at ho8; rw [← Ny126.out] at ho8)); have n0_ := aM (Kd.R_lower ho8 (below_size (by repeat (first | (with_reducible first | exact HB.out | apply below_alloc | apply pw_below_drewN | apply below_drew1 | refine below_set ?_ GE125.out) | exact HB.out)))); have n1_ := aM (blk_below (g := gb125) (o := .cells #[.slice A0_0 l0_0.length c0_0] 29 (0, 0)) (by (with_reducible repeat (first | refine blk_drewN ?_ _ | refine blk_drew ?_ | refine blk_alloc ?_ _)); exact BK125.out) hb); have n2_ := aM (below_step (by repeat (first | (with_reducible first | exact HB.out | apply below_alloc | apply pw_below_drewN | apply below_drew1 | refine below_set ?_ GE125.out) | exact HB.out)) hb); clear BK125; clear HB; have HO128 := n0_; have BK125 := n1_; have HB := n2_; clear n0_ n1_ n2_; clear hb ho8))
   repeat (go_quiet (first | ((with_reducible refine gate_dst (N := 2) rfl ?_); refine box_event ?hg (N := 2) ?hd (cs := #[.slice A0_0 l0_0.length c0_0]) (t := 29) ?hr ?_; (case hd => rfl); (case hg => rfl); (case hr => first | (go_simp; done) | (go_simp; rfl)); intro gb125 hg w6 hbox hb; have n0_ := aM (below_step (by bB) hb); have n1_ := aM (hbox); have n2_ := aM ((by rw [hg]; exact (below_size (by bB)) : w.heap.size ≤ gb125)); have n3_ := aM ((by rw [hg]; exact (below_size (by bB)) : w.heap.size ≤ gb125)); clear HB; have HB := n0_; have BK125 := n1_; have GW125 := n2_; have GE125 := n3_; clear n0_ n1_ n2_ n3_; clear hb hbox hg) | ((with_reducible refine gate_dst (N := 12) rfl ?_); refine Kd.R_make (Kd.int .i64) _ 3 rfl (N := 12) rfl 46 _ _ rfl ji3 rfl rfl Tryd.underlying46 (.int .i64 0) 8 info3 rfl (by decide) (by omega) 0 (ok := fun _ => True) (okp := fun _ => True) rfl (fun _ hk => hk) trivial (of_decide_eq_true (by first | (with_reducible assumption) | assumption)) (Nat.le_trans (Nat.mul_le_mul_right _ (of_decide_eq_true (by first | (with_reducible assumption) | assumption) : ji3.toNat ≤ 35184372088832)) (by omega)) (Below.refl _ _) (Nat.le_refl _) ?_; intro v127 w7 ho8 hb hg_ hnew_; clear hg_ hnew_; (first | rw [← Ny126.out] at ho8 | (simp only [Int.reduceToNat] at ho8; rw [← Ny126.out] at ho8)); have n0_ := aM (Kd.R_lower ho8 (below_size (by repeat (first | (with_reducible first | exact HB.out | apply below_alloc | apply pw_below_drewN | apply below_drew1 | refine below_set ?_ GE125.out) | exact HB.out)))); have n1_ := aM (blk_below (g := gb125) (o := .cells #[.slice A0_0 l0_0.length c0_0] 29 (0, 0)) (by (with_reducible repeat (first | refine blk_drewN ?_ _ | refine blk_drew ?_ | refine blk_alloc ?_ _)); exact BK125.out) hb); have n2_ := aM (below_step (by repeat (first | (with_reducible first | exact HB.out | apply below_alloc | apply pw_below_drewN | apply below_drew1 | refine below_set ?_ GE125.out) | exact HB.out)) hb); clear BK125; clear HB; have HO128 := n0_; have BK125 := n1_; have HB := n2_; clear n0_ n1_ n2_; clear hb ho8)); try go_wp2_with (first | ((with_reducible refine gate_dst (N := 2) rfl ?_); refine box_event ?hg (N := 2) ?hd (cs := #[.slice A0_0 l0_0.length c0_0]) (t := 29) ?hr ?_; (case hd => rfl); (case hg => rfl); (case hr => first | (go_simp; done) | (go_simp; rfl)); intro gb125 hg w6 hbox hb; have n0_ := aM (below_step (by bB) hb); have n1_ := aM (hbox); have n2_ := aM ((by rw [hg]; exact (below_size (by bB)) : w.heap.size ≤ gb125)); have n3_ := aM ((by rw [hg]; exact (below_size (by bB)) : w.heap.size ≤ gb125)); clear HB; have HB := n0_; have BK125 := n1_; have GW125 := n2_; have GE125 := n3_; clear n0_ n1_ n2_ n3_; clear hb hbox hg) | ((with_reducible refine gate_dst (N := 12) rfl ?_); refine Kd.R_make (Kd.int .i64) _ 3 rfl (N := 12) rfl 46 _ _ rfl ji3 rfl rfl Tryd.underlying46 (.int .i64 0) 8 info3 rfl (by decide) (by omega) 0 (ok := fun _ => True) (okp := fun _ => True) rfl (fun _ hk => hk) trivial (of_decide_eq_true (by first | (with_reducible assumption) | assumption)) (Nat.le_trans (Nat.mul_le_mul_right _ (of_decide_eq_true (by first | (with_reducible assumption) | assumption) : ji3.toNat ≤ 35184372088832)) (by omega)) (Below.refl _ _) (Nat.le_refl _) ?_; intro v127 w7 ho8 hb hg_ hnew_; clear hg_ hnew_; (first | rw [← Ny126.out] at ho8 | (simp only [Int.reduceToNat] at ho8; rw [← Ny126.out] at ho8)); have n0_ := aM (Kd.R_lower ho8 (below_size (by repeat (first | (with_reducible first | exact HB.out | apply below_alloc | apply pw_below_drewN | apply below_drew1 | refine below_set ?_ GE125.out) | exact HB.out)))); have n1_ := aM (blk_below (g := gb125) (o := .cells #[.slice A0_0 l0_0.length c0_0] 29 (0, 0)) (by (with_reducible repeat (first | refine blk_drewN ?_ _ | refine blk_drew ?_ | refine blk_alloc ?_ _)); exact BK125.out) hb); have n2_ := aM (below_step (by repeat (first | (with_reducible first | exact HB.out | apply below_alloc | apply pw_below_drewN | apply below_drew1 | refine below_set ?_ GE125.out) | exact HB.out)) hb); clear BK125; clear HB; have HO128 := n0_; have BK125 := n1_; have HB := n2_; clear n0_ n1_ n2_; clear hb ho8)))
   go_loopg [1, 7] k (fun kq v1 v7 w' => ∃ (x1_1 : ByteArray) (x6_1 : List Int) (x7_1 : List ByteArray), v1 = .string x1_1 ∧ Aside0 (spec_laPath.l0 kq x1_1 x6_1 x7_1 l0_0 = some (r1, r2)) ∧ Aside0 (kq ≤ k) ∧ Aside0 (Kd.R (Kd.int .i64) 3 w' w.heap.size (fun _ => True) v127 x6_1) ∧ Aside0 (Kd.R Kd.string 9 w' w.heap.size (fun _ => True) v7 x7_1) ∧ Aside0 (w'.heap[gb125]? = some (.cells #[(.slice A0_0 l0_0.length c0_0)] 29 (0, 0))) ∧ Aside0 (Below w.heap.size w w'))
   case atStart => exact ⟨(a1), (y126), (([] : List ByteArray)), (by rF), H', ⟨Nat.le_refl _⟩, ⟨by (rX); exact HO128.out⟩, ⟨by first | exact Kd.R_nil _ _ _ _ _ | exact Kd.N_nil _ _ _ _ _ | exact Kd.V_nil _ _ _ _ _ | exact Kd.Q_nil _ _ _ _ _ | exact Kd.S_nil _ _ _ _ _⟩, ⟨by (with_reducible repeat (first | refine blk_drewN ?_ _ | refine blk_drew ?_ | refine blk_alloc ?_ _)); exact BK125.out⟩, ⟨by repeat (first | (with_reducible first | exact HB.out | apply below_alloc | apply pw_below_drewN | apply below_drew1 | refine below_set ?_ GE125.out) | exact HB.out)⟩⟩
   case round =>
    clear H'
    try clear c1
    try clear p2
    try clear c4
    try clear c4b0
    try clear c4b1
    try clear c5
    try clear c5b0
    try clear c5b1
    try clear p6
    obtain ⟨x1_1, x6_1, x7_1, rfl, HA, HK1, HO_6, HO_7, BK125, HB⟩ := hrel
    cases gk with
    | zero => exact absurd HA.out (by simp [spec_laPath.l0])
    | succ k1 =>
     have H := HA.out
     clear HA
     simp only [spec_laPath.l0] at H
     replace H := Option.bind_eq_some_iff.mp H
     obtain ⟨t129, A90, H⟩ := H
     replace H : (if 0 ≤ t129 then (if t129 < (x6_1.length : Int) then (if (rd x6_1 t129) > 0 then (some (x7_1, wrap64 ((rd x6_1 t129) - 1))) else (if x7_1.length < 8796093022208 then ((some (x7_1 ++ [x1_1] : List ByteArray)).bind fun y132 => ((spec_laTick.f l0_0 x1_1).bind fun t136 => (spec_laPath.l0 k1 t136 (x6_1.set (t129 : Int).toNat (y132.length : Int)) y132 l0_0))) else (none))) else (none)) else (none)) = some (r1, r2) := H
     have A9 := aM A90
     clear A90
     by_cases c10 : 0 ≤ t129
     ·rw [if_pos c10] at H
      have c10b0 : decide (0 ≤ t129) = true := decide_eq_true c10
      clear c10
      by_cases c11 : t129 < (x6_1.length : Int)
      ·rw [if_pos c11] at H
       have c11b0 : decide (t129 < (x6_1.length : Int)) = true := decide_eq_true c11
       clear c11
       by_cases c12 : (rd x6_1 t129) > 0
       ·rw [if_pos c12] at H
        have c12b0 : decide (0 < (rd x6_1 t129)) = true := decide_eq_true c12
        clear c12
        simp only [Option.some.injEq, Prod.mk.injEq] at H
        obtain ⟨rfl, rfl⟩ := H
        go_wp2_with (first | (go_at_call 174; (with_reducible refine (spec_laNumber.calls x1_1 t129 _ A9.out).mono ?_); rintro e w13 ⟨rfl, hb⟩; have n0_ := aM (Kd.R_below (by (rX); exact HO_6.out) hb); have n1_ := aM (Kd.R_below (by (rX); exact HO_7.out) hb); have n2_ := aM (blk_below (g := gb125) (o := .cells #[.slice A0_0 l0_0.length c0_0] 29 (0, 0)) (by (with_reducible repeat (first | refine blk_drewN ?_ _ | refine blk_drew ?_ | refine blk_alloc ?_ _)); exact BK125.out) hb); have n3_ := aM (below_step (by repeat (first | (with_reducible first | exact HB.out | apply below_alloc | apply pw_below_drewN | apply below_drew1 | refine below_set ?_ GE125.out) | exact HB.out)) hb); clear HO_6; clear HO_7; clear BK125; clear HB; have HO_6 := n0_; have HO_7 := n1_; have BK125 := n2_; have HB := n3_; clear n0_ n1_ n2_ n3_; cX; obtain ⟨Ao14, co14, eo14⟩ := Kd.R_slice HO_6.out; subst eo14; have p130 : 0 ≤ (t129 : Int) := of_decide_eq_true (by first | (with_reducible assumption) | assumption); have q130 : t129 < (x6_1.length : Int) := of_decide_eq_true (by first | (with_reducible assumption) | assumption); obtain ⟨ad130, e130, hx130_0⟩ := Kd.at_int (Kd.R_reads' HO_6.out).2.2 t129 p130 q130; cases e130; replace p130 := eq_true p130; replace q130 := eq_true q130; have p131 : 0 ≤ (t129 : Int) := of_decide_eq_true (by first | (with_reducible assumption) | assumption); have q131 : t129 < (x6_1.length : Int) := of_decide_eq_true (by first | (with_reducible assumption) | assumption); obtain ⟨ad131, e131, hx131_0⟩ := Kd.at_int (Kd.R_reads' HO_6.out).2.2 t129 p131 q131; obtain rfl : ad130 = ad131 := (by injection e131); replace p131 := eq_true p131; replace q131 := eq_true q131))
        repeat (go_quiet (first | (go_at_call 174; (with_reducible refine (spec_laNumber.calls x1_1 t129 _ A9.out).mono ?_); rintro e w13 ⟨rfl, hb⟩; have n0_ := aM (Kd.R_below (by (rX); exact HO_6.out) hb); have n1_ := aM (Kd.R_below (by (rX); exact HO_7.out) hb); have n2_ := aM (blk_below (g := gb125) (o := .cells #[.slice A0_0 l0_0.length c0_0] 29 (0, 0)) (by (with_reducible repeat (first | refine blk_drewN ?_ _ | refine blk_drew ?_ | refine blk_alloc ?_ _)); exact BK125.out) hb); have n3_ := aM (below_step (by repeat (first | (with_reducible first | exact HB.out | apply below_alloc | apply pw_below_drewN | apply below_drew1 | refine below_set ?_ GE125.out) | exact HB.out)) hb); clear HO_6; clear HO_7; clear BK125; clear HB; have HO_6 := n0_; have HO_7 := n1_; have BK125 := n2_; have HB := n3_; clear n0_ n1_ n2_ n3_; cX; obtain ⟨Ao14, co14, eo14⟩ := Kd.R_slice HO_6.out; subst eo14; have p130 : 0 ≤ (t129 : Int) := of_decide_eq_true (by first | (with_reducible assumption) | assumption); have q130 : t129 < (x6_1.length : Int) := of_decide_eq_true (by first | (with_reducible assumption) | assumption); obtain ⟨ad130, e130, hx130_0⟩ := Kd.at_int (Kd.R_reads' HO_6.out).2.2 t129 p130 q130; cases e130; replace p130 := eq_true p130; replace q130 := eq_true q130; have p131 : 0 ≤ (t129 : Int) := of_decide_eq_true (by first | (with_reducible assumption) | assumption); have q131 : t129 < (x6_1.length : Int) := of_decide_eq_true (by first | (with_reducible assumption) | assumption); obtain ⟨ad131, e131, hx131_0⟩ := Kd.at_int (Kd.R_reads' HO_6.out).2.2 t129 p131 q131; obtain rfl : ad130 = ad131 := (by injection e131); replace p131 := eq_true p131; replace q131 := eq_true q131)); try go_wp2_with (first | (go_at_call 174; (with_reducible refine (spec_laNumber.calls x1_1 t129 _ A9.out).mono ?_); rintro e w13 ⟨rfl, hb⟩; have n0_ := aM (Kd.R_below (by (rX); exact HO_6.out) hb); have n1_ := aM (Kd.R_below (by (rX); exact HO_7.out) hb); have n2_ := aM (blk_below (g := gb125) (o := .cells #[.slice A0_0 l0_0.length c0_0] 29 (0, 0)) (by (with_reducible repeat (first | refine blk_drewN ?_ _ | refine blk_drew ?_ | refine blk_alloc ?_ _)); exact BK125.out) hb); have n3_ := aM (below_step (by repeat (first | (with_reducible first | exact HB.out | apply below_alloc | apply pw_below_drewN | apply below_drew1 | refine below_set ?_ GE125.out) | exact HB.out)) hb); clear HO_6; clear HO_7; clear BK125; clear HB; have HO_6 := n0_; have HO_7 := n1_; have BK125 := n2_; have HB := n3_; clear n0_ n1_ n2_ n3_; cX; obtain ⟨Ao14, co14, eo14⟩ := Kd.R_slice HO_6.out; subst eo14; have p130 : 0 ≤ (t129 : Int) := of_decide_eq_true (by first | (with_reducible assumption) | assumption); have q130 : t129 < (x6_1.length : Int) := of_decide_eq_true (by first | (with_reducible assumption) | assumption); obtain ⟨ad130, e130, hx130_0⟩ := Kd.at_int (Kd.R_reads' HO_6.out).2.2 t129 p130 q130; cases e130; replace p130 := eq_true p130; replace q130 := eq_true q130; have p131 : 0 ≤ (t129 : Int) := of_decide_eq_true (by first | (with_reducible assumption) | assumption); have q131 : t129 < (x6_1.length : Int) := of_decide_eq_true (by first | (with_reducible assumption) | assumption); obtain ⟨ad131, e131, hx131_0⟩ := Kd.at_int (Kd.R_reads' HO_6.out).2.2 t129 p131 q131; obtain rfl : ad130 = ad131 := (by injection e131); replace p131 := eq_true p131; replace q131 := eq_true q131)))
        go_ret2
        exact ⟨_, by first | rfl | (simp [errW_none, errW_some] <;> rfl) | (simp only [← hji3]; first | rfl | (simp [errW_none, errW_some] <;> rfl)) | (simp [*, errW_none, errW_some] <;> rfl), by (rX); exact HO_7.out, by repeat (first | (with_reducible first | exact HB.out | apply below_alloc | apply pw_below_drewN | apply below_drew1 | refine below_set ?_ GE125.out) | exact HB.out)⟩
       ·rw [if_neg c12] at H
        have c12b0 : decide (0 < (rd x6_1 t129)) = false := decide_eq_false c12
        clear c12
        by_cases c15 : x7_1.length < 8796093022208
        ·rw [if_pos c15] at H
         have LMc15 := aM c15
         clear c15
         obtain ⟨y132, hy132⟩ : ∃ y_ : List ByteArray, y_ = (x7_1 ++ [x1_1]) := ⟨_, rfl⟩
         replace H : ((spec_laTick.f l0_0 x1_1).bind fun t136 => (spec_laPath.l0 k1 t136 (x6_1.set (t129 : Int).toNat (y132.length : Int)) y132 l0_0)) = some (r1, r2) := by fH hy132
         have Ny132 := aM hy132
         clear hy132
         obtain ⟨y135, hy135⟩ : ∃ y_ : List Int, y_ = (x6_1.set (t129 : Int).toNat (y132.length : Int)) := ⟨_, rfl⟩
         replace H : ((spec_laTick.f l0_0 x1_1).bind fun t136 => (spec_laPath.l0 k1 t136 y135 y132 l0_0)) = some (r1, r2) := by fH hy135
         have Ny135 := aM hy135
         clear hy135
         replace H := Option.bind_eq_some_iff.mp H
         obtain ⟨t136, A170, H⟩ := H
         replace H : (spec_laPath.l0 k1 t136 y135 y132 l0_0) = some (r1, r2) := H
         have A17 := aM A170
         clear A170
         have H' := aM H
         clear H
         go_wp2_with (first | (go_at_call 174; (with_reducible refine (spec_laNumber.calls x1_1 t129 _ A9.out).mono ?_); rintro e w18 ⟨rfl, hb⟩; have n0_ := aM (Kd.R_below (by (rX); exact HO_6.out) hb); have n1_ := aM (Kd.R_below (by (rX); exact HO_7.out) hb); have n2_ := aM (blk_below (g := gb125) (o := .cells #[.slice A0_0 l0_0.length c0_0] 29 (0, 0)) (by (with_reducible repeat (first | refine blk_drewN ?_ _ | refine blk_drew ?_ | refine blk_alloc ?_ _)); exact BK125.out) hb); have n3_ := aM (below_step (by repeat (first | (with_reducible first | exact HB.out | apply below_alloc | apply pw_below_drewN | apply below_drew1 | refine below_set ?_ GE125.out) | exact HB.out)) hb); clear HO_6; clear HO_7; clear BK125; clear HB; have HO_6 := n0_; have HO_7 := n1_; have BK125 := n2_; have HB := n3_; clear n0_ n1_ n2_ n3_; cX; obtain ⟨Ao19, co19, eo19⟩ := Kd.R_slice HO_6.out; subst eo19; have p130 : 0 ≤ (t129 : Int) := of_decide_eq_true (by first | (with_reducible assumption) | assumption); have q130 : t129 < (x6_1.length : Int) := of_decide_eq_true (by first | (with_reducible assumption) | assumption); obtain ⟨ad130, e130, hx130_0⟩ := Kd.at_int (Kd.R_reads' HO_6.out).2.2 t129 p130 q130; cases e130; replace p130 := eq_true p130; replace q130 := eq_true q130) | ((with_reducible refine gate_builtin (b := .append) (xs := #[.tmp 26, .tmp 28]) rfl ?_); at_builtin; refine Kd.R_append Kd.string (w0 := w) w.heap.size rfl (.tmp 26) (.tmp 28) 22 9 (.string ⟨#[]⟩) 16 rfl Tryd.underlying22 info9 rfl (by decide) (by omega) u7 x7_1 x1_1 [.string x1_1] (fun _ => True) (fun _ => False) rfl rfl ?aP (fun _ hk => hk.elim) ?aF ?aO ?aB ?aS ?aL ?_; (case aP => exact rfl); (case aB => exact (by repeat (first | (with_reducible first | exact HB.out | apply below_alloc | apply pw_below_drewN | apply below_drew1 | refine below_set ?_ GE125.out) | exact HB.out))); (case aF => exact (fun _ _ => trivial)); (case aO => exact (by (rX); exact HO_7.out)); (case aS => exact (below_size (by repeat (first | (with_reducible first | exact HB.out | apply below_alloc | apply pw_below_drewN | apply below_drew1 | refine below_set ?_ GE125.out) | exact HB.out)))); (case aL => have := LMc15.out; omega); intro v133 w20 ho hb hg hat; rw [← Ny132.out] at ho; have n0_ := aM (Kd.R_over' (by (rX); exact HO_6.out) (Kd.R_typed (by (rX); exact HO_7.out)) (by decide) hg); have n1_ := aM (blk_grown (g := gb125) (o := .cells #[.slice A0_0 l0_0.length c0_0] 29 (0, 0)) (by (with_reducible repeat (first | refine blk_drewN ?_ _ | refine blk_drew ?_ | refine blk_alloc ?_ _)); exact BK125.out) hg (Kd.R_ne HO_7.out BK125.out (by decide))); have n2_ := aM (hb); have n3_ := aM (ho); clear HO_6; clear BK125; clear HB; clear HO_7; have HO_6 := n0_; have BK125 := n1_; have HB := n2_; have HO134 := n3_; clear n0_ n1_ n2_ n3_; clear ho hb hg hat; obtain ⟨Ao21, co21, eo21⟩ := Kd.R_slice HO134.out; subst eo21; have p16 : 0 ≤ (t129 : Int) := of_decide_eq_true (by first | (with_reducible assumption) | assumption); have q16 : (t129 : Int) < ((x6_1.length : Int) : Int) := of_decide_eq_true (by first | (with_reducible assumption) | assumption); obtain ⟨go16, co16, eo16, gb16, gl16, cl16, HG16⟩ := Kd.R_form HO_6.out (by omega); (first | cases eo16 | (injection eo16 with ea_ en_ ec_; (first | subst ea_ | (injection ea_ with ea_; subst ea_)); subst ec_; clear en_)); have GB16 := aM gb16; have GG16 := aM HG16; clear gb16 gl16 HG16; (first | simp only [add_plain] at hx130_0 | skip); (first | simp only [add_plain] at hx131_0 | skip); obtain ⟨hx16_0, hf16_0⟩ := Kd.R_celln 0 HO_6.out (t129 : Int) p16 q16; replace p16 := eq_true p16; replace q16 := eq_true q16; obtain ⟨hy22_, hz22_⟩ := Kd.R_celln 0 HO_6.out (t129 : Int) (of_decide_eq_true (by first | (with_reducible assumption) | assumption)) (of_decide_eq_true (by first | (with_reducible assumption) | assumption)); have HP22 := Kd.R_putg HO_6.out (t129 : Int) (y132.length : Int)) | ((with_reducible refine gate_store (t := 3) (p := 34) rfl ?_); (try (rw [drewN_self w20]; generalize hq_ : World.drewN w20 _ = w20; have n0_ := aM (Kd.R_at hq_ HO_6.out); have n1_ := aM (Kd.R_at hq_ HO134.out); have n2_ := aM (blk_at hq_ BK125.out); have n3_ := aM (below_at hq_ HB.out); clear hq_ HO_6 HO134 BK125 HB; have HO_6 := n0_; have HO134 := n1_; have BK125 := n2_; have HB := n3_; clear n0_ n1_ n2_ n3_; (try (obtain ⟨hy22_, hz22_⟩ := Kd.R_celln 0 HO_6.out (t129 : Int) (of_decide_eq_true (by first | (with_reducible assumption) | assumption)) (of_decide_eq_true (by first | (with_reducible assumption) | assumption)))); (try (have HP22 := Kd.R_putg HO_6.out (t129 : Int) (y132.length : Int))))); refine store_event (t := 3) (p := 34) (v := ?vo_w23) (w1 := (w20.setCell ⟨go16, (t129 : Int).toNat, none⟩ (.int .i64 (y132.length : Int)))) ?hg ?ho ?hn ?hr ?_; (case ho => rfl); (case hg => rfl); (case hn => rfl); (case hr => first | (go_simp; done) | (go_simp; rfl)); intro w23 hw; have hg : w20.grownBy w23 (some go16) := (by rw [hw]; exact HP22.2); have hp_ : Kd.R (Kd.int .i64) 3 w23 w.heap.size (fun _ => True) (.slice (some ⟨go16, 0, none⟩) x6_1.length co19) y135 := (by rw [hw, Ny135.out]; exact HP22.1); clear HP22; have n0_ := aM (hp_); have n1_ := aM (blk_grown (g := gb125) (o := .cells #[.slice A0_0 l0_0.length c0_0] 29 (0, 0)) (by (with_reducible repeat (first | refine blk_drewN ?_ _ | refine blk_drew ?_ | refine blk_alloc ?_ _)); exact BK125.out) hg (Kd.R_ne HO_6.out BK125.out (by decide))); have n2_ := aM (Kd.R_over' (v := (.slice (some ⟨go16, 0, none⟩) x6_1.length co19)) (by (rX); exact HO134.out) (Kd.R_typed HO_6.out) (by decide) hg); have n3_ := aM ((by rw [hw]; exact below_set (HB.out) GB16.out : Below w.heap.size w w23)); clear HO_6; clear BK125; clear HO134; clear HB; have HO_6 := n0_; have BK125 := n1_; have HO134 := n2_; have HB := n3_; clear n0_ n1_ n2_ n3_; clear hg hw hp_; have hcz24_0 : w23.cell? ⟨gb125, 0, none⟩ = some (.slice A0_0 l0_0.length c0_0) := (blk_cell BK125.out 0).trans rfl; have hfz24_0 := blk_frozen BK125.out 0) | (go_at_call 123; (with_reducible refine (spec_laTick.calls _ _ l0_0 x1_1 t136 _ ?side1 ?side2 A17.out).mono ?_); (case side1 => cC ((Kd.C_below HR0_0.out HB.out))); (case side2 => exact HC0_0.out); rintro e w25 ⟨rfl, hb⟩; have n0_ := aM (Kd.R_below (by (rX); exact HO_6.out) hb); have n1_ := aM (Kd.R_below (by (rX); exact HO134.out) hb); have n2_ := aM (blk_below (g := gb125) (o := .cells #[.slice A0_0 l0_0.length c0_0] 29 (0, 0)) (by (with_reducible repeat (first | refine blk_drewN ?_ _ | refine blk_drew ?_ | refine blk_alloc ?_ _)); exact BK125.out) hb); have n3_ := aM (below_step (by repeat (first | (with_reducible first | exact HB.out | apply below_alloc | apply pw_below_drewN | apply below_drew1 | refine below_set ?_ GE125.out) | exact HB.out)) hb); clear HO_6; clear HO134; clear BK125; clear HB; have HO_6 := n0_; have HO134 := n1_; have BK125 := n2_; have HB := n3_; clear n0_ n1_ n2_ n3_; cX))
         repeat (go_quiet (first | (go_at_call 174; (with_reducible refine (spec_laNumber.calls x1_1 t129 _ A9.out).mono ?_); rintro e w18 ⟨rfl, hb⟩; have n0_ := aM (Kd.R_below (by (rX); exact HO_6.out) hb); have n1_ := aM (Kd.R_below (by (rX); exact HO_7.out) hb); have n2_ := aM (blk_below (g := gb125) (o := .cells #[.slice A0_0 l0_0.length c0_0] 29 (0, 0)) (by (with_reducible repeat (first | refine blk_drewN ?_ _ | refine blk_drew ?_ | refine blk_alloc ?_ _)); exact BK125.out) hb); have n3_ := aM (below_step (by repeat (first | (with_reducible first | exact HB.out | apply below_alloc | apply pw_below_drewN | apply below_drew1 | refine below_set ?_ GE125.out) | exact HB.out)) hb); clear HO_6; clear HO_7; clear BK125; clear HB; have HO_6 := n0_; have HO_7 := n1_; have BK125 := n2_; have HB := n3_; clear n0_ n1_ n2_ n3_; cX; obtain ⟨Ao19, co19, eo19⟩ := Kd.R_slice HO_6.out; subst eo19; have p130 : 0 ≤ (t129 : Int) := of_decide_eq_true (by first | (with_reducible assumption) | assumption); have q130 : t129 < (x6_1.length : Int) := of_decide_eq_true (by first | (with_reducible assumption) | assumption); obtain ⟨ad130, e130, hx130_0⟩ := Kd.at_int (Kd.R_reads' HO_6.out).2.2 t129 p130 q130; cases e130; replace p130 := eq_true p130; replace q130 := eq_true q130) | ((with_reducible refine gate_builtin (b := .append) (xs := #[.tmp 26, .tmp 28]) rfl ?_); at_builtin; refine Kd.R_append Kd.string (w0 := w) w.heap.size rfl (.tmp 26) (.tmp 28) 22 9 (.string ⟨#[]⟩) 16 rfl Tryd.underlying22 info9 rfl (by decide) (by omega) u7 x7_1 x1_1 [.string x1_1] (fun _ => True) (fun _ => False) rfl rfl ?aP (fun _ hk => hk.elim) ?aF ?aO ?aB ?aS ?aL ?_; (case aP => exact rfl); (case aB => exact (by repeat (first | (with_reducible first | exact HB.out | apply below_alloc | apply pw_below_drewN | apply below_drew1 | refine below_set ?_ GE125.out) | exact HB.out))); (case aF => exact (fun _ _ => trivial)); (case aO => exact (by (rX); exact HO_7.out)); (case aS => exact (below_size (by repeat (first | (with_reducible first | exact HB.out | apply below_alloc | apply pw_below_drewN | apply below_drew1 | refine below_set ?_ GE125.out) | exact HB.out)))); (case aL => have := LMc15.out; omega); intro v133 w20 ho hb hg hat; rw [← Ny132.out] at ho; have n0_ := aM (Kd.R_over' (by (rX); exact HO_6.out) (Kd.R_typed (by (rX); exact HO_7.out)) (by decide) hg); have n1_ := aM (blk_grown (g := gb125) (o := .cells #[.slice A0_0 l0_0.length c0_0] 29 (0, 0)) (by (with_reducible repeat (first | refine blk_drewN ?_ _ | refine blk_drew ?_ | refine blk_alloc ?_ _)); exact BK125.out) hg (Kd.R_ne HO_7.out BK125.out (by decide))); have n2_ := aM (hb); have n3_ := aM (ho); clear HO_6; clear BK125; clear HB; clear HO_7; have HO_6 := n0_; have BK125 := n1_; have HB := n2_; have HO134 := n3_; clear n0_ n1_ n2_ n3_; clear ho hb hg hat; obtain ⟨Ao21, co21, eo21⟩ := Kd.R_slice HO134.out; subst eo21; have p16 : 0 ≤ (t129 : Int) := of_decide_eq_true (by first | (with_reducible assumption) | assumption); have q16 : (t129 : Int) < ((x6_1.length : Int) : Int) := of_decide_eq_true (by first | (with_reducible assumption) | assumption); obtain ⟨go16, co16, eo16, gb16, gl16, cl16, HG16⟩ := Kd.R_form HO_6.out (by omega); (first | cases eo16 | (injection eo16 with ea_ en_ ec_; (first | subst ea_ | (injection ea_ with ea_; subst ea_)); subst ec_; clear en_)); have GB16 := aM gb16; have GG16 := aM HG16; clear gb16 gl16 HG16; (first | simp only [add_plain] at hx130_0 | skip); (first | simp only [add_plain] at hx131_0 | skip); obtain ⟨hx16_0, hf16_0⟩ := Kd.R_celln 0 HO_6.out (t129 : Int) p16 q16; replace p16 := eq_true p16; replace q16 := eq_true q16; obtain ⟨hy22_, hz22_⟩ := Kd.R_celln 0 HO_6.out (t129 : Int) (of_decide_eq_true (by first | (with_reducible assumption) | assumption)) (of_decide_eq_true (by first | (with_reducible assumption) | assumption)); have HP22 := Kd.R_putg HO_6.out (t129 : Int) (y132.length : Int)) | ((with_reducible refine gate_store (t := 3) (p := 34) rfl ?_); (try (rw [drewN_self w20]; generalize hq_ : World.drewN w20 _ = w20; have n0_ := aM (Kd.R_at hq_ HO_6.out); have n1_ := aM (Kd.R_at hq_ HO134.out); have n2_ := aM (blk_at hq_ BK125.out); have n3_ := aM (below_at hq_ HB.out); clear hq_ HO_6 HO134 BK125 HB; have HO_6 := n0_; have HO134 := n1_; have BK125 := n2_; have HB := n3_; clear n0_ n1_ n2_ n3_; (try (obtain ⟨hy22_, hz22_⟩ := Kd.R_celln 0 HO_6.out (t129 : Int) (of_decide_eq_true (by first | (with_reducible assumption) | assumption)) (of_decide_eq_true (by first | (with_reducible assumption) | assumption)))); (try (have HP22 := Kd.R_putg HO_6.out (t129 : Int) (y132.length : Int))))); refine store_event (t := 3) (p := 34) (v := ?vo_w23) (w1 := (w20.setCell ⟨go16, (t129 : Int).toNat, none⟩ (.int .i64 (y132.length : Int)))) ?hg ?ho ?hn ?hr ?_; (case ho => rfl); (case hg => rfl); (case hn => rfl); (case hr => first | (go_simp; done) | (go_simp; rfl)); intro w23 hw; have hg : w20.grownBy w23 (some go16) := (by rw [hw]; exact HP22.2); have hp_ : Kd.R (Kd.int .i64) 3 w23 w.heap.size (fun _ => True) (.slice (some ⟨go16, 0, none⟩) x6_1.length co19) y135 := (by rw [hw, Ny135.out]; exact HP22.1); clear HP22; have n0_ := aM (hp_); have n1_ := aM (blk_grown (g := gb125) (o := .cells #[.slice A0_0 l0_0.length c0_0] 29 (0, 0)) (by (with_reducible repeat (first | refine blk_drewN ?_ _ | refine blk_drew ?_ | refine blk_alloc ?_ _)); exact BK125.out) hg (Kd.R_ne HO_6.out BK125.out (by decide))); have n2_ := aM (Kd.R_over' (v := (.slice (some ⟨go16, 0, none⟩) x6_1.length co19)) (by (rX); exact HO134.out) (Kd.R_typed HO_6.out) (by decide) hg); have n3_ := aM ((by rw [hw]; exact below_set (HB.out) GB16.out : Below w.heap.size w w23)); clear HO_6; clear BK125; clear HO134; clear HB; have HO_6 := n0_; have BK125 := n1_; have HO134 := n2_; have HB := n3_; clear n0_ n1_ n2_ n3_; clear hg hw hp_; have hcz24_0 : w23.cell? ⟨gb125, 0, none⟩ = some (.slice A0_0 l0_0.length c0_0) := (blk_cell BK125.out 0).trans rfl; have hfz24_0 := blk_frozen BK125.out 0) | (go_at_call 123; (with_reducible refine (spec_laTick.calls _ _ l0_0 x1_1 t136 _ ?side1 ?side2 A17.out).mono ?_); (case side1 => cC ((Kd.C_below HR0_0.out HB.out))); (case side2 => exact HC0_0.out); rintro e w25 ⟨rfl, hb⟩; have n0_ := aM (Kd.R_below (by (rX); exact HO_6.out) hb); have n1_ := aM (Kd.R_below (by (rX); exact HO134.out) hb); have n2_ := aM (blk_below (g := gb125) (o := .cells #[.slice A0_0 l0_0.length c0_0] 29 (0, 0)) (by (with_reducible repeat (first | refine blk_drewN ?_ _ | refine blk_drew ?_ | refine blk_alloc ?_ _)); exact BK125.out) hb); have n3_ := aM (below_step (by repeat (first | (with_reducible first | exact HB.out | apply below_alloc | apply pw_below_drewN | apply below_drew1 | refine below_set ?_ GE125.out) | exact HB.out)) hb); clear HO_6; clear HO134; clear BK125; clear HB; have HO_6 := n0_; have HO134 := n1_; have BK125 := n2_; have HB := n3_; clear n0_ n1_ n2_ n3_; cX)); try go_wp2_with (first | (go_at_call 174; (with_reducible refine (spec_laNumber.calls x1_1 t129 _ A9.out).mono ?_); rintro e w18 ⟨rfl, hb⟩; have n0_ := aM (Kd.R_below (by (rX); exact HO_6.out) hb); have n1_ := aM (Kd.R_below (by (rX); exact HO_7.out) hb); have n2_ := aM (blk_below (g := gb125) (o := .cells #[.slice A0_0 l0_0.length c0_0] 29 (0, 0)) (by (with_reducible repeat (first | refine blk_drewN ?_ _ | refine blk_drew ?_ | refine blk_alloc ?_ _)); exact BK125.out) hb); have n3_ := aM (below_step (by repeat (first | (with_reducible first | exact HB.out | apply below_alloc | apply pw_below_drewN | apply below_drew1 | refine below_set ?_ GE125.out) | exact HB.out)) hb); clear HO_6; clear HO_7; clear BK125; clear HB; have HO_6 := n0_; have HO_7 := n1_; have BK125 := n2_; have HB := n3_; clear n0_ n1_ n2_ n3_; cX; obtain ⟨Ao19, co19, eo19⟩ := Kd.R_slice HO_6.out; subst eo19; have p130 : 0 ≤ (t129 : Int) := of_decide_eq_true (by first | (with_reducible assumption) | assumption); have q130 : t129 < (x6_1.length : Int) := of_decide_eq_true (by first | (with_reducible assumption) | assumption); obtain ⟨ad130, e130, hx130_0⟩ := Kd.at_int (Kd.R_reads' HO_6.out).2.2 t129 p130 q130; cases e130; replace p130 := eq_true p130; replace q130 := eq_true q130) | ((with_reducible refine gate_builtin (b := .append) (xs := #[.tmp 26, .tmp 28]) rfl ?_); at_builtin; refine Kd.R_append Kd.string (w0 := w) w.heap.size rfl (.tmp 26) (.tmp 28) 22 9 (.string ⟨#[]⟩) 16 rfl Tryd.underlying22 info9 rfl (by decide) (by omega) u7 x7_1 x1_1 [.string x1_1] (fun _ => True) (fun _ => False) rfl rfl ?aP (fun _ hk => hk.elim) ?aF ?aO ?aB ?aS ?aL ?_; (case aP => exact rfl); (case aB => exact (by repeat (first | (with_reducible first | exact HB.out | apply below_alloc | apply pw_below_drewN | apply below_drew1 | refine below_set ?_ GE125.out) | exact HB.out))); (case aF => exact (fun _ _ => trivial)); (case aO => exact (by (rX); exact HO_7.out)); (case aS => exact (below_size (by repeat (first | (with_reducible first | exact HB.out | apply below_alloc | apply pw_below_drewN | apply below_drew1 | refine below_set ?_ GE125.out) | exact HB.out)))); (case aL => have := LMc15.out; omega); intro v133 w20 ho hb hg hat; rw [← Ny132.out] at ho; have n0_ := aM (Kd.R_over' (by (rX); exact HO_6.out) (Kd.R_typed (by (rX); exact HO_7.out)) (by decide) hg); have n1_ := aM (blk_grown (g := gb125) (o := .cells #[.slice A0_0 l0_0.length c0_0] 29 (0, 0)) (by (with_reducible repeat (first | refine blk_drewN ?_ _ | refine blk_drew ?_ | refine blk_alloc ?_ _)); exact BK125.out) hg (Kd.R_ne HO_7.out BK125.out (by decide))); have n2_ := aM (hb); have n3_ := aM (ho); clear HO_6; clear BK125; clear HB; clear HO_7; have HO_6 := n0_; have BK125 := n1_; have HB := n2_; have HO134 := n3_; clear n0_ n1_ n2_ n3_; clear ho hb hg hat; obtain ⟨Ao21, co21, eo21⟩ := Kd.R_slice HO134.out; subst eo21; have p16 : 0 ≤ (t129 : Int) := of_decide_eq_true (by first | (with_reducible assumption) | assumption); have q16 : (t129 : Int) < ((x6_1.length : Int) : Int) := of_decide_eq_true (by first | (with_reducible assumption) | assumption); obtain ⟨go16, co16, eo16, gb16, gl16, cl16, HG16⟩ := Kd.R_form HO_6.out (by omega); (first | cases eo16 | (injection eo16 with ea_ en_ ec_; (first | subst ea_ | (injection ea_ with ea_; subst ea_)); subst ec_; clear en_)); have GB16 := aM gb16; have GG16 := aM HG16; clear gb16 gl16 HG16; (first | simp only [add_plain] at hx130_0 | skip); (first | simp only [add_plain] at hx131_0 | skip); obtain ⟨hx16_0, hf16_0⟩ := Kd.R_celln 0 HO_6.out (t129 : Int) p16 q16; replace p16 := eq_true p16; replace q16 := eq_true q16; obtain ⟨hy22_, hz22_⟩ := Kd.R_celln 0 HO_6.out (t129 : Int) (of_decide_eq_true (by first | (with_reducible assumption) | assumption)) (of_decide_eq_true (by first | (with_reducible assumption) | assumption)); have HP22 := Kd.R_putg HO_6.out (t129 : Int) (y132.length : Int)) | ((with_reducible refine gate_store (t := 3) (p := 34) rfl ?_); (try (rw [drewN_self w20]; generalize hq_ : World.drewN w20 _ = w20; have n0_ := aM (Kd.R_at hq_ HO_6.out); have n1_ := aM (Kd.R_at hq_ HO134.out); have n2_ := aM (blk_at hq_ BK125.out); have n3_ := aM (below_at hq_ HB.out); clear hq_ HO_6 HO134 BK125 HB; have HO_6 := n0_; have HO134 := n1_; have BK125 := n2_; have HB := n3_; clear n0_ n1_ n2_ n3_; (try (obtain ⟨hy22_, hz22_⟩ := Kd.R_celln 0 HO_6.out (t129 : Int) (of_decide_eq_true (by first | (with_reducible assumption) | assumption)) (of_decide_eq_true (by first | (with_reducible assumption) | assumption)))); (try (have HP22 := Kd.R_putg HO_6.out (t129 : Int) (y132.length : Int))))); refine store_event (t := 3) (p := 34) (v := ?vo_w23) (w1 := (w20.setCell ⟨go16, (t129 : Int).toNat, none⟩ (.int .i64 (y132.length : Int)))) ?hg ?ho ?hn ?hr ?_; (case ho => rfl); (case hg => rfl); (case hn => rfl); (case hr => first | (go_simp; done) | (go_simp; rfl)); intro w23 hw; have hg : w20.grownBy w23 (some go16) := (by rw [hw]; exact HP22.2); have hp_ : Kd.R (Kd.int .i64) 3 w23 w.heap.size (fun _ => True) (.slice (some ⟨go16, 0, none⟩) x6_1.length co19) y135 := (by rw [hw, Ny135.out]; exact HP22.1); clear HP22; have n0_ := aM (hp_); have n1_ := aM (blk_grown (g := gb125) (o := .cells #[.slice A0_0 l0_0.length c0_0] 29 (0, 0)) (by (with_reducible repeat (first | refine blk_drewN ?_ _ | refine blk_drew ?_ | refine blk_alloc ?_ _)); exact BK125.out) hg (Kd.R_ne HO_6.out BK125.out (by decide))); have n2_ := aM (Kd.R_over' (v := (.slice (some ⟨go16, 0, none⟩) x6_1.length co19)) (by (rX); exact HO134.out) (Kd.R_typed HO_6.out) (by decide) hg); have n3_ := aM ((by rw [hw]; exact below_set (HB.out) GB16.out : Below w.heap.size w w23)); clear HO_6; clear BK125; clear HO134; clear HB; have HO_6 := n0_; have BK125 := n1_; have HO134 := n2_; have HB := n3_; clear n0_ n1_ n2_ n3_; clear hg hw hp_; have hcz24_0 : w23.cell? ⟨gb125, 0, none⟩ = some (.slice A0_0 l0_0.length c0_0) := (blk_cell BK125.out 0).trans rfl; have hfz24_0 := blk_frozen BK125.out 0) | (go_at_call 123; (with_reducible refine (spec_laTick.calls _ _ l0_0 x1_1 t136 _ ?side1 ?side2 A17.out).mono ?_); (case side1 => cC ((Kd.C_below HR0_0.out HB.out))); (case side2 => exact HC0_0.out); rintro e w25 ⟨rfl, hb⟩; have n0_ := aM (Kd.R_below (by (rX); exact HO_6.out) hb); have n1_ := aM (Kd.R_below (by (rX); exact HO134.out) hb); have n2_ := aM (blk_below (g := gb125) (o := .cells #[.slice A0_0 l0_0.length c0_0] 29 (0, 0)) (by (with_reducible repeat (first | refine blk_drewN ?_ _ | refine blk_drew ?_ | refine blk_alloc ?_ _)); exact BK125.out) hb); have n3_ := aM (below_step (by repeat (first | (with_reducible first | exact HB.out | apply below_alloc | apply pw_below_drewN | apply below_drew1 | refine below_set ?_ GE125.out) | exact HB.out)) hb); clear HO_6; clear HO134; clear BK125; clear HB; have HO_6 := n0_; have HO134 := n1_; have BK125 := n2_; have HB := n3_; clear n0_ n1_ n2_ n3_; cX)))
         go_roundg k1
         case measure => mO
         case rel => exact ⟨(t136), (y135), (y132), (by rF), H', ⟨by mO⟩, ⟨by (rX); exact HO_6.out⟩, ⟨by (rX); exact HO134.out⟩, ⟨by (with_reducible repeat (first | refine blk_drewN ?_ _ | refine blk_drew ?_ | refine blk_alloc ?_ _)); exact BK125.out⟩, ⟨by repeat (first | (with_reducible first | exact HB.out | apply below_alloc | apply pw_below_drewN | apply below_drew1 | refine below_set ?_ GE125.out) | exact HB.out)⟩⟩
        ·rw [if_neg c15] at H
         exact absurd H (by simp)
      ·rw [if_neg c11] at H
       exact absurd H (by simp)
     ·rw [if_neg c10] at H
      exact absurd H (by simp)
  ·rw [if_neg c5] at H
   exact absurd H (by simp)
 ·rw [if_neg c4] at H
  exact absurd H (by simp)

/-! ### spec_laAt: function 115 -/
def spec_laAt.f (l0 : List ByteArray) (a1 : Int) (a2 : Int) : Option (ByteArray) := if a2 < (l0.length : Int) then (if 0 ≤ a2 then (some (rdOf ByteArray.empty l0 a2)) else (none)) else (if (wrap64 ((l0.length : Int) - a1)) = 0 then (none) else (if 0 ≤ (wrap64 (a1 + (Int.tmod (wrap64 (a2 - a1)) (wrap64 ((l0.length : Int) - a1))))) then (if (wrap64 (a1 + (Int.tmod (wrap64 (a2 - a1)) (wrap64 ((l0.length : Int) - a1))))) < (l0.length : Int) then (some (rdOf ByteArray.empty l0 (wrap64 (a1 + (Int.tmod (wrap64 (a2 - a1)) (wrap64 ((l0.length : Int) - a1))))))) else (none)) else (none)))
set_option maxHeartbeats 8000000 in
set_option maxRecDepth 100000 in
theorem spec_laAt.calls (A0 : Option Addr) (c0 : Nat) (l0 : List ByteArray) (a1 : Int) (a2 : Int) (r : ByteArray) (w : World) (hr0 : Kd.C Kd.string w A0 l0.length l0) (hc0 : l0.length ≤ c0) (h : spec_laAt.f l0 a1 a2 = some r) :
  Calls Tryd.prog 115 #[.slice A0 l0.length c0, .int .i64 a1, .int .i64 a2] w fun e w' => e = .returned (.string r) ∧ Drawn0 w w' := by
 have HR0 := aM hr0
 have HC0 := aM hc0
 clear hr0 hc0
 have H : (if a2 < (l0.length : Int) then (if 0 ≤ a2 then (some (rdOf ByteArray.empty l0 a2)) else (none)) else (if (wrap64 ((l0.length : Int) - a1)) = 0 then (none) else (if 0 ≤ (wrap64 (a1 + (Int.tmod (wrap64 (a2 - a1)) (wrap64 ((l0.length : Int) - a1))))) then (if (wrap64 (a1 + (Int.tmod (wrap64 (a2 - a1)) (wrap64 ((l0.length : Int) - a1))))) < (l0.length : Int) then (some (rdOf ByteArray.empty l0 (wrap64 (a1 + (Int.tmod (wrap64 (a2 - a1)) (wrap64 ((l0.length : Int) - a1))))))) else (none)) else (none)))) = some r := h
 clear h
 by_cases c4 : a2 < (l0.length : Int)
 ·rw [if_pos c4] at H
  have c4b0 : decide (a2 < (l0.length : Int)) = true := decide_eq_true c4
  clear c4
  by_cases c5 : 0 ≤ a2
  ·rw [if_pos c5] at H
   have c5b0 : decide (0 ≤ a2) = true := decide_eq_true c5
   clear c5
   obtain rfl := Option.some.inj H
   have p137 : 0 ≤ (a2 : Int) := of_decide_eq_true (by first | (with_reducible assumption) | assumption)
   have q137 : a2 < (l0.length : Int) := of_decide_eq_true (by first | (with_reducible assumption) | assumption)
   obtain ⟨ad137, e137, hx137_0⟩ := Kd.at_string HR0.out a2 p137 q137
   cases e137
   replace p137 := eq_true p137
   replace q137 := eq_true q137
   go_enter Tryd.func115, Tryd.ntmps115
   go_wp2
   go_ret
   exact ⟨by rF, by repeat (first | exact Drawn0.refl _ | apply Drawn0.step)⟩
  ·rw [if_neg c5] at H
   exact absurd H (by simp)
 ·rw [if_neg c4] at H
  have c4b0 : decide (a2 < (l0.length : Int)) = false := decide_eq_false c4
  clear c4
  by_cases c6 : (wrap64 ((l0.length : Int) - a1)) = 0
  ·rw [if_pos c6] at H
   exact absurd H (by simp)
  ·rw [if_neg c6] at H
   have c6b0 : ((wrap64 ((l0.length : Int) - a1)) == 0) = false := beq_eq_false_iff_ne.mpr c6
   have c6b1 : ((wrap64 ((l0.length : Int) - a1)) != 0) = true := bne_iff_ne.mpr c6
   obtain ⟨ji7, hji7⟩ : ∃ j_ : Int, (wrap64 (a1 + (Int.tmod (wrap64 (a2 - a1)) (wrap64 ((l0.length : Int) - a1))))) = j_ := ⟨_, rfl⟩
   replace H : (if 0 ≤ (ji7) then (if (ji7) < (l0.length : Int) then (some (rdOf ByteArray.empty l0 (ji7))) else (none)) else (none)) = some r := by first | (rw [hji7] at H; exact H) | (simp only [hji7] at H ⊢; exact H)
   have hji7w : (IntKind.i64.wrap (a1 + (Int.tmod (wrap64 (a2 - a1)) (wrap64 ((l0.length : Int) - a1))))) = ji7 := (i64_w _).trans hji7
   by_cases c8 : 0 ≤ (ji7)
   ·rw [if_pos c8] at H
    have c8b0 : decide (0 ≤ (ji7)) = true := decide_eq_true c8
    clear c8
    by_cases c9 : (ji7) < (l0.length : Int)
    ·rw [if_pos c9] at H
     have c9b0 : decide ((ji7) < (l0.length : Int)) = true := decide_eq_true c9
     clear c9
     obtain rfl := Option.some.inj H
     have p138 : 0 ≤ ((ji7) : Int) := of_decide_eq_true (by first | (with_reducible assumption) | assumption)
     have q138 : (ji7) < (l0.length : Int) := of_decide_eq_true (by first | (with_reducible assumption) | assumption)
     obtain ⟨ad138, e138, hx138_0⟩ := Kd.at_string HR0.out (ji7) p138 q138
     cases e138
     replace p138 := eq_true p138
     replace q138 := eq_true q138
     go_enter Tryd.func115, Tryd.ntmps115
     go_wp2
     go_ret
     exact ⟨by first | rfl | (simp; done) | (simp only [← hji7] <;> (first | rfl | simp)) | (simp [*]; done), by repeat (first | exact Drawn0.refl _ | apply Drawn0.step)⟩
    ·rw [if_neg c9] at H
     exact absurd H (by simp)
   ·rw [if_neg c8] at H
    exact absurd H (by simp)

/-! ### spec_TicksAfter: function 26 -/
def spec_TicksAfter.j0 : Nat → ByteArray → Int → Bool → List ByteArray → Option (ByteArray × Bool)
 | 0, _, _, _, _ => none
 | k + 1, x1, x2, x18, x140000 => if x18 = true then (some ((⟨#[]⟩ : ByteArray), false)) else ((spec_laPath.f k x140000 x1).bind fun bt142 => ((spec_laAt.f bt142.1 bt142.2 x2).bind fun t146 => (some (t146, true))))
def spec_TicksAfter.f (k : Nat) (l0_0 : List ByteArray) (a1 : ByteArray) (a2 : Int) : Option (ByteArray × Bool) := (spec_laAsked.f l0_0 a1).bind fun t140 => (if t140 = true then ((spec_laTicks.f a2).bind fun t141 => (spec_TicksAfter.j0 k a1 a2 (!t141) l0_0)) else (spec_TicksAfter.j0 k a1 a2 true l0_0))
theorem spec_TicksAfter.mono_l : ∀ k, (∀ y0 y1 y2 y3, LeO (spec_TicksAfter.j0 k y0 y1 y2 y3) (spec_TicksAfter.j0 (k + 1) y0 y1 y2 y3))
 | 0 => fun _ _ _ _ r h => by simp [spec_TicksAfter.j0] at h
 | k + 1 => by
  have ih0 := spec_TicksAfter.mono_l k
  ·intro y0 y1 y2 y3
   unfold spec_TicksAfter.j0
   repeat' first
   | wE ih0 _ _ _ _
   | wE spec_laPath.mono _ _ _
   | wE LeO.refl _
   | wE LeO.none _
   | wR LeO.ite ?_ ?_
   | wR LeO.bind ?_ (fun _ => ?_)
   | exact ih0 _ _ _ _
   | exact spec_laPath.mono _ _ _
   | exact LeO.none _
   | refine LeO.ite ?_ ?_
   | refine LeO.bind ?_ (fun _ => ?_)
theorem spec_TicksAfter.mono : ∀ a0 a1 a2 k, LeO (spec_TicksAfter.f k a0 a1 a2) (spec_TicksAfter.f (k + 1) a0 a1 a2) := by
 intro a0 a1 a2 k
 have ih0 := spec_TicksAfter.mono_l k
 unfold spec_TicksAfter.f
 repeat' first
   | wE ih0 _ _ _ _
   | wE spec_laPath.mono _ _ _
   | wE LeO.refl _
   | wE LeO.none _
   | wR LeO.ite ?_ ?_
   | wR LeO.bind ?_ (fun _ => ?_)
   | exact ih0 _ _ _ _
   | exact spec_laPath.mono _ _ _
   | exact LeO.none _
   | refine LeO.ite ?_ ?_
   | refine LeO.bind ?_ (fun _ => ?_)
set_option maxHeartbeats 8000000 in
set_option maxRecDepth 100000 in
theorem spec_TicksAfter.calls (k : Nat) (A0_0 : Option Addr) (c0_0 : Nat) (l0_0 : List ByteArray) (a1 : ByteArray) (a2 : Int) (r1 : ByteArray) (r2 : Bool) (w : World) (hr0_0 : Kd.C Kd.string w A0_0 l0_0.length l0_0) (hc0_0 : l0_0.length ≤ c0_0) (h : spec_TicksAfter.f k l0_0 a1 a2 = some (r1, r2)) :
  Calls Tryd.prog 26 #[.agg #[.slice A0_0 l0_0.length c0_0], .string a1, .int .i64 a2] w fun e w' => e = .returned (.tuple #[.string r1, .bool r2]) ∧ Below w.heap.size w w' := by
 have hu29 := Tryd.underlying29
 have HR0_0 := aM hr0_0
 have HC0_0 := aM hc0_0
 clear hr0_0 hc0_0
 have HB := aM (Below.refl w.heap.size w)
 have H : ((spec_laAsked.f l0_0 a1).bind fun t140 => (if t140 = true then ((spec_laTicks.f a2).bind fun t141 => (spec_TicksAfter.j0 k a1 a2 (!t141) l0_0)) else (spec_TicksAfter.j0 k a1 a2 true l0_0))) = some (r1, r2) := h
 clear h
 have HC4 := aM H
 clear H
 go_enter Tryd.func26, Tryd.ntmps26
 go_upto_region 1 with (first | ((with_reducible refine gate_dst (N := 3) rfl ?_); refine box_event ?hg (N := 3) ?hd (cs := #[.slice A0_0 l0_0.length c0_0]) (t := 29) ?hr ?_; (case hd => rfl); (case hg => rfl); (case hr => first | (go_simp; done) | (go_simp; rfl)); intro gb139 hg w5 hbox hb; have n0_ := aM (below_step (by bB) hb); have n1_ := aM (hbox); have n2_ := aM ((by rw [hg]; exact (below_size (by bB)) : w.heap.size ≤ gb139)); have n3_ := aM ((by rw [hg]; exact (below_size (by bB)) : w.heap.size ≤ gb139)); clear HB; have HB := n0_; have BK139 := n1_; have GW139 := n2_; have GE139 := n3_; clear n0_ n1_ n2_ n3_; clear hb hbox hg))
 (try simp only [Act.put, List.setIfInBounds_toArray, List.set_cons_zero, List.set_cons_succ])
 go_cut [18] (fun v18 wc => ∃ (kq : Nat) (x18_3 : Bool), v18 = .bool x18_3 ∧ Aside0 (spec_TicksAfter.j0 kq a1 a2 x18_3 l0_0 = some (r1, r2)) ∧ Aside0 (kq ≤ k) ∧ Aside0 (wc.heap[gb139]? = some (.cells #[(.slice A0_0 l0_0.length c0_0)] 29 (0, 0))) ∧ Aside0 (Below w.heap.size w wc))
 case first =>
  have H := HC4.out
  clear HC4
  replace H := Option.bind_eq_some_iff.mp H
  obtain ⟨t140, A60, H⟩ := H
  replace H : (if t140 = true then ((spec_laTicks.f a2).bind fun t141 => (spec_TicksAfter.j0 k a1 a2 (!t141) l0_0)) else (spec_TicksAfter.j0 k a1 a2 true l0_0)) = some (r1, r2) := H
  have A6 := aM A60
  clear A60
  by_cases c7 : t140 = true
  ·subst c7
   rw [if_pos rfl] at H
   replace H := Option.bind_eq_some_iff.mp H
   obtain ⟨t141, A80, H⟩ := H
   replace H : (spec_TicksAfter.j0 k a1 a2 (!t141) l0_0) = some (r1, r2) := H
   have A8 := aM A80
   clear A80
   have H' := aM H
   clear H
   have hcz9_0 : w5.cell? ⟨gb139, 0, none⟩ = some (.slice A0_0 l0_0.length c0_0) := (blk_cell BK139.out 0).trans rfl
   have hfz9_0 := blk_frozen BK139.out 0
   go_wp2_with (first | ((with_reducible refine gate_callee (f := 112) rfl ?_); refine goesL_ (some 12) rfl rfl Tryd.func112 (by kernel_rfl) rfl #[.agg #[.slice A0_0 l0_0.length c0_0], .string a1] rfl (by mA) ?_; (with_reducible refine (spec_laAsked.calls _ _ l0_0 a1 true _ ?side1 ?side2 A6.out).mono ?_); (case side1 => cC ((Kd.C_below HR0_0.out HB.out))); (case side2 => exact HC0_0.out); rintro e w10 ⟨rfl, hb⟩; refine ⟨_, rfl, ?_⟩; have n0_ := aM (blk_below (g := gb139) (o := .cells #[.slice A0_0 l0_0.length c0_0] 29 (0, 0)) (by (with_reducible repeat (first | refine blk_drewN ?_ _ | refine blk_drew ?_ | refine blk_alloc ?_ _)); exact BK139.out) hb); have n1_ := aM (below_step (by repeat (first | (with_reducible first | exact HB.out | apply below_alloc | apply pw_below_drewN | apply below_drew1 | refine below_set ?_ GE139.out) | exact HB.out)) hb); clear BK139; clear HB; have BK139 := n0_; have HB := n1_; clear n0_ n1_; cX) | (go_at_call 113; (with_reducible refine (spec_laTicks.calls a2 t141 _ A8.out).mono ?_); rintro e w' ⟨rfl, ⟨nd, rfl⟩⟩))
   go_meet
   case rel => exact ⟨_, (!t141), (by rF), H', ⟨by first | omega | exact Nat.le_refl _⟩, ⟨by (with_reducible repeat (first | refine blk_drewN ?_ _ | refine blk_drew ?_ | refine blk_alloc ?_ _)); exact BK139.out⟩, ⟨by repeat (first | (with_reducible first | exact HB.out | apply below_alloc | apply pw_below_drewN | apply below_drew1 | refine below_set ?_ GE139.out) | exact HB.out)⟩⟩
  ·replace c7 := Bool.eq_false_iff.mpr c7
   subst c7
   rw [if_neg (show ¬ (false = true) by decide)] at H
   have H' := aM H
   clear H
   have hcz11_0 : w5.cell? ⟨gb139, 0, none⟩ = some (.slice A0_0 l0_0.length c0_0) := (blk_cell BK139.out 0).trans rfl
   have hfz11_0 := blk_frozen BK139.out 0
   go_wp2_with (first | ((with_reducible refine gate_callee (f := 112) rfl ?_); refine goesL_ (some 12) rfl rfl Tryd.func112 (by kernel_rfl) rfl #[.agg #[.slice A0_0 l0_0.length c0_0], .string a1] rfl (by mA) ?_; (with_reducible refine (spec_laAsked.calls _ _ l0_0 a1 false _ ?side1 ?side2 A6.out).mono ?_); (case side1 => cC ((Kd.C_below HR0_0.out HB.out))); (case side2 => exact HC0_0.out); rintro e w12 ⟨rfl, hb⟩; refine ⟨_, rfl, ?_⟩; have n0_ := aM (blk_below (g := gb139) (o := .cells #[.slice A0_0 l0_0.length c0_0] 29 (0, 0)) (by (with_reducible repeat (first | refine blk_drewN ?_ _ | refine blk_drew ?_ | refine blk_alloc ?_ _)); exact BK139.out) hb); have n1_ := aM (below_step (by repeat (first | (with_reducible first | exact HB.out | apply below_alloc | apply pw_below_drewN | apply below_drew1 | refine below_set ?_ GE139.out) | exact HB.out)) hb); clear BK139; clear HB; have BK139 := n0_; have HB := n1_; clear n0_ n1_; cX))
   go_meet
   case rel => exact ⟨_, (true), (by rF), H', ⟨by first | omega | exact Nat.le_refl _⟩, ⟨by (with_reducible repeat (first | refine blk_drewN ?_ _ | refine blk_drew ?_ | refine blk_alloc ?_ _)); exact BK139.out⟩, ⟨by repeat (first | (with_reducible first | exact HB.out | apply below_alloc | apply pw_below_drewN | apply below_drew1 | refine below_set ?_ GE139.out) | exact HB.out)⟩⟩
 case rest =>
  clear HC4
  try clear c1
  try clear c2
  try clear p2
  try clear c7
  try clear c11
  try clear hcz11_0
  try clear hcz9_0
  try clear hfz11_0
  try clear hfz9_0
  obtain ⟨kq, x18_3, rfl, HA, HJ3, BK139, HB⟩ := hcut
  cases kq with
  | zero => exact absurd HA.out (by simp [spec_TicksAfter.j0])
  | succ kj3 =>
   have H := HA.out
   clear HA
   simp only [spec_TicksAfter.j0] at H
   by_cases c13 : x18_3 = true
   ·subst c13
    rw [if_pos rfl] at H
    simp only [Option.some.injEq, Prod.mk.injEq] at H
    obtain ⟨rfl, rfl⟩ := H
    go_wp2
    go_ret2
    exact ⟨by eW, by repeat (first | (with_reducible first | exact HB.out | apply below_alloc | apply pw_below_drewN | apply below_drew1 | refine below_set ?_ GE139.out) | exact HB.out)⟩
   ·replace c13 := Bool.eq_false_iff.mpr c13
    subst c13
    rw [if_neg (show ¬ (false = true) by decide)] at H
    replace H := Option.bind_eq_some_iff.mp H
    obtain ⟨⟨t142, t145⟩, A140, H⟩ := H
    dsimp only at H
    have A14 := aM A140
    clear A140
    replace H := Option.bind_eq_some_iff.mp H
    obtain ⟨t146, A150, H⟩ := H
    replace H : (some (t146, true)) = some (r1, r2) := H
    have A15 := aM A150
    clear A150
    simp only [Option.some.injEq, Prod.mk.injEq] at H
    obtain ⟨rfl, rfl⟩ := H
    have hcz16_0 : wc.cell? ⟨gb139, 0, none⟩ = some (.slice A0_0 l0_0.length c0_0) := (blk_cell BK139.out 0).trans rfl
    have hfz16_0 := blk_frozen BK139.out 0
    go_wp2_with (first | ((with_reducible refine gate_callee (f := 114) rfl ?_); refine goesL_ (some 22) rfl rfl Tryd.func114 (by kernel_rfl) rfl #[.agg #[.slice A0_0 l0_0.length c0_0], .string a1] rfl (by mA) ?_; (with_reducible refine (spec_laPath.calls kj3 _ _ l0_0 a1 t142 t145 _ ?side1 ?side2 A14.out).mono ?_); (case side1 => cC ((Kd.C_below HR0_0.out HB.out))); (case side2 => exact HC0_0.out); rintro e w17 ⟨v143, rfl, ho0, hb⟩; refine ⟨_, rfl, ?_⟩; have n0_ := aM (Kd.R_lower ho0 (below_size (by repeat (first | (with_reducible first | exact HB.out | apply below_alloc | apply pw_below_drewN | apply below_drew1 | refine below_set ?_ GE139.out) | exact HB.out)))); have n1_ := aM (blk_below (g := gb139) (o := .cells #[.slice A0_0 l0_0.length c0_0] 29 (0, 0)) (by (with_reducible repeat (first | refine blk_drewN ?_ _ | refine blk_drew ?_ | refine blk_alloc ?_ _)); exact BK139.out) hb); have n2_ := aM (below_step (by repeat (first | (with_reducible first | exact HB.out | apply below_alloc | apply pw_below_drewN | apply below_drew1 | refine below_set ?_ GE139.out) | exact HB.out)) hb); clear BK139; clear HB; have HO144 := n0_; have BK139 := n1_; have HB := n2_; clear n0_ n1_ n2_; cX; (try clear ho0); obtain ⟨Ao18, co18, eo18⟩ := Kd.R_slice HO144.out; subst eo18) | ((with_reducible refine gate_callee (f := 115) rfl ?_); refine goesL_ (some 28) rfl rfl Tryd.func115 (by kernel_rfl) rfl #[.slice Ao18 t142.length co18, .int .i64 t145, .int .i64 a2] rfl (by mA) ?_; (with_reducible refine (spec_laAt.calls _ _ t142 t145 a2 t146 _ ?side1 ?side2 A15.out).mono ?_); (case side1 => cC ((Kd.R_reads' HO144.out).2.2)); (case side2 => exact (Kd.R_reads' HO144.out).2.1); rintro e w' ⟨rfl, ⟨nd, rfl⟩⟩; refine ⟨_, rfl, ?_⟩))
    go_ret2
    exact ⟨by eW, by repeat (first | (with_reducible first | exact HB.out | apply below_alloc | apply pw_below_drewN | apply below_drew1 | refine below_set ?_ GE139.out) | exact HB.out)⟩

end Go.Proofs.YtifdgebdkhdmhaaDoor.PLTick
