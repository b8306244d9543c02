-- PRINTED by drive.py (a program of this session's, over the kit's print.py; wip/tools/drive.py). Lean checks it.
import Derived.Test.YtafkcmohbgcknaaDoorPCycx0
namespace Go.Proofs.YtafkcmohbgcknaaDoor.PCyc
open Go.RowKit Go.Proofs.YtafkcmohbgcknaaDoorW.PrintWords Go.Proofs.YtafkcmohbgcknaaDoorW.PrintLast Go.Proofs.YtafkcmohbgcknaaDoorW.PrintMore
attribute [local go_sem] max2_int min2_int max_two min_two max_three min_three max_four min_four   -- for this text's walks alone
set_option linter.unusedVariables false
set_option linter.unusedSimpArgs false

/-! ### laws_szStringS: function 13 -/
def laws_szStringS.l0 : Nat → List ByteArray → Int → Int → Option (Int)
 | 0, _, _, _ => none
 | k + 1, x0, x1, x5 => if x5 < (x0.length : Int) then (if 0 ≤ x5 then (if (wrap64 (x1 - ((rdOf ByteArray.empty x0 x5).size : Int))) < 0 then (some (-1)) else (laws_szStringS.l0 k x0 (wrap64 (x1 - ((rdOf ByteArray.empty x0 x5).size : Int))) (wrap64 (x5 + 1)))) else (none)) else (some x1)
def laws_szStringS.f (k : Nat) (l0 : List ByteArray) (a1 : Int) : Option (Int) := if (wrap64 (a1 - (l0.length : Int))) < 0 then (some (-1)) else (laws_szStringS.l0 k l0 (wrap64 (a1 - (l0.length : Int))) 0)
theorem laws_szStringS.mono_l : ∀ k, (∀ y0 y1 y2, LeO (laws_szStringS.l0 k y0 y1 y2) (laws_szStringS.l0 (k + 1) y0 y1 y2))
 | 0 => fun _ _ _ r h => by simp [laws_szStringS.l0] at h
 | k + 1 => by
  have ih0 := laws_szStringS.mono_l k
  ·intro y0 y1 y2
   unfold laws_szStringS.l0
   repeat' first
   | (with_reducible exact ih0 _ _ _)
   | (with_reducible exact LeO.refl _)
   | (with_reducible exact LeO.none _)
   | (with_reducible refine LeO.ite ?_ ?_)
   | (with_reducible refine LeO.bind ?_ (fun _ => ?_))
   | exact ih0 _ _ _
   | exact LeO.none _
   | refine LeO.ite ?_ ?_
   | refine LeO.bind ?_ (fun _ => ?_)
theorem laws_szStringS.mono : ∀ a0 a1 k, LeO (laws_szStringS.f k a0 a1) (laws_szStringS.f (k + 1) a0 a1) := by
 intro a0 a1 k
 have ih0 := laws_szStringS.mono_l k
 unfold laws_szStringS.f
 repeat' first
   | (with_reducible exact ih0 _ _ _)
   | (with_reducible exact LeO.refl _)
   | (with_reducible exact LeO.none _)
   | (with_reducible refine LeO.ite ?_ ?_)
   | (with_reducible refine LeO.bind ?_ (fun _ => ?_))
   | exact ih0 _ _ _
   | exact LeO.none _
   | refine LeO.ite ?_ ?_
   | refine LeO.bind ?_ (fun _ => ?_)
set_option maxHeartbeats 8000000 in
set_option maxRecDepth 100000 in
theorem laws_szStringS.calls (k : Nat) (A0 : Option Addr) (c0 : Nat) (l0 : List ByteArray) (a1 : Int) (r : Int) (w : World) (hr0 : Kd.C Kd.string w A0 l0.length l0) (hc0 : l0.length ≤ c0) (h : laws_szStringS.f k l0 a1 = some r) :
  Calls Tryd.prog 13 #[.slice A0 l0.length c0, .int .i64 a1] w fun e w' => e = .returned (.int .i64 r) ∧ Drawn0 w w' := by
 have HR0 := Aside0.mk hr0
 have HC0 := Aside0.mk hc0
 clear hr0 hc0
 have H : (if (wrap64 (a1 - (l0.length : Int))) < 0 then (some (-1)) else (laws_szStringS.l0 k l0 (wrap64 (a1 - (l0.length : Int))) 0)) = some r := h
 clear h
 by_cases c3 : (wrap64 (a1 - (l0.length : Int))) < 0
 ·rw [if_pos c3] at H
  have c3b0 : decide ((wrap64 (a1 - (l0.length : Int))) < 0) = true := decide_eq_true c3
  clear c3
  obtain rfl := Option.some.inj H
  go_enter Tryd.func13, Tryd.ntmps13
  go_wp2
  go_ret
  exact ⟨by first | rfl | (simp; done) | (simp [*]; done), by repeat (first | exact Drawn0.refl _ | apply Drawn0.step)⟩
 ·rw [if_neg c3] at H
  have c3b0 : decide ((wrap64 (a1 - (l0.length : Int))) < 0) = false := decide_eq_false c3
  clear c3
  have H' := Aside0.mk H
  clear H
  go_enter Tryd.func13, Tryd.ntmps13
  go_wp2
  go_loopg [1, 5] k (fun kq v1 v5 w' => ∃ (x1_1 : Int) (x5_1 : Int), v1 = .int .i64 x1_1 ∧ v5 = .int .i64 x5_1 ∧ Aside0 (laws_szStringS.l0 kq l0 x1_1 x5_1 = some r) ∧ Aside0 (kq ≤ k) ∧ Drawn0 w w')
  case atStart => exact ⟨(wrap64 (a1 - (l0.length : Int))), (0), (by first | rfl | (simp; done) | (simp [*]; done)), (by first | rfl | (simp; done) | (simp [*]; done)), H', ⟨Nat.le_refl _⟩, by repeat (first | exact Drawn0.refl _ | apply Drawn0.step)⟩
  case round =>
   clear H'
   try clear c1
   try clear p2
   try clear c3
   try clear c3b0
   obtain ⟨x1_1, x5_1, rfl, rfl, HA, HK1, ⟨m1, rfl⟩⟩ := hrel
   cases gk with
   | zero => exact absurd HA.out (by simp [laws_szStringS.l0])
   | succ k1 =>
    have H := HA.out
    clear HA
    simp only [laws_szStringS.l0] at H
    by_cases c4 : x5_1 < (l0.length : Int)
    ·rw [if_pos c4] at H
     have c4b0 : decide (x5_1 < (l0.length : Int)) = true := decide_eq_true c4
     clear c4
     by_cases c5 : 0 ≤ x5_1
     ·rw [if_pos c5] at H
      have c5b0 : decide (0 ≤ x5_1) = true := decide_eq_true c5
      clear c5
      by_cases c6 : (wrap64 (x1_1 - ((rdOf ByteArray.empty l0 x5_1).size : Int))) < 0
      ·rw [if_pos c6] at H
       have c6b0 : decide ((wrap64 (x1_1 - ((rdOf ByteArray.empty l0 x5_1).size : Int))) < 0) = true := decide_eq_true c6
       clear c6
       obtain rfl := Option.some.inj H
       have p101 : 0 ≤ (x5_1 : Int) := of_decide_eq_true (by first | (with_reducible assumption) | assumption)
       have q101 : x5_1 < (l0.length : Int) := of_decide_eq_true (by first | (with_reducible assumption) | assumption)
       obtain ⟨ad101, e101, hx101_0⟩ := Kd.at_string HR0.out x5_1 p101 q101
       cases e101
       replace p101 := eq_true p101
       replace q101 := eq_true q101
       go_wp2
       go_ret
       exact ⟨by first | rfl | (simp; done) | (simp [*]; done), by repeat (first | exact Drawn0.refl _ | apply Drawn0.step)⟩
      ·rw [if_neg c6] at H
       have c6b0 : decide ((wrap64 (x1_1 - ((rdOf ByteArray.empty l0 x5_1).size : Int))) < 0) = false := decide_eq_false c6
       clear c6
       have H' := Aside0.mk H
       clear H
       have p101 : 0 ≤ (x5_1 : Int) := of_decide_eq_true (by first | (with_reducible assumption) | assumption)
       have q101 : x5_1 < (l0.length : Int) := of_decide_eq_true (by first | (with_reducible assumption) | assumption)
       obtain ⟨ad101, e101, hx101_0⟩ := Kd.at_string HR0.out x5_1 p101 q101
       cases e101
       replace p101 := eq_true p101
       replace q101 := eq_true q101
       go_wp2
       go_roundg k1
       case measure => have := HK1.out; omega
       case rel => exact ⟨(wrap64 (x1_1 - ((rdOf ByteArray.empty l0 x5_1).size : Int))), (wrap64 (x5_1 + 1)), (by first | rfl | (simp; done) | (simp [*]; done)), (by first | rfl | (simp; done) | (simp [*]; done)), H', ⟨by have := HK1.out; omega⟩, by repeat (first | exact Drawn0.refl _ | apply Drawn0.step)⟩
     ·rw [if_neg c5] at H
      exact absurd H (by simp)
    ·rw [if_neg c4] at H
     have c4b0 : decide (x5_1 < (l0.length : Int)) = false := decide_eq_false c4
     clear c4
     obtain rfl := Option.some.inj H
     go_wp2
     go_ret
     exact ⟨by first | rfl | (simp; done) | (simp [*]; done), by repeat (first | exact Drawn0.refl _ | apply Drawn0.step)⟩

/-! ### laws_szLamps: function 4 -/
def laws_szLamps.f (k : Nat) (l0_0 : List ByteArray) (a1 : Int) : Option (Int) := (laws_szStringS.f k l0_0 a1).bind fun t103 => (if t103 < 0 then (some (-1)) else (some t103))
theorem laws_szLamps.mono : ∀ a0 a1 k, LeO (laws_szLamps.f k a0 a1) (laws_szLamps.f (k + 1) a0 a1) := by
 intro a0 a1 k
 unfold laws_szLamps.f
 repeat' first
   | (with_reducible exact laws_szStringS.mono _ _ _)
   | (with_reducible exact LeO.refl _)
   | (with_reducible exact LeO.none _)
   | (with_reducible refine LeO.ite ?_ ?_)
   | (with_reducible refine LeO.bind ?_ (fun _ => ?_))
   | exact laws_szStringS.mono _ _ _
   | exact LeO.none _
   | refine LeO.ite ?_ ?_
   | refine LeO.bind ?_ (fun _ => ?_)
set_option maxHeartbeats 8000000 in
set_option maxRecDepth 100000 in
theorem laws_szLamps.calls (k : Nat) (A0_0 : Option Addr) (c0_0 : Nat) (l0_0 : List ByteArray) (a1 : Int) (r : Int) (w : World) (hr0_0 : Kd.C Kd.string w A0_0 l0_0.length l0_0) (hc0_0 : l0_0.length ≤ c0_0) (h : laws_szLamps.f k l0_0 a1 = some r) :
  Calls Tryd.prog 4 #[.agg #[.slice A0_0 l0_0.length c0_0], .int .i64 a1] w fun e w' => e = .returned (.int .i64 r) ∧ Below w.heap.size w w' := by
 have hu24 := Tryd.underlying24
 have HR0_0 := Aside0.mk hr0_0
 have HC0_0 := Aside0.mk hc0_0
 clear hr0_0 hc0_0
 have HB := Aside0.mk (Below.refl w.heap.size w)
 have H : ((laws_szStringS.f k l0_0 a1).bind fun t103 => (if t103 < 0 then (some (-1)) else (some t103))) = some r := h
 clear h
 replace H := Option.bind_eq_some_iff.mp H
 obtain ⟨t103, A30, H⟩ := H
 replace H : (if t103 < 0 then (some (-1)) else (some t103)) = some r := H
 have A3 := Aside0.mk A30
 clear A30
 by_cases c4 : t103 < 0
 ·rw [if_pos c4] at H
  have c4b0 : decide (t103 < 0) = true := decide_eq_true c4
  clear c4
  obtain rfl := Option.some.inj H
  go_enter Tryd.func4, Tryd.ntmps4
  go_wp2_with (first | ((with_reducible refine gate_dst (N := 2) rfl ?_); refine box_event ?hg (N := 2) ?hd (cs := #[.slice A0_0 l0_0.length c0_0]) (t := 24) ?hr ?_; (case hd => rfl); (case hg => rfl); (case hr => first | (go_simp; done) | (go_simp; rfl)); intro gb102 hg w5 hbox hb; have n0_ := Aside0.mk (below_step (by repeat (first | (with_reducible first | exact HB.out | apply below_alloc | apply pw_below_drewN | apply below_drew1) | exact HB.out)) hb); have n1_ := Aside0.mk (hbox); have n2_ := Aside0.mk ((by rw [hg]; exact (below_size (by repeat (first | (with_reducible first | exact HB.out | apply below_alloc | apply pw_below_drewN | apply below_drew1) | exact HB.out))) : w.heap.size ≤ gb102)); have n3_ := Aside0.mk ((by rw [hg]; exact (below_size (by repeat (first | (with_reducible first | exact HB.out | apply below_alloc | apply pw_below_drewN | apply below_drew1) | exact HB.out))) : w.heap.size ≤ gb102)); clear HB; have HB := n0_; have BK102 := n1_; have GW102 := n2_; have GE102 := n3_; clear n0_ n1_ n2_ n3_; clear hb hbox hg; have hcz6_0 : w5.cell? ⟨gb102, 0, none⟩ = some (.slice A0_0 l0_0.length c0_0) := (blk_cell BK102.out 0).trans rfl; have hfz6_0 := blk_frozen BK102.out 0) | ((with_reducible refine gate_callee (f := 13) rfl ?_); refine goesL_ (some 8) rfl rfl Tryd.func13 (by kernel_rfl) rfl #[.slice A0_0 l0_0.length c0_0, .int .i64 a1] rfl (by (try simp only [List.map_toArray, List.map_cons, List.map_nil]); first | done | rfl | (simp only [List.length_drop, List.length_take]; rfl)) ?_; (with_reducible refine (laws_szStringS.calls k _ _ l0_0 a1 t103 _ ?side1 ?side2 A3.out).mono ?_); (case side1 => repeat (first | exact (Kd.C_below HR0_0.out HB.out) | (with_reducible refine Kd.C_alloc ?_ _) | (with_reducible refine Kd.C_drewN ?_ _) | (with_reducible refine Kd.C_drew ?_))); (case side2 => exact HC0_0.out); rintro e w' ⟨rfl, ⟨nd, rfl⟩⟩; refine ⟨_, rfl, ?_⟩))
  go_ret
  exact ⟨by first | rfl | (simp [errW_none, errW_some] <;> rfl) | (simp [*, errW_none, errW_some] <;> rfl), by repeat (first | (with_reducible first | exact HB.out | apply below_alloc | apply pw_below_drewN | apply below_drew1 | refine below_set ?_ GE102.out) | exact HB.out)⟩
 ·rw [if_neg c4] at H
  have c4b0 : decide (t103 < 0) = false := decide_eq_false c4
  clear c4
  obtain rfl := Option.some.inj H
  go_enter Tryd.func4, Tryd.ntmps4
  go_wp2_with (first | ((with_reducible refine gate_dst (N := 2) rfl ?_); refine box_event ?hg (N := 2) ?hd (cs := #[.slice A0_0 l0_0.length c0_0]) (t := 24) ?hr ?_; (case hd => rfl); (case hg => rfl); (case hr => first | (go_simp; done) | (go_simp; rfl)); intro gb102 hg w7 hbox hb; have n0_ := Aside0.mk (below_step (by repeat (first | (with_reducible first | exact HB.out | apply below_alloc | apply pw_below_drewN | apply below_drew1) | exact HB.out)) hb); have n1_ := Aside0.mk (hbox); have n2_ := Aside0.mk ((by rw [hg]; exact (below_size (by repeat (first | (with_reducible first | exact HB.out | apply below_alloc | apply pw_below_drewN | apply below_drew1) | exact HB.out))) : w.heap.size ≤ gb102)); have n3_ := Aside0.mk ((by rw [hg]; exact (below_size (by repeat (first | (with_reducible first | exact HB.out | apply below_alloc | apply pw_below_drewN | apply below_drew1) | exact HB.out))) : w.heap.size ≤ gb102)); clear HB; have HB := n0_; have BK102 := n1_; have GW102 := n2_; have GE102 := n3_; clear n0_ n1_ n2_ n3_; clear hb hbox hg; have hcz8_0 : w7.cell? ⟨gb102, 0, none⟩ = some (.slice A0_0 l0_0.length c0_0) := (blk_cell BK102.out 0).trans rfl; have hfz8_0 := blk_frozen BK102.out 0) | ((with_reducible refine gate_callee (f := 13) rfl ?_); refine goesL_ (some 8) rfl rfl Tryd.func13 (by kernel_rfl) rfl #[.slice A0_0 l0_0.length c0_0, .int .i64 a1] rfl (by (try simp only [List.map_toArray, List.map_cons, List.map_nil]); first | done | rfl | (simp only [List.length_drop, List.length_take]; rfl)) ?_; (with_reducible refine (laws_szStringS.calls k _ _ l0_0 a1 t103 _ ?side1 ?side2 A3.out).mono ?_); (case side1 => repeat (first | exact (Kd.C_below HR0_0.out HB.out) | (with_reducible refine Kd.C_alloc ?_ _) | (with_reducible refine Kd.C_drewN ?_ _) | (with_reducible refine Kd.C_drew ?_))); (case side2 => exact HC0_0.out); rintro e w' ⟨rfl, ⟨nd, rfl⟩⟩; refine ⟨_, rfl, ?_⟩))
  go_ret
  exact ⟨by first | rfl | (simp [errW_none, errW_some] <;> rfl) | (simp [*, errW_none, errW_some] <;> rfl), by repeat (first | (with_reducible first | exact HB.out | apply below_alloc | apply pw_below_drewN | apply below_drew1 | refine below_set ?_ GE102.out) | exact HB.out)⟩

/-! ### spec_l1In: function 26 -/
def spec_l1In.f (a0 : Int) (a1 : Int) (a2 : Int) : Option (Bool) := if a0 ≥ a1 then (some (decide (a0 ≤ a2))) else (some false)
set_option maxHeartbeats 8000000 in
set_option maxRecDepth 100000 in
theorem spec_l1In.calls (a0 : Int) (a1 : Int) (a2 : Int) (r : Bool) (w : World) (h : spec_l1In.f a0 a1 a2 = some r) :
  Calls Tryd.prog 26 #[.int .i64 a0, .int .i64 a1, .int .i64 a2] w fun e w' => e = .returned (.bool r) ∧ Drawn0 w w' := by
 have H : (if a0 ≥ a1 then (some (decide (a0 ≤ a2))) else (some false)) = some r := h
 clear h
 by_cases c4 : a0 ≥ a1
 ·rw [if_pos c4] at H
  have c4b0 : decide (a1 ≤ a0) = true := decide_eq_true c4
  clear c4
  obtain rfl := Option.some.inj H
  go_enter Tryd.func26, Tryd.ntmps26
  go_wp2
  go_ret
  exact ⟨by first | rfl | (simp; done) | (simp [*]; done), by repeat (first | exact Drawn0.refl _ | apply Drawn0.step)⟩
 ·rw [if_neg c4] at H
  have c4b0 : decide (a1 ≤ a0) = false := decide_eq_false c4
  clear c4
  obtain rfl := Option.some.inj H
  go_enter Tryd.func26, Tryd.ntmps26
  go_wp2
  go_ret
  exact ⟨by first | rfl | (simp; done) | (simp [*]; done), by repeat (first | exact Drawn0.refl _ | apply Drawn0.step)⟩

/-! ### spec_laGood: function 14 -/
-- by hand (wip/ext/laGood.tpl)
def spec_laGood.f (l0_0 : List ByteArray) : Option Bool := some (areLampsB l0_0)
set_option maxHeartbeats 4000000 in
set_option maxRecDepth 100000 in
theorem spec_laGood.calls (A0_0 : Option Addr) (c0_0 : Nat) (l0_0 : List ByteArray) (r : Bool) (w : World) (hr0_0 : Kd.C Kd.string w A0_0 l0_0.length l0_0) (hc0_0 : l0_0.length ≤ c0_0) (h : spec_laGood.f l0_0 = some r) :
    Calls Tryd.prog 14 #[.agg #[.slice A0_0 l0_0.length c0_0]] w fun e w' => e = .returned (.bool r) ∧ Below w.heap.size w w' := by
  obtain rfl := Option.some.inj h
  clear h
  have hl := hr0_0.2.1
  have hu := Tryd.underlying29
  have hus := Tryd.underlying9
  have HI := Aside0.mk (fun w1 => spec_l1In.calls l0_0.length 1 10 _ w1 (inB_ite l0_0.length 1 10))
  obtain ⟨R, hR⟩ : ∃ R, R = areLampsB l0_0 := ⟨_, rfl⟩
  rw [← hR]
  have HX := Aside0.mk hR
  have HR := Aside0.mk hr0_0
  clear hr0_0 hR
  obtain ⟨b, hb⟩ : ∃ b, b = inB l0_0.length 1 10 := ⟨_, rfl⟩
  rw [← hb] at HI
  have HBB := Aside0.mk hb
  clear hb
  cases b with
  | false =>
    go_enter Tryd.func14, Tryd.ntmps14
    go_wp2_with (go_at_call 26; refine (HI.out _).mono ?_; rintro e w' ⟨rfl, ⟨n, rfl⟩⟩)
    go_ret
    exact ⟨ret_bool (by rw [HX.out, areLampsB, ← HBB.out]; rfl), pw_below_drewN (below_alloc (Below.refl _ _) _) _⟩
  | true =>
    go_enter Tryd.func14, Tryd.ntmps14
    go_wp2_with (go_at_call 26; refine (HI.out _).mono ?_; rintro e w' ⟨rfl, ⟨n, rfl⟩⟩)
    have HX2 := Aside0.mk (show R = l0_0.all (needB l0_0.length) by rw [HX.out, areLampsB, ← HBB.out]; rfl)
    clear HX HBB HI
    go_loopg [14] l0_0.length (fun gg v14 w' => ∃ k : Nat, k + gg = l0_0.length ∧ v14 = .int .i64 k ∧ Aside0 (∀ j (hj : j < l0_0.length), j < k → needB l0_0.length l0_0[j] = true) ∧ w'.cell? ⟨w.heap.size, 0, none⟩ = some (.slice A0_0 l0_0.length c0_0) ∧ Aside0 (Below w.heap.size w w'))
    case atStart => exact ⟨0, by omega, rfl, ⟨fun j _ h => absurd h (by omega)⟩, by go_simp, ⟨pw_below_drewN (below_alloc (Below.refl _ _) _) _⟩⟩
    case round =>
      obtain ⟨k, hk, rfl, HN, hcl, HB⟩ := hrel
      by_cases hlt : k < l0_0.length
      · obtain ⟨ad, rfl, hx0⟩ := Kd.at_string HR.out (k : Int) (by omega) (by omega)
        simp only [Int.toNat_natCast] at hx0
        replace hx0 := (HB.out.cell (World.block_lt_of_cell? w _ hx0)).trans hx0
        have ex : rdOf ByteArray.empty l0_0 (k : Int) = l0_0[k] := by simp [rdOf, hlt]
        rw [ex] at hx0
        clear ex
        obtain ⟨s, hs⟩ : ∃ s, s = l0_0[k] := ⟨_, rfl⟩
        rw [← hs] at hx0
        have HS := Aside0.mk hs
        clear hs
        have HZ := Aside0.mk (show s.size = s.data.toList.length from Lib.size_eq s)
        by_cases c1 : s.size = l0_0.length
        · have c1b : ((s.size : Int) != (l0_0.length : Int)) = false := bne_eq_false_iff_eq.mpr (by omega)
          have C1 := Aside0.mk c1
          clear c1
          go_wp2
          obtain ⟨K, hK⟩ : ∃ K, K = wr.heap.size := ⟨_, rfl⟩
          rw [← hK]
          have hlt0 : w.heap.size < K := by rw [hK]; exact World.block_lt_of_cell? wr _ hcl
          have hcl0 : (wr.iter s 0).cell? ⟨w.heap.size, 0, none⟩ = some (.slice (some ad) l0_0.length c0_0) := (World.cell?_alloc_past _ _ _ (by simpa [← hK] using hlt0)).trans hcl
          have hi0 : (wr.iter s 0).heap[K]? = some (.stringIter s 0) := by rw [hK]; exact World.iter_heap wr s 0
          have hb0 : Below w.heap.size w (wr.iter s 0) := HB.out.alloc (below_size HB.out) _
          have HHI := Aside0.mk hi0
          have HHB := Aside0.mk hb0
          have HLT := Aside0.mk hlt0
          clear hi0 hb0 hlt0 hK hcl HB hx0
          generalize wr.iter s 0 = W0 at hcl0 HHI HHB ⊢
          go_loopg [5] s.size (fun gg v5 w' => ∃ pos : Nat, pos + gg = s.size ∧ Aside0 (∀ j (hj : j < s.data.toList.length), j < pos → isSign s.data.toList[j] = true) ∧ Aside0 (w'.heap[K]? = some (.stringIter s pos)) ∧ w'.cell? ⟨w.heap.size, 0, none⟩ = some (.slice (some ad) l0_0.length c0_0) ∧ Aside0 (Below w.heap.size w w'))
          case atStart => exact ⟨0, by omega, ⟨fun j _ h => absurd h (by omega)⟩, HHI, hcl0, HHB⟩
          case round =>
            clear HHI HHB hcl0
            obtain ⟨pos, hps, HP, HI, hcl, HB⟩ := hrel
            by_cases hp : pos < s.size
            · have hpl : pos < s.data.toList.length := by rw [← HZ.out]; exact hp
              have hnext : ∀ ty, (Instr.next (.pointer (some ⟨K, 0, none⟩)) true ty).run Tryd.prog wr = _ := fun ty => Lib.run_next_any_at wr K s pos ty HI.out hp
              have hk1 := Lib.iterAt_heap wr K s pos (pos + (Utf8.decode s pos).2) HI.out
              have hb1 := Lib.below_iterAt HB.out (Nat.le_of_lt HLT.out) s (pos + (Utf8.decode s pos).2)
              have hcl1 : (wr.iterAt K s (pos + (Utf8.decode s pos).2)).cell? ⟨w.heap.size, 0, none⟩ = some (.slice (some ad) l0_0.length c0_0) := (cell_iterAt wr K s _ _ (by have := HLT.out; simp; omega)).trans hcl
              have hd := Aside0.mk (decode_sign s pos hp hpl)
              have eb := bt_nat s pos hpl
              obtain ⟨b, hb⟩ : ∃ b, b = s.data.toList[pos] := ⟨_, rfl⟩
              rw [← hb] at hd eb
              have HBY := Aside0.mk hb
              clear hb
              have HK1 := Aside0.mk hk1
              have HB1 := Aside0.mk hb1
              clear hk1 hb1 hcl HI HB
              generalize wr.iterAt K s (pos + (Utf8.decode s pos).2) = W1 at hnext HK1 HB1 hcl1
              generalize (Utf8.decode s pos).1 = rn at hnext
              generalize (Utf8.decode s pos).2 = dn at hd HK1
              have q8 := byte_toInt b 48 (by omega)
              have q9 := byte_toInt b 49 (by omega)
              have q63 := byte_toInt b 63 (by omega)
              rw [← eb] at q8 q9 q63
              have p6 : (0 ≤ (pos : Int)) = True := eq_true (by omega)
              have q6 : ((pos : Int) < (s.size : Int)) = True := eq_true (by omega)
              have hx6 : ((s[pos]'hp).toNat : Int) = bt s pos := by have := bt_at s (pos : Int) (by simpa using hp); simpa using this
              clear eb
              by_cases c8 : b = 48
              · have c8a : (bt s pos == 48) = true := beq_iff_eq.mpr (q8.mpr c8)
                have c8b : (bt s pos != 48) = false := bne_eq_false_iff_eq.mpr (q8.mpr c8)
                have hn := hd.out (by subst c8; rfl)
                subst hn
                have CC := Aside0.mk (show isSign b = true by subst c8; rfl)
                clear c8 q8 q9 q63 hd
                go_wp2
                go_roundg (s.size - (pos + 1))
                case measure => omega
                case rel => exact ⟨pos + 1, by omega, ⟨fun j hj h => (Nat.lt_succ_iff_lt_or_eq.1 h).elim (HP.out j hj) (fun e => by subst e; rw [← HBY.out]; exact CC.out)⟩, HK1, hcl1, HB1⟩
              · have c8a : (bt s pos == 48) = false := beq_eq_false_iff_ne.mpr (fun h => c8 (q8.mp h))
                have c8b : (bt s pos != 48) = true := bne_iff_ne.mpr (fun h => c8 (q8.mp h))
                by_cases c9 : b = 49
                · have c9a : (bt s pos == 49) = true := beq_iff_eq.mpr (q9.mpr c9)
                  have c9b : (bt s pos != 49) = false := bne_eq_false_iff_eq.mpr (q9.mpr c9)
                  have hn := hd.out (by subst c9; rfl)
                  subst hn
                  have CC := Aside0.mk (show isSign b = true by subst c9; rfl)
                  clear c9 c8 q8 q9 q63 hd
                  go_wp2
                  go_roundg (s.size - (pos + 1))
                  case measure => omega
                  case rel => exact ⟨pos + 1, by omega, ⟨fun j hj h => (Nat.lt_succ_iff_lt_or_eq.1 h).elim (HP.out j hj) (fun e => by subst e; rw [← HBY.out]; exact CC.out)⟩, HK1, hcl1, HB1⟩
                · have c9a : (bt s pos == 49) = false := beq_eq_false_iff_ne.mpr (fun h => c9 (q9.mp h))
                  have c9b : (bt s pos != 49) = true := bne_iff_ne.mpr (fun h => c9 (q9.mp h))
                  by_cases c63 : b = 63
                  · have c63a : (bt s pos == 63) = true := beq_iff_eq.mpr (q63.mpr c63)
                    have c63b : (bt s pos != 63) = false := bne_eq_false_iff_eq.mpr (q63.mpr c63)
                    have hn := hd.out (by subst c63; rfl)
                    subst hn
                    have CC := Aside0.mk (show isSign b = true by subst c63; rfl)
                    clear c63 c9 c8 q8 q9 q63 hd
                    go_wp2
                    go_roundg (s.size - (pos + 1))
                    case measure => omega
                    case rel => exact ⟨pos + 1, by omega, ⟨fun j hj h => (Nat.lt_succ_iff_lt_or_eq.1 h).elim (HP.out j hj) (fun e => by subst e; rw [← HBY.out]; exact CC.out)⟩, HK1, hcl1, HB1⟩
                  · have c63a : (bt s pos == 63) = false := beq_eq_false_iff_ne.mpr (fun h => c63 (q63.mp h))
                    have c63b : (bt s pos != 63) = true := bne_iff_ne.mpr (fun h => c63 (q63.mp h))
                    have CC := Aside0.mk (show isSign b = false by simp [isSign, c8, c9, c63])
                    clear c8 c9 c63 q8 q9 q63 hd
                    go_wp2
                    go_ret
                    exact ⟨ret_bool (by rw [HX2.out, all_not _ _ k hlt (by rw [← HS.out, needB, all_not isSign _ pos hpl (by rw [← HBY.out]; exact CC.out)]; simp)]), HB1.out⟩
            · have hnext : ∀ ty, (Instr.next (.pointer (some ⟨K, 0, none⟩)) true ty).run Tryd.prog wr = _ := fun ty => Lib.run_next_end_at wr K s pos ty HI.out hp
              go_wp2
              go_roundg (l0_0.length - (k + 1))
              case measure => omega
              case rel =>
                refine ⟨k + 1, by omega, by go_num, ⟨fun j hj h => (Nat.lt_succ_iff_lt_or_eq.1 h).elim (HN.out j hj) (fun e => ?_)⟩, hcl, HB⟩
                subst e
                rw [← HS.out, needB, C1.out, all_of isSign _ (fun i hi => HP.out i hi (by have := HZ.out; omega))]
                simp
        · have c1b : ((s.size : Int) != (l0_0.length : Int)) = true := bne_iff_ne.mpr (by omega)
          have C1 := Aside0.mk c1
          clear c1
          go_wp2
          go_ret
          exact ⟨ret_bool (by rw [HX2.out, all_not _ _ k hlt (by rw [← HS.out]; simp [needB, C1.out])]), HB.out⟩
      · go_wp2
        go_ret
        exact ⟨ret_bool (by rw [HX2.out, all_of _ _ (fun j hj => HN.out j hj (by omega))]), HB.out⟩

/-! ### spec_laNumber: function 27 -/
-- by hand (wip/ext/laNumber.tpl)
def spec_laNumber.f (a0 : ByteArray) : Option Int := if a0.size ≤ 60 ∧ a0.data.toList.all isBit = true then some (numL a0.data.toList : Int) else none
set_option maxHeartbeats 1000000 in
set_option maxRecDepth 100000 in
theorem spec_laNumber.calls (a0 : ByteArray) (r : Int) (w : World) (h : spec_laNumber.f a0 = some r) :
    Calls Tryd.prog 27 #[.string a0] w fun e w' => e = .returned (.int .i64 r) ∧ Below w.heap.size w w' := by
  unfold spec_laNumber.f at h
  split at h
  case isFalse => cases h
  case isTrue hc =>
  obtain rfl := Option.some.inj h
  clear h
  have HC := Aside0.mk hc
  clear hc
  have hus := Tryd.underlying9
  have HZ := Aside0.mk (show a0.size = a0.data.toList.length from Lib.size_eq a0)
  go_enter Tryd.func27, Tryd.ntmps27
  go_wp2
  have HHI := Aside0.mk (World.iter_heap w a0 0)
  have HHB := Aside0.mk (show Below w.heap.size w (w.iter a0 0) from below_alloc (Below.refl _ _) _)
  obtain ⟨K, hK⟩ : ∃ K, K = w.heap.size := ⟨_, rfl⟩
  rw [← hK] at HHI ⊢
  have HLT := Aside0.mk (show w.heap.size ≤ K by omega)
  generalize w.iter a0 0 = W0 at HHI HHB ⊢
  have HKE := Aside0.mk hK
  clear hK
  go_loopg [3] a0.size (fun gg v3 w' => ∃ pos : Nat, pos + gg = a0.size ∧ v3 = .int .i64 (numL (a0.data.toList.take pos) : Nat) ∧ Aside0 (w'.heap[K]? = some (.stringIter a0 pos)) ∧ Aside0 (Below w.heap.size w w'))
  case atStart => exact ⟨0, by omega, rfl, HHI, HHB⟩
  case round =>
    clear HHI HHB
    obtain ⟨pos, hps, rfl, HI, HB⟩ := hrel
    by_cases hp : pos < a0.size
    · have hpl : pos < a0.data.toList.length := by rw [← HZ.out]; exact hp
      have hnext : ∀ ty, (Instr.next (.pointer (some ⟨K, 0, none⟩)) true ty).run Tryd.prog wr = _ := fun ty => Lib.run_next_any_at wr K a0 pos ty HI.out hp
      have hk1 := Lib.iterAt_heap wr K a0 pos (pos + (Utf8.decode a0 pos).2) HI.out
      have hb1 := Lib.below_iterAt HB.out HLT.out a0 (pos + (Utf8.decode a0 pos).2)
      have hbit : isBit a0.data.toList[pos] = true := List.all_eq_true.1 HC.out.2 _ (List.getElem_mem hpl)
      rw [decode_bit a0 pos hp hpl hbit] at hk1 hb1 hnext
      have eb := bt_nat a0 pos hpl
      have htk : numL (a0.data.toList.take (pos + 1)) = 2 * numL (a0.data.toList.take pos) + (if a0.data.toList[pos] = 49 then 1 else 0) := by rw [List.take_succ_eq_append_getElem hpl, numL_snoc]
      have hlt := numL_lt pos (a0.data.toList.take pos) (by rw [List.length_take]; omega)
      have hpw : 2 ^ pos ≤ 2 ^ 60 := Nat.pow_le_pow_right (by omega) (by have := HC.out.1; omega)
      obtain ⟨b, hb⟩ : ∃ b, b = a0.data.toList[pos] := ⟨_, rfl⟩
      rw [← hb] at hbit eb htk
      obtain ⟨n, hn⟩ : ∃ n, n = numL (a0.data.toList.take pos) := ⟨_, rfl⟩
      rw [← hn] at htk hlt ⊢
      have hnb : n < 2 ^ 60 := Nat.lt_of_lt_of_le hlt hpw
      have HK1 := Aside0.mk hk1
      have HB1 := Aside0.mk hb1
      have HTK := Aside0.mk htk
      have HNB := Aside0.mk hnb
      clear hk1 hb1 HI HB hb hn htk hlt hpw hnb
      generalize wr.iterAt K a0 (pos + 1) = W1 at hnext HK1 HB1
      generalize (Utf8.decode a0 pos).1 = rn at hnext
      have p6 : (0 ≤ (pos : Int)) = True := eq_true (by omega)
      have q6 : ((pos : Int) < (a0.size : Int)) = True := eq_true (by omega)
      have hx6 : ((a0[pos]'hp).toNat : Int) = bt a0 pos := by have := bt_at a0 (pos : Int) (by simpa using hp); simpa using this
      have hbb : b = 48 ∨ b = 49 := by simpa [isBit] using hbit
      have hw1 : wrap64 (2 * (n : Int)) = 2 * (n : Int) := w64 (by have := HNB.out; omega) (by have := HNB.out; omega)
      clear hbit
      rcases hbb with rfl | rfl
      · have eb8 : bt a0 pos = 48 := eb
        clear eb
        go_wp2
        go_roundg (a0.size - (pos + 1))
        case measure => omega
        case rel => exact ⟨pos + 1, by omega, congrArg (Value.int .i64) (by rw [HTK.out]; simp only [hw1]; simp), HK1, HB1⟩
      · have eb8 : bt a0 pos = 49 := eb
        clear eb
        go_wp2
        go_roundg (a0.size - (pos + 1))
        case measure => omega
        case rel => exact ⟨pos + 1, by omega, congrArg (Value.int .i64) (by rw [HTK.out]; have := HNB.out; rw [w64 (by omega) (by omega)]; simp), HK1, HB1⟩
    · have hnext : ∀ ty, (Instr.next (.pointer (some ⟨K, 0, none⟩)) true ty).run Tryd.prog wr = _ := fun ty => Lib.run_next_end_at wr K a0 pos ty HI.out hp
      go_wp2
      go_ret
      exact ⟨ret_int (by rw [List.take_of_length_le (by have := HZ.out; omega)]), HB.out⟩

/-! ### impl_meets: function 34 -/
def impl_meets.l0 : Nat → ByteArray → ByteArray → Int → Int → Option (Bool)
 | 0, _, _, _, _ => none
 | k + 1, x0, x1, x7, x8 => if x8 < x7 then (if 0 ≤ x8 then (if x8 < (x0.size : Int) then (if (bt x0 x8) = 63 then (impl_meets.l0 k x0 x1 x7 (wrap64 (x8 + 1))) else (if x8 < (x1.size : Int) then (if (bt x0 x8) = (bt x1 x8) then (impl_meets.l0 k x0 x1 x7 (wrap64 (x8 + 1))) else (some false)) else (none))) else (none)) else (none)) else (some true)
def impl_meets.f (k : Nat) (a0 : ByteArray) (a1 : ByteArray) : Option (Bool) := impl_meets.l0 k a0 a1 (a0.size : Int) 0
theorem impl_meets.mono_l : ∀ k, (∀ y0 y1 y2 y3, LeO (impl_meets.l0 k y0 y1 y2 y3) (impl_meets.l0 (k + 1) y0 y1 y2 y3))
 | 0 => fun _ _ _ _ r h => by simp [impl_meets.l0] at h
 | k + 1 => by
  have ih0 := impl_meets.mono_l k
  ·intro y0 y1 y2 y3
   unfold impl_meets.l0
   repeat' first
   | (with_reducible exact ih0 _ _ _ _)
   | (with_reducible exact LeO.refl _)
   | (with_reducible exact LeO.none _)
   | (with_reducible refine LeO.ite ?_ ?_)
   | (with_reducible refine LeO.bind ?_ (fun _ => ?_))
   | exact ih0 _ _ _ _
   | exact LeO.none _
   | refine LeO.ite ?_ ?_
   | refine LeO.bind ?_ (fun _ => ?_)
theorem impl_meets.mono : ∀ a0 a1 k, LeO (impl_meets.f k a0 a1) (impl_meets.f (k + 1) a0 a1) := by
 intro a0 a1 k
 have ih0 := impl_meets.mono_l k
 unfold impl_meets.f
 repeat' first
   | (with_reducible exact ih0 _ _ _ _)
   | (with_reducible exact LeO.refl _)
   | (with_reducible exact LeO.none _)
   | (with_reducible refine LeO.ite ?_ ?_)
   | (with_reducible refine LeO.bind ?_ (fun _ => ?_))
   | exact ih0 _ _ _ _
   | exact LeO.none _
   | refine LeO.ite ?_ ?_
   | refine LeO.bind ?_ (fun _ => ?_)
set_option maxHeartbeats 8000000 in
set_option maxRecDepth 100000 in
theorem impl_meets.calls (k : Nat) (a0 : ByteArray) (a1 : ByteArray) (r : Bool) (w : World) (h : impl_meets.f k a0 a1 = some r) :
  Calls Tryd.prog 34 #[.string a0, .string a1] w fun e w' => e = .returned (.bool r) ∧ Drawn0 w w' := by
 have H : (impl_meets.l0 k a0 a1 (a0.size : Int) 0) = some r := h
 clear h
 have H' := Aside0.mk H
 clear H
 go_enter Tryd.func34, Tryd.ntmps34
 go_wp2
 repeat (go_quiet (fail); try go_wp2)
 go_loopg [8] k (fun kq v8 w' => ∃ (x8_1 : Int), v8 = .int .i64 x8_1 ∧ Aside0 (impl_meets.l0 kq a0 a1 (a0.size : Int) x8_1 = some r) ∧ Aside0 (kq ≤ k) ∧ Drawn0 w w')
 case atStart => exact ⟨(0), (by first | rfl | (simp; done) | (simp [*]; done)), H', ⟨Nat.le_refl _⟩, by repeat (first | exact Drawn0.refl _ | apply Drawn0.step)⟩
 case round =>
  clear H'
  try clear p2
  obtain ⟨x8_1, rfl, HA, HK1, ⟨m1, rfl⟩⟩ := hrel
  cases gk with
  | zero => exact absurd HA.out (by simp [impl_meets.l0])
  | succ k1 =>
   have H := HA.out
   clear HA
   simp only [impl_meets.l0] at H
   by_cases c3 : x8_1 < (a0.size : Int)
   ·rw [if_pos c3] at H
    have c3b0 : decide (x8_1 < (a0.size : Int)) = true := decide_eq_true c3
    clear c3
    by_cases c4 : 0 ≤ x8_1
    ·rw [if_pos c4] at H
     have c4b0 : decide (0 ≤ x8_1) = true := decide_eq_true c4
     clear c4
     by_cases c5 : x8_1 < (a0.size : Int)
     ·rw [if_pos c5] at H
      have c5b0 : decide (x8_1 < (a0.size : Int)) = true := decide_eq_true c5
      clear c5
      by_cases c7 : (bt a0 x8_1) = 63
      ·rw [if_pos c7] at H
       have c7b0 : ((bt a0 x8_1) == 63) = true := beq_iff_eq.mpr c7
       have c7b1 : ((bt a0 x8_1) != 63) = false := bne_eq_false_iff_eq.mpr c7
       clear c7
       have H' := Aside0.mk H
       clear H
       have p6 : 0 ≤ (x8_1 : Int) := of_decide_eq_true (by first | (with_reducible assumption) | assumption)
       have q6 : x8_1 < (a0.size : Int) := of_decide_eq_true (by first | (with_reducible assumption) | assumption)
       have hx6 := bt_at a0 x8_1
       replace p6 := eq_true p6
       replace q6 := eq_true q6
       go_wp2
       repeat (go_quiet (fail); try go_wp2)
       go_roundg k1
       case measure => have := HK1.out; omega
       case rel => exact ⟨(wrap64 (x8_1 + 1)), (by first | rfl | (simp; done) | (simp [*]; done)), H', ⟨by have := HK1.out; omega⟩, by repeat (first | exact Drawn0.refl _ | apply Drawn0.step)⟩
      ·rw [if_neg c7] at H
       have c7b0 : ((bt a0 x8_1) == 63) = false := beq_eq_false_iff_ne.mpr c7
       have c7b1 : ((bt a0 x8_1) != 63) = true := bne_iff_ne.mpr c7
       by_cases c9 : x8_1 < (a1.size : Int)
       ·rw [if_pos c9] at H
        have c9b0 : decide (x8_1 < (a1.size : Int)) = true := decide_eq_true c9
        clear c9
        by_cases c11 : (bt a0 x8_1) = (bt a1 x8_1)
        ·rw [if_pos c11] at H
         have c11b0 : ((bt a0 x8_1) == (bt a1 x8_1)) = true := beq_iff_eq.mpr c11
         have c11b1 : ((bt a0 x8_1) != (bt a1 x8_1)) = false := bne_eq_false_iff_eq.mpr c11
         clear c11
         have H' := Aside0.mk H
         clear H
         have p6 : 0 ≤ (x8_1 : Int) := of_decide_eq_true (by first | (with_reducible assumption) | assumption)
         have q6 : x8_1 < (a0.size : Int) := of_decide_eq_true (by first | (with_reducible assumption) | assumption)
         have hx6 := bt_at a0 x8_1
         replace p6 := eq_true p6
         replace q6 := eq_true q6
         have p8 : 0 ≤ (x8_1 : Int) := of_decide_eq_true (by first | (with_reducible assumption) | assumption)
         have q8 : x8_1 < (a0.size : Int) := of_decide_eq_true (by first | (with_reducible assumption) | assumption)
         have hx8 := bt_at a0 x8_1
         replace p8 := eq_true p8
         replace q8 := eq_true q8
         have p10 : 0 ≤ (x8_1 : Int) := of_decide_eq_true (by first | (with_reducible assumption) | assumption)
         have q10 : x8_1 < (a1.size : Int) := of_decide_eq_true (by first | (with_reducible assumption) | assumption)
         have hx10 := bt_at a1 x8_1
         replace p10 := eq_true p10
         replace q10 := eq_true q10
         go_wp2
         repeat (go_quiet (fail); try go_wp2)
         go_roundg k1
         case measure => have := HK1.out; omega
         case rel => exact ⟨(wrap64 (x8_1 + 1)), (by first | rfl | (simp; done) | (simp [*]; done)), H', ⟨by have := HK1.out; omega⟩, by repeat (first | exact Drawn0.refl _ | apply Drawn0.step)⟩
        ·rw [if_neg c11] at H
         have c11b0 : ((bt a0 x8_1) == (bt a1 x8_1)) = false := beq_eq_false_iff_ne.mpr c11
         have c11b1 : ((bt a0 x8_1) != (bt a1 x8_1)) = true := bne_iff_ne.mpr c11
         obtain rfl := Option.some.inj H
         have p6 : 0 ≤ (x8_1 : Int) := of_decide_eq_true (by first | (with_reducible assumption) | assumption)
         have q6 : x8_1 < (a0.size : Int) := of_decide_eq_true (by first | (with_reducible assumption) | assumption)
         have hx6 := bt_at a0 x8_1
         replace p6 := eq_true p6
         replace q6 := eq_true q6
         have p8 : 0 ≤ (x8_1 : Int) := of_decide_eq_true (by first | (with_reducible assumption) | assumption)
         have q8 : x8_1 < (a0.size : Int) := of_decide_eq_true (by first | (with_reducible assumption) | assumption)
         have hx8 := bt_at a0 x8_1
         replace p8 := eq_true p8
         replace q8 := eq_true q8
         have p10 : 0 ≤ (x8_1 : Int) := of_decide_eq_true (by first | (with_reducible assumption) | assumption)
         have q10 : x8_1 < (a1.size : Int) := of_decide_eq_true (by first | (with_reducible assumption) | assumption)
         have hx10 := bt_at a1 x8_1
         replace p10 := eq_true p10
         replace q10 := eq_true q10
         go_wp2
         repeat (go_quiet (fail); try go_wp2)
         go_ret
         exact ⟨by first | rfl | (simp; done) | (simp [*]; done), by repeat (first | exact Drawn0.refl _ | apply Drawn0.step)⟩
       ·rw [if_neg c9] at H
        exact absurd H (by simp)
     ·rw [if_neg c5] at H
      exact absurd H (by simp)
    ·rw [if_neg c4] at H
     exact absurd H (by simp)
   ·rw [if_neg c3] at H
    have c3b0 : decide (x8_1 < (a0.size : Int)) = false := decide_eq_false c3
    clear c3
    obtain rfl := Option.some.inj H
    go_wp2
    repeat (go_quiet (fail); try go_wp2)
    go_ret
    exact ⟨by first | rfl | (simp; done) | (simp [*]; done), by repeat (first | exact Drawn0.refl _ | apply Drawn0.step)⟩

/-! ### spec_laChanges: function 36 -/
-- by hand (wip/ext/laChanges.tpl)
def spec_laChanges.f (l0_0 : List ByteArray) (a1 : ByteArray) (a2 : Int) : Option Bool := if 0 ≤ a2 ∧ a2 < l0_0.length ∧ (rdOf ByteArray.empty l0_0 a2).size ≤ a1.size ∧ a1.size ≤ 1000 then some (meetsL (rdOf ByteArray.empty l0_0 a2).data.toList a1.data.toList) else none
set_option maxHeartbeats 1000000 in
set_option maxRecDepth 100000 in
theorem spec_laChanges.calls (A0_0 : Option Addr) (c0_0 : Nat) (l0_0 : List ByteArray) (a1 : ByteArray) (a2 : Int) (r : Bool) (w : World) (hr0_0 : Kd.C Kd.string w A0_0 l0_0.length l0_0) (hc0_0 : l0_0.length ≤ c0_0) (h : spec_laChanges.f l0_0 a1 a2 = some r) :
    Calls Tryd.prog 36 #[.agg #[.slice A0_0 l0_0.length c0_0], .string a1, .int .i64 a2] w fun e w' => e = .returned (.bool r) ∧ Below w.heap.size w w' := by
  unfold spec_laChanges.f at h
  split at h
  case isFalse => cases h
  case isTrue hc =>
  obtain ⟨h0, h1, hsz, hmx⟩ := hc
  have hR := Option.some.inj h
  clear h
  have hu := Tryd.underlying29
  have hus := Tryd.underlying9
  have hl := hr0_0.2.1
  have hcv : ∀ (wx : World) (s : ByteArray), (convert 9 55 (.string s)).run Tryd.prog wx = .ok (.slice (some ⟨wx.heap.size, 0, none⟩) s.size (grownCap wx s.size 0 5)) (Lib.bytesWorld wx 5 s) := fun wx s => Lib.run_convert_string_bytes wx 9 55 5 s Tryd.underlying9 Tryd.underlying55 Tryd.underlying5
  obtain ⟨ad, rfl, hx0⟩ := Kd.at_string hr0_0 a2 h0 h1
  obtain ⟨nd, hnd⟩ : ∃ nd, nd = rdOf ByteArray.empty l0_0 a2 := ⟨_, rfl⟩
  rw [← hnd] at hx0 hR hsz
  have hlt := World.block_lt_of_cell? w _ hx0
  obtain ⟨i, rfl⟩ : ∃ i : Nat, a2 = i := ⟨a2.toNat, by omega⟩
  simp only [Int.toNat_natCast] at hx0 hlt
  have hx1 : (w.alloc (.cells #[.slice (some ad) l0_0.length c0_0] 29)).cell? (ad.add i) = some (.string nd) := ((below_alloc (Below.refl w.heap.size w) _).cell hlt).trans hx0
  have HR := Aside0.mk hR
  have HZn := Aside0.mk (show nd.size = nd.data.toList.length from Lib.size_eq nd)
  have HZs := Aside0.mk (show a1.size = a1.data.toList.length from Lib.size_eq a1)
  have HSZ := Aside0.mk hsz
  have HMX := Aside0.mk hmx
  clear hr0_0 hnd hR hx0 hsz hmx
  go_enter Tryd.func36, Tryd.ntmps36
  go_wp2
  have hcell0 : ∀ j, j < nd.size → (Lib.bytesWorld (w.alloc (.cells #[.slice (some ad) l0_0.length c0_0] 29)) 5 nd).cell? ⟨w.heap.size + 1, j, none⟩ = some (.int .u8 (nd.data.toList.getD j 0).toNat) := by
    intro j hj
    have := Lib.bytesWorld_cell (w.alloc (.cells #[.slice (some ad) l0_0.length c0_0] 29)) 5 nd j hj
    simpa using this
  have HCE := Aside0.mk hcell0
  have HHB := Aside0.mk (below_bytes (below_alloc (Below.refl w.heap.size w) (.cells #[.slice (some ad) l0_0.length c0_0] 29)) (by simp) 5 nd)
  clear hcell0 hx1 hcv
  obtain ⟨K, hK⟩ : ∃ K, K = w.heap.size + 1 := ⟨_, rfl⟩
  rw [← hK] at HCE ⊢
  clear hK
  generalize Lib.bytesWorld (w.alloc (.cells #[.slice (some ad) l0_0.length c0_0] 29)) 5 nd = W0 at HCE HHB ⊢
  generalize grownCap (w.alloc (.cells #[.slice (some ad) l0_0.length c0_0] 29)) nd.size 0 5 = cp
  have hnd1 : nd.size ≤ 1000 := by have := HSZ.out; have := HMX.out; omega
  go_loopg [16] nd.size (fun gg v16 w' => ∃ k : Nat, k + gg = nd.size ∧ v16 = .int .i64 k ∧ Aside0 (∀ j (hj : j < nd.data.toList.length) (hs : j < a1.data.toList.length), j < k → nd.data.toList[j] = 63 ∨ nd.data.toList[j] = a1.data.toList[j]) ∧ Aside0 (∀ j, j < nd.size → w'.cell? ⟨K, j, none⟩ = some (.int .u8 (nd.data.toList.getD j 0).toNat)) ∧ Aside0 (Below w.heap.size w w'))
  case atStart => exact ⟨0, by omega, rfl, ⟨fun j _ _ h => absurd h (by omega)⟩, HCE, HHB⟩
  case round =>
    clear HCE HHB
    obtain ⟨k, hks, rfl, HP, HCE, HB⟩ := hrel
    by_cases hp : k < nd.size
    · have hpl : k < nd.data.toList.length := by rw [← HZn.out]; exact hp
      have hps : k < a1.size := by have := HSZ.out; omega
      have hpsl : k < a1.data.toList.length := by rw [← HZs.out]; exact hps
      have hce := HCE.out k hp
      have eg : nd.data.toList.getD k 0 = nd.data.toList[k] := by simp [List.getD, List.getElem?_eq_getElem hpl]
      rw [eg] at hce
      have eb := bt_nat a1 k hpsl
      obtain ⟨b, hb⟩ : ∃ b, b = nd.data.toList[k] := ⟨_, rfl⟩
      obtain ⟨d, hd⟩ : ∃ d, d = a1.data.toList[k] := ⟨_, rfl⟩
      rw [← hb] at hce
      rw [← hd] at eb
      have q63 := byte_toInt b 63 (by omega)
      have qd : ((b.toNat : Int) = (d.toNat : Int)) = (b = d) := propext ⟨fun h => UInt8.toNat_inj.mp (by omega), fun h => by rw [h]⟩
      rw [← eb] at qd
      obtain ⟨x, hx⟩ : ∃ x : Int, x = (b.toNat : Int) := ⟨_, rfl⟩
      rw [← hx] at hce q63 qd
      have HX := Aside0.mk hx
      have HBY := Aside0.mk hb
      have HDY := Aside0.mk hd
      clear hx hb hd eg eb
      have p6 : (0 ≤ (k : Int)) = True := eq_true (by omega)
      have q6 : ((k : Int) < (a1.size : Int)) = True := eq_true (by omega)
      have hx6 : ((a1[k]'hps).toNat : Int) = bt a1 k := by have := bt_at a1 (k : Int) (by simpa using hps); simpa using this
      by_cases c63 : b = 63
      · have c63a : (x == 63) = true := beq_iff_eq.mpr (q63.mpr c63)
        have c63b : (x != 63) = false := bne_eq_false_iff_eq.mpr (q63.mpr c63)
        have CC := Aside0.mk c63
        clear c63 q63 qd
        go_wp2
        go_roundg (nd.size - (k + 1))
        case measure => omega
        case rel => exact ⟨k + 1, by omega, by go_num, ⟨fun j hj hs h => (Nat.lt_succ_iff_lt_or_eq.1 h).elim (HP.out j hj hs) (fun e => by subst e; rw [← HBY.out]; exact .inl CC.out)⟩, HCE, HB⟩
      · have c63a : (x == 63) = false := beq_eq_false_iff_ne.mpr (fun h => c63 (q63.mp h))
        have c63b : (x != 63) = true := bne_iff_ne.mpr (fun h => c63 (q63.mp h))
        by_cases cd : b = d
        · have cda : (x == bt a1 k) = true := beq_iff_eq.mpr (qd.mpr cd)
          have cdb : (x != bt a1 k) = false := bne_eq_false_iff_eq.mpr (qd.mpr cd)
          have CC := Aside0.mk cd
          clear cd c63 q63 qd
          go_wp2
          go_roundg (nd.size - (k + 1))
          case measure => omega
          case rel => exact ⟨k + 1, by omega, by go_num, ⟨fun j hj hs h => (Nat.lt_succ_iff_lt_or_eq.1 h).elim (HP.out j hj hs) (fun e => by subst e; rw [← HBY.out, ← HDY.out]; exact .inr CC.out)⟩, HCE, HB⟩
        · have cda : (x == bt a1 k) = false := beq_eq_false_iff_ne.mpr (fun h => cd (qd.mp h))
          have cdb : (x != bt a1 k) = true := bne_iff_ne.mpr (fun h => cd (qd.mp h))
          have C1 := Aside0.mk c63
          have C2 := Aside0.mk cd
          clear cd c63 q63 qd
          go_wp2
          go_ret
          exact ⟨ret_bool (by rw [← HR.out, meetsL_not _ _ k hpl hpsl (by rw [← HBY.out]; exact C1.out) (by rw [← HBY.out, ← HDY.out]; exact C2.out)]), HB.out⟩
    · go_wp2
      go_ret
      exact ⟨ret_bool (by rw [← HR.out, meetsL_of _ _ (by have := HSZ.out; have := HZn.out; have := HZs.out; omega) (fun j hj => HP.out j hj (by have := HSZ.out; have := HZn.out; have := HZs.out; omega) (by have := HZn.out; omega))]), HB.out⟩

end Go.Proofs.YtafkcmohbgcknaaDoor.PCyc
