-- squeezed (sq3.py); PRINTED by drive.py (a program of this session's, over the kit's print.py; wip/tools/drive.py). Lean checks it.
import Derived.Test.YtcogjabdddikjaaDoorQPSCntx0
import Derived.Test.YtcogjabdddikjaaDoorQPSCntx1
import Derived.Test.YtcogjabdddikjaaDoorQPSCntx2
import Derived.Test.YtcogjabdddikjaaDoorQPSCntx3
import Derived.Test.YtcogjabdddikjaaDoorQSq
namespace Go.Proofs.YtcogjabdddikjaaDoor.PSCnt
open Go.RowKit Go.Proofs.YtcogjabdddikjaaDoorW.PrintWords Go.Proofs.YtcogjabdddikjaaDoorW.PrintLast Go.Proofs.YtcogjabdddikjaaDoorW.PrintMore
attribute [local go_sem] max2_int min2_int max_two min_two max_three min_three max_four min_four   -- for this text's walks alone
set_option linter.unusedVariables false
set_option linter.unusedSimpArgs false

/-! ### laws_yTexts: function 18 -/
def laws_yTexts.l0 : Nat → List ByteArray → List ByteArray → Int → Int → Option (Bool)
 | 0, _, _, _, _ => none
 | k + 1, x0, x1, x12, x13 => if x13 < x12 then (if 0 ≤ x13 then (if x13 < (x0.length : Int) then (if x13 < (x1.length : Int) then (if (rdOf ByteArray.empty x0 x13).toList = (rdOf ByteArray.empty x1 x13).toList then (laws_yTexts.l0 k x0 x1 x12 (wrap64 (x13 + 1))) else (some false)) else (none)) else (none)) else (none)) else (some true)
def laws_yTexts.f (k : Nat) (l0 : List ByteArray) (l1 : List ByteArray) : Option (Bool) := if (l0.length : Int) = (l1.length : Int) then (laws_yTexts.l0 k l0 l1 (l0.length : Int) 0) else (some false)
theorem laws_yTexts.mono_l : ∀ k, Mo (laws_yTexts.l0 k) (laws_yTexts.l0 (k + 1))
 | 0 => m0
 | k + 1 => by
  have ih0 := laws_yTexts.mono_l k
  (repeat refine mE fun _ => ?_) <;> first | (unfold laws_yTexts.l0; exact mG)
instance laws_yTexts.mI (k : Nat) : Mo (laws_yTexts.f k) (laws_yTexts.f (k + 1)) := by
 have ih0 := laws_yTexts.mono_l k
 (repeat refine mE fun _ => ?_); unfold laws_yTexts.f; exact mG
theorem laws_yTexts.mono : ∀ a0 a1 k, LeO (laws_yTexts.f k a0 a1) (laws_yTexts.f (k + 1) a0 a1) := fun a0 a1 k => (laws_yTexts.mI k).out a0 a1
set_option maxHeartbeats 8000000 in
set_option maxRecDepth 100000 in
theorem laws_yTexts.calls (k : Nat) (A0 : Option Addr) (c0 : Nat) (l0 : List ByteArray) (A1 : Option Addr) (c1 : Nat) (l1 : List ByteArray) (r : Bool) (w : World) (hr0 : Kd.C Kd.string w A0 l0.length l0) (hc0 : l0.length ≤ c0) (hr1 : Kd.C Kd.string w A1 l1.length l1) (hc1 : l1.length ≤ c1) (h : laws_yTexts.f k l0 l1 = some r) :
  Calls Tryd.prog 18 #[.slice A0 l0.length c0, .slice A1 l1.length c1] w fun e w' => e = .returned (.bool r) ∧ Drawn0 w w' := by
 have HR0 := aM hr0
 have HC0 := aM hc0
 clear hr0 hc0
 have HR1 := aM hr1
 have HC1 := aM hc1
 clear hr1 hc1
 have H := h
 clear h; unfold laws_yTexts.f at H
 refine iI H ?_ ?_ <;> clear H <;> intro c3 H
 ·have c3b0 := qT c3
  have c3b1 := nF c3
  have c3b2 : (l0.length == l1.length) = true := by first | simpa using c3 | (simp at c3 ⊢; omega)
  clear c3
  have H' := aM H
  clear H
  go_enter Tryd.func18, Tryd.ntmps18
  go_wp2
  repeat (go_quiet (fail); try go_wp2)
  go_loopg [13] k (fun kq v13 w' => ∃ (x13_1 : Int), v13 = .int .i64 x13_1 ∧ Aside0 (laws_yTexts.l0 kq l0 l1 (l0.length : Int) x13_1 = some r) ∧ Aside0 (kq ≤ k) ∧ Drawn0 w w')
  case atStart => exact ⟨(0), rF, H', kR, d0⟩
  case round =>
   clear H'
   try clear c1;try clear c3b0;try clear c3b1;try clear c3b2
   obtain ⟨x13_1, rfl, HA, HK1, ⟨m1, rfl⟩⟩ := hrel
   obtain rfl | ⟨k1, rfl⟩ := fz gk
   ·exact zA HA
   have H := HA.out
   clear HA
   simp only [laws_yTexts.l0] at H
   refine iI H ?_ ?_ <;> clear H <;> intro c4 H
   ·have c4b0 := dT c4
    clear c4
    refine iY H ?_; clear H; intro c5 H
    have c5b0 := dT c5
    clear c5
    refine iY H ?_; clear H; intro c6 H
    have c6b0 := dT c6
    clear c6
    refine iY H ?_; clear H; intro c7 H
    have c7b0 := dT c7
    clear c7
    refine iI H ?_ ?_ <;> clear H <;> intro c8 H
    ·have c8b0 := qT c8
     have c8b1 := nF c8
     clear c8
     have H' := aM H
     clear H
     have p202 : 0 ≤ (x13_1 : Int) := oD
     have q202 : x13_1 < (l0.length : Int) := oD
     obtain ⟨ad202, e202, hx202_0⟩ := Kd.at_string HR0.out x13_1 p202 q202
     cases e202
     replace p202 := eq_true p202
     replace q202 := eq_true q202
     have p203 : 0 ≤ (x13_1 : Int) := oD
     have q203 : x13_1 < (l1.length : Int) := oD
     obtain ⟨ad203, e203, hx203_0⟩ := Kd.at_string HR1.out x13_1 p203 q203
     cases e203
     replace p203 := eq_true p203
     replace q203 := eq_true q203
     go_wp2
     repeat (go_quiet (fail); try go_wp2)
     go_roundg k1
     case measure => have := HK1.out; omega
     case rel => exact ⟨(wrap64 (x13_1 + 1)), rF, H', ⟨by have := HK1.out; omega⟩, d0⟩
    have c8b0 := qF c8
    have c8b1 := nT c8
    obtain rfl := Option.some.inj H
    have p202 : 0 ≤ (x13_1 : Int) := oD
    have q202 : x13_1 < (l0.length : Int) := oD
    obtain ⟨ad202, e202, hx202_0⟩ := Kd.at_string HR0.out x13_1 p202 q202
    cases e202
    replace p202 := eq_true p202
    replace q202 := eq_true q202
    have p203 : 0 ≤ (x13_1 : Int) := oD
    have q203 : x13_1 < (l1.length : Int) := oD
    obtain ⟨ad203, e203, hx203_0⟩ := Kd.at_string HR1.out x13_1 p203 q203
    cases e203
    replace p203 := eq_true p203
    replace q203 := eq_true q203
    go_wp2
    repeat (go_quiet (fail); try go_wp2)
    go_ret
    exact ⟨rF, d0⟩
   have c4b0 := dF c4
   clear c4
   obtain rfl := Option.some.inj H
   go_wp2
   repeat (go_quiet (fail); try go_wp2)
   go_ret
   exact ⟨rF, d0⟩
 have c3b0 := qF c3
 have c3b1 := nT c3
 have c3b2 : (l0.length == l1.length) = false := by first | simpa using c3 | (simp at c3 ⊢; omega)
 obtain rfl := Option.some.inj H
 go_enter Tryd.func18, Tryd.ntmps18
 go_wp2
 repeat (go_quiet (fail); try go_wp2)
 go_ret
 exact ⟨rF, d0⟩

/-! ### impl_NumberOfState: function 19 -/
def impl_NumberOfState.f (k : Nat) (a0 : ByteArray) : Option (Int × Bool) := (impl_IsState.f a0).bind fun t204 => (if t204 = true then ((impl_number.f k a0).bind fun t205 => (some (t205, true))) else (some (0, false)))
instance impl_NumberOfState.mI (k : Nat) : Mo (impl_NumberOfState.f k) (impl_NumberOfState.f (k + 1)) := by
 (repeat refine mE fun _ => ?_); unfold impl_NumberOfState.f; exact mG
theorem impl_NumberOfState.mono : ∀ a0 k, LeO (impl_NumberOfState.f k a0) (impl_NumberOfState.f (k + 1) a0) := fun a0 k => (impl_NumberOfState.mI k).out a0
set_option maxHeartbeats 8000000 in
set_option maxRecDepth 100000 in
theorem impl_NumberOfState.calls (k : Nat) (a0 : ByteArray) (r1 : Int) (r2 : Bool) (w : World) (h : impl_NumberOfState.f k a0 = some (r1, r2)) :
  Calls Tryd.prog 19 #[.string a0] w fun e w' => e = .returned (.tuple #[.int .i64 r1, .bool r2]) ∧ Below w.heap.size w w' := by
 have HB := aM (Below.refl w.heap.size w)
 have H := h
 clear h; unfold impl_NumberOfState.f at H
 replace H := bC H; obtain ⟨t204, A2, H⟩ := H
 refine iB H ?_ ?_ <;> clear H <;> rintro rfl H
 ·replace H := bC H; obtain ⟨t205, A4, H⟩ := H
  simp only [Option.some.injEq, Prod.mk.injEq] at H
  obtain ⟨rfl, rfl⟩ := H
  go_enter Tryd.func19, Tryd.ntmps19
  go_wp2_with (first | ((with_reducible refine gG 76 (some 5) rfl rfl ?_); refine gC Tryd.func76 (impl_IsState.calls a0 true _ A2.out) ?_; rintro w5 hb; replace HB := hS HB hb; clear hb) | ((with_reducible refine gG 75 (some 8) rfl rfl ?_); refine gL Tryd.func75 #[.string a0] ?_; (with_reducible refine (impl_number.calls k a0 t205 _ A4.out).mono ?_); rintro e w' ⟨rfl, ⟨nd, rfl⟩⟩; refine ⟨_, rfl, ?_⟩))
  go_ret2
  exact ⟨eW, bel HB⟩
 simp only [Option.some.injEq, Prod.mk.injEq] at H
 obtain ⟨rfl, rfl⟩ := H
 go_enter Tryd.func19, Tryd.ntmps19
 go_wp2_with (first | ((with_reducible refine gG 76 (some 5) rfl rfl ?_); refine gC Tryd.func76 (impl_IsState.calls a0 false _ A2.out) ?_; rintro w6 hb; replace HB := hS HB hb; clear hb))
 go_ret2
 exact ⟨eW, bel HB⟩

/-! ### spec_DrawMeanNumber: function 21 -/
def spec_DrawMeanNumber.f (l0 : List Int) : Option (Int) := (spec_l1Cur_among.f l0 0 0 (([1, 2, 3, 5, 8, 12, 13, 0, (-1)] : List Int))).bind fun bt210 => (some bt210.1)
set_option maxHeartbeats 8000000 in
set_option maxRecDepth 100000 in
theorem spec_DrawMeanNumber.calls (A0 : Option Addr) (c0 : Nat) (l0 : List Int) (r : Int) (w : World) (hr0 : Kd.C (Kd.int .u8) w A0 l0.length l0) (hc0 : l0.length ≤ c0) (h : spec_DrawMeanNumber.f l0 = some r) :
  Calls Tryd.prog 21 #[.slice A0 l0.length c0] w fun e w' => e = .returned (.int .i64 r) ∧ Below w.heap.size w w' := by
 have hu87 := Tryd.underlying87
 have HR0 := aM hr0
 have HC0 := aM hc0
 clear hr0 hc0
 have HB := aM (Below.refl w.heap.size w)
 have H := h
 clear h; unfold spec_DrawMeanNumber.f at H
 obtain ⟨y207, Ny207⟩ := yN (([1, 2, 3, 5, 8, 12, 13, 0, (-1)] : List Int) : List Int); rw [← Ny207.out] at H
 replace H := bC H; obtain ⟨⟨t210, t211, t212⟩, A2, H⟩ := H; try dsimp only at H
 obtain rfl := Option.some.inj H
 go_enter Tryd.func21, Tryd.ntmps21
 go_wp2_with (first | ((with_reducible refine gate_dst (N := 6) rfl ?_); refine box_event ?hg (N := 6) ?hd (cs := #[.slice A0 l0.length c0, .int .i64 0, .int .u64 0]) (t := 87) ?hr ?_; (case hd => rfl); (case hg => rfl); (case hr => first | (go_simp; done) | (go_simp; rfl)); intro gb206 hg w3 hbox hb; have HI206 := sS87 ((show IsS87 w w3 gb206 l0 0 0 from ⟨_, _, hbox, (by rw [hg]; exact (below_size (bel HB)) : w.heap.size ≤ gb206), HR0.out⟩)); have GI_HI206 := IsS87.geI HI206; replace HB := hS HB hb; clear hb hbox hg) | ((with_reducible refine gate_dst (N := 8) rfl ?_); refine Kd.R_lit (Kd.int .i64) _ 3 ?hg (N := 8) ?hd (xs := ([1, 2, 3, 5, 8, 12, 13, 0, (-1)] : List Int)) (inner := [.int .i64 1, .int .i64 2, .int .i64 3, .int .i64 5, .int .i64 8, .int .i64 12, .int .i64 13, .int .i64 0, .int .i64 (-1)]) (ok := fun _ => True) (okp := fun _ => True) ?hr ?hp (fun _ hk => hk) trivial (Below.refl _ _) (Nat.le_refl _) (by simp) ?_; (case hd => rfl); (case hg => rfl); (case hr => first | (go_simp; done) | (go_simp; rfl)); (case hp => exact (Reps.one (show Kd.M (Kd.int .i64) _ _ _ 1 [.int .i64 1] from rfl) (Reps.one (show Kd.M (Kd.int .i64) _ _ _ 2 [.int .i64 2] from rfl) (Reps.one (show Kd.M (Kd.int .i64) _ _ _ 3 [.int .i64 3] from rfl) (Reps.one (show Kd.M (Kd.int .i64) _ _ _ 5 [.int .i64 5] from rfl) (Reps.one (show Kd.M (Kd.int .i64) _ _ _ 8 [.int .i64 8] from rfl) (Reps.one (show Kd.M (Kd.int .i64) _ _ _ 12 [.int .i64 12] from rfl) (Reps.one (show Kd.M (Kd.int .i64) _ _ _ 13 [.int .i64 13] from rfl) (Reps.one (show Kd.M (Kd.int .i64) _ _ _ 0 [.int .i64 0] from rfl) (Reps.one (show Kd.M (Kd.int .i64) _ _ _ (-1) [.int .i64 (-1)] from rfl) (Reps.none _ _))))))))))); intro v208 w4 ho5 hb hg_ hnew_; clear hg_ hnew_; (first | rw [← Ny207.out] at ho5 | (simp only [Int.reduceToNat] at ho5; rw [← Ny207.out] at ho5)); have HO209 := rL ho5 HB; replace HI206 := bS87 gb206 hb; replace HB := hS HB hb; clear hb ho5; obtain ⟨Ao6, co6, eo6⟩ := Kd.R_slice HO209.out; subst eo6) | ((with_reducible refine gG 78 (some 9) rfl rfl ?_); refine gC Tryd.func78 (spec_l1Cur_among.calls gb206 l0 0 0 _ _ y207 t210 t211 t212 w _ tS87 (bel HB) (cU ((Kd.R_reads' HO209.out).2.2)) ((Kd.R_reads' HO209.out).2.1) (far_slice (IsS87.own_ne HI206.out HO209.out (by decide))) A2.out) ?_; rintro w7 ⟨hi, hb, hk⟩; replace HO209 := aM (Kd.R_mono (Kd.R_keep (IsS87.apart (show IsS87 w _ gb206 l0 0 0 from tS87) (rU HO209.out) (by decide)) hk (fun _ h => h.2)) (fun _ h => h.1)); replace HB := aM (hb); replace HI206 := sS87 (hi); clear hb hk hi))
 go_ret
 exact ⟨eW, bel HB⟩

/-! ### impl_lowest: function 80 -/
def impl_lowest.l0 : Nat → Int → Int → Int → Int → Option (Int × Int)
 | 0, _, _, _, _ => none
 | k + 1, x0, x1, x6, x7 => if x7 > 0 then (if x7 = 0 then (none) else (impl_lowest.l0 k x0 x1 x7 (Int.tmod x6 x7))) else (if x6 = 0 then (none) else (some (wrap64 (Int.tdiv x0 x6), wrap64 (Int.tdiv x1 x6))))
def impl_lowest.f (k : Nat) (a0 : Int) (a1 : Int) : Option (Int × Int) := impl_lowest.l0 k a0 a1 a0 a1
theorem impl_lowest.mono_l : ∀ k, Mo (impl_lowest.l0 k) (impl_lowest.l0 (k + 1))
 | 0 => m0
 | k + 1 => by
  have ih0 := impl_lowest.mono_l k
  (repeat refine mE fun _ => ?_) <;> first | (unfold impl_lowest.l0; exact mG)
instance impl_lowest.mI (k : Nat) : Mo (impl_lowest.f k) (impl_lowest.f (k + 1)) := by
 have ih0 := impl_lowest.mono_l k
 (repeat refine mE fun _ => ?_); unfold impl_lowest.f; exact mG
theorem impl_lowest.mono : ∀ a0 a1 k, LeO (impl_lowest.f k a0 a1) (impl_lowest.f (k + 1) a0 a1) := fun a0 a1 k => (impl_lowest.mI k).out a0 a1
set_option maxHeartbeats 8000000 in
set_option maxRecDepth 100000 in
theorem impl_lowest.calls (k : Nat) (a0 : Int) (a1 : Int) (r1 : Int) (r2 : Int) (w : World) (h : impl_lowest.f k a0 a1 = some (r1, r2)) :
  Calls Tryd.prog 80 #[.int .i64 a0, .int .i64 a1] w fun e w' => e = .returned (.tuple #[.int .i64 r1, .int .i64 r2]) ∧ Drawn0 w w' := by
 have H := h
 clear h; unfold impl_lowest.f at H
 have H' := aM H
 clear H
 go_enter Tryd.func80, Tryd.ntmps80
 go_wp2
 repeat (go_quiet (fail); try go_wp2)
 go_loopg [6, 7] k (fun kq v6 v7 w' => ∃ (x6_1 : Int) (x7_1 : Int), v6 = .int .i64 x6_1 ∧ v7 = .int .i64 x7_1 ∧ Aside0 (impl_lowest.l0 kq a0 a1 x6_1 x7_1 = some (r1, r2)) ∧ Aside0 (kq ≤ k) ∧ Drawn0 w w')
 case atStart => exact ⟨(a0), (a1), rF, rF, H', kR, d0⟩
 case round =>
  clear H'
  obtain ⟨x6_1, x7_1, rfl, rfl, HA, HK1, ⟨m1, rfl⟩⟩ := hrel
  obtain rfl | ⟨k1, rfl⟩ := fz gk
  ·exact zA HA
  have H := HA.out
  clear HA
  simp only [impl_lowest.l0] at H
  refine iI H ?_ ?_ <;> clear H <;> intro c3 H
  ·have c3b0 := gT c3
   clear c3
   refine iN H ?_; clear H; intro c4 H
   have c4b0 := qF c4
   have c4b1 := nT c4
   have H' := aM H
   clear H
   go_wp2
   repeat (go_quiet (fail); try go_wp2)
   go_roundg k1
   case measure => have := HK1.out; omega
   case rel => exact ⟨(x7_1), (Int.tmod x6_1 x7_1), rF, rF, H', ⟨by have := HK1.out; omega⟩, d0⟩
  have c3b0 := gF c3
  clear c3
  refine iN H ?_; clear H; intro c5 H
  have c5b0 := qF c5
  have c5b1 := nT c5
  simp only [Option.some.injEq, Prod.mk.injEq] at H
  obtain ⟨rfl, rfl⟩ := H
  go_wp2
  repeat (go_quiet (fail); try go_wp2)
  go_ret2
  exact ⟨rF, d0⟩

/-! ### impl_MeanNumber: function 22 -/
def impl_MeanNumber.f (k : Nat) (a0 : Int) : Option (Int × Int × Bool) := (impl_areWalks.f a0).bind fun t213 => (if t213 = true then (if 0 ≤ a0 then ((impl_lowest.f k (wrap64 ((shl .i64 1 a0) - 1)) 2).bind fun bt214 => (some (bt214.1, bt214.2, true))) else (none)) else (some (0, 0, false)))
instance impl_MeanNumber.mI (k : Nat) : Mo (impl_MeanNumber.f k) (impl_MeanNumber.f (k + 1)) := by
 (repeat refine mE fun _ => ?_); unfold impl_MeanNumber.f; exact mG
theorem impl_MeanNumber.mono : ∀ a0 k, LeO (impl_MeanNumber.f k a0) (impl_MeanNumber.f (k + 1) a0) := fun a0 k => (impl_MeanNumber.mI k).out a0
set_option maxHeartbeats 8000000 in
set_option maxRecDepth 100000 in
theorem impl_MeanNumber.calls (k : Nat) (a0 : Int) (r1 : Int) (r2 : Int) (r3 : Bool) (w : World) (h : impl_MeanNumber.f k a0 = some (r1, r2, r3)) :
  Calls Tryd.prog 22 #[.int .i64 a0] w fun e w' => e = .returned (.tuple #[.int .i64 r1, .int .i64 r2, .bool r3]) ∧ Drawn0 w w' := by
 have H := h
 clear h; unfold impl_MeanNumber.f at H
 replace H := bC H; obtain ⟨t213, A2, H⟩ := H
 refine iB H ?_ ?_ <;> clear H <;> rintro rfl H
 ·refine iY H ?_; clear H; intro c4 H
  have c4b0 := eq_true c4
  have c4b1 := dT c4
  clear c4
  obtain ⟨ji5, hji5⟩ := jN (shl .i64 1 a0)
  first | rw [hji5] at H | simp only [hji5] at H
  (try rw [hji5] at A2)
  have hji5_ : (IntKind.i64.wrap (1 * 2 ^ min a0.toNat 64)) = ji5 := hji5
  have hji5z : a0 ≤ 64 → (IntKind.i64.wrap (1 * 2 ^ a0.toNat)) = ji5 := shl_small hji5
  have hji5u : (IntKind.i64.wrap (2 ^ min a0.toNat 64)) = ji5 := by have h_ := hji5_; rw [Int.one_mul] at h_; exact h_
  have hji5v : a0 ≤ 64 → (IntKind.i64.wrap (2 ^ a0.toNat)) = ji5 := fun hle_ => by have h_ := hji5z hle_; rw [Int.one_mul] at h_; exact h_
  have hji5y : (wrap64 (1 * 2 ^ min a0.toNat 64)) = ji5 := (i64_w _).symm.trans hji5_
  have hji5x : a0 ≤ 64 → (wrap64 (1 * 2 ^ a0.toNat)) = ji5 := fun h_ => (i64_w _).symm.trans (hji5z h_)
  replace H := bC H; obtain ⟨⟨t214, t215⟩, A6, H⟩ := H; try dsimp only at H
  simp only [Option.some.injEq, Prod.mk.injEq] at H
  obtain ⟨rfl, rfl, rfl⟩ := H
  go_enter Tryd.func22, Tryd.ntmps22
  go_wp2_with (first | ((with_reducible refine gG 79 (some 8) rfl rfl ?_); refine gL Tryd.func79 #[.int .i64 a0] ?_; (with_reducible refine (impl_areWalks.calls a0 true _ A2.out).mono ?_); rintro e w' ⟨rfl, ⟨nd, rfl⟩⟩; refine ⟨_, rfl, ?_⟩) | ((with_reducible refine gG 80 (some 14) rfl rfl ?_); refine gL Tryd.func80 #[.int .i64 (wrap64 ((ji5) - 1)), .int .i64 2] ?_ (hargs := by (try simp only [List.map_toArray, List.map_cons, List.map_nil]); first | done | (simp only [hji5]; rfl) | rfl | (simp only [List.length_drop, List.length_take]; rfl)); (with_reducible refine (impl_lowest.calls k (wrap64 ((ji5) - 1)) 2 t214 t215 _ A6.out).mono ?_); rintro e w' ⟨rfl, ⟨nd, rfl⟩⟩; refine ⟨_, rfl, ?_⟩))
  go_ret3
  exact ⟨by first | rfl | (simp; done) | (simp only [← hji5] <;> (first | rfl | simp)) | (simp [*]; done), d0⟩
 simp only [Option.some.injEq, Prod.mk.injEq] at H
 obtain ⟨rfl, rfl, rfl⟩ := H
 go_enter Tryd.func22, Tryd.ntmps22
 go_wp2_with (first | ((with_reducible refine gG 79 (some 8) rfl rfl ?_); refine gL Tryd.func79 #[.int .i64 a0] ?_; (with_reducible refine (impl_areWalks.calls a0 false _ A2.out).mono ?_); rintro e w' ⟨rfl, ⟨nd, rfl⟩⟩; refine ⟨_, rfl, ?_⟩))
 go_ret3
 exact ⟨rF, d0⟩

/-! ### spec_MeanNumber: function 23 -/
def spec_MeanNumber.f (a0 : Int) : Option (Int × Int × Bool) := (spec_waRings.f a0).bind fun t216 => (if t216 = true then (if 0 ≤ a0 then (some (wrap64 ((shl .i64 1 a0) - 1), 2, true)) else (none)) else (some (0, 0, false)))
set_option maxHeartbeats 8000000 in
set_option maxRecDepth 100000 in
theorem spec_MeanNumber.calls (a0 : Int) (r1 : Int) (r2 : Int) (r3 : Bool) (w : World) (h : spec_MeanNumber.f a0 = some (r1, r2, r3)) :
  Calls Tryd.prog 23 #[.int .i64 a0] w fun e w' => e = .returned (.tuple #[.int .i64 r1, .int .i64 r2, .bool r3]) ∧ Drawn0 w w' := by
 have H := h
 clear h; unfold spec_MeanNumber.f at H
 replace H := bC H; obtain ⟨t216, A2, H⟩ := H
 refine iB H ?_ ?_ <;> clear H <;> rintro rfl H
 ·refine iY H ?_; clear H; intro c4 H
  have c4b0 := eq_true c4
  have c4b1 := dT c4
  clear c4
  obtain ⟨ji5, hji5⟩ := jN (shl .i64 1 a0)
  first | rw [hji5] at H | simp only [hji5] at H
  (try rw [hji5] at A2)
  have hji5_ : (IntKind.i64.wrap (1 * 2 ^ min a0.toNat 64)) = ji5 := hji5
  have hji5z : a0 ≤ 64 → (IntKind.i64.wrap (1 * 2 ^ a0.toNat)) = ji5 := shl_small hji5
  have hji5u : (IntKind.i64.wrap (2 ^ min a0.toNat 64)) = ji5 := by have h_ := hji5_; rw [Int.one_mul] at h_; exact h_
  have hji5v : a0 ≤ 64 → (IntKind.i64.wrap (2 ^ a0.toNat)) = ji5 := fun hle_ => by have h_ := hji5z hle_; rw [Int.one_mul] at h_; exact h_
  have hji5y : (wrap64 (1 * 2 ^ min a0.toNat 64)) = ji5 := (i64_w _).symm.trans hji5_
  have hji5x : a0 ≤ 64 → (wrap64 (1 * 2 ^ a0.toNat)) = ji5 := fun h_ => (i64_w _).symm.trans (hji5z h_)
  simp only [Option.some.injEq, Prod.mk.injEq] at H
  obtain ⟨rfl, rfl, rfl⟩ := H
  go_enter Tryd.func23, Tryd.ntmps23
  go_wp2_with (first | ((with_reducible refine gG 81 (some 6) rfl rfl ?_); refine gL Tryd.func81 #[.int .i64 a0] ?_; (with_reducible refine (spec_waRings.calls a0 true _ A2.out).mono ?_); rintro e w' ⟨rfl, ⟨nd, rfl⟩⟩; refine ⟨_, rfl, ?_⟩))
  go_ret3
  exact ⟨by first | rfl | (simp; done) | (simp only [← hji5] <;> (first | rfl | simp)) | (simp [*]; done), d0⟩
 simp only [Option.some.injEq, Prod.mk.injEq] at H
 obtain ⟨rfl, rfl, rfl⟩ := H
 go_enter Tryd.func23, Tryd.ntmps23
 go_wp2_with (first | ((with_reducible refine gG 81 (some 6) rfl rfl ?_); refine gL Tryd.func81 #[.int .i64 a0] ?_; (with_reducible refine (spec_waRings.calls a0 false _ A2.out).mono ?_); rintro e w' ⟨rfl, ⟨nd, rfl⟩⟩; refine ⟨_, rfl, ?_⟩))
 go_ret3
 exact ⟨rF, d0⟩

/-! ### impl_MeanOfPairs: function 24 -/
def impl_MeanOfPairs.f (k : Nat) (a0 : Int) : Option (Int × Int × Bool) := (impl_areWalks.f a0).bind fun t217 => (if t217 = true then (if 0 ≤ a0 then ((impl_lowest.f k (wrap64 ((wrap64 ((shl .i64 1 a0) * (shl .i64 1 a0))) - 1)) (wrap64 (3 * (shl .i64 1 a0)))).bind fun bt218 => (some (bt218.1, bt218.2, true))) else (none)) else (some (0, 0, false)))
instance impl_MeanOfPairs.mI (k : Nat) : Mo (impl_MeanOfPairs.f k) (impl_MeanOfPairs.f (k + 1)) := by
 (repeat refine mE fun _ => ?_); unfold impl_MeanOfPairs.f; exact mG
theorem impl_MeanOfPairs.mono : ∀ a0 k, LeO (impl_MeanOfPairs.f k a0) (impl_MeanOfPairs.f (k + 1) a0) := fun a0 k => (impl_MeanOfPairs.mI k).out a0
set_option maxHeartbeats 8000000 in
set_option maxRecDepth 100000 in
theorem impl_MeanOfPairs.calls (k : Nat) (a0 : Int) (r1 : Int) (r2 : Int) (r3 : Bool) (w : World) (h : impl_MeanOfPairs.f k a0 = some (r1, r2, r3)) :
  Calls Tryd.prog 24 #[.int .i64 a0] w fun e w' => e = .returned (.tuple #[.int .i64 r1, .int .i64 r2, .bool r3]) ∧ Drawn0 w w' := by
 have H := h
 clear h; unfold impl_MeanOfPairs.f at H
 replace H := bC H; obtain ⟨t217, A2, H⟩ := H
 refine iB H ?_ ?_ <;> clear H <;> rintro rfl H
 ·refine iY H ?_; clear H; intro c4 H
  have c4b0 := eq_true c4
  have c4b1 := dT c4
  clear c4
  obtain ⟨ji5, hji5⟩ := jN (shl .i64 1 a0)
  first | rw [hji5] at H | simp only [hji5] at H
  (try rw [hji5] at A2)
  have hji5_ : (IntKind.i64.wrap (1 * 2 ^ min a0.toNat 64)) = ji5 := hji5
  have hji5z : a0 ≤ 64 → (IntKind.i64.wrap (1 * 2 ^ a0.toNat)) = ji5 := shl_small hji5
  have hji5u : (IntKind.i64.wrap (2 ^ min a0.toNat 64)) = ji5 := by have h_ := hji5_; rw [Int.one_mul] at h_; exact h_
  have hji5v : a0 ≤ 64 → (IntKind.i64.wrap (2 ^ a0.toNat)) = ji5 := fun hle_ => by have h_ := hji5z hle_; rw [Int.one_mul] at h_; exact h_
  have hji5y : (wrap64 (1 * 2 ^ min a0.toNat 64)) = ji5 := (i64_w _).symm.trans hji5_
  have hji5x : a0 ≤ 64 → (wrap64 (1 * 2 ^ a0.toNat)) = ji5 := fun h_ => (i64_w _).symm.trans (hji5z h_)
  replace H := bC H; obtain ⟨⟨t218, t219⟩, A6, H⟩ := H; try dsimp only at H
  simp only [Option.some.injEq, Prod.mk.injEq] at H
  obtain ⟨rfl, rfl, rfl⟩ := H
  go_enter Tryd.func24, Tryd.ntmps24
  go_wp2_with (first | ((with_reducible refine gG 79 (some 9) rfl rfl ?_); refine gL Tryd.func79 #[.int .i64 a0] ?_; (with_reducible refine (impl_areWalks.calls a0 true _ A2.out).mono ?_); rintro e w' ⟨rfl, ⟨nd, rfl⟩⟩; refine ⟨_, rfl, ?_⟩) | ((with_reducible refine gG 80 (some 20) rfl rfl ?_); refine gL Tryd.func80 #[.int .i64 (wrap64 ((wrap64 ((ji5) * (ji5))) - 1)), .int .i64 (wrap64 (3 * (ji5)))] ?_ (hargs := by (try simp only [List.map_toArray, List.map_cons, List.map_nil]); first | done | (simp only [hji5]; rfl) | rfl | (simp only [List.length_drop, List.length_take]; rfl)); (with_reducible refine (impl_lowest.calls k (wrap64 ((wrap64 ((ji5) * (ji5))) - 1)) (wrap64 (3 * (ji5))) t218 t219 _ A6.out).mono ?_); rintro e w' ⟨rfl, ⟨nd, rfl⟩⟩; refine ⟨_, rfl, ?_⟩))
  go_ret3
  exact ⟨by first | rfl | (simp; done) | (simp only [← hji5] <;> (first | rfl | simp)) | (simp [*]; done), d0⟩
 simp only [Option.some.injEq, Prod.mk.injEq] at H
 obtain ⟨rfl, rfl, rfl⟩ := H
 go_enter Tryd.func24, Tryd.ntmps24
 go_wp2_with (first | ((with_reducible refine gG 79 (some 9) rfl rfl ?_); refine gL Tryd.func79 #[.int .i64 a0] ?_; (with_reducible refine (impl_areWalks.calls a0 false _ A2.out).mono ?_); rintro e w' ⟨rfl, ⟨nd, rfl⟩⟩; refine ⟨_, rfl, ?_⟩))
 go_ret3
 exact ⟨rF, d0⟩

/-! ### spec_waLow: function 82 -/
def spec_waLow.l0 : Nat → Int → Int → Int → Int → Option (Int × Int)
 | 0, _, _, _, _ => none
 | k + 1, x0, x1, x6, x7 => if x7 > 0 then (if x7 = 0 then (none) else (spec_waLow.l0 k x0 x1 x7 (Int.tmod x6 x7))) else (if x6 = 0 then (none) else (some (wrap64 (Int.tdiv x0 x6), wrap64 (Int.tdiv x1 x6))))
def spec_waLow.f (k : Nat) (a0 : Int) (a1 : Int) : Option (Int × Int) := spec_waLow.l0 k a0 a1 a0 a1
theorem spec_waLow.mono_l : ∀ k, Mo (spec_waLow.l0 k) (spec_waLow.l0 (k + 1))
 | 0 => m0
 | k + 1 => by
  have ih0 := spec_waLow.mono_l k
  (repeat refine mE fun _ => ?_) <;> first | (unfold spec_waLow.l0; exact mG)
instance spec_waLow.mI (k : Nat) : Mo (spec_waLow.f k) (spec_waLow.f (k + 1)) := by
 have ih0 := spec_waLow.mono_l k
 (repeat refine mE fun _ => ?_); unfold spec_waLow.f; exact mG
theorem spec_waLow.mono : ∀ a0 a1 k, LeO (spec_waLow.f k a0 a1) (spec_waLow.f (k + 1) a0 a1) := fun a0 a1 k => (spec_waLow.mI k).out a0 a1
set_option maxHeartbeats 8000000 in
set_option maxRecDepth 100000 in
theorem spec_waLow.calls (k : Nat) (a0 : Int) (a1 : Int) (r1 : Int) (r2 : Int) (w : World) (h : spec_waLow.f k a0 a1 = some (r1, r2)) :
  Calls Tryd.prog 82 #[.int .i64 a0, .int .i64 a1] w fun e w' => e = .returned (.tuple #[.int .i64 r1, .int .i64 r2]) ∧ Drawn0 w w' := by
 have H := h
 clear h; unfold spec_waLow.f at H
 have H' := aM H
 clear H
 go_enter Tryd.func82, Tryd.ntmps82
 go_wp2
 repeat (go_quiet (fail); try go_wp2)
 go_loopg [6, 7] k (fun kq v6 v7 w' => ∃ (x6_1 : Int) (x7_1 : Int), v6 = .int .i64 x6_1 ∧ v7 = .int .i64 x7_1 ∧ Aside0 (spec_waLow.l0 kq a0 a1 x6_1 x7_1 = some (r1, r2)) ∧ Aside0 (kq ≤ k) ∧ Drawn0 w w')
 case atStart => exact ⟨(a0), (a1), rF, rF, H', kR, d0⟩
 case round =>
  clear H'
  obtain ⟨x6_1, x7_1, rfl, rfl, HA, HK1, ⟨m1, rfl⟩⟩ := hrel
  obtain rfl | ⟨k1, rfl⟩ := fz gk
  ·exact zA HA
  have H := HA.out
  clear HA
  simp only [spec_waLow.l0] at H
  refine iI H ?_ ?_ <;> clear H <;> intro c3 H
  ·have c3b0 := gT c3
   clear c3
   refine iN H ?_; clear H; intro c4 H
   have c4b0 := qF c4
   have c4b1 := nT c4
   have H' := aM H
   clear H
   go_wp2
   repeat (go_quiet (fail); try go_wp2)
   go_roundg k1
   case measure => have := HK1.out; omega
   case rel => exact ⟨(x7_1), (Int.tmod x6_1 x7_1), rF, rF, H', ⟨by have := HK1.out; omega⟩, d0⟩
  have c3b0 := gF c3
  clear c3
  refine iN H ?_; clear H; intro c5 H
  have c5b0 := qF c5
  have c5b1 := nT c5
  simp only [Option.some.injEq, Prod.mk.injEq] at H
  obtain ⟨rfl, rfl⟩ := H
  go_wp2
  repeat (go_quiet (fail); try go_wp2)
  go_ret2
  exact ⟨rF, d0⟩

/-! ### spec_MeanOfPairs: function 25 -/
def spec_MeanOfPairs.f (k : Nat) (a0 : Int) : Option (Int × Int × Bool) := (spec_waRings.f a0).bind fun t220 => (if t220 = true then (if 0 ≤ a0 then ((spec_waLow.f k (wrap64 ((wrap64 ((shl .i64 1 a0) * (shl .i64 1 a0))) - 1)) (wrap64 (3 * (shl .i64 1 a0)))).bind fun bt221 => (some (bt221.1, bt221.2, true))) else (none)) else (some (0, 0, false)))
instance spec_MeanOfPairs.mI (k : Nat) : Mo (spec_MeanOfPairs.f k) (spec_MeanOfPairs.f (k + 1)) := by
 (repeat refine mE fun _ => ?_); unfold spec_MeanOfPairs.f; exact mG
theorem spec_MeanOfPairs.mono : ∀ a0 k, LeO (spec_MeanOfPairs.f k a0) (spec_MeanOfPairs.f (k + 1) a0) := fun a0 k => (spec_MeanOfPairs.mI k).out a0
set_option maxHeartbeats 8000000 in
set_option maxRecDepth 100000 in
theorem spec_MeanOfPairs.calls (k : Nat) (a0 : Int) (r1 : Int) (r2 : Int) (r3 : Bool) (w : World) (h : spec_MeanOfPairs.f k a0 = some (r1, r2, r3)) :
  Calls Tryd.prog 25 #[.int .i64 a0] w fun e w' => e = .returned (.tuple #[.int .i64 r1, .int .i64 r2, .bool r3]) ∧ Drawn0 w w' := by
 have H := h
 clear h; unfold spec_MeanOfPairs.f at H
 replace H := bC H; obtain ⟨t220, A2, H⟩ := H
 refine iB H ?_ ?_ <;> clear H <;> rintro rfl H
 ·refine iY H ?_; clear H; intro c4 H
  have c4b0 := eq_true c4
  have c4b1 := dT c4
  clear c4
  obtain ⟨ji5, hji5⟩ := jN (shl .i64 1 a0)
  first | rw [hji5] at H | simp only [hji5] at H
  (try rw [hji5] at A2)
  have hji5_ : (IntKind.i64.wrap (1 * 2 ^ min a0.toNat 64)) = ji5 := hji5
  have hji5z : a0 ≤ 64 → (IntKind.i64.wrap (1 * 2 ^ a0.toNat)) = ji5 := shl_small hji5
  have hji5u : (IntKind.i64.wrap (2 ^ min a0.toNat 64)) = ji5 := by have h_ := hji5_; rw [Int.one_mul] at h_; exact h_
  have hji5v : a0 ≤ 64 → (IntKind.i64.wrap (2 ^ a0.toNat)) = ji5 := fun hle_ => by have h_ := hji5z hle_; rw [Int.one_mul] at h_; exact h_
  have hji5y : (wrap64 (1 * 2 ^ min a0.toNat 64)) = ji5 := (i64_w _).symm.trans hji5_
  have hji5x : a0 ≤ 64 → (wrap64 (1 * 2 ^ a0.toNat)) = ji5 := fun h_ => (i64_w _).symm.trans (hji5z h_)
  replace H := bC H; obtain ⟨⟨t221, t222⟩, A6, H⟩ := H; try dsimp only at H
  simp only [Option.some.injEq, Prod.mk.injEq] at H
  obtain ⟨rfl, rfl, rfl⟩ := H
  go_enter Tryd.func25, Tryd.ntmps25
  go_wp2_with (first | ((with_reducible refine gG 81 (some 9) rfl rfl ?_); refine gL Tryd.func81 #[.int .i64 a0] ?_; (with_reducible refine (spec_waRings.calls a0 true _ A2.out).mono ?_); rintro e w' ⟨rfl, ⟨nd, rfl⟩⟩; refine ⟨_, rfl, ?_⟩) | ((with_reducible refine gG 82 (some 20) rfl rfl ?_); refine gL Tryd.func82 #[.int .i64 (wrap64 ((wrap64 ((ji5) * (ji5))) - 1)), .int .i64 (wrap64 (3 * (ji5)))] ?_ (hargs := by (try simp only [List.map_toArray, List.map_cons, List.map_nil]); first | done | (simp only [hji5]; rfl) | rfl | (simp only [List.length_drop, List.length_take]; rfl)); (with_reducible refine (spec_waLow.calls k (wrap64 ((wrap64 ((ji5) * (ji5))) - 1)) (wrap64 (3 * (ji5))) t221 t222 _ A6.out).mono ?_); rintro e w' ⟨rfl, ⟨nd, rfl⟩⟩; refine ⟨_, rfl, ?_⟩))
  go_ret3
  exact ⟨by first | rfl | (simp; done) | (simp only [← hji5] <;> (first | rfl | simp)) | (simp [*]; done), d0⟩
 simp only [Option.some.injEq, Prod.mk.injEq] at H
 obtain ⟨rfl, rfl, rfl⟩ := H
 go_enter Tryd.func25, Tryd.ntmps25
 go_wp2_with (first | ((with_reducible refine gG 81 (some 9) rfl rfl ?_); refine gL Tryd.func81 #[.int .i64 a0] ?_; (with_reducible refine (spec_waRings.calls a0 false _ A2.out).mono ?_); rintro e w' ⟨rfl, ⟨nd, rfl⟩⟩; refine ⟨_, rfl, ?_⟩))
 go_ret3
 exact ⟨rF, d0⟩

/-! ### spec_l1Cur_of: function 103 -/
def spec_l1Cur_of.f (s0_0 : List Int) (s0_1 : Int) (s0_2 : Int) (l1 : List ByteArray) : Option (ByteArray × Int × Int) := (spec_l1Cur_pick.f s0_0 s0_1 s0_2 (l1.length : Int)).bind fun bt223 => (if 0 ≤ bt223.1 then (if bt223.1 < (l1.length : Int) then (some (rdOf ByteArray.empty l1 bt223.1, bt223.2.1, bt223.2.2)) else (none)) else (none))
set_option maxHeartbeats 8000000 in
set_option maxRecDepth 100000 in
theorem spec_l1Cur_of.calls (g : Nat) (s0_0 : List Int) (s0_1 : Int) (s0_2 : Int) (A1 : Option Addr) (c1 : Nat) (l1 : List ByteArray) (r1 : ByteArray) (r2 : Int) (r3 : Int) (w0 w : World) (hI : IsS87 w0 w g s0_0 s0_1 s0_2) (hB : Below w0.heap.size w0 w) (hr1 : Kd.C Kd.string w A1 l1.length l1) (hc1 : l1.length ≤ c1) (hf1 : ∀ ad, A1 = some ad → 0 < l1.length → ad.block ≠ g) (h : spec_l1Cur_of.f s0_0 s0_1 s0_2 l1 = some (r1, r2, r3)) :
  Calls Tryd.prog 103 #[.pointer (some ⟨g, 0, none⟩), .slice A1 l1.length c1] w fun e w' => e = .returned (.string r1) ∧ IsS87 w0 w' g s0_0 r2 r3 ∧ Below w0.heap.size w0 w' ∧ KeepBut w w' g none := by
 have HR1 := aM hr1
 have HC1 := aM hc1
 clear hr1 hc1
 have HI0 := sS87 hI
 have GI_HI0 := IsS87.geI HI0
 have HK := aM (KeepBut.refl w g none)
 have HL := aM hB.size
 clear hI
 have HW0 := aM hB.size
 have HB := aM hB
 clear hB
 have H := h
 clear h; unfold spec_l1Cur_of.f at H
 replace H := bC H; obtain ⟨⟨t223, t224, t225⟩, A3, H⟩ := H; try dsimp only at H
 refine iY H ?_; clear H; intro c4 H
 have c4b0 := dT c4
 clear c4
 refine iY H ?_; clear H; intro c5 H
 have c5b0 := dT c5
 clear c5
 simp only [Option.some.injEq, Prod.mk.injEq] at H
 obtain ⟨rfl, rfl, rfl⟩ := H
 go_enter Tryd.func103, Tryd.ntmps103
 go_wp2_with (first | ((with_reducible refine gG 137 (some 9) rfl rfl ?_); refine gC Tryd.func137 (spec_l1Cur_pick.calls g s0_0 s0_1 s0_2 (l1.length : Int) t223 t224 t225 w0 _ tS87 (bel HB) A3.out) ?_; rintro w6 ⟨hi, hb, hk⟩; replace HK := kT HK hk; replace HB := aM (hb); replace HI0 := sS87 (hi); clear hb hk hi; have p226 : 0 ≤ (t223 : Int) := oD; have q226 : t223 < (l1.length : Int) := oD; obtain ⟨ad226, e226, hx226_0⟩ := Kd.at_string HR1.out t223 p226 q226; cases e226; replace hx226_0 := keep_cell HK.out hx226_0 (by first | (rw [add_block]; exact hf1 _ rfl (by omega)) | exact hf1 _ rfl (by omega) | exact hf1 ad226 rfl (by omega)); replace p226 := eq_true p226; replace q226 := eq_true q226))
 go_ret
 exact ⟨eW, tS87, bel HB, kp HK⟩

/-! ### spec_l1Cur_one: function 140 -/
def spec_l1Cur_one.f (s0_0 : List Int) (s0_1 : Int) (s0_2 : Int) (a1 : Int) : Option (Bool × Int × Int) := (spec_l1Cur_pick.f s0_0 s0_1 s0_2 a1).bind fun bt227 => (some ((bt227.1 == 0), bt227.2.1, bt227.2.2))
set_option maxHeartbeats 8000000 in
set_option maxRecDepth 100000 in
theorem spec_l1Cur_one.calls (g : Nat) (s0_0 : List Int) (s0_1 : Int) (s0_2 : Int) (a1 : Int) (r1 : Bool) (r2 : Int) (r3 : Int) (w0 w : World) (hI : IsS87 w0 w g s0_0 s0_1 s0_2) (hB : Below w0.heap.size w0 w) (h : spec_l1Cur_one.f s0_0 s0_1 s0_2 a1 = some (r1, r2, r3)) :
  Calls Tryd.prog 140 #[.pointer (some ⟨g, 0, none⟩), .int .i64 a1] w fun e w' => e = .returned (.bool r1) ∧ IsS87 w0 w' g s0_0 r2 r3 ∧ Below w0.heap.size w0 w' ∧ KeepBut w w' g none := by
 have HI0 := sS87 hI
 have GI_HI0 := IsS87.geI HI0
 have HK := aM (KeepBut.refl w g none)
 have HL := aM hB.size
 clear hI
 have HW0 := aM hB.size
 have HB := aM hB
 clear hB
 have H := h
 clear h; unfold spec_l1Cur_one.f at H
 replace H := bC H; obtain ⟨⟨t227, t228, t229⟩, A3, H⟩ := H; try dsimp only at H
 simp only [Option.some.injEq, Prod.mk.injEq] at H
 obtain ⟨rfl, rfl, rfl⟩ := H
 go_enter Tryd.func140, Tryd.ntmps140
 go_wp2_with (first | ((with_reducible refine gG 137 (some 7) rfl rfl ?_); refine gC Tryd.func137 (spec_l1Cur_pick.calls g s0_0 s0_1 s0_2 a1 t227 t228 t229 w0 _ tS87 (bel HB) A3.out) ?_; rintro w4 ⟨hi, hb, hk⟩; replace HK := kT HK hk; replace HB := aM (hb); replace HI0 := sS87 (hi); clear hb hk hi))
 go_ret
 exact ⟨eW, tS87, bel HB, kp HK⟩

/-! ### spec_l1Cur_sureState: function 156 -/
def spec_l1Cur_sureState.l0 : Nat → ByteArray → Int → List Int → Int → Int → Option (ByteArray × Int × Int)
 | 0, _, _, _, _, _ => none
 | k + 1, x5, x6, x1000, x1001, x1002 => if x6 > 0 then ((spec_l1Cur_of.f x1000 x1001 x1002 (([(⟨#[48]⟩ : ByteArray), (⟨#[49]⟩ : ByteArray)] : List ByteArray))).bind fun bt236 => (if x5.size + bt236.1.size ≤ 9223372036854775807 then (spec_l1Cur_sureState.l0 k (x5 ++ bt236.1) (wrap64 (x6 - 1)) x1000 bt236.2.1 bt236.2.2) else (none))) else (some (x5, x1001, x1002))
def spec_l1Cur_sureState.f (k : Nat) (s0_0 : List Int) (s0_1 : Int) (s0_2 : Int) (a1 : Int) : Option (ByteArray × Int × Int) := (spec_l1Cur_pick.f s0_0 s0_1 s0_2 a1).bind fun bt230 => (spec_l1Cur_sureState.l0 k (⟨#[]⟩ : ByteArray) (wrap64 (1 + bt230.1)) s0_0 bt230.2.1 bt230.2.2)
theorem spec_l1Cur_sureState.mono_l : ∀ k, Mo (spec_l1Cur_sureState.l0 k) (spec_l1Cur_sureState.l0 (k + 1))
 | 0 => m0
 | k + 1 => by
  have ih0 := spec_l1Cur_sureState.mono_l k
  (repeat refine mE fun _ => ?_) <;> first | (unfold spec_l1Cur_sureState.l0; exact mG)
instance spec_l1Cur_sureState.mI (k : Nat) : Mo (spec_l1Cur_sureState.f k) (spec_l1Cur_sureState.f (k + 1)) := by
 have ih0 := spec_l1Cur_sureState.mono_l k
 (repeat refine mE fun _ => ?_); unfold spec_l1Cur_sureState.f; exact mG
theorem spec_l1Cur_sureState.mono : ∀ a0 a1 a2 a3 k, LeO (spec_l1Cur_sureState.f k a0 a1 a2 a3) (spec_l1Cur_sureState.f (k + 1) a0 a1 a2 a3) := fun a0 a1 a2 a3 k => (spec_l1Cur_sureState.mI k).out a0 a1 a2 a3
set_option maxHeartbeats 8000000 in
set_option maxRecDepth 100000 in
theorem spec_l1Cur_sureState.calls (k : Nat) (g : Nat) (s0_0 : List Int) (s0_1 : Int) (s0_2 : Int) (a1 : Int) (r1 : ByteArray) (r2 : Int) (r3 : Int) (w0 w : World) (hI : IsS87 w0 w g s0_0 s0_1 s0_2) (hB : Below w0.heap.size w0 w) (h : spec_l1Cur_sureState.f k s0_0 s0_1 s0_2 a1 = some (r1, r2, r3)) :
  Calls Tryd.prog 156 #[.pointer (some ⟨g, 0, none⟩), .int .i64 a1] w fun e w' => e = .returned (.string r1) ∧ IsS87 w0 w' g s0_0 r2 r3 ∧ Below w0.heap.size w0 w' ∧ KeepBut w w' g none := by
 have HI0 := sS87 hI
 have GI_HI0 := IsS87.geI HI0
 have HK := aM (KeepBut.refl w g none)
 have HL := aM hB.size
 clear hI
 have HW0 := aM hB.size
 have HB := aM hB
 clear hB
 have H := h
 clear h; unfold spec_l1Cur_sureState.f at H
 replace H := bC H; obtain ⟨⟨t230, t231, t232⟩, A3, H⟩ := H; try dsimp only at H
 have H' := aM H
 clear H
 go_enter Tryd.func156, Tryd.ntmps156
 go_wp2_with (first | ((with_reducible refine gG 137 (some 9) rfl rfl ?_); refine gC Tryd.func137 (spec_l1Cur_pick.calls g s0_0 s0_1 s0_2 a1 t230 t231 t232 w0 _ tS87 (bel HB) A3.out) ?_; rintro w4 ⟨hi, hb, hk⟩; replace HK := kT HK hk; replace HB := aM (hb); replace HI0 := sS87 (hi); clear hb hk hi))
 go_loopg [5, 6] k (fun kq v5 v6 w' => ∃ (x5_1 : ByteArray) (x6_1 : Int) (x1001_1 : Int) (x1002_1 : Int), v5 = .string x5_1 ∧ v6 = .int .i64 x6_1 ∧ Aside0 (spec_l1Cur_sureState.l0 kq x5_1 x6_1 s0_0 x1001_1 x1002_1 = some (r1, r2, r3)) ∧ Aside0 (kq ≤ k) ∧ IsC87 w0 w' g s0_0 x1001_1 x1002_1 ∧ Aside0 (KeepBut w w' g none) ∧ Aside0 (Below w0.heap.size w0 w'))
 case atStart => exact ⟨((⟨#[]⟩ : ByteArray)), (wrap64 (1 + t230)), (t231), (t232), rF, rF, H', kR, ⟨tS87⟩, kV HK, hV HB⟩
 case round =>
  clear H'
  obtain ⟨x5_1, x6_1, x1001_1, x1002_1, rfl, rfl, HA, HK1, HI0, HK, HB⟩ := hrel
  obtain rfl | ⟨k1, rfl⟩ := fz gk
  ·exact zA HA
  have H := HA.out
  clear HA
  simp only [spec_l1Cur_sureState.l0] at H
  refine iI H ?_ ?_ <;> clear H <;> intro c5 H
  ·have c5b0 := gT c5
   clear c5
   obtain ⟨y233, Ny233⟩ := yN (([(⟨#[48]⟩ : ByteArray), (⟨#[49]⟩ : ByteArray)] : List ByteArray) : List ByteArray); rw [← Ny233.out] at H
   replace H := bC H; obtain ⟨⟨t236, t237, t238⟩, A6, H⟩ := H; try dsimp only at H
   refine iY H ?_; clear H; intro c7 H
   have c7b0 := eq_true c7
   have c7b1 := dT c7
   try have c7b2 : (9223372036854775807 < x5_1.size + t236.size) = False := eq_false (Nat.not_lt.2 c7)
   have H' := aM H
   clear H
   go_wp2_with (first | ((with_reducible refine gate_dst (N := 17) rfl ?_); refine Kd.R_lit Kd.string _ 9 ?hg (N := 17) ?hd (xs := ([(⟨#[48]⟩ : ByteArray), (⟨#[49]⟩ : ByteArray)] : List ByteArray)) (inner := [.string (⟨#[48]⟩ : ByteArray), .string (⟨#[49]⟩ : ByteArray)]) (ok := fun _ => True) (okp := fun _ => True) ?hr ?hp (fun _ hk => hk) trivial (Below.refl _ _) (Nat.le_refl _) (by simp) ?_; (case hd => rfl); (case hg => rfl); (case hr => first | (go_simp; done) | (go_simp; rfl)); (case hp => exact (Reps.one (show Kd.M Kd.string _ _ _ (⟨#[48]⟩ : ByteArray) [.string (⟨#[48]⟩ : ByteArray)] from rfl) (Reps.one (show Kd.M Kd.string _ _ _ (⟨#[49]⟩ : ByteArray) [.string (⟨#[49]⟩ : ByteArray)] from rfl) (Reps.none _ _)))); intro v234 w8 ho9 hb hg_ hnew_; clear hg_ hnew_; (first | rw [← Ny233.out] at ho9 | (simp only [Int.reduceToNat] at ho9; rw [← Ny233.out] at ho9)); have HO235 := rK ho9 HK; replace HI0 := bS87 g hb; replace HK := kT HK (KeepBut.of_below hb g none); replace HB := hS HB hb; clear hb ho9; obtain ⟨Ao10, co10, eo10⟩ := Kd.R_slice HO235.out; subst eo10) | ((with_reducible refine gG 103 (some 18) rfl rfl ?_); refine gC Tryd.func103 (spec_l1Cur_of.calls g s0_0 x1001_1 x1002_1 _ _ y233 t236 t237 t238 w0 _ tS87 (bel HB) (cU ((Kd.R_reads' HO235.out).2.2)) ((Kd.R_reads' HO235.out).2.1) (far_slice (IsS87.own_ne HI0.out HO235.out (by decide))) A6.out) ?_; rintro w11 ⟨hi, hb, hk⟩; replace HO235 := aM (Kd.R_mono (Kd.R_keep (IsS87.apart (show IsS87 w0 _ g s0_0 x1001_1 x1002_1 from tS87) (rU HO235.out) (by decide)) hk (fun _ h => h.2)) (fun _ h => h.1)); replace HK := kT HK hk; replace HB := aM (hb); replace HI0 := sS87 (hi); clear hb hk hi))
   go_roundg k1
   case measure => have := HK1.out; omega
   case rel => exact ⟨(x5_1 ++ t236), (wrap64 (x6_1 - 1)), (t237), (t238), rF, rF, H', ⟨by have := HK1.out; omega⟩, ⟨tS87⟩, kV HK, hV HB⟩
  have c5b0 := gF c5
  clear c5
  simp only [Option.some.injEq, Prod.mk.injEq] at H
  obtain ⟨rfl, rfl, rfl⟩ := H
  go_wp2
  go_ret
  exact ⟨eW, tS87, bel HB, kp HK⟩

end Go.Proofs.YtcogjabdddikjaaDoor.PSCnt
