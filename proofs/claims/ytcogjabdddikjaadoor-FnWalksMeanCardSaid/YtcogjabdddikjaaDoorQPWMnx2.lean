-- squeezed (sq3.py); PRINTED by drive.py (a program of this session's, over the kit's print.py; wip/tools/drive.py). Lean checks it.
import Derived.Test.YtcogjabdddikjaaDoorQPWMnx0
import Derived.Test.YtcogjabdddikjaaDoorQPWMnx1
import Derived.Test.YtcogjabdddikjaaDoorQSq
namespace Go.Proofs.YtcogjabdddikjaaDoor.PWMn
open Go.RowKit Go.Proofs.YtcogjabdddikjaaDoorW.PrintWords Go.Proofs.YtcogjabdddikjaaDoorW.PrintLast Go.Proofs.YtcogjabdddikjaaDoorW.PrintMore
attribute [local go_sem] max2_int min2_int max_two min_two max_three min_three max_four min_four   -- for this text's walks alone
set_option linter.unusedVariables false
set_option linter.unusedSimpArgs false

/-! ### spec_DrawMeanFrom: function 30 -/
def spec_DrawMeanFrom.f (k : Nat) (l0 : List Int) : Option (ByteArray × ByteArray) := (spec_DrawFewestMoves.f k l0).bind fun bt158 => (some (bt158.1, bt158.2))
instance spec_DrawMeanFrom.mI (k : Nat) : Mo (spec_DrawMeanFrom.f k) (spec_DrawMeanFrom.f (k + 1)) := by
 (repeat refine mE fun _ => ?_); unfold spec_DrawMeanFrom.f; exact mG
theorem spec_DrawMeanFrom.mono : ∀ a0 k, LeO (spec_DrawMeanFrom.f k a0) (spec_DrawMeanFrom.f (k + 1) a0) := fun a0 k => (spec_DrawMeanFrom.mI k).out a0
set_option maxHeartbeats 8000000 in
set_option maxRecDepth 100000 in
theorem spec_DrawMeanFrom.calls (k : Nat) (A0 : Option Addr) (c0 : Nat) (l0 : List Int) (r1 : ByteArray) (r2 : ByteArray) (w : World) (hr0 : Kd.C (Kd.int .u8) w A0 l0.length l0) (hc0 : l0.length ≤ c0) (h : spec_DrawMeanFrom.f k l0 = some (r1, r2)) :
  Calls Tryd.prog 30 #[.slice A0 l0.length c0] w fun e w' => e = .returned (.tuple #[.string r1, .string r2]) ∧ Below w.heap.size w w' := by
 have HR0 := aM hr0
 have HC0 := aM hc0
 clear hr0 hc0
 have HB := aM (Below.refl w.heap.size w)
 have H := h
 clear h; unfold spec_DrawMeanFrom.f at H
 replace H := bC H; obtain ⟨⟨t158, t159⟩, A2, H⟩ := H; try dsimp only at H
 simp only [Option.some.injEq, Prod.mk.injEq] at H
 obtain ⟨rfl, rfl⟩ := H
 go_enter Tryd.func30, Tryd.ntmps30
 go_wp2_with (first | ((with_reducible refine gG 83 (some 5) rfl rfl ?_); refine gC Tryd.func83 (spec_DrawFewestMoves.calls k _ _ l0 t158 t159 _ (cU HR0.out) HC0.out A2.out) ?_; rintro w3 hb; replace HB := hS HB hb; clear hb))
 go_ret2
 exact ⟨eW, bel HB⟩

/-! ### impl_unreflected: function 131 -/
def impl_unreflected.l0 : Nat → Int → Int → Option (Int)
 | 0, _, _ => none
 | k + 1, x0, x3 => if x0 > 0 then (impl_unreflected.l0 k (wrap64 (Int.tdiv x0 2)) (Go.bits .xor .i64 x3 x0)) else (some x3)
def impl_unreflected.f (k : Nat) (a0 : Int) : Option (Int) := impl_unreflected.l0 k a0 0
theorem impl_unreflected.mono_l : ∀ k, Mo (impl_unreflected.l0 k) (impl_unreflected.l0 (k + 1))
 | 0 => m0
 | k + 1 => by
  have ih0 := impl_unreflected.mono_l k
  (repeat refine mE fun _ => ?_) <;> first | (unfold impl_unreflected.l0; exact mG)
instance impl_unreflected.mI (k : Nat) : Mo (impl_unreflected.f k) (impl_unreflected.f (k + 1)) := by
 have ih0 := impl_unreflected.mono_l k
 (repeat refine mE fun _ => ?_); unfold impl_unreflected.f; exact mG
theorem impl_unreflected.mono : ∀ a0 k, LeO (impl_unreflected.f k a0) (impl_unreflected.f (k + 1) a0) := fun a0 k => (impl_unreflected.mI k).out a0
set_option maxHeartbeats 8000000 in
set_option maxRecDepth 100000 in
theorem impl_unreflected.calls (k : Nat) (a0 : Int) (r : Int) (w : World) (h : impl_unreflected.f k a0 = some r) :
  Calls Tryd.prog 131 #[.int .i64 a0] w fun e w' => e = .returned (.int .i64 r) ∧ Drawn0 w w' := by
 have H := h
 clear h; unfold impl_unreflected.f at H
 have H' := aM H
 clear H
 go_enter Tryd.func131, Tryd.ntmps131
 go_wp2
 go_loopg [0, 3] k (fun kq v0 v3 w' => ∃ (x0_1 : Int) (x3_1 : Int), v0 = .int .i64 x0_1 ∧ v3 = .int .i64 x3_1 ∧ Aside0 (impl_unreflected.l0 kq x0_1 x3_1 = some r) ∧ Aside0 (kq ≤ k) ∧ Drawn0 w w')
 case atStart => exact ⟨(a0), (0), rF, rF, H', kR, d0⟩
 case round =>
  clear H'
  obtain ⟨x0_1, x3_1, rfl, rfl, HA, HK1, ⟨m1, rfl⟩⟩ := hrel
  obtain rfl | ⟨k1, rfl⟩ := fz gk
  ·exact zA HA
  have H := HA.out
  clear HA
  simp only [impl_unreflected.l0] at H
  refine iI H ?_ ?_ <;> clear H <;> intro c2 H
  ·have c2b0 := gT c2
   clear c2
   have H' := aM H
   clear H
   go_wp2
   go_roundg k1
   case measure => have := HK1.out; omega
   case rel => exact ⟨(wrap64 (Int.tdiv x0_1 2)), (Go.bits .xor .i64 x3_1 x0_1), rF, rF, H', ⟨by have := HK1.out; omega⟩, d0⟩
  have c2b0 := gF c2
  clear c2
  obtain rfl := Option.some.inj H
  go_wp2
  go_ret
  exact ⟨rF, d0⟩

/-! ### impl_bits: function 132 -/
def impl_bits.l0 : Nat → ByteArray → Int → Int → Option (Int)
 | 0, _, _, _ => none
 | k + 1, x0, x3, x4 => if x4 ≥ 0 then (if 0 ≤ x4 then (if x4 < (x0.size : Int) then (impl_bits.l0 k x0 (wrap64 ((wrap64 (2 * x3)) + (((bt x0 x4) - 48) % 256))) (wrap64 (x4 - 1))) else (none)) else (none)) else (some x3)
def impl_bits.f (k : Nat) (a0 : ByteArray) : Option (Int) := impl_bits.l0 k a0 0 (wrap64 ((a0.size : Int) - 1))
theorem impl_bits.mono_l : ∀ k, Mo (impl_bits.l0 k) (impl_bits.l0 (k + 1))
 | 0 => m0
 | k + 1 => by
  have ih0 := impl_bits.mono_l k
  (repeat refine mE fun _ => ?_) <;> first | (unfold impl_bits.l0; exact mG)
instance impl_bits.mI (k : Nat) : Mo (impl_bits.f k) (impl_bits.f (k + 1)) := by
 have ih0 := impl_bits.mono_l k
 (repeat refine mE fun _ => ?_); unfold impl_bits.f; exact mG
theorem impl_bits.mono : ∀ a0 k, LeO (impl_bits.f k a0) (impl_bits.f (k + 1) a0) := fun a0 k => (impl_bits.mI k).out a0
set_option maxHeartbeats 8000000 in
set_option maxRecDepth 100000 in
theorem impl_bits.calls (k : Nat) (a0 : ByteArray) (r : Int) (w : World) (h : impl_bits.f k a0 = some r) :
  Calls Tryd.prog 132 #[.string a0] w fun e w' => e = .returned (.int .i64 r) ∧ Drawn0 w w' := by
 have H := h
 clear h; unfold impl_bits.f at H
 have H' := aM H
 clear H
 go_enter Tryd.func132, Tryd.ntmps132
 go_wp2
 go_loopg [3, 4] k (fun kq v3 v4 w' => ∃ (x3_1 : Int) (x4_1 : Int), v3 = .int .i64 x3_1 ∧ v4 = .int .i64 x4_1 ∧ Aside0 (impl_bits.l0 kq a0 x3_1 x4_1 = some r) ∧ Aside0 (kq ≤ k) ∧ Drawn0 w w')
 case atStart => exact ⟨(0), (wrap64 ((a0.size : Int) - 1)), rF, rF, H', kR, d0⟩
 case round =>
  clear H'
  obtain ⟨x3_1, x4_1, rfl, rfl, HA, HK1, ⟨m1, rfl⟩⟩ := hrel
  obtain rfl | ⟨k1, rfl⟩ := fz gk
  ·exact zA HA
  have H := HA.out
  clear HA
  simp only [impl_bits.l0] at H
  refine iI H ?_ ?_ <;> clear H <;> intro c2 H
  ·have c2b0 := hT c2
   clear c2
   refine iY H ?_; clear H; intro c3 H
   have c3b0 := dT c3
   clear c3
   refine iY H ?_; clear H; intro c4 H
   have c4b0 := dT c4
   clear c4
   have H' := aM H
   clear H
   have p5 : 0 ≤ (x4_1 : Int) := oD
   have q5 : x4_1 < (a0.size : Int) := oD
   have hx5 := bt_at a0 x4_1
   replace p5 := eq_true p5
   replace q5 := eq_true q5
   go_wp2
   go_roundg k1
   case measure => have := HK1.out; omega
   case rel => exact ⟨(wrap64 ((wrap64 (2 * x3_1)) + (((bt a0 x4_1) - 48) % 256))), (wrap64 (x4_1 - 1)), rF, rF, H', ⟨by have := HK1.out; omega⟩, d0⟩
  have c2b0 := hF c2
  clear c2
  obtain rfl := Option.some.inj H
  go_wp2
  go_ret
  exact ⟨rF, d0⟩

/-! ### impl_number: function 75 -/
def impl_number.f (k : Nat) (a0 : ByteArray) : Option (Int) := (impl_bits.f k a0).bind fun t160 => ((impl_unreflected.f k t160).bind fun t161 => (some t161))
instance impl_number.mI (k : Nat) : Mo (impl_number.f k) (impl_number.f (k + 1)) := by
 (repeat refine mE fun _ => ?_); unfold impl_number.f; exact mG
theorem impl_number.mono : ∀ a0 k, LeO (impl_number.f k a0) (impl_number.f (k + 1) a0) := fun a0 k => (impl_number.mI k).out a0
set_option maxHeartbeats 8000000 in
set_option maxRecDepth 100000 in
theorem impl_number.calls (k : Nat) (a0 : ByteArray) (r : Int) (w : World) (h : impl_number.f k a0 = some r) :
  Calls Tryd.prog 75 #[.string a0] w fun e w' => e = .returned (.int .i64 r) ∧ Drawn0 w w' := by
 have H := h
 clear h; unfold impl_number.f at H
 replace H := bC H; obtain ⟨t160, A2, H⟩ := H
 replace H := bC H; obtain ⟨t161, A3, H⟩ := H
 obtain rfl := Option.some.inj H
 go_enter Tryd.func75, Tryd.ntmps75
 go_wp2_with (first | ((with_reducible refine gG 132 (some 4) rfl rfl ?_); refine gL Tryd.func132 #[.string a0] ?_; (with_reducible refine (impl_bits.calls k a0 t160 _ A2.out).mono ?_); rintro e w' ⟨rfl, ⟨nd, rfl⟩⟩; refine ⟨_, rfl, ?_⟩) | ((with_reducible refine gG 131 (some 5) rfl rfl ?_); refine gL Tryd.func131 #[.int .i64 t160] ?_; (with_reducible refine (impl_unreflected.calls k t160 t161 _ A3.out).mono ?_); rintro e w' ⟨rfl, ⟨nd, rfl⟩⟩; refine ⟨_, rfl, ?_⟩))
 go_ret
 exact ⟨rF, d0⟩

/-! ### impl_in: function 104 -/
def impl_in.f (a0 : Int) (a1 : Int) (a2 : Int) : Option (Bool) := if a0 ≥ a1 then (some (decide (a0 ≤ a2))) else (some false)
set_option maxHeartbeats 8000000 in
set_option maxRecDepth 100000 in
theorem impl_in.calls (a0 : Int) (a1 : Int) (a2 : Int) (r : Bool) (w : World) (h : impl_in.f a0 a1 a2 = some r) :
  Calls Tryd.prog 104 #[.int .i64 a0, .int .i64 a1, .int .i64 a2] w fun e w' => e = .returned (.bool r) ∧ Drawn0 w w' := by
 have H := h
 clear h; unfold impl_in.f at H
 refine iI H ?_ ?_ <;> clear H <;> intro c4 H
 ·have c4b0 := hT c4
  clear c4
  obtain rfl := Option.some.inj H
  go_enter Tryd.func104, Tryd.ntmps104
  go_wp2
  go_ret
  exact ⟨rF, d0⟩
 have c4b0 := hF c4
 clear c4
 obtain rfl := Option.some.inj H
 go_enter Tryd.func104, Tryd.ntmps104
 go_wp2
 go_ret
 exact ⟨rF, d0⟩

/-! ### strings_Trim: function 133 -/
-- by hand (wip/ext/Shelf2.tpl)
/-- For a cutset of ASCII signs: what is left of a text behind both ends are trimmed. -/
def strings_Trim.f (a0 a1 : ByteArray) : Option ByteArray := if a0.size ≤ 9223372036854775807 ∧ a1.size < 4294967281 ∧ (a1.data.toList.all fun b => b.toNat < 128) = true then some ⟨(Lib.trimS a0.data.toList a1.data.toList).toArray⟩ else none
theorem strings_Trim.calls (a0 a1 : ByteArray) (r : ByteArray) (w : World) (h : strings_Trim.f a0 a1 = some r) :
    Calls Tryd.prog 133 #[.string a0, .string a1] w fun e w' => e = .returned (.string r) ∧ Below w.heap.size w w' := by
 unfold strings_Trim.f at h
 split at h
 ·rename_i hc
  obtain rfl := Option.some.inj h
  refine Tryd.strings_Trim a0 a1 w hc.1 hc.2.1 (fun j b hb => ?_)
  have := List.all_eq_true.1 hc.2.2 b (List.mem_of_getElem? hb)
  simpa using this
 cases h

/-! ### impl_IsState: function 76 -/
def impl_IsState.f (a0 : ByteArray) : Option (Bool) := (impl_in.f (a0.size : Int) 1 20).bind fun t162 => (if t162 = true then ((strings_Trim.f a0 (⟨#[48, 49]⟩ : ByteArray)).bind fun t163 => (some (t163.toList == ([] : List UInt8)))) else (some false))
set_option maxHeartbeats 8000000 in
set_option maxRecDepth 100000 in
theorem impl_IsState.calls (a0 : ByteArray) (r : Bool) (w : World) (h : impl_IsState.f a0 = some r) :
  Calls Tryd.prog 76 #[.string a0] w fun e w' => e = .returned (.bool r) ∧ Below w.heap.size w w' := by
 have HB := aM (Below.refl w.heap.size w)
 have H := h
 clear h; unfold impl_IsState.f at H
 replace H := bC H; obtain ⟨t162, A2, H⟩ := H
 refine iB H ?_ ?_ <;> clear H <;> rintro rfl H
 ·replace H := bC H; obtain ⟨t163, A4, H⟩ := H
  obtain rfl := Option.some.inj H
  go_enter Tryd.func76, Tryd.ntmps76
  go_wp2_with (first | ((with_reducible refine gG 104 (some 5) rfl rfl ?_); refine gL Tryd.func104 #[.int .i64 (a0.size : Int), .int .i64 1, .int .i64 20] ?_; (with_reducible refine (impl_in.calls (a0.size : Int) 1 20 true _ A2.out).mono ?_); rintro e w' ⟨rfl, ⟨nd, rfl⟩⟩; refine ⟨_, rfl, ?_⟩) | (go_at_call 133; (with_reducible refine (strings_Trim.calls a0 (⟨#[48, 49]⟩ : ByteArray) t163 _ A4.out).mono ?_); rintro e w5 ⟨rfl, hb⟩; replace HB := hS HB hb; clear hb))
  go_ret
  exact ⟨eW, bel HB⟩
 obtain rfl := Option.some.inj H
 go_enter Tryd.func76, Tryd.ntmps76
 go_wp2_with (first | ((with_reducible refine gG 104 (some 5) rfl rfl ?_); refine gL Tryd.func104 #[.int .i64 (a0.size : Int), .int .i64 1, .int .i64 20] ?_; (with_reducible refine (impl_in.calls (a0.size : Int) 1 20 false _ A2.out).mono ?_); rintro e w' ⟨rfl, ⟨nd, rfl⟩⟩; refine ⟨_, rfl, ?_⟩))
 go_ret
 exact ⟨eW, bel HB⟩

/-! ### impl_alike: function 84 -/
def impl_alike.f (a0 : ByteArray) (a1 : ByteArray) : Option (Bool) := (impl_IsState.f a0).bind fun t164 => (if t164 = true then ((impl_IsState.f a1).bind fun t165 => (if t165 = true then (some ((a0.size : Int) == (a1.size : Int))) else (some false))) else (some false))
set_option maxHeartbeats 8000000 in
set_option maxRecDepth 100000 in
theorem impl_alike.calls (a0 : ByteArray) (a1 : ByteArray) (r : Bool) (w : World) (h : impl_alike.f a0 a1 = some r) :
  Calls Tryd.prog 84 #[.string a0, .string a1] w fun e w' => e = .returned (.bool r) ∧ Below w.heap.size w w' := by
 have HB := aM (Below.refl w.heap.size w)
 have H := h
 clear h; unfold impl_alike.f at H
 replace H := bC H; obtain ⟨t164, A3, H⟩ := H
 refine iB H ?_ ?_ <;> clear H <;> rintro rfl H
 ·replace H := bC H; obtain ⟨t165, A5, H⟩ := H
  refine iB H ?_ ?_ <;> clear H <;> rintro rfl H
  ·obtain rfl := Option.some.inj H
   go_enter Tryd.func84, Tryd.ntmps84
   go_wp2_with (first | ((with_reducible refine gG 76 (some 6) rfl rfl ?_); refine gC Tryd.func76 (impl_IsState.calls a0 true _ A3.out) ?_; rintro w7 hb; replace HB := hS HB hb; clear hb) | (go_at_call 76; (with_reducible refine (impl_IsState.calls a1 true _ A5.out).mono ?_); rintro e w8 ⟨rfl, hb⟩; replace HB := hS HB hb; clear hb))
   go_ret
   exact ⟨eW, bel HB⟩
  obtain rfl := Option.some.inj H
  go_enter Tryd.func84, Tryd.ntmps84
  go_wp2_with (first | ((with_reducible refine gG 76 (some 6) rfl rfl ?_); refine gC Tryd.func76 (impl_IsState.calls a0 true _ A3.out) ?_; rintro w9 hb; replace HB := hS HB hb; clear hb) | (go_at_call 76; (with_reducible refine (impl_IsState.calls a1 false _ A5.out).mono ?_); rintro e w10 ⟨rfl, hb⟩; replace HB := hS HB hb; clear hb))
  go_ret
  exact ⟨eW, bel HB⟩
 obtain rfl := Option.some.inj H
 go_enter Tryd.func84, Tryd.ntmps84
 go_wp2_with (first | ((with_reducible refine gG 76 (some 6) rfl rfl ?_); refine gC Tryd.func76 (impl_IsState.calls a0 false _ A3.out) ?_; rintro w11 hb; replace HB := hS HB hb; clear hb))
 go_ret
 exact ⟨eW, bel HB⟩

/-! ### impl_mean: function 95 -/
def impl_mean.f (a0 : Int) (a1 : Int) (a2 : Int) : Option (Int) := if a0 < a1 then (some (wrap64 ((wrap64 ((wrap64 (a2 - a0)) - (wrap64 (a2 - a1)))) * (wrap64 ((wrap64 (2 * (wrap64 (a2 - (wrap64 (a2 - a1)))))) - (wrap64 ((wrap64 (a2 - a0)) - (wrap64 (a2 - a1))))))))) else (some (wrap64 ((wrap64 (a0 - a1)) * (wrap64 ((wrap64 (2 * (wrap64 (a2 - a1)))) - (wrap64 (a0 - a1)))))))
set_option maxHeartbeats 8000000 in
set_option maxRecDepth 100000 in
theorem impl_mean.calls (a0 : Int) (a1 : Int) (a2 : Int) (r : Int) (w : World) (h : impl_mean.f a0 a1 a2 = some r) :
  Calls Tryd.prog 95 #[.int .i64 a0, .int .i64 a1, .int .i64 a2] w fun e w' => e = .returned (.int .i64 r) ∧ Drawn0 w w' := by
 have H := h
 clear h; unfold impl_mean.f at H
 refine iI H ?_ ?_ <;> clear H <;> intro c4 H
 ·have c4b0 := dT c4
  clear c4
  obtain rfl := Option.some.inj H
  go_enter Tryd.func95, Tryd.ntmps95
  go_wp2
  go_ret
  exact ⟨rF, d0⟩
 have c4b0 := dF c4
 clear c4
 obtain rfl := Option.some.inj H
 go_enter Tryd.func95, Tryd.ntmps95
 go_wp2
 go_ret
 exact ⟨rF, d0⟩

/-! ### impl_MeanFrom: function 31 -/
def impl_MeanFrom.f (k : Nat) (a0 : ByteArray) (a1 : ByteArray) : Option (Int × Bool) := (impl_alike.f a0 a1).bind fun t166 => (if t166 = true then ((impl_number.f k a0).bind fun t167 => ((impl_number.f k a1).bind fun t168 => ((impl_mean.f t167 t168 (wrap64 ((shl .i64 1 (a0.size : Int)) - 1))).bind fun t169 => (some (t169, true))))) else (some (0, false)))
instance impl_MeanFrom.mI (k : Nat) : Mo (impl_MeanFrom.f k) (impl_MeanFrom.f (k + 1)) := by
 (repeat refine mE fun _ => ?_); unfold impl_MeanFrom.f; exact mG
theorem impl_MeanFrom.mono : ∀ a0 a1 k, LeO (impl_MeanFrom.f k a0 a1) (impl_MeanFrom.f (k + 1) a0 a1) := fun a0 a1 k => (impl_MeanFrom.mI k).out a0 a1
set_option maxHeartbeats 8000000 in
set_option maxRecDepth 100000 in
theorem impl_MeanFrom.calls (k : Nat) (a0 : ByteArray) (a1 : ByteArray) (r1 : Int) (r2 : Bool) (w : World) (h : impl_MeanFrom.f k a0 a1 = some (r1, r2)) :
  Calls Tryd.prog 31 #[.string a0, .string a1] w fun e w' => e = .returned (.tuple #[.int .i64 r1, .bool r2]) ∧ Below w.heap.size w w' := by
 have HB := aM (Below.refl w.heap.size w)
 have H := h
 clear h; unfold impl_MeanFrom.f at H
 replace H := bC H; obtain ⟨t166, A3, H⟩ := H
 refine iB H ?_ ?_ <;> clear H <;> rintro rfl H
 ·replace H := bC H; obtain ⟨t167, A5, H⟩ := H
  replace H := bC H; obtain ⟨t168, A6, H⟩ := H
  obtain ⟨ji7, hji7⟩ := jN (shl .i64 1 (a0.size : Int))
  first | rw [hji7] at H | simp only [hji7] at H
  (try rw [hji7] at A3)
  (try rw [hji7] at A5)
  (try rw [hji7] at A6)
  have hji7_ : (IntKind.i64.wrap (1 * 2 ^ min (a0.size : Int).toNat 64)) = ji7 := hji7
  have hji7z : (a0.size : Int) ≤ 64 → (IntKind.i64.wrap (1 * 2 ^ (a0.size : Int).toNat)) = ji7 := shl_small hji7
  have hji7u : (IntKind.i64.wrap (2 ^ min (a0.size : Int).toNat 64)) = ji7 := by have h_ := hji7_; rw [Int.one_mul] at h_; exact h_
  have hji7v : (a0.size : Int) ≤ 64 → (IntKind.i64.wrap (2 ^ (a0.size : Int).toNat)) = ji7 := fun hle_ => by have h_ := hji7z hle_; rw [Int.one_mul] at h_; exact h_
  have hji7y : (wrap64 (1 * 2 ^ min (a0.size : Int).toNat 64)) = ji7 := (i64_w _).symm.trans hji7_
  have hji7q : wrap64 (2 ^ min a0.size 64) = ji7 := by have h_ := hji7y; rw [Int.one_mul, Int.toNat_natCast] at h_; exact h_
  have hji7p : IntKind.i64.wrap (2 ^ min a0.size 64) = ji7 := by have h_ := hji7u; rw [Int.toNat_natCast] at h_; exact h_
  have hji7x : (a0.size : Int) ≤ 64 → (wrap64 (1 * 2 ^ (a0.size : Int).toNat)) = ji7 := fun h_ => (i64_w _).symm.trans (hji7z h_)
  replace H := bC H; obtain ⟨t169, A8, H⟩ := H
  simp only [Option.some.injEq, Prod.mk.injEq] at H
  obtain ⟨rfl, rfl⟩ := H
  go_enter Tryd.func31, Tryd.ntmps31
  go_wp2_with (first | (go_at_call 84; (with_reducible refine (impl_alike.calls a0 a1 true _ A3.out).mono ?_); rintro e w9 ⟨rfl, hb⟩; replace HB := hS HB hb; clear hb) | (go_at_call 75; (with_reducible refine (impl_number.calls k a0 t167 _ A5.out).mono ?_); rintro e w' ⟨rfl, ⟨nd, rfl⟩⟩; (try exact nd2)) | (go_at_call 75; (with_reducible refine (impl_number.calls k a1 t168 _ A6.out).mono ?_); rintro e w' ⟨rfl, ⟨nd, rfl⟩⟩; (try exact nd2)) | (go_at_call 95; (with_reducible refine (impl_mean.calls t167 t168 (wrap64 ((ji7) - 1)) t169 _ A8.out).mono ?_); rintro e w' ⟨rfl, ⟨nd, rfl⟩⟩; (try exact nd2)))
  repeat (go_quiet (first | (go_at_call 84; (with_reducible refine (impl_alike.calls a0 a1 true _ A3.out).mono ?_); rintro e w9 ⟨rfl, hb⟩; replace HB := hS HB hb; clear hb) | (go_at_call 75; (with_reducible refine (impl_number.calls k a0 t167 _ A5.out).mono ?_); rintro e w' ⟨rfl, ⟨nd, rfl⟩⟩; (try exact nd2)) | (go_at_call 75; (with_reducible refine (impl_number.calls k a1 t168 _ A6.out).mono ?_); rintro e w' ⟨rfl, ⟨nd, rfl⟩⟩; (try exact nd2)) | (go_at_call 95; (with_reducible refine (impl_mean.calls t167 t168 (wrap64 ((ji7) - 1)) t169 _ A8.out).mono ?_); rintro e w' ⟨rfl, ⟨nd, rfl⟩⟩; (try exact nd2))); try go_wp2_with (first | (go_at_call 84; (with_reducible refine (impl_alike.calls a0 a1 true _ A3.out).mono ?_); rintro e w9 ⟨rfl, hb⟩; replace HB := hS HB hb; clear hb) | (go_at_call 75; (with_reducible refine (impl_number.calls k a0 t167 _ A5.out).mono ?_); rintro e w' ⟨rfl, ⟨nd, rfl⟩⟩; (try exact nd2)) | (go_at_call 75; (with_reducible refine (impl_number.calls k a1 t168 _ A6.out).mono ?_); rintro e w' ⟨rfl, ⟨nd, rfl⟩⟩; (try exact nd2)) | (go_at_call 95; (with_reducible refine (impl_mean.calls t167 t168 (wrap64 ((ji7) - 1)) t169 _ A8.out).mono ?_); rintro e w' ⟨rfl, ⟨nd, rfl⟩⟩; (try exact nd2))))
  go_ret2
  exact ⟨by first | rfl | (simp [errW_none, errW_some] <;> rfl) | (simp only [← hji7]; first | rfl | (simp [errW_none, errW_some] <;> rfl)) | (simp [*, errW_none, errW_some] <;> rfl), bel HB⟩
 simp only [Option.some.injEq, Prod.mk.injEq] at H
 obtain ⟨rfl, rfl⟩ := H
 go_enter Tryd.func31, Tryd.ntmps31
 go_wp2_with (first | (go_at_call 84; (with_reducible refine (impl_alike.calls a0 a1 false _ A3.out).mono ?_); rintro e w10 ⟨rfl, hb⟩; replace HB := hS HB hb; clear hb))
 repeat (go_quiet (first | (go_at_call 84; (with_reducible refine (impl_alike.calls a0 a1 false _ A3.out).mono ?_); rintro e w10 ⟨rfl, hb⟩; replace HB := hS HB hb; clear hb)); try go_wp2_with (first | (go_at_call 84; (with_reducible refine (impl_alike.calls a0 a1 false _ A3.out).mono ?_); rintro e w10 ⟨rfl, hb⟩; replace HB := hS HB hb; clear hb)))
 go_ret2
 exact ⟨eW, bel HB⟩

/-! ### spec_l1In: function 115 -/
def spec_l1In.f (a0 : Int) (a1 : Int) (a2 : Int) : Option (Bool) := if a0 ≥ a1 then (some (decide (a0 ≤ a2))) else (some false)
set_option maxHeartbeats 8000000 in
set_option maxRecDepth 100000 in
theorem spec_l1In.calls (a0 : Int) (a1 : Int) (a2 : Int) (r : Bool) (w : World) (h : spec_l1In.f a0 a1 a2 = some r) :
  Calls Tryd.prog 115 #[.int .i64 a0, .int .i64 a1, .int .i64 a2] w fun e w' => e = .returned (.bool r) ∧ Drawn0 w w' := by
 have H := h
 clear h; unfold spec_l1In.f at H
 refine iI H ?_ ?_ <;> clear H <;> intro c4 H
 ·have c4b0 := hT c4
  clear c4
  obtain rfl := Option.some.inj H
  go_enter Tryd.func115, Tryd.ntmps115
  go_wp2
  go_ret
  exact ⟨rF, d0⟩
 have c4b0 := hF c4
 clear c4
 obtain rfl := Option.some.inj H
 go_enter Tryd.func115, Tryd.ntmps115
 go_wp2
 go_ret
 exact ⟨rF, d0⟩

/-! ### spec_riGood: function 97 -/
def spec_riGood.l0 : Nat → ByteArray → Int → Option (Bool)
 | 0, _, _ => none
 | k + 1, x0, x3 => if x3 < (x0.size : Int) then (if 0 ≤ x3 then (if (bt x0 x3) = 48 then (spec_riGood.l0 k x0 (wrap64 (x3 + 1))) else (if (bt x0 x3) = 49 then (spec_riGood.l0 k x0 (wrap64 (x3 + 1))) else (some false))) else (none)) else (some true)
def spec_riGood.f (k : Nat) (a0 : ByteArray) : Option (Bool) := (spec_l1In.f (a0.size : Int) 1 20).bind fun t170 => (if t170 = true then (spec_riGood.l0 k a0 0) else (some false))
theorem spec_riGood.mono_l : ∀ k, Mo (spec_riGood.l0 k) (spec_riGood.l0 (k + 1))
 | 0 => m0
 | k + 1 => by
  have ih0 := spec_riGood.mono_l k
  (repeat refine mE fun _ => ?_) <;> first | (unfold spec_riGood.l0; exact mG)
instance spec_riGood.mI (k : Nat) : Mo (spec_riGood.f k) (spec_riGood.f (k + 1)) := by
 have ih0 := spec_riGood.mono_l k
 (repeat refine mE fun _ => ?_); unfold spec_riGood.f; exact mG
theorem spec_riGood.mono : ∀ a0 k, LeO (spec_riGood.f k a0) (spec_riGood.f (k + 1) a0) := fun a0 k => (spec_riGood.mI k).out a0
set_option maxHeartbeats 8000000 in
set_option maxRecDepth 100000 in
theorem spec_riGood.calls (k : Nat) (a0 : ByteArray) (r : Bool) (w : World) (h : spec_riGood.f k a0 = some r) :
  Calls Tryd.prog 97 #[.string a0] w fun e w' => e = .returned (.bool r) ∧ Drawn0 w w' := by
 have H := h
 clear h; unfold spec_riGood.f at H
 replace H := bC H; obtain ⟨t170, A2, H⟩ := H
 refine iB H ?_ ?_ <;> clear H <;> rintro rfl H
 ·have H' := aM H
  clear H
  go_enter Tryd.func97, Tryd.ntmps97
  go_wp2_with (first | ((with_reducible refine gG 115 (some 6) rfl rfl ?_); refine gL Tryd.func115 #[.int .i64 (a0.size : Int), .int .i64 1, .int .i64 20] ?_; (with_reducible refine (spec_l1In.calls (a0.size : Int) 1 20 true _ A2.out).mono ?_); rintro e w' ⟨rfl, ⟨nd, rfl⟩⟩; refine ⟨_, rfl, ?_⟩))
  go_loopg [3] k (fun kq v3 w' => ∃ (x3_1 : Int), v3 = .int .i64 x3_1 ∧ Aside0 (spec_riGood.l0 kq a0 x3_1 = some r) ∧ Aside0 (kq ≤ k) ∧ Drawn0 w w')
  case atStart => exact ⟨(0), rF, H', kR, d0⟩
  case round =>
   clear H'
   obtain ⟨x3_1, rfl, HA, HK1, ⟨m1, rfl⟩⟩ := hrel
   obtain rfl | ⟨k1, rfl⟩ := fz gk
   ·exact zA HA
   have H := HA.out
   clear HA
   simp only [spec_riGood.l0] at H
   refine iI H ?_ ?_ <;> clear H <;> intro c4 H
   ·have c4b0 := dT c4
    clear c4
    refine iY H ?_; clear H; intro c5 H
    have c5b0 := dT c5
    clear c5
    refine iI H ?_ ?_ <;> clear H <;> intro c7 H
    ·have c7b0 := qT c7
     have c7b1 := nF c7
     clear c7
     have H' := aM H
     clear H
     have p6 : 0 ≤ (x3_1 : Int) := oD
     have q6 : x3_1 < (a0.size : Int) := oD
     have hx6 := bt_at a0 x3_1
     replace p6 := eq_true p6
     replace q6 := eq_true q6
     go_wp2
     go_roundg k1
     case measure => have := HK1.out; omega
     case rel => exact ⟨(wrap64 (x3_1 + 1)), rF, H', ⟨by have := HK1.out; omega⟩, d0⟩
    have c7b0 := qF c7
    have c7b1 := nT c7
    refine iI H ?_ ?_ <;> clear H <;> intro c9 H
    ·have c9b0 := qT c9
     have c9b1 := nF c9
     clear c9
     have H' := aM H
     clear H
     have p6 : 0 ≤ (x3_1 : Int) := oD
     have q6 : x3_1 < (a0.size : Int) := oD
     have hx6 := bt_at a0 x3_1
     replace p6 := eq_true p6
     replace q6 := eq_true q6
     have p8 : 0 ≤ (x3_1 : Int) := oD
     have q8 : x3_1 < (a0.size : Int) := oD
     have hx8 := bt_at a0 x3_1
     replace p8 := eq_true p8
     replace q8 := eq_true q8
     go_wp2
     go_roundg k1
     case measure => have := HK1.out; omega
     case rel => exact ⟨(wrap64 (x3_1 + 1)), rF, H', ⟨by have := HK1.out; omega⟩, d0⟩
    have c9b0 := qF c9
    have c9b1 := nT c9
    obtain rfl := Option.some.inj H
    have p6 : 0 ≤ (x3_1 : Int) := oD
    have q6 : x3_1 < (a0.size : Int) := oD
    have hx6 := bt_at a0 x3_1
    replace p6 := eq_true p6
    replace q6 := eq_true q6
    have p8 : 0 ≤ (x3_1 : Int) := oD
    have q8 : x3_1 < (a0.size : Int) := oD
    have hx8 := bt_at a0 x3_1
    replace p8 := eq_true p8
    replace q8 := eq_true q8
    go_wp2
    go_ret
    exact ⟨rF, d0⟩
   have c4b0 := dF c4
   clear c4
   obtain rfl := Option.some.inj H
   go_wp2
   go_ret
   exact ⟨rF, d0⟩
 obtain rfl := Option.some.inj H
 go_enter Tryd.func97, Tryd.ntmps97
 go_wp2_with (first | ((with_reducible refine gG 115 (some 6) rfl rfl ?_); refine gL Tryd.func115 #[.int .i64 (a0.size : Int), .int .i64 1, .int .i64 20] ?_; (with_reducible refine (spec_l1In.calls (a0.size : Int) 1 20 false _ A2.out).mono ?_); rintro e w' ⟨rfl, ⟨nd, rfl⟩⟩; refine ⟨_, rfl, ?_⟩))
 go_ret
 exact ⟨rF, d0⟩

/-! ### spec_riTwo: function 87 -/
def spec_riTwo.f (k : Nat) (a0 : ByteArray) (a1 : ByteArray) : Option (Bool) := (spec_riGood.f k a0).bind fun t171 => (if t171 = true then ((spec_riGood.f k a1).bind fun t172 => (if t172 = true then (some ((a0.size : Int) == (a1.size : Int))) else (some false))) else (some false))
instance spec_riTwo.mI (k : Nat) : Mo (spec_riTwo.f k) (spec_riTwo.f (k + 1)) := by
 (repeat refine mE fun _ => ?_); unfold spec_riTwo.f; exact mG
theorem spec_riTwo.mono : ∀ a0 a1 k, LeO (spec_riTwo.f k a0 a1) (spec_riTwo.f (k + 1) a0 a1) := fun a0 a1 k => (spec_riTwo.mI k).out a0 a1
set_option maxHeartbeats 8000000 in
set_option maxRecDepth 100000 in
theorem spec_riTwo.calls (k : Nat) (a0 : ByteArray) (a1 : ByteArray) (r : Bool) (w : World) (h : spec_riTwo.f k a0 a1 = some r) :
  Calls Tryd.prog 87 #[.string a0, .string a1] w fun e w' => e = .returned (.bool r) ∧ Drawn0 w w' := by
 have H := h
 clear h; unfold spec_riTwo.f at H
 replace H := bC H; obtain ⟨t171, A3, H⟩ := H
 refine iB H ?_ ?_ <;> clear H <;> rintro rfl H
 ·replace H := bC H; obtain ⟨t172, A5, H⟩ := H
  refine iB H ?_ ?_ <;> clear H <;> rintro rfl H
  ·obtain rfl := Option.some.inj H
   go_enter Tryd.func87, Tryd.ntmps87
   go_wp2_with (first | ((with_reducible refine gG 97 (some 6) rfl rfl ?_); refine gL Tryd.func97 #[.string a0] ?_; (with_reducible refine (spec_riGood.calls k a0 true _ A3.out).mono ?_); rintro e w' ⟨rfl, ⟨nd, rfl⟩⟩; refine ⟨_, rfl, ?_⟩) | (go_at_call 97; (with_reducible refine (spec_riGood.calls k a1 true _ A5.out).mono ?_); rintro e w' ⟨rfl, ⟨nd, rfl⟩⟩))
   go_ret
   exact ⟨rF, d0⟩
  obtain rfl := Option.some.inj H
  go_enter Tryd.func87, Tryd.ntmps87
  go_wp2_with (first | ((with_reducible refine gG 97 (some 6) rfl rfl ?_); refine gL Tryd.func97 #[.string a0] ?_; (with_reducible refine (spec_riGood.calls k a0 true _ A3.out).mono ?_); rintro e w' ⟨rfl, ⟨nd, rfl⟩⟩; refine ⟨_, rfl, ?_⟩) | (go_at_call 97; (with_reducible refine (spec_riGood.calls k a1 false _ A5.out).mono ?_); rintro e w' ⟨rfl, ⟨nd, rfl⟩⟩))
  go_ret
  exact ⟨rF, d0⟩
 obtain rfl := Option.some.inj H
 go_enter Tryd.func87, Tryd.ntmps87
 go_wp2_with (first | ((with_reducible refine gG 97 (some 6) rfl rfl ?_); refine gL Tryd.func97 #[.string a0] ?_; (with_reducible refine (spec_riGood.calls k a0 false _ A3.out).mono ?_); rintro e w' ⟨rfl, ⟨nd, rfl⟩⟩; refine ⟨_, rfl, ?_⟩))
 go_ret
 exact ⟨rF, d0⟩

/-! ### spec_riNumber: function 98 -/
def spec_riNumber.l0 : Nat → ByteArray → Int → Int → Int → Option (Int)
 | 0, _, _, _, _ => none
 | k + 1, x0, x3, x4, x5 => if x5 ≥ 0 then (if 0 ≤ x5 then (if x5 < (x0.size : Int) then (if (bt x0 x5) = 49 then (spec_riNumber.l0 k x0 (wrap64 ((wrap64 (2 * x3)) + (wrap64 (1 - x4)))) (wrap64 (1 - x4)) (wrap64 (x5 - 1))) else (spec_riNumber.l0 k x0 (wrap64 ((wrap64 (2 * x3)) + x4)) x4 (wrap64 (x5 - 1)))) else (none)) else (none)) else (some x3)
def spec_riNumber.f (k : Nat) (a0 : ByteArray) : Option (Int) := spec_riNumber.l0 k a0 0 0 (wrap64 ((a0.size : Int) - 1))
theorem spec_riNumber.mono_l : ∀ k, Mo (spec_riNumber.l0 k) (spec_riNumber.l0 (k + 1))
 | 0 => m0
 | k + 1 => by
  have ih0 := spec_riNumber.mono_l k
  (repeat refine mE fun _ => ?_) <;> first | (unfold spec_riNumber.l0; exact mG)
instance spec_riNumber.mI (k : Nat) : Mo (spec_riNumber.f k) (spec_riNumber.f (k + 1)) := by
 have ih0 := spec_riNumber.mono_l k
 (repeat refine mE fun _ => ?_); unfold spec_riNumber.f; exact mG
theorem spec_riNumber.mono : ∀ a0 k, LeO (spec_riNumber.f k a0) (spec_riNumber.f (k + 1) a0) := fun a0 k => (spec_riNumber.mI k).out a0
set_option maxHeartbeats 8000000 in
set_option maxRecDepth 100000 in
theorem spec_riNumber.calls (k : Nat) (a0 : ByteArray) (r : Int) (w : World) (h : spec_riNumber.f k a0 = some r) :
  Calls Tryd.prog 98 #[.string a0] w fun e w' => e = .returned (.int .i64 r) ∧ Drawn0 w w' := by
 have H := h
 clear h; unfold spec_riNumber.f at H
 have H' := aM H
 clear H
 go_enter Tryd.func98, Tryd.ntmps98
 go_wp2
 go_loopg [3, 4, 5] k (fun kq v3 v4 v5 w' => ∃ (x3_1 : Int) (x4_1 : Int) (x5_1 : Int), v3 = .int .i64 x3_1 ∧ v4 = .int .i64 x4_1 ∧ v5 = .int .i64 x5_1 ∧ Aside0 (spec_riNumber.l0 kq a0 x3_1 x4_1 x5_1 = some r) ∧ Aside0 (kq ≤ k) ∧ Drawn0 w w')
 case atStart => exact ⟨(0), (0), (wrap64 ((a0.size : Int) - 1)), rF, rF, rF, H', kR, d0⟩
 case round =>
  clear H'
  obtain ⟨x3_1, x4_1, x5_1, rfl, rfl, rfl, HA, HK1, ⟨m1, rfl⟩⟩ := hrel
  obtain rfl | ⟨k1, rfl⟩ := fz gk
  ·exact zA HA
  have H := HA.out
  clear HA
  simp only [spec_riNumber.l0] at H
  refine iI H ?_ ?_ <;> clear H <;> intro c2 H
  ·have c2b0 := hT c2
   clear c2
   refine iY H ?_; clear H; intro c3 H
   have c3b0 := dT c3
   clear c3
   refine iY H ?_; clear H; intro c4 H
   have c4b0 := dT c4
   clear c4
   refine iI H ?_ ?_ <;> clear H <;> intro c6 H
   ·have c6b0 := qT c6
    have c6b1 := nF c6
    clear c6
    have H' := aM H
    clear H
    have p5 : 0 ≤ (x5_1 : Int) := oD
    have q5 : x5_1 < (a0.size : Int) := oD
    have hx5 := bt_at a0 x5_1
    replace p5 := eq_true p5
    replace q5 := eq_true q5
    go_wp2
    go_roundg k1
    case measure => have := HK1.out; omega
    case rel => exact ⟨(wrap64 ((wrap64 (2 * x3_1)) + (wrap64 (1 - x4_1)))), (wrap64 (1 - x4_1)), (wrap64 (x5_1 - 1)), rF, rF, rF, H', ⟨by have := HK1.out; omega⟩, d0⟩
   have c6b0 := qF c6
   have c6b1 := nT c6
   have H' := aM H
   clear H
   have p5 : 0 ≤ (x5_1 : Int) := oD
   have q5 : x5_1 < (a0.size : Int) := oD
   have hx5 := bt_at a0 x5_1
   replace p5 := eq_true p5
   replace q5 := eq_true q5
   go_wp2
   go_roundg k1
   case measure => have := HK1.out; omega
   case rel => exact ⟨(wrap64 ((wrap64 (2 * x3_1)) + x4_1)), (x4_1), (wrap64 (x5_1 - 1)), rF, rF, rF, H', ⟨by have := HK1.out; omega⟩, d0⟩
  have c2b0 := hF c2
  clear c2
  obtain rfl := Option.some.inj H
  go_wp2
  go_ret
  exact ⟨rF, d0⟩

/-! ### spec_waNumbers: function 88 -/
def spec_waNumbers.f (k : Nat) (a0 : ByteArray) (a1 : ByteArray) : Option (Int × Int × Int) := (spec_riNumber.f k a0).bind fun t173 => ((spec_riNumber.f k a1).bind fun t174 => (some (t173, t174, wrap64 ((shl .i64 1 (a0.size : Int)) - 1))))
instance spec_waNumbers.mI (k : Nat) : Mo (spec_waNumbers.f k) (spec_waNumbers.f (k + 1)) := by
 (repeat refine mE fun _ => ?_); unfold spec_waNumbers.f; exact mG
theorem spec_waNumbers.mono : ∀ a0 a1 k, LeO (spec_waNumbers.f k a0 a1) (spec_waNumbers.f (k + 1) a0 a1) := fun a0 a1 k => (spec_waNumbers.mI k).out a0 a1
set_option maxHeartbeats 8000000 in
set_option maxRecDepth 100000 in
theorem spec_waNumbers.calls (k : Nat) (a0 : ByteArray) (a1 : ByteArray) (r1 : Int) (r2 : Int) (r3 : Int) (w : World) (h : spec_waNumbers.f k a0 a1 = some (r1, r2, r3)) :
  Calls Tryd.prog 88 #[.string a0, .string a1] w fun e w' => e = .returned (.tuple #[.int .i64 r1, .int .i64 r2, .int .i64 r3]) ∧ Drawn0 w w' := by
 have H := h
 clear h; unfold spec_waNumbers.f at H
 replace H := bC H; obtain ⟨t173, A3, H⟩ := H
 replace H := bC H; obtain ⟨t174, A4, H⟩ := H
 obtain ⟨ji5, hji5⟩ := jN (shl .i64 1 (a0.size : Int))
 first | rw [hji5] at H | simp only [hji5] at H
 (try rw [hji5] at A3)
 (try rw [hji5] at A4)
 have hji5_ : (IntKind.i64.wrap (1 * 2 ^ min (a0.size : Int).toNat 64)) = ji5 := hji5
 have hji5z : (a0.size : Int) ≤ 64 → (IntKind.i64.wrap (1 * 2 ^ (a0.size : Int).toNat)) = ji5 := shl_small hji5
 have hji5u : (IntKind.i64.wrap (2 ^ min (a0.size : Int).toNat 64)) = ji5 := by have h_ := hji5_; rw [Int.one_mul] at h_; exact h_
 have hji5v : (a0.size : Int) ≤ 64 → (IntKind.i64.wrap (2 ^ (a0.size : Int).toNat)) = ji5 := fun hle_ => by have h_ := hji5z hle_; rw [Int.one_mul] at h_; exact h_
 have hji5y : (wrap64 (1 * 2 ^ min (a0.size : Int).toNat 64)) = ji5 := (i64_w _).symm.trans hji5_
 have hji5q : wrap64 (2 ^ min a0.size 64) = ji5 := by have h_ := hji5y; rw [Int.one_mul, Int.toNat_natCast] at h_; exact h_
 have hji5p : IntKind.i64.wrap (2 ^ min a0.size 64) = ji5 := by have h_ := hji5u; rw [Int.toNat_natCast] at h_; exact h_
 have hji5x : (a0.size : Int) ≤ 64 → (wrap64 (1 * 2 ^ (a0.size : Int).toNat)) = ji5 := fun h_ => (i64_w _).symm.trans (hji5z h_)
 simp only [Option.some.injEq, Prod.mk.injEq] at H
 obtain ⟨rfl, rfl, rfl⟩ := H
 go_enter Tryd.func88, Tryd.ntmps88
 go_wp2_with (first | (go_at_call 98; (with_reducible refine (spec_riNumber.calls k a0 t173 _ A3.out).mono ?_); rintro e w' ⟨rfl, ⟨nd, rfl⟩⟩; (try exact nd2)) | (go_at_call 98; (with_reducible refine (spec_riNumber.calls k a1 t174 _ A4.out).mono ?_); rintro e w' ⟨rfl, ⟨nd, rfl⟩⟩; (try exact nd2)))
 repeat (go_quiet (first | (go_at_call 98; (with_reducible refine (spec_riNumber.calls k a0 t173 _ A3.out).mono ?_); rintro e w' ⟨rfl, ⟨nd, rfl⟩⟩; (try exact nd2)) | (go_at_call 98; (with_reducible refine (spec_riNumber.calls k a1 t174 _ A4.out).mono ?_); rintro e w' ⟨rfl, ⟨nd, rfl⟩⟩; (try exact nd2))); try go_wp2_with (first | (go_at_call 98; (with_reducible refine (spec_riNumber.calls k a0 t173 _ A3.out).mono ?_); rintro e w' ⟨rfl, ⟨nd, rfl⟩⟩; (try exact nd2)) | (go_at_call 98; (with_reducible refine (spec_riNumber.calls k a1 t174 _ A4.out).mono ?_); rintro e w' ⟨rfl, ⟨nd, rfl⟩⟩; (try exact nd2))))
 go_ret3
 exact ⟨by first | rfl | (simp; done) | (simp only [← hji5] <;> (first | rfl | simp)) | (simp [*]; done), d0⟩

end Go.Proofs.YtcogjabdddikjaaDoor.PWMn
