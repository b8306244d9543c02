-- squeezed (sq3.py); PRINTED by drive.py (a program of this session's, over the kit's print.py; wip/tools/drive.py). Lean checks it.
import Derived.Test.YtcogjabdddikjaaDoorQPWMnx0
import Derived.Test.YtcogjabdddikjaaDoorQRange
import Derived.Test.YtcogjabdddikjaaDoorQSq
namespace Go.Proofs.YtcogjabdddikjaaDoor.PWMn
open Go.RowKit Go.Proofs.YtcogjabdddikjaaDoorW.PrintWords Go.Proofs.YtcogjabdddikjaaDoorW.PrintLast Go.Proofs.YtcogjabdddikjaaDoorW.PrintMore
attribute [local go_sem] max2_int min2_int max_two min_two max_three min_three max_four min_four   -- for this text's walks alone
set_option linter.unusedVariables false
set_option linter.unusedSimpArgs false

/-! ### laws_big: function 6 -/
def laws_big.f (l0 : List Int) (l1 : List Int) : Option (Bool) := if (l0.length : Int) > 1048576 then (some true) else (some (decide ((l1.length : Int) > (wrap64 (1048576 - (l0.length : Int))))))
set_option maxHeartbeats 8000000 in
set_option maxRecDepth 100000 in
theorem laws_big.calls (A0 : Option Addr) (c0 : Nat) (l0 : List Int) (A1 : Option Addr) (c1 : Nat) (l1 : List Int) (r : Bool) (w : World) (hr0 : Kd.C (Kd.int .u8) w A0 l0.length l0) (hc0 : l0.length ≤ c0) (hr1 : Kd.C (Kd.int .u8) w A1 l1.length l1) (hc1 : l1.length ≤ c1) (h : laws_big.f l0 l1 = some r) :
  Calls Tryd.prog 6 #[.slice A0 l0.length c0, .slice A1 l1.length c1] w fun e w' => e = .returned (.bool r) ∧ Drawn0 w w' := by
 have HR0 := aM hr0
 have HC0 := aM hc0
 clear hr0 hc0
 have HR1 := aM hr1
 have HC1 := aM hc1
 clear hr1 hc1
 have H := h
 clear h; unfold laws_big.f at H
 refine iI H ?_ ?_ <;> clear H <;> intro c3 H
 ·have c3b0 := gT c3
  have c3b1 : decide (1048576 < l0.length) = true := decide_eq_true (by omega)
  clear c3
  obtain rfl := Option.some.inj H
  go_enter Tryd.func6, Tryd.ntmps6
  go_wp2
  go_ret
  exact ⟨rF, d0⟩
 have c3b0 := gF c3
 have c3b1 : decide (1048576 < l0.length) = false := decide_eq_false (by omega)
 clear c3
 obtain rfl := Option.some.inj H
 go_enter Tryd.func6, Tryd.ntmps6
 go_wp2
 go_ret
 exact ⟨rF, d0⟩

/-! ### laws_yTexts: function 18 -/
def laws_yTexts.l0 : Nat → List ByteArray → List ByteArray → Int → Int → Option (Bool)
 | 0, _, _, _, _ => none
 | k + 1, x0, x1, x12, x13 => if x13 < x12 then (if 0 ≤ x13 then (if x13 < (x0.length : Int) then (if x13 < (x1.length : Int) then (if (rdOf ByteArray.empty x0 x13).toList = (rdOf ByteArray.empty x1 x13).toList then (laws_yTexts.l0 k x0 x1 x12 (wrap64 (x13 + 1))) else (some false)) else (none)) else (none)) else (none)) else (some true)
def laws_yTexts.f (k : Nat) (l0 : List ByteArray) (l1 : List ByteArray) : Option (Bool) := if (l0.length : Int) = (l1.length : Int) then (laws_yTexts.l0 k l0 l1 (l0.length : Int) 0) else (some false)
theorem laws_yTexts.mono_l : ∀ k, Mo (laws_yTexts.l0 k) (laws_yTexts.l0 (k + 1))
 | 0 => m0
 | k + 1 => by
  have ih0 := laws_yTexts.mono_l k
  (repeat refine mE fun _ => ?_) <;> first | (unfold laws_yTexts.l0; exact mG)
instance laws_yTexts.mI (k : Nat) : Mo (laws_yTexts.f k) (laws_yTexts.f (k + 1)) := by
 have ih0 := laws_yTexts.mono_l k
 (repeat refine mE fun _ => ?_); unfold laws_yTexts.f; exact mG
theorem laws_yTexts.mono : ∀ a0 a1 k, LeO (laws_yTexts.f k a0 a1) (laws_yTexts.f (k + 1) a0 a1) := fun a0 a1 k => (laws_yTexts.mI k).out a0 a1
set_option maxHeartbeats 8000000 in
set_option maxRecDepth 100000 in
theorem laws_yTexts.calls (k : Nat) (A0 : Option Addr) (c0 : Nat) (l0 : List ByteArray) (A1 : Option Addr) (c1 : Nat) (l1 : List ByteArray) (r : Bool) (w : World) (hr0 : Kd.C Kd.string w A0 l0.length l0) (hc0 : l0.length ≤ c0) (hr1 : Kd.C Kd.string w A1 l1.length l1) (hc1 : l1.length ≤ c1) (h : laws_yTexts.f k l0 l1 = some r) :
  Calls Tryd.prog 18 #[.slice A0 l0.length c0, .slice A1 l1.length c1] w fun e w' => e = .returned (.bool r) ∧ Drawn0 w w' := by
 have HR0 := aM hr0
 have HC0 := aM hc0
 clear hr0 hc0
 have HR1 := aM hr1
 have HC1 := aM hc1
 clear hr1 hc1
 have H := h
 clear h; unfold laws_yTexts.f at H
 refine iI H ?_ ?_ <;> clear H <;> intro c3 H
 ·have c3b0 := qT c3
  have c3b1 := nF c3
  have c3b2 : (l0.length == l1.length) = true := by first | simpa using c3 | (simp at c3 ⊢; omega)
  clear c3
  have H' := aM H
  clear H
  go_enter Tryd.func18, Tryd.ntmps18
  go_wp2
  repeat (go_quiet (fail); try go_wp2)
  go_loopg [13] k (fun kq v13 w' => ∃ (x13_1 : Int), v13 = .int .i64 x13_1 ∧ Aside0 (laws_yTexts.l0 kq l0 l1 (l0.length : Int) x13_1 = some r) ∧ Aside0 (kq ≤ k) ∧ Drawn0 w w')
  case atStart => exact ⟨(0), rF, H', kR, d0⟩
  case round =>
   clear H'
   try clear c1;try clear c3b0;try clear c3b1;try clear c3b2
   obtain ⟨x13_1, rfl, HA, HK1, ⟨m1, rfl⟩⟩ := hrel
   obtain rfl | ⟨k1, rfl⟩ := fz gk
   ·exact zA HA
   have H := HA.out
   clear HA
   simp only [laws_yTexts.l0] at H
   refine iI H ?_ ?_ <;> clear H <;> intro c4 H
   ·have c4b0 := dT c4
    clear c4
    refine iY H ?_; clear H; intro c5 H
    have c5b0 := dT c5
    clear c5
    refine iY H ?_; clear H; intro c6 H
    have c6b0 := dT c6
    clear c6
    refine iY H ?_; clear H; intro c7 H
    have c7b0 := dT c7
    clear c7
    refine iI H ?_ ?_ <;> clear H <;> intro c8 H
    ·have c8b0 := qT c8
     have c8b1 := nF c8
     clear c8
     have H' := aM H
     clear H
     have p101 : 0 ≤ (x13_1 : Int) := oD
     have q101 : x13_1 < (l0.length : Int) := oD
     obtain ⟨ad101, e101, hx101_0⟩ := Kd.at_string HR0.out x13_1 p101 q101
     cases e101
     replace p101 := eq_true p101
     replace q101 := eq_true q101
     have p102 : 0 ≤ (x13_1 : Int) := oD
     have q102 : x13_1 < (l1.length : Int) := oD
     obtain ⟨ad102, e102, hx102_0⟩ := Kd.at_string HR1.out x13_1 p102 q102
     cases e102
     replace p102 := eq_true p102
     replace q102 := eq_true q102
     go_wp2
     repeat (go_quiet (fail); try go_wp2)
     go_roundg k1
     case measure => have := HK1.out; omega
     case rel => exact ⟨(wrap64 (x13_1 + 1)), rF, H', ⟨by have := HK1.out; omega⟩, d0⟩
    have c8b0 := qF c8
    have c8b1 := nT c8
    obtain rfl := Option.some.inj H
    have p101 : 0 ≤ (x13_1 : Int) := oD
    have q101 : x13_1 < (l0.length : Int) := oD
    obtain ⟨ad101, e101, hx101_0⟩ := Kd.at_string HR0.out x13_1 p101 q101
    cases e101
    replace p101 := eq_true p101
    replace q101 := eq_true q101
    have p102 : 0 ≤ (x13_1 : Int) := oD
    have q102 : x13_1 < (l1.length : Int) := oD
    obtain ⟨ad102, e102, hx102_0⟩ := Kd.at_string HR1.out x13_1 p102 q102
    cases e102
    replace p102 := eq_true p102
    replace q102 := eq_true q102
    go_wp2
    repeat (go_quiet (fail); try go_wp2)
    go_ret
    exact ⟨rF, d0⟩
   have c4b0 := dF c4
   clear c4
   obtain rfl := Option.some.inj H
   go_wp2
   repeat (go_quiet (fail); try go_wp2)
   go_ret
   exact ⟨rF, d0⟩
 have c3b0 := qF c3
 have c3b1 := nT c3
 have c3b2 : (l0.length == l1.length) = false := by first | simpa using c3 | (simp at c3 ⊢; omega)
 obtain rfl := Option.some.inj H
 go_enter Tryd.func18, Tryd.ntmps18
 go_wp2
 repeat (go_quiet (fail); try go_wp2)
 go_ret
 exact ⟨rF, d0⟩

/-- A state of type 87 at block g of W; what its slices lead to came in by w0. -/
def IsS87 (w0 W : World) (g : Nat) (f0 : List Int) (f1 : Int) (f2 : Int) : Prop := ∃ A0 c0, W.heap[g]? = some (.cells #[.slice A0 f0.length c0, .int .i64 f1, .int .u64 f2] 87 (0, 0)) ∧ w0.heap.size ≤ g ∧ Kd.C (Kd.int .u8) w0 A0 f0.length f0
theorem IsS87.grown {w0 W : World} {g : Nat} {f0 : List Int} {f1 : Int} {f2 : Int} {W1 : World} {row : Option Nat} (h : IsS87 w0 W g f0 f1 f2) (hw : W.grownBy W1 row) (hne : some g ≠ row) : IsS87 w0 W1 g f0 f1 f2 := by
 obtain ⟨A0, c0, hb, hg, hr0⟩ := h
 exact ⟨A0, c0, blk_grown hb hw hne, hg, hr0⟩
theorem IsS87.below {w0 W : World} {g : Nat} {f0 : List Int} {f1 : Int} {f2 : Int} {W1 : World} (h : IsS87 w0 W g f0 f1 f2) (hw : Below W.heap.size W W1) : IsS87 w0 W1 g f0 f1 f2 := h.grown (grown_of_below hw none) (by simp)
theorem IsS87.alloc {w0 W : World} {g : Nat} {f0 : List Int} {f1 : Int} {f2 : Int} (h : IsS87 w0 W g f0 f1 f2) (o : Obj) : IsS87 w0 (W.alloc o) g f0 f1 f2 := h.below (below_alloc (Below.refl _ _) o)
theorem IsS87.drewN {w0 W : World} {g : Nat} {f0 : List Int} {f1 : Int} {f2 : Int} (h : IsS87 w0 W g f0 f1 f2) (m : Nat) : IsS87 w0 (W.drewN m) g f0 f1 f2 := h
theorem IsS87.drew {w0 W : World} {g : Nat} {f0 : List Int} {f1 : Int} {f2 : Int} (h : IsS87 w0 W g f0 f1 f2) : IsS87 w0 W.drew g f0 f1 f2 := h
theorem IsS87.apart {w0 W : World} {g : Nat} {f0 : List Int} {f1 : Int} {f2 : Int} {α : Type} {d : Kd α} {e : Nat} {base : Nat} {ok : Nat → Prop} {v : Value} {xs : List α} (h : IsS87 w0 W g f0 f1 f2) (ho : d.R e W base ok v xs) (ht : ∀ q, q ∈ e :: d.E → q ≠ 87) : d.R e W base (fun k => ok k ∧ k ≠ g) v xs := by
 obtain ⟨A0, c0, hb, hg, hr0⟩ := h
 exact Kd.R_types ho hb ht
theorem IsS87.own_ne {w0 W : World} {g : Nat} {f0 : List Int} {f1 : Int} {f2 : Int} {α : Type} {d : Kd α} {e : Nat} {base : Nat} {ok : Nat → Prop} {v : Value} {xs : List α} (h : IsS87 w0 W g f0 f1 f2) (ho : d.R e W base ok v xs) (ht : e ≠ 87) : some g ≠ v.ownBlock := by
 obtain ⟨A0, c0, hb, hg, hr0⟩ := h
 exact Kd.R_ne ho hb ht
theorem IsS87.lt {w0 W : World} {g : Nat} {f0 : List Int} {f1 : Int} {f2 : Int} (h : IsS87 w0 W g f0 f1 f2) : g < W.heap.size := by
 obtain ⟨A0, c0, hb, hg, hr0⟩ := h
 exact blk_lt hb
theorem IsS87.ge {w0 W : World} {g : Nat} {f0 : List Int} {f1 : Int} {f2 : Int} (h : IsS87 w0 W g f0 f1 f2) : w0.heap.size ≤ g := by
 obtain ⟨A0, c0, hb, hg, hr0⟩ := h
 exact hg
theorem IsS87.far {w0 W : World} {g : Nat} {f0 : List Int} {f1 : Int} {f2 : Int} {p : Addr} (h : IsS87 w0 W g f0 f1 f2) (hne : g ≠ p.block) (u : Value) : IsS87 w0 (W.setCell p u) g f0 f1 f2 := by
 obtain ⟨A0, c0, hb, hg, hr0⟩ := h
 exact ⟨A0, c0, blk_far hb hne u, hg, hr0⟩
theorem cellS87_0 {W : World} {g : Nat} {A0 : Option Addr} {c0 : Nat} {f0 : List Int} {f1 : Int} {f2 : Int} (h : W.heap[g]? = some (.cells #[.slice A0 f0.length c0, .int .i64 f1, .int .u64 f2] 87 (0, 0))) : W.cell? ⟨g, 0, none⟩ = some (.slice A0 f0.length c0) := (blk_cell h 0).trans rfl
theorem cellS87_1 {W : World} {g : Nat} {A0 : Option Addr} {c0 : Nat} {f0 : List Int} {f1 : Int} {f2 : Int} (h : W.heap[g]? = some (.cells #[.slice A0 f0.length c0, .int .i64 f1, .int .u64 f2] 87 (0, 0))) : W.cell? ⟨g, 1, none⟩ = some (.int .i64 f1) := (blk_cell h 1).trans rfl
theorem IsS87.set_1 {w0 W : World} {g : Nat} {f0 : List Int} {f1 : Int} {f2 : Int} (h : IsS87 w0 W g f0 f1 f2) (x : Int) : IsS87 w0 (W.setCell ⟨g, 1, none⟩ (.int .i64 x)) g f0 x f2 := by
 obtain ⟨A0, c0, hb, hg, hr0⟩ := h
 exact ⟨A0, c0, by simpa using blk_set hb 1 (.int .i64 x), hg, hr0⟩
theorem cellS87_2 {W : World} {g : Nat} {A0 : Option Addr} {c0 : Nat} {f0 : List Int} {f1 : Int} {f2 : Int} (h : W.heap[g]? = some (.cells #[.slice A0 f0.length c0, .int .i64 f1, .int .u64 f2] 87 (0, 0))) : W.cell? ⟨g, 2, none⟩ = some (.int .u64 f2) := (blk_cell h 2).trans rfl
theorem IsS87.set_2 {w0 W : World} {g : Nat} {f0 : List Int} {f1 : Int} {f2 : Int} (h : IsS87 w0 W g f0 f1 f2) (x : Int) : IsS87 w0 (W.setCell ⟨g, 2, none⟩ (.int .u64 x)) g f0 f1 x := by
 obtain ⟨A0, c0, hb, hg, hr0⟩ := h
 exact ⟨A0, c0, by simpa using blk_set hb 2 (.int .u64 x), hg, hr0⟩
class IsC87 (w0 : outParam World) (W : World) (g : Nat) (f0 : outParam (List Int)) (f1 : outParam (Int)) (f2 : outParam (Int)) : Prop where out : IsS87 w0 W g f0 f1 f2
theorem sS87 {w0 W : World} {g : Nat} {f0 : List Int} {f1 : Int} {f2 : Int} (h : IsS87 w0 W g f0 f1 f2) : IsC87 w0 W g f0 f1 f2 := ⟨h⟩
theorem tS87 {w0 W : World} {g : Nat} {f0 : List Int} {f1 : Int} {f2 : Int} [h : IsC87 w0 W g f0 f1 f2] : IsS87 w0 W g f0 f1 f2 := h.out
theorem bS87 (g : Nat) {w0 W W1 : World} {f0 : List Int} {f1 : Int} {f2 : Int} (k : Below W.heap.size W W1) [h : IsC87 w0 W g f0 f1 f2] : IsC87 w0 W1 g f0 f1 f2 := ⟨IsS87.below h.out k⟩
instance IsS87.allocI {w0 W : World} {g : Nat} {f0 : List Int} {f1 : Int} {f2 : Int} [h : IsC87 w0 W g f0 f1 f2] (o : Obj) : IsC87 w0 (W.alloc o) g f0 f1 f2 := ⟨IsS87.alloc h.out o⟩
instance IsS87.drewNI {w0 W : World} {g : Nat} {f0 : List Int} {f1 : Int} {f2 : Int} [h : IsC87 w0 W g f0 f1 f2] (m : Nat) : IsC87 w0 (W.drewN m) g f0 f1 f2 := ⟨IsS87.drewN h.out m⟩
instance IsS87.drewI {w0 W : World} {g : Nat} {f0 : List Int} {f1 : Int} {f2 : Int} [h : IsC87 w0 W g f0 f1 f2] : IsC87 w0 W.drew g f0 f1 f2 := ⟨IsS87.drew h.out⟩
instance IsS87.ltI {w0 W : World} {g : Nat} {f0 : List Int} {f1 : Int} {f2 : Int} [h : IsC87 w0 W g f0 f1 f2] : LtH W g := ⟨IsS87.lt h.out⟩
theorem IsS87.geI {w0 W : World} {g : Nat} {f0 : List Int} {f1 : Int} {f2 : Int} (h : IsC87 w0 W g f0 f1 f2) : Ge w0 g := ⟨IsS87.ge h.out⟩
instance IsS87.farI {w0 W : World} {g : Nat} {f0 : List Int} {f1 : Int} {f2 : Int} {b j : Nat} [h : IsC87 w0 W g f0 f1 f2] [k : Ap g b] (u : Value) : IsC87 w0 (W.setCell ⟨b, j, none⟩ u) g f0 f1 f2 := ⟨IsS87.far h.out k.out u⟩
instance IsS87.set_1I {w0 W : World} {g : Nat} {f0 : List Int} {f1 : Int} {f2 : Int} [h : IsC87 w0 W g f0 f1 f2] (x : Int) : IsC87 w0 (W.setCell ⟨g, 1, none⟩ (.int .i64 x)) g f0 x f2 := ⟨IsS87.set_1 h.out x⟩
instance IsS87.set_2I {w0 W : World} {g : Nat} {f0 : List Int} {f1 : Int} {f2 : Int} [h : IsC87 w0 W g f0 f1 f2] (x : Int) : IsC87 w0 (W.setCell ⟨g, 2, none⟩ (.int .u64 x)) g f0 f1 x := ⟨IsS87.set_2 h.out x⟩

/-! ### spec_l1Cur_next: function 155 -/
def spec_l1Cur_next.f (s0_0 : List Int) (s0_1 : Int) (s0_2 : Int) : Option (Int × Int × Int) := if s0_1 < (s0_0.length : Int) then (if 0 ≤ s0_1 then (if (wrap64 (s0_1 + 1)) ≤ (s0_0.length : Int) then (some (wrap64 (rd s0_0 s0_1), wrap64 (s0_1 + 1), IntKind.u64.wrap ((IntKind.u64.wrap ((IntKind.u64.wrap (s0_2 * 6364136223846793005)) + (IntKind.u64.wrap (wrap64 (rd s0_0 s0_1))))) + 1442695040888963407))) else (some (wrap64 (Go.bits .and .u64 ((IntKind.u64.wrap ((IntKind.u64.wrap ((IntKind.u64.wrap (s0_2 * 6364136223846793005)) + (IntKind.u64.wrap (wrap64 (rd s0_0 s0_1))))) + 1442695040888963407)) / 1099511627776) 255), wrap64 (s0_1 + 1), IntKind.u64.wrap ((IntKind.u64.wrap ((IntKind.u64.wrap (s0_2 * 6364136223846793005)) + (IntKind.u64.wrap (wrap64 (rd s0_0 s0_1))))) + 1442695040888963407)))) else (none)) else (if (wrap64 (s0_1 + 1)) ≤ (s0_0.length : Int) then (some (0, wrap64 (s0_1 + 1), IntKind.u64.wrap ((IntKind.u64.wrap ((IntKind.u64.wrap (s0_2 * 6364136223846793005)) + 0)) + 1442695040888963407))) else (some (wrap64 (Go.bits .and .u64 ((IntKind.u64.wrap ((IntKind.u64.wrap ((IntKind.u64.wrap (s0_2 * 6364136223846793005)) + 0)) + 1442695040888963407)) / 1099511627776) 255), wrap64 (s0_1 + 1), IntKind.u64.wrap ((IntKind.u64.wrap ((IntKind.u64.wrap (s0_2 * 6364136223846793005)) + 0)) + 1442695040888963407))))
set_option maxHeartbeats 8000000 in
set_option maxRecDepth 100000 in
theorem spec_l1Cur_next.calls (g : Nat) (s0_0 : List Int) (s0_1 : Int) (s0_2 : Int) (r1 : Int) (r2 : Int) (r3 : Int) (w0 w : World) (hI : IsS87 w0 w g s0_0 s0_1 s0_2) (hB : Below w0.heap.size w0 w) (h : spec_l1Cur_next.f s0_0 s0_1 s0_2 = some (r1, r2, r3)) :
  Calls Tryd.prog 155 #[.pointer (some ⟨g, 0, none⟩)] w fun e w' => e = .returned (.int .i64 r1) ∧ IsS87 w0 w' g s0_0 r2 r3 ∧ Below w0.heap.size w0 w' ∧ KeepBut w w' g none := by
 have HI0 := sS87 hI
 have GI_HI0 := IsS87.geI HI0
 have HK := aM (KeepBut.refl w g none)
 have HL := aM hB.size
 clear hI
 have HW0 := aM hB.size
 have HB := aM hB
 clear hB
 have H := h
 clear h; unfold spec_l1Cur_next.f at H
 refine iI H ?_ ?_ <;> clear H <;> intro c2 H
 ·have c2b0 := dT c2
  clear c2
  refine iY H ?_; clear H; intro c3 H
  have c3b0 := dT c3
  clear c3
  refine iI H ?_ ?_ <;> clear H <;> intro c4 H
  ·have c4b0 := dT c4
   clear c4
   simp only [Option.some.injEq, Prod.mk.injEq] at H
   obtain ⟨rfl, rfl, rfl⟩ := H
   obtain ⟨ASz5_0, cSz5_0, HGz5, hgz5, HSz5_0⟩ := HI0.out
   have hcz5_0 := cellS87_0 HGz5
   have hcz5_1 := cellS87_1 HGz5
   have hcz5_2 := cellS87_2 HGz5
   have hfz5_1 := blk_frozen HGz5 1
   have hfz5_2 := blk_frozen HGz5 2
   clear HGz5 hgz5
   have p103 : 0 ≤ (s0_1 : Int) := oD
   have q103 : s0_1 < (s0_0.length : Int) := oD
   obtain ⟨ad103, e103, hx103_0⟩ := Kd.at_int HSz5_0 s0_1 p103 q103
   cases e103
   replace hx103_0 := pw_cell_below HB.out hx103_0
   replace p103 := eq_true p103
   replace q103 := eq_true q103
   go_enter Tryd.func155, Tryd.ntmps155
   go_wp2
   repeat (go_quiet (fail); try go_wp2)
   go_ret
   exact ⟨eW, by (try simp only [Int.add_zero]); repeat (first | (with_reducible first | exact HI0.out | apply IsS87.alloc | apply IsS87.drewN | apply IsS87.drew | apply IsS87.set_1 | apply IsS87.set_2) | exact HI0.out), bel HB, kp HK⟩
  have c4b0 := dF c4
  clear c4
  simp only [Option.some.injEq, Prod.mk.injEq] at H
  obtain ⟨rfl, rfl, rfl⟩ := H
  obtain ⟨ASz6_0, cSz6_0, HGz6, hgz6, HSz6_0⟩ := HI0.out
  have hcz6_0 := cellS87_0 HGz6
  have hcz6_1 := cellS87_1 HGz6
  have hcz6_2 := cellS87_2 HGz6
  have hfz6_1 := blk_frozen HGz6 1
  have hfz6_2 := blk_frozen HGz6 2
  clear HGz6 hgz6
  have p103 : 0 ≤ (s0_1 : Int) := oD
  have q103 : s0_1 < (s0_0.length : Int) := oD
  obtain ⟨ad103, e103, hx103_0⟩ := Kd.at_int HSz6_0 s0_1 p103 q103
  cases e103
  replace hx103_0 := pw_cell_below HB.out hx103_0
  replace p103 := eq_true p103
  replace q103 := eq_true q103
  go_enter Tryd.func155, Tryd.ntmps155
  go_wp2
  repeat (go_quiet (fail); try go_wp2)
  go_ret
  exact ⟨eW, by (try simp only [Int.add_zero]); repeat (first | (with_reducible first | exact HI0.out | apply IsS87.alloc | apply IsS87.drewN | apply IsS87.drew | apply IsS87.set_1 | apply IsS87.set_2) | exact HI0.out), bel HB, kp HK⟩
 have c2b0 := dF c2
 clear c2
 refine iI H ?_ ?_ <;> clear H <;> intro c7 H
 ·have c7b0 := dT c7
  clear c7
  simp only [Option.some.injEq, Prod.mk.injEq] at H
  obtain ⟨rfl, rfl, rfl⟩ := H
  obtain ⟨ASz8_0, cSz8_0, HGz8, hgz8, HSz8_0⟩ := HI0.out
  have hcz8_0 := cellS87_0 HGz8
  have hcz8_1 := cellS87_1 HGz8
  have hcz8_2 := cellS87_2 HGz8
  have hfz8_1 := blk_frozen HGz8 1
  have hfz8_2 := blk_frozen HGz8 2
  clear HGz8 hgz8
  go_enter Tryd.func155, Tryd.ntmps155
  go_wp2
  repeat (go_quiet (fail); try go_wp2)
  go_ret
  exact ⟨eW, by (try simp only [Int.add_zero]); repeat (first | (with_reducible first | exact HI0.out | apply IsS87.alloc | apply IsS87.drewN | apply IsS87.drew | apply IsS87.set_1 | apply IsS87.set_2) | exact HI0.out), bel HB, kp HK⟩
 have c7b0 := dF c7
 clear c7
 simp only [Option.some.injEq, Prod.mk.injEq] at H
 obtain ⟨rfl, rfl, rfl⟩ := H
 obtain ⟨ASz9_0, cSz9_0, HGz9, hgz9, HSz9_0⟩ := HI0.out
 have hcz9_0 := cellS87_0 HGz9
 have hcz9_1 := cellS87_1 HGz9
 have hcz9_2 := cellS87_2 HGz9
 have hfz9_1 := blk_frozen HGz9 1
 have hfz9_2 := blk_frozen HGz9 2
 clear HGz9 hgz9
 go_enter Tryd.func155, Tryd.ntmps155
 go_wp2
 repeat (go_quiet (fail); try go_wp2)
 go_ret
 exact ⟨eW, by (try simp only [Int.add_zero]); repeat (first | (with_reducible first | exact HI0.out | apply IsS87.alloc | apply IsS87.drewN | apply IsS87.drew | apply IsS87.set_1 | apply IsS87.set_2) | exact HI0.out), bel HB, kp HK⟩

/-! ### spec_l1Cur_pick: function 137 -/
def spec_l1Cur_pick.f (s0_0 : List Int) (s0_1 : Int) (s0_2 : Int) (a1 : Int) : Option (Int × Int × Int) := if a1 ≤ 1 then (some (0, s0_1, s0_2)) else ((spec_l1Cur_next.f s0_0 s0_1 s0_2).bind fun bt104 => (if a1 > 200 then ((spec_l1Cur_next.f s0_0 bt104.2.1 bt104.2.2).bind fun bt107 => (if a1 = 0 then (none) else (some (Int.tmod (wrap64 ((wrap64 (bt104.1 * 256)) + bt107.1)) a1, bt107.2.1, bt107.2.2)))) else (if a1 = 0 then (none) else (some (Int.tmod bt104.1 a1, bt104.2.1, bt104.2.2)))))
set_option maxHeartbeats 8000000 in
set_option maxRecDepth 100000 in
theorem spec_l1Cur_pick.calls (g : Nat) (s0_0 : List Int) (s0_1 : Int) (s0_2 : Int) (a1 : Int) (r1 : Int) (r2 : Int) (r3 : Int) (w0 w : World) (hI : IsS87 w0 w g s0_0 s0_1 s0_2) (hB : Below w0.heap.size w0 w) (h : spec_l1Cur_pick.f s0_0 s0_1 s0_2 a1 = some (r1, r2, r3)) :
  Calls Tryd.prog 137 #[.pointer (some ⟨g, 0, none⟩), .int .i64 a1] w fun e w' => e = .returned (.int .i64 r1) ∧ IsS87 w0 w' g s0_0 r2 r3 ∧ Below w0.heap.size w0 w' ∧ KeepBut w w' g none := by
 have HI0 := sS87 hI
 have GI_HI0 := IsS87.geI HI0
 have HK := aM (KeepBut.refl w g none)
 have HL := aM hB.size
 clear hI
 have HW0 := aM hB.size
 have HB := aM hB
 clear hB
 have H := h
 clear h; unfold spec_l1Cur_pick.f at H
 refine iI H ?_ ?_ <;> clear H <;> intro c3 H
 ·have c3b0 := dT c3
  clear c3
  simp only [Option.some.injEq, Prod.mk.injEq] at H
  obtain ⟨rfl, rfl, rfl⟩ := H
  go_enter Tryd.func137, Tryd.ntmps137
  go_wp2
  go_ret
  exact ⟨eW, tS87, bel HB, kp HK⟩
 have c3b0 := dF c3
 clear c3
 replace H := bC H; obtain ⟨⟨t104, t105, t106⟩, A4, H⟩ := H; try dsimp only at H
 refine iI H ?_ ?_ <;> clear H <;> intro c5 H
 ·have c5b0 := gT c5
  clear c5
  replace H := bC H; obtain ⟨⟨t107, t108, t109⟩, A6, H⟩ := H; try dsimp only at H
  refine iN H ?_; clear H; intro c7 H
  have c7b0 := qF c7
  have c7b1 := nT c7
  simp only [Option.some.injEq, Prod.mk.injEq] at H
  obtain ⟨rfl, rfl, rfl⟩ := H
  go_enter Tryd.func137, Tryd.ntmps137
  go_wp2_with (first | ((with_reducible refine gG 155 (some 9) rfl rfl ?_); refine gC Tryd.func155 (spec_l1Cur_next.calls g s0_0 s0_1 s0_2 t104 t105 t106 w0 _ tS87 (bel HB) A4.out) ?_; rintro w8 ⟨hi, hb, hk⟩; replace HK := kT HK hk; replace HB := aM (hb); replace HI0 := sS87 (hi); clear hb hk hi) | ((with_reducible refine gG 155 (some 15) rfl rfl ?_); refine gC Tryd.func155 (spec_l1Cur_next.calls g s0_0 t105 t106 t107 t108 t109 w0 _ tS87 (bel HB) A6.out) ?_; rintro w9 ⟨hi, hb, hk⟩; replace HK := kT HK hk; replace HB := aM (hb); replace HI0 := sS87 (hi); clear hb hk hi))
  go_ret
  exact ⟨eW, tS87, bel HB, kp HK⟩
 have c5b0 := gF c5
 clear c5
 refine iN H ?_; clear H; intro c10 H
 have c10b0 := qF c10
 have c10b1 := nT c10
 simp only [Option.some.injEq, Prod.mk.injEq] at H
 obtain ⟨rfl, rfl, rfl⟩ := H
 go_enter Tryd.func137, Tryd.ntmps137
 go_wp2_with (first | ((with_reducible refine gG 155 (some 9) rfl rfl ?_); refine gC Tryd.func155 (spec_l1Cur_next.calls g s0_0 s0_1 s0_2 t104 t105 t106 w0 _ tS87 (bel HB) A4.out) ?_; rintro w11 ⟨hi, hb, hk⟩; replace HK := kT HK hk; replace HB := aM (hb); replace HI0 := sS87 (hi); clear hb hk hi))
 go_ret
 exact ⟨eW, tS87, bel HB, kp HK⟩

/-! ### spec_l1Cur_of: function 103 -/
def spec_l1Cur_of.f (s0_0 : List Int) (s0_1 : Int) (s0_2 : Int) (l1 : List ByteArray) : Option (ByteArray × Int × Int) := (spec_l1Cur_pick.f s0_0 s0_1 s0_2 (l1.length : Int)).bind fun bt110 => (if 0 ≤ bt110.1 then (if bt110.1 < (l1.length : Int) then (some (rdOf ByteArray.empty l1 bt110.1, bt110.2.1, bt110.2.2)) else (none)) else (none))
set_option maxHeartbeats 8000000 in
set_option maxRecDepth 100000 in
theorem spec_l1Cur_of.calls (g : Nat) (s0_0 : List Int) (s0_1 : Int) (s0_2 : Int) (A1 : Option Addr) (c1 : Nat) (l1 : List ByteArray) (r1 : ByteArray) (r2 : Int) (r3 : Int) (w0 w : World) (hI : IsS87 w0 w g s0_0 s0_1 s0_2) (hB : Below w0.heap.size w0 w) (hr1 : Kd.C Kd.string w A1 l1.length l1) (hc1 : l1.length ≤ c1) (hf1 : ∀ ad, A1 = some ad → 0 < l1.length → ad.block ≠ g) (h : spec_l1Cur_of.f s0_0 s0_1 s0_2 l1 = some (r1, r2, r3)) :
  Calls Tryd.prog 103 #[.pointer (some ⟨g, 0, none⟩), .slice A1 l1.length c1] w fun e w' => e = .returned (.string r1) ∧ IsS87 w0 w' g s0_0 r2 r3 ∧ Below w0.heap.size w0 w' ∧ KeepBut w w' g none := by
 have HR1 := aM hr1
 have HC1 := aM hc1
 clear hr1 hc1
 have HI0 := sS87 hI
 have GI_HI0 := IsS87.geI HI0
 have HK := aM (KeepBut.refl w g none)
 have HL := aM hB.size
 clear hI
 have HW0 := aM hB.size
 have HB := aM hB
 clear hB
 have H := h
 clear h; unfold spec_l1Cur_of.f at H
 replace H := bC H; obtain ⟨⟨t110, t111, t112⟩, A3, H⟩ := H; try dsimp only at H
 refine iY H ?_; clear H; intro c4 H
 have c4b0 := dT c4
 clear c4
 refine iY H ?_; clear H; intro c5 H
 have c5b0 := dT c5
 clear c5
 simp only [Option.some.injEq, Prod.mk.injEq] at H
 obtain ⟨rfl, rfl, rfl⟩ := H
 go_enter Tryd.func103, Tryd.ntmps103
 go_wp2_with (first | ((with_reducible refine gG 137 (some 9) rfl rfl ?_); refine gC Tryd.func137 (spec_l1Cur_pick.calls g s0_0 s0_1 s0_2 (l1.length : Int) t110 t111 t112 w0 _ tS87 (bel HB) A3.out) ?_; rintro w6 ⟨hi, hb, hk⟩; replace HK := kT HK hk; replace HB := aM (hb); replace HI0 := sS87 (hi); clear hb hk hi; have p113 : 0 ≤ (t110 : Int) := oD; have q113 : t110 < (l1.length : Int) := oD; obtain ⟨ad113, e113, hx113_0⟩ := Kd.at_string HR1.out t110 p113 q113; cases e113; replace hx113_0 := keep_cell HK.out hx113_0 (by first | (rw [add_block]; exact hf1 _ rfl (by omega)) | exact hf1 _ rfl (by omega) | exact hf1 ad113 rfl (by omega)); replace p113 := eq_true p113; replace q113 := eq_true q113))
 go_ret
 exact ⟨eW, tS87, bel HB, kp HK⟩

/-! ### spec_l1Cur_one: function 140 -/
def spec_l1Cur_one.f (s0_0 : List Int) (s0_1 : Int) (s0_2 : Int) (a1 : Int) : Option (Bool × Int × Int) := (spec_l1Cur_pick.f s0_0 s0_1 s0_2 a1).bind fun bt114 => (some ((bt114.1 == 0), bt114.2.1, bt114.2.2))
set_option maxHeartbeats 8000000 in
set_option maxRecDepth 100000 in
theorem spec_l1Cur_one.calls (g : Nat) (s0_0 : List Int) (s0_1 : Int) (s0_2 : Int) (a1 : Int) (r1 : Bool) (r2 : Int) (r3 : Int) (w0 w : World) (hI : IsS87 w0 w g s0_0 s0_1 s0_2) (hB : Below w0.heap.size w0 w) (h : spec_l1Cur_one.f s0_0 s0_1 s0_2 a1 = some (r1, r2, r3)) :
  Calls Tryd.prog 140 #[.pointer (some ⟨g, 0, none⟩), .int .i64 a1] w fun e w' => e = .returned (.bool r1) ∧ IsS87 w0 w' g s0_0 r2 r3 ∧ Below w0.heap.size w0 w' ∧ KeepBut w w' g none := by
 have HI0 := sS87 hI
 have GI_HI0 := IsS87.geI HI0
 have HK := aM (KeepBut.refl w g none)
 have HL := aM hB.size
 clear hI
 have HW0 := aM hB.size
 have HB := aM hB
 clear hB
 have H := h
 clear h; unfold spec_l1Cur_one.f at H
 replace H := bC H; obtain ⟨⟨t114, t115, t116⟩, A3, H⟩ := H; try dsimp only at H
 simp only [Option.some.injEq, Prod.mk.injEq] at H
 obtain ⟨rfl, rfl, rfl⟩ := H
 go_enter Tryd.func140, Tryd.ntmps140
 go_wp2_with (first | ((with_reducible refine gG 137 (some 7) rfl rfl ?_); refine gC Tryd.func137 (spec_l1Cur_pick.calls g s0_0 s0_1 s0_2 a1 t114 t115 t116 w0 _ tS87 (bel HB) A3.out) ?_; rintro w4 ⟨hi, hb, hk⟩; replace HK := kT HK hk; replace HB := aM (hb); replace HI0 := sS87 (hi); clear hb hk hi))
 go_ret
 exact ⟨eW, tS87, bel HB, kp HK⟩

/-! ### spec_l1Cur_sureState: function 156 -/
def spec_l1Cur_sureState.l0 : Nat → ByteArray → Int → List Int → Int → Int → Option (ByteArray × Int × Int)
 | 0, _, _, _, _, _ => none
 | k + 1, x5, x6, x1000, x1001, x1002 => if x6 > 0 then ((spec_l1Cur_of.f x1000 x1001 x1002 (([(⟨#[48]⟩ : ByteArray), (⟨#[49]⟩ : ByteArray)] : List ByteArray))).bind fun bt123 => (if x5.size + bt123.1.size ≤ 9223372036854775807 then (spec_l1Cur_sureState.l0 k (x5 ++ bt123.1) (wrap64 (x6 - 1)) x1000 bt123.2.1 bt123.2.2) else (none))) else (some (x5, x1001, x1002))
def spec_l1Cur_sureState.f (k : Nat) (s0_0 : List Int) (s0_1 : Int) (s0_2 : Int) (a1 : Int) : Option (ByteArray × Int × Int) := (spec_l1Cur_pick.f s0_0 s0_1 s0_2 a1).bind fun bt117 => (spec_l1Cur_sureState.l0 k (⟨#[]⟩ : ByteArray) (wrap64 (1 + bt117.1)) s0_0 bt117.2.1 bt117.2.2)
theorem spec_l1Cur_sureState.mono_l : ∀ k, Mo (spec_l1Cur_sureState.l0 k) (spec_l1Cur_sureState.l0 (k + 1))
 | 0 => m0
 | k + 1 => by
  have ih0 := spec_l1Cur_sureState.mono_l k
  (repeat refine mE fun _ => ?_) <;> first | (unfold spec_l1Cur_sureState.l0; exact mG)
instance spec_l1Cur_sureState.mI (k : Nat) : Mo (spec_l1Cur_sureState.f k) (spec_l1Cur_sureState.f (k + 1)) := by
 have ih0 := spec_l1Cur_sureState.mono_l k
 (repeat refine mE fun _ => ?_); unfold spec_l1Cur_sureState.f; exact mG
theorem spec_l1Cur_sureState.mono : ∀ a0 a1 a2 a3 k, LeO (spec_l1Cur_sureState.f k a0 a1 a2 a3) (spec_l1Cur_sureState.f (k + 1) a0 a1 a2 a3) := fun a0 a1 a2 a3 k => (spec_l1Cur_sureState.mI k).out a0 a1 a2 a3
set_option maxHeartbeats 8000000 in
set_option maxRecDepth 100000 in
theorem spec_l1Cur_sureState.calls (k : Nat) (g : Nat) (s0_0 : List Int) (s0_1 : Int) (s0_2 : Int) (a1 : Int) (r1 : ByteArray) (r2 : Int) (r3 : Int) (w0 w : World) (hI : IsS87 w0 w g s0_0 s0_1 s0_2) (hB : Below w0.heap.size w0 w) (h : spec_l1Cur_sureState.f k s0_0 s0_1 s0_2 a1 = some (r1, r2, r3)) :
  Calls Tryd.prog 156 #[.pointer (some ⟨g, 0, none⟩), .int .i64 a1] w fun e w' => e = .returned (.string r1) ∧ IsS87 w0 w' g s0_0 r2 r3 ∧ Below w0.heap.size w0 w' ∧ KeepBut w w' g none := by
 have HI0 := sS87 hI
 have GI_HI0 := IsS87.geI HI0
 have HK := aM (KeepBut.refl w g none)
 have HL := aM hB.size
 clear hI
 have HW0 := aM hB.size
 have HB := aM hB
 clear hB
 have H := h
 clear h; unfold spec_l1Cur_sureState.f at H
 replace H := bC H; obtain ⟨⟨t117, t118, t119⟩, A3, H⟩ := H; try dsimp only at H
 have H' := aM H
 clear H
 go_enter Tryd.func156, Tryd.ntmps156
 go_wp2_with (first | ((with_reducible refine gG 137 (some 9) rfl rfl ?_); refine gC Tryd.func137 (spec_l1Cur_pick.calls g s0_0 s0_1 s0_2 a1 t117 t118 t119 w0 _ tS87 (bel HB) A3.out) ?_; rintro w4 ⟨hi, hb, hk⟩; replace HK := kT HK hk; replace HB := aM (hb); replace HI0 := sS87 (hi); clear hb hk hi))
 go_loopg [5, 6] k (fun kq v5 v6 w' => ∃ (x5_1 : ByteArray) (x6_1 : Int) (x1001_1 : Int) (x1002_1 : Int), v5 = .string x5_1 ∧ v6 = .int .i64 x6_1 ∧ Aside0 (spec_l1Cur_sureState.l0 kq x5_1 x6_1 s0_0 x1001_1 x1002_1 = some (r1, r2, r3)) ∧ Aside0 (kq ≤ k) ∧ IsC87 w0 w' g s0_0 x1001_1 x1002_1 ∧ Aside0 (KeepBut w w' g none) ∧ Aside0 (Below w0.heap.size w0 w'))
 case atStart => exact ⟨((⟨#[]⟩ : ByteArray)), (wrap64 (1 + t117)), (t118), (t119), rF, rF, H', kR, ⟨tS87⟩, kV HK, hV HB⟩
 case round =>
  clear H'
  obtain ⟨x5_1, x6_1, x1001_1, x1002_1, rfl, rfl, HA, HK1, HI0, HK, HB⟩ := hrel
  obtain rfl | ⟨k1, rfl⟩ := fz gk
  ·exact zA HA
  have H := HA.out
  clear HA
  simp only [spec_l1Cur_sureState.l0] at H
  refine iI H ?_ ?_ <;> clear H <;> intro c5 H
  ·have c5b0 := gT c5
   clear c5
   obtain ⟨y120, Ny120⟩ := yN (([(⟨#[48]⟩ : ByteArray), (⟨#[49]⟩ : ByteArray)] : List ByteArray) : List ByteArray); rw [← Ny120.out] at H
   replace H := bC H; obtain ⟨⟨t123, t124, t125⟩, A6, H⟩ := H; try dsimp only at H
   refine iY H ?_; clear H; intro c7 H
   have c7b0 := eq_true c7
   have c7b1 := dT c7
   try have c7b2 : (9223372036854775807 < x5_1.size + t123.size) = False := eq_false (Nat.not_lt.2 c7)
   have H' := aM H
   clear H
   go_wp2_with (first | ((with_reducible refine gate_dst (N := 17) rfl ?_); refine Kd.R_lit Kd.string _ 9 ?hg (N := 17) ?hd (xs := ([(⟨#[48]⟩ : ByteArray), (⟨#[49]⟩ : ByteArray)] : List ByteArray)) (inner := [.string (⟨#[48]⟩ : ByteArray), .string (⟨#[49]⟩ : ByteArray)]) (ok := fun _ => True) (okp := fun _ => True) ?hr ?hp (fun _ hk => hk) trivial (Below.refl _ _) (Nat.le_refl _) (by simp) ?_; (case hd => rfl); (case hg => rfl); (case hr => first | (go_simp; done) | (go_simp; rfl)); (case hp => exact (Reps.one (show Kd.M Kd.string _ _ _ (⟨#[48]⟩ : ByteArray) [.string (⟨#[48]⟩ : ByteArray)] from rfl) (Reps.one (show Kd.M Kd.string _ _ _ (⟨#[49]⟩ : ByteArray) [.string (⟨#[49]⟩ : ByteArray)] from rfl) (Reps.none _ _)))); intro v121 w8 ho9 hb hg_ hnew_; clear hg_ hnew_; (first | rw [← Ny120.out] at ho9 | (simp only [Int.reduceToNat] at ho9; rw [← Ny120.out] at ho9)); have HO122 := rK ho9 HK; replace HI0 := bS87 g hb; replace HK := kT HK (KeepBut.of_below hb g none); replace HB := hS HB hb; clear hb ho9; obtain ⟨Ao10, co10, eo10⟩ := Kd.R_slice HO122.out; subst eo10) | ((with_reducible refine gG 103 (some 18) rfl rfl ?_); refine gC Tryd.func103 (spec_l1Cur_of.calls g s0_0 x1001_1 x1002_1 _ _ y120 t123 t124 t125 w0 _ tS87 (bel HB) (cU ((Kd.R_reads' HO122.out).2.2)) ((Kd.R_reads' HO122.out).2.1) (far_slice (IsS87.own_ne HI0.out HO122.out (by decide))) A6.out) ?_; rintro w11 ⟨hi, hb, hk⟩; replace HO122 := aM (Kd.R_mono (Kd.R_keep (IsS87.apart (show IsS87 w0 _ g s0_0 x1001_1 x1002_1 from tS87) (rU HO122.out) (by decide)) hk (fun _ h => h.2)) (fun _ h => h.1)); replace HK := kT HK hk; replace HB := aM (hb); replace HI0 := sS87 (hi); clear hb hk hi))
   go_roundg k1
   case measure => have := HK1.out; omega
   case rel => exact ⟨(x5_1 ++ t123), (wrap64 (x6_1 - 1)), (t124), (t125), rF, rF, H', ⟨by have := HK1.out; omega⟩, ⟨tS87⟩, kV HK, hV HB⟩
  have c5b0 := gF c5
  clear c5
  simp only [Option.some.injEq, Prod.mk.injEq] at H
  obtain ⟨rfl, rfl, rfl⟩ := H
  go_wp2
  go_ret
  exact ⟨eW, tS87, bel HB, kp HK⟩

/-! ### spec_l1Cur_state: function 139 -/
def spec_l1Cur_state.f (k : Nat) (s0_0 : List Int) (s0_1 : Int) (s0_2 : Int) : Option (ByteArray × Int × Int) := (spec_l1Cur_one.f s0_0 s0_1 s0_2 12).bind fun bt126 => (if bt126.1 = true then ((spec_l1Cur_of.f s0_0 bt126.2.1 bt126.2.2 (([(⟨#[]⟩ : ByteArray), (⟨#[50]⟩ : ByteArray), (⟨#[48, 120]⟩ : ByteArray), (⟨#[49, 49, 49, 49, 49, 49, 49, 49, 49, 49, 49, 49, 49, 49, 49, 49, 49, 49, 49, 49, 49]⟩ : ByteArray), (⟨#[49, 49, 49, 49, 49, 49, 49, 49, 49, 49, 49, 49, 49, 49, 49, 49, 49, 49, 49, 49]⟩ : ByteArray), (⟨#[48, 48, 48, 48, 48, 48, 48, 48, 48, 48, 48, 48, 48, 48, 48, 48, 48, 48, 48, 49]⟩ : ByteArray)] : List ByteArray))).bind fun bt132 => (some (bt132.1, bt132.2.1, bt132.2.2))) else ((spec_l1Cur_sureState.f k s0_0 bt126.2.1 bt126.2.2 8).bind fun bt135 => (some (bt135.1, bt135.2.1, bt135.2.2))))
instance spec_l1Cur_state.mI (k : Nat) : Mo (spec_l1Cur_state.f k) (spec_l1Cur_state.f (k + 1)) := by
 (repeat refine mE fun _ => ?_); unfold spec_l1Cur_state.f; exact mG
theorem spec_l1Cur_state.mono : ∀ a0 a1 a2 k, LeO (spec_l1Cur_state.f k a0 a1 a2) (spec_l1Cur_state.f (k + 1) a0 a1 a2) := fun a0 a1 a2 k => (spec_l1Cur_state.mI k).out a0 a1 a2
set_option maxHeartbeats 8000000 in
set_option maxRecDepth 100000 in
theorem spec_l1Cur_state.calls (k : Nat) (g : Nat) (s0_0 : List Int) (s0_1 : Int) (s0_2 : Int) (r1 : ByteArray) (r2 : Int) (r3 : Int) (w0 w : World) (hI : IsS87 w0 w g s0_0 s0_1 s0_2) (hB : Below w0.heap.size w0 w) (h : spec_l1Cur_state.f k s0_0 s0_1 s0_2 = some (r1, r2, r3)) :
  Calls Tryd.prog 139 #[.pointer (some ⟨g, 0, none⟩)] w fun e w' => e = .returned (.string r1) ∧ IsS87 w0 w' g s0_0 r2 r3 ∧ Below w0.heap.size w0 w' ∧ KeepBut w w' g none := by
 have HI0 := sS87 hI
 have GI_HI0 := IsS87.geI HI0
 have HK := aM (KeepBut.refl w g none)
 have HL := aM hB.size
 clear hI
 have HW0 := aM hB.size
 have HB := aM hB
 clear hB
 have H := h
 clear h; unfold spec_l1Cur_state.f at H
 replace H := bC H; obtain ⟨⟨t126, t127, t128⟩, A2, H⟩ := H; try dsimp only at H
 refine iB H ?_ ?_ <;> clear H <;> rintro rfl H
 ·obtain ⟨y129, Ny129⟩ := yN (([(⟨#[]⟩ : ByteArray), (⟨#[50]⟩ : ByteArray), (⟨#[48, 120]⟩ : ByteArray), (⟨#[49, 49, 49, 49, 49, 49, 49, 49, 49, 49, 49, 49, 49, 49, 49, 49, 49, 49, 49, 49, 49]⟩ : ByteArray), (⟨#[49, 49, 49, 49, 49, 49, 49, 49, 49, 49, 49, 49, 49, 49, 49, 49, 49, 49, 49, 49]⟩ : ByteArray), (⟨#[48, 48, 48, 48, 48, 48, 48, 48, 48, 48, 48, 48, 48, 48, 48, 48, 48, 48, 48, 49]⟩ : ByteArray)] : List ByteArray) : List ByteArray); rw [← Ny129.out] at H
  replace H := bC H; obtain ⟨⟨t132, t133, t134⟩, A4, H⟩ := H; try dsimp only at H
  simp only [Option.some.injEq, Prod.mk.injEq] at H
  obtain ⟨rfl, rfl, rfl⟩ := H
  go_enter Tryd.func139, Tryd.ntmps139
  go_wp2_with (first | ((with_reducible refine gG 140 (some 4) rfl rfl ?_); refine gC Tryd.func140 (spec_l1Cur_one.calls g s0_0 s0_1 s0_2 12 true t127 t128 w0 _ tS87 (bel HB) A2.out) ?_; rintro w5 ⟨hi, hb, hk⟩; replace HK := kT HK hk; replace HB := aM (hb); replace HI0 := sS87 (hi); clear hb hk hi) | ((with_reducible refine gate_dst (N := 6) rfl ?_); refine Kd.R_lit Kd.string _ 9 ?hg (N := 6) ?hd (xs := ([(⟨#[]⟩ : ByteArray), (⟨#[50]⟩ : ByteArray), (⟨#[48, 120]⟩ : ByteArray), (⟨#[49, 49, 49, 49, 49, 49, 49, 49, 49, 49, 49, 49, 49, 49, 49, 49, 49, 49, 49, 49, 49]⟩ : ByteArray), (⟨#[49, 49, 49, 49, 49, 49, 49, 49, 49, 49, 49, 49, 49, 49, 49, 49, 49, 49, 49, 49]⟩ : ByteArray), (⟨#[48, 48, 48, 48, 48, 48, 48, 48, 48, 48, 48, 48, 48, 48, 48, 48, 48, 48, 48, 49]⟩ : ByteArray)] : List ByteArray)) (inner := [.string (⟨#[]⟩ : ByteArray), .string (⟨#[50]⟩ : ByteArray), .string (⟨#[48, 120]⟩ : ByteArray), .string (⟨#[49, 49, 49, 49, 49, 49, 49, 49, 49, 49, 49, 49, 49, 49, 49, 49, 49, 49, 49, 49, 49]⟩ : ByteArray), .string (⟨#[49, 49, 49, 49, 49, 49, 49, 49, 49, 49, 49, 49, 49, 49, 49, 49, 49, 49, 49, 49]⟩ : ByteArray), .string (⟨#[48, 48, 48, 48, 48, 48, 48, 48, 48, 48, 48, 48, 48, 48, 48, 48, 48, 48, 48, 49]⟩ : ByteArray)]) (ok := fun _ => True) (okp := fun _ => True) ?hr ?hp (fun _ hk => hk) trivial (Below.refl _ _) (Nat.le_refl _) (by simp) ?_; (case hd => rfl); (case hg => rfl); (case hr => first | (go_simp; done) | (go_simp; rfl)); (case hp => exact (Reps.one (show Kd.M Kd.string _ _ _ (⟨#[]⟩ : ByteArray) [.string (⟨#[]⟩ : ByteArray)] from rfl) (Reps.one (show Kd.M Kd.string _ _ _ (⟨#[50]⟩ : ByteArray) [.string (⟨#[50]⟩ : ByteArray)] from rfl) (Reps.one (show Kd.M Kd.string _ _ _ (⟨#[48, 120]⟩ : ByteArray) [.string (⟨#[48, 120]⟩ : ByteArray)] from rfl) (Reps.one (show Kd.M Kd.string _ _ _ (⟨#[49, 49, 49, 49, 49, 49, 49, 49, 49, 49, 49, 49, 49, 49, 49, 49, 49, 49, 49, 49, 49]⟩ : ByteArray) [.string (⟨#[49, 49, 49, 49, 49, 49, 49, 49, 49, 49, 49, 49, 49, 49, 49, 49, 49, 49, 49, 49, 49]⟩ : ByteArray)] from rfl) (Reps.one (show Kd.M Kd.string _ _ _ (⟨#[49, 49, 49, 49, 49, 49, 49, 49, 49, 49, 49, 49, 49, 49, 49, 49, 49, 49, 49, 49]⟩ : ByteArray) [.string (⟨#[49, 49, 49, 49, 49, 49, 49, 49, 49, 49, 49, 49, 49, 49, 49, 49, 49, 49, 49, 49]⟩ : ByteArray)] from rfl) (Reps.one (show Kd.M Kd.string _ _ _ (⟨#[48, 48, 48, 48, 48, 48, 48, 48, 48, 48, 48, 48, 48, 48, 48, 48, 48, 48, 48, 49]⟩ : ByteArray) [.string (⟨#[48, 48, 48, 48, 48, 48, 48, 48, 48, 48, 48, 48, 48, 48, 48, 48, 48, 48, 48, 49]⟩ : ByteArray)] from rfl) (Reps.none _ _)))))))); intro v130 w6 ho7 hb hg_ hnew_; clear hg_ hnew_; (first | rw [← Ny129.out] at ho7 | (simp only [Int.reduceToNat] at ho7; rw [← Ny129.out] at ho7)); have HO131 := rK ho7 HK; replace HI0 := bS87 g hb; replace HK := kT HK (KeepBut.of_below hb g none); replace HB := hS HB hb; clear hb ho7; obtain ⟨Ao8, co8, eo8⟩ := Kd.R_slice HO131.out; subst eo8) | ((with_reducible refine gG 103 (some 7) rfl rfl ?_); refine gC Tryd.func103 (spec_l1Cur_of.calls g s0_0 t127 t128 _ _ y129 t132 t133 t134 w0 _ tS87 (bel HB) (cU ((Kd.R_reads' HO131.out).2.2)) ((Kd.R_reads' HO131.out).2.1) (far_slice (IsS87.own_ne HI0.out HO131.out (by decide))) A4.out) ?_; rintro w9 ⟨hi, hb, hk⟩; replace HO131 := aM (Kd.R_mono (Kd.R_keep (IsS87.apart (show IsS87 w0 _ g s0_0 t127 t128 from tS87) (rU HO131.out) (by decide)) hk (fun _ h => h.2)) (fun _ h => h.1)); replace HK := kT HK hk; replace HB := aM (hb); replace HI0 := sS87 (hi); clear hb hk hi))
  go_ret
  exact ⟨eW, tS87, bel HB, kp HK⟩
 replace H := bC H; obtain ⟨⟨t135, t136, t137⟩, A10, H⟩ := H; try dsimp only at H
 simp only [Option.some.injEq, Prod.mk.injEq] at H
 obtain ⟨rfl, rfl, rfl⟩ := H
 go_enter Tryd.func139, Tryd.ntmps139
 go_wp2_with (first | ((with_reducible refine gG 140 (some 4) rfl rfl ?_); refine gC Tryd.func140 (spec_l1Cur_one.calls g s0_0 s0_1 s0_2 12 false t127 t128 w0 _ tS87 (bel HB) A2.out) ?_; rintro w11 ⟨hi, hb, hk⟩; replace HK := kT HK hk; replace HB := aM (hb); replace HI0 := sS87 (hi); clear hb hk hi) | ((with_reducible refine gG 156 (some 9) rfl rfl ?_); refine gC Tryd.func156 (spec_l1Cur_sureState.calls k g s0_0 t127 t128 8 t135 t136 t137 w0 _ tS87 (bel HB) A10.out) ?_; rintro w12 ⟨hi, hb, hk⟩; replace HK := kT HK hk; replace HB := aM (hb); replace HI0 := sS87 (hi); clear hb hk hi))
 go_ret
 exact ⟨eW, tS87, bel HB, kp HK⟩

/-! ### spec_l1Cur_states: function 102 -/
def spec_l1Cur_states.l0 : Nat → ByteArray → ByteArray → ByteArray → Int → List Int → Int → Int → Option (ByteArray × ByteArray × Int × Int)
 | 0, _, _, _, _, _, _, _ => none
 | k + 1, x4, x5, x13, x14, x1000, x1001, x1002 => if x14 < (x13.size : Int) then (if 0 ≤ x14 then (if (bt x13 x14) < 128 then (if x14 < 1000000000 then ((spec_l1Cur_of.f x1000 x1001 x1002 (([(⟨#[48]⟩ : ByteArray), (⟨#[49]⟩ : ByteArray)] : List ByteArray))).bind fun bt150 => (if x5.size + bt150.1.size ≤ 9223372036854775807 then (spec_l1Cur_states.l0 k x4 (x5 ++ bt150.1) x13 (wrap64 (x14 + 1)) x1000 bt150.2.1 bt150.2.2) else (none))) else (none)) else (none)) else (none)) else (some (x4, x5, x1001, x1002))
def spec_l1Cur_states.f (k : Nat) (s0_0 : List Int) (s0_1 : Int) (s0_2 : Int) : Option (ByteArray × ByteArray × Int × Int) := (spec_l1Cur_state.f k s0_0 s0_1 s0_2).bind fun bt138 => ((spec_l1Cur_one.f s0_0 bt138.2.1 bt138.2.2 12).bind fun bt141 => (if bt141.1 = true then ((spec_l1Cur_state.f k s0_0 bt141.2.1 bt141.2.2).bind fun bt144 => (some (bt138.1, bt144.1, bt144.2.1, bt144.2.2))) else (spec_l1Cur_states.l0 k bt138.1 (⟨#[]⟩ : ByteArray) bt138.1 0 s0_0 bt141.2.1 bt141.2.2)))
theorem spec_l1Cur_states.mono_l : ∀ k, Mo (spec_l1Cur_states.l0 k) (spec_l1Cur_states.l0 (k + 1))
 | 0 => m0
 | k + 1 => by
  have ih0 := spec_l1Cur_states.mono_l k
  (repeat refine mE fun _ => ?_) <;> first | (unfold spec_l1Cur_states.l0; exact mG)
instance spec_l1Cur_states.mI (k : Nat) : Mo (spec_l1Cur_states.f k) (spec_l1Cur_states.f (k + 1)) := by
 have ih0 := spec_l1Cur_states.mono_l k
 (repeat refine mE fun _ => ?_); unfold spec_l1Cur_states.f; exact mG
theorem spec_l1Cur_states.mono : ∀ a0 a1 a2 k, LeO (spec_l1Cur_states.f k a0 a1 a2) (spec_l1Cur_states.f (k + 1) a0 a1 a2) := fun a0 a1 a2 k => (spec_l1Cur_states.mI k).out a0 a1 a2
theorem IsS87.iter {w0 W : World} {g : Nat} {f0 : List Int} {f1 : Int} {f2 : Int} (h : IsS87 w0 W g f0 f1 f2) (s : ByteArray) : IsS87 w0 (W.iter s 0) g f0 f1 f2 := h.alloc _
theorem IsS87.iterAt {w0 W : World} {g K : Nat} {f0 : List Int} {f1 : Int} {f2 : Int} (h : IsS87 w0 W g f0 f1 f2) (hne : g ≠ K) (s : ByteArray) (p : Nat) : IsS87 w0 (W.iterAt K s p) g f0 f1 f2 := by
  obtain ⟨A, c, h1, h2, h3⟩ := h
  exact ⟨A, c, rng_other h1 hne, h2, h3⟩
set_option maxHeartbeats 8000000 in
set_option maxRecDepth 100000 in
theorem spec_l1Cur_states.calls (k : Nat) (g : Nat) (s0_0 : List Int) (s0_1 : Int) (s0_2 : Int) (r1 : ByteArray) (r2 : ByteArray) (r3 : Int) (r4 : Int) (w0 w : World) (hI : IsS87 w0 w g s0_0 s0_1 s0_2) (hB : Below w0.heap.size w0 w) (h : spec_l1Cur_states.f k s0_0 s0_1 s0_2 = some (r1, r2, r3, r4)) :
  Calls Tryd.prog 102 #[.pointer (some ⟨g, 0, none⟩)] w fun e w' => e = .returned (.tuple #[.string r1, .string r2]) ∧ IsS87 w0 w' g s0_0 r3 r4 ∧ Below w0.heap.size w0 w' ∧ KeepBut w w' g none := by
 have HI0 := sS87 hI
 have GI_HI0 := IsS87.geI HI0
 have HK := aM (KeepBut.refl w g none)
 have HL := aM hB.size
 clear hI
 have HW0 := aM hB.size
 have HB := aM hB
 clear hB
 have H := h
 clear h; unfold spec_l1Cur_states.f at H
 replace H := bC H; obtain ⟨⟨t138, t139, t140⟩, A2, H⟩ := H; try dsimp only at H
 replace H := bC H; obtain ⟨⟨t141, t142, t143⟩, A3, H⟩ := H; try dsimp only at H
 refine iB H ?_ ?_ <;> clear H <;> rintro rfl H
 ·replace H := bC H; obtain ⟨⟨t144, t145, t146⟩, A5, H⟩ := H; try dsimp only at H
  simp only [Option.some.injEq, Prod.mk.injEq] at H
  obtain ⟨rfl, rfl, rfl, rfl⟩ := H
  go_enter Tryd.func102, Tryd.ntmps102
  go_wp2_with (first | ((with_reducible refine gG 139 (some 7) rfl rfl ?_); refine gC Tryd.func139 (spec_l1Cur_state.calls k g s0_0 s0_1 s0_2 t138 t139 t140 w0 _ tS87 (bel HB) A2.out) ?_; rintro w6 ⟨hi, hb, hk⟩; replace HK := kT HK hk; replace HB := aM (hb); replace HI0 := sS87 (hi); clear hb hk hi) | ((with_reducible refine gG 140 (some 9) rfl rfl ?_); refine gC Tryd.func140 (spec_l1Cur_one.calls g s0_0 t139 t140 12 true t142 t143 w0 _ tS87 (bel HB) A3.out) ?_; rintro w7 ⟨hi, hb, hk⟩; replace HK := kT HK hk; replace HB := aM (hb); replace HI0 := sS87 (hi); clear hb hk hi) | ((with_reducible refine gG 139 (some 12) rfl rfl ?_); refine gC Tryd.func139 (spec_l1Cur_state.calls k g s0_0 t142 t143 t144 t145 t146 w0 _ tS87 (bel HB) A5.out) ?_; rintro w8 ⟨hi, hb, hk⟩; replace HK := kT HK hk; replace HB := aM (hb); replace HI0 := sS87 (hi); clear hb hk hi))
  go_ret2
  exact ⟨eW, tS87, bel HB, kp HK⟩
 have H' := aM H
 clear H
 go_enter Tryd.func102, Tryd.ntmps102
 go_wp2_with (first | ((with_reducible refine gG 139 (some 7) rfl rfl ?_); refine gC Tryd.func139 (spec_l1Cur_state.calls k g s0_0 s0_1 s0_2 t138 t139 t140 w0 _ tS87 (bel HB) A2.out) ?_; rintro w9 ⟨hi, hb, hk⟩; replace HK := kT HK hk; replace HB := aM (hb); replace HI0 := sS87 (hi); clear hb hk hi) | ((with_reducible refine gG 140 (some 9) rfl rfl ?_); refine gC Tryd.func140 (spec_l1Cur_one.calls g s0_0 t139 t140 12 false t142 t143 w0 _ tS87 (bel HB) A3.out) ?_; rintro w10 ⟨hi, hb, hk⟩; replace HK := kT HK hk; replace HB := aM (hb); replace HI0 := sS87 (hi); clear hb hk hi))
 obtain ⟨KI14, hKq_, hKb_, hIq_, hBq_⟩ := rng_start HB.out t138
 have hKB14 := aM hKb_
 have hKK14 := aM (rng_ge hKq_ HK.out)
 have hKN14 := aM (rng_ne_ hKq_ (IsS87.lt HI0.out))
 have hIq_ := aM hIq_
 have n91_ := sS87 (IsS87.iter HI0.out t138)
 have nK_ := aM (rng_K HK.out t138)
 clear HI0 HK HB
 have HI0 := n91_
 have HK := nK_
 have HB := aM hBq_
 clear n91_ nK_ 
 rw [← hKq_]
 clear hKq_ hKb_ hBq_
 go_loopg [5] k (fun kq v5 w' => ∃ (x5_1 : ByteArray) (x14_1 : Int) (x1001_1 : Int) (x1002_1 : Int), v5 = .string x5_1 ∧ Aside0 (0 ≤ x14_1) ∧ Aside0 (w'.heap[KI14]? = some (.stringIter t138 x14_1.toNat)) ∧ Aside0 (spec_l1Cur_states.l0 kq t138 x5_1 t138 x14_1 s0_0 x1001_1 x1002_1 = some (r1, r2, r3, r4)) ∧ Aside0 (kq ≤ k) ∧ IsC87 w0 w' g s0_0 x1001_1 x1002_1 ∧ Aside0 (KeepBut w w' g none) ∧ Aside0 (Below w0.heap.size w0 w'))
 case atStart => exact ⟨((⟨#[]⟩ : ByteArray)), (0), (t142), (t143), rF, ⟨Int.le_refl 0⟩, ⟨hIq_.out⟩, H', kR, ⟨tS87⟩, kV HK, hV HB⟩
 case round =>
  clear H'
  obtain ⟨x5_1, x14_1, x1001_1, x1002_1, rfl, h0I14, HR14_, HA, HK1, HI0, HK, HB⟩ := hrel
  obtain rfl | ⟨k1, rfl⟩ := fz gk
  ·exact zA HA
  have H := HA.out
  clear HA
  simp only [spec_l1Cur_states.l0] at H
  refine iI H ?_ ?_ <;> clear H <;> intro c11 H
  ·have c11b0 := dT c11
   clear c11
   refine iY H ?_; clear H; intro c12 H
   have c12b0 := dT c12
   clear c12
   refine iY H ?_; clear H; intro c14 H
   have c14b0 := dT c14
   clear c14
   refine iY H ?_; clear H; intro c15 H
   have c15b0 := dT c15
   clear c15
   obtain ⟨y147, Ny147⟩ := yN (([(⟨#[48]⟩ : ByteArray), (⟨#[49]⟩ : ByteArray)] : List ByteArray) : List ByteArray); rw [← Ny147.out] at H
   replace H := bC H; obtain ⟨⟨t150, t151, t152⟩, A16, H⟩ := H; try dsimp only at H
   refine iY H ?_; clear H; intro c17 H
   have c17b0 := eq_true c17
   have c17b1 := dT c17
   try have c17b2 : (9223372036854775807 < x5_1.size + t150.size) = False := eq_false (Nat.not_lt.2 c17)
   have H' := aM H
   clear H
   have p13 : 0 ≤ (x14_1 : Int) := oD
   have q13 : x14_1 < (t138.size : Int) := oD
   have hx13 := bt_at t138 x14_1
   replace p13 := eq_true p13
   replace q13 := eq_true q13
   have hltI_ : x14_1 < (t138.size : Int) := of_decide_eq_true (by assumption)
   have hbtI_ : bt t138 x14_1 < 128 := of_decide_eq_true (by assumption)
   have hwI14 := aM (show wrap64 (x14_1 + 1) = x14_1 + 1 from by have h9_ : x14_1 < 1000000000 := of_decide_eq_true (by assumption); have h8_ := h0I14.out; unfold wrap64; omega)
   obtain ⟨rn_, hnext⟩ := rng_next (P := Tryd.prog) HR14_.out h0I14.out hltI_ hbtI_
   clear hltI_ hbtI_
   have nI_ := aM (rng_at (p' := (x14_1 + 1).toNat) HR14_.out)
   have n91_ := sS87 (IsS87.iterAt HI0.out hKN14.out t138 (x14_1 + 1).toNat)
   have nK_ := aM (rng_Kat (s := t138) (p := (x14_1 + 1).toNat) HK.out hKK14.out)
   have nB_ := aM (rng_below (s := t138) (p := (x14_1 + 1).toNat) HB.out hKB14.out)
   clear HR14_ HI0 HK HB
   have HR14_ := nI_
   have HI0 := n91_
   have HK := nK_
   have HB := nB_
   clear nI_ n91_ nB_ nK_ 
   generalize wr.iterAt KI14 t138 (x14_1 + 1).toNat = wr at hnext HR14_ HI0 HK HB
   go_wp2_with (first | ((with_reducible refine gate_dst (N := 19) rfl ?_); refine Kd.R_lit Kd.string _ 9 ?hg (N := 19) ?hd (xs := ([(⟨#[48]⟩ : ByteArray), (⟨#[49]⟩ : ByteArray)] : List ByteArray)) (inner := [.string (⟨#[48]⟩ : ByteArray), .string (⟨#[49]⟩ : ByteArray)]) (ok := fun _ => True) (okp := fun _ => True) ?hr ?hp (fun _ hk => hk) trivial (Below.refl _ _) (Nat.le_refl _) (by simp) ?_; (case hd => rfl); (case hg => rfl); (case hr => first | (go_simp; done) | (go_simp; rfl)); (case hp => exact (Reps.one (show Kd.M Kd.string _ _ _ (⟨#[48]⟩ : ByteArray) [.string (⟨#[48]⟩ : ByteArray)] from rfl) (Reps.one (show Kd.M Kd.string _ _ _ (⟨#[49]⟩ : ByteArray) [.string (⟨#[49]⟩ : ByteArray)] from rfl) (Reps.none _ _)))); intro v148 w18 ho19 hb hg_ hnew_; clear hg_ hnew_; have nR_ := aM (blk_below (bU HR14_.out) hb); clear HR14_; have HR14_ := nR_; clear nR_; (first | rw [← Ny147.out] at ho19 | (simp only [Int.reduceToNat] at ho19; rw [← Ny147.out] at ho19)); have HO149 := rK ho19 HK; replace HI0 := bS87 g hb; replace HK := kT HK (KeepBut.of_below hb g none); replace HB := hS HB hb; clear hb ho19; obtain ⟨Ao20, co20, eo20⟩ := Kd.R_slice HO149.out; subst eo20) | ((with_reducible refine gG 103 (some 20) rfl rfl ?_); refine gC Tryd.func103 (spec_l1Cur_of.calls g s0_0 x1001_1 x1002_1 _ _ y147 t150 t151 t152 w0 _ tS87 (bel HB) (cU ((Kd.R_reads' HO149.out).2.2)) ((Kd.R_reads' HO149.out).2.1) (far_slice (IsS87.own_ne HI0.out HO149.out (by decide))) A16.out) ?_; rintro w21 ⟨hi, hb, hk⟩; have nR_ := aM (rng_kept (bU HR14_.out) hk hKN14.out); clear HR14_; have HR14_ := nR_; clear nR_; replace HO149 := aM (Kd.R_mono (Kd.R_keep (IsS87.apart (show IsS87 w0 _ g s0_0 x1001_1 x1002_1 from tS87) (rU HO149.out) (by decide)) hk (fun _ h => h.2)) (fun _ h => h.1)); replace HK := kT HK hk; replace HB := aM (hb); replace HI0 := sS87 (hi); clear hb hk hi))
   try clear hnext
   go_roundg k1
   case measure => have := HK1.out; omega
   case rel => exact ⟨(x5_1 ++ t150), (wrap64 (x14_1 + 1)), (t151), (t152), rF, ⟨by rw [hwI14.out]; have h8_ := h0I14.out; omega⟩, ⟨by rw [hwI14.out]; (with_reducible repeat (first | refine blk_drewN ?_ _ | refine blk_drew ?_ | refine blk_alloc ?_ _)); exact HR14_.out⟩, H', ⟨by have := HK1.out; omega⟩, ⟨tS87⟩, kV HK, hV HB⟩
  have c11b0 := dF c11
  clear c11
  simp only [Option.some.injEq, Prod.mk.injEq] at H
  obtain ⟨rfl, rfl, rfl, rfl⟩ := H
  have hnext := rng_end (P := Tryd.prog) HR14_.out h0I14.out (of_decide_eq_false (by assumption) : ¬ x14_1 < (t138.size : Int))
  go_wp2
  try clear hnext
  go_ret2
  exact ⟨eW, tS87, bel HB, kp HK⟩

/-! ### spec_DrawFewestMoves: function 83 -/
def spec_DrawFewestMoves.f (k : Nat) (l0 : List Int) : Option (ByteArray × ByteArray) := (spec_l1Cur_states.f k l0 0 0).bind fun bt154 => (some (bt154.1, bt154.2.1))
instance spec_DrawFewestMoves.mI (k : Nat) : Mo (spec_DrawFewestMoves.f k) (spec_DrawFewestMoves.f (k + 1)) := by
 (repeat refine mE fun _ => ?_); unfold spec_DrawFewestMoves.f; exact mG
theorem spec_DrawFewestMoves.mono : ∀ a0 k, LeO (spec_DrawFewestMoves.f k a0) (spec_DrawFewestMoves.f (k + 1) a0) := fun a0 k => (spec_DrawFewestMoves.mI k).out a0
set_option maxHeartbeats 8000000 in
set_option maxRecDepth 100000 in
theorem spec_DrawFewestMoves.calls (k : Nat) (A0 : Option Addr) (c0 : Nat) (l0 : List Int) (r1 : ByteArray) (r2 : ByteArray) (w : World) (hr0 : Kd.C (Kd.int .u8) w A0 l0.length l0) (hc0 : l0.length ≤ c0) (h : spec_DrawFewestMoves.f k l0 = some (r1, r2)) :
  Calls Tryd.prog 83 #[.slice A0 l0.length c0] w fun e w' => e = .returned (.tuple #[.string r1, .string r2]) ∧ Below w.heap.size w w' := by
 have hu87 := Tryd.underlying87
 have HR0 := aM hr0
 have HC0 := aM hc0
 clear hr0 hc0
 have HB := aM (Below.refl w.heap.size w)
 have H := h
 clear h; unfold spec_DrawFewestMoves.f at H
 replace H := bC H; obtain ⟨⟨t154, t155, t156, t157⟩, A2, H⟩ := H; try dsimp only at H
 simp only [Option.some.injEq, Prod.mk.injEq] at H
 obtain ⟨rfl, rfl⟩ := H
 go_enter Tryd.func83, Tryd.ntmps83
 go_wp2_with (first | ((with_reducible refine gate_dst (N := 7) rfl ?_); refine box_event ?hg (N := 7) ?hd (cs := #[.slice A0 l0.length c0, .int .i64 0, .int .u64 0]) (t := 87) ?hr ?_; (case hd => rfl); (case hg => rfl); (case hr => first | (go_simp; done) | (go_simp; rfl)); intro gb153 hg w3 hbox hb; have HI153 := sS87 ((show IsS87 w w3 gb153 l0 0 0 from ⟨_, _, hbox, (by rw [hg]; exact (below_size (bel HB)) : w.heap.size ≤ gb153), HR0.out⟩)); have GI_HI153 := IsS87.geI HI153; replace HB := hS HB hb; clear hb hbox hg) | ((with_reducible refine gG 102 (some 9) rfl rfl ?_); refine gC Tryd.func102 (spec_l1Cur_states.calls k gb153 l0 0 0 t154 t155 t156 t157 w _ tS87 (bel HB) A2.out) ?_; rintro w4 ⟨hi, hb, hk⟩; replace HB := aM (hb); replace HI153 := sS87 (hi); clear hb hk hi))
 go_ret2
 exact ⟨eW, bel HB⟩

end Go.Proofs.YtcogjabdddikjaaDoor.PWMn
