-- squeezed (sq3.py); PRINTED by drive.py (a program of this session's, over the kit's print.py; wip/tools/drive.py). Lean checks it.
import Derived.Test.YtpdkjehplfgjcabGreatDoorQPHidx0
import Derived.Test.YtpdkjehplfgjcabGreatDoorQSq
namespace Go.Proofs.YtpdkjehplfgjcabGreatDoor.PHid
open Go.RowKit Go.Proofs.YtpdkjehplfgjcabGreatDoorW.PrintWords Go.Proofs.YtpdkjehplfgjcabGreatDoorW.PrintLast Go.Proofs.YtpdkjehplfgjcabGreatDoorW.PrintMore
attribute [local go_sem] max2_int min2_int max_two min_two max_three min_three max_four min_four   -- for this text's walks alone
set_option linter.unusedVariables false
set_option linter.unusedSimpArgs false

/-! ### laws_big: function 4 -/
def laws_big.f (l0 : List Int) (l1 : List Int) : Option (Bool) := if (l0.length : Int) > 1048576 then (some true) else (some (decide ((l1.length : Int) > (wrap64 (1048576 - (l0.length : Int))))))
set_option maxHeartbeats 8000000 in
set_option maxRecDepth 100000 in
theorem laws_big.calls (A0 : Option Addr) (c0 : Nat) (l0 : List Int) (A1 : Option Addr) (c1 : Nat) (l1 : List Int) (r : Bool) (w : World) (hr0 : Kd.C (Kd.int .u8) w A0 l0.length l0) (hc0 : l0.length ≤ c0) (hr1 : Kd.C (Kd.int .u8) w A1 l1.length l1) (hc1 : l1.length ≤ c1) (h : laws_big.f l0 l1 = some r) :
  Calls Tryz.prog 4 #[.slice A0 l0.length c0, .slice A1 l1.length c1] w fun e w' => e = .returned (.bool r) ∧ Drawn0 w w' := by
 have HR0 := aM hr0
 have HC0 := aM hc0
 clear hr0 hc0
 have HR1 := aM hr1
 have HC1 := aM hc1
 clear hr1 hc1
 have H := h
 clear h; unfold laws_big.f at H
 refine iI H ?_ ?_ <;> clear H <;> intro c3 H
 ·have c3b0 := gT c3
  have c3b1 : decide (1048576 < l0.length) = true := decide_eq_true (by omega)
  clear c3
  obtain rfl := Option.some.inj H
  go_enter Tryz.func4, Tryz.ntmps4
  go_wp2
  go_ret
  exact ⟨rF, d0⟩
 have c3b0 := gF c3
 have c3b1 : decide (1048576 < l0.length) = false := decide_eq_false (by omega)
 clear c3
 obtain rfl := Option.some.inj H
 go_enter Tryz.func4, Tryz.ntmps4
 go_wp2
 go_ret
 exact ⟨rF, d0⟩

/-- A state of type 66 at block g of W; what its slices lead to came in by w0. -/
def IsS66 (w0 W : World) (g : Nat) (f0 : List Int) (f1 : Int) (f2 : Int) : Prop := ∃ A0 c0, W.heap[g]? = some (.cells #[.slice A0 f0.length c0, .int .i64 f1, .int .u64 f2] 66 (0, 0)) ∧ w0.heap.size ≤ g ∧ Kd.C (Kd.int .u8) w0 A0 f0.length f0
theorem IsS66.grown {w0 W : World} {g : Nat} {f0 : List Int} {f1 : Int} {f2 : Int} {W1 : World} {row : Option Nat} (h : IsS66 w0 W g f0 f1 f2) (hw : W.grownBy W1 row) (hne : some g ≠ row) : IsS66 w0 W1 g f0 f1 f2 := by
 obtain ⟨A0, c0, hb, hg, hr0⟩ := h
 exact ⟨A0, c0, blk_grown hb hw hne, hg, hr0⟩
theorem IsS66.below {w0 W : World} {g : Nat} {f0 : List Int} {f1 : Int} {f2 : Int} {W1 : World} (h : IsS66 w0 W g f0 f1 f2) (hw : Below W.heap.size W W1) : IsS66 w0 W1 g f0 f1 f2 := h.grown (grown_of_below hw none) (by simp)
theorem IsS66.alloc {w0 W : World} {g : Nat} {f0 : List Int} {f1 : Int} {f2 : Int} (h : IsS66 w0 W g f0 f1 f2) (o : Obj) : IsS66 w0 (W.alloc o) g f0 f1 f2 := h.below (below_alloc (Below.refl _ _) o)
theorem IsS66.drewN {w0 W : World} {g : Nat} {f0 : List Int} {f1 : Int} {f2 : Int} (h : IsS66 w0 W g f0 f1 f2) (m : Nat) : IsS66 w0 (W.drewN m) g f0 f1 f2 := h
theorem IsS66.drew {w0 W : World} {g : Nat} {f0 : List Int} {f1 : Int} {f2 : Int} (h : IsS66 w0 W g f0 f1 f2) : IsS66 w0 W.drew g f0 f1 f2 := h
theorem IsS66.apart {w0 W : World} {g : Nat} {f0 : List Int} {f1 : Int} {f2 : Int} {α : Type} {d : Kd α} {e : Nat} {base : Nat} {ok : Nat → Prop} {v : Value} {xs : List α} (h : IsS66 w0 W g f0 f1 f2) (ho : d.R e W base ok v xs) (ht : ∀ q, q ∈ e :: d.E → q ≠ 66) : d.R e W base (fun k => ok k ∧ k ≠ g) v xs := by
 obtain ⟨A0, c0, hb, hg, hr0⟩ := h
 exact Kd.R_types ho hb ht
theorem IsS66.own_ne {w0 W : World} {g : Nat} {f0 : List Int} {f1 : Int} {f2 : Int} {α : Type} {d : Kd α} {e : Nat} {base : Nat} {ok : Nat → Prop} {v : Value} {xs : List α} (h : IsS66 w0 W g f0 f1 f2) (ho : d.R e W base ok v xs) (ht : e ≠ 66) : some g ≠ v.ownBlock := by
 obtain ⟨A0, c0, hb, hg, hr0⟩ := h
 exact Kd.R_ne ho hb ht
theorem IsS66.lt {w0 W : World} {g : Nat} {f0 : List Int} {f1 : Int} {f2 : Int} (h : IsS66 w0 W g f0 f1 f2) : g < W.heap.size := by
 obtain ⟨A0, c0, hb, hg, hr0⟩ := h
 exact blk_lt hb
theorem IsS66.ge {w0 W : World} {g : Nat} {f0 : List Int} {f1 : Int} {f2 : Int} (h : IsS66 w0 W g f0 f1 f2) : w0.heap.size ≤ g := by
 obtain ⟨A0, c0, hb, hg, hr0⟩ := h
 exact hg
theorem IsS66.far {w0 W : World} {g : Nat} {f0 : List Int} {f1 : Int} {f2 : Int} {p : Addr} (h : IsS66 w0 W g f0 f1 f2) (hne : g ≠ p.block) (u : Value) : IsS66 w0 (W.setCell p u) g f0 f1 f2 := by
 obtain ⟨A0, c0, hb, hg, hr0⟩ := h
 exact ⟨A0, c0, blk_far hb hne u, hg, hr0⟩
theorem cellS66_0 {W : World} {g : Nat} {A0 : Option Addr} {c0 : Nat} {f0 : List Int} {f1 : Int} {f2 : Int} (h : W.heap[g]? = some (.cells #[.slice A0 f0.length c0, .int .i64 f1, .int .u64 f2] 66 (0, 0))) : W.cell? ⟨g, 0, none⟩ = some (.slice A0 f0.length c0) := (blk_cell h 0).trans rfl
theorem cellS66_1 {W : World} {g : Nat} {A0 : Option Addr} {c0 : Nat} {f0 : List Int} {f1 : Int} {f2 : Int} (h : W.heap[g]? = some (.cells #[.slice A0 f0.length c0, .int .i64 f1, .int .u64 f2] 66 (0, 0))) : W.cell? ⟨g, 1, none⟩ = some (.int .i64 f1) := (blk_cell h 1).trans rfl
theorem IsS66.set_1 {w0 W : World} {g : Nat} {f0 : List Int} {f1 : Int} {f2 : Int} (h : IsS66 w0 W g f0 f1 f2) (x : Int) : IsS66 w0 (W.setCell ⟨g, 1, none⟩ (.int .i64 x)) g f0 x f2 := by
 obtain ⟨A0, c0, hb, hg, hr0⟩ := h
 exact ⟨A0, c0, by simpa using blk_set hb 1 (.int .i64 x), hg, hr0⟩
theorem cellS66_2 {W : World} {g : Nat} {A0 : Option Addr} {c0 : Nat} {f0 : List Int} {f1 : Int} {f2 : Int} (h : W.heap[g]? = some (.cells #[.slice A0 f0.length c0, .int .i64 f1, .int .u64 f2] 66 (0, 0))) : W.cell? ⟨g, 2, none⟩ = some (.int .u64 f2) := (blk_cell h 2).trans rfl
theorem IsS66.set_2 {w0 W : World} {g : Nat} {f0 : List Int} {f1 : Int} {f2 : Int} (h : IsS66 w0 W g f0 f1 f2) (x : Int) : IsS66 w0 (W.setCell ⟨g, 2, none⟩ (.int .u64 x)) g f0 f1 x := by
 obtain ⟨A0, c0, hb, hg, hr0⟩ := h
 exact ⟨A0, c0, by simpa using blk_set hb 2 (.int .u64 x), hg, hr0⟩
class IsC66 (w0 : outParam World) (W : World) (g : Nat) (f0 : outParam (List Int)) (f1 : outParam (Int)) (f2 : outParam (Int)) : Prop where out : IsS66 w0 W g f0 f1 f2
theorem sS66 {w0 W : World} {g : Nat} {f0 : List Int} {f1 : Int} {f2 : Int} (h : IsS66 w0 W g f0 f1 f2) : IsC66 w0 W g f0 f1 f2 := ⟨h⟩
theorem tS66 {w0 W : World} {g : Nat} {f0 : List Int} {f1 : Int} {f2 : Int} [h : IsC66 w0 W g f0 f1 f2] : IsS66 w0 W g f0 f1 f2 := h.out
theorem bS66 (g : Nat) {w0 W W1 : World} {f0 : List Int} {f1 : Int} {f2 : Int} (k : Below W.heap.size W W1) [h : IsC66 w0 W g f0 f1 f2] : IsC66 w0 W1 g f0 f1 f2 := ⟨IsS66.below h.out k⟩
instance IsS66.allocI {w0 W : World} {g : Nat} {f0 : List Int} {f1 : Int} {f2 : Int} [h : IsC66 w0 W g f0 f1 f2] (o : Obj) : IsC66 w0 (W.alloc o) g f0 f1 f2 := ⟨IsS66.alloc h.out o⟩
instance IsS66.drewNI {w0 W : World} {g : Nat} {f0 : List Int} {f1 : Int} {f2 : Int} [h : IsC66 w0 W g f0 f1 f2] (m : Nat) : IsC66 w0 (W.drewN m) g f0 f1 f2 := ⟨IsS66.drewN h.out m⟩
instance IsS66.drewI {w0 W : World} {g : Nat} {f0 : List Int} {f1 : Int} {f2 : Int} [h : IsC66 w0 W g f0 f1 f2] : IsC66 w0 W.drew g f0 f1 f2 := ⟨IsS66.drew h.out⟩
instance IsS66.ltI {w0 W : World} {g : Nat} {f0 : List Int} {f1 : Int} {f2 : Int} [h : IsC66 w0 W g f0 f1 f2] : LtH W g := ⟨IsS66.lt h.out⟩
theorem IsS66.geI {w0 W : World} {g : Nat} {f0 : List Int} {f1 : Int} {f2 : Int} (h : IsC66 w0 W g f0 f1 f2) : Ge w0 g := ⟨IsS66.ge h.out⟩
instance IsS66.farI {w0 W : World} {g : Nat} {f0 : List Int} {f1 : Int} {f2 : Int} {b j : Nat} [h : IsC66 w0 W g f0 f1 f2] [k : Ap g b] (u : Value) : IsC66 w0 (W.setCell ⟨b, j, none⟩ u) g f0 f1 f2 := ⟨IsS66.far h.out k.out u⟩
instance IsS66.set_1I {w0 W : World} {g : Nat} {f0 : List Int} {f1 : Int} {f2 : Int} [h : IsC66 w0 W g f0 f1 f2] (x : Int) : IsC66 w0 (W.setCell ⟨g, 1, none⟩ (.int .i64 x)) g f0 x f2 := ⟨IsS66.set_1 h.out x⟩
instance IsS66.set_2I {w0 W : World} {g : Nat} {f0 : List Int} {f1 : Int} {f2 : Int} [h : IsC66 w0 W g f0 f1 f2] (x : Int) : IsC66 w0 (W.setCell ⟨g, 2, none⟩ (.int .u64 x)) g f0 f1 x := ⟨IsS66.set_2 h.out x⟩

/-! ### spec_l1Cur_next: function 66 -/
def spec_l1Cur_next.f (s0_0 : List Int) (s0_1 : Int) (s0_2 : Int) : Option (Int × Int × Int) := if s0_1 < (s0_0.length : Int) then (if 0 ≤ s0_1 then (if (wrap64 (s0_1 + 1)) ≤ (s0_0.length : Int) then (some (wrap64 (rd s0_0 s0_1), wrap64 (s0_1 + 1), IntKind.u64.wrap ((IntKind.u64.wrap ((IntKind.u64.wrap (s0_2 * 6364136223846793005)) + (IntKind.u64.wrap (wrap64 (rd s0_0 s0_1))))) + 1442695040888963407))) else (some (wrap64 (Go.bits .and .u64 ((IntKind.u64.wrap ((IntKind.u64.wrap ((IntKind.u64.wrap (s0_2 * 6364136223846793005)) + (IntKind.u64.wrap (wrap64 (rd s0_0 s0_1))))) + 1442695040888963407)) / 1099511627776) 255), wrap64 (s0_1 + 1), IntKind.u64.wrap ((IntKind.u64.wrap ((IntKind.u64.wrap (s0_2 * 6364136223846793005)) + (IntKind.u64.wrap (wrap64 (rd s0_0 s0_1))))) + 1442695040888963407)))) else (none)) else (if (wrap64 (s0_1 + 1)) ≤ (s0_0.length : Int) then (some (0, wrap64 (s0_1 + 1), IntKind.u64.wrap ((IntKind.u64.wrap ((IntKind.u64.wrap (s0_2 * 6364136223846793005)) + 0)) + 1442695040888963407))) else (some (wrap64 (Go.bits .and .u64 ((IntKind.u64.wrap ((IntKind.u64.wrap ((IntKind.u64.wrap (s0_2 * 6364136223846793005)) + 0)) + 1442695040888963407)) / 1099511627776) 255), wrap64 (s0_1 + 1), IntKind.u64.wrap ((IntKind.u64.wrap ((IntKind.u64.wrap (s0_2 * 6364136223846793005)) + 0)) + 1442695040888963407))))
set_option maxHeartbeats 8000000 in
set_option maxRecDepth 100000 in
theorem spec_l1Cur_next.calls (g : Nat) (s0_0 : List Int) (s0_1 : Int) (s0_2 : Int) (r1 : Int) (r2 : Int) (r3 : Int) (w0 w : World) (hI : IsS66 w0 w g s0_0 s0_1 s0_2) (hB : Below w0.heap.size w0 w) (h : spec_l1Cur_next.f s0_0 s0_1 s0_2 = some (r1, r2, r3)) :
  Calls Tryz.prog 66 #[.pointer (some ⟨g, 0, none⟩)] w fun e w' => e = .returned (.int .i64 r1) ∧ IsS66 w0 w' g s0_0 r2 r3 ∧ Below w0.heap.size w0 w' ∧ KeepBut w w' g none := by
 have HI0 := sS66 hI
 have GI_HI0 := IsS66.geI HI0
 have HK := aM (KeepBut.refl w g none)
 have HL := aM hB.size
 clear hI
 have HW0 := aM hB.size
 have HB := aM hB
 clear hB
 have H := h
 clear h; unfold spec_l1Cur_next.f at H
 refine iI H ?_ ?_ <;> clear H <;> intro c2 H
 ·have c2b0 := dT c2
  clear c2
  refine iY H ?_; clear H; intro c3 H
  have c3b0 := dT c3
  clear c3
  refine iI H ?_ ?_ <;> clear H <;> intro c4 H
  ·have c4b0 := dT c4
   clear c4
   simp only [Option.some.injEq, Prod.mk.injEq] at H
   obtain ⟨rfl, rfl, rfl⟩ := H
   obtain ⟨ASz5_0, cSz5_0, HGz5, hgz5, HSz5_0⟩ := HI0.out
   have hcz5_0 := cellS66_0 HGz5
   have hcz5_1 := cellS66_1 HGz5
   have hcz5_2 := cellS66_2 HGz5
   have hfz5_1 := blk_frozen HGz5 1
   have hfz5_2 := blk_frozen HGz5 2
   clear HGz5 hgz5
   have p101 : 0 ≤ (s0_1 : Int) := oD
   have q101 : s0_1 < (s0_0.length : Int) := oD
   obtain ⟨ad101, e101, hx101_0⟩ := Kd.at_int HSz5_0 s0_1 p101 q101
   cases e101
   replace hx101_0 := pw_cell_below HB.out hx101_0
   replace p101 := eq_true p101
   replace q101 := eq_true q101
   go_enter Tryz.func66, Tryz.ntmps66
   go_wp2
   repeat (go_quiet (fail); try go_wp2)
   go_ret
   exact ⟨eW, by (try simp only [Int.add_zero]); repeat (first | (with_reducible first | exact HI0.out | apply IsS66.alloc | apply IsS66.drewN | apply IsS66.drew | apply IsS66.set_1 | apply IsS66.set_2) | exact HI0.out), bel HB, kp HK⟩
  have c4b0 := dF c4
  clear c4
  simp only [Option.some.injEq, Prod.mk.injEq] at H
  obtain ⟨rfl, rfl, rfl⟩ := H
  obtain ⟨ASz6_0, cSz6_0, HGz6, hgz6, HSz6_0⟩ := HI0.out
  have hcz6_0 := cellS66_0 HGz6
  have hcz6_1 := cellS66_1 HGz6
  have hcz6_2 := cellS66_2 HGz6
  have hfz6_1 := blk_frozen HGz6 1
  have hfz6_2 := blk_frozen HGz6 2
  clear HGz6 hgz6
  have p101 : 0 ≤ (s0_1 : Int) := oD
  have q101 : s0_1 < (s0_0.length : Int) := oD
  obtain ⟨ad101, e101, hx101_0⟩ := Kd.at_int HSz6_0 s0_1 p101 q101
  cases e101
  replace hx101_0 := pw_cell_below HB.out hx101_0
  replace p101 := eq_true p101
  replace q101 := eq_true q101
  go_enter Tryz.func66, Tryz.ntmps66
  go_wp2
  repeat (go_quiet (fail); try go_wp2)
  go_ret
  exact ⟨eW, by (try simp only [Int.add_zero]); repeat (first | (with_reducible first | exact HI0.out | apply IsS66.alloc | apply IsS66.drewN | apply IsS66.drew | apply IsS66.set_1 | apply IsS66.set_2) | exact HI0.out), bel HB, kp HK⟩
 have c2b0 := dF c2
 clear c2
 refine iI H ?_ ?_ <;> clear H <;> intro c7 H
 ·have c7b0 := dT c7
  clear c7
  simp only [Option.some.injEq, Prod.mk.injEq] at H
  obtain ⟨rfl, rfl, rfl⟩ := H
  obtain ⟨ASz8_0, cSz8_0, HGz8, hgz8, HSz8_0⟩ := HI0.out
  have hcz8_0 := cellS66_0 HGz8
  have hcz8_1 := cellS66_1 HGz8
  have hcz8_2 := cellS66_2 HGz8
  have hfz8_1 := blk_frozen HGz8 1
  have hfz8_2 := blk_frozen HGz8 2
  clear HGz8 hgz8
  go_enter Tryz.func66, Tryz.ntmps66
  go_wp2
  repeat (go_quiet (fail); try go_wp2)
  go_ret
  exact ⟨eW, by (try simp only [Int.add_zero]); repeat (first | (with_reducible first | exact HI0.out | apply IsS66.alloc | apply IsS66.drewN | apply IsS66.drew | apply IsS66.set_1 | apply IsS66.set_2) | exact HI0.out), bel HB, kp HK⟩
 have c7b0 := dF c7
 clear c7
 simp only [Option.some.injEq, Prod.mk.injEq] at H
 obtain ⟨rfl, rfl, rfl⟩ := H
 obtain ⟨ASz9_0, cSz9_0, HGz9, hgz9, HSz9_0⟩ := HI0.out
 have hcz9_0 := cellS66_0 HGz9
 have hcz9_1 := cellS66_1 HGz9
 have hcz9_2 := cellS66_2 HGz9
 have hfz9_1 := blk_frozen HGz9 1
 have hfz9_2 := blk_frozen HGz9 2
 clear HGz9 hgz9
 go_enter Tryz.func66, Tryz.ntmps66
 go_wp2
 repeat (go_quiet (fail); try go_wp2)
 go_ret
 exact ⟨eW, by (try simp only [Int.add_zero]); repeat (first | (with_reducible first | exact HI0.out | apply IsS66.alloc | apply IsS66.drewN | apply IsS66.drew | apply IsS66.set_1 | apply IsS66.set_2) | exact HI0.out), bel HB, kp HK⟩

/-! ### spec_l1Cur_pick: function 38 -/
def spec_l1Cur_pick.f (s0_0 : List Int) (s0_1 : Int) (s0_2 : Int) (a1 : Int) : Option (Int × Int × Int) := if a1 ≤ 1 then (some (0, s0_1, s0_2)) else ((spec_l1Cur_next.f s0_0 s0_1 s0_2).bind fun bt102 => (if a1 > 200 then ((spec_l1Cur_next.f s0_0 bt102.2.1 bt102.2.2).bind fun bt105 => (if a1 = 0 then (none) else (some (Int.tmod (wrap64 ((wrap64 (bt102.1 * 256)) + bt105.1)) a1, bt105.2.1, bt105.2.2)))) else (if a1 = 0 then (none) else (some (Int.tmod bt102.1 a1, bt102.2.1, bt102.2.2)))))
set_option maxHeartbeats 8000000 in
set_option maxRecDepth 100000 in
theorem spec_l1Cur_pick.calls (g : Nat) (s0_0 : List Int) (s0_1 : Int) (s0_2 : Int) (a1 : Int) (r1 : Int) (r2 : Int) (r3 : Int) (w0 w : World) (hI : IsS66 w0 w g s0_0 s0_1 s0_2) (hB : Below w0.heap.size w0 w) (h : spec_l1Cur_pick.f s0_0 s0_1 s0_2 a1 = some (r1, r2, r3)) :
  Calls Tryz.prog 38 #[.pointer (some ⟨g, 0, none⟩), .int .i64 a1] w fun e w' => e = .returned (.int .i64 r1) ∧ IsS66 w0 w' g s0_0 r2 r3 ∧ Below w0.heap.size w0 w' ∧ KeepBut w w' g none := by
 have HI0 := sS66 hI
 have GI_HI0 := IsS66.geI HI0
 have HK := aM (KeepBut.refl w g none)
 have HL := aM hB.size
 clear hI
 have HW0 := aM hB.size
 have HB := aM hB
 clear hB
 have H := h
 clear h; unfold spec_l1Cur_pick.f at H
 refine iI H ?_ ?_ <;> clear H <;> intro c3 H
 ·have c3b0 := dT c3
  clear c3
  simp only [Option.some.injEq, Prod.mk.injEq] at H
  obtain ⟨rfl, rfl, rfl⟩ := H
  go_enter Tryz.func38, Tryz.ntmps38
  go_wp2
  go_ret
  exact ⟨eW, tS66, bel HB, kp HK⟩
 have c3b0 := dF c3
 clear c3
 replace H := bC H; obtain ⟨⟨t102, t103, t104⟩, A4, H⟩ := H; try dsimp only at H
 refine iI H ?_ ?_ <;> clear H <;> intro c5 H
 ·have c5b0 := gT c5
  clear c5
  replace H := bC H; obtain ⟨⟨t105, t106, t107⟩, A6, H⟩ := H; try dsimp only at H
  refine iN H ?_; clear H; intro c7 H
  have c7b0 := qF c7
  have c7b1 := nT c7
  simp only [Option.some.injEq, Prod.mk.injEq] at H
  obtain ⟨rfl, rfl, rfl⟩ := H
  go_enter Tryz.func38, Tryz.ntmps38
  go_wp2_with (first | ((with_reducible refine gG 66 (some 9) rfl rfl ?_); refine gC Tryz.func66 (spec_l1Cur_next.calls g s0_0 s0_1 s0_2 t102 t103 t104 w0 _ tS66 (bel HB) A4.out) ?_; rintro w8 ⟨hi, hb, hk⟩; replace HK := kT HK hk; replace HB := aM (hb); replace HI0 := sS66 (hi); clear hb hk hi) | ((with_reducible refine gG 66 (some 15) rfl rfl ?_); refine gC Tryz.func66 (spec_l1Cur_next.calls g s0_0 t103 t104 t105 t106 t107 w0 _ tS66 (bel HB) A6.out) ?_; rintro w9 ⟨hi, hb, hk⟩; replace HK := kT HK hk; replace HB := aM (hb); replace HI0 := sS66 (hi); clear hb hk hi))
  go_ret
  exact ⟨eW, tS66, bel HB, kp HK⟩
 have c5b0 := gF c5
 clear c5
 refine iN H ?_; clear H; intro c10 H
 have c10b0 := qF c10
 have c10b1 := nT c10
 simp only [Option.some.injEq, Prod.mk.injEq] at H
 obtain ⟨rfl, rfl, rfl⟩ := H
 go_enter Tryz.func38, Tryz.ntmps38
 go_wp2_with (first | ((with_reducible refine gG 66 (some 9) rfl rfl ?_); refine gC Tryz.func66 (spec_l1Cur_next.calls g s0_0 s0_1 s0_2 t102 t103 t104 w0 _ tS66 (bel HB) A4.out) ?_; rintro w11 ⟨hi, hb, hk⟩; replace HK := kT HK hk; replace HB := aM (hb); replace HI0 := sS66 (hi); clear hb hk hi))
 go_ret
 exact ⟨eW, tS66, bel HB, kp HK⟩

/-! ### spec_l1Cur_one: function 34 -/
def spec_l1Cur_one.f (s0_0 : List Int) (s0_1 : Int) (s0_2 : Int) (a1 : Int) : Option (Bool × Int × Int) := (spec_l1Cur_pick.f s0_0 s0_1 s0_2 a1).bind fun bt108 => (some ((bt108.1 == 0), bt108.2.1, bt108.2.2))
set_option maxHeartbeats 8000000 in
set_option maxRecDepth 100000 in
theorem spec_l1Cur_one.calls (g : Nat) (s0_0 : List Int) (s0_1 : Int) (s0_2 : Int) (a1 : Int) (r1 : Bool) (r2 : Int) (r3 : Int) (w0 w : World) (hI : IsS66 w0 w g s0_0 s0_1 s0_2) (hB : Below w0.heap.size w0 w) (h : spec_l1Cur_one.f s0_0 s0_1 s0_2 a1 = some (r1, r2, r3)) :
  Calls Tryz.prog 34 #[.pointer (some ⟨g, 0, none⟩), .int .i64 a1] w fun e w' => e = .returned (.bool r1) ∧ IsS66 w0 w' g s0_0 r2 r3 ∧ Below w0.heap.size w0 w' ∧ KeepBut w w' g none := by
 have HI0 := sS66 hI
 have GI_HI0 := IsS66.geI HI0
 have HK := aM (KeepBut.refl w g none)
 have HL := aM hB.size
 clear hI
 have HW0 := aM hB.size
 have HB := aM hB
 clear hB
 have H := h
 clear h; unfold spec_l1Cur_one.f at H
 replace H := bC H; obtain ⟨⟨t108, t109, t110⟩, A3, H⟩ := H; try dsimp only at H
 simp only [Option.some.injEq, Prod.mk.injEq] at H
 obtain ⟨rfl, rfl, rfl⟩ := H
 go_enter Tryz.func34, Tryz.ntmps34
 go_wp2_with (first | ((with_reducible refine gG 38 (some 7) rfl rfl ?_); refine gC Tryz.func38 (spec_l1Cur_pick.calls g s0_0 s0_1 s0_2 a1 t108 t109 t110 w0 _ tS66 (bel HB) A3.out) ?_; rintro w4 ⟨hi, hb, hk⟩; replace HK := kT HK hk; replace HB := aM (hb); replace HI0 := sS66 (hi); clear hb hk hi))
 go_ret
 exact ⟨eW, tS66, bel HB, kp HK⟩

/-! ### spec_l1Cur_of: function 35 -/
def spec_l1Cur_of.f (s0_0 : List Int) (s0_1 : Int) (s0_2 : Int) (l1 : List ByteArray) : Option (ByteArray × Int × Int) := (spec_l1Cur_pick.f s0_0 s0_1 s0_2 (l1.length : Int)).bind fun bt111 => (if 0 ≤ bt111.1 then (if bt111.1 < (l1.length : Int) then (some (rdOf ByteArray.empty l1 bt111.1, bt111.2.1, bt111.2.2)) else (none)) else (none))
set_option maxHeartbeats 8000000 in
set_option maxRecDepth 100000 in
theorem spec_l1Cur_of.calls (g : Nat) (s0_0 : List Int) (s0_1 : Int) (s0_2 : Int) (A1 : Option Addr) (c1 : Nat) (l1 : List ByteArray) (r1 : ByteArray) (r2 : Int) (r3 : Int) (w0 w : World) (hI : IsS66 w0 w g s0_0 s0_1 s0_2) (hB : Below w0.heap.size w0 w) (hr1 : Kd.C Kd.string w A1 l1.length l1) (hc1 : l1.length ≤ c1) (hf1 : ∀ ad, A1 = some ad → 0 < l1.length → ad.block ≠ g) (h : spec_l1Cur_of.f s0_0 s0_1 s0_2 l1 = some (r1, r2, r3)) :
  Calls Tryz.prog 35 #[.pointer (some ⟨g, 0, none⟩), .slice A1 l1.length c1] w fun e w' => e = .returned (.string r1) ∧ IsS66 w0 w' g s0_0 r2 r3 ∧ Below w0.heap.size w0 w' ∧ KeepBut w w' g none := by
 have HR1 := aM hr1
 have HC1 := aM hc1
 clear hr1 hc1
 have HI0 := sS66 hI
 have GI_HI0 := IsS66.geI HI0
 have HK := aM (KeepBut.refl w g none)
 have HL := aM hB.size
 clear hI
 have HW0 := aM hB.size
 have HB := aM hB
 clear hB
 have H := h
 clear h; unfold spec_l1Cur_of.f at H
 replace H := bC H; obtain ⟨⟨t111, t112, t113⟩, A3, H⟩ := H; try dsimp only at H
 refine iY H ?_; clear H; intro c4 H
 have c4b0 := dT c4
 clear c4
 refine iY H ?_; clear H; intro c5 H
 have c5b0 := dT c5
 clear c5
 simp only [Option.some.injEq, Prod.mk.injEq] at H
 obtain ⟨rfl, rfl, rfl⟩ := H
 go_enter Tryz.func35, Tryz.ntmps35
 go_wp2_with (first | ((with_reducible refine gG 38 (some 9) rfl rfl ?_); refine gC Tryz.func38 (spec_l1Cur_pick.calls g s0_0 s0_1 s0_2 (l1.length : Int) t111 t112 t113 w0 _ tS66 (bel HB) A3.out) ?_; rintro w6 ⟨hi, hb, hk⟩; replace HK := kT HK hk; replace HB := aM (hb); replace HI0 := sS66 (hi); clear hb hk hi; have p114 : 0 ≤ (t111 : Int) := oD; have q114 : t111 < (l1.length : Int) := oD; obtain ⟨ad114, e114, hx114_0⟩ := Kd.at_string HR1.out t111 p114 q114; cases e114; replace hx114_0 := keep_cell HK.out hx114_0 (by first | (rw [add_block]; exact hf1 _ rfl (by omega)) | exact hf1 _ rfl (by omega) | exact hf1 ad114 rfl (by omega)); replace p114 := eq_true p114; replace q114 := eq_true q114))
 go_ret
 exact ⟨eW, tS66, bel HB, kp HK⟩

/-! ### spec_l1Cur_among: function 36 -/
def spec_l1Cur_among.f (s0_0 : List Int) (s0_1 : Int) (s0_2 : Int) (l1 : List Int) : Option (Int × Int × Int) := (spec_l1Cur_pick.f s0_0 s0_1 s0_2 (l1.length : Int)).bind fun bt115 => (if 0 ≤ bt115.1 then (if bt115.1 < (l1.length : Int) then (some (rd l1 bt115.1, bt115.2.1, bt115.2.2)) else (none)) else (none))
set_option maxHeartbeats 8000000 in
set_option maxRecDepth 100000 in
theorem spec_l1Cur_among.calls (g : Nat) (s0_0 : List Int) (s0_1 : Int) (s0_2 : Int) (A1 : Option Addr) (c1 : Nat) (l1 : List Int) (r1 : Int) (r2 : Int) (r3 : Int) (w0 w : World) (hI : IsS66 w0 w g s0_0 s0_1 s0_2) (hB : Below w0.heap.size w0 w) (hr1 : Kd.C (Kd.int .i64) w A1 l1.length l1) (hc1 : l1.length ≤ c1) (hf1 : ∀ ad, A1 = some ad → 0 < l1.length → ad.block ≠ g) (h : spec_l1Cur_among.f s0_0 s0_1 s0_2 l1 = some (r1, r2, r3)) :
  Calls Tryz.prog 36 #[.pointer (some ⟨g, 0, none⟩), .slice A1 l1.length c1] w fun e w' => e = .returned (.int .i64 r1) ∧ IsS66 w0 w' g s0_0 r2 r3 ∧ Below w0.heap.size w0 w' ∧ KeepBut w w' g none := by
 have HR1 := aM hr1
 have HC1 := aM hc1
 clear hr1 hc1
 have HI0 := sS66 hI
 have GI_HI0 := IsS66.geI HI0
 have HK := aM (KeepBut.refl w g none)
 have HL := aM hB.size
 clear hI
 have HW0 := aM hB.size
 have HB := aM hB
 clear hB
 have H := h
 clear h; unfold spec_l1Cur_among.f at H
 replace H := bC H; obtain ⟨⟨t115, t116, t117⟩, A3, H⟩ := H; try dsimp only at H
 refine iY H ?_; clear H; intro c4 H
 have c4b0 := dT c4
 clear c4
 refine iY H ?_; clear H; intro c5 H
 have c5b0 := dT c5
 clear c5
 simp only [Option.some.injEq, Prod.mk.injEq] at H
 obtain ⟨rfl, rfl, rfl⟩ := H
 go_enter Tryz.func36, Tryz.ntmps36
 go_wp2_with (first | ((with_reducible refine gG 38 (some 9) rfl rfl ?_); refine gC Tryz.func38 (spec_l1Cur_pick.calls g s0_0 s0_1 s0_2 (l1.length : Int) t115 t116 t117 w0 _ tS66 (bel HB) A3.out) ?_; rintro w6 ⟨hi, hb, hk⟩; replace HK := kT HK hk; replace HB := aM (hb); replace HI0 := sS66 (hi); clear hb hk hi; have p118 : 0 ≤ (t115 : Int) := oD; have q118 : t115 < (l1.length : Int) := oD; obtain ⟨ad118, e118, hx118_0⟩ := Kd.at_int HR1.out t115 p118 q118; cases e118; replace hx118_0 := keep_cell HK.out hx118_0 (by first | (rw [add_block]; exact hf1 _ rfl (by omega)) | exact hf1 _ rfl (by omega) | exact hf1 ad118 rfl (by omega)); replace p118 := eq_true p118; replace q118 := eq_true q118))
 go_ret
 exact ⟨eW, tS66, bel HB, kp HK⟩

/-! ### spec_riState: function 65 -/
def spec_riState.l0 : Nat → Int → Int → ByteArray → Int → Option (ByteArray)
 | 0, _, _, _, _ => none
 | k + 1, x0, x1, x5, x6 => if x6 < x0 then (if 0 ≤ x6 then (if 0 ≤ (wrap64 (x6 + 1)) then (if (Go.bits .and .i64 (shr .i64 x1 x6) 1) = (Go.bits .and .i64 (shr .i64 x1 (wrap64 (x6 + 1))) 1) then (if x5.size + 1 ≤ 9223372036854775807 then (spec_riState.l0 k x0 x1 (x5 ++ (⟨#[48]⟩ : ByteArray)) (wrap64 (x6 + 1))) else (none)) else (if x5.size + 1 ≤ 9223372036854775807 then (spec_riState.l0 k x0 x1 (x5 ++ (⟨#[49]⟩ : ByteArray)) (wrap64 (x6 + 1))) else (none))) else (none)) else (none)) else (some x5)
def spec_riState.f (k : Nat) (a0 : Int) (a1 : Int) : Option (ByteArray) := spec_riState.l0 k a0 a1 (⟨#[]⟩ : ByteArray) 0
theorem spec_riState.mono_l : ∀ k, Mo (spec_riState.l0 k) (spec_riState.l0 (k + 1))
 | 0 => m0
 | k + 1 => by
  have ih0 := spec_riState.mono_l k
  (repeat refine mE fun _ => ?_) <;> first | (unfold spec_riState.l0; exact mG)
instance spec_riState.mI (k : Nat) : Mo (spec_riState.f k) (spec_riState.f (k + 1)) := by
 have ih0 := spec_riState.mono_l k
 (repeat refine mE fun _ => ?_); unfold spec_riState.f; exact mG
theorem spec_riState.mono : ∀ a0 a1 k, LeO (spec_riState.f k a0 a1) (spec_riState.f (k + 1) a0 a1) := fun a0 a1 k => (spec_riState.mI k).out a0 a1
set_option maxHeartbeats 8000000 in
set_option maxRecDepth 100000 in
theorem spec_riState.calls (k : Nat) (a0 : Int) (a1 : Int) (r : ByteArray) (w : World) (h : spec_riState.f k a0 a1 = some r) :
  Calls Tryz.prog 65 #[.int .i64 a0, .int .i64 a1] w fun e w' => e = .returned (.string r) ∧ Drawn0 w w' := by
 have H := h
 clear h; unfold spec_riState.f at H
 have H' := aM H
 clear H
 go_enter Tryz.func65, Tryz.ntmps65
 go_wp2
 repeat (go_quiet (fail); try go_wp2)
 go_loopg [5, 6] k (fun kq v5 v6 w' => ∃ (x5_1 : ByteArray) (x6_1 : Int), v5 = .string x5_1 ∧ v6 = .int .i64 x6_1 ∧ Aside0 (spec_riState.l0 kq a0 a1 x5_1 x6_1 = some r) ∧ Aside0 (kq ≤ k) ∧ Drawn0 w w')
 case atStart => exact ⟨((⟨#[]⟩ : ByteArray)), (0), rF, rF, H', kR, d0⟩
 case round =>
  clear H'
  obtain ⟨x5_1, x6_1, rfl, rfl, HA, HK1, ⟨m1, rfl⟩⟩ := hrel
  obtain rfl | ⟨k1, rfl⟩ := fz gk
  ·exact zA HA
  have H := HA.out
  clear HA
  simp only [spec_riState.l0] at H
  refine iI H ?_ ?_ <;> clear H <;> intro c3 H
  ·have c3b0 := dT c3
   clear c3
   refine iY H ?_; clear H; intro c4 H
   have c4b0 := eq_true c4
   have c4b1 := dT c4
   clear c4
   obtain ⟨ji5, hji5⟩ := jN (shr .i64 a1 x6_1)
   first | rw [hji5] at H | simp only [hji5] at H
   have hji5_ : (a1 / 2 ^ min x6_1.toNat 64) = ji5 := hji5
   have hji5z : x6_1 ≤ 64 → (a1 / 2 ^ x6_1.toNat) = ji5 := shr_small hji5
   obtain ⟨ji6, hji6⟩ := jN (wrap64 (x6_1 + 1))
   first | rw [hji6] at H | simp only [hji6] at H
   have hji6w : (IntKind.i64.wrap (x6_1 + 1)) = ji6 := (i64_w _).trans hji6
   refine iY H ?_; clear H; intro c7 H
   have c7b0 := eq_true c7
   have c7b1 := dT c7
   clear c7
   obtain ⟨ji8, hji8⟩ := jN (shr .i64 a1 (ji6))
   first | rw [hji8] at H | simp only [hji8] at H
   have hji8_ : (a1 / 2 ^ min (ji6).toNat 64) = ji8 := hji8
   have hji8z : (ji6) ≤ 64 → (a1 / 2 ^ (ji6).toNat) = ji8 := shr_small hji8
   refine iI H ?_ ?_ <;> clear H <;> intro c9 H
   ·have c9b0 := qT c9
    have c9b1 := nF c9
    clear c9
    refine iY H ?_; clear H; intro c10 H
    have c10b0 := eq_true c10
    have c10b1 := dT c10
    try have c10b2 : (9223372036854775807 < x5_1.size + 1) = False := eq_false (Nat.not_lt.2 c10)
    have H' := aM H
    clear H
    go_wp2
    repeat (go_quiet (fail); try go_wp2)
    go_roundg k1
    case measure => have := HK1.out; omega
    case rel => exact ⟨(x5_1 ++ (⟨#[48]⟩ : ByteArray)), (ji6), rF, (by first | rfl | (simp; done) | (simp only [← hji6] <;> (first | rfl | simp)) | (simp [*]; done)), H', ⟨by have := HK1.out; omega⟩, d0⟩
   have c9b0 := qF c9
   have c9b1 := nT c9
   refine iY H ?_; clear H; intro c11 H
   have c11b0 := eq_true c11
   have c11b1 := dT c11
   try have c11b2 : (9223372036854775807 < x5_1.size + 1) = False := eq_false (Nat.not_lt.2 c11)
   have H' := aM H
   clear H
   go_wp2
   repeat (go_quiet (fail); try go_wp2)
   go_roundg k1
   case measure => have := HK1.out; omega
   case rel => exact ⟨(x5_1 ++ (⟨#[49]⟩ : ByteArray)), (ji6), rF, (by first | rfl | (simp; done) | (simp only [← hji6] <;> (first | rfl | simp)) | (simp [*]; done)), H', ⟨by have := HK1.out; omega⟩, d0⟩
  have c3b0 := dF c3
  clear c3
  obtain rfl := Option.some.inj H
  go_wp2
  repeat (go_quiet (fail); try go_wp2)
  go_ret
  exact ⟨rF, d0⟩

/-! ### spec_l1Cur_hidden: function 37 -/
def spec_l1Cur_hidden.f (k : Nat) (s0_0 : List Int) (s0_1 : Int) (s0_2 : Int) : Option (ByteArray × Int × Int) := (spec_l1Cur_pick.f s0_0 s0_1 s0_2 6).bind fun bt119 => (if 0 ≤ (wrap64 (1 + bt119.1)) then ((spec_l1Cur_pick.f s0_0 bt119.2.1 bt119.2.2 (shl .i64 1 (wrap64 (1 + bt119.1)))).bind fun bt122 => ((spec_riState.f k (wrap64 (1 + bt119.1)) bt122.1).bind fun t125 => (some (t125, bt122.2.1, bt122.2.2)))) else (none))
instance spec_l1Cur_hidden.mI (k : Nat) : Mo (spec_l1Cur_hidden.f k) (spec_l1Cur_hidden.f (k + 1)) := by
 (repeat refine mE fun _ => ?_); unfold spec_l1Cur_hidden.f; exact mG
theorem spec_l1Cur_hidden.mono : ∀ a0 a1 a2 k, LeO (spec_l1Cur_hidden.f k a0 a1 a2) (spec_l1Cur_hidden.f (k + 1) a0 a1 a2) := fun a0 a1 a2 k => (spec_l1Cur_hidden.mI k).out a0 a1 a2
set_option maxHeartbeats 8000000 in
set_option maxRecDepth 100000 in
theorem spec_l1Cur_hidden.calls (k : Nat) (g : Nat) (s0_0 : List Int) (s0_1 : Int) (s0_2 : Int) (r1 : ByteArray) (r2 : Int) (r3 : Int) (w0 w : World) (hI : IsS66 w0 w g s0_0 s0_1 s0_2) (hB : Below w0.heap.size w0 w) (h : spec_l1Cur_hidden.f k s0_0 s0_1 s0_2 = some (r1, r2, r3)) :
  Calls Tryz.prog 37 #[.pointer (some ⟨g, 0, none⟩)] w fun e w' => e = .returned (.string r1) ∧ IsS66 w0 w' g s0_0 r2 r3 ∧ Below w0.heap.size w0 w' ∧ KeepBut w w' g none := by
 have HI0 := sS66 hI
 have GI_HI0 := IsS66.geI HI0
 have HK := aM (KeepBut.refl w g none)
 have HL := aM hB.size
 clear hI
 have HW0 := aM hB.size
 have HB := aM hB
 clear hB
 have H := h
 clear h; unfold spec_l1Cur_hidden.f at H
 replace H := bC H; obtain ⟨⟨t119, t120, t121⟩, A2, H⟩ := H; try dsimp only at H
 obtain ⟨ji3, hji3⟩ := jN (wrap64 (1 + t119))
 first | rw [hji3] at H | simp only [hji3] at H
 (try rw [hji3] at A2)
 have hji3w : (IntKind.i64.wrap (1 + t119)) = ji3 := (i64_w _).trans hji3
 refine iY H ?_; clear H; intro c4 H
 have c4b0 := eq_true c4
 have c4b1 := dT c4
 clear c4
 obtain ⟨ji5, hji5⟩ := jN (shl .i64 1 (ji3))
 first | rw [hji5] at H | simp only [hji5] at H
 (try rw [hji5] at A2)
 have hji5_ : (IntKind.i64.wrap (1 * 2 ^ min (ji3).toNat 64)) = ji5 := hji5
 have hji5z : (ji3) ≤ 64 → (IntKind.i64.wrap (1 * 2 ^ (ji3).toNat)) = ji5 := shl_small hji5
 have hji5u : (IntKind.i64.wrap (2 ^ min (ji3).toNat 64)) = ji5 := by have h_ := hji5_; rw [Int.one_mul] at h_; exact h_
 have hji5v : (ji3) ≤ 64 → (IntKind.i64.wrap (2 ^ (ji3).toNat)) = ji5 := fun hle_ => by have h_ := hji5z hle_; rw [Int.one_mul] at h_; exact h_
 have hji5y : (wrap64 (1 * 2 ^ min (ji3).toNat 64)) = ji5 := (i64_w _).symm.trans hji5_
 have hji5x : (ji3) ≤ 64 → (wrap64 (1 * 2 ^ (ji3).toNat)) = ji5 := fun h_ => (i64_w _).symm.trans (hji5z h_)
 replace H := bC H; obtain ⟨⟨t122, t123, t124⟩, A6, H⟩ := H; try dsimp only at H
 replace H := bC H; obtain ⟨t125, A7, H⟩ := H
 simp only [Option.some.injEq, Prod.mk.injEq] at H
 obtain ⟨rfl, rfl, rfl⟩ := H
 go_enter Tryz.func37, Tryz.ntmps37
 go_wp2_with (first | ((with_reducible refine gG 38 (some 5) rfl rfl ?_); refine gC Tryz.func38 (spec_l1Cur_pick.calls g s0_0 s0_1 s0_2 6 t119 t120 t121 w0 _ tS66 (bel HB) A2.out) ?_; rintro w8 ⟨hi, hb, hk⟩; replace HK := kT HK hk; replace HB := aM (hb); replace HI0 := sS66 (hi); clear hb hk hi) | ((with_reducible refine gG 38 (some 11) rfl rfl ?_); refine gL Tryz.func38 #[.pointer (some ⟨g, 0, none⟩), .int .i64 ji5] ?_ (hargs := by (try simp only [List.map_toArray, List.map_cons, List.map_nil]); first | done | (simp only [hji5]; rfl) | rfl | (simp only [List.length_drop, List.length_take]; rfl)); (with_reducible refine (spec_l1Cur_pick.calls g s0_0 t120 t121 ji5 t122 t123 t124 w0 _ tS66 (bel HB) A6.out).mono ?_); rintro e w9 ⟨rfl, hi, hb, hk⟩; refine ⟨_, rfl, ?_⟩; replace HK := kT HK hk; replace HB := aM (hb); replace HI0 := sS66 (hi); clear hb hk hi) | ((with_reducible refine gG 65 (some 12) rfl rfl ?_); refine gL Tryz.func65 #[.int .i64 ji3, .int .i64 t122] ?_ (hargs := by (try simp only [List.map_toArray, List.map_cons, List.map_nil]); first | done | (simp only [hji3]; rfl) | rfl | (simp only [List.length_drop, List.length_take]; rfl)); (with_reducible refine (spec_riState.calls k ji3 t122 t125 _ A7.out).mono ?_); rintro e w' ⟨rfl, ⟨nd, rfl⟩⟩; refine ⟨_, rfl, ?_⟩))
 go_ret
 exact ⟨by first | rfl | (simp [errW_none, errW_some] <;> rfl) | (simp only [← hji3, ← hji5]; first | rfl | (simp [errW_none, errW_some] <;> rfl)) | (simp [*, errW_none, errW_some] <;> rfl), tS66, bel HB, kp HK⟩

/-! ### spec_DrawMakePuzzle: function 5 -/
def spec_DrawMakePuzzle.f (k : Nat) (l0 : List Int) : Option (ByteArray × Int × Int) := (spec_l1Cur_one.f l0 0 0 12).bind fun bt127 => (if bt127.1 = true then ((spec_l1Cur_of.f l0 bt127.2.1 bt127.2.2 (([(⟨#[]⟩ : ByteArray), (⟨#[48, 49, 120]⟩ : ByteArray), (⟨#[48, 48, 48, 48, 48, 48, 48, 48]⟩ : ByteArray), (⟨#[49, 49, 49, 49, 49, 49, 49]⟩ : ByteArray)] : List ByteArray))).bind fun bt133 => ((spec_l1Cur_among.f l0 bt133.2.1 bt133.2.2 (([(-1), 6, 7] : List Int))).bind fun bt139 => ((spec_l1Cur_among.f l0 bt139.2.1 bt139.2.2 (([(-1), 9999, 10000] : List Int))).bind fun bt145 => (some (bt133.1, bt139.1, bt145.1))))) else ((spec_l1Cur_hidden.f k l0 bt127.2.1 bt127.2.2).bind fun bt148 => ((spec_l1Cur_pick.f l0 bt148.2.1 bt148.2.2 7).bind fun bt151 => ((spec_l1Cur_pick.f l0 bt151.2.1 bt151.2.2 10000).bind fun bt154 => (some (bt148.1, bt151.1, bt154.1))))))
instance spec_DrawMakePuzzle.mI (k : Nat) : Mo (spec_DrawMakePuzzle.f k) (spec_DrawMakePuzzle.f (k + 1)) := by
 (repeat refine mE fun _ => ?_); unfold spec_DrawMakePuzzle.f; exact mG
theorem spec_DrawMakePuzzle.mono : ∀ a0 k, LeO (spec_DrawMakePuzzle.f k a0) (spec_DrawMakePuzzle.f (k + 1) a0) := fun a0 k => (spec_DrawMakePuzzle.mI k).out a0
set_option maxHeartbeats 8000000 in
set_option maxRecDepth 100000 in
theorem spec_DrawMakePuzzle.calls (k : Nat) (A0 : Option Addr) (c0 : Nat) (l0 : List Int) (r1 : ByteArray) (r2 : Int) (r3 : Int) (w : World) (hr0 : Kd.C (Kd.int .u8) w A0 l0.length l0) (hc0 : l0.length ≤ c0) (h : spec_DrawMakePuzzle.f k l0 = some (r1, r2, r3)) :
  Calls Tryz.prog 5 #[.slice A0 l0.length c0] w fun e w' => e = .returned (.tuple #[.string r1, .int .i64 r2, .int .i64 r3]) ∧ Below w.heap.size w w' := by
 have hu66 := Tryz.underlying66
 have HR0 := aM hr0
 have HC0 := aM hc0
 clear hr0 hc0
 have HB := aM (Below.refl w.heap.size w)
 have H := h
 clear h; unfold spec_DrawMakePuzzle.f at H
 replace H := bC H; obtain ⟨⟨t127, t128, t129⟩, A2, H⟩ := H; try dsimp only at H
 refine iB H ?_ ?_ <;> clear H <;> rintro rfl H
 ·obtain ⟨y130, Ny130⟩ := yN (([(⟨#[]⟩ : ByteArray), (⟨#[48, 49, 120]⟩ : ByteArray), (⟨#[48, 48, 48, 48, 48, 48, 48, 48]⟩ : ByteArray), (⟨#[49, 49, 49, 49, 49, 49, 49]⟩ : ByteArray)] : List ByteArray) : List ByteArray); rw [← Ny130.out] at H
  replace H := bC H; obtain ⟨⟨t133, t134, t135⟩, A4, H⟩ := H; try dsimp only at H
  obtain ⟨y136, Ny136⟩ := yN (([(-1), 6, 7] : List Int) : List Int); rw [← Ny136.out] at H
  replace H := bC H; obtain ⟨⟨t139, t140, t141⟩, A5, H⟩ := H; try dsimp only at H
  obtain ⟨y142, Ny142⟩ := yN (([(-1), 9999, 10000] : List Int) : List Int); rw [← Ny142.out] at H
  replace H := bC H; obtain ⟨⟨t145, t146, t147⟩, A6, H⟩ := H; try dsimp only at H
  simp only [Option.some.injEq, Prod.mk.injEq] at H
  obtain ⟨rfl, rfl, rfl⟩ := H
  go_enter Tryz.func5, Tryz.ntmps5
  go_wp2_with (first | ((with_reducible refine gate_dst (N := 8) rfl ?_); refine box_event ?hg (N := 8) ?hd (cs := #[.slice A0 l0.length c0, .int .i64 0, .int .u64 0]) (t := 66) ?hr ?_; (case hd => rfl); (case hg => rfl); (case hr => first | (go_simp; done) | (go_simp; rfl)); intro gb126 hg w7 hbox hb; have HI126 := sS66 ((show IsS66 w w7 gb126 l0 0 0 from ⟨_, _, hbox, (by rw [hg]; exact (below_size (bel HB)) : w.heap.size ≤ gb126), HR0.out⟩)); have GI_HI126 := IsS66.geI HI126; replace HB := hS HB hb; clear hb hbox hg) | ((with_reducible refine gG 34 (some 10) rfl rfl ?_); refine gC Tryz.func34 (spec_l1Cur_one.calls gb126 l0 0 0 12 true t128 t129 w _ tS66 (bel HB) A2.out) ?_; rintro w8 ⟨hi, hb, hk⟩; replace HB := aM (hb); replace HI126 := sS66 (hi); clear hb hk hi) | ((with_reducible refine gate_dst (N := 12) rfl ?_); refine Kd.R_lit Kd.string _ 9 ?hg (N := 12) ?hd (xs := ([(⟨#[]⟩ : ByteArray), (⟨#[48, 49, 120]⟩ : ByteArray), (⟨#[48, 48, 48, 48, 48, 48, 48, 48]⟩ : ByteArray), (⟨#[49, 49, 49, 49, 49, 49, 49]⟩ : ByteArray)] : List ByteArray)) (inner := [.string (⟨#[]⟩ : ByteArray), .string (⟨#[48, 49, 120]⟩ : ByteArray), .string (⟨#[48, 48, 48, 48, 48, 48, 48, 48]⟩ : ByteArray), .string (⟨#[49, 49, 49, 49, 49, 49, 49]⟩ : ByteArray)]) (ok := fun _ => True) (okp := fun _ => True) ?hr ?hp (fun _ hk => hk) trivial (Below.refl _ _) (Nat.le_refl _) (by simp) ?_; (case hd => rfl); (case hg => rfl); (case hr => first | (go_simp; done) | (go_simp; rfl)); (case hp => exact (Reps.one (show Kd.M Kd.string _ _ _ (⟨#[]⟩ : ByteArray) [.string (⟨#[]⟩ : ByteArray)] from rfl) (Reps.one (show Kd.M Kd.string _ _ _ (⟨#[48, 49, 120]⟩ : ByteArray) [.string (⟨#[48, 49, 120]⟩ : ByteArray)] from rfl) (Reps.one (show Kd.M Kd.string _ _ _ (⟨#[48, 48, 48, 48, 48, 48, 48, 48]⟩ : ByteArray) [.string (⟨#[48, 48, 48, 48, 48, 48, 48, 48]⟩ : ByteArray)] from rfl) (Reps.one (show Kd.M Kd.string _ _ _ (⟨#[49, 49, 49, 49, 49, 49, 49]⟩ : ByteArray) [.string (⟨#[49, 49, 49, 49, 49, 49, 49]⟩ : ByteArray)] from rfl) (Reps.none _ _)))))); intro v131 w9 ho10 hb hg_ hnew_; clear hg_ hnew_; (first | rw [← Ny130.out] at ho10 | (simp only [Int.reduceToNat] at ho10; rw [← Ny130.out] at ho10)); have HO132 := rL ho10 HB; replace HI126 := bS66 gb126 hb; replace HB := hS HB hb; clear hb ho10; obtain ⟨Ao11, co11, eo11⟩ := Kd.R_slice HO132.out; subst eo11) | ((with_reducible refine gG 35 (some 13) rfl rfl ?_); refine gC Tryz.func35 (spec_l1Cur_of.calls gb126 l0 t128 t129 _ _ y130 t133 t134 t135 w _ tS66 (bel HB) (cU ((Kd.R_reads' HO132.out).2.2)) ((Kd.R_reads' HO132.out).2.1) (far_slice (IsS66.own_ne HI126.out HO132.out (by decide))) A4.out) ?_; rintro w12 ⟨hi, hb, hk⟩; replace HO132 := aM (Kd.R_mono (Kd.R_keep (IsS66.apart (show IsS66 w _ gb126 l0 t128 t129 from tS66) (rU HO132.out) (by decide)) hk (fun _ h => h.2)) (fun _ h => h.1)); replace HB := aM (hb); replace HI126 := sS66 (hi); clear hb hk hi) | ((with_reducible refine gate_dst (N := 15) rfl ?_); refine Kd.R_lit (Kd.int .i64) _ 3 ?hg (N := 15) ?hd (xs := ([(-1), 6, 7] : List Int)) (inner := [.int .i64 (-1), .int .i64 6, .int .i64 7]) (ok := fun _ => True) (okp := fun _ => True) ?hr ?hp (fun _ hk => hk) trivial (Below.refl _ _) (Nat.le_refl _) (by simp) ?_; (case hd => rfl); (case hg => rfl); (case hr => first | (go_simp; done) | (go_simp; rfl)); (case hp => exact (Reps.one (show Kd.M (Kd.int .i64) _ _ _ (-1) [.int .i64 (-1)] from rfl) (Reps.one (show Kd.M (Kd.int .i64) _ _ _ 6 [.int .i64 6] from rfl) (Reps.one (show Kd.M (Kd.int .i64) _ _ _ 7 [.int .i64 7] from rfl) (Reps.none _ _))))); intro v137 w13 ho14 hb hg_ hnew_; clear hg_ hnew_; (first | rw [← Ny136.out] at ho14 | (simp only [Int.reduceToNat] at ho14; rw [← Ny136.out] at ho14)); have HO138 := rL ho14 HB; replace HO132 := rB HO132 hb; replace HI126 := bS66 gb126 hb; replace HB := hS HB hb; clear hb ho14; obtain ⟨Ao15, co15, eo15⟩ := Kd.R_slice HO138.out; subst eo15) | ((with_reducible refine gG 36 (some 16) rfl rfl ?_); refine gC Tryz.func36 (spec_l1Cur_among.calls gb126 l0 t134 t135 _ _ y136 t139 t140 t141 w _ tS66 (bel HB) (cU ((Kd.R_reads' HO138.out).2.2)) ((Kd.R_reads' HO138.out).2.1) (far_slice (IsS66.own_ne HI126.out HO138.out (by decide))) A5.out) ?_; rintro w16 ⟨hi, hb, hk⟩; replace HO132 := aM (Kd.R_mono (Kd.R_keep (IsS66.apart (show IsS66 w _ gb126 l0 t134 t135 from tS66) (rU HO132.out) (by decide)) hk (fun _ h => h.2)) (fun _ h => h.1)); replace HO138 := aM (Kd.R_mono (Kd.R_keep (IsS66.apart (show IsS66 w _ gb126 l0 t134 t135 from tS66) (rU HO138.out) (by decide)) hk (fun _ h => h.2)) (fun _ h => h.1)); replace HB := aM (hb); replace HI126 := sS66 (hi); clear hb hk hi) | ((with_reducible refine gate_dst (N := 18) rfl ?_); refine Kd.R_lit (Kd.int .i64) _ 3 ?hg (N := 18) ?hd (xs := ([(-1), 9999, 10000] : List Int)) (inner := [.int .i64 (-1), .int .i64 9999, .int .i64 10000]) (ok := fun _ => True) (okp := fun _ => True) ?hr ?hp (fun _ hk => hk) trivial (Below.refl _ _) (Nat.le_refl _) (by simp) ?_; (case hd => rfl); (case hg => rfl); (case hr => first | (go_simp; done) | (go_simp; rfl)); (case hp => exact (Reps.one (show Kd.M (Kd.int .i64) _ _ _ (-1) [.int .i64 (-1)] from rfl) (Reps.one (show Kd.M (Kd.int .i64) _ _ _ 9999 [.int .i64 9999] from rfl) (Reps.one (show Kd.M (Kd.int .i64) _ _ _ 10000 [.int .i64 10000] from rfl) (Reps.none _ _))))); intro v143 w17 ho18 hb hg_ hnew_; clear hg_ hnew_; (first | rw [← Ny142.out] at ho18 | (simp only [Int.reduceToNat] at ho18; rw [← Ny142.out] at ho18)); have HO144 := aM (Kd.R_lower (Kd.R_new' ho18 (Kd.R_lt (rU HO138.out))) (below_size (bel HB))); replace HO132 := rB HO132 hb; replace HO138 := aM (Kd.R_elder' (rU HO138.out) (Kd.R_base ho18) hb); replace HI126 := bS66 gb126 hb; replace HB := hS HB hb; clear hb ho18; obtain ⟨Ao19, co19, eo19⟩ := Kd.R_slice HO144.out; subst eo19) | ((with_reducible refine gG 36 (some 19) rfl rfl ?_); refine gC Tryz.func36 (spec_l1Cur_among.calls gb126 l0 t140 t141 _ _ y142 t145 t146 t147 w _ tS66 (bel HB) (cU ((Kd.R_reads' HO144.out).2.2)) ((Kd.R_reads' HO144.out).2.1) (far_slice (IsS66.own_ne HI126.out HO144.out (by decide))) A6.out) ?_; rintro w20 ⟨hi, hb, hk⟩; replace HO132 := aM (Kd.R_mono (Kd.R_keep (IsS66.apart (show IsS66 w _ gb126 l0 t140 t141 from tS66) (rU HO132.out) (by decide)) hk (fun _ h => h.2)) (fun _ h => h.1)); replace HO138 := aM (Kd.R_mono (Kd.R_keep (IsS66.apart (show IsS66 w _ gb126 l0 t140 t141 from tS66) (rU HO138.out) (by decide)) hk (fun _ h => h.2)) (fun _ h => h.1)); replace HO144 := aM (Kd.R_mono (Kd.R_keep (IsS66.apart (show IsS66 w _ gb126 l0 t140 t141 from tS66) (rU HO144.out) (by decide)) hk (fun _ h => h.2)) (fun _ h => h.1)); replace HB := aM (hb); replace HI126 := sS66 (hi); clear hb hk hi))
  go_ret3
  exact ⟨eW, bel HB⟩
 replace H := bC H; obtain ⟨⟨t148, t149, t150⟩, A21, H⟩ := H; try dsimp only at H
 replace H := bC H; obtain ⟨⟨t151, t152, t153⟩, A22, H⟩ := H; try dsimp only at H
 replace H := bC H; obtain ⟨⟨t154, t155, t156⟩, A23, H⟩ := H; try dsimp only at H
 simp only [Option.some.injEq, Prod.mk.injEq] at H
 obtain ⟨rfl, rfl, rfl⟩ := H
 go_enter Tryz.func5, Tryz.ntmps5
 go_wp2_with (first | ((with_reducible refine gate_dst (N := 8) rfl ?_); refine box_event ?hg (N := 8) ?hd (cs := #[.slice A0 l0.length c0, .int .i64 0, .int .u64 0]) (t := 66) ?hr ?_; (case hd => rfl); (case hg => rfl); (case hr => first | (go_simp; done) | (go_simp; rfl)); intro gb126 hg w24 hbox hb; have HI126 := sS66 ((show IsS66 w w24 gb126 l0 0 0 from ⟨_, _, hbox, (by rw [hg]; exact (below_size (bel HB)) : w.heap.size ≤ gb126), HR0.out⟩)); have GI_HI126 := IsS66.geI HI126; replace HB := hS HB hb; clear hb hbox hg) | ((with_reducible refine gG 34 (some 10) rfl rfl ?_); refine gC Tryz.func34 (spec_l1Cur_one.calls gb126 l0 0 0 12 false t128 t129 w _ tS66 (bel HB) A2.out) ?_; rintro w25 ⟨hi, hb, hk⟩; replace HB := aM (hb); replace HI126 := sS66 (hi); clear hb hk hi) | ((with_reducible refine gG 37 (some 21) rfl rfl ?_); refine gC Tryz.func37 (spec_l1Cur_hidden.calls k gb126 l0 t128 t129 t148 t149 t150 w _ tS66 (bel HB) A21.out) ?_; rintro w26 ⟨hi, hb, hk⟩; replace HB := aM (hb); replace HI126 := sS66 (hi); clear hb hk hi) | ((with_reducible refine gG 38 (some 23) rfl rfl ?_); refine gC Tryz.func38 (spec_l1Cur_pick.calls gb126 l0 t149 t150 7 t151 t152 t153 w _ tS66 (bel HB) A22.out) ?_; rintro w27 ⟨hi, hb, hk⟩; replace HB := aM (hb); replace HI126 := sS66 (hi); clear hb hk hi) | ((with_reducible refine gG 38 (some 25) rfl rfl ?_); refine gC Tryz.func38 (spec_l1Cur_pick.calls gb126 l0 t152 t153 10000 t154 t155 t156 w _ tS66 (bel HB) A23.out) ?_; rintro w28 ⟨hi, hb, hk⟩; replace HB := aM (hb); replace HI126 := sS66 (hi); clear hb hk hi))
 go_ret3
 exact ⟨eW, bel HB⟩

/-! ### impl_in: function 40 -/
def impl_in.f (a0 : Int) (a1 : Int) (a2 : Int) : Option (Bool) := if a0 ≥ a1 then (some (decide (a0 ≤ a2))) else (some false)
set_option maxHeartbeats 8000000 in
set_option maxRecDepth 100000 in
theorem impl_in.calls (a0 : Int) (a1 : Int) (a2 : Int) (r : Bool) (w : World) (h : impl_in.f a0 a1 a2 = some r) :
  Calls Tryz.prog 40 #[.int .i64 a0, .int .i64 a1, .int .i64 a2] w fun e w' => e = .returned (.bool r) ∧ Drawn0 w w' := by
 have H := h
 clear h; unfold impl_in.f at H
 refine iI H ?_ ?_ <;> clear H <;> intro c4 H
 ·have c4b0 := hT c4
  clear c4
  obtain rfl := Option.some.inj H
  go_enter Tryz.func40, Tryz.ntmps40
  go_wp2
  go_ret
  exact ⟨rF, d0⟩
 have c4b0 := hF c4
 clear c4
 obtain rfl := Option.some.inj H
 go_enter Tryz.func40, Tryz.ntmps40
 go_wp2
 go_ret
 exact ⟨rF, d0⟩

/-! ### strings_Trim: function 74 -/
-- by hand (wip/ext/Shelf2.tpl)
/-- For a cutset of ASCII signs: what is left of a text behind both ends are trimmed. -/
def strings_Trim.f (a0 a1 : ByteArray) : Option ByteArray := if a0.size ≤ 9223372036854775807 ∧ a1.size < 4294967281 ∧ (a1.data.toList.all fun b => b.toNat < 128) = true then some ⟨(Lib.trimS a0.data.toList a1.data.toList).toArray⟩ else none
theorem strings_Trim.calls (a0 a1 : ByteArray) (r : ByteArray) (w : World) (h : strings_Trim.f a0 a1 = some r) :
    Calls Tryz.prog 74 #[.string a0, .string a1] w fun e w' => e = .returned (.string r) ∧ Below w.heap.size w w' := by
 unfold strings_Trim.f at h
 split at h
 ·rename_i hc
  obtain rfl := Option.some.inj h
  refine Tryz.strings_Trim a0 a1 w hc.1 hc.2.1 (fun j b hb => ?_)
  have := List.all_eq_true.1 hc.2.2 b (List.mem_of_getElem? hb)
  simpa using this
 cases h

/-! ### impl_IsState: function 48 -/
def impl_IsState.f (a0 : ByteArray) : Option (Bool) := (impl_in.f (a0.size : Int) 1 20).bind fun t157 => (if t157 = true then ((strings_Trim.f a0 (⟨#[48, 49]⟩ : ByteArray)).bind fun t158 => (some (t158.toList == ([] : List UInt8)))) else (some false))
set_option maxHeartbeats 8000000 in
set_option maxRecDepth 100000 in
theorem impl_IsState.calls (a0 : ByteArray) (r : Bool) (w : World) (h : impl_IsState.f a0 = some r) :
  Calls Tryz.prog 48 #[.string a0] w fun e w' => e = .returned (.bool r) ∧ Below w.heap.size w w' := by
 have HB := aM (Below.refl w.heap.size w)
 have H := h
 clear h; unfold impl_IsState.f at H
 replace H := bC H; obtain ⟨t157, A2, H⟩ := H
 refine iB H ?_ ?_ <;> clear H <;> rintro rfl H
 ·replace H := bC H; obtain ⟨t158, A4, H⟩ := H
  obtain rfl := Option.some.inj H
  go_enter Tryz.func48, Tryz.ntmps48
  go_wp2_with (first | ((with_reducible refine gG 40 (some 5) rfl rfl ?_); refine gL Tryz.func40 #[.int .i64 (a0.size : Int), .int .i64 1, .int .i64 20] ?_; (with_reducible refine (impl_in.calls (a0.size : Int) 1 20 true _ A2.out).mono ?_); rintro e w' ⟨rfl, ⟨nd, rfl⟩⟩; refine ⟨_, rfl, ?_⟩) | (go_at_call 74; (with_reducible refine (strings_Trim.calls a0 (⟨#[48, 49]⟩ : ByteArray) t158 _ A4.out).mono ?_); rintro e w5 ⟨rfl, hb⟩; replace HB := hS HB hb; clear hb))
  go_ret
  exact ⟨eW, bel HB⟩
 obtain rfl := Option.some.inj H
 go_enter Tryz.func48, Tryz.ntmps48
 go_wp2_with (first | ((with_reducible refine gG 40 (some 5) rfl rfl ?_); refine gL Tryz.func40 #[.int .i64 (a0.size : Int), .int .i64 1, .int .i64 20] ?_; (with_reducible refine (impl_in.calls (a0.size : Int) 1 20 false _ A2.out).mono ?_); rintro e w' ⟨rfl, ⟨nd, rfl⟩⟩; refine ⟨_, rfl, ?_⟩))
 go_ret
 exact ⟨eW, bel HB⟩

/-! ### impl_isHidden: function 39 -/
def impl_isHidden.f (a0 : ByteArray) : Option (Bool) := (impl_IsState.f a0).bind fun t159 => (if t159 = true then (some (decide ((a0.size : Int) ≤ 7))) else (some false))
set_option maxHeartbeats 8000000 in
set_option maxRecDepth 100000 in
theorem impl_isHidden.calls (a0 : ByteArray) (r : Bool) (w : World) (h : impl_isHidden.f a0 = some r) :
  Calls Tryz.prog 39 #[.string a0] w fun e w' => e = .returned (.bool r) ∧ Below w.heap.size w w' := by
 have HB := aM (Below.refl w.heap.size w)
 have H := h
 clear h; unfold impl_isHidden.f at H
 replace H := bC H; obtain ⟨t159, A2, H⟩ := H
 refine iB H ?_ ?_ <;> clear H <;> rintro rfl H
 ·obtain rfl := Option.some.inj H
  go_enter Tryz.func39, Tryz.ntmps39
  go_wp2_with (first | ((with_reducible refine gG 48 (some 4) rfl rfl ?_); refine gC Tryz.func48 (impl_IsState.calls a0 true _ A2.out) ?_; rintro w4 hb; replace HB := hS HB hb; clear hb))
  go_ret
  exact ⟨eW, bel HB⟩
 obtain rfl := Option.some.inj H
 go_enter Tryz.func39, Tryz.ntmps39
 go_wp2_with (first | ((with_reducible refine gG 48 (some 4) rfl rfl ?_); refine gC Tryz.func48 (impl_IsState.calls a0 false _ A2.out) ?_; rintro w5 hb; replace HB := hS HB hb; clear hb))
 go_ret
 exact ⟨eW, bel HB⟩

/-! ### strings_Count: function 51 -/
-- by hand (wip/ext/Count.tpl)
/-- For a text of one sign: how often the sign stands in a text. -/
def strings_Count.f (a0 a1 : ByteArray) : Option Int := if a1.size = 1 then some (Lib.countByte a0.data.toList (a1.data.toList.headD 0)) else none
theorem strings_Count.calls (a0 a1 : ByteArray) (r : Int) (w : World) (h : strings_Count.f a0 a1 = some r) :
    Calls Tryz.prog 51 #[.string a0, .string a1] w fun e w' => e = .returned (.int .i64 r) ∧ w' = w := by
 unfold strings_Count.f at h
 split at h
 ·rename_i hc
  obtain rfl := Option.some.inj h
  obtain ⟨⟨l⟩⟩ := a1
  match l, hc with
  | [c], _ => exact Tryz.strings_Count_one a0 c w
 cases h

/-! ### impl_CountOn: function 12 -/
def impl_CountOn.f (a0 : ByteArray) : Option (Int × Bool) := (impl_IsState.f a0).bind fun t160 => (if t160 = true then ((strings_Count.f a0 (⟨#[49]⟩ : ByteArray)).bind fun t161 => (some (t161, true))) else (some (0, false)))
set_option maxHeartbeats 8000000 in
set_option maxRecDepth 100000 in
theorem impl_CountOn.calls (a0 : ByteArray) (r1 : Int) (r2 : Bool) (w : World) (h : impl_CountOn.f a0 = some (r1, r2)) :
  Calls Tryz.prog 12 #[.string a0] w fun e w' => e = .returned (.tuple #[.int .i64 r1, .bool r2]) ∧ Below w.heap.size w w' := by
 have HB := aM (Below.refl w.heap.size w)
 have H := h
 clear h; unfold impl_CountOn.f at H
 replace H := bC H; obtain ⟨t160, A2, H⟩ := H
 refine iB H ?_ ?_ <;> clear H <;> rintro rfl H
 ·replace H := bC H; obtain ⟨t161, A4, H⟩ := H
  simp only [Option.some.injEq, Prod.mk.injEq] at H
  obtain ⟨rfl, rfl⟩ := H
  go_enter Tryz.func12, Tryz.ntmps12
  go_wp2_with (first | ((with_reducible refine gG 48 (some 5) rfl rfl ?_); refine gC Tryz.func48 (impl_IsState.calls a0 true _ A2.out) ?_; rintro w5 hb; replace HB := hS HB hb; clear hb) | ((with_reducible refine gG 51 (some 8) rfl rfl ?_); refine gL Tryz.func51 #[.string a0, .string (⟨#[49]⟩ : ByteArray)] ?_; (with_reducible refine (strings_Count.calls a0 (⟨#[49]⟩ : ByteArray) t161 _ A4.out).mono ?_); rintro e w' ⟨rfl, ⟨nd, rfl⟩⟩; refine ⟨_, rfl, ?_⟩))
  go_ret2
  exact ⟨eW, bel HB⟩
 simp only [Option.some.injEq, Prod.mk.injEq] at H
 obtain ⟨rfl, rfl⟩ := H
 go_enter Tryz.func12, Tryz.ntmps12
 go_wp2_with (first | ((with_reducible refine gG 48 (some 5) rfl rfl ?_); refine gC Tryz.func48 (impl_IsState.calls a0 false _ A2.out) ?_; rintro w6 hb; replace HB := hS HB hb; clear hb))
 go_ret2
 exact ⟨eW, bel HB⟩

end Go.Proofs.YtpdkjehplfgjcabGreatDoor.PHid
