-- squeezed (sq3.py); PRINTED by drive.py (a program of this session's, over the kit's print.py; wip/tools/drive.py). Lean checks it.
import Derived.Test.YtpdkjehplfgjcabGreatDoorQPHidx0
import Derived.Test.YtpdkjehplfgjcabGreatDoorQPHidx1
import Derived.Test.YtpdkjehplfgjcabGreatDoorQPHidx2
import Derived.Test.YtpdkjehplfgjcabGreatDoorQSq
namespace Go.Proofs.YtpdkjehplfgjcabGreatDoor.PHid
open Go.RowKit Go.Proofs.YtpdkjehplfgjcabGreatDoorW.PrintWords Go.Proofs.YtpdkjehplfgjcabGreatDoorW.PrintLast Go.Proofs.YtpdkjehplfgjcabGreatDoorW.PrintMore
attribute [local go_sem] max2_int min2_int max_two min_two max_three min_three max_four min_four   -- for this text's walks alone
set_option linter.unusedVariables false
set_option linter.unusedSimpArgs false

attribute [local go_sem high] eqA40
/-! ### laws_xPuzzle: function 8 -/
mutual
def laws_xPuzzle.j0 : Nat → Bool → Int → List (S40) → Int → List (S40) → Option (Bool)
 | 0, _, _, _, _, _ => none
 | k + 1, x19, x215000, x215001, x216000, x216001 => if x19 = true then (some false) else (laws_xPuzzle.l0 k (x215001.length : Int) 0 x215000 x215001 x216000 x216001)
def laws_xPuzzle.l0 : Nat → Int → Int → Int → List (S40) → Int → List (S40) → Option (Bool)
 | 0, _, _, _, _, _, _ => none
 | k + 1, x22, x23, x215000, x215001, x216000, x216001 => if x23 < x22 then (if 0 ≤ x23 then (if x23 < (x215001.length : Int) then (if x23 < (x216001.length : Int) then (if (!(((rd_T40 x215001 x23).f0) == ((rd_T40 x216001 x23).f0)) || (!(((rd_T40 x215001 x23).f1) == ((rd_T40 x216001 x23).f1)) || (!(((rd_T40 x215001 x23).f2) == ((rd_T40 x216001 x23).f2))))) = true then (some false) else (laws_xPuzzle.l0 k x22 (wrap64 (x23 + 1)) x215000 x215001 x216000 x216001)) else (none)) else (none)) else (none)) else (some true)
end
def laws_xPuzzle.f (k : Nat) (a0_0 : Int) (l0_1 : List (S40)) (a1_0 : Int) (l1_1 : List (S40)) : Option (Bool) := if a0_0 = a1_0 then (laws_xPuzzle.j0 k ((l0_1.length : Int) != (l1_1.length : Int)) a0_0 l0_1 a1_0 l1_1) else (laws_xPuzzle.j0 k true a0_0 l0_1 a1_0 l1_1)
theorem laws_xPuzzle.mono_l : ∀ k, Mo (laws_xPuzzle.j0 k) (laws_xPuzzle.j0 (k + 1)) ∧ Mo (laws_xPuzzle.l0 k) (laws_xPuzzle.l0 (k + 1))
 | 0 => m0
 | k + 1 => by
  have ⟨ih0, ih1⟩ := laws_xPuzzle.mono_l k
  refine ⟨?_, ?_⟩ <;> (repeat refine mE fun _ => ?_) <;> first | (unfold laws_xPuzzle.j0; exact mG) | (unfold laws_xPuzzle.l0; exact mG)
instance laws_xPuzzle.mI (k : Nat) : Mo (laws_xPuzzle.f k) (laws_xPuzzle.f (k + 1)) := by
 have ⟨ih0, ih1⟩ := laws_xPuzzle.mono_l k
 (repeat refine mE fun _ => ?_); unfold laws_xPuzzle.f; exact mG
theorem laws_xPuzzle.mono : ∀ a0 a1 a2 a3 k, LeO (laws_xPuzzle.f k a0 a1 a2 a3) (laws_xPuzzle.f (k + 1) a0 a1 a2 a3) := fun a0 a1 a2 a3 k => (laws_xPuzzle.mI k).out a0 a1 a2 a3
set_option maxHeartbeats 8000000 in
set_option maxRecDepth 100000 in
theorem laws_xPuzzle.calls (k : Nat) (a0_0 : Int) (A0_1 : Option Addr) (c0_1 : Nat) (l0_1 : List (S40)) (a1_0 : Int) (A1_1 : Option Addr) (c1_1 : Nat) (l1_1 : List (S40)) (r : Bool) (w : World) (hr0_1 : Kd.C k40 w A0_1 l0_1.length l0_1) (hc0_1 : l0_1.length ≤ c0_1) (hr1_1 : Kd.C k40 w A1_1 l1_1.length l1_1) (hc1_1 : l1_1.length ≤ c1_1) (h : laws_xPuzzle.f k a0_0 l0_1 a1_0 l1_1 = some r) :
  Calls Tryz.prog 8 #[.agg #[.int .i64 a0_0, .slice A0_1 l0_1.length c0_1], .agg #[.int .i64 a1_0, .slice A1_1 l1_1.length c1_1]] w fun e w' => e = .returned (.bool r) ∧ Below w.heap.size w w' := by
 have hu28 := Tryz.underlying28
 have hu40 := Tryz.underlying40
 have HR0_1 := aM hr0_1
 have HC0_1 := aM hc0_1
 clear hr0_1 hc0_1
 have HR1_1 := aM hr1_1
 have HC1_1 := aM hc1_1
 clear hr1_1 hc1_1
 have HB := aM (Below.refl w.heap.size w)
 have H := h
 clear h; unfold laws_xPuzzle.f at H
 have HC3 := aM H
 clear H
 go_enter Tryz.func8, Tryz.ntmps8
 go_upto_region 1 with (first | ((with_reducible refine gate_dst (N := 2) rfl ?_); (try (refine gate_guard (by rfl) ?_; dsimp only)); refine bX (N := 2) rfl (cs := #[.int .i64 a0_0, .slice A0_1 l0_1.length c0_1]) (t := 28) ?_; intro gb214 hg w4 BK214 hb; have GW214 := gE hg HB; have GE214 := gE hg HB; replace HB := hS HB hb; clear hb hg) | ((with_reducible refine gate_dst (N := 3) rfl ?_); (try (refine gate_guard (by rfl) ?_; dsimp only)); refine bX (N := 3) rfl (cs := #[.int .i64 a1_0, .slice A1_1 l1_1.length c1_1]) (t := 28) ?_; intro gb215 hg w5 BK215 hb; have GW215 := gE hg HB; have GE215 := gE hg HB; have NB214_215 := nbL hg BK214; have NB215_214 := nbR hg BK214; replace BK214 := bB BK214 hb; replace HB := hS HB hb; clear hb hg))
 repeat (go_quiet (fail); go_upto_region 1 with (first | ((with_reducible refine gate_dst (N := 2) rfl ?_); (try (refine gate_guard (by rfl) ?_; dsimp only)); refine bX (N := 2) rfl (cs := #[.int .i64 a0_0, .slice A0_1 l0_1.length c0_1]) (t := 28) ?_; intro gb214 hg w4 BK214 hb; have GW214 := gE hg HB; have GE214 := gE hg HB; replace HB := hS HB hb; clear hb hg) | ((with_reducible refine gate_dst (N := 3) rfl ?_); (try (refine gate_guard (by rfl) ?_; dsimp only)); refine bX (N := 3) rfl (cs := #[.int .i64 a1_0, .slice A1_1 l1_1.length c1_1]) (t := 28) ?_; intro gb215 hg w5 BK215 hb; have GW215 := gE hg HB; have GE215 := gE hg HB; have NB214_215 := nbL hg BK214; have NB215_214 := nbR hg BK214; replace BK214 := bB BK214 hb; replace HB := hS HB hb; clear hb hg)))
 (try simp only [Act.put, List.setIfInBounds_toArray, List.set_cons_zero, List.set_cons_succ])
 go_cut [19] (fun v19 wc => ∃ (kq : Nat) (x19_2 : Bool), v19 = .bool x19_2 ∧ Aside0 (laws_xPuzzle.j0 kq x19_2 a0_0 l0_1 a1_0 l1_1 = some r) ∧ Aside0 (kq ≤ k) ∧ Aside0 (wc.heap[gb214]? = some (.cells #[.int .i64 a0_0, (.slice A0_1 l0_1.length c0_1)] 28 (0, 0))) ∧ Aside0 (wc.heap[gb215]? = some (.cells #[.int .i64 a1_0, (.slice A1_1 l1_1.length c1_1)] 28 (0, 0))) ∧ Aside0 (Below w.heap.size w wc))
 case first =>
  have H := HC3.out
  clear HC3
  refine iI H ?_ ?_ <;> clear H <;> intro c6 H
  ·have c6b0 := qT c6
   have c6b1 := nF c6
   clear c6
   (first | rw [c6b0] | (simp only [i64_w, i32_w]; rw [c6b0]) | skip)
   have H' := aM H
   clear H
   have hnb7 := NB214_215.out
   have hnc7 := NB215_214.out
   obtain ⟨hcz8_0, hcz8_1, hfz8_0, hfz8_1⟩ := hC2 BK214
   obtain ⟨hcz9_0, hcz9_1, hfz9_0, hfz9_1⟩ := hC2 BK215
   go_wp2
   repeat (go_quiet (fail); try go_wp2)
   go_meet
   case rel => exact ⟨_, (((l0_1.length : Int) != (l1_1.length : Int))), rF, H', kL, ⟨bU BK214.out⟩, ⟨bU BK215.out⟩, hV HB⟩
  have c6b0 := qF c6
  have c6b1 := nT c6
  (first | rw [c6b0] | (simp only [i64_w, i32_w]; rw [c6b0]) | skip)
  have H' := aM H
  clear H
  have hnb10 := NB214_215.out
  have hnc10 := NB215_214.out
  obtain ⟨hcz11_0, hcz11_1, hfz11_0, hfz11_1⟩ := hC2 BK214
  obtain ⟨hcz12_0, hcz12_1, hfz12_0, hfz12_1⟩ := hC2 BK215
  go_wp2
  repeat (go_quiet (fail); try go_wp2)
  go_meet
  case rel => exact ⟨_, (true), rF, H', kL, ⟨bU BK214.out⟩, ⟨bU BK215.out⟩, hV HB⟩
 case rest =>
  clear HC3
  obtain ⟨kq, x19_2, rfl, HA, HJ2, BK214, BK215, HB⟩ := hcut
  obtain rfl | ⟨kj2, rfl⟩ := fz kq
  ·exact zA HA
  have H := HA.out
  clear HA
  simp only [laws_xPuzzle.j0] at H
  refine iB H ?_ ?_ <;> clear H <;> rintro rfl H
  ·obtain rfl := Option.some.inj H
   go_wp2
   repeat (go_quiet (fail); try go_wp2)
   go_ret
   exact ⟨eW, bel HB⟩
  have H' := aM H
  clear H
  have hnb14 := NB214_215.out
  have hnc14 := NB215_214.out
  obtain ⟨hcz15_0, hcz15_1, hfz15_0, hfz15_1⟩ := hC2 BK214
  go_wp2
  repeat (go_quiet (fail); try go_wp2)
  go_loopg [23] kj2 (fun kq v23 w' => ∃ (x23_2 : Int), v23 = .int .i64 x23_2 ∧ Aside0 (laws_xPuzzle.l0 kq (l0_1.length : Int) x23_2 a0_0 l0_1 a1_0 l1_1 = some r) ∧ Aside0 (kq ≤ kj2) ∧ Aside0 (w'.heap[gb214]? = some (.cells #[.int .i64 a0_0, (.slice A0_1 l0_1.length c0_1)] 28 (0, 0))) ∧ Aside0 (w'.heap[gb215]? = some (.cells #[.int .i64 a1_0, (.slice A1_1 l1_1.length c1_1)] 28 (0, 0))) ∧ Aside0 (Below w.heap.size w w'))
  case atStart => exact ⟨(0), rF, H', kR, ⟨bU BK214.out⟩, ⟨bU BK215.out⟩, hV HB⟩
  case round =>
   clear H'
   try clear hcz15_0;try clear hcz15_1;try clear hfz15_0;try clear hfz15_1
   obtain ⟨x23_2, rfl, HA, HK2, BK214, BK215, HB⟩ := hrel
   obtain rfl | ⟨k2, rfl⟩ := fz gk
   ·exact zA HA
   have H := HA.out
   clear HA
   simp only [laws_xPuzzle.l0] at H
   refine iI H ?_ ?_ <;> clear H <;> intro c16 H
   ·have c16b0 := dT c16
    clear c16
    refine iY H ?_; clear H; intro c17 H
    have c17b0 := dT c17
    clear c17
    refine iY H ?_; clear H; intro c18 H
    have c18b0 := dT c18
    clear c18
    refine iY H ?_; clear H; intro c19 H
    have c19b0 := dT c19
    clear c19
    refine iI H ?_ ?_ <;> clear H <;> intro c20 H
    ·have c20b0 : (!(((rd_T40 l0_1 x23_2).f0) == ((rd_T40 l1_1 x23_2).f0)) || (!(((rd_T40 l0_1 x23_2).f1) == ((rd_T40 l1_1 x23_2).f1)) || (!(((rd_T40 l0_1 x23_2).f2) == ((rd_T40 l1_1 x23_2).f2))))) = true := c20
     clear c20
     obtain rfl := Option.some.inj H
     have hnb21 := NB214_215.out
     have hnc21 := NB215_214.out
     obtain ⟨hcz22_0, hcz22_1, hfz22_0, hfz22_1⟩ := hC2 BK214
     have p216 : 0 ≤ (x23_2 : Int) := oD
     have q216 : x23_2 < (l0_1.length : Int) := oD
     obtain ⟨ad216, e216, hx216_0, hx216_1, hx216_2⟩ := at_T40 HR0_1.out x23_2 p216 q216
     cases e216
     replace hx216_0 := (HB.out.cell (World.block_lt_of_cell? w _ hx216_0)).trans hx216_0
     replace hx216_1 := (HB.out.cell (World.block_lt_of_cell? w _ hx216_1)).trans hx216_1
     replace hx216_2 := (HB.out.cell (World.block_lt_of_cell? w _ hx216_2)).trans hx216_2
     replace p216 := eq_true p216
     replace q216 := eq_true q216
     obtain ⟨hcz23_0, hcz23_1, hfz23_0, hfz23_1⟩ := hC2 BK215
     have p217 : 0 ≤ (x23_2 : Int) := oD
     have q217 : x23_2 < (l1_1.length : Int) := oD
     obtain ⟨ad217, e217, hx217_0, hx217_1, hx217_2⟩ := at_T40 HR1_1.out x23_2 p217 q217
     cases e217
     replace hx217_0 := (HB.out.cell (World.block_lt_of_cell? w _ hx217_0)).trans hx217_0
     replace hx217_1 := (HB.out.cell (World.block_lt_of_cell? w _ hx217_1)).trans hx217_1
     replace hx217_2 := (HB.out.cell (World.block_lt_of_cell? w _ hx217_2)).trans hx217_2
     replace p217 := eq_true p217
     replace q217 := eq_true q217
     go_wp2
     repeat (go_quiet (fail); try go_wp2)
     go_ret
     exact ⟨eW, bel HB⟩
    have c20b0 := bF c20
    clear c20
    have H' := aM H
    clear H
    have hnb24 := NB214_215.out
    have hnc24 := NB215_214.out
    obtain ⟨hcz25_0, hcz25_1, hfz25_0, hfz25_1⟩ := hC2 BK214
    have p216 : 0 ≤ (x23_2 : Int) := oD
    have q216 : x23_2 < (l0_1.length : Int) := oD
    obtain ⟨ad216, e216, hx216_0, hx216_1, hx216_2⟩ := at_T40 HR0_1.out x23_2 p216 q216
    cases e216
    replace hx216_0 := (HB.out.cell (World.block_lt_of_cell? w _ hx216_0)).trans hx216_0
    replace hx216_1 := (HB.out.cell (World.block_lt_of_cell? w _ hx216_1)).trans hx216_1
    replace hx216_2 := (HB.out.cell (World.block_lt_of_cell? w _ hx216_2)).trans hx216_2
    replace p216 := eq_true p216
    replace q216 := eq_true q216
    obtain ⟨hcz26_0, hcz26_1, hfz26_0, hfz26_1⟩ := hC2 BK215
    have p217 : 0 ≤ (x23_2 : Int) := oD
    have q217 : x23_2 < (l1_1.length : Int) := oD
    obtain ⟨ad217, e217, hx217_0, hx217_1, hx217_2⟩ := at_T40 HR1_1.out x23_2 p217 q217
    cases e217
    replace hx217_0 := (HB.out.cell (World.block_lt_of_cell? w _ hx217_0)).trans hx217_0
    replace hx217_1 := (HB.out.cell (World.block_lt_of_cell? w _ hx217_1)).trans hx217_1
    replace hx217_2 := (HB.out.cell (World.block_lt_of_cell? w _ hx217_2)).trans hx217_2
    replace p217 := eq_true p217
    replace q217 := eq_true q217
    go_wp2
    repeat (go_quiet (fail); try go_wp2)
    go_roundg k2
    case measure => have := HJ2.out; have := HK2.out; omega
    case rel => exact ⟨(wrap64 (x23_2 + 1)), rF, H', ⟨by have := HJ2.out; have := HK2.out; omega⟩, ⟨bU BK214.out⟩, ⟨bU BK215.out⟩, hV HB⟩
   have c16b0 := dF c16
   clear c16
   obtain rfl := Option.some.inj H
   go_wp2
   repeat (go_quiet (fail); try go_wp2)
   go_ret
   exact ⟨eW, bel HB⟩

/-! ### impl_IsClue: function 32 -/
def impl_IsClue.j0 : Nat → Int → Int → Bool → Int → Int → Int → Option (Bool)
 | 0, _, _, _, _, _, _ => none
 | k + 1, x0, x9, x10, x219000, x219001, x219002 => if x10 = true then ((impl_in.f x219001 0 (wrap64 (x0 - 1))).bind fun t220 => (if t220 = true then ((impl_in.f x219002 0 1).bind fun t221 => (some t221)) else (some false))) else (if x9 = 1 then ((impl_in.f x219001 0 x0).bind fun t222 => (if t222 = true then (some (x219002 == 0)) else (some false))) else (if x9 = 2 then ((impl_in.f x219001 2 9).bind fun t223 => (if t223 = true then ((impl_in.f x219002 0 (wrap64 (x219001 - 1))).bind fun t224 => (some t224)) else (some false))) else (if x9 = 3 then (if 0 ≤ x0 then ((impl_in.f x219001 0 (wrap64 ((shl .i64 1 x0) - 1))).bind fun t225 => (if t225 = true then ((impl_in.f x219002 0 127).bind fun t226 => (some t226)) else (some false))) else (none)) else (some false))))
def impl_IsClue.f (k : Nat) (a0 : Int) (a1_0 : Int) (a1_1 : Int) (a1_2 : Int) : Option (Bool) := (impl_in.f a0 1 7).bind fun t219 => (if t219 = true then (if a1_0 = 0 then (impl_IsClue.j0 k a0 a1_0 (a1_0 == 0) a1_0 a1_1 a1_2) else (impl_IsClue.j0 k a0 a1_0 (a1_0 == 4) a1_0 a1_1 a1_2)) else (some false))
theorem impl_IsClue.mono_l : ∀ k, Mo (impl_IsClue.j0 k) (impl_IsClue.j0 (k + 1))
 | 0 => m0
 | k + 1 => by
  have ih0 := impl_IsClue.mono_l k
  (repeat refine mE fun _ => ?_) <;> first | (unfold impl_IsClue.j0; exact mG)
instance impl_IsClue.mI (k : Nat) : Mo (impl_IsClue.f k) (impl_IsClue.f (k + 1)) := by
 have ih0 := impl_IsClue.mono_l k
 (repeat refine mE fun _ => ?_); unfold impl_IsClue.f; exact mG
theorem impl_IsClue.mono : ∀ a0 a1 a2 a3 k, LeO (impl_IsClue.f k a0 a1 a2 a3) (impl_IsClue.f (k + 1) a0 a1 a2 a3) := fun a0 a1 a2 a3 k => (impl_IsClue.mI k).out a0 a1 a2 a3
set_option maxHeartbeats 8000000 in
set_option maxRecDepth 100000 in
theorem impl_IsClue.calls (k : Nat) (a0 : Int) (a1_0 : Int) (a1_1 : Int) (a1_2 : Int) (r : Bool) (w : World) (h : impl_IsClue.f k a0 a1_0 a1_1 a1_2 = some r) :
  Calls Tryz.prog 32 #[.int .i64 a0, .agg #[.int .i64 a1_0, .int .i64 a1_1, .int .i64 a1_2]] w fun e w' => e = .returned (.bool r) ∧ Below w.heap.size w w' := by
 have hu40 := Tryz.underlying40
 have HB := aM (Below.refl w.heap.size w)
 have H := h
 clear h; unfold impl_IsClue.f at H
 replace H := bC H; obtain ⟨t219, A3, H⟩ := H
 refine iB H ?_ ?_ <;> clear H <;> rintro rfl H
 ·have HC5 := aM H
  clear H
  go_enter Tryz.func32, Tryz.ntmps32
  go_upto_if 10 with (first | (refine bX (N := 3) rfl (cs := #[.int .i64 a1_0, .int .i64 a1_1, .int .i64 a1_2]) (t := 40) ?_; intro gb218 hg w6 BK218 hb; have GW218 := gE hg HB; have GE218 := gE hg HB; replace HB := hS HB hb; clear hb hg) | (go_at_call 40; (with_reducible refine (impl_in.calls a0 1 7 true _ A3.out).mono ?_); rintro e w' ⟨rfl, ⟨nd, rfl⟩⟩; (try exact nd2); obtain ⟨hcz7_0, hcz7_1, hcz7_2, hfz7_0, hfz7_1, hfz7_2⟩ := hC3 BK218))
  repeat (go_quiet (first | (go_at_call 40; (with_reducible refine (impl_in.calls a0 1 7 true _ A3.out).mono ?_); rintro e w' ⟨rfl, ⟨nd, rfl⟩⟩; (try exact nd2); obtain ⟨hcz7_0, hcz7_1, hcz7_2, hfz7_0, hfz7_1, hfz7_2⟩ := hC3 BK218)); go_upto_if 10 with (first | (refine bX (N := 3) rfl (cs := #[.int .i64 a1_0, .int .i64 a1_1, .int .i64 a1_2]) (t := 40) ?_; intro gb218 hg w6 BK218 hb; have GW218 := gE hg HB; have GE218 := gE hg HB; replace HB := hS HB hb; clear hb hg) | (go_at_call 40; (with_reducible refine (impl_in.calls a0 1 7 true _ A3.out).mono ?_); rintro e w' ⟨rfl, ⟨nd, rfl⟩⟩; (try exact nd2); obtain ⟨hcz7_0, hcz7_1, hcz7_2, hfz7_0, hfz7_1, hfz7_2⟩ := hC3 BK218)))
  (try simp only [Act.put, List.setIfInBounds_toArray, List.set_cons_zero, List.set_cons_succ])
  go_cut [10] (fun v10 wc => ∃ (kq : Nat) (x10_4 : Bool), v10 = .bool x10_4 ∧ Aside0 (impl_IsClue.j0 kq a0 a1_0 x10_4 a1_0 a1_1 a1_2 = some r) ∧ Aside0 (kq ≤ k) ∧ Aside0 (wc.heap[gb218]? = some (.cells #[.int .i64 a1_0, .int .i64 a1_1, .int .i64 a1_2] 40 (0, 0))) ∧ Aside0 (Below w.heap.size w wc))
  case first =>
   have H := HC5.out
   clear HC5
   refine iI H ?_ ?_ <;> clear H <;> intro c8 H
   ·have c8b0 := qT c8
    have c8b1 := nF c8
    clear c8
    (first | rw [c8b0] | (simp only [i64_w, i32_w]; rw [c8b0]) | skip)
    have H' := aM H
    clear H
    go_wp2
    repeat (go_quiet (fail); try go_wp2)
    go_meet
    case rel => exact ⟨_, ((a1_0 == 0)), rF, H', kL, ⟨bU BK218.out⟩, hV HB⟩
   have c8b0 := qF c8
   have c8b1 := nT c8
   (first | rw [c8b0] | (simp only [i64_w, i32_w]; rw [c8b0]) | skip)
   have H' := aM H
   clear H
   go_wp2
   repeat (go_quiet (fail); try go_wp2)
   go_meet
   case rel => exact ⟨_, ((a1_0 == 4)), rF, H', kL, ⟨bU BK218.out⟩, hV HB⟩
  case rest =>
   clear HC5
   try clear hcz7_0;try clear hcz7_1;try clear hcz7_2;try clear hfz7_0;try clear hfz7_1;try clear hfz7_2
   obtain ⟨kq, x10_4, rfl, HA, HJ4, BK218, HB⟩ := hcut
   obtain rfl | ⟨kj4, rfl⟩ := fz kq
   ·exact zA HA
   have H := HA.out
   clear HA
   simp only [impl_IsClue.j0] at H
   refine iB H ?_ ?_ <;> clear H <;> rintro rfl H
   ·replace H := bC H; obtain ⟨t220, A10, H⟩ := H
    refine iB H ?_ ?_ <;> clear H <;> rintro rfl H
    ·replace H := bC H; obtain ⟨t221, A12, H⟩ := H
     obtain rfl := Option.some.inj H
     obtain ⟨hcz13_0, hcz13_1, hcz13_2, hfz13_0, hfz13_1, hfz13_2⟩ := hC3 BK218
     go_wp2_with (first | (go_at_call 40; (with_reducible refine (impl_in.calls a1_1 0 (wrap64 (a0 - 1)) true _ A10.out).mono ?_); rintro e w' ⟨rfl, ⟨nd, rfl⟩⟩; (try exact nd2)) | (go_at_call 40; (with_reducible refine (impl_in.calls a1_2 0 1 t221 _ A12.out).mono ?_); rintro e w' ⟨rfl, ⟨nd, rfl⟩⟩; (try exact nd2)))
     repeat (go_quiet (first | (go_at_call 40; (with_reducible refine (impl_in.calls a1_1 0 (wrap64 (a0 - 1)) true _ A10.out).mono ?_); rintro e w' ⟨rfl, ⟨nd, rfl⟩⟩; (try exact nd2)) | (go_at_call 40; (with_reducible refine (impl_in.calls a1_2 0 1 t221 _ A12.out).mono ?_); rintro e w' ⟨rfl, ⟨nd, rfl⟩⟩; (try exact nd2))); try go_wp2_with (first | (go_at_call 40; (with_reducible refine (impl_in.calls a1_1 0 (wrap64 (a0 - 1)) true _ A10.out).mono ?_); rintro e w' ⟨rfl, ⟨nd, rfl⟩⟩; (try exact nd2)) | (go_at_call 40; (with_reducible refine (impl_in.calls a1_2 0 1 t221 _ A12.out).mono ?_); rintro e w' ⟨rfl, ⟨nd, rfl⟩⟩; (try exact nd2))))
     go_ret
     exact ⟨eW, bel HB⟩
    obtain rfl := Option.some.inj H
    obtain ⟨hcz14_0, hcz14_1, hcz14_2, hfz14_0, hfz14_1, hfz14_2⟩ := hC3 BK218
    go_wp2_with (first | (go_at_call 40; (with_reducible refine (impl_in.calls a1_1 0 (wrap64 (a0 - 1)) false _ A10.out).mono ?_); rintro e w' ⟨rfl, ⟨nd, rfl⟩⟩; (try exact nd2)))
    repeat (go_quiet (first | (go_at_call 40; (with_reducible refine (impl_in.calls a1_1 0 (wrap64 (a0 - 1)) false _ A10.out).mono ?_); rintro e w' ⟨rfl, ⟨nd, rfl⟩⟩; (try exact nd2))); try go_wp2_with (first | (go_at_call 40; (with_reducible refine (impl_in.calls a1_1 0 (wrap64 (a0 - 1)) false _ A10.out).mono ?_); rintro e w' ⟨rfl, ⟨nd, rfl⟩⟩; (try exact nd2))))
    go_ret
    exact ⟨eW, bel HB⟩
   refine iI H ?_ ?_ <;> clear H <;> intro c15 H
   ·have c15b0 := qT c15
    have c15b1 := nF c15
    clear c15
    replace H := bC H; obtain ⟨t222, A16, H⟩ := H
    refine iB H ?_ ?_ <;> clear H <;> rintro rfl H
    ·obtain rfl := Option.some.inj H
     obtain ⟨hcz18_0, hcz18_1, hcz18_2, hfz18_0, hfz18_1, hfz18_2⟩ := hC3 BK218
     go_wp2_with (first | (go_at_call 40; (with_reducible refine (impl_in.calls a1_1 0 a0 true _ A16.out).mono ?_); rintro e w' ⟨rfl, ⟨nd, rfl⟩⟩; (try exact nd2)))
     repeat (go_quiet (first | (go_at_call 40; (with_reducible refine (impl_in.calls a1_1 0 a0 true _ A16.out).mono ?_); rintro e w' ⟨rfl, ⟨nd, rfl⟩⟩; (try exact nd2))); try go_wp2_with (first | (go_at_call 40; (with_reducible refine (impl_in.calls a1_1 0 a0 true _ A16.out).mono ?_); rintro e w' ⟨rfl, ⟨nd, rfl⟩⟩; (try exact nd2))))
     go_ret
     exact ⟨eW, bel HB⟩
    obtain rfl := Option.some.inj H
    obtain ⟨hcz19_0, hcz19_1, hcz19_2, hfz19_0, hfz19_1, hfz19_2⟩ := hC3 BK218
    go_wp2_with (first | (go_at_call 40; (with_reducible refine (impl_in.calls a1_1 0 a0 false _ A16.out).mono ?_); rintro e w' ⟨rfl, ⟨nd, rfl⟩⟩; (try exact nd2)))
    repeat (go_quiet (first | (go_at_call 40; (with_reducible refine (impl_in.calls a1_1 0 a0 false _ A16.out).mono ?_); rintro e w' ⟨rfl, ⟨nd, rfl⟩⟩; (try exact nd2))); try go_wp2_with (first | (go_at_call 40; (with_reducible refine (impl_in.calls a1_1 0 a0 false _ A16.out).mono ?_); rintro e w' ⟨rfl, ⟨nd, rfl⟩⟩; (try exact nd2))))
    go_ret
    exact ⟨eW, bel HB⟩
   have c15b0 := qF c15
   have c15b1 := nT c15
   refine iI H ?_ ?_ <;> clear H <;> intro c20 H
   ·have c20b0 := qT c20
    have c20b1 := nF c20
    clear c20
    replace H := bC H; obtain ⟨t223, A21, H⟩ := H
    refine iB H ?_ ?_ <;> clear H <;> rintro rfl H
    ·replace H := bC H; obtain ⟨t224, A23, H⟩ := H
     obtain rfl := Option.some.inj H
     obtain ⟨hcz24_0, hcz24_1, hcz24_2, hfz24_0, hfz24_1, hfz24_2⟩ := hC3 BK218
     go_wp2_with (first | (go_at_call 40; (with_reducible refine (impl_in.calls a1_1 2 9 true _ A21.out).mono ?_); rintro e w' ⟨rfl, ⟨nd, rfl⟩⟩; (try exact nd2)) | (go_at_call 40; (with_reducible refine (impl_in.calls a1_2 0 (wrap64 (a1_1 - 1)) t224 _ A23.out).mono ?_); rintro e w' ⟨rfl, ⟨nd, rfl⟩⟩; (try exact nd2)))
     repeat (go_quiet (first | (go_at_call 40; (with_reducible refine (impl_in.calls a1_1 2 9 true _ A21.out).mono ?_); rintro e w' ⟨rfl, ⟨nd, rfl⟩⟩; (try exact nd2)) | (go_at_call 40; (with_reducible refine (impl_in.calls a1_2 0 (wrap64 (a1_1 - 1)) t224 _ A23.out).mono ?_); rintro e w' ⟨rfl, ⟨nd, rfl⟩⟩; (try exact nd2))); try go_wp2_with (first | (go_at_call 40; (with_reducible refine (impl_in.calls a1_1 2 9 true _ A21.out).mono ?_); rintro e w' ⟨rfl, ⟨nd, rfl⟩⟩; (try exact nd2)) | (go_at_call 40; (with_reducible refine (impl_in.calls a1_2 0 (wrap64 (a1_1 - 1)) t224 _ A23.out).mono ?_); rintro e w' ⟨rfl, ⟨nd, rfl⟩⟩; (try exact nd2))))
     go_ret
     exact ⟨eW, bel HB⟩
    obtain rfl := Option.some.inj H
    obtain ⟨hcz25_0, hcz25_1, hcz25_2, hfz25_0, hfz25_1, hfz25_2⟩ := hC3 BK218
    go_wp2_with (first | (go_at_call 40; (with_reducible refine (impl_in.calls a1_1 2 9 false _ A21.out).mono ?_); rintro e w' ⟨rfl, ⟨nd, rfl⟩⟩; (try exact nd2)))
    repeat (go_quiet (first | (go_at_call 40; (with_reducible refine (impl_in.calls a1_1 2 9 false _ A21.out).mono ?_); rintro e w' ⟨rfl, ⟨nd, rfl⟩⟩; (try exact nd2))); try go_wp2_with (first | (go_at_call 40; (with_reducible refine (impl_in.calls a1_1 2 9 false _ A21.out).mono ?_); rintro e w' ⟨rfl, ⟨nd, rfl⟩⟩; (try exact nd2))))
    go_ret
    exact ⟨eW, bel HB⟩
   have c20b0 := qF c20
   have c20b1 := nT c20
   refine iI H ?_ ?_ <;> clear H <;> intro c26 H
   ·have c26b0 := qT c26
    have c26b1 := nF c26
    clear c26
    refine iY H ?_; clear H; intro c27 H
    have c27b0 := eq_true c27
    have c27b1 := dT c27
    clear c27
    obtain ⟨ji28, hji28⟩ := jN (shl .i64 1 a0)
    first | rw [hji28] at H | simp only [hji28] at H
    have hji28_ : (IntKind.i64.wrap (1 * 2 ^ min a0.toNat 64)) = ji28 := hji28
    have hji28z : a0 ≤ 64 → (IntKind.i64.wrap (1 * 2 ^ a0.toNat)) = ji28 := shl_small hji28
    have hji28u : (IntKind.i64.wrap (2 ^ min a0.toNat 64)) = ji28 := by have h_ := hji28_; rw [Int.one_mul] at h_; exact h_
    have hji28v : a0 ≤ 64 → (IntKind.i64.wrap (2 ^ a0.toNat)) = ji28 := fun hle_ => by have h_ := hji28z hle_; rw [Int.one_mul] at h_; exact h_
    have hji28y : (wrap64 (1 * 2 ^ min a0.toNat 64)) = ji28 := (i64_w _).symm.trans hji28_
    have hji28x : a0 ≤ 64 → (wrap64 (1 * 2 ^ a0.toNat)) = ji28 := fun h_ => (i64_w _).symm.trans (hji28z h_)
    replace H := bC H; obtain ⟨t225, A29, H⟩ := H
    refine iB H ?_ ?_ <;> clear H <;> rintro rfl H
    ·replace H := bC H; obtain ⟨t226, A31, H⟩ := H
     obtain rfl := Option.some.inj H
     obtain ⟨hcz32_0, hcz32_1, hcz32_2, hfz32_0, hfz32_1, hfz32_2⟩ := hC3 BK218
     go_wp2_with (first | (go_at_call 40; (with_reducible refine (impl_in.calls a1_1 0 (wrap64 ((ji28) - 1)) true _ A29.out).mono ?_); rintro e w' ⟨rfl, ⟨nd, rfl⟩⟩; (try exact nd2)) | (go_at_call 40; (with_reducible refine (impl_in.calls a1_2 0 127 t226 _ A31.out).mono ?_); rintro e w' ⟨rfl, ⟨nd, rfl⟩⟩; (try exact nd2)))
     repeat (go_quiet (first | (go_at_call 40; (with_reducible refine (impl_in.calls a1_1 0 (wrap64 ((ji28) - 1)) true _ A29.out).mono ?_); rintro e w' ⟨rfl, ⟨nd, rfl⟩⟩; (try exact nd2)) | (go_at_call 40; (with_reducible refine (impl_in.calls a1_2 0 127 t226 _ A31.out).mono ?_); rintro e w' ⟨rfl, ⟨nd, rfl⟩⟩; (try exact nd2))); try go_wp2_with (first | (go_at_call 40; (with_reducible refine (impl_in.calls a1_1 0 (wrap64 ((ji28) - 1)) true _ A29.out).mono ?_); rintro e w' ⟨rfl, ⟨nd, rfl⟩⟩; (try exact nd2)) | (go_at_call 40; (with_reducible refine (impl_in.calls a1_2 0 127 t226 _ A31.out).mono ?_); rintro e w' ⟨rfl, ⟨nd, rfl⟩⟩; (try exact nd2))))
     go_ret
     exact ⟨by first | rfl | (simp [errW_none, errW_some] <;> rfl) | (simp only [← hji28]; first | rfl | (simp [errW_none, errW_some] <;> rfl)) | (simp [*, errW_none, errW_some] <;> rfl), bel HB⟩
    obtain rfl := Option.some.inj H
    obtain ⟨hcz33_0, hcz33_1, hcz33_2, hfz33_0, hfz33_1, hfz33_2⟩ := hC3 BK218
    go_wp2_with (first | (go_at_call 40; (with_reducible refine (impl_in.calls a1_1 0 (wrap64 ((ji28) - 1)) false _ A29.out).mono ?_); rintro e w' ⟨rfl, ⟨nd, rfl⟩⟩; (try exact nd2)))
    repeat (go_quiet (first | (go_at_call 40; (with_reducible refine (impl_in.calls a1_1 0 (wrap64 ((ji28) - 1)) false _ A29.out).mono ?_); rintro e w' ⟨rfl, ⟨nd, rfl⟩⟩; (try exact nd2))); try go_wp2_with (first | (go_at_call 40; (with_reducible refine (impl_in.calls a1_1 0 (wrap64 ((ji28) - 1)) false _ A29.out).mono ?_); rintro e w' ⟨rfl, ⟨nd, rfl⟩⟩; (try exact nd2))))
    go_ret
    exact ⟨by first | rfl | (simp [errW_none, errW_some] <;> rfl) | (simp only [← hji28]; first | rfl | (simp [errW_none, errW_some] <;> rfl)) | (simp [*, errW_none, errW_some] <;> rfl), bel HB⟩
   have c26b0 := qF c26
   have c26b1 := nT c26
   obtain rfl := Option.some.inj H
   go_wp2
   repeat (go_quiet (fail); try go_wp2)
   go_ret
   exact ⟨eW, bel HB⟩
 obtain rfl := Option.some.inj H
 go_enter Tryz.func32, Tryz.ntmps32
 go_wp2_with (first | (refine bX (N := 3) rfl (cs := #[.int .i64 a1_0, .int .i64 a1_1, .int .i64 a1_2]) (t := 40) ?_; intro gb218 hg w34 BK218 hb; have GW218 := gE hg HB; have GE218 := gE hg HB; replace HB := hS HB hb; clear hb hg) | (go_at_call 40; (with_reducible refine (impl_in.calls a0 1 7 false _ A3.out).mono ?_); rintro e w' ⟨rfl, ⟨nd, rfl⟩⟩; (try exact nd2)))
 repeat (go_quiet (first | (go_at_call 40; (with_reducible refine (impl_in.calls a0 1 7 false _ A3.out).mono ?_); rintro e w' ⟨rfl, ⟨nd, rfl⟩⟩; (try exact nd2))); try go_wp2_with (first | (refine bX (N := 3) rfl (cs := #[.int .i64 a1_0, .int .i64 a1_1, .int .i64 a1_2]) (t := 40) ?_; intro gb218 hg w34 BK218 hb; have GW218 := gE hg HB; have GE218 := gE hg HB; replace HB := hS HB hb; clear hb hg) | (go_at_call 40; (with_reducible refine (impl_in.calls a0 1 7 false _ A3.out).mono ?_); rintro e w' ⟨rfl, ⟨nd, rfl⟩⟩; (try exact nd2))))
 go_ret
 exact ⟨eW, bel HB⟩

/-! ### impl_Clue_53: function 53 -/
-- by hand (wip/ext/gen_Clue.tpl)
set_option maxHeartbeats 1000000 in
set_option maxRecDepth 100000 in
theorem impl_Clue_53.index (F : FuncId) (fn : Func) (hf : Tryz.prog.funcs[F]? = some fn ∧ (fn.name == "runtime.NumGoroutine") = false ∧ fn.body.isSome = true) (caps : Array Value) (p : S40 → Bool)
    (A : Option Addr) (c : Nat) (l : List S40) (w : World) (hr : Kd.C k40 w A l.length l)
    (hp : ∀ (w1 : World) (x : S40), x ∈ l → Below w.heap.size w w1 → Calls Tryz.prog F (#[.agg #[.int .i64 x.f0, .int .i64 x.f1, .int .i64 x.f2]] ++ caps) w1 fun e w2 => e = .returned (.bool (p x)) ∧ Below w1.heap.size w1 w2) :
    Calls Tryz.prog 80 #[.slice A l.length c, .func (.func F) #[] caps] w fun e w' => e = .returned (.int .i64 (idxI p l)) ∧ Below w.heap.size w w' := by
  have hl := hr.2.1
  have HR := aM hr
  have HF := aM hf
  have HP := aM hp
  clear hr hf hp
  have hu25 := Tryz.underlying40
  go_enter Tryz.func80, Tryz.ntmps80
  go_wp2
  go_loopw [8] (fun v8 w' => ∃ k : Nat, k ≤ l.length ∧ v8 = .int .i64 k ∧ Aside0 (∀ j (hj : j < l.length), j < k → p l[j] = false) ∧ Aside0 (Below w.heap.size w w')) (fun v8 _ => l.length - (intOf v8).toNat)
  case atStart => exact ⟨0, Nat.zero_le _, rfl, ⟨fun j _ h => absurd h (by omega)⟩, ⟨Below.refl _ _⟩⟩
  case round =>
    obtain ⟨k, hk, rfl, HN, HB⟩ := hrel
    by_cases hlt : k < l.length
    · obtain ⟨ad, rfl, hx0, hx1, hx2⟩ := at_T40 HR.out (k : Int) (by omega) (by omega)
      simp only [Int.toNat_natCast] at hx0 hx1 hx2
      replace hx0 := (HB.out.cell (World.block_lt_of_cell? w _ hx0)).trans hx0
      replace hx1 := (HB.out.cell (World.block_lt_of_cell? w _ hx1)).trans hx1
      replace hx2 := (HB.out.cell (World.block_lt_of_cell? w _ hx2)).trans hx2
      have ex : rd_T40 l (k : Int) = l[k] := by simp [rd_T40, hlt]
      rw [ex] at hx0 hx1 hx2
      clear ex
      go_wp2_with ((with_reducible refine gate_dst (N := 16) rfl ?_); go_must (refine goesC_ (some 16) rfl rfl caps HF.out #[.agg #[.int .i64 l[k].f0, .int .i64 l[k].f1, .int .i64 l[k].f2]] rfl rfl (by (try simp only [List.map_toArray, List.map_cons, List.map_nil]); first | done | rfl) ?_; refine (HP.out _ l[k] (List.getElem_mem hlt) HB.out).mono ?_; rintro e w2 ⟨rfl, hb⟩; refine ⟨_, rfl, ?_⟩; have HB2 := aM (below_step HB.out hb); clear hb))
      · have hpk : p l[k] = true := by assumption
        go_ret
        exact ⟨ret_int (idxI_hit p l k hlt hpk fun j hj => HN.out j (by omega) hj).symm, HB2.out⟩
      · have hpk : p l[k] = false := by assumption
        go_roundw
        case rel =>
          refine ⟨k + 1, by omega, by go_num, ⟨fun j hj hjk => ?_⟩, HB2⟩
          rcases Nat.lt_or_ge j k with h | h
          · exact HN.out j hj h
          · obtain rfl : j = k := by omega
            exact hpk
        case measure => simp [intOf]; omega
    · go_wp2
      go_ret
      exact ⟨ret_int (idxI_miss p l fun j hj => HN.out j hj (by omega)).symm, HB.out⟩
set_option maxHeartbeats 1000000 in
set_option maxRecDepth 100000 in
theorem impl_Clue_53.any (F : FuncId) (fn : Func) (hf : Tryz.prog.funcs[F]? = some fn ∧ (fn.name == "runtime.NumGoroutine") = false ∧ fn.body.isSome = true) (caps : Array Value) (p : S40 → Bool)
    (A : Option Addr) (c : Nat) (l : List S40) (w : World) (hr : Kd.C k40 w A l.length l)
    (hp : ∀ (w1 : World) (x : S40), x ∈ l → Below w.heap.size w w1 → Calls Tryz.prog F (#[.agg #[.int .i64 x.f0, .int .i64 x.f1, .int .i64 x.f2]] ++ caps) w1 fun e w2 => e = .returned (.bool (p x)) ∧ Below w1.heap.size w1 w2) :
    Calls Tryz.prog 53 #[.slice A l.length c, .func (.func F) #[] caps] w fun e w' => e = .returned (.bool (l.any p)) ∧ Below w.heap.size w w' := by
  have HC := aM (impl_Clue_53.index F fn hf caps p A c l w hr hp)
  have HG := aM (idxI_ge p l)
  clear hf hp hr
  go_enter Tryz.func53, Tryz.ntmps53
  go_wp2_with (go_at_call 80; refine HC.out.mono ?_; rintro e w' ⟨rfl, hb⟩; have HB := aM hb; clear hb)
  go_ret
  exact ⟨ret_bool HG.out, HB.out⟩

end Go.Proofs.YtpdkjehplfgjcabGreatDoor.PHid
