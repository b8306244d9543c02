-- squeezed (sq3.py); PRINTED by drive.py (a program of this session's, over the kit's print.py; wip/tools/drive.py). Lean checks it.
import Derived.Test.YtcogjabdddikjaaDoorQPHidAllx0
import Derived.Test.YtcogjabdddikjaaDoorQPHidAllx8
import Derived.Test.YtcogjabdddikjaaDoorQPHidAllx9
import Derived.Test.YtcogjabdddikjaaDoorQPHidAllx10
import Derived.Test.YtcogjabdddikjaaDoorQPHidAllx11
import Derived.Test.YtcogjabdddikjaaDoorQSq
namespace Go.Proofs.YtcogjabdddikjaaDoor.PHidAll
open Go.RowKit Go.Proofs.YtcogjabdddikjaaDoorW.PrintWords Go.Proofs.YtcogjabdddikjaaDoorW.PrintLast Go.Proofs.YtcogjabdddikjaaDoorW.PrintMore
attribute [local go_sem] max2_int min2_int max_two min_two max_three min_three max_four min_four   -- for this text's walks alone
set_option linter.unusedVariables false
set_option linter.unusedSimpArgs false

/-! ### impl_NeedlessClues: function 59 -/
def impl_NeedlessClues.l0 : Nat → Int → List Int → Int → Int → Int → List (S59) → Option (List Int × Bool)
 | 0, _, _, _, _, _, _ => none
 | k + 1, x4, x5, x15, x16, x292000, x292001 => if x16 < x15 then ((impl_Puzzle_without.f x292000 x292001 x16).bind fun bt296 => ((impl_Puzzle_solutions.f bt296.1 bt296.2).bind fun t300 => (if (t300.length : Int) = x4 then (if x5.length < 17592186044416 then (impl_NeedlessClues.l0 k x4 (x5 ++ [x16]) x15 (wrap64 (x16 + 1)) x292000 x292001) else (none)) else (impl_NeedlessClues.l0 k x4 x5 x15 (wrap64 (x16 + 1)) x292000 x292001)))) else (some (x5, true))
def impl_NeedlessClues.f (k : Nat) (a0_0 : Int) (l0_1 : List (S59)) : Option (List Int × Bool) := (impl_IsPuzzle.f a0_0 l0_1).bind fun t292 => (if t292 = true then ((impl_Puzzle_solutions.f a0_0 l0_1).bind fun t293 => (impl_NeedlessClues.l0 k (t293.length : Int) ([] : List Int) (l0_1.length : Int) 0 a0_0 l0_1)) else (some (([] : List Int), false)))
theorem impl_NeedlessClues.mono_l : ∀ k, Mo (impl_NeedlessClues.l0 k) (impl_NeedlessClues.l0 (k + 1))
 | 0 => m0
 | k + 1 => by
  have ih0 := impl_NeedlessClues.mono_l k
  (repeat refine mE fun _ => ?_) <;> first | (unfold impl_NeedlessClues.l0; exact mG)
instance impl_NeedlessClues.mI (k : Nat) : Mo (impl_NeedlessClues.f k) (impl_NeedlessClues.f (k + 1)) := by
 have ih0 := impl_NeedlessClues.mono_l k
 (repeat refine mE fun _ => ?_); unfold impl_NeedlessClues.f; exact mG
theorem impl_NeedlessClues.mono : ∀ a0 a1 k, LeO (impl_NeedlessClues.f k a0 a1) (impl_NeedlessClues.f (k + 1) a0 a1) := fun a0 a1 k => (impl_NeedlessClues.mI k).out a0 a1
set_option maxHeartbeats 8000000 in
set_option maxRecDepth 100000 in
theorem impl_NeedlessClues.calls (k : Nat) (a0_0 : Int) (A0_1 : Option Addr) (c0_1 : Nat) (l0_1 : List (S59)) (r1 : List Int) (r2 : Bool) (w : World) (hr0_1 : Kd.C k59 w A0_1 l0_1.length l0_1) (hc0_1 : l0_1.length ≤ c0_1) (h : impl_NeedlessClues.f k a0_0 l0_1 = some (r1, r2)) :
  Calls Tryd.prog 59 #[.agg #[.int .i64 a0_0, .slice A0_1 l0_1.length c0_1]] w fun e w' => ∃ v0_ : Value, e = .returned (.tuple #[v0_, .bool r2]) ∧ Kd.R (Kd.int .i64) 3 w' w.heap.size (fun _ => True) v0_ r1 ∧ Below w.heap.size w w' := by
 have hu57 := Tryd.underlying57
 have HR0_1 := aM hr0_1
 have HC0_1 := aM hc0_1
 clear hr0_1 hc0_1
 have HB := aM (Below.refl w.heap.size w)
 have H := h
 clear h; unfold impl_NeedlessClues.f at H
 replace H := bC H; obtain ⟨t292, A2, H⟩ := H
 refine iB H ?_ ?_ <;> clear H <;> rintro rfl H
 ·replace H := bC H; obtain ⟨t293, A4, H⟩ := H
  have H' := aM H
  clear H
  go_enter Tryd.func59, Tryd.ntmps59
  go_wp2_with (first | (refine bX (N := 1) rfl (cs := #[.int .i64 a0_0, .slice A0_1 l0_1.length c0_1]) (t := 57) ?_; intro gb291 hg w5 BK291 hb; have GW291 := gE hg HB; have GE291 := gE hg HB; replace HB := hS HB hb; clear hb hg; obtain ⟨hcz6_0, hcz6_1, hfz6_0, hfz6_1⟩ := hC2 BK291) | ((with_reducible refine gG 53 (some 8) rfl rfl ?_); refine gC Tryd.func53 (impl_IsPuzzle.calls a0_0 _ _ l0_1 true _ (cU (Kd.C_below HR0_1.out HB.out)) HC0_1.out A2.out) ?_; rintro w7 hb; replace BK291 := bB BK291 hb; replace HB := hS HB hb; clear hb; obtain ⟨hcz8_0, hcz8_1, hfz8_0, hfz8_1⟩ := hC2 BK291) | ((with_reducible refine gG 118 (some 11) rfl rfl ?_); refine gD Tryd.func118 (impl_Puzzle_solutions.calls a0_0 _ _ l0_1 t293 _ (cU (Kd.C_below HR0_1.out HB.out)) HC0_1.out A4.out) ?_; rintro w9 v294 ⟨ho0, hb⟩; have HO295 := rL ho0 HB; replace BK291 := bB BK291 hb; replace HB := hS HB hb; clear hb ho0; obtain ⟨Ao10, co10, eo10⟩ := Kd.R_slice HO295.out; subst eo10; obtain ⟨hcz11_0, hcz11_1, hfz11_0, hfz11_1⟩ := hC2 BK291))
  go_loopg [5, 16] k (fun kq v5 v16 w' => ∃ (x5_1 : List Int) (x16_1 : Int), v16 = .int .i64 x16_1 ∧ Aside0 (impl_NeedlessClues.l0 kq (t293.length : Int) x5_1 (l0_1.length : Int) x16_1 a0_0 l0_1 = some (r1, r2)) ∧ Aside0 (kq ≤ k) ∧ Aside0 (Kd.R (Kd.int .i64) 3 w' w.heap.size (fun _ => True) v5 x5_1) ∧ Aside0 (w'.heap[gb291]? = some (.cells #[.int .i64 a0_0, (.slice A0_1 l0_1.length c0_1)] 57 (0, 0))) ∧ Aside0 (Below w.heap.size w w'))
  case atStart => exact ⟨(([] : List Int)), (0), rF, H', kR, ⟨by first | exact Kd.R_nil _ _ _ _ _ | exact Kd.N_nil _ _ _ _ _ | exact Kd.V_nil _ _ _ _ _ | exact Kd.Q_nil _ _ _ _ _ | exact Kd.S_nil _ _ _ _ _⟩, ⟨bU BK291.out⟩, hV HB⟩
  case round =>
   clear H'
   try clear hcz11_0;try clear hcz11_1;try clear hcz6_0;try clear hcz6_1;try clear hcz8_0;try clear hcz8_1;try clear hfz11_0;try clear hfz11_1;try clear hfz6_0;try clear hfz6_1;try clear hfz8_0;try clear hfz8_1
   obtain ⟨x5_1, x16_1, rfl, HA, HK1, HO_5, BK291, HB⟩ := hrel
   obtain rfl | ⟨k1, rfl⟩ := fz gk
   ·exact zA HA
   have H := HA.out
   clear HA
   simp only [impl_NeedlessClues.l0] at H
   refine iI H ?_ ?_ <;> clear H <;> intro c12 H
   ·have c12b0 := dT c12
    clear c12
    replace H := bC H; obtain ⟨⟨t296, t297⟩, A13, H⟩ := H; try dsimp only at H
    replace H := bC H; obtain ⟨t300, A14, H⟩ := H
    refine iI H ?_ ?_ <;> clear H <;> intro c15 H
    ·have c15b0 := qT c15
     have c15b1 := nF c15
     have c15b2 : (t300.length == t293.length) = true := by first | simpa using c15 | (simp at c15 ⊢; omega)
     clear c15
     refine iY H ?_; clear H; intro c16 H
     have LMc16 := aM c16
     clear c16
     obtain ⟨y303, Ny303⟩ := yN (x5_1 ++ [x16_1] : List Int); rw [← Ny303.out] at H
     have H' := aM H
     clear H
     obtain ⟨hcz17_0, hcz17_1, hfz17_0, hfz17_1⟩ := hC2 BK291
     go_wp2_with (first | ((with_reducible refine gG 123 (some 21) rfl rfl ?_); refine gD Tryd.func123 (impl_Puzzle_without.calls a0_0 _ _ l0_1 x16_1 t296 t297 _ (cU (Kd.C_below HR0_1.out HB.out)) HC0_1.out A13.out) ?_; rintro w18 v298 ⟨ho0, hb⟩; have HO299 := rL ho0 HB; replace HO_5 := rB HO_5 hb; replace BK291 := bB BK291 hb; replace HB := hS HB hb; clear hb ho0; obtain ⟨Ao19, co19, eo19⟩ := Kd.R_slice HO299.out; subst eo19) | ((with_reducible refine gG 118 (some 22) rfl rfl ?_); refine gD Tryd.func118 (impl_Puzzle_solutions.calls t296 _ _ t297 t300 _ (cU ((Kd.R_reads' HO299.out).2.2)) ((Kd.R_reads' HO299.out).2.1) A14.out) ?_; rintro w20 v301 ⟨ho0, hb⟩; have HO302 := rL ho0 HB; replace HO_5 := rB HO_5 hb; replace HO299 := rB HO299 hb; replace BK291 := bB BK291 hb; replace HB := hS HB hb; clear hb ho0; obtain ⟨Ao21, co21, eo21⟩ := Kd.R_slice HO302.out; subst eo21) | ((with_reducible refine gate_builtin (b := .append) (xs := #[.tmp 26, .tmp 28]) rfl ?_); at_builtin; refine Kd.R_append (Kd.int .i64) (w0 := w) w.heap.size rfl (.tmp 26) (.tmp 28) 43 3 (.int .i64 0) 8 rfl Tryd.underlying43 info3 rfl (by decide) (by omega) u5 x5_1 x16_1 [.int .i64 x16_1] (fun _ => True) (fun _ => False) rfl rfl ?aP (fun _ hk => hk.elim) ?aF ?aO ?aB ?aS ?aL ?_; (case aP => exact rfl); (case aB => exact (bel HB)); (case aF => exact (fun _ _ => trivial)); (case aO => exact (rU HO_5.out)); (case aS => exact (below_size (bel HB))); (case aL => have := LMc16.out; omega); intro v304 w22 ho hb hg hat; rw [← Ny303.out] at ho; have HO305 := aM (ho); replace BK291 := aM (blk_grown (g := gb291) (o := .cells #[.int .i64 a0_0, .slice A0_1 l0_1.length c0_1] 57 (0, 0)) (bU BK291.out) hg (Kd.R_ne HO_5.out BK291.out (by decide))); replace HO299 := aM (Kd.R_over' (rU HO299.out) (Kd.R_typed (rU HO_5.out)) (by decide) hg); replace HO302 := aM (Kd.R_over' (rU HO302.out) (Kd.R_typed (rU HO_5.out)) (by decide) hg); replace HB := aM (hb); clear HO_5; clear ho hb hg hat))
     go_roundg k1
     case measure => have := HK1.out; omega
     case rel => exact ⟨(y303), (wrap64 (x16_1 + 1)), rF, H', ⟨by have := HK1.out; omega⟩, ⟨rU HO305.out⟩, ⟨bU BK291.out⟩, hV HB⟩
    have c15b0 := qF c15
    have c15b1 := nT c15
    have c15b2 : (t300.length == t293.length) = false := by first | simpa using c15 | (simp at c15 ⊢; omega)
    have H' := aM H
    clear H
    obtain ⟨hcz23_0, hcz23_1, hfz23_0, hfz23_1⟩ := hC2 BK291
    go_wp2_with (first | ((with_reducible refine gG 123 (some 21) rfl rfl ?_); refine gD Tryd.func123 (impl_Puzzle_without.calls a0_0 _ _ l0_1 x16_1 t296 t297 _ (cU (Kd.C_below HR0_1.out HB.out)) HC0_1.out A13.out) ?_; rintro w24 v298 ⟨ho0, hb⟩; have HO299 := rL ho0 HB; replace HO_5 := rB HO_5 hb; replace BK291 := bB BK291 hb; replace HB := hS HB hb; clear hb ho0; obtain ⟨Ao25, co25, eo25⟩ := Kd.R_slice HO299.out; subst eo25) | ((with_reducible refine gG 118 (some 22) rfl rfl ?_); refine gD Tryd.func118 (impl_Puzzle_solutions.calls t296 _ _ t297 t300 _ (cU ((Kd.R_reads' HO299.out).2.2)) ((Kd.R_reads' HO299.out).2.1) A14.out) ?_; rintro w26 v301 ⟨ho0, hb⟩; have HO302 := rL ho0 HB; replace HO_5 := rB HO_5 hb; replace HO299 := rB HO299 hb; replace BK291 := bB BK291 hb; replace HB := hS HB hb; clear hb ho0; obtain ⟨Ao27, co27, eo27⟩ := Kd.R_slice HO302.out; subst eo27))
    go_roundg k1
    case measure => have := HK1.out; omega
    case rel => exact ⟨(x5_1), (wrap64 (x16_1 + 1)), rF, H', ⟨by have := HK1.out; omega⟩, ⟨rU HO_5.out⟩, ⟨bU BK291.out⟩, hV HB⟩
   have c12b0 := dF c12
   clear c12
   simp only [Option.some.injEq, Prod.mk.injEq] at H
   obtain ⟨rfl, rfl⟩ := H
   go_wp2
   go_ret2
   exact ⟨_, eW, rU HO_5.out, bel HB⟩
 simp only [Option.some.injEq, Prod.mk.injEq] at H
 obtain ⟨rfl, rfl⟩ := H
 go_enter Tryd.func59, Tryd.ntmps59
 go_wp2_with (first | (refine bX (N := 1) rfl (cs := #[.int .i64 a0_0, .slice A0_1 l0_1.length c0_1]) (t := 57) ?_; intro gb291 hg w28 BK291 hb; have GW291 := gE hg HB; have GE291 := gE hg HB; replace HB := hS HB hb; clear hb hg; obtain ⟨hcz29_0, hcz29_1, hfz29_0, hfz29_1⟩ := hC2 BK291) | ((with_reducible refine gG 53 (some 8) rfl rfl ?_); refine gC Tryd.func53 (impl_IsPuzzle.calls a0_0 _ _ l0_1 false _ (cU (Kd.C_below HR0_1.out HB.out)) HC0_1.out A2.out) ?_; rintro w30 hb; replace BK291 := bB BK291 hb; replace HB := hS HB hb; clear hb))
 go_ret2
 exact ⟨_, eW, by first | exact Kd.R_nil _ _ _ _ _ | exact Kd.N_nil _ _ _ _ _ | exact Kd.V_nil _ _ _ _ _ | exact Kd.Q_nil _ _ _ _ _ | exact Kd.S_nil _ _ _ _ _, bel HB⟩

/-! ### laws_xTexts: function 60 -/
def laws_xTexts.l0 : Nat → List ByteArray → List ByteArray → Int → Int → Option (Bool)
 | 0, _, _, _, _ => none
 | k + 1, x0, x1, x12, x13 => if x13 < x12 then (if 0 ≤ x13 then (if x13 < (x0.length : Int) then (if x13 < (x1.length : Int) then (if (rdOf ByteArray.empty x0 x13).toList = (rdOf ByteArray.empty x1 x13).toList then (laws_xTexts.l0 k x0 x1 x12 (wrap64 (x13 + 1))) else (some false)) else (none)) else (none)) else (none)) else (some true)
def laws_xTexts.f (k : Nat) (l0 : List ByteArray) (l1 : List ByteArray) : Option (Bool) := if (l0.length : Int) = (l1.length : Int) then (laws_xTexts.l0 k l0 l1 (l0.length : Int) 0) else (some false)
theorem laws_xTexts.mono_l : ∀ k, Mo (laws_xTexts.l0 k) (laws_xTexts.l0 (k + 1))
 | 0 => m0
 | k + 1 => by
  have ih0 := laws_xTexts.mono_l k
  (repeat refine mE fun _ => ?_) <;> first | (unfold laws_xTexts.l0; exact mG)
instance laws_xTexts.mI (k : Nat) : Mo (laws_xTexts.f k) (laws_xTexts.f (k + 1)) := by
 have ih0 := laws_xTexts.mono_l k
 (repeat refine mE fun _ => ?_); unfold laws_xTexts.f; exact mG
theorem laws_xTexts.mono : ∀ a0 a1 k, LeO (laws_xTexts.f k a0 a1) (laws_xTexts.f (k + 1) a0 a1) := fun a0 a1 k => (laws_xTexts.mI k).out a0 a1
set_option maxHeartbeats 8000000 in
set_option maxRecDepth 100000 in
theorem laws_xTexts.calls (k : Nat) (A0 : Option Addr) (c0 : Nat) (l0 : List ByteArray) (A1 : Option Addr) (c1 : Nat) (l1 : List ByteArray) (r : Bool) (w : World) (hr0 : Kd.C Kd.string w A0 l0.length l0) (hc0 : l0.length ≤ c0) (hr1 : Kd.C Kd.string w A1 l1.length l1) (hc1 : l1.length ≤ c1) (h : laws_xTexts.f k l0 l1 = some r) :
  Calls Tryd.prog 60 #[.slice A0 l0.length c0, .slice A1 l1.length c1] w fun e w' => e = .returned (.bool r) ∧ Drawn0 w w' := by
 have HR0 := aM hr0
 have HC0 := aM hc0
 clear hr0 hc0
 have HR1 := aM hr1
 have HC1 := aM hc1
 clear hr1 hc1
 have H := h
 clear h; unfold laws_xTexts.f at H
 refine iI H ?_ ?_ <;> clear H <;> intro c3 H
 ·have c3b0 := qT c3
  have c3b1 := nF c3
  have c3b2 : (l0.length == l1.length) = true := by first | simpa using c3 | (simp at c3 ⊢; omega)
  clear c3
  have H' := aM H
  clear H
  go_enter Tryd.func60, Tryd.ntmps60
  go_wp2
  repeat (go_quiet (fail); try go_wp2)
  go_loopg [13] k (fun kq v13 w' => ∃ (x13_1 : Int), v13 = .int .i64 x13_1 ∧ Aside0 (laws_xTexts.l0 kq l0 l1 (l0.length : Int) x13_1 = some r) ∧ Aside0 (kq ≤ k) ∧ Drawn0 w w')
  case atStart => exact ⟨(0), rF, H', kR, d0⟩
  case round =>
   clear H'
   try clear c1;try clear c3b0;try clear c3b1;try clear c3b2
   obtain ⟨x13_1, rfl, HA, HK1, ⟨m1, rfl⟩⟩ := hrel
   obtain rfl | ⟨k1, rfl⟩ := fz gk
   ·exact zA HA
   have H := HA.out
   clear HA
   simp only [laws_xTexts.l0] at H
   refine iI H ?_ ?_ <;> clear H <;> intro c4 H
   ·have c4b0 := dT c4
    clear c4
    refine iY H ?_; clear H; intro c5 H
    have c5b0 := dT c5
    clear c5
    refine iY H ?_; clear H; intro c6 H
    have c6b0 := dT c6
    clear c6
    refine iY H ?_; clear H; intro c7 H
    have c7b0 := dT c7
    clear c7
    refine iI H ?_ ?_ <;> clear H <;> intro c8 H
    ·have c8b0 := qT c8
     have c8b1 := nF c8
     clear c8
     have H' := aM H
     clear H
     have p306 : 0 ≤ (x13_1 : Int) := oD
     have q306 : x13_1 < (l0.length : Int) := oD
     obtain ⟨ad306, e306, hx306_0⟩ := Kd.at_string HR0.out x13_1 p306 q306
     cases e306
     replace p306 := eq_true p306
     replace q306 := eq_true q306
     have p307 : 0 ≤ (x13_1 : Int) := oD
     have q307 : x13_1 < (l1.length : Int) := oD
     obtain ⟨ad307, e307, hx307_0⟩ := Kd.at_string HR1.out x13_1 p307 q307
     cases e307
     replace p307 := eq_true p307
     replace q307 := eq_true q307
     go_wp2
     repeat (go_quiet (fail); try go_wp2)
     go_roundg k1
     case measure => have := HK1.out; omega
     case rel => exact ⟨(wrap64 (x13_1 + 1)), rF, H', ⟨by have := HK1.out; omega⟩, d0⟩
    have c8b0 := qF c8
    have c8b1 := nT c8
    obtain rfl := Option.some.inj H
    have p306 : 0 ≤ (x13_1 : Int) := oD
    have q306 : x13_1 < (l0.length : Int) := oD
    obtain ⟨ad306, e306, hx306_0⟩ := Kd.at_string HR0.out x13_1 p306 q306
    cases e306
    replace p306 := eq_true p306
    replace q306 := eq_true q306
    have p307 : 0 ≤ (x13_1 : Int) := oD
    have q307 : x13_1 < (l1.length : Int) := oD
    obtain ⟨ad307, e307, hx307_0⟩ := Kd.at_string HR1.out x13_1 p307 q307
    cases e307
    replace p307 := eq_true p307
    replace q307 := eq_true q307
    go_wp2
    repeat (go_quiet (fail); try go_wp2)
    go_ret
    exact ⟨rF, d0⟩
   have c4b0 := dF c4
   clear c4
   obtain rfl := Option.some.inj H
   go_wp2
   repeat (go_quiet (fail); try go_wp2)
   go_ret
   exact ⟨rF, d0⟩
 have c3b0 := qF c3
 have c3b1 := nT c3
 have c3b2 : (l0.length == l1.length) = false := by first | simpa using c3 | (simp at c3 ⊢; omega)
 obtain rfl := Option.some.inj H
 go_enter Tryd.func60, Tryd.ntmps60
 go_wp2
 repeat (go_quiet (fail); try go_wp2)
 go_ret
 exact ⟨rF, d0⟩

/-! ### impl_AddClue: function 61 -/
def impl_AddClue.f (k : Nat) (a0_0 : Int) (l0_1 : List (S59)) (a1_0 : Int) (a1_1 : Int) (a1_2 : Int) : Option (Int × (List (S59)) × Bool) := (impl_IsPuzzle.f a0_0 l0_1).bind fun t311 => (if t311 = true then ((impl_IsClue.f k a0_0 a1_0 a1_1 a1_2).bind fun t312 => (if t312 = true then (if (l0_1.length : Int) ≥ 6 then (some (0, ([] : List (S59)), false)) else ((impl_Clue_122.f l0_1).bind fun t313 => ((some (([(⟨a1_0, a1_1, a1_2⟩ : S59)] : List (S59)) : List (S59))).bind fun y316 => (if t313.length + y316.length < 5864062014805 then (some (a0_0, (t313 ++ y316), true)) else (none))))) else (some (0, ([] : List (S59)), false)))) else (some (0, ([] : List (S59)), false)))
instance impl_AddClue.mI (k : Nat) : Mo (impl_AddClue.f k) (impl_AddClue.f (k + 1)) := by
 (repeat refine mE fun _ => ?_); unfold impl_AddClue.f; exact mG
theorem impl_AddClue.mono : ∀ a0 a1 a2 a3 a4 k, LeO (impl_AddClue.f k a0 a1 a2 a3 a4) (impl_AddClue.f (k + 1) a0 a1 a2 a3 a4) := fun a0 a1 a2 a3 a4 k => (impl_AddClue.mI k).out a0 a1 a2 a3 a4
def impl_AddClue.T3 : Bool × List (List Nat × List Nat) := (true, [([], []), ([0], [0]), ([], []), ([2], [2]), ([3], [3]), ([], []), ([5], [5]), ([4, 6, 4], [4, 6]), ([1, 7], [1, 7]), ([8, 7, 0, 1, 2, 3, 4, 5, 6, 7, 8], [8]), ([9, 0, 1, 2, 3, 4, 5, 6, 7, 8, 9], [])])
def impl_AddClue.B3 : List Nat := [0, 1, 0, 4, 12, 0, 32, 124, 255, 511, 1023]
theorem impl_AddClue.tab3 : rtab .any (opsOf Tryd.f61 3) = impl_AddClue.T3 := by kernel_rfl
theorem impl_AddClue.bits3 : waitsOk impl_AddClue.T3.2 impl_AddClue.B3 = true := by kernel_rfl
set_option maxHeartbeats 8000000 in
set_option maxRecDepth 100000 in
theorem impl_AddClue.calls (k : Nat) (a0_0 : Int) (A0_1 : Option Addr) (c0_1 : Nat) (l0_1 : List (S59)) (a1_0 : Int) (a1_1 : Int) (a1_2 : Int) (r1 : Int) (r2 : List (S59)) (r3 : Bool) (w : World) (hr0_1 : Kd.C k59 w A0_1 l0_1.length l0_1) (hc0_1 : l0_1.length ≤ c0_1) (h : impl_AddClue.f k a0_0 l0_1 a1_0 a1_1 a1_2 = some (r1, r2, r3)) :
  Calls Tryd.prog 61 #[.agg #[.int .i64 a0_0, .slice A0_1 l0_1.length c0_1], .agg #[.int .i64 a1_0, .int .i64 a1_1, .int .i64 a1_2]] w fun e w' => ∃ v1_ : Value, e = .returned (.tuple #[.agg #[.int .i64 r1, v1_], .bool r3]) ∧ Kd.R k59 59 w' w.heap.size (fun _ => True) v1_ r2 ∧ Below w.heap.size w w' := by
 have hu57 := Tryd.underlying57
 have hu59 := Tryd.underlying59
 have HR0_1 := aM hr0_1
 have HC0_1 := aM hc0_1
 clear hr0_1 hc0_1
 have HB := aM (Below.refl w.heap.size w)
 have H := h
 clear h; unfold impl_AddClue.f at H
 replace H := bC H; obtain ⟨t311, A3, H⟩ := H
 refine iB H ?_ ?_ <;> clear H <;> rintro rfl H
 ·replace H := bC H; obtain ⟨t312, A5, H⟩ := H
  refine iB H ?_ ?_ <;> clear H <;> rintro rfl H
  ·refine iI H ?_ ?_ <;> clear H <;> intro c7 H
   ·have c7b0 := hT c7
    have c7b1 : decide (6 ≤ l0_1.length) = true := decide_eq_true (by omega)
    clear c7
    simp only [Option.some.injEq, Prod.mk.injEq] at H
    obtain ⟨rfl, rfl, rfl⟩ := H
    go_enter Tryd.func61, Tryd.ntmps61
    go_wp2_with (first | ((with_reducible refine gate_dst (N := 2) rfl ?_); (try (refine gate_guard (by rfl) ?_; dsimp only)); refine bX (N := 2) rfl (cs := #[.int .i64 a0_0, .slice A0_1 l0_1.length c0_1]) (t := 57) ?_; intro gb308 hg w8 BK308 hb; have GW308 := gE hg HB; have GE308 := gE hg HB; replace HB := hS HB hb; clear hb hg) | ((with_reducible refine gate_dst (N := 3) rfl ?_); (try (refine gate_guard (by rfl) ?_; dsimp only)); refine bX (N := 3) rfl (cs := #[.int .i64 a1_0, .int .i64 a1_1, .int .i64 a1_2]) (t := 59) ?_; intro gb309 hg w9 BK309 hb; have GW309 := gE hg HB; have GE309 := gE hg HB; have NB308_309 := nbL hg BK308; have NB309_308 := nbR hg BK308; replace BK308 := bB BK308 hb; replace HB := hS HB hb; clear hb hg) | ((with_reducible refine gate_dst (N := 4) rfl ?_); (try (refine gate_guard (by rfl) ?_; dsimp only)); refine bX (N := 4) rfl (cs := #[.int .i64 0, .slice none 0 0]) (t := 57) ?_; intro gb310 hg w10 BK310 hb; have GW310 := gE hg HB; have GE310 := gE hg HB; have NB308_310 := nbL hg BK308; have NB310_308 := nbR hg BK308; have NB309_310 := nbL hg BK309; have NB310_309 := nbR hg BK309; replace BK308 := bB BK308 hb; replace BK309 := bB BK309 hb; replace HB := hS HB hb; clear hb hg; have hnb11 := NB308_309.out; have hnc11 := NB309_308.out; have hnb12 := NB308_310.out; have hnc12 := NB310_308.out; obtain ⟨hcz13_0, hcz13_1, hfz13_0, hfz13_1⟩ := hC2 BK308) | ((with_reducible refine gG 53 (some 7) rfl rfl ?_); refine gC Tryd.func53 (impl_IsPuzzle.calls a0_0 _ _ l0_1 true _ (cU (Kd.C_below HR0_1.out HB.out)) HC0_1.out A3.out) ?_; rintro w14 hb; replace BK308 := bB BK308 hb; replace BK309 := bB BK309 hb; replace BK310 := bB BK310 hb; replace HB := hS HB hb; clear hb; obtain ⟨hcz15_0, hcz15_1, hfz15_0, hfz15_1⟩ := hC2 BK308; have hnb16 := NB309_310.out; have hnc16 := NB310_309.out; obtain ⟨hcz17_0, hcz17_1, hcz17_2, hfz17_0, hfz17_1, hfz17_2⟩ := hC3 BK309) | (go_at_call 66; (with_reducible refine (impl_IsClue.calls k a0_0 a1_0 a1_1 a1_2 true _ A5.out).mono ?_); rintro e w18 ⟨rfl, hb⟩; replace BK308 := bB BK308 hb; replace BK309 := bB BK309 hb; replace BK310 := bB BK310 hb; replace HB := hS HB hb; clear hb; obtain ⟨hcz19_0, hcz19_1, hfz19_0, hfz19_1⟩ := hC2 BK308; obtain ⟨hcz20_0, hcz20_1, hfz20_0, hfz20_1⟩ := hC2 BK310))
    refine bodyPost_ret (results_ct rfl _ _ gb310 57 #[.int .i64 0, .slice none 0 0] (0, 0) _ rfl (by (with_reducible repeat (first | refine blk_drewN ?_ _ | refine blk_drew ?_ | refine blk_alloc ?_ _)); refine blk_put (cs := #[.int .i64 0, .slice none 0 0]) ?_ 1 _ rfl; (with_reducible repeat (first | refine blk_drewN ?_ _ | refine blk_drew ?_ | refine blk_alloc ?_ _)); refine blk_put (cs := #[.int .i64 0, .slice none 0 0]) ?_ 0 _ rfl; (with_reducible repeat (first | refine blk_drewN ?_ _ | refine blk_drew ?_ | refine blk_alloc ?_ _)); exact BK310.out) Tryd.underlying57 rfl (by kernel_rfl)) rfl ?_
    exact ⟨_, eW, by first | exact Kd.R_nil _ _ _ _ _ | exact Kd.N_nil _ _ _ _ _ | exact Kd.V_nil _ _ _ _ _ | exact Kd.Q_nil _ _ _ _ _ | exact Kd.S_nil _ _ _ _ _, bel HB⟩
   have c7b0 := hF c7
   have c7b1 : decide (6 ≤ l0_1.length) = false := decide_eq_false (by omega)
   clear c7
   replace H := bC H; obtain ⟨t313, A21, H⟩ := H
   replace H := yB H; obtain ⟨y316, Ny316, H⟩ := H
   refine iY H ?_; clear H; intro c22 H
   have LMc22 := aM c22
   clear c22
   obtain ⟨y319, Ny319⟩ := yN (t313 ++ y316 : List (S59)); rw [← Ny319.out] at H
   simp only [Option.some.injEq, Prod.mk.injEq] at H
   obtain ⟨rfl, rfl, rfl⟩ := H
   go_enter Tryd.func61, Tryd.ntmps61
   try go_wp2_with (first | ((with_reducible refine gate_dst (N := 2) rfl ?_); (try (refine gate_guard (by rfl) ?_; dsimp only)); refine bX (N := 2) rfl (cs := #[.int .i64 a0_0, .slice A0_1 l0_1.length c0_1]) (t := 57) ?_; intro gb308 hg w23 BK308 hb; have GW308 := gE hg HB; have GE308 := gE hg HB; replace HB := hS HB hb; clear hb hg) | ((with_reducible refine gate_dst (N := 3) rfl ?_); (try (refine gate_guard (by rfl) ?_; dsimp only)); refine bX (N := 3) rfl (cs := #[.int .i64 a1_0, .int .i64 a1_1, .int .i64 a1_2]) (t := 59) ?_; intro gb309 hg w24 BK309 hb; have GW309 := gE hg HB; have GE309 := gE hg HB; have NB308_309 := nbL hg BK308; have NB309_308 := nbR hg BK308; replace BK308 := bB BK308 hb; replace HB := hS HB hb; clear hb hg) | ((with_reducible refine gate_dst (N := 4) rfl ?_); (try (refine gate_guard (by rfl) ?_; dsimp only)); refine bX (N := 4) rfl (cs := #[.int .i64 0, .slice none 0 0]) (t := 57) ?_; intro gb310 hg w25 BK310 hb; have GW310 := gE hg HB; have GE310 := gE hg HB; have NB308_310 := nbL hg BK308; have NB310_308 := nbR hg BK308; have NB309_310 := nbL hg BK309; have NB310_309 := nbR hg BK309; replace BK308 := bB BK308 hb; replace BK309 := bB BK309 hb; replace HB := hS HB hb; clear hb hg; have hnb26 := NB308_309.out; have hnc26 := NB309_308.out; have hnb27 := NB308_310.out; have hnc27 := NB310_308.out; obtain ⟨hcz28_0, hcz28_1, hfz28_0, hfz28_1⟩ := hC2 BK308) | ((with_reducible refine gG 53 (some 7) rfl rfl ?_); refine gC Tryd.func53 (impl_IsPuzzle.calls a0_0 _ _ l0_1 true _ (cU (Kd.C_below HR0_1.out HB.out)) HC0_1.out A3.out) ?_; rintro w29 hb; replace BK308 := bB BK308 hb; replace BK309 := bB BK309 hb; replace BK310 := bB BK310 hb; replace HB := hS HB hb; clear hb; obtain ⟨hcz30_0, hcz30_1, hfz30_0, hfz30_1⟩ := hC2 BK308; have hnb31 := NB309_310.out; have hnc31 := NB310_309.out; obtain ⟨hcz32_0, hcz32_1, hcz32_2, hfz32_0, hfz32_1, hfz32_2⟩ := hC3 BK309) | (go_at_call 66; (with_reducible refine (impl_IsClue.calls k a0_0 a1_0 a1_1 a1_2 true _ A5.out).mono ?_); rintro e w33 ⟨rfl, hb⟩; replace BK308 := bB BK308 hb; replace BK309 := bB BK309 hb; replace BK310 := bB BK310 hb; replace HB := hS HB hb; clear hb; obtain ⟨hcz34_0, hcz34_1, hfz34_0, hfz34_1⟩ := hC2 BK308))
   have n0_ := aM (blk_drew BK308.out)
   have n1_ := aM (blk_drew BK309.out)
   have n2_ := aM (blk_drew BK310.out)
   have n3_ := aM (below_drew1 HB.out)
   clear BK308
   clear BK309
   clear BK310
   clear HB
   have BK308 := n0_
   have BK309 := n1_
   have BK310 := n2_
   have HB := n3_
   clear n0_ n1_ n2_ n3_
   refine start_ (n := 11) (S := fun w' => w'.cell? ⟨gb308, 0, none⟩ = some (.int .i64 a0_0) ∧ w'.cell? ⟨gb308, 1, none⟩ = some (.slice A0_1 l0_1.length c0_1) ∧ w'.cell? ⟨gb309, 0, none⟩ = some (.int .i64 a1_0) ∧ w'.cell? ⟨gb309, 1, none⟩ = some (.int .i64 a1_1) ∧ w'.cell? ⟨gb309, 2, none⟩ = some (.int .i64 a1_2)) (ds := []) #[false, false, false, false, false, false, false, false, false, false, false] (by kernel_rfl) rfl rfl ⟨(blk_cell BK308.out 0).trans rfl, (blk_cell BK308.out 1).trans rfl, (blk_cell BK309.out 0).trans rfl, (blk_cell BK309.out 1).trans rfl, (blk_cell BK309.out 2).trans rfl⟩ (fun hHeld => ?_); refine with_tabW impl_AddClue.tab3 impl_AddClue.bits3 (fun HT_ HW_ => ?_)
   generalize w33.drew = w35 at BK308 BK309 BK310 HB hHeld ⊢
   refine pure_ (i := 0) (N := some 23) (v := ?_) (a' := ?_) #[true, false, false, false, false, false, false, false, false, false, false] rfl rfl (any_of HT_.out (by kernel_rfl)) (fun _ _ _ h => h) (Or.inl ⟨by rfl, ?_⟩) ?_ ?_
   rotate_left
   ·intro w'
    go_simp
    with_reducible rfl
   rotate_left
   ·simp only [Act.put, List.setIfInBounds_toArray, List.set_cons_zero, List.set_cons_succ, i64_w, i32_w]
    rfl
   refine pure_ (i := 2) (N := some 25) (v := ?_) (a' := ?_) #[true, false, true, false, false, false, false, false, false, false, false] rfl rfl (any_of HT_.out (by kernel_rfl)) (fun _ _ _ h => h) (Or.inl ⟨by rfl, ?_⟩) ?_ ?_
   rotate_left
   ·intro w'
    go_simp
    with_reducible rfl
   rotate_left
   ·simp only [Act.put, List.setIfInBounds_toArray, List.set_cons_zero, List.set_cons_succ, i64_w, i32_w]
    rfl
   refine take_ (i := 1) (N := some 24) (v := ?_) (a' := ?_) #[true, true, true, false, false, false, false, false, false, false, false] rfl rfl (take_ofW HT_.out HW_.out (by kernel_rfl)) (fun _ _ _ h => h) (Or.inl ⟨by rfl, ?_⟩) hHeld ?_ ?_
   rotate_left
   ·rintro w' ⟨s0, s1, s2, s3, s4⟩
    go_simp
    with_reducible rfl
   rotate_left
   ·simp only [Act.put, List.setIfInBounds_toArray, List.set_cons_zero, List.set_cons_succ, i64_w, i32_w]
    rfl
   refine take_ (i := 3) (N := some 26) (v := ?_) (a' := ?_) #[true, true, true, true, false, false, false, false, false, false, false] rfl rfl (take_ofW HT_.out HW_.out (by kernel_rfl)) (fun _ _ _ h => h) (Or.inl ⟨by rfl, ?_⟩) hHeld ?_ ?_
   rotate_left
   ·rintro w' ⟨s0, s1, s2, s3, s4⟩
    go_simp
    with_reducible rfl
   rotate_left
   ·simp only [Act.put, List.setIfInBounds_toArray, List.set_cons_zero, List.set_cons_succ, i64_w, i32_w]
    rfl
   refine take_ (i := 5) (N := some 28) (v := ?_) (a' := ?_) #[true, true, true, true, false, true, false, false, false, false, false] rfl rfl (take_ofW HT_.out HW_.out (by kernel_rfl)) (fun _ _ _ h => h) (Or.inl ⟨by rfl, ?_⟩) hHeld ?_ ?_
   rotate_left
   ·rintro w' ⟨s0, s1, s2, s3, s4⟩
    go_simp
    with_reducible rfl
   rotate_left
   ·simp only [Act.put, List.setIfInBounds_toArray, List.set_cons_zero, List.set_cons_succ, i64_w, i32_w]
    rfl
   refine join_ (σ := Value × Value) 4 #[true, true, true, true, true, true, true, false, false, false, false] (fun s_ => [(27, s_.1), (29, s_.2)]) (fun s_ w' => (w'.cell? ⟨gb308, 0, none⟩ = some (.int .i64 a0_0) ∧ w'.cell? ⟨gb308, 1, none⟩ = some (.slice A0_1 l0_1.length c0_1) ∧ w'.cell? ⟨gb309, 0, none⟩ = some (.int .i64 a1_0) ∧ w'.cell? ⟨gb309, 1, none⟩ = some (.int .i64 a1_1) ∧ w'.cell? ⟨gb309, 2, none⟩ = some (.int .i64 a1_2)) ∧ (Kd.R k59 59 w' w.heap.size (fun k_ => some k_ ≠ (s_.2 : Value).ownBlock ∧ k_ ≠ gb309) s_.1 t313) ∧ (Kd.R k59 59 w' w.heap.size (fun k_ => some k_ ≠ (s_.1 : Value).ownBlock ∧ k_ ≠ gb309) s_.2 y316) ∧ (w'.heap[gb308]? = some (.cells #[.int .i64 a0_0, .slice A0_1 l0_1.length c0_1] 57 (0, 0))) ∧ (w'.heap[gb309]? = some (.cells #[.int .i64 a1_0, .int .i64 a1_1, .int .i64 a1_2] 59 (0, 0))) ∧ (w'.heap[gb310]? = some (.cells #[.int .i64 0, .slice none 0 0] 57 (0, 0))) ∧ (Below w.heap.size w w')) ?_ ?_
   rotate_left
   ·intro hCont
    refine two_ (i := 4) (j := 6) (Ni := some 27) (Nj := some 29) #[true, true, true, true, true, true, false, false, false, false, false] #[true, true, true, true, false, true, true, false, false, false, false] rfl rfl rfl rfl (two_of HT_.out (by kernel_rfl)) (by decide) (by decide) (fun K hK => ?_) (fun K hK => ?_)
    ·skip
     refine goes_ Tryd.func122 (by kernel_rfl) rfl #[.slice A0_1 l0_1.length c0_1] (by rfl) rfl rfl (by (try simp only [List.map_toArray, List.map_cons, List.map_nil]); first | done | rfl | (simp only [List.length_drop, List.length_take]; rfl)) ?_
     with_reducible refine (impl_Clue_122.calls _ _ l0_1 t313 _ ?side1 ?side2 A21.out).mono ?_
     (case side1 => exact cU (Kd.C_below HR0_1.out HB.out))
     (case side2 => exact HC0_1.out)
     rintro e w36 ⟨v314, rfl, ho0, hb⟩
     refine ⟨_, rfl, ?_⟩
     have n0_ := aM (Kd.R_lower (Kd.R_newB ho0 (g := gb309) (o := .cells #[.int .i64 a1_0, .int .i64 a1_1, .int .i64 a1_2] 59 (0, 0)) (bU BK309.out)) (below_size (bel HB)))
     have n1_ := bB BK308 hb
     have n2_ := bB BK309 hb
     have n3_ := bB BK310 hb
     have n4_ := hS HB hb
     clear BK308
     clear BK309
     clear BK310
     clear HB
     have HO315 := n0_
     have BK308 := n1_
     have BK309 := n2_
     have BK310 := n3_
     have HB := n4_
     clear n0_ n1_ n2_ n3_ n4_
     (try clear hb)
     (try clear hb2)
     (try clear hk)
     (try clear hi)
     (try clear ho0)
     refine hK.out _ _ ⟨(blk_cell BK308.out 0).trans rfl, (blk_cell BK308.out 1).trans rfl, (blk_cell BK309.out 0).trans rfl, (blk_cell BK309.out 1).trans rfl, (blk_cell BK309.out 2).trans rfl⟩ (fun hHeld => ?_)
     clear hK K
     refine norm_ (a' := ?_) ?_ ?_
     rotate_left
     ·show Act.put _ (some 27) _ = _
      simp only [Act.put, List.setIfInBounds_toArray, List.set_cons_zero, List.set_cons_succ, i64_w, i32_w]
      rfl
     refine one_ (i := 6) (N := some 29) #[true, true, true, true, true, true, true, false, false, false, false] rfl rfl (one_of HT_.out (by kernel_rfl)) (by decide) (fun K hK => ?_)
     refine Kd.R_lit_step k59 _ 59 ?hg (N := 29) ?hd (xs := ([(⟨a1_0, a1_1, a1_2⟩ : S59)] : List (S59))) (inner := [.int .i64 a1_0, .int .i64 a1_1, .int .i64 a1_2]) (ok := fun _ => True) (okp := fun _ => True) ?hr ?hp (fun _ hk => hk) trivial (Below.refl _ _) (Nat.le_refl _) (by simp) ?_; (case hd => rfl); (case hg => rfl); (case hr => first | (go_simp; done) | (go_simp; rfl)); (case hp => exact (Reps.c3 (show Kd.M k59 _ _ _ (⟨a1_0, a1_1, a1_2⟩ : S59) [.int .i64 a1_0, .int .i64 a1_1, .int .i64 a1_2] from (k59_mkM _ _ _ (⟨a1_0, a1_1, a1_2⟩ : S59) )) (Reps.none _ _)))
     intro v317 w37 ho38 hb hg_ hnew_
     clear hg_ hnew_
     (first | rw [← Ny316.out] at ho38 | (simp only [Int.reduceToNat] at ho38; rw [← Ny316.out] at ho38))
     have n0_ := aM (Kd.R_elder' (rU HO315.out) (Kd.R_base ho38) hb)
     have n1_ := aM (Kd.R_lower (Kd.R_newB (Kd.R_new' ho38 (Kd.R_lt (rU HO315.out))) (g := gb309) (o := .cells #[.int .i64 a1_0, .int .i64 a1_1, .int .i64 a1_2] 59 (0, 0)) (bU BK309.out)) (below_size (bel HB)))
     have n2_ := bB BK308 hb
     have n3_ := bB BK309 hb
     have n4_ := bB BK310 hb
     have n5_ := hS HB hb
     clear HO315
     clear BK308
     clear BK309
     clear BK310
     clear HB
     have HO315 := n0_
     have HO318 := n1_
     have BK308 := n2_
     have BK309 := n3_
     have BK310 := n4_
     have HB := n5_
     clear n0_ n1_ n2_ n3_ n4_ n5_
     clear hb ho38
     refine hK.out _ _ ⟨(blk_cell BK308.out 0).trans rfl, (blk_cell BK308.out 1).trans rfl, (blk_cell BK309.out 0).trans rfl, (blk_cell BK309.out 1).trans rfl, (blk_cell BK309.out 2).trans rfl⟩ (fun hHeld => ?_)
     clear hK K
     refine norm_ (a' := ?_) ?_ ?_
     rotate_left
     ·show Act.put _ (some 29) _ = _
      simp only [Act.put, List.setIfInBounds_toArray, List.set_cons_zero, List.set_cons_succ, i64_w, i32_w]
      rfl
     exact norm_ (by simp only [putAll, Act.put, List.setIfInBounds_toArray, List.set_cons_zero, List.set_cons_succ]) (hCont (v314, v317) _ ⟨hHeld, (rU (Kd.R_mono HO315.out (fun _ hk => ⟨hk.2, hk.1.2⟩))), (rU (Kd.R_mono HO318.out (fun _ hk => ⟨hk.1.2, hk.2⟩))), (bU BK308.out), (bU BK309.out), (bU BK310.out), (bel HB)⟩)
    skip
    refine Kd.R_lit_step k59 _ 59 ?hg (N := 29) ?hd (xs := ([(⟨a1_0, a1_1, a1_2⟩ : S59)] : List (S59))) (inner := [.int .i64 a1_0, .int .i64 a1_1, .int .i64 a1_2]) (ok := fun _ => True) (okp := fun _ => True) ?hr ?hp (fun _ hk => hk) trivial (Below.refl _ _) (Nat.le_refl _) (by simp) ?_; (case hd => rfl); (case hg => rfl); (case hr => first | (go_simp; done) | (go_simp; rfl)); (case hp => exact (Reps.c3 (show Kd.M k59 _ _ _ (⟨a1_0, a1_1, a1_2⟩ : S59) [.int .i64 a1_0, .int .i64 a1_1, .int .i64 a1_2] from (k59_mkM _ _ _ (⟨a1_0, a1_1, a1_2⟩ : S59) )) (Reps.none _ _)))
    intro v317 w36 ho37 hb hg_ hnew_
    clear hg_ hnew_
    (first | rw [← Ny316.out] at ho37 | (simp only [Int.reduceToNat] at ho37; rw [← Ny316.out] at ho37))
    have n0_ := aM (Kd.R_lower (Kd.R_newB ho37 (g := gb309) (o := .cells #[.int .i64 a1_0, .int .i64 a1_1, .int .i64 a1_2] 59 (0, 0)) (bU BK309.out)) (below_size (bel HB)))
    have n1_ := bB BK308 hb
    have n2_ := bB BK309 hb
    have n3_ := bB BK310 hb
    have n4_ := hS HB hb
    clear BK308
    clear BK309
    clear BK310
    clear HB
    have HO318 := n0_
    have BK308 := n1_
    have BK309 := n2_
    have BK310 := n3_
    have HB := n4_
    clear n0_ n1_ n2_ n3_ n4_
    clear hb ho37
    refine hK.out _ _ ⟨(blk_cell BK308.out 0).trans rfl, (blk_cell BK308.out 1).trans rfl, (blk_cell BK309.out 0).trans rfl, (blk_cell BK309.out 1).trans rfl, (blk_cell BK309.out 2).trans rfl⟩ (fun hHeld => ?_)
    clear hK K
    refine norm_ (a' := ?_) ?_ ?_
    rotate_left
    ·show Act.put _ (some 29) _ = _
     simp only [Act.put, List.setIfInBounds_toArray, List.set_cons_zero, List.set_cons_succ, i64_w, i32_w]
     rfl
    refine one_ (i := 4) (N := some 27) #[true, true, true, true, true, true, true, false, false, false, false] rfl rfl (one_of HT_.out (by kernel_rfl)) (by decide) (fun K hK => ?_)
    refine goes_ Tryd.func122 (by kernel_rfl) rfl #[.slice A0_1 l0_1.length c0_1] (by rfl) rfl rfl (by (try simp only [List.map_toArray, List.map_cons, List.map_nil]); first | done | rfl | (simp only [List.length_drop, List.length_take]; rfl)) ?_
    with_reducible refine (impl_Clue_122.calls _ _ l0_1 t313 _ ?side1 ?side2 A21.out).mono ?_
    (case side1 => exact cU (Kd.C_below HR0_1.out HB.out))
    (case side2 => exact HC0_1.out)
    rintro e w38 ⟨v314, rfl, ho0, hb⟩
    refine ⟨_, rfl, ?_⟩
    have n0_ := aM (Kd.R_elder' (rU HO318.out) (Kd.R_base ho0) hb)
    have n1_ := aM (Kd.R_lower (Kd.R_newB (Kd.R_new' ho0 (Kd.R_lt (rU HO318.out))) (g := gb309) (o := .cells #[.int .i64 a1_0, .int .i64 a1_1, .int .i64 a1_2] 59 (0, 0)) (bU BK309.out)) (below_size (bel HB)))
    have n2_ := bB BK308 hb
    have n3_ := bB BK309 hb
    have n4_ := bB BK310 hb
    have n5_ := hS HB hb
    clear HO318
    clear BK308
    clear BK309
    clear BK310
    clear HB
    have HO318 := n0_
    have HO315 := n1_
    have BK308 := n2_
    have BK309 := n3_
    have BK310 := n4_
    have HB := n5_
    clear n0_ n1_ n2_ n3_ n4_ n5_
    (try clear hb)
    (try clear hb2)
    (try clear hk)
    (try clear hi)
    (try clear ho0)
    refine hK.out _ _ ⟨(blk_cell BK308.out 0).trans rfl, (blk_cell BK308.out 1).trans rfl, (blk_cell BK309.out 0).trans rfl, (blk_cell BK309.out 1).trans rfl, (blk_cell BK309.out 2).trans rfl⟩ (fun hHeld => ?_)
    clear hK K
    refine norm_ (a' := ?_) ?_ ?_
    rotate_left
    ·show Act.put _ (some 27) _ = _
     simp only [Act.put, List.setIfInBounds_toArray, List.set_cons_zero, List.set_cons_succ, i64_w, i32_w]
     rfl
    exact norm_ (by simp only [putAll, Act.put, List.setIfInBounds_toArray, List.set_cons_zero, List.set_cons_succ]) (hCont (v314, v317) _ ⟨hHeld, (rU (Kd.R_mono HO315.out (fun _ hk => ⟨hk.1.2, hk.2⟩))), (rU (Kd.R_mono HO318.out (fun _ hk => ⟨hk.2, hk.1.2⟩))), (bU BK308.out), (bU BK309.out), (bU BK310.out), (bel HB)⟩)
   rintro ⟨v314, v317⟩ w39 ⟨hS_, h0_, h1_, h2_, h3_, h4_, h5_⟩
   have n0_ : Aside0 (Kd.R k59 59 w39 w.heap.size (fun k_ => some k_ ≠ (v317 : Value).ownBlock ∧ k_ ≠ gb309) v314 t313) := ⟨h0_⟩
   have n1_ : Aside0 (Kd.R k59 59 w39 w.heap.size (fun k_ => some k_ ≠ (v314 : Value).ownBlock ∧ k_ ≠ gb309) v317 y316) := ⟨h1_⟩
   have n2_ : Aside0 (w39.heap[gb308]? = some (.cells #[.int .i64 a0_0, .slice A0_1 l0_1.length c0_1] 57 (0, 0))) := ⟨h2_⟩
   have n3_ : Aside0 (w39.heap[gb309]? = some (.cells #[.int .i64 a1_0, .int .i64 a1_1, .int .i64 a1_2] 59 (0, 0))) := ⟨h3_⟩
   have n4_ : Aside0 (w39.heap[gb310]? = some (.cells #[.int .i64 0, .slice none 0 0] 57 (0, 0))) := ⟨h4_⟩
   have n5_ : Aside0 (Below w.heap.size w w39) := ⟨h5_⟩
   clear BK308
   clear BK309
   clear BK310
   clear HB
   clear h0_ h1_ h2_ h3_ h4_ h5_
   have HO315 := n0_
   have HO318 := n1_
   have BK308 := n2_
   have BK309 := n3_
   have BK310 := n4_
   have HB := n5_
   clear n0_ n1_ n2_ n3_ n4_ n5_
   have hHeld : w39.cell? ⟨gb308, 0, none⟩ = some (.int .i64 a0_0) ∧ w39.cell? ⟨gb308, 1, none⟩ = some (.slice A0_1 l0_1.length c0_1) ∧ w39.cell? ⟨gb309, 0, none⟩ = some (.int .i64 a1_0) ∧ w39.cell? ⟨gb309, 1, none⟩ = some (.int .i64 a1_1) ∧ w39.cell? ⟨gb309, 2, none⟩ = some (.int .i64 a1_2) := hS_
   obtain ⟨Ao41, co41, eo41⟩ := Kd.R_slice HO318.out
   (first | subst eo41 | (injection eo41 with f1_ f2_ f3_; have f4_ := f1_.symm; have f5_ := f3_.symm; clear f1_ f2_ f3_; subst f4_; subst f5_))
   refine norm_ (a' := ?_) ?_ ?_
   rotate_left
   ·simp only [putAll, Act.put, List.setIfInBounds_toArray, List.set_cons_zero, List.set_cons_succ]
    rfl
   refine one_ (i := 7) (N := some 30) #[true, true, true, true, true, true, true, true, false, false, false] rfl rfl (one_of HT_.out (by kernel_rfl)) (by decide) (fun K hK => ?_)
   refine Kd.R_append_rows_step k59 (w0 := w) w.heap.size (by rfl) (.tmp 27) (.tmp 29) 55 59 (.agg #[(.int .i64 0), (.int .i64 0), (.int .i64 0)]) 24 rfl Tryd.underlying55 info59 rfl (by decide) (by omega) v314 t313 y316 _ _ _ (fun k_ => some k_ ≠ (.slice Ao41 y316.length co41 : Value).ownBlock ∧ k_ ≠ gb309) (fun _ => False) rfl rfl ?aO ?aR (fun _ _ h => h) (fun _ h => h.elim) ?aF ?aB ?aS ?aL ?_
   (case aR => exact cU ((Kd.R_reads' HO318.out).2.2))
   (case aB => exact (bel HB))
   (case aF => exact (fun k_ hk => ⟨Kd.fresh' (Kd.R_lt (rU HO318.out)) k_ hk, Kd.freshB (g := gb309) (o := .cells #[.int .i64 a1_0, .int .i64 a1_1, .int .i64 a1_2] 59 (0, 0)) (bU BK309.out) k_ hk⟩))
   (case aO => exact (rU HO315.out))
   (case aS => exact (below_size (bel HB)))
   (case aL => have := LMc22.out; omega)
   intro v320 w40 ho hb hg hat
   rw [← Ny319.out] at ho
   have n0_ := aM (blk_grown (g := gb308) (o := .cells #[.int .i64 a0_0, .slice A0_1 l0_1.length c0_1] 57 (0, 0)) (bU BK308.out) hg (Kd.R_ne HO315.out BK308.out (by decide)))
   have n1_ := aM (blk_grown (g := gb309) (o := .cells #[.int .i64 a1_0, .int .i64 a1_1, .int .i64 a1_2] 59 (0, 0)) (bU BK309.out) hg (Kd.R_away HO315.out (fun _ hk => hk.2)))
   have n2_ := aM (blk_grown (g := gb310) (o := .cells #[.int .i64 0, .slice none 0 0] 57 (0, 0)) (bU BK310.out) hg (Kd.R_ne HO315.out BK310.out (by decide)))
   have n3_ := aM (Kd.R_after (ok := (fun k_ => k_ ≠ gb309)) (rU (Kd.R_mono HO318.out (fun _ hk => ⟨hk.2, hk.1⟩))) hg hat)
   have n4_ := aM (hb)
   have n5_ := aM (ho)
   clear BK308
   clear BK309
   clear BK310
   clear HO318
   clear HB
   clear HO315
   have BK308 := n0_
   have BK309 := n1_
   have BK310 := n2_
   have HO318 := n3_
   have HB := n4_
   have HO321 := n5_
   clear n0_ n1_ n2_ n3_ n4_ n5_
   clear ho hb hg hat
   obtain ⟨Ao42, co42, eo42⟩ := Kd.R_slice HO321.out
   (first | subst eo42 | (injection eo42 with f1_ f2_ f3_; have f4_ := f1_.symm; have f5_ := f3_.symm; clear f1_ f2_ f3_; subst f4_; subst f5_))
   refine hK.out _ _ ⟨(blk_cell BK308.out 0).trans rfl, (blk_cell BK308.out 1).trans rfl, (blk_cell BK309.out 0).trans rfl, (blk_cell BK309.out 1).trans rfl, (blk_cell BK309.out 2).trans rfl⟩ (fun hHeld => ?_)
   clear hK K
   refine norm_ (a' := ?_) ?_ ?_
   rotate_left
   ·show Act.put _ (some 30) _ = _
    simp only [Act.put, List.setIfInBounds_toArray, List.set_cons_zero, List.set_cons_succ, i64_w, i32_w]
    rfl
   refine pure_ (i := 8) (N := some 31) (v := ?_) (a' := ?_) #[true, true, true, true, true, true, true, true, true, false, false] rfl rfl (any_of HT_.out (by kernel_rfl)) (fun _ _ _ h => h) (Or.inl ⟨by rfl, ?_⟩) ?_ ?_
   rotate_left
   ·intro w'
    go_simp
    with_reducible rfl
   rotate_left
   ·simp only [Act.put, List.setIfInBounds_toArray, List.set_cons_zero, List.set_cons_succ, i64_w, i32_w]
    rfl
   refine one_ (i := 9) (N := none) #[true, true, true, true, true, true, true, true, true, true, false] rfl rfl (one_of HT_.out (by kernel_rfl)) (by decide) (fun K hK => ?_)
   have hs43 : w40.cell? ⟨gb310, 0, none⟩ = some (.int .i64 0) := (blk_cell BK310.out 0).trans rfl
   have hfs43 := blk_frozen BK310.out 0
   have hns43_0 := NB308_310.out
   have hns43_1 := NB309_310.out
   have hms43_0 := NB310_308.out
   have hms43_1 := NB310_309.out
   have hs44 : w40.cell? ⟨gb310, 1, none⟩ = some (.slice none 0 0) := (blk_cell BK310.out 1).trans rfl
   have hfs44 := blk_frozen BK310.out 1
   have hns44_0 := NB308_310.out
   have hns44_1 := NB309_310.out
   have hms44_0 := NB310_308.out
   have hms44_1 := NB310_309.out
   refine skip_ (w1 := ?_) (by rfl) rfl ?_ ?_
   rotate_left
   ·go_simp
    rfl
   refine hK.out _ _ ⟨((cell_far (p := ⟨gb310, _, none⟩) NB308_310.out _).trans (((cell_far (p := ⟨gb310, _, none⟩) NB308_310.out _).trans (hHeld.1)))), ((cell_far (p := ⟨gb310, _, none⟩) NB308_310.out _).trans (((cell_far (p := ⟨gb310, _, none⟩) NB308_310.out _).trans (hHeld.2.1)))), ((cell_far (p := ⟨gb310, _, none⟩) NB309_310.out _).trans (((cell_far (p := ⟨gb310, _, none⟩) NB309_310.out _).trans (hHeld.2.2.1)))), ((cell_far (p := ⟨gb310, _, none⟩) NB309_310.out _).trans (((cell_far (p := ⟨gb310, _, none⟩) NB309_310.out _).trans (hHeld.2.2.2.1)))), ((cell_far (p := ⟨gb310, _, none⟩) NB309_310.out _).trans (((cell_far (p := ⟨gb310, _, none⟩) NB309_310.out _).trans (hHeld.2.2.2.2))))⟩ (fun hHeld => ?_)
   clear hK K
   refine pure_ (i := 10) (N := some 5) (v := ?_) (a' := ?_) #[true, true, true, true, true, true, true, true, true, true, true] rfl rfl (any_of HT_.out (by kernel_rfl)) (fun _ _ _ h => h) (Or.inl ⟨by rfl, ?_⟩) ?_ ?_
   rotate_left
   ·intro w'
    go_simp
    with_reducible rfl
   rotate_left
   ·simp only [Act.put, List.setIfInBounds_toArray, List.set_cons_zero, List.set_cons_succ, i64_w, i32_w]
    rfl
   refine done_ (done_of HT_.out (by kernel_rfl)) ?_
   try go_wp2
   refine bodyPost_ret (results_ct rfl _ _ gb310 57 #[.int .i64 a0_0, .slice Ao42 y319.length co42] (0, 0) _ rfl (by (with_reducible repeat (first | refine blk_drewN ?_ _ | refine blk_drew ?_ | refine blk_alloc ?_ _)); refine blk_put (cs := #[.int .i64 a0_0, .slice none 0 0]) ?_ 1 _ rfl; (with_reducible repeat (first | refine blk_drewN ?_ _ | refine blk_drew ?_ | refine blk_alloc ?_ _)); refine blk_put (cs := #[.int .i64 0, .slice none 0 0]) ?_ 0 _ rfl; (with_reducible repeat (first | refine blk_drewN ?_ _ | refine blk_drew ?_ | refine blk_alloc ?_ _)); exact BK310.out) Tryd.underlying57 rfl (by kernel_rfl)) rfl ?_
   exact ⟨_, eW, rU (Kd.R_mono (Kd.R_far (p := ⟨gb310, 1, none⟩) (Kd.R_far (p := ⟨gb310, 0, none⟩) (Kd.R_types HO321.out BK310.out (by decide)) (fun _ hk => hk.2) (.int .i64 a0_0)) (fun _ hk => hk.2) (.slice Ao42 y319.length co42)) (fun _ hk => trivial)), bel HB⟩
  simp only [Option.some.injEq, Prod.mk.injEq] at H
  obtain ⟨rfl, rfl, rfl⟩ := H
  go_enter Tryd.func61, Tryd.ntmps61
  go_wp2_with (first | ((with_reducible refine gate_dst (N := 2) rfl ?_); (try (refine gate_guard (by rfl) ?_; dsimp only)); refine bX (N := 2) rfl (cs := #[.int .i64 a0_0, .slice A0_1 l0_1.length c0_1]) (t := 57) ?_; intro gb308 hg w45 BK308 hb; have GW308 := gE hg HB; have GE308 := gE hg HB; replace HB := hS HB hb; clear hb hg) | ((with_reducible refine gate_dst (N := 3) rfl ?_); (try (refine gate_guard (by rfl) ?_; dsimp only)); refine bX (N := 3) rfl (cs := #[.int .i64 a1_0, .int .i64 a1_1, .int .i64 a1_2]) (t := 59) ?_; intro gb309 hg w46 BK309 hb; have GW309 := gE hg HB; have GE309 := gE hg HB; have NB308_309 := nbL hg BK308; have NB309_308 := nbR hg BK308; replace BK308 := bB BK308 hb; replace HB := hS HB hb; clear hb hg) | ((with_reducible refine gate_dst (N := 4) rfl ?_); (try (refine gate_guard (by rfl) ?_; dsimp only)); refine bX (N := 4) rfl (cs := #[.int .i64 0, .slice none 0 0]) (t := 57) ?_; intro gb310 hg w47 BK310 hb; have GW310 := gE hg HB; have GE310 := gE hg HB; have NB308_310 := nbL hg BK308; have NB310_308 := nbR hg BK308; have NB309_310 := nbL hg BK309; have NB310_309 := nbR hg BK309; replace BK308 := bB BK308 hb; replace BK309 := bB BK309 hb; replace HB := hS HB hb; clear hb hg; have hnb48 := NB308_309.out; have hnc48 := NB309_308.out; have hnb49 := NB308_310.out; have hnc49 := NB310_308.out; obtain ⟨hcz50_0, hcz50_1, hfz50_0, hfz50_1⟩ := hC2 BK308) | ((with_reducible refine gG 53 (some 7) rfl rfl ?_); refine gC Tryd.func53 (impl_IsPuzzle.calls a0_0 _ _ l0_1 true _ (cU (Kd.C_below HR0_1.out HB.out)) HC0_1.out A3.out) ?_; rintro w51 hb; replace BK308 := bB BK308 hb; replace BK309 := bB BK309 hb; replace BK310 := bB BK310 hb; replace HB := hS HB hb; clear hb; obtain ⟨hcz52_0, hcz52_1, hfz52_0, hfz52_1⟩ := hC2 BK308; have hnb53 := NB309_310.out; have hnc53 := NB310_309.out; obtain ⟨hcz54_0, hcz54_1, hcz54_2, hfz54_0, hfz54_1, hfz54_2⟩ := hC3 BK309) | (go_at_call 66; (with_reducible refine (impl_IsClue.calls k a0_0 a1_0 a1_1 a1_2 false _ A5.out).mono ?_); rintro e w55 ⟨rfl, hb⟩; replace BK308 := bB BK308 hb; replace BK309 := bB BK309 hb; replace BK310 := bB BK310 hb; replace HB := hS HB hb; clear hb; obtain ⟨hcz56_0, hcz56_1, hfz56_0, hfz56_1⟩ := hC2 BK310))
  refine bodyPost_ret (results_ct rfl _ _ gb310 57 #[.int .i64 0, .slice none 0 0] (0, 0) _ rfl (by (with_reducible repeat (first | refine blk_drewN ?_ _ | refine blk_drew ?_ | refine blk_alloc ?_ _)); refine blk_put (cs := #[.int .i64 0, .slice none 0 0]) ?_ 1 _ rfl; (with_reducible repeat (first | refine blk_drewN ?_ _ | refine blk_drew ?_ | refine blk_alloc ?_ _)); refine blk_put (cs := #[.int .i64 0, .slice none 0 0]) ?_ 0 _ rfl; (with_reducible repeat (first | refine blk_drewN ?_ _ | refine blk_drew ?_ | refine blk_alloc ?_ _)); exact BK310.out) Tryd.underlying57 rfl (by kernel_rfl)) rfl ?_
  exact ⟨_, eW, by first | exact Kd.R_nil _ _ _ _ _ | exact Kd.N_nil _ _ _ _ _ | exact Kd.V_nil _ _ _ _ _ | exact Kd.Q_nil _ _ _ _ _ | exact Kd.S_nil _ _ _ _ _, bel HB⟩
 simp only [Option.some.injEq, Prod.mk.injEq] at H
 obtain ⟨rfl, rfl, rfl⟩ := H
 go_enter Tryd.func61, Tryd.ntmps61
 go_wp2_with (first | ((with_reducible refine gate_dst (N := 2) rfl ?_); (try (refine gate_guard (by rfl) ?_; dsimp only)); refine bX (N := 2) rfl (cs := #[.int .i64 a0_0, .slice A0_1 l0_1.length c0_1]) (t := 57) ?_; intro gb308 hg w57 BK308 hb; have GW308 := gE hg HB; have GE308 := gE hg HB; replace HB := hS HB hb; clear hb hg) | ((with_reducible refine gate_dst (N := 3) rfl ?_); (try (refine gate_guard (by rfl) ?_; dsimp only)); refine bX (N := 3) rfl (cs := #[.int .i64 a1_0, .int .i64 a1_1, .int .i64 a1_2]) (t := 59) ?_; intro gb309 hg w58 BK309 hb; have GW309 := gE hg HB; have GE309 := gE hg HB; have NB308_309 := nbL hg BK308; have NB309_308 := nbR hg BK308; replace BK308 := bB BK308 hb; replace HB := hS HB hb; clear hb hg) | ((with_reducible refine gate_dst (N := 4) rfl ?_); (try (refine gate_guard (by rfl) ?_; dsimp only)); refine bX (N := 4) rfl (cs := #[.int .i64 0, .slice none 0 0]) (t := 57) ?_; intro gb310 hg w59 BK310 hb; have GW310 := gE hg HB; have GE310 := gE hg HB; have NB308_310 := nbL hg BK308; have NB310_308 := nbR hg BK308; have NB309_310 := nbL hg BK309; have NB310_309 := nbR hg BK309; replace BK308 := bB BK308 hb; replace BK309 := bB BK309 hb; replace HB := hS HB hb; clear hb hg; have hnb60 := NB308_309.out; have hnc60 := NB309_308.out; have hnb61 := NB308_310.out; have hnc61 := NB310_308.out; obtain ⟨hcz62_0, hcz62_1, hfz62_0, hfz62_1⟩ := hC2 BK308) | ((with_reducible refine gG 53 (some 7) rfl rfl ?_); refine gC Tryd.func53 (impl_IsPuzzle.calls a0_0 _ _ l0_1 false _ (cU (Kd.C_below HR0_1.out HB.out)) HC0_1.out A3.out) ?_; rintro w63 hb; replace BK308 := bB BK308 hb; replace BK309 := bB BK309 hb; replace BK310 := bB BK310 hb; replace HB := hS HB hb; clear hb; have hnb64 := NB310_309.out; have hnc64 := NB309_310.out; obtain ⟨hcz65_0, hcz65_1, hfz65_0, hfz65_1⟩ := hC2 BK310))
 refine bodyPost_ret (results_ct rfl _ _ gb310 57 #[.int .i64 0, .slice none 0 0] (0, 0) _ rfl (by (with_reducible repeat (first | refine blk_drewN ?_ _ | refine blk_drew ?_ | refine blk_alloc ?_ _)); refine blk_put (cs := #[.int .i64 0, .slice none 0 0]) ?_ 1 _ rfl; (with_reducible repeat (first | refine blk_drewN ?_ _ | refine blk_drew ?_ | refine blk_alloc ?_ _)); refine blk_put (cs := #[.int .i64 0, .slice none 0 0]) ?_ 0 _ rfl; (with_reducible repeat (first | refine blk_drewN ?_ _ | refine blk_drew ?_ | refine blk_alloc ?_ _)); exact BK310.out) Tryd.underlying57 rfl (by kernel_rfl)) rfl ?_
 exact ⟨_, eW, by first | exact Kd.R_nil _ _ _ _ _ | exact Kd.N_nil _ _ _ _ _ | exact Kd.V_nil _ _ _ _ _ | exact Kd.Q_nil _ _ _ _ _ | exact Kd.S_nil _ _ _ _ _, bel HB⟩

end Go.Proofs.YtcogjabdddikjaaDoor.PHidAll
