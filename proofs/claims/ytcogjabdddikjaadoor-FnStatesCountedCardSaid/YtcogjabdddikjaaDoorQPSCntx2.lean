-- squeezed (sq3.py); PRINTED by drive.py (a program of this session's, over the kit's print.py; wip/tools/drive.py). Lean checks it.
import Derived.Test.YtcogjabdddikjaaDoorQPSCntx0
import Derived.Test.YtcogjabdddikjaaDoorQPSCntx1
import Derived.Test.YtcogjabdddikjaaDoorQSq
namespace Go.Proofs.YtcogjabdddikjaaDoor.PSCnt
open Go.RowKit Go.Proofs.YtcogjabdddikjaaDoorW.PrintWords Go.Proofs.YtcogjabdddikjaaDoorW.PrintLast Go.Proofs.YtcogjabdddikjaaDoorW.PrintMore
attribute [local go_sem] max2_int min2_int max_two min_two max_three min_three max_four min_four   -- for this text's walks alone
set_option linter.unusedVariables false
set_option linter.unusedSimpArgs false

/-! ### impl_withOn: function 71 -/
-- by hand (wip/ext/withon.tpl)
def impl_withNumbers.l0 (T : Int → Option Bool) : Nat → Int → List ByteArray → Int → Int → Option (List ByteArray)
 | 0, _, _, _, _ => none
 | k + 1, x0, x5, x8, x9 => if x9 < x8 then ((T x9).bind fun t178 => (if t178 = true then ((impl_state.f k x0 x9).bind fun t179 => (if x5.length < 8796093022208 then (impl_withNumbers.l0 T k x0 (x5 ++ [t179]) x8 (wrap64 (x9 + 1))) else (none))) else (impl_withNumbers.l0 T k x0 x5 x8 (wrap64 (x9 + 1))))) else (some x5)
def impl_withNumbers.f (T : Int → Option Bool) (k : Nat) (a0 : Int) : Option (List ByteArray) := if 0 ≤ a0 then (impl_withNumbers.l0 T k a0 ([] : List ByteArray) (shl .i64 1 a0) 0) else (none)
set_option maxHeartbeats 8000000 in
set_option maxRecDepth 100000 in
theorem impl_withNumbers.calls (T : Int → Option Bool) (F : FuncId) (fn : Func) (caps : Array Value) (k : Nat) (a0 : Int) (r : List ByteArray) (w : World) (HF : Aside0 (Tryd.prog.funcs[F]? = some fn ∧ (fn.name == "runtime.NumGoroutine") = false ∧ fn.body.isSome = true))
  (HT : Aside0 (∀ (n : Int) (t : Bool) (w1 : World), Below w.heap.size w w1 → T n = some t → Calls Tryd.prog F (#[.int .i64 n] ++ caps) w1 fun e w' => e = .returned (.bool t) ∧ Below w1.heap.size w1 w')) (h : impl_withNumbers.f T k a0 = some r) :
  Calls Tryd.prog 109 #[.int .i64 a0, .func (.func F) #[] caps] w fun e w' => ∃ v0_ : Value, e = .returned (v0_) ∧ Kd.R Kd.string 9 w' w.heap.size (fun _ => True) v0_ r ∧ Below w.heap.size w w' := by
 have HB := aM (Below.refl w.heap.size w)
 have H := h
 clear h; unfold impl_withNumbers.f at H
 refine iY H ?_; clear H; intro c3 H
 have c3b0 := eq_true c3
 have c3b1 := dT c3
 clear c3
 obtain ⟨ji4, hji4⟩ := jN (shl .i64 1 a0)
 first | rw [hji4] at H | simp only [hji4] at H
 have hji4_ : (IntKind.i64.wrap (1 * 2 ^ min a0.toNat 64)) = ji4 := hji4
 have hji4z : a0 ≤ 64 → (IntKind.i64.wrap (1 * 2 ^ a0.toNat)) = ji4 := shl_small hji4
 have hji4u : (IntKind.i64.wrap (2 ^ min a0.toNat 64)) = ji4 := by have h_ := hji4_; rw [Int.one_mul] at h_; exact h_
 have hji4v : a0 ≤ 64 → (IntKind.i64.wrap (2 ^ a0.toNat)) = ji4 := fun hle_ => by have h_ := hji4z hle_; rw [Int.one_mul] at h_; exact h_
 have hji4y : (wrap64 (1 * 2 ^ min a0.toNat 64)) = ji4 := (i64_w _).symm.trans hji4_
 have hji4x : a0 ≤ 64 → (wrap64 (1 * 2 ^ a0.toNat)) = ji4 := fun h_ => (i64_w _).symm.trans (hji4z h_)
 have H' := aM H
 clear H
 go_enter Tryd.func109, Tryd.ntmps109
 go_wp2
 go_loopg [5, 9] k (fun kq v5 v9 w' => ∃ (x5_1 : List ByteArray) (x9_1 : Int), v9 = .int .i64 x9_1 ∧ Aside0 (impl_withNumbers.l0 T kq a0 x5_1 ji4 x9_1 = some r) ∧ Aside0 (kq ≤ k) ∧ Aside0 (Kd.R Kd.string 9 w' w.heap.size (fun _ => True) v5 x5_1) ∧ Aside0 (Below w.heap.size w w'))
 case atStart => exact ⟨(([] : List ByteArray)), (0), rF, H', kR, ⟨by first | exact Kd.R_nil _ _ _ _ _ | exact Kd.N_nil _ _ _ _ _ | exact Kd.V_nil _ _ _ _ _ | exact Kd.Q_nil _ _ _ _ _ | exact Kd.S_nil _ _ _ _ _⟩, hV HB⟩
 case round =>
  clear H'
  try clear c3b0;try clear c3b1
  obtain ⟨x5_1, x9_1, rfl, HA, HK1, HO_5, HB⟩ := hrel
  obtain rfl | ⟨k1, rfl⟩ := fz gk
  ·exact zA HA
  have H := HA.out
  clear HA
  simp only [impl_withNumbers.l0] at H
  refine iI H ?_ ?_ <;> clear H <;> intro c5 H
  ·have c5b0 := dT c5
   clear c5
   replace H := bC H; obtain ⟨t178, A6, H⟩ := H
   refine iB H ?_ ?_ <;> clear H <;> rintro rfl H
   ·replace H := bC H; obtain ⟨t179, A8, H⟩ := H
    refine iY H ?_; clear H; intro c9 H
    have LMc9 := aM c9
    clear c9
    obtain ⟨y180, Ny180⟩ := yN (x5_1 ++ [t179] : List ByteArray); rw [← Ny180.out] at H
    have H' := aM H
    clear H
    go_wp2_with (first | ((with_reducible refine gate_dst (N := 14) rfl ?_); refine goesC_ (some 14) rfl rfl caps HF.out #[.int .i64 x9_1] rfl (by first | rfl | (go_simp; done)) (by (try simp only [List.map_toArray, List.map_cons, List.map_nil]); first | done | rfl | (simp only [List.length_drop, List.length_take]; rfl)) ?_; (with_reducible refine (HT.out x9_1 true _ (bel HB) A6.out).mono ?_); rintro e w10 ⟨rfl, hb⟩; refine ⟨_, rfl, ?_⟩; replace HO_5 := rB HO_5 hb; replace HB := hS HB hb; clear hb) | ((with_reducible refine gG 86 (some 18) rfl rfl ?_); refine gC Tryd.func86 (impl_state.calls k1 a0 x9_1 t179 _ A8.out) ?_; rintro w11 hb; replace HO_5 := rB HO_5 hb; replace HB := hS HB hb; clear hb) | ((with_reducible refine gate_builtin (b := .append) (xs := #[.tmp 15, .tmp 19]) rfl ?_); at_builtin; refine Kd.R_append Kd.string (w0 := w) w.heap.size rfl (.tmp 15) (.tmp 19) 26 9 (.string ⟨#[]⟩) 16 rfl Tryd.underlying26 info9 rfl (by decide) (by omega) u5 x5_1 t179 [.string t179] (fun _ => True) (fun _ => False) rfl rfl ?aP (fun _ hk => hk.elim) ?aF ?aO ?aB ?aS ?aL ?_; (case aP => exact rfl); (case aB => exact (bel HB)); (case aF => exact (fun _ _ => trivial)); (case aO => exact (rU HO_5.out)); (case aS => exact (below_size (bel HB))); (case aL => have := LMc9.out; omega); intro v181 w12 ho hb hg hat; rw [← Ny180.out] at ho; have HO182 := aM (ho); replace HB := aM (hb); clear HO_5; clear ho hb hg hat))
    go_roundg k1
    case measure => have := HK1.out; omega
    case rel => exact ⟨(y180), (wrap64 (x9_1 + 1)), rF, H', ⟨by have := HK1.out; omega⟩, ⟨rU HO182.out⟩, hV HB⟩
   have H' := aM H
   clear H
   go_wp2_with (first | ((with_reducible refine gate_dst (N := 14) rfl ?_); refine goesC_ (some 14) rfl rfl caps HF.out #[.int .i64 x9_1] rfl (by first | rfl | (go_simp; done)) (by (try simp only [List.map_toArray, List.map_cons, List.map_nil]); first | done | rfl | (simp only [List.length_drop, List.length_take]; rfl)) ?_; (with_reducible refine (HT.out x9_1 false _ (bel HB) A6.out).mono ?_); rintro e w13 ⟨rfl, hb⟩; refine ⟨_, rfl, ?_⟩; replace HO_5 := rB HO_5 hb; replace HB := hS HB hb; clear hb))
   go_roundg k1
   case measure => have := HK1.out; omega
   case rel => exact ⟨(x5_1), (wrap64 (x9_1 + 1)), rF, H', ⟨by have := HK1.out; omega⟩, ⟨rU HO_5.out⟩, hV HB⟩
  have c5b0 := dF c5
  clear c5
  obtain rfl := Option.some.inj H
  go_wp2
  go_ret
  exact ⟨_, by first | rfl | (simp [errW_none, errW_some] <;> rfl) | (simp only [← hji4]; first | rfl | (simp [errW_none, errW_some] <;> rfl)) | (simp [*, errW_none, errW_some] <;> rfl), rU HO_5.out, bel HB⟩

theorem impl_withNumbers.mono_l (T : Int → Option Bool) : ∀ k, (∀ y0 y1 y2 y3, LeO (impl_withNumbers.l0 T k y0 y1 y2 y3) (impl_withNumbers.l0 T (k + 1) y0 y1 y2 y3))
 | 0 => fun _ _ _ _ r h => by simp [impl_withNumbers.l0] at h
 | k + 1 => by
  have ih0 := impl_withNumbers.mono_l T k
  intro y0 y1 y2 y3
  unfold impl_withNumbers.l0
  repeat' first
   | (with_reducible exact ih0 _ _ _ _)
   | (with_reducible exact impl_state.mono _ _ _)
   | (with_reducible exact LeO.refl _)
   | (with_reducible exact LeO.none _)
   | (with_reducible refine LeO.ite ?_ ?_)
   | (with_reducible refine LeO.bind ?_ (fun _ => ?_))
   | exact ih0 _ _ _ _
   | exact LeO.none _
   | refine LeO.ite ?_ ?_
   | refine LeO.bind ?_ (fun _ => ?_)
theorem impl_withNumbers.mono (T : Int → Option Bool) : ∀ a0 k, LeO (impl_withNumbers.f T k a0) (impl_withNumbers.f T (k + 1) a0) := by
  intro a0 k
  unfold impl_withNumbers.f
  refine LeO.ite ?_ (LeO.none _)
  exact impl_withNumbers.mono_l T k _ _ _ _
instance impl_withNumbers.mI (T : Int → Option Bool) (k : Nat) : Mo (impl_withNumbers.f T k) (impl_withNumbers.f T (k + 1)) := ⟨fun a0 => impl_withNumbers.mono T a0 k⟩
/-- Has the state with this number so many rings on? -/
def onAt (r m n : Int) : Option Bool := (impl_state.f 64 r n).bind fun s => (impl_CountOn.f s).bind fun c => some (c.1 == m)
theorem impl_withOn.f1 : Tryd.prog.funcs[130]? = some Tryd.f130 ∧ (Tryd.f130.name == "runtime.NumGoroutine") = false ∧ Tryd.f130.body.isSome = true := ⟨Tryd.func130, by kernel_rfl, rfl⟩
set_option maxHeartbeats 800000 in
theorem impl_withOn.c1 (g1 g2 : Nat) (r m n : Int) (t : Bool) (w : World) (hg1 : w.cell? ⟨g1, 0, none⟩ = some (.int .i64 r)) (hg2 : w.cell? ⟨g2, 0, none⟩ = some (.int .i64 m)) (ht : onAt r m n = some t) :
    Calls Tryd.prog 130 #[.int .i64 n, .pointer (some ⟨g1, 0, none⟩), .pointer (some ⟨g2, 0, none⟩)] w fun e w' => e = .returned (.bool t) ∧ Below w.heap.size w w' := by
  unfold onAt at ht
  obtain ⟨s, hs, ht⟩ := Option.bind_eq_some_iff.mp ht
  obtain ⟨⟨c, f⟩, hc, ht⟩ := Option.bind_eq_some_iff.mp ht
  have HR := aM (Option.some.inj ht)
  have HS := aM (fun W => impl_state.calls 64 r n s W hs)
  have HC := aM (fun W => impl_CountOn.calls s c f W hc)
  have HG := aM hg2
  clear ht hs hc hg2
  go_enter Tryd.func130, Tryd.ntmps130
  go_wp2_with (first | (go_at_call 86; refine (HS.out _).mono ?_; rintro e w1 ⟨rfl, hq⟩; have HB := aM hq; clear hq) | (go_at_call 20; refine (HC.out _).mono ?_; rintro e w2 ⟨rfl, hq⟩; have HB2 := aM (below_step HB.out hq); clear hq; have hg3 := (HB2.out.cell (World.block_lt_of_cell? w _ HG.out)).trans HG.out))
  go_ret
  exact ⟨ret_bool HR.out, HB2.out⟩
def impl_withOn.f (k : Nat) (a0 : Int) (a1 : Int) : Option (List ByteArray) := impl_withNumbers.f (onAt a0 a1) k a0
theorem impl_withOn.mono : ∀ a0 a1 k, LeO (impl_withOn.f k a0 a1) (impl_withOn.f (k + 1) a0 a1) := fun a0 a1 k => impl_withNumbers.mono (onAt a0 a1) a0 k
instance impl_withOn.mI (k : Nat) : Mo (impl_withOn.f k) (impl_withOn.f (k + 1)) := ⟨fun a0 a1 => impl_withOn.mono a0 a1 k⟩
set_option maxHeartbeats 1000000 in
set_option maxRecDepth 100000 in
theorem impl_withOn.calls (k : Nat) (a0 : Int) (a1 : Int) (r : List ByteArray) (w : World) (h : impl_withOn.f k a0 a1 = some r) :
    Calls Tryd.prog 71 #[.int .i64 a0, .int .i64 a1] w fun e w' => ∃ v0_ : Value, e = .returned (v0_) ∧ Kd.R Kd.string 9 w' w.heap.size (fun _ => True) v0_ r ∧ Below w.heap.size w w' := by
 have HR := aM (show impl_withNumbers.f (onAt a0 a1) k a0 = some r from h)
 clear h
 have hmf : ∀ (fn : Fn) (first cap : Array Value) (w : World), (Instr.makeFunc fn first cap).run Tryd.prog w = .ok (.func fn first cap) w := fun _ _ _ _ => rfl
 have BK6 := aM (show ((w.alloc (.cells #[.int .i64 a0] 3)).alloc (.cells #[.int .i64 a1] 3)).heap[w.heap.size]? = some (.cells #[.int .i64 a0] 3 (0, 0)) from blk_alloc (blk_new _ _) _)
 have BK7 := aM (show ((w.alloc (.cells #[.int .i64 a0] 3)).alloc (.cells #[.int .i64 a1] 3)).heap[w.heap.size + 1]? = some (.cells #[.int .i64 a1] 3 (0, 0)) from by
  have h5 := blk_new (w.alloc (.cells #[.int .i64 a0] 3)) (.cells #[.int .i64 a1] 3)
  have h6 : (w.alloc (.cells #[.int .i64 a0] 3)).heap.size = w.heap.size + 1 := by simp
  rw [h6] at h5
  exact h5)
 have HBB := aM (show Below w.heap.size w ((w.alloc (.cells #[.int .i64 a0] 3)).alloc (.cells #[.int .i64 a1] 3)) from below_alloc (below_alloc (Below.refl _ _) _) _)
 have HC6 := aM ((blk_cell BK6.out 0).trans rfl)
 have HC7 := aM ((blk_cell BK7.out 0).trans rfl)
 clear BK6 BK7
 go_enter Tryd.func71, Tryd.ntmps71
 go_wp2_with (go_at_call 109; refine (impl_withNumbers.calls (onAt a0 a1) 130 Tryd.f130 #[.pointer (some ⟨w.heap.size, 0, none⟩), .pointer (some ⟨w.heap.size + 1, 0, none⟩)] k a0 r _ ⟨impl_withOn.f1⟩ ⟨fun n t w1 hb1 ht => impl_withOn.c1 w.heap.size (w.heap.size + 1) a0 a1 n t w1 ((hb1.cell (World.block_lt_of_cell? _ _ HC6.out)).trans HC6.out) ((hb1.cell (World.block_lt_of_cell? _ _ HC7.out)).trans HC7.out) ht⟩ HR.out).mono ?_; rintro e w5 ⟨v, rfl, hR, hq⟩; have HRR := aM (Kd.R_lower hR (below_size HBB.out)); have HB9 := aM (below_step HBB.out hq); clear hR hq)
 go_ret
 exact ⟨_, rfl, HRR.out, HB9.out⟩

/-! ### impl_StatesWithOn: function 8 -/
def impl_StatesWithOn.f (k : Nat) (a0 : Int) (a1 : Int) : Option (List ByteArray × Bool) := (impl_isOn.f a0 a1).bind fun t139 => (if t139 = true then ((impl_chosen.f k a0 a1).bind fun t140 => (if t140 > 100 then (some (([] : List ByteArray), false)) else ((impl_withOn.f k a0 a1).bind fun t141 => (some (t141, true))))) else (some (([] : List ByteArray), false)))
instance impl_StatesWithOn.mI (k : Nat) : Mo (impl_StatesWithOn.f k) (impl_StatesWithOn.f (k + 1)) := by
 (repeat refine mE fun _ => ?_); unfold impl_StatesWithOn.f; exact mG
theorem impl_StatesWithOn.mono : ∀ a0 a1 k, LeO (impl_StatesWithOn.f k a0 a1) (impl_StatesWithOn.f (k + 1) a0 a1) := fun a0 a1 k => (impl_StatesWithOn.mI k).out a0 a1
set_option maxHeartbeats 8000000 in
set_option maxRecDepth 100000 in
theorem impl_StatesWithOn.calls (k : Nat) (a0 : Int) (a1 : Int) (r1 : List ByteArray) (r2 : Bool) (w : World) (h : impl_StatesWithOn.f k a0 a1 = some (r1, r2)) :
  Calls Tryd.prog 8 #[.int .i64 a0, .int .i64 a1] w fun e w' => ∃ v0_ : Value, e = .returned (.tuple #[v0_, .bool r2]) ∧ Kd.R Kd.string 9 w' w.heap.size (fun _ => True) v0_ r1 ∧ Below w.heap.size w w' := by
 have HB := aM (Below.refl w.heap.size w)
 have H := h
 clear h; unfold impl_StatesWithOn.f at H
 replace H := bC H; obtain ⟨t139, A3, H⟩ := H
 refine iB H ?_ ?_ <;> clear H <;> rintro rfl H
 ·replace H := bC H; obtain ⟨t140, A5, H⟩ := H
  refine iI H ?_ ?_ <;> clear H <;> intro c6 H
  ·have c6b0 := gT c6
   clear c6
   simp only [Option.some.injEq, Prod.mk.injEq] at H
   obtain ⟨rfl, rfl⟩ := H
   go_enter Tryd.func8, Tryd.ntmps8
   go_wp2_with (first | ((with_reducible refine gG 69 (some 8) rfl rfl ?_); refine gL Tryd.func69 #[.int .i64 a0, .int .i64 a1] ?_; (with_reducible refine (impl_isOn.calls a0 a1 true _ A3.out).mono ?_); rintro e w' ⟨rfl, ⟨nd, rfl⟩⟩; refine ⟨_, rfl, ?_⟩) | (go_at_call 70; (with_reducible refine (impl_chosen.calls k a0 a1 t140 _ A5.out).mono ?_); rintro e w' ⟨rfl, ⟨nd, rfl⟩⟩))
   go_ret2
   exact ⟨_, eW, by first | exact Kd.R_nil _ _ _ _ _ | exact Kd.N_nil _ _ _ _ _ | exact Kd.V_nil _ _ _ _ _ | exact Kd.Q_nil _ _ _ _ _ | exact Kd.S_nil _ _ _ _ _, bel HB⟩
  have c6b0 := gF c6
  clear c6
  replace H := bC H; obtain ⟨t141, A7, H⟩ := H
  simp only [Option.some.injEq, Prod.mk.injEq] at H
  obtain ⟨rfl, rfl⟩ := H
  go_enter Tryd.func8, Tryd.ntmps8
  go_wp2_with (first | ((with_reducible refine gG 69 (some 8) rfl rfl ?_); refine gL Tryd.func69 #[.int .i64 a0, .int .i64 a1] ?_; (with_reducible refine (impl_isOn.calls a0 a1 true _ A3.out).mono ?_); rintro e w' ⟨rfl, ⟨nd, rfl⟩⟩; refine ⟨_, rfl, ?_⟩) | (go_at_call 70; (with_reducible refine (impl_chosen.calls k a0 a1 t140 _ A5.out).mono ?_); rintro e w' ⟨rfl, ⟨nd, rfl⟩⟩) | ((with_reducible refine gG 71 (some 18) rfl rfl ?_); refine gD Tryd.func71 (impl_withOn.calls k a0 a1 t141 _ A7.out) ?_; rintro w8 v142 ⟨ho0, hb⟩; have HO143 := rL ho0 HB; replace HB := hS HB hb; clear hb ho0))
  go_ret2
  exact ⟨_, eW, rU HO143.out, bel HB⟩
 simp only [Option.some.injEq, Prod.mk.injEq] at H
 obtain ⟨rfl, rfl⟩ := H
 go_enter Tryd.func8, Tryd.ntmps8
 go_wp2_with (first | ((with_reducible refine gG 69 (some 8) rfl rfl ?_); refine gL Tryd.func69 #[.int .i64 a0, .int .i64 a1] ?_; (with_reducible refine (impl_isOn.calls a0 a1 false _ A3.out).mono ?_); rintro e w' ⟨rfl, ⟨nd, rfl⟩⟩; refine ⟨_, rfl, ?_⟩))
 go_ret2
 exact ⟨_, eW, by first | exact Kd.R_nil _ _ _ _ _ | exact Kd.N_nil _ _ _ _ _ | exact Kd.V_nil _ _ _ _ _ | exact Kd.Q_nil _ _ _ _ _ | exact Kd.S_nil _ _ _ _ _, bel HB⟩

/-! ### spec_l1In: function 115 -/
def spec_l1In.f (a0 : Int) (a1 : Int) (a2 : Int) : Option (Bool) := if a0 ≥ a1 then (some (decide (a0 ≤ a2))) else (some false)
set_option maxHeartbeats 8000000 in
set_option maxRecDepth 100000 in
theorem spec_l1In.calls (a0 : Int) (a1 : Int) (a2 : Int) (r : Bool) (w : World) (h : spec_l1In.f a0 a1 a2 = some r) :
  Calls Tryd.prog 115 #[.int .i64 a0, .int .i64 a1, .int .i64 a2] w fun e w' => e = .returned (.bool r) ∧ Drawn0 w w' := by
 have H := h
 clear h; unfold spec_l1In.f at H
 refine iI H ?_ ?_ <;> clear H <;> intro c4 H
 ·have c4b0 := hT c4
  clear c4
  obtain rfl := Option.some.inj H
  go_enter Tryd.func115, Tryd.ntmps115
  go_wp2
  go_ret
  exact ⟨rF, d0⟩
 have c4b0 := hF c4
 clear c4
 obtain rfl := Option.some.inj H
 go_enter Tryd.func115, Tryd.ntmps115
 go_wp2
 go_ret
 exact ⟨rF, d0⟩

/-! ### spec_waRings: function 81 -/
def spec_waRings.f (a0 : Int) : Option (Bool) := (spec_l1In.f a0 1 12).bind fun t144 => (some t144)
set_option maxHeartbeats 8000000 in
set_option maxRecDepth 100000 in
theorem spec_waRings.calls (a0 : Int) (r : Bool) (w : World) (h : spec_waRings.f a0 = some r) :
  Calls Tryd.prog 81 #[.int .i64 a0] w fun e w' => e = .returned (.bool r) ∧ Drawn0 w w' := by
 have H := h
 clear h; unfold spec_waRings.f at H
 replace H := bC H; obtain ⟨t144, A2, H⟩ := H
 obtain rfl := Option.some.inj H
 go_enter Tryd.func81, Tryd.ntmps81
 go_wp2_with (first | ((with_reducible refine gG 115 (some 4) rfl rfl ?_); refine gL Tryd.func115 #[.int .i64 a0, .int .i64 1, .int .i64 12] ?_; (with_reducible refine (spec_l1In.calls a0 1 12 t144 _ A2.out).mono ?_); rintro e w' ⟨rfl, ⟨nd, rfl⟩⟩; refine ⟨_, rfl, ?_⟩))
 go_ret
 exact ⟨rF, d0⟩

/-! ### spec_waOn: function 72 -/
def spec_waOn.f (a0 : Int) (a1 : Int) : Option (Bool) := (spec_waRings.f a0).bind fun t145 => (if t145 = true then ((spec_l1In.f a1 0 a0).bind fun t146 => (some t146)) else (some false))
set_option maxHeartbeats 8000000 in
set_option maxRecDepth 100000 in
theorem spec_waOn.calls (a0 : Int) (a1 : Int) (r : Bool) (w : World) (h : spec_waOn.f a0 a1 = some r) :
  Calls Tryd.prog 72 #[.int .i64 a0, .int .i64 a1] w fun e w' => e = .returned (.bool r) ∧ Drawn0 w w' := by
 have H := h
 clear h; unfold spec_waOn.f at H
 replace H := bC H; obtain ⟨t145, A3, H⟩ := H
 refine iB H ?_ ?_ <;> clear H <;> rintro rfl H
 ·replace H := bC H; obtain ⟨t146, A5, H⟩ := H
  obtain rfl := Option.some.inj H
  go_enter Tryd.func72, Tryd.ntmps72
  go_wp2_with (first | ((with_reducible refine gG 81 (some 6) rfl rfl ?_); refine gL Tryd.func81 #[.int .i64 a0] ?_; (with_reducible refine (spec_waRings.calls a0 true _ A3.out).mono ?_); rintro e w' ⟨rfl, ⟨nd, rfl⟩⟩; refine ⟨_, rfl, ?_⟩) | (go_at_call 115; (with_reducible refine (spec_l1In.calls a1 0 a0 t146 _ A5.out).mono ?_); rintro e w' ⟨rfl, ⟨nd, rfl⟩⟩))
  go_ret
  exact ⟨rF, d0⟩
 obtain rfl := Option.some.inj H
 go_enter Tryd.func72, Tryd.ntmps72
 go_wp2_with (first | ((with_reducible refine gG 81 (some 6) rfl rfl ?_); refine gL Tryd.func81 #[.int .i64 a0] ?_; (with_reducible refine (spec_waRings.calls a0 false _ A3.out).mono ?_); rintro e w' ⟨rfl, ⟨nd, rfl⟩⟩; refine ⟨_, rfl, ?_⟩))
 go_ret
 exact ⟨rF, d0⟩

/-! ### spec_riState: function 74 -/
def spec_riState.l0 : Nat → Int → Int → ByteArray → Int → Option (ByteArray)
 | 0, _, _, _, _ => none
 | k + 1, x0, x1, x5, x6 => if x6 < x0 then (if 0 ≤ x6 then (if 0 ≤ (wrap64 (x6 + 1)) then (if (Go.bits .and .i64 (shr .i64 x1 x6) 1) = (Go.bits .and .i64 (shr .i64 x1 (wrap64 (x6 + 1))) 1) then (if x5.size + 1 ≤ 9223372036854775807 then (spec_riState.l0 k x0 x1 (x5 ++ (⟨#[48]⟩ : ByteArray)) (wrap64 (x6 + 1))) else (none)) else (if x5.size + 1 ≤ 9223372036854775807 then (spec_riState.l0 k x0 x1 (x5 ++ (⟨#[49]⟩ : ByteArray)) (wrap64 (x6 + 1))) else (none))) else (none)) else (none)) else (some x5)
def spec_riState.f (k : Nat) (a0 : Int) (a1 : Int) : Option (ByteArray) := spec_riState.l0 k a0 a1 (⟨#[]⟩ : ByteArray) 0
theorem spec_riState.mono_l : ∀ k, Mo (spec_riState.l0 k) (spec_riState.l0 (k + 1))
 | 0 => m0
 | k + 1 => by
  have ih0 := spec_riState.mono_l k
  (repeat refine mE fun _ => ?_) <;> first | (unfold spec_riState.l0; exact mG)
instance spec_riState.mI (k : Nat) : Mo (spec_riState.f k) (spec_riState.f (k + 1)) := by
 have ih0 := spec_riState.mono_l k
 (repeat refine mE fun _ => ?_); unfold spec_riState.f; exact mG
theorem spec_riState.mono : ∀ a0 a1 k, LeO (spec_riState.f k a0 a1) (spec_riState.f (k + 1) a0 a1) := fun a0 a1 k => (spec_riState.mI k).out a0 a1
set_option maxHeartbeats 8000000 in
set_option maxRecDepth 100000 in
theorem spec_riState.calls (k : Nat) (a0 : Int) (a1 : Int) (r : ByteArray) (w : World) (h : spec_riState.f k a0 a1 = some r) :
  Calls Tryd.prog 74 #[.int .i64 a0, .int .i64 a1] w fun e w' => e = .returned (.string r) ∧ Drawn0 w w' := by
 have H := h
 clear h; unfold spec_riState.f at H
 have H' := aM H
 clear H
 go_enter Tryd.func74, Tryd.ntmps74
 go_wp2
 repeat (go_quiet (fail); try go_wp2)
 go_loopg [5, 6] k (fun kq v5 v6 w' => ∃ (x5_1 : ByteArray) (x6_1 : Int), v5 = .string x5_1 ∧ v6 = .int .i64 x6_1 ∧ Aside0 (spec_riState.l0 kq a0 a1 x5_1 x6_1 = some r) ∧ Aside0 (kq ≤ k) ∧ Drawn0 w w')
 case atStart => exact ⟨((⟨#[]⟩ : ByteArray)), (0), rF, rF, H', kR, d0⟩
 case round =>
  clear H'
  obtain ⟨x5_1, x6_1, rfl, rfl, HA, HK1, ⟨m1, rfl⟩⟩ := hrel
  obtain rfl | ⟨k1, rfl⟩ := fz gk
  ·exact zA HA
  have H := HA.out
  clear HA
  simp only [spec_riState.l0] at H
  refine iI H ?_ ?_ <;> clear H <;> intro c3 H
  ·have c3b0 := dT c3
   clear c3
   refine iY H ?_; clear H; intro c4 H
   have c4b0 := eq_true c4
   have c4b1 := dT c4
   clear c4
   obtain ⟨ji5, hji5⟩ := jN (shr .i64 a1 x6_1)
   first | rw [hji5] at H | simp only [hji5] at H
   have hji5_ : (a1 / 2 ^ min x6_1.toNat 64) = ji5 := hji5
   have hji5z : x6_1 ≤ 64 → (a1 / 2 ^ x6_1.toNat) = ji5 := shr_small hji5
   obtain ⟨ji6, hji6⟩ := jN (wrap64 (x6_1 + 1))
   first | rw [hji6] at H | simp only [hji6] at H
   have hji6w : (IntKind.i64.wrap (x6_1 + 1)) = ji6 := (i64_w _).trans hji6
   refine iY H ?_; clear H; intro c7 H
   have c7b0 := eq_true c7
   have c7b1 := dT c7
   clear c7
   obtain ⟨ji8, hji8⟩ := jN (shr .i64 a1 (ji6))
   first | rw [hji8] at H | simp only [hji8] at H
   have hji8_ : (a1 / 2 ^ min (ji6).toNat 64) = ji8 := hji8
   have hji8z : (ji6) ≤ 64 → (a1 / 2 ^ (ji6).toNat) = ji8 := shr_small hji8
   refine iI H ?_ ?_ <;> clear H <;> intro c9 H
   ·have c9b0 := qT c9
    have c9b1 := nF c9
    clear c9
    refine iY H ?_; clear H; intro c10 H
    have c10b0 := eq_true c10
    have c10b1 := dT c10
    try have c10b2 : (9223372036854775807 < x5_1.size + 1) = False := eq_false (Nat.not_lt.2 c10)
    have H' := aM H
    clear H
    go_wp2
    repeat (go_quiet (fail); try go_wp2)
    go_roundg k1
    case measure => have := HK1.out; omega
    case rel => exact ⟨(x5_1 ++ (⟨#[48]⟩ : ByteArray)), (ji6), rF, (by first | rfl | (simp; done) | (simp only [← hji6] <;> (first | rfl | simp)) | (simp [*]; done)), H', ⟨by have := HK1.out; omega⟩, d0⟩
   have c9b0 := qF c9
   have c9b1 := nT c9
   refine iY H ?_; clear H; intro c11 H
   have c11b0 := eq_true c11
   have c11b1 := dT c11
   try have c11b2 : (9223372036854775807 < x5_1.size + 1) = False := eq_false (Nat.not_lt.2 c11)
   have H' := aM H
   clear H
   go_wp2
   repeat (go_quiet (fail); try go_wp2)
   go_roundg k1
   case measure => have := HK1.out; omega
   case rel => exact ⟨(x5_1 ++ (⟨#[49]⟩ : ByteArray)), (ji6), rF, (by first | rfl | (simp; done) | (simp only [← hji6] <;> (first | rfl | simp)) | (simp [*]; done)), H', ⟨by have := HK1.out; omega⟩, d0⟩
  have c3b0 := dF c3
  clear c3
  obtain rfl := Option.some.inj H
  go_wp2
  repeat (go_quiet (fail); try go_wp2)
  go_ret
  exact ⟨rF, d0⟩

/-! ### spec_riOn: function 91 -/
def spec_riOn.l0 : Nat → ByteArray → Int → Int → Option (Int)
 | 0, _, _, _ => none
 | k + 1, x0, x3, x4 => if x4 < (x0.size : Int) then (if 0 ≤ x4 then (if (bt x0 x4) = 49 then (spec_riOn.l0 k x0 (wrap64 (x3 + 1)) (wrap64 (x4 + 1))) else (spec_riOn.l0 k x0 x3 (wrap64 (x4 + 1)))) else (none)) else (some x3)
def spec_riOn.f (k : Nat) (a0 : ByteArray) : Option (Int) := spec_riOn.l0 k a0 0 0
theorem spec_riOn.mono_l : ∀ k, Mo (spec_riOn.l0 k) (spec_riOn.l0 (k + 1))
 | 0 => m0
 | k + 1 => by
  have ih0 := spec_riOn.mono_l k
  (repeat refine mE fun _ => ?_) <;> first | (unfold spec_riOn.l0; exact mG)
instance spec_riOn.mI (k : Nat) : Mo (spec_riOn.f k) (spec_riOn.f (k + 1)) := by
 have ih0 := spec_riOn.mono_l k
 (repeat refine mE fun _ => ?_); unfold spec_riOn.f; exact mG
theorem spec_riOn.mono : ∀ a0 k, LeO (spec_riOn.f k a0) (spec_riOn.f (k + 1) a0) := fun a0 k => (spec_riOn.mI k).out a0
set_option maxHeartbeats 8000000 in
set_option maxRecDepth 100000 in
theorem spec_riOn.calls (k : Nat) (a0 : ByteArray) (r : Int) (w : World) (h : spec_riOn.f k a0 = some r) :
  Calls Tryd.prog 91 #[.string a0] w fun e w' => e = .returned (.int .i64 r) ∧ Drawn0 w w' := by
 have H := h
 clear h; unfold spec_riOn.f at H
 have H' := aM H
 clear H
 go_enter Tryd.func91, Tryd.ntmps91
 go_wp2
 go_loopg [3, 4] k (fun kq v3 v4 w' => ∃ (x3_1 : Int) (x4_1 : Int), v3 = .int .i64 x3_1 ∧ v4 = .int .i64 x4_1 ∧ Aside0 (spec_riOn.l0 kq a0 x3_1 x4_1 = some r) ∧ Aside0 (kq ≤ k) ∧ Drawn0 w w')
 case atStart => exact ⟨(0), (0), rF, rF, H', kR, d0⟩
 case round =>
  clear H'
  obtain ⟨x3_1, x4_1, rfl, rfl, HA, HK1, ⟨m1, rfl⟩⟩ := hrel
  obtain rfl | ⟨k1, rfl⟩ := fz gk
  ·exact zA HA
  have H := HA.out
  clear HA
  simp only [spec_riOn.l0] at H
  refine iI H ?_ ?_ <;> clear H <;> intro c2 H
  ·have c2b0 := dT c2
   clear c2
   refine iY H ?_; clear H; intro c3 H
   have c3b0 := dT c3
   clear c3
   refine iI H ?_ ?_ <;> clear H <;> intro c5 H
   ·have c5b0 := qT c5
    have c5b1 := nF c5
    clear c5
    have H' := aM H
    clear H
    have p4 : 0 ≤ (x4_1 : Int) := oD
    have q4 : x4_1 < (a0.size : Int) := oD
    have hx4 := bt_at a0 x4_1
    replace p4 := eq_true p4
    replace q4 := eq_true q4
    go_wp2
    go_roundg k1
    case measure => have := HK1.out; omega
    case rel => exact ⟨(wrap64 (x3_1 + 1)), (wrap64 (x4_1 + 1)), rF, rF, H', ⟨by have := HK1.out; omega⟩, d0⟩
   have c5b0 := qF c5
   have c5b1 := nT c5
   have H' := aM H
   clear H
   have p4 : 0 ≤ (x4_1 : Int) := oD
   have q4 : x4_1 < (a0.size : Int) := oD
   have hx4 := bt_at a0 x4_1
   replace p4 := eq_true p4
   replace q4 := eq_true q4
   go_wp2
   go_roundg k1
   case measure => have := HK1.out; omega
   case rel => exact ⟨(x3_1), (wrap64 (x4_1 + 1)), rF, rF, H', ⟨by have := HK1.out; omega⟩, d0⟩
  have c2b0 := dF c2
  clear c2
  obtain rfl := Option.some.inj H
  go_wp2
  go_ret
  exact ⟨rF, d0⟩

/-! ### spec_waWith: function 73 -/
def spec_waWith.l0 : Nat → Int → Int → List Int → Int → Option (List Int)
 | 0, _, _, _, _ => none
 | k + 1, x0, x1, x5, x6 => if 0 ≤ x0 then (if x6 < (shl .i64 1 x0) then ((spec_riState.f k x0 x6).bind fun t147 => ((spec_riOn.f k t147).bind fun t148 => (if t148 = x1 then (if x5.length < 17592186044416 then (spec_waWith.l0 k x0 x1 (x5 ++ [x6]) (wrap64 (x6 + 1))) else (none)) else (spec_waWith.l0 k x0 x1 x5 (wrap64 (x6 + 1)))))) else (some x5)) else (none)
def spec_waWith.f (k : Nat) (a0 : Int) (a1 : Int) : Option (List Int) := spec_waWith.l0 k a0 a1 ([] : List Int) 0
theorem spec_waWith.mono_l : ∀ k, Mo (spec_waWith.l0 k) (spec_waWith.l0 (k + 1))
 | 0 => m0
 | k + 1 => by
  have ih0 := spec_waWith.mono_l k
  (repeat refine mE fun _ => ?_) <;> first | (unfold spec_waWith.l0; exact mG)
instance spec_waWith.mI (k : Nat) : Mo (spec_waWith.f k) (spec_waWith.f (k + 1)) := by
 have ih0 := spec_waWith.mono_l k
 (repeat refine mE fun _ => ?_); unfold spec_waWith.f; exact mG
theorem spec_waWith.mono : ∀ a0 a1 k, LeO (spec_waWith.f k a0 a1) (spec_waWith.f (k + 1) a0 a1) := fun a0 a1 k => (spec_waWith.mI k).out a0 a1
set_option maxHeartbeats 8000000 in
set_option maxRecDepth 100000 in
theorem spec_waWith.calls (k : Nat) (a0 : Int) (a1 : Int) (r : List Int) (w : World) (h : spec_waWith.f k a0 a1 = some r) :
  Calls Tryd.prog 73 #[.int .i64 a0, .int .i64 a1] w fun e w' => ∃ v0_ : Value, e = .returned (v0_) ∧ Kd.R (Kd.int .i64) 3 w' w.heap.size (fun _ => True) v0_ r ∧ Below w.heap.size w w' := by
 have HB := aM (Below.refl w.heap.size w)
 have H := h
 clear h; unfold spec_waWith.f at H
 have H' := aM H
 clear H
 go_enter Tryd.func73, Tryd.ntmps73
 go_wp2
 go_loopg [5, 6] k (fun kq v5 v6 w' => ∃ (x5_1 : List Int) (x6_1 : Int), v6 = .int .i64 x6_1 ∧ Aside0 (spec_waWith.l0 kq a0 a1 x5_1 x6_1 = some r) ∧ Aside0 (kq ≤ k) ∧ Aside0 (Kd.R (Kd.int .i64) 3 w' w.heap.size (fun _ => True) v5 x5_1) ∧ Aside0 (Below w.heap.size w w'))
 case atStart => exact ⟨(([] : List Int)), (0), rF, H', kR, ⟨by first | exact Kd.R_nil _ _ _ _ _ | exact Kd.N_nil _ _ _ _ _ | exact Kd.V_nil _ _ _ _ _ | exact Kd.Q_nil _ _ _ _ _ | exact Kd.S_nil _ _ _ _ _⟩, hV HB⟩
 case round =>
  clear H'
  obtain ⟨x5_1, x6_1, rfl, HA, HK1, HO_5, HB⟩ := hrel
  obtain rfl | ⟨k1, rfl⟩ := fz gk
  ·exact zA HA
  have H := HA.out
  clear HA
  simp only [spec_waWith.l0] at H
  refine iY H ?_; clear H; intro c3 H
  have c3b0 := eq_true c3
  have c3b1 := dT c3
  clear c3
  obtain ⟨ji4, hji4⟩ := jN (shl .i64 1 a0)
  first | rw [hji4] at H | simp only [hji4] at H
  have hji4_ : (IntKind.i64.wrap (1 * 2 ^ min a0.toNat 64)) = ji4 := hji4
  have hji4z : a0 ≤ 64 → (IntKind.i64.wrap (1 * 2 ^ a0.toNat)) = ji4 := shl_small hji4
  have hji4u : (IntKind.i64.wrap (2 ^ min a0.toNat 64)) = ji4 := by have h_ := hji4_; rw [Int.one_mul] at h_; exact h_
  have hji4v : a0 ≤ 64 → (IntKind.i64.wrap (2 ^ a0.toNat)) = ji4 := fun hle_ => by have h_ := hji4z hle_; rw [Int.one_mul] at h_; exact h_
  have hji4y : (wrap64 (1 * 2 ^ min a0.toNat 64)) = ji4 := (i64_w _).symm.trans hji4_
  have hji4x : a0 ≤ 64 → (wrap64 (1 * 2 ^ a0.toNat)) = ji4 := fun h_ => (i64_w _).symm.trans (hji4z h_)
  refine iI H ?_ ?_ <;> clear H <;> intro c5 H
  ·have c5b0 := dT c5
   clear c5
   replace H := bC H; obtain ⟨t147, A6, H⟩ := H
   replace H := bC H; obtain ⟨t148, A7, H⟩ := H
   refine iI H ?_ ?_ <;> clear H <;> intro c8 H
   ·have c8b0 := qT c8
    have c8b1 := nF c8
    clear c8
    refine iY H ?_; clear H; intro c9 H
    have LMc9 := aM c9
    clear c9
    obtain ⟨y149, Ny149⟩ := yN (x5_1 ++ [x6_1] : List Int); rw [← Ny149.out] at H
    have H' := aM H
    clear H
    go_wp2_with (first | ((with_reducible refine gG 74 (some 15) rfl rfl ?_); refine gL Tryd.func74 #[.int .i64 a0, .int .i64 x6_1] ?_; (with_reducible refine (spec_riState.calls k1 a0 x6_1 t147 _ A6.out).mono ?_); rintro e w' ⟨rfl, ⟨nd, rfl⟩⟩; refine ⟨_, rfl, ?_⟩) | ((with_reducible refine gG 91 (some 16) rfl rfl ?_); refine gL Tryd.func91 #[.string t147] ?_; (with_reducible refine (spec_riOn.calls k1 t147 t148 _ A7.out).mono ?_); rintro e w' ⟨rfl, ⟨nd, rfl⟩⟩; refine ⟨_, rfl, ?_⟩) | ((with_reducible refine gate_builtin (b := .append) (xs := #[.tmp 19, .tmp 21]) rfl ?_); at_builtin; refine Kd.R_append (Kd.int .i64) (w0 := w) w.heap.size rfl (.tmp 19) (.tmp 21) 43 3 (.int .i64 0) 8 rfl Tryd.underlying43 info3 rfl (by decide) (by omega) u5 x5_1 x6_1 [.int .i64 x6_1] (fun _ => True) (fun _ => False) rfl rfl ?aP (fun _ hk => hk.elim) ?aF ?aO ?aB ?aS ?aL ?_; (case aP => exact rfl); (case aB => exact (bel HB)); (case aF => exact (fun _ _ => trivial)); (case aO => exact (rU HO_5.out)); (case aS => exact (below_size (bel HB))); (case aL => have := LMc9.out; omega); intro v150 w10 ho hb hg hat; rw [← Ny149.out] at ho; have HO151 := aM (ho); replace HB := aM (hb); clear HO_5; clear ho hb hg hat))
    go_roundg k1
    case measure => have := HK1.out; omega
    case rel => exact ⟨(y149), (wrap64 (x6_1 + 1)), rF, H', ⟨by have := HK1.out; omega⟩, ⟨rU HO151.out⟩, hV HB⟩
   have c8b0 := qF c8
   have c8b1 := nT c8
   have H' := aM H
   clear H
   go_wp2_with (first | ((with_reducible refine gG 74 (some 15) rfl rfl ?_); refine gL Tryd.func74 #[.int .i64 a0, .int .i64 x6_1] ?_; (with_reducible refine (spec_riState.calls k1 a0 x6_1 t147 _ A6.out).mono ?_); rintro e w' ⟨rfl, ⟨nd, rfl⟩⟩; refine ⟨_, rfl, ?_⟩) | ((with_reducible refine gG 91 (some 16) rfl rfl ?_); refine gL Tryd.func91 #[.string t147] ?_; (with_reducible refine (spec_riOn.calls k1 t147 t148 _ A7.out).mono ?_); rintro e w' ⟨rfl, ⟨nd, rfl⟩⟩; refine ⟨_, rfl, ?_⟩))
   go_roundg k1
   case measure => have := HK1.out; omega
   case rel => exact ⟨(x5_1), (wrap64 (x6_1 + 1)), rF, H', ⟨by have := HK1.out; omega⟩, ⟨rU HO_5.out⟩, hV HB⟩
  have c5b0 := dF c5
  clear c5
  obtain rfl := Option.some.inj H
  go_wp2
  go_ret
  exact ⟨_, by first | rfl | (simp [errW_none, errW_some] <;> rfl) | (simp only [← hji4]; first | rfl | (simp [errW_none, errW_some] <;> rfl)) | (simp [*, errW_none, errW_some] <;> rfl), rU HO_5.out, bel HB⟩

/-! ### spec_StatesWithOn: function 9 -/
def spec_StatesWithOn.l0 : Nat → Int → List ByteArray → List Int → Int → Int → Option (List ByteArray × Bool)
 | 0, _, _, _, _, _ => none
 | k + 1, x0, x7, x20, x21, x22 => if x22 < x21 then (if 0 ≤ x22 then (if x22 < (x20.length : Int) then ((spec_riState.f k x0 (rd x20 x22)).bind fun t157 => (if x7.length < 8796093022208 then (spec_StatesWithOn.l0 k x0 (x7 ++ [t157]) x20 x21 (wrap64 (x22 + 1))) else (none))) else (none)) else (none)) else (some (x7, true))
def spec_StatesWithOn.f (k : Nat) (a0 : Int) (a1 : Int) : Option (List ByteArray × Bool) := (spec_waOn.f a0 a1).bind fun t152 => (if t152 = true then ((spec_waWith.f k a0 a1).bind fun t153 => (if (t153.length : Int) > 100 then (some (([] : List ByteArray), false)) else (spec_StatesWithOn.l0 k a0 ([] : List ByteArray) t153 (t153.length : Int) 0))) else (some (([] : List ByteArray), false)))
theorem spec_StatesWithOn.mono_l : ∀ k, Mo (spec_StatesWithOn.l0 k) (spec_StatesWithOn.l0 (k + 1))
 | 0 => m0
 | k + 1 => by
  have ih0 := spec_StatesWithOn.mono_l k
  (repeat refine mE fun _ => ?_) <;> first | (unfold spec_StatesWithOn.l0; exact mG)
instance spec_StatesWithOn.mI (k : Nat) : Mo (spec_StatesWithOn.f k) (spec_StatesWithOn.f (k + 1)) := by
 have ih0 := spec_StatesWithOn.mono_l k
 (repeat refine mE fun _ => ?_); unfold spec_StatesWithOn.f; exact mG
theorem spec_StatesWithOn.mono : ∀ a0 a1 k, LeO (spec_StatesWithOn.f k a0 a1) (spec_StatesWithOn.f (k + 1) a0 a1) := fun a0 a1 k => (spec_StatesWithOn.mI k).out a0 a1
set_option maxHeartbeats 8000000 in
set_option maxRecDepth 100000 in
theorem spec_StatesWithOn.calls (k : Nat) (a0 : Int) (a1 : Int) (r1 : List ByteArray) (r2 : Bool) (w : World) (h : spec_StatesWithOn.f k a0 a1 = some (r1, r2)) :
  Calls Tryd.prog 9 #[.int .i64 a0, .int .i64 a1] w fun e w' => ∃ v0_ : Value, e = .returned (.tuple #[v0_, .bool r2]) ∧ Kd.R Kd.string 9 w' w.heap.size (fun _ => True) v0_ r1 ∧ Below w.heap.size w w' := by
 have HB := aM (Below.refl w.heap.size w)
 have H := h
 clear h; unfold spec_StatesWithOn.f at H
 replace H := bC H; obtain ⟨t152, A3, H⟩ := H
 refine iB H ?_ ?_ <;> clear H <;> rintro rfl H
 ·replace H := bC H; obtain ⟨t153, A5, H⟩ := H
  refine iI H ?_ ?_ <;> clear H <;> intro c6 H
  ·have c6b0 := gT c6
   have c6b1 : decide (100 < t153.length) = true := decide_eq_true (by omega)
   clear c6
   simp only [Option.some.injEq, Prod.mk.injEq] at H
   obtain ⟨rfl, rfl⟩ := H
   go_enter Tryd.func9, Tryd.ntmps9
   go_wp2_with (first | ((with_reducible refine gG 72 (some 12) rfl rfl ?_); refine gL Tryd.func72 #[.int .i64 a0, .int .i64 a1] ?_; (with_reducible refine (spec_waOn.calls a0 a1 true _ A3.out).mono ?_); rintro e w' ⟨rfl, ⟨nd, rfl⟩⟩; refine ⟨_, rfl, ?_⟩) | ((with_reducible refine gG 73 (some 16) rfl rfl ?_); refine gD Tryd.func73 (spec_waWith.calls k a0 a1 t153 _ A5.out) ?_; rintro w7 v154 ⟨ho0, hb⟩; have HO155 := rL ho0 HB; replace HB := hS HB hb; clear hb ho0; obtain ⟨Ao8, co8, eo8⟩ := Kd.R_slice HO155.out; subst eo8))
   go_ret2
   exact ⟨_, eW, by first | exact Kd.R_nil _ _ _ _ _ | exact Kd.N_nil _ _ _ _ _ | exact Kd.V_nil _ _ _ _ _ | exact Kd.Q_nil _ _ _ _ _ | exact Kd.S_nil _ _ _ _ _, bel HB⟩
  have c6b0 := gF c6
  have c6b1 : decide (100 < t153.length) = false := decide_eq_false (by omega)
  clear c6
  have H' := aM H
  clear H
  go_enter Tryd.func9, Tryd.ntmps9
  go_wp2_with (first | ((with_reducible refine gG 72 (some 12) rfl rfl ?_); refine gL Tryd.func72 #[.int .i64 a0, .int .i64 a1] ?_; (with_reducible refine (spec_waOn.calls a0 a1 true _ A3.out).mono ?_); rintro e w' ⟨rfl, ⟨nd, rfl⟩⟩; refine ⟨_, rfl, ?_⟩) | ((with_reducible refine gG 73 (some 16) rfl rfl ?_); refine gD Tryd.func73 (spec_waWith.calls k a0 a1 t153 _ A5.out) ?_; rintro w9 v154 ⟨ho0, hb⟩; have HO155 := rL ho0 HB; replace HB := hS HB hb; clear hb ho0; obtain ⟨Ao10, co10, eo10⟩ := Kd.R_slice HO155.out; subst eo10))
  go_loopg [7, 22] k (fun kq v7 v22 w' => ∃ (x7_1 : List ByteArray) (x22_1 : Int), v22 = .int .i64 x22_1 ∧ Aside0 (spec_StatesWithOn.l0 kq a0 x7_1 t153 (t153.length : Int) x22_1 = some (r1, r2)) ∧ Aside0 (kq ≤ k) ∧ Aside0 (Kd.R Kd.string 9 w' w.heap.size (fun _ => True) v7 x7_1) ∧ Aside0 (Kd.R (Kd.int .i64) 3 w' w.heap.size (fun _ => True) (.slice Ao10 t153.length co10) t153) ∧ Aside0 (Below w.heap.size w w'))
  case atStart => exact ⟨(([] : List ByteArray)), (0), rF, H', kR, ⟨by first | exact Kd.R_nil _ _ _ _ _ | exact Kd.N_nil _ _ _ _ _ | exact Kd.V_nil _ _ _ _ _ | exact Kd.Q_nil _ _ _ _ _ | exact Kd.S_nil _ _ _ _ _⟩, ⟨rU HO155.out⟩, hV HB⟩
  case round =>
   clear H'
   try clear c6b0;try clear c6b1
   obtain ⟨x7_1, x22_1, rfl, HA, HK1, HO_7, HO_20, HB⟩ := hrel
   obtain rfl | ⟨k1, rfl⟩ := fz gk
   ·exact zA HA
   have H := HA.out
   clear HA
   simp only [spec_StatesWithOn.l0] at H
   refine iI H ?_ ?_ <;> clear H <;> intro c11 H
   ·have c11b0 := dT c11
    clear c11
    refine iY H ?_; clear H; intro c12 H
    have c12b0 := dT c12
    clear c12
    refine iY H ?_; clear H; intro c13 H
    have c13b0 := dT c13
    clear c13
    replace H := bC H; obtain ⟨t157, A14, H⟩ := H
    refine iY H ?_; clear H; intro c15 H
    have LMc15 := aM c15
    clear c15
    obtain ⟨y158, Ny158⟩ := yN (x7_1 ++ [t157] : List ByteArray); rw [← Ny158.out] at H
    have H' := aM H
    clear H
    have p156 : 0 ≤ (x22_1 : Int) := oD
    have q156 : x22_1 < (t153.length : Int) := oD
    obtain ⟨ad156, e156, hx156_0⟩ := Kd.at_int (Kd.R_reads' HO_20.out).2.2 x22_1 p156 q156
    cases e156
    replace p156 := eq_true p156
    replace q156 := eq_true q156
    go_wp2_with (first | ((with_reducible refine gG 74 (some 29) rfl rfl ?_); refine gL Tryd.func74 #[.int .i64 a0, .int .i64 (rd t153 x22_1)] ?_; (with_reducible refine (spec_riState.calls k1 a0 (rd t153 x22_1) t157 _ A14.out).mono ?_); rintro e w' ⟨rfl, ⟨nd, rfl⟩⟩; refine ⟨_, rfl, ?_⟩) | ((with_reducible refine gate_builtin (b := .append) (xs := #[.tmp 26, .tmp 30]) rfl ?_); at_builtin; refine Kd.R_append Kd.string (w0 := w) w.heap.size rfl (.tmp 26) (.tmp 30) 26 9 (.string ⟨#[]⟩) 16 rfl Tryd.underlying26 info9 rfl (by decide) (by omega) u7 x7_1 t157 [.string t157] (fun _ => True) (fun _ => False) rfl rfl ?aP (fun _ hk => hk.elim) ?aF ?aO ?aB ?aS ?aL ?_; (case aP => exact rfl); (case aB => exact (bel HB)); (case aF => exact (fun _ _ => trivial)); (case aO => exact (rU HO_7.out)); (case aS => exact (below_size (bel HB))); (case aL => have := LMc15.out; omega); intro v159 w16 ho hb hg hat; rw [← Ny158.out] at ho; have HO160 := aM (ho); replace HO_20 := aM (Kd.R_over' (rU HO_20.out) (Kd.R_typed (rU HO_7.out)) (by decide) hg); replace HB := aM (hb); clear HO_7; clear ho hb hg hat))
    go_roundg k1
    case measure => have := HK1.out; omega
    case rel => exact ⟨(y158), (wrap64 (x22_1 + 1)), rF, H', ⟨by have := HK1.out; omega⟩, ⟨rU HO160.out⟩, ⟨rU HO_20.out⟩, hV HB⟩
   have c11b0 := dF c11
   clear c11
   simp only [Option.some.injEq, Prod.mk.injEq] at H
   obtain ⟨rfl, rfl⟩ := H
   go_wp2
   go_ret2
   exact ⟨_, eW, rU HO_7.out, bel HB⟩
 simp only [Option.some.injEq, Prod.mk.injEq] at H
 obtain ⟨rfl, rfl⟩ := H
 go_enter Tryd.func9, Tryd.ntmps9
 go_wp2_with (first | ((with_reducible refine gG 72 (some 12) rfl rfl ?_); refine gL Tryd.func72 #[.int .i64 a0, .int .i64 a1] ?_; (with_reducible refine (spec_waOn.calls a0 a1 false _ A3.out).mono ?_); rintro e w' ⟨rfl, ⟨nd, rfl⟩⟩; refine ⟨_, rfl, ?_⟩))
 go_ret2
 exact ⟨_, eW, by first | exact Kd.R_nil _ _ _ _ _ | exact Kd.N_nil _ _ _ _ _ | exact Kd.V_nil _ _ _ _ _ | exact Kd.Q_nil _ _ _ _ _ | exact Kd.S_nil _ _ _ _ _, bel HB⟩

end Go.Proofs.YtcogjabdddikjaaDoor.PSCnt
