-- squeezed (sq3.py); PRINTED by drive.py (a program of this session's, over the kit's print.py; wip/tools/drive.py). Lean checks it.
import Derived.Test.YtcogjabdddikjaaDoorQPSCntx0
import Derived.Test.YtcogjabdddikjaaDoorQPSCntx1
import Derived.Test.YtcogjabdddikjaaDoorQPSCntx2
import Derived.Test.YtcogjabdddikjaaDoorQPSCntx3
import Derived.Test.YtcogjabdddikjaaDoorQPSCntx4
import Derived.Test.YtcogjabdddikjaaDoorQRange
import Derived.Test.YtcogjabdddikjaaDoorQSq
namespace Go.Proofs.YtcogjabdddikjaaDoor.PSCnt
open Go.RowKit Go.Proofs.YtcogjabdddikjaaDoorW.PrintWords Go.Proofs.YtcogjabdddikjaaDoorW.PrintLast Go.Proofs.YtcogjabdddikjaaDoorW.PrintMore
attribute [local go_sem] max2_int min2_int max_two min_two max_three min_three max_four min_four   -- for this text's walks alone
set_option linter.unusedVariables false
set_option linter.unusedSimpArgs false

/-! ### spec_l1Cur_state: function 139 -/
def spec_l1Cur_state.f (k : Nat) (s0_0 : List Int) (s0_1 : Int) (s0_2 : Int) : Option (ByteArray × Int × Int) := (spec_l1Cur_one.f s0_0 s0_1 s0_2 12).bind fun bt239 => (if bt239.1 = true then ((spec_l1Cur_of.f s0_0 bt239.2.1 bt239.2.2 (([(⟨#[]⟩ : ByteArray), (⟨#[50]⟩ : ByteArray), (⟨#[48, 120]⟩ : ByteArray), (⟨#[49, 49, 49, 49, 49, 49, 49, 49, 49, 49, 49, 49, 49, 49, 49, 49, 49, 49, 49, 49, 49]⟩ : ByteArray), (⟨#[49, 49, 49, 49, 49, 49, 49, 49, 49, 49, 49, 49, 49, 49, 49, 49, 49, 49, 49, 49]⟩ : ByteArray), (⟨#[48, 48, 48, 48, 48, 48, 48, 48, 48, 48, 48, 48, 48, 48, 48, 48, 48, 48, 48, 49]⟩ : ByteArray)] : List ByteArray))).bind fun bt245 => (some (bt245.1, bt245.2.1, bt245.2.2))) else ((spec_l1Cur_sureState.f k s0_0 bt239.2.1 bt239.2.2 8).bind fun bt248 => (some (bt248.1, bt248.2.1, bt248.2.2))))
instance spec_l1Cur_state.mI (k : Nat) : Mo (spec_l1Cur_state.f k) (spec_l1Cur_state.f (k + 1)) := by
 (repeat refine mE fun _ => ?_); unfold spec_l1Cur_state.f; exact mG
theorem spec_l1Cur_state.mono : ∀ a0 a1 a2 k, LeO (spec_l1Cur_state.f k a0 a1 a2) (spec_l1Cur_state.f (k + 1) a0 a1 a2) := fun a0 a1 a2 k => (spec_l1Cur_state.mI k).out a0 a1 a2
set_option maxHeartbeats 8000000 in
set_option maxRecDepth 100000 in
theorem spec_l1Cur_state.calls (k : Nat) (g : Nat) (s0_0 : List Int) (s0_1 : Int) (s0_2 : Int) (r1 : ByteArray) (r2 : Int) (r3 : Int) (w0 w : World) (hI : IsS87 w0 w g s0_0 s0_1 s0_2) (hB : Below w0.heap.size w0 w) (h : spec_l1Cur_state.f k s0_0 s0_1 s0_2 = some (r1, r2, r3)) :
  Calls Tryd.prog 139 #[.pointer (some ⟨g, 0, none⟩)] w fun e w' => e = .returned (.string r1) ∧ IsS87 w0 w' g s0_0 r2 r3 ∧ Below w0.heap.size w0 w' ∧ KeepBut w w' g none := by
 have HI0 := sS87 hI
 have GI_HI0 := IsS87.geI HI0
 have HK := aM (KeepBut.refl w g none)
 have HL := aM hB.size
 clear hI
 have HW0 := aM hB.size
 have HB := aM hB
 clear hB
 have H := h
 clear h; unfold spec_l1Cur_state.f at H
 replace H := bC H; obtain ⟨⟨t239, t240, t241⟩, A2, H⟩ := H; try dsimp only at H
 refine iB H ?_ ?_ <;> clear H <;> rintro rfl H
 ·obtain ⟨y242, Ny242⟩ := yN (([(⟨#[]⟩ : ByteArray), (⟨#[50]⟩ : ByteArray), (⟨#[48, 120]⟩ : ByteArray), (⟨#[49, 49, 49, 49, 49, 49, 49, 49, 49, 49, 49, 49, 49, 49, 49, 49, 49, 49, 49, 49, 49]⟩ : ByteArray), (⟨#[49, 49, 49, 49, 49, 49, 49, 49, 49, 49, 49, 49, 49, 49, 49, 49, 49, 49, 49, 49]⟩ : ByteArray), (⟨#[48, 48, 48, 48, 48, 48, 48, 48, 48, 48, 48, 48, 48, 48, 48, 48, 48, 48, 48, 49]⟩ : ByteArray)] : List ByteArray) : List ByteArray); rw [← Ny242.out] at H
  replace H := bC H; obtain ⟨⟨t245, t246, t247⟩, A4, H⟩ := H; try dsimp only at H
  simp only [Option.some.injEq, Prod.mk.injEq] at H
  obtain ⟨rfl, rfl, rfl⟩ := H
  go_enter Tryd.func139, Tryd.ntmps139
  go_wp2_with (first | ((with_reducible refine gG 140 (some 4) rfl rfl ?_); refine gC Tryd.func140 (spec_l1Cur_one.calls g s0_0 s0_1 s0_2 12 true t240 t241 w0 _ tS87 (bel HB) A2.out) ?_; rintro w5 ⟨hi, hb, hk⟩; replace HK := kT HK hk; replace HB := aM (hb); replace HI0 := sS87 (hi); clear hb hk hi) | ((with_reducible refine gate_dst (N := 6) rfl ?_); refine Kd.R_lit Kd.string _ 9 ?hg (N := 6) ?hd (xs := ([(⟨#[]⟩ : ByteArray), (⟨#[50]⟩ : ByteArray), (⟨#[48, 120]⟩ : ByteArray), (⟨#[49, 49, 49, 49, 49, 49, 49, 49, 49, 49, 49, 49, 49, 49, 49, 49, 49, 49, 49, 49, 49]⟩ : ByteArray), (⟨#[49, 49, 49, 49, 49, 49, 49, 49, 49, 49, 49, 49, 49, 49, 49, 49, 49, 49, 49, 49]⟩ : ByteArray), (⟨#[48, 48, 48, 48, 48, 48, 48, 48, 48, 48, 48, 48, 48, 48, 48, 48, 48, 48, 48, 49]⟩ : ByteArray)] : List ByteArray)) (inner := [.string (⟨#[]⟩ : ByteArray), .string (⟨#[50]⟩ : ByteArray), .string (⟨#[48, 120]⟩ : ByteArray), .string (⟨#[49, 49, 49, 49, 49, 49, 49, 49, 49, 49, 49, 49, 49, 49, 49, 49, 49, 49, 49, 49, 49]⟩ : ByteArray), .string (⟨#[49, 49, 49, 49, 49, 49, 49, 49, 49, 49, 49, 49, 49, 49, 49, 49, 49, 49, 49, 49]⟩ : ByteArray), .string (⟨#[48, 48, 48, 48, 48, 48, 48, 48, 48, 48, 48, 48, 48, 48, 48, 48, 48, 48, 48, 49]⟩ : ByteArray)]) (ok := fun _ => True) (okp := fun _ => True) ?hr ?hp (fun _ hk => hk) trivial (Below.refl _ _) (Nat.le_refl _) (by simp) ?_; (case hd => rfl); (case hg => rfl); (case hr => first | (go_simp; done) | (go_simp; rfl)); (case hp => exact (Reps.one (show Kd.M Kd.string _ _ _ (⟨#[]⟩ : ByteArray) [.string (⟨#[]⟩ : ByteArray)] from rfl) (Reps.one (show Kd.M Kd.string _ _ _ (⟨#[50]⟩ : ByteArray) [.string (⟨#[50]⟩ : ByteArray)] from rfl) (Reps.one (show Kd.M Kd.string _ _ _ (⟨#[48, 120]⟩ : ByteArray) [.string (⟨#[48, 120]⟩ : ByteArray)] from rfl) (Reps.one (show Kd.M Kd.string _ _ _ (⟨#[49, 49, 49, 49, 49, 49, 49, 49, 49, 49, 49, 49, 49, 49, 49, 49, 49, 49, 49, 49, 49]⟩ : ByteArray) [.string (⟨#[49, 49, 49, 49, 49, 49, 49, 49, 49, 49, 49, 49, 49, 49, 49, 49, 49, 49, 49, 49, 49]⟩ : ByteArray)] from rfl) (Reps.one (show Kd.M Kd.string _ _ _ (⟨#[49, 49, 49, 49, 49, 49, 49, 49, 49, 49, 49, 49, 49, 49, 49, 49, 49, 49, 49, 49]⟩ : ByteArray) [.string (⟨#[49, 49, 49, 49, 49, 49, 49, 49, 49, 49, 49, 49, 49, 49, 49, 49, 49, 49, 49, 49]⟩ : ByteArray)] from rfl) (Reps.one (show Kd.M Kd.string _ _ _ (⟨#[48, 48, 48, 48, 48, 48, 48, 48, 48, 48, 48, 48, 48, 48, 48, 48, 48, 48, 48, 49]⟩ : ByteArray) [.string (⟨#[48, 48, 48, 48, 48, 48, 48, 48, 48, 48, 48, 48, 48, 48, 48, 48, 48, 48, 48, 49]⟩ : ByteArray)] from rfl) (Reps.none _ _)))))))); intro v243 w6 ho7 hb hg_ hnew_; clear hg_ hnew_; (first | rw [← Ny242.out] at ho7 | (simp only [Int.reduceToNat] at ho7; rw [← Ny242.out] at ho7)); have HO244 := rK ho7 HK; replace HI0 := bS87 g hb; replace HK := kT HK (KeepBut.of_below hb g none); replace HB := hS HB hb; clear hb ho7; obtain ⟨Ao8, co8, eo8⟩ := Kd.R_slice HO244.out; subst eo8) | ((with_reducible refine gG 103 (some 7) rfl rfl ?_); refine gC Tryd.func103 (spec_l1Cur_of.calls g s0_0 t240 t241 _ _ y242 t245 t246 t247 w0 _ tS87 (bel HB) (cU ((Kd.R_reads' HO244.out).2.2)) ((Kd.R_reads' HO244.out).2.1) (far_slice (IsS87.own_ne HI0.out HO244.out (by decide))) A4.out) ?_; rintro w9 ⟨hi, hb, hk⟩; replace HO244 := aM (Kd.R_mono (Kd.R_keep (IsS87.apart (show IsS87 w0 _ g s0_0 t240 t241 from tS87) (rU HO244.out) (by decide)) hk (fun _ h => h.2)) (fun _ h => h.1)); replace HK := kT HK hk; replace HB := aM (hb); replace HI0 := sS87 (hi); clear hb hk hi))
  go_ret
  exact ⟨eW, tS87, bel HB, kp HK⟩
 replace H := bC H; obtain ⟨⟨t248, t249, t250⟩, A10, H⟩ := H; try dsimp only at H
 simp only [Option.some.injEq, Prod.mk.injEq] at H
 obtain ⟨rfl, rfl, rfl⟩ := H
 go_enter Tryd.func139, Tryd.ntmps139
 go_wp2_with (first | ((with_reducible refine gG 140 (some 4) rfl rfl ?_); refine gC Tryd.func140 (spec_l1Cur_one.calls g s0_0 s0_1 s0_2 12 false t240 t241 w0 _ tS87 (bel HB) A2.out) ?_; rintro w11 ⟨hi, hb, hk⟩; replace HK := kT HK hk; replace HB := aM (hb); replace HI0 := sS87 (hi); clear hb hk hi) | ((with_reducible refine gG 156 (some 9) rfl rfl ?_); refine gC Tryd.func156 (spec_l1Cur_sureState.calls k g s0_0 t240 t241 8 t248 t249 t250 w0 _ tS87 (bel HB) A10.out) ?_; rintro w12 ⟨hi, hb, hk⟩; replace HK := kT HK hk; replace HB := aM (hb); replace HI0 := sS87 (hi); clear hb hk hi))
 go_ret
 exact ⟨eW, tS87, bel HB, kp HK⟩

/-! ### spec_l1Cur_states: function 102 -/
def spec_l1Cur_states.l0 : Nat → ByteArray → ByteArray → ByteArray → Int → List Int → Int → Int → Option (ByteArray × ByteArray × Int × Int)
 | 0, _, _, _, _, _, _, _ => none
 | k + 1, x4, x5, x13, x14, x1000, x1001, x1002 => if x14 < (x13.size : Int) then (if 0 ≤ x14 then (if (bt x13 x14) < 128 then (if x14 < 1000000000 then ((spec_l1Cur_of.f x1000 x1001 x1002 (([(⟨#[48]⟩ : ByteArray), (⟨#[49]⟩ : ByteArray)] : List ByteArray))).bind fun bt263 => (if x5.size + bt263.1.size ≤ 9223372036854775807 then (spec_l1Cur_states.l0 k x4 (x5 ++ bt263.1) x13 (wrap64 (x14 + 1)) x1000 bt263.2.1 bt263.2.2) else (none))) else (none)) else (none)) else (none)) else (some (x4, x5, x1001, x1002))
def spec_l1Cur_states.f (k : Nat) (s0_0 : List Int) (s0_1 : Int) (s0_2 : Int) : Option (ByteArray × ByteArray × Int × Int) := (spec_l1Cur_state.f k s0_0 s0_1 s0_2).bind fun bt251 => ((spec_l1Cur_one.f s0_0 bt251.2.1 bt251.2.2 12).bind fun bt254 => (if bt254.1 = true then ((spec_l1Cur_state.f k s0_0 bt254.2.1 bt254.2.2).bind fun bt257 => (some (bt251.1, bt257.1, bt257.2.1, bt257.2.2))) else (spec_l1Cur_states.l0 k bt251.1 (⟨#[]⟩ : ByteArray) bt251.1 0 s0_0 bt254.2.1 bt254.2.2)))
theorem spec_l1Cur_states.mono_l : ∀ k, Mo (spec_l1Cur_states.l0 k) (spec_l1Cur_states.l0 (k + 1))
 | 0 => m0
 | k + 1 => by
  have ih0 := spec_l1Cur_states.mono_l k
  (repeat refine mE fun _ => ?_) <;> first | (unfold spec_l1Cur_states.l0; exact mG)
instance spec_l1Cur_states.mI (k : Nat) : Mo (spec_l1Cur_states.f k) (spec_l1Cur_states.f (k + 1)) := by
 have ih0 := spec_l1Cur_states.mono_l k
 (repeat refine mE fun _ => ?_); unfold spec_l1Cur_states.f; exact mG
theorem spec_l1Cur_states.mono : ∀ a0 a1 a2 k, LeO (spec_l1Cur_states.f k a0 a1 a2) (spec_l1Cur_states.f (k + 1) a0 a1 a2) := fun a0 a1 a2 k => (spec_l1Cur_states.mI k).out a0 a1 a2
theorem IsS87.iter {w0 W : World} {g : Nat} {f0 : List Int} {f1 : Int} {f2 : Int} (h : IsS87 w0 W g f0 f1 f2) (s : ByteArray) : IsS87 w0 (W.iter s 0) g f0 f1 f2 := h.alloc _
theorem IsS87.iterAt {w0 W : World} {g K : Nat} {f0 : List Int} {f1 : Int} {f2 : Int} (h : IsS87 w0 W g f0 f1 f2) (hne : g ≠ K) (s : ByteArray) (p : Nat) : IsS87 w0 (W.iterAt K s p) g f0 f1 f2 := by
  obtain ⟨A, c, h1, h2, h3⟩ := h
  exact ⟨A, c, rng_other h1 hne, h2, h3⟩
set_option maxHeartbeats 8000000 in
set_option maxRecDepth 100000 in
theorem spec_l1Cur_states.calls (k : Nat) (g : Nat) (s0_0 : List Int) (s0_1 : Int) (s0_2 : Int) (r1 : ByteArray) (r2 : ByteArray) (r3 : Int) (r4 : Int) (w0 w : World) (hI : IsS87 w0 w g s0_0 s0_1 s0_2) (hB : Below w0.heap.size w0 w) (h : spec_l1Cur_states.f k s0_0 s0_1 s0_2 = some (r1, r2, r3, r4)) :
  Calls Tryd.prog 102 #[.pointer (some ⟨g, 0, none⟩)] w fun e w' => e = .returned (.tuple #[.string r1, .string r2]) ∧ IsS87 w0 w' g s0_0 r3 r4 ∧ Below w0.heap.size w0 w' ∧ KeepBut w w' g none := by
 have HI0 := sS87 hI
 have GI_HI0 := IsS87.geI HI0
 have HK := aM (KeepBut.refl w g none)
 have HL := aM hB.size
 clear hI
 have HW0 := aM hB.size
 have HB := aM hB
 clear hB
 have H := h
 clear h; unfold spec_l1Cur_states.f at H
 replace H := bC H; obtain ⟨⟨t251, t252, t253⟩, A2, H⟩ := H; try dsimp only at H
 replace H := bC H; obtain ⟨⟨t254, t255, t256⟩, A3, H⟩ := H; try dsimp only at H
 refine iB H ?_ ?_ <;> clear H <;> rintro rfl H
 ·replace H := bC H; obtain ⟨⟨t257, t258, t259⟩, A5, H⟩ := H; try dsimp only at H
  simp only [Option.some.injEq, Prod.mk.injEq] at H
  obtain ⟨rfl, rfl, rfl, rfl⟩ := H
  go_enter Tryd.func102, Tryd.ntmps102
  go_wp2_with (first | ((with_reducible refine gG 139 (some 7) rfl rfl ?_); refine gC Tryd.func139 (spec_l1Cur_state.calls k g s0_0 s0_1 s0_2 t251 t252 t253 w0 _ tS87 (bel HB) A2.out) ?_; rintro w6 ⟨hi, hb, hk⟩; replace HK := kT HK hk; replace HB := aM (hb); replace HI0 := sS87 (hi); clear hb hk hi) | ((with_reducible refine gG 140 (some 9) rfl rfl ?_); refine gC Tryd.func140 (spec_l1Cur_one.calls g s0_0 t252 t253 12 true t255 t256 w0 _ tS87 (bel HB) A3.out) ?_; rintro w7 ⟨hi, hb, hk⟩; replace HK := kT HK hk; replace HB := aM (hb); replace HI0 := sS87 (hi); clear hb hk hi) | ((with_reducible refine gG 139 (some 12) rfl rfl ?_); refine gC Tryd.func139 (spec_l1Cur_state.calls k g s0_0 t255 t256 t257 t258 t259 w0 _ tS87 (bel HB) A5.out) ?_; rintro w8 ⟨hi, hb, hk⟩; replace HK := kT HK hk; replace HB := aM (hb); replace HI0 := sS87 (hi); clear hb hk hi))
  go_ret2
  exact ⟨eW, tS87, bel HB, kp HK⟩
 have H' := aM H
 clear H
 go_enter Tryd.func102, Tryd.ntmps102
 go_wp2_with (first | ((with_reducible refine gG 139 (some 7) rfl rfl ?_); refine gC Tryd.func139 (spec_l1Cur_state.calls k g s0_0 s0_1 s0_2 t251 t252 t253 w0 _ tS87 (bel HB) A2.out) ?_; rintro w9 ⟨hi, hb, hk⟩; replace HK := kT HK hk; replace HB := aM (hb); replace HI0 := sS87 (hi); clear hb hk hi) | ((with_reducible refine gG 140 (some 9) rfl rfl ?_); refine gC Tryd.func140 (spec_l1Cur_one.calls g s0_0 t252 t253 12 false t255 t256 w0 _ tS87 (bel HB) A3.out) ?_; rintro w10 ⟨hi, hb, hk⟩; replace HK := kT HK hk; replace HB := aM (hb); replace HI0 := sS87 (hi); clear hb hk hi))
 obtain ⟨KI14, hKq_, hKb_, hIq_, hBq_⟩ := rng_start HB.out t251
 have hKB14 := aM hKb_
 have hKK14 := aM (rng_ge hKq_ HK.out)
 have hKN14 := aM (rng_ne_ hKq_ (IsS87.lt HI0.out))
 have hIq_ := aM hIq_
 have n91_ := sS87 (IsS87.iter HI0.out t251)
 have nK_ := aM (rng_K HK.out t251)
 clear HI0 HK HB
 have HI0 := n91_
 have HK := nK_
 have HB := aM hBq_
 clear n91_ nK_ 
 rw [← hKq_]
 clear hKq_ hKb_ hBq_
 go_loopg [5] k (fun kq v5 w' => ∃ (x5_1 : ByteArray) (x14_1 : Int) (x1001_1 : Int) (x1002_1 : Int), v5 = .string x5_1 ∧ Aside0 (0 ≤ x14_1) ∧ Aside0 (w'.heap[KI14]? = some (.stringIter t251 x14_1.toNat)) ∧ Aside0 (spec_l1Cur_states.l0 kq t251 x5_1 t251 x14_1 s0_0 x1001_1 x1002_1 = some (r1, r2, r3, r4)) ∧ Aside0 (kq ≤ k) ∧ IsC87 w0 w' g s0_0 x1001_1 x1002_1 ∧ Aside0 (KeepBut w w' g none) ∧ Aside0 (Below w0.heap.size w0 w'))
 case atStart => exact ⟨((⟨#[]⟩ : ByteArray)), (0), (t255), (t256), rF, ⟨Int.le_refl 0⟩, ⟨hIq_.out⟩, H', kR, ⟨tS87⟩, kV HK, hV HB⟩
 case round =>
  clear H'
  obtain ⟨x5_1, x14_1, x1001_1, x1002_1, rfl, h0I14, HR14_, HA, HK1, HI0, HK, HB⟩ := hrel
  obtain rfl | ⟨k1, rfl⟩ := fz gk
  ·exact zA HA
  have H := HA.out
  clear HA
  simp only [spec_l1Cur_states.l0] at H
  refine iI H ?_ ?_ <;> clear H <;> intro c11 H
  ·have c11b0 := dT c11
   clear c11
   refine iY H ?_; clear H; intro c12 H
   have c12b0 := dT c12
   clear c12
   refine iY H ?_; clear H; intro c14 H
   have c14b0 := dT c14
   clear c14
   refine iY H ?_; clear H; intro c15 H
   have c15b0 := dT c15
   clear c15
   obtain ⟨y260, Ny260⟩ := yN (([(⟨#[48]⟩ : ByteArray), (⟨#[49]⟩ : ByteArray)] : List ByteArray) : List ByteArray); rw [← Ny260.out] at H
   replace H := bC H; obtain ⟨⟨t263, t264, t265⟩, A16, H⟩ := H; try dsimp only at H
   refine iY H ?_; clear H; intro c17 H
   have c17b0 := eq_true c17
   have c17b1 := dT c17
   try have c17b2 : (9223372036854775807 < x5_1.size + t263.size) = False := eq_false (Nat.not_lt.2 c17)
   have H' := aM H
   clear H
   have p13 : 0 ≤ (x14_1 : Int) := oD
   have q13 : x14_1 < (t251.size : Int) := oD
   have hx13 := bt_at t251 x14_1
   replace p13 := eq_true p13
   replace q13 := eq_true q13
   have hltI_ : x14_1 < (t251.size : Int) := of_decide_eq_true (by assumption)
   have hbtI_ : bt t251 x14_1 < 128 := of_decide_eq_true (by assumption)
   have hwI14 := aM (show wrap64 (x14_1 + 1) = x14_1 + 1 from by have h9_ : x14_1 < 1000000000 := of_decide_eq_true (by assumption); have h8_ := h0I14.out; unfold wrap64; omega)
   obtain ⟨rn_, hnext⟩ := rng_next (P := Tryd.prog) HR14_.out h0I14.out hltI_ hbtI_
   clear hltI_ hbtI_
   have nI_ := aM (rng_at (p' := (x14_1 + 1).toNat) HR14_.out)
   have n91_ := sS87 (IsS87.iterAt HI0.out hKN14.out t251 (x14_1 + 1).toNat)
   have nK_ := aM (rng_Kat (s := t251) (p := (x14_1 + 1).toNat) HK.out hKK14.out)
   have nB_ := aM (rng_below (s := t251) (p := (x14_1 + 1).toNat) HB.out hKB14.out)
   clear HR14_ HI0 HK HB
   have HR14_ := nI_
   have HI0 := n91_
   have HK := nK_
   have HB := nB_
   clear nI_ n91_ nB_ nK_ 
   generalize wr.iterAt KI14 t251 (x14_1 + 1).toNat = wr at hnext HR14_ HI0 HK HB
   go_wp2_with (first | ((with_reducible refine gate_dst (N := 19) rfl ?_); refine Kd.R_lit Kd.string _ 9 ?hg (N := 19) ?hd (xs := ([(⟨#[48]⟩ : ByteArray), (⟨#[49]⟩ : ByteArray)] : List ByteArray)) (inner := [.string (⟨#[48]⟩ : ByteArray), .string (⟨#[49]⟩ : ByteArray)]) (ok := fun _ => True) (okp := fun _ => True) ?hr ?hp (fun _ hk => hk) trivial (Below.refl _ _) (Nat.le_refl _) (by simp) ?_; (case hd => rfl); (case hg => rfl); (case hr => first | (go_simp; done) | (go_simp; rfl)); (case hp => exact (Reps.one (show Kd.M Kd.string _ _ _ (⟨#[48]⟩ : ByteArray) [.string (⟨#[48]⟩ : ByteArray)] from rfl) (Reps.one (show Kd.M Kd.string _ _ _ (⟨#[49]⟩ : ByteArray) [.string (⟨#[49]⟩ : ByteArray)] from rfl) (Reps.none _ _)))); intro v261 w18 ho19 hb hg_ hnew_; clear hg_ hnew_; have nR_ := aM (blk_below (bU HR14_.out) hb); clear HR14_; have HR14_ := nR_; clear nR_; (first | rw [← Ny260.out] at ho19 | (simp only [Int.reduceToNat] at ho19; rw [← Ny260.out] at ho19)); have HO262 := rK ho19 HK; replace HI0 := bS87 g hb; replace HK := kT HK (KeepBut.of_below hb g none); replace HB := hS HB hb; clear hb ho19; obtain ⟨Ao20, co20, eo20⟩ := Kd.R_slice HO262.out; subst eo20) | ((with_reducible refine gG 103 (some 20) rfl rfl ?_); refine gC Tryd.func103 (spec_l1Cur_of.calls g s0_0 x1001_1 x1002_1 _ _ y260 t263 t264 t265 w0 _ tS87 (bel HB) (cU ((Kd.R_reads' HO262.out).2.2)) ((Kd.R_reads' HO262.out).2.1) (far_slice (IsS87.own_ne HI0.out HO262.out (by decide))) A16.out) ?_; rintro w21 ⟨hi, hb, hk⟩; have nR_ := aM (rng_kept (bU HR14_.out) hk hKN14.out); clear HR14_; have HR14_ := nR_; clear nR_; replace HO262 := aM (Kd.R_mono (Kd.R_keep (IsS87.apart (show IsS87 w0 _ g s0_0 x1001_1 x1002_1 from tS87) (rU HO262.out) (by decide)) hk (fun _ h => h.2)) (fun _ h => h.1)); replace HK := kT HK hk; replace HB := aM (hb); replace HI0 := sS87 (hi); clear hb hk hi))
   try clear hnext
   go_roundg k1
   case measure => have := HK1.out; omega
   case rel => exact ⟨(x5_1 ++ t263), (wrap64 (x14_1 + 1)), (t264), (t265), rF, ⟨by rw [hwI14.out]; have h8_ := h0I14.out; omega⟩, ⟨by rw [hwI14.out]; (with_reducible repeat (first | refine blk_drewN ?_ _ | refine blk_drew ?_ | refine blk_alloc ?_ _)); exact HR14_.out⟩, H', ⟨by have := HK1.out; omega⟩, ⟨tS87⟩, kV HK, hV HB⟩
  have c11b0 := dF c11
  clear c11
  simp only [Option.some.injEq, Prod.mk.injEq] at H
  obtain ⟨rfl, rfl, rfl, rfl⟩ := H
  have hnext := rng_end (P := Tryd.prog) HR14_.out h0I14.out (of_decide_eq_false (by assumption) : ¬ x14_1 < (t251.size : Int))
  go_wp2
  try clear hnext
  go_ret2
  exact ⟨eW, tS87, bel HB, kp HK⟩

/-! ### spec_DrawFewestMoves: function 83 -/
def spec_DrawFewestMoves.f (k : Nat) (l0 : List Int) : Option (ByteArray × ByteArray) := (spec_l1Cur_states.f k l0 0 0).bind fun bt267 => (some (bt267.1, bt267.2.1))
instance spec_DrawFewestMoves.mI (k : Nat) : Mo (spec_DrawFewestMoves.f k) (spec_DrawFewestMoves.f (k + 1)) := by
 (repeat refine mE fun _ => ?_); unfold spec_DrawFewestMoves.f; exact mG
theorem spec_DrawFewestMoves.mono : ∀ a0 k, LeO (spec_DrawFewestMoves.f k a0) (spec_DrawFewestMoves.f (k + 1) a0) := fun a0 k => (spec_DrawFewestMoves.mI k).out a0
set_option maxHeartbeats 8000000 in
set_option maxRecDepth 100000 in
theorem spec_DrawFewestMoves.calls (k : Nat) (A0 : Option Addr) (c0 : Nat) (l0 : List Int) (r1 : ByteArray) (r2 : ByteArray) (w : World) (hr0 : Kd.C (Kd.int .u8) w A0 l0.length l0) (hc0 : l0.length ≤ c0) (h : spec_DrawFewestMoves.f k l0 = some (r1, r2)) :
  Calls Tryd.prog 83 #[.slice A0 l0.length c0] w fun e w' => e = .returned (.tuple #[.string r1, .string r2]) ∧ Below w.heap.size w w' := by
 have hu87 := Tryd.underlying87
 have HR0 := aM hr0
 have HC0 := aM hc0
 clear hr0 hc0
 have HB := aM (Below.refl w.heap.size w)
 have H := h
 clear h; unfold spec_DrawFewestMoves.f at H
 replace H := bC H; obtain ⟨⟨t267, t268, t269, t270⟩, A2, H⟩ := H; try dsimp only at H
 simp only [Option.some.injEq, Prod.mk.injEq] at H
 obtain ⟨rfl, rfl⟩ := H
 go_enter Tryd.func83, Tryd.ntmps83
 go_wp2_with (first | ((with_reducible refine gate_dst (N := 7) rfl ?_); refine box_event ?hg (N := 7) ?hd (cs := #[.slice A0 l0.length c0, .int .i64 0, .int .u64 0]) (t := 87) ?hr ?_; (case hd => rfl); (case hg => rfl); (case hr => first | (go_simp; done) | (go_simp; rfl)); intro gb266 hg w3 hbox hb; have HI266 := sS87 ((show IsS87 w w3 gb266 l0 0 0 from ⟨_, _, hbox, (by rw [hg]; exact (below_size (bel HB)) : w.heap.size ≤ gb266), HR0.out⟩)); have GI_HI266 := IsS87.geI HI266; replace HB := hS HB hb; clear hb hbox hg) | ((with_reducible refine gG 102 (some 9) rfl rfl ?_); refine gC Tryd.func102 (spec_l1Cur_states.calls k gb266 l0 0 0 t267 t268 t269 t270 w _ tS87 (bel HB) A2.out) ?_; rintro w4 ⟨hi, hb, hk⟩; replace HB := aM (hb); replace HI266 := sS87 (hi); clear hb hk hi))
 go_ret2
 exact ⟨eW, bel HB⟩

/-! ### spec_DrawMeanOnAlong: function 26 -/
def spec_DrawMeanOnAlong.f (k : Nat) (l0 : List Int) : Option (ByteArray × ByteArray) := (spec_DrawFewestMoves.f k l0).bind fun bt271 => (some (bt271.1, bt271.2))
instance spec_DrawMeanOnAlong.mI (k : Nat) : Mo (spec_DrawMeanOnAlong.f k) (spec_DrawMeanOnAlong.f (k + 1)) := by
 (repeat refine mE fun _ => ?_); unfold spec_DrawMeanOnAlong.f; exact mG
theorem spec_DrawMeanOnAlong.mono : ∀ a0 k, LeO (spec_DrawMeanOnAlong.f k a0) (spec_DrawMeanOnAlong.f (k + 1) a0) := fun a0 k => (spec_DrawMeanOnAlong.mI k).out a0
set_option maxHeartbeats 8000000 in
set_option maxRecDepth 100000 in
theorem spec_DrawMeanOnAlong.calls (k : Nat) (A0 : Option Addr) (c0 : Nat) (l0 : List Int) (r1 : ByteArray) (r2 : ByteArray) (w : World) (hr0 : Kd.C (Kd.int .u8) w A0 l0.length l0) (hc0 : l0.length ≤ c0) (h : spec_DrawMeanOnAlong.f k l0 = some (r1, r2)) :
  Calls Tryd.prog 26 #[.slice A0 l0.length c0] w fun e w' => e = .returned (.tuple #[.string r1, .string r2]) ∧ Below w.heap.size w w' := by
 have HR0 := aM hr0
 have HC0 := aM hc0
 clear hr0 hc0
 have HB := aM (Below.refl w.heap.size w)
 have H := h
 clear h; unfold spec_DrawMeanOnAlong.f at H
 replace H := bC H; obtain ⟨⟨t271, t272⟩, A2, H⟩ := H; try dsimp only at H
 simp only [Option.some.injEq, Prod.mk.injEq] at H
 obtain ⟨rfl, rfl⟩ := H
 go_enter Tryd.func26, Tryd.ntmps26
 go_wp2_with (first | ((with_reducible refine gG 83 (some 5) rfl rfl ?_); refine gC Tryd.func83 (spec_DrawFewestMoves.calls k _ _ l0 t271 t272 _ (cU HR0.out) HC0.out A2.out) ?_; rintro w3 hb; replace HB := hS HB hb; clear hb))
 go_ret2
 exact ⟨eW, bel HB⟩

/-! ### impl_alike: function 84 -/
def impl_alike.f (a0 : ByteArray) (a1 : ByteArray) : Option (Bool) := (impl_IsState.f a0).bind fun t273 => (if t273 = true then ((impl_IsState.f a1).bind fun t274 => (if t274 = true then (some ((a0.size : Int) == (a1.size : Int))) else (some false))) else (some false))
set_option maxHeartbeats 8000000 in
set_option maxRecDepth 100000 in
theorem impl_alike.calls (a0 : ByteArray) (a1 : ByteArray) (r : Bool) (w : World) (h : impl_alike.f a0 a1 = some r) :
  Calls Tryd.prog 84 #[.string a0, .string a1] w fun e w' => e = .returned (.bool r) ∧ Below w.heap.size w w' := by
 have HB := aM (Below.refl w.heap.size w)
 have H := h
 clear h; unfold impl_alike.f at H
 replace H := bC H; obtain ⟨t273, A3, H⟩ := H
 refine iB H ?_ ?_ <;> clear H <;> rintro rfl H
 ·replace H := bC H; obtain ⟨t274, A5, H⟩ := H
  refine iB H ?_ ?_ <;> clear H <;> rintro rfl H
  ·obtain rfl := Option.some.inj H
   go_enter Tryd.func84, Tryd.ntmps84
   go_wp2_with (first | ((with_reducible refine gG 76 (some 6) rfl rfl ?_); refine gC Tryd.func76 (impl_IsState.calls a0 true _ A3.out) ?_; rintro w7 hb; replace HB := hS HB hb; clear hb) | (go_at_call 76; (with_reducible refine (impl_IsState.calls a1 true _ A5.out).mono ?_); rintro e w8 ⟨rfl, hb⟩; replace HB := hS HB hb; clear hb))
   go_ret
   exact ⟨eW, bel HB⟩
  obtain rfl := Option.some.inj H
  go_enter Tryd.func84, Tryd.ntmps84
  go_wp2_with (first | ((with_reducible refine gG 76 (some 6) rfl rfl ?_); refine gC Tryd.func76 (impl_IsState.calls a0 true _ A3.out) ?_; rintro w9 hb; replace HB := hS HB hb; clear hb) | (go_at_call 76; (with_reducible refine (impl_IsState.calls a1 false _ A5.out).mono ?_); rintro e w10 ⟨rfl, hb⟩; replace HB := hS HB hb; clear hb))
  go_ret
  exact ⟨eW, bel HB⟩
 obtain rfl := Option.some.inj H
 go_enter Tryd.func84, Tryd.ntmps84
 go_wp2_with (first | ((with_reducible refine gG 76 (some 6) rfl rfl ?_); refine gC Tryd.func76 (impl_IsState.calls a0 false _ A3.out) ?_; rintro w11 hb; replace HB := hS HB hb; clear hb))
 go_ret
 exact ⟨eW, bel HB⟩

/-! ### impl_isWalk: function 85 -/
def impl_isWalk.f (a0 : ByteArray) : Option (Bool) := (impl_IsState.f a0).bind fun t275 => (if t275 = true then (some (decide ((a0.size : Int) ≤ 12))) else (some false))
set_option maxHeartbeats 8000000 in
set_option maxRecDepth 100000 in
theorem impl_isWalk.calls (a0 : ByteArray) (r : Bool) (w : World) (h : impl_isWalk.f a0 = some r) :
  Calls Tryd.prog 85 #[.string a0] w fun e w' => e = .returned (.bool r) ∧ Below w.heap.size w w' := by
 have HB := aM (Below.refl w.heap.size w)
 have H := h
 clear h; unfold impl_isWalk.f at H
 replace H := bC H; obtain ⟨t275, A2, H⟩ := H
 refine iB H ?_ ?_ <;> clear H <;> rintro rfl H
 ·obtain rfl := Option.some.inj H
  go_enter Tryd.func85, Tryd.ntmps85
  go_wp2_with (first | ((with_reducible refine gG 76 (some 4) rfl rfl ?_); refine gC Tryd.func76 (impl_IsState.calls a0 true _ A2.out) ?_; rintro w4 hb; replace HB := hS HB hb; clear hb))
  go_ret
  exact ⟨eW, bel HB⟩
 obtain rfl := Option.some.inj H
 go_enter Tryd.func85, Tryd.ntmps85
 go_wp2_with (first | ((with_reducible refine gG 76 (some 4) rfl rfl ?_); refine gC Tryd.func76 (impl_IsState.calls a0 false _ A2.out) ?_; rintro w5 hb; replace HB := hS HB hb; clear hb))
 go_ret
 exact ⟨eW, bel HB⟩

/-! ### impl_MeanOnAlong: function 27 -/
mutual
def impl_MeanOnAlong.j0 : Nat → ByteArray → ByteArray → Bool → Option (Int × Int × Bool)
 | 0, _, _, _ => none
 | k + 1, x0, x1, x23 => if x23 = true then (some (0, 0, false)) else ((impl_number.f k x0).bind fun t278 => ((impl_number.f k x1).bind fun t279 => ((impl_number.f k x0).bind fun t280 => ((impl_number.f k x1).bind fun t281 => (impl_MeanOnAlong.l0 k x0 (mn t278 t279) (mx t280 t281) 0 (mn t278 t279))))))
def impl_MeanOnAlong.l0 : Nat → ByteArray → Int → Int → Int → Int → Option (Int × Int × Bool)
 | 0, _, _, _, _, _ => none
 | k + 1, x0, x7, x8, x9, x10 => if x10 ≤ x8 then ((impl_state.f k (x0.size : Int) x10).bind fun t282 => ((impl_CountOn.f t282).bind fun bt283 => (impl_MeanOnAlong.l0 k x0 x7 x8 (wrap64 (x9 + bt283.1)) (wrap64 (x10 + 1))))) else ((impl_lowest.f k x9 (wrap64 ((wrap64 (x8 - x7)) + 1))).bind fun bt285 => (some (bt285.1, bt285.2, true)))
end
def impl_MeanOnAlong.f (k : Nat) (a0 : ByteArray) (a1 : ByteArray) : Option (Int × Int × Bool) := (impl_alike.f a0 a1).bind fun t276 => (if t276 = true then ((impl_isWalk.f a0).bind fun t277 => (impl_MeanOnAlong.j0 k a0 a1 (!t277))) else (impl_MeanOnAlong.j0 k a0 a1 true))
theorem impl_MeanOnAlong.mono_l : ∀ k, Mo (impl_MeanOnAlong.j0 k) (impl_MeanOnAlong.j0 (k + 1)) ∧ Mo (impl_MeanOnAlong.l0 k) (impl_MeanOnAlong.l0 (k + 1))
 | 0 => m0
 | k + 1 => by
  have ⟨ih0, ih1⟩ := impl_MeanOnAlong.mono_l k
  refine ⟨?_, ?_⟩ <;> (repeat refine mE fun _ => ?_) <;> first | (unfold impl_MeanOnAlong.j0; exact mG) | (unfold impl_MeanOnAlong.l0; exact mG)
instance impl_MeanOnAlong.mI (k : Nat) : Mo (impl_MeanOnAlong.f k) (impl_MeanOnAlong.f (k + 1)) := by
 have ⟨ih0, ih1⟩ := impl_MeanOnAlong.mono_l k
 (repeat refine mE fun _ => ?_); unfold impl_MeanOnAlong.f; exact mG
theorem impl_MeanOnAlong.mono : ∀ a0 a1 k, LeO (impl_MeanOnAlong.f k a0 a1) (impl_MeanOnAlong.f (k + 1) a0 a1) := fun a0 a1 k => (impl_MeanOnAlong.mI k).out a0 a1
set_option maxHeartbeats 8000000 in
set_option maxRecDepth 100000 in
theorem impl_MeanOnAlong.calls (k : Nat) (a0 : ByteArray) (a1 : ByteArray) (r1 : Int) (r2 : Int) (r3 : Bool) (w : World) (h : impl_MeanOnAlong.f k a0 a1 = some (r1, r2, r3)) :
  Calls Tryd.prog 27 #[.string a0, .string a1] w fun e w' => e = .returned (.tuple #[.int .i64 r1, .int .i64 r2, .bool r3]) ∧ Below w.heap.size w w' := by
 have HB := aM (Below.refl w.heap.size w)
 have H := h
 clear h; unfold impl_MeanOnAlong.f at H
 have HC3 := aM H
 clear H
 go_enter Tryd.func27, Tryd.ntmps27
 go_upto_region 1 with (fail)
 go_cut [23] (fun v23 wc => ∃ (kq : Nat) (x23_2 : Bool), v23 = .bool x23_2 ∧ Aside0 (impl_MeanOnAlong.j0 kq a0 a1 x23_2 = some (r1, r2, r3)) ∧ Aside0 (kq ≤ k) ∧ Aside0 (Below w.heap.size w wc))
 case first =>
  have H := HC3.out
  clear HC3
  replace H := bC H; obtain ⟨t276, A4, H⟩ := H
  refine iB H ?_ ?_ <;> clear H <;> rintro rfl H
  ·replace H := bC H; obtain ⟨t277, A6, H⟩ := H
   have H' := aM H
   clear H
   go_wp2_with (first | ((with_reducible refine gG 84 (some 17) rfl rfl ?_); refine gC Tryd.func84 (impl_alike.calls a0 a1 true _ A4.out) ?_; rintro w7 hb; replace HB := hS HB hb; clear hb) | (go_at_call 85; (with_reducible refine (impl_isWalk.calls a0 t277 _ A6.out).mono ?_); rintro e w8 ⟨rfl, hb⟩; replace HB := hS HB hb; clear hb))
   go_meet
   case rel => exact ⟨_, (!t277), rF, H', kL, hV HB⟩
  have H' := aM H
  clear H
  go_wp2_with (first | ((with_reducible refine gG 84 (some 17) rfl rfl ?_); refine gC Tryd.func84 (impl_alike.calls a0 a1 false _ A4.out) ?_; rintro w9 hb; replace HB := hS HB hb; clear hb))
  go_meet
  case rel => exact ⟨_, (true), rF, H', kL, hV HB⟩
 case rest =>
  clear HC3
  obtain ⟨kq, x23_2, rfl, HA, HJ2, HB⟩ := hcut
  obtain rfl | ⟨kj2, rfl⟩ := fz kq
  ·exact zA HA
  have H := HA.out
  clear HA
  simp only [impl_MeanOnAlong.j0] at H
  refine iB H ?_ ?_ <;> clear H <;> rintro rfl H
  ·simp only [Option.some.injEq, Prod.mk.injEq] at H
   obtain ⟨rfl, rfl, rfl⟩ := H
   go_wp2
   go_ret3
   exact ⟨eW, bel HB⟩
  replace H := bC H; obtain ⟨t278, A11, H⟩ := H
  replace H := bC H; obtain ⟨t279, A12, H⟩ := H
  obtain ⟨ji13, hji13⟩ := jN (mn t278 t279)
  first | rw [hji13] at H | simp only [hji13] at H
  (try rw [hji13] at A11)
  (try rw [hji13] at A12)
  have hji13_ : (if t279 < t278 then t279 else t278) = ji13 := hji13
  replace H := bC H; obtain ⟨t280, A14, H⟩ := H
  replace H := bC H; obtain ⟨t281, A15, H⟩ := H
  obtain ⟨ji16, hji16⟩ := jN (mx t280 t281)
  first | rw [hji16] at H | simp only [hji16] at H
  (try rw [hji16] at A11)
  (try rw [hji16] at A12)
  (try rw [hji16] at A14)
  (try rw [hji16] at A15)
  have hji16_ : (if t280 < t281 then t281 else t280) = ji16 := hji16
  have H' := aM H
  clear H
  go_wp2_with (first | ((with_reducible refine gG 75 (some 25) rfl rfl ?_); refine gL Tryd.func75 #[.string a0] ?_; (with_reducible refine (impl_number.calls kj2 a0 t278 _ A11.out).mono ?_); rintro e w' ⟨rfl, ⟨nd, rfl⟩⟩; refine ⟨_, rfl, ?_⟩) | ((with_reducible refine gG 75 (some 27) rfl rfl ?_); refine gL Tryd.func75 #[.string a1] ?_; (with_reducible refine (impl_number.calls kj2 a1 t279 _ A12.out).mono ?_); rintro e w' ⟨rfl, ⟨nd, rfl⟩⟩; refine ⟨_, rfl, ?_⟩) | ((with_reducible refine gG 75 (some 30) rfl rfl ?_); refine gL Tryd.func75 #[.string a0] ?_; (with_reducible refine (impl_number.calls kj2 a0 t280 _ A14.out).mono ?_); rintro e w' ⟨rfl, ⟨nd, rfl⟩⟩; refine ⟨_, rfl, ?_⟩) | ((with_reducible refine gG 75 (some 32) rfl rfl ?_); refine gL Tryd.func75 #[.string a1] ?_; (with_reducible refine (impl_number.calls kj2 a1 t281 _ A15.out).mono ?_); rintro e w' ⟨rfl, ⟨nd, rfl⟩⟩; refine ⟨_, rfl, ?_⟩))
  go_loopg [9, 10] kj2 (fun kq v9 v10 w' => ∃ (x9_2 : Int) (x10_2 : Int), v9 = .int .i64 x9_2 ∧ v10 = .int .i64 x10_2 ∧ Aside0 (impl_MeanOnAlong.l0 kq a0 ji13 ji16 x9_2 x10_2 = some (r1, r2, r3)) ∧ Aside0 (kq ≤ kj2) ∧ Aside0 (Below w.heap.size w w'))
  case atStart => exact ⟨(0), (ji13), rF, (by first | rfl | (simp; done) | (simp only [← hji13] <;> (first | rfl | simp)) | (simp [*]; done)), H', kR, hV HB⟩
  case round =>
   clear H'
   obtain ⟨x9_2, x10_2, rfl, rfl, HA, HK2, HB⟩ := hrel
   obtain rfl | ⟨k2, rfl⟩ := fz gk
   ·exact zA HA
   have H := HA.out
   clear HA
   simp only [impl_MeanOnAlong.l0] at H
   refine iI H ?_ ?_ <;> clear H <;> intro c17 H
   ·have c17b0 := dT c17
    clear c17
    replace H := bC H; obtain ⟨t282, A18, H⟩ := H
    replace H := bC H; obtain ⟨⟨t283, t284⟩, A19, H⟩ := H; try dsimp only at H
    have H' := aM H
    clear H
    go_wp2_with (first | ((with_reducible refine gG 86 (some 44) rfl rfl ?_); refine gC Tryd.func86 (impl_state.calls k2 (a0.size : Int) x10_2 t282 _ A18.out) ?_; rintro w20 hb; replace HB := hS HB hb; clear hb) | ((with_reducible refine gG 20 (some 45) rfl rfl ?_); refine gC Tryd.func20 (impl_CountOn.calls t282 t283 t284 _ A19.out) ?_; rintro w21 hb; replace HB := hS HB hb; clear hb))
    go_roundg k2
    case measure => have := HJ2.out; have := HK2.out; omega
    case rel => exact ⟨(wrap64 (x9_2 + t283)), (wrap64 (x10_2 + 1)), rF, rF, H', ⟨by have := HJ2.out; have := HK2.out; omega⟩, hV HB⟩
   have c17b0 := dF c17
   clear c17
   replace H := bC H; obtain ⟨⟨t285, t286⟩, A22, H⟩ := H; try dsimp only at H
   simp only [Option.some.injEq, Prod.mk.injEq] at H
   obtain ⟨rfl, rfl, rfl⟩ := H
   go_wp2_with (first | ((with_reducible refine gG 80 (some 57) rfl rfl ?_); refine gL Tryd.func80 #[.int .i64 x9_2, .int .i64 (wrap64 ((wrap64 (ji16 - ji13)) + 1))] ?_ (hargs := by (try simp only [List.map_toArray, List.map_cons, List.map_nil]); first | done | (simp only [hji13, hji16]; rfl) | rfl | (simp only [List.length_drop, List.length_take]; rfl)); (with_reducible refine (impl_lowest.calls k2 x9_2 (wrap64 ((wrap64 (ji16 - ji13)) + 1)) t285 t286 _ A22.out).mono ?_); rintro e w' ⟨rfl, ⟨nd, rfl⟩⟩; refine ⟨_, rfl, ?_⟩))
   go_ret3
   exact ⟨by first | rfl | (simp [errW_none, errW_some] <;> rfl) | (simp only [← hji13, ← hji16]; first | rfl | (simp [errW_none, errW_some] <;> rfl)) | (simp [*, errW_none, errW_some] <;> rfl), bel HB⟩

/-! ### spec_riGood: function 97 -/
def spec_riGood.l0 : Nat → ByteArray → Int → Option (Bool)
 | 0, _, _ => none
 | k + 1, x0, x3 => if x3 < (x0.size : Int) then (if 0 ≤ x3 then (if (bt x0 x3) = 48 then (spec_riGood.l0 k x0 (wrap64 (x3 + 1))) else (if (bt x0 x3) = 49 then (spec_riGood.l0 k x0 (wrap64 (x3 + 1))) else (some false))) else (none)) else (some true)
def spec_riGood.f (k : Nat) (a0 : ByteArray) : Option (Bool) := (spec_l1In.f (a0.size : Int) 1 20).bind fun t287 => (if t287 = true then (spec_riGood.l0 k a0 0) else (some false))
theorem spec_riGood.mono_l : ∀ k, Mo (spec_riGood.l0 k) (spec_riGood.l0 (k + 1))
 | 0 => m0
 | k + 1 => by
  have ih0 := spec_riGood.mono_l k
  (repeat refine mE fun _ => ?_) <;> first | (unfold spec_riGood.l0; exact mG)
instance spec_riGood.mI (k : Nat) : Mo (spec_riGood.f k) (spec_riGood.f (k + 1)) := by
 have ih0 := spec_riGood.mono_l k
 (repeat refine mE fun _ => ?_); unfold spec_riGood.f; exact mG
theorem spec_riGood.mono : ∀ a0 k, LeO (spec_riGood.f k a0) (spec_riGood.f (k + 1) a0) := fun a0 k => (spec_riGood.mI k).out a0
set_option maxHeartbeats 8000000 in
set_option maxRecDepth 100000 in
theorem spec_riGood.calls (k : Nat) (a0 : ByteArray) (r : Bool) (w : World) (h : spec_riGood.f k a0 = some r) :
  Calls Tryd.prog 97 #[.string a0] w fun e w' => e = .returned (.bool r) ∧ Drawn0 w w' := by
 have H := h
 clear h; unfold spec_riGood.f at H
 replace H := bC H; obtain ⟨t287, A2, H⟩ := H
 refine iB H ?_ ?_ <;> clear H <;> rintro rfl H
 ·have H' := aM H
  clear H
  go_enter Tryd.func97, Tryd.ntmps97
  go_wp2_with (first | ((with_reducible refine gG 115 (some 6) rfl rfl ?_); refine gL Tryd.func115 #[.int .i64 (a0.size : Int), .int .i64 1, .int .i64 20] ?_; (with_reducible refine (spec_l1In.calls (a0.size : Int) 1 20 true _ A2.out).mono ?_); rintro e w' ⟨rfl, ⟨nd, rfl⟩⟩; refine ⟨_, rfl, ?_⟩))
  go_loopg [3] k (fun kq v3 w' => ∃ (x3_1 : Int), v3 = .int .i64 x3_1 ∧ Aside0 (spec_riGood.l0 kq a0 x3_1 = some r) ∧ Aside0 (kq ≤ k) ∧ Drawn0 w w')
  case atStart => exact ⟨(0), rF, H', kR, d0⟩
  case round =>
   clear H'
   obtain ⟨x3_1, rfl, HA, HK1, ⟨m1, rfl⟩⟩ := hrel
   obtain rfl | ⟨k1, rfl⟩ := fz gk
   ·exact zA HA
   have H := HA.out
   clear HA
   simp only [spec_riGood.l0] at H
   refine iI H ?_ ?_ <;> clear H <;> intro c4 H
   ·have c4b0 := dT c4
    clear c4
    refine iY H ?_; clear H; intro c5 H
    have c5b0 := dT c5
    clear c5
    refine iI H ?_ ?_ <;> clear H <;> intro c7 H
    ·have c7b0 := qT c7
     have c7b1 := nF c7
     clear c7
     have H' := aM H
     clear H
     have p6 : 0 ≤ (x3_1 : Int) := oD
     have q6 : x3_1 < (a0.size : Int) := oD
     have hx6 := bt_at a0 x3_1
     replace p6 := eq_true p6
     replace q6 := eq_true q6
     go_wp2
     go_roundg k1
     case measure => have := HK1.out; omega
     case rel => exact ⟨(wrap64 (x3_1 + 1)), rF, H', ⟨by have := HK1.out; omega⟩, d0⟩
    have c7b0 := qF c7
    have c7b1 := nT c7
    refine iI H ?_ ?_ <;> clear H <;> intro c9 H
    ·have c9b0 := qT c9
     have c9b1 := nF c9
     clear c9
     have H' := aM H
     clear H
     have p6 : 0 ≤ (x3_1 : Int) := oD
     have q6 : x3_1 < (a0.size : Int) := oD
     have hx6 := bt_at a0 x3_1
     replace p6 := eq_true p6
     replace q6 := eq_true q6
     have p8 : 0 ≤ (x3_1 : Int) := oD
     have q8 : x3_1 < (a0.size : Int) := oD
     have hx8 := bt_at a0 x3_1
     replace p8 := eq_true p8
     replace q8 := eq_true q8
     go_wp2
     go_roundg k1
     case measure => have := HK1.out; omega
     case rel => exact ⟨(wrap64 (x3_1 + 1)), rF, H', ⟨by have := HK1.out; omega⟩, d0⟩
    have c9b0 := qF c9
    have c9b1 := nT c9
    obtain rfl := Option.some.inj H
    have p6 : 0 ≤ (x3_1 : Int) := oD
    have q6 : x3_1 < (a0.size : Int) := oD
    have hx6 := bt_at a0 x3_1
    replace p6 := eq_true p6
    replace q6 := eq_true q6
    have p8 : 0 ≤ (x3_1 : Int) := oD
    have q8 : x3_1 < (a0.size : Int) := oD
    have hx8 := bt_at a0 x3_1
    replace p8 := eq_true p8
    replace q8 := eq_true q8
    go_wp2
    go_ret
    exact ⟨rF, d0⟩
   have c4b0 := dF c4
   clear c4
   obtain rfl := Option.some.inj H
   go_wp2
   go_ret
   exact ⟨rF, d0⟩
 obtain rfl := Option.some.inj H
 go_enter Tryd.func97, Tryd.ntmps97
 go_wp2_with (first | ((with_reducible refine gG 115 (some 6) rfl rfl ?_); refine gL Tryd.func115 #[.int .i64 (a0.size : Int), .int .i64 1, .int .i64 20] ?_; (with_reducible refine (spec_l1In.calls (a0.size : Int) 1 20 false _ A2.out).mono ?_); rintro e w' ⟨rfl, ⟨nd, rfl⟩⟩; refine ⟨_, rfl, ?_⟩))
 go_ret
 exact ⟨rF, d0⟩

/-! ### spec_riTwo: function 87 -/
def spec_riTwo.f (k : Nat) (a0 : ByteArray) (a1 : ByteArray) : Option (Bool) := (spec_riGood.f k a0).bind fun t288 => (if t288 = true then ((spec_riGood.f k a1).bind fun t289 => (if t289 = true then (some ((a0.size : Int) == (a1.size : Int))) else (some false))) else (some false))
instance spec_riTwo.mI (k : Nat) : Mo (spec_riTwo.f k) (spec_riTwo.f (k + 1)) := by
 (repeat refine mE fun _ => ?_); unfold spec_riTwo.f; exact mG
theorem spec_riTwo.mono : ∀ a0 a1 k, LeO (spec_riTwo.f k a0 a1) (spec_riTwo.f (k + 1) a0 a1) := fun a0 a1 k => (spec_riTwo.mI k).out a0 a1
set_option maxHeartbeats 8000000 in
set_option maxRecDepth 100000 in
theorem spec_riTwo.calls (k : Nat) (a0 : ByteArray) (a1 : ByteArray) (r : Bool) (w : World) (h : spec_riTwo.f k a0 a1 = some r) :
  Calls Tryd.prog 87 #[.string a0, .string a1] w fun e w' => e = .returned (.bool r) ∧ Drawn0 w w' := by
 have H := h
 clear h; unfold spec_riTwo.f at H
 replace H := bC H; obtain ⟨t288, A3, H⟩ := H
 refine iB H ?_ ?_ <;> clear H <;> rintro rfl H
 ·replace H := bC H; obtain ⟨t289, A5, H⟩ := H
  refine iB H ?_ ?_ <;> clear H <;> rintro rfl H
  ·obtain rfl := Option.some.inj H
   go_enter Tryd.func87, Tryd.ntmps87
   go_wp2_with (first | ((with_reducible refine gG 97 (some 6) rfl rfl ?_); refine gL Tryd.func97 #[.string a0] ?_; (with_reducible refine (spec_riGood.calls k a0 true _ A3.out).mono ?_); rintro e w' ⟨rfl, ⟨nd, rfl⟩⟩; refine ⟨_, rfl, ?_⟩) | (go_at_call 97; (with_reducible refine (spec_riGood.calls k a1 true _ A5.out).mono ?_); rintro e w' ⟨rfl, ⟨nd, rfl⟩⟩))
   go_ret
   exact ⟨rF, d0⟩
  obtain rfl := Option.some.inj H
  go_enter Tryd.func87, Tryd.ntmps87
  go_wp2_with (first | ((with_reducible refine gG 97 (some 6) rfl rfl ?_); refine gL Tryd.func97 #[.string a0] ?_; (with_reducible refine (spec_riGood.calls k a0 true _ A3.out).mono ?_); rintro e w' ⟨rfl, ⟨nd, rfl⟩⟩; refine ⟨_, rfl, ?_⟩) | (go_at_call 97; (with_reducible refine (spec_riGood.calls k a1 false _ A5.out).mono ?_); rintro e w' ⟨rfl, ⟨nd, rfl⟩⟩))
  go_ret
  exact ⟨rF, d0⟩
 obtain rfl := Option.some.inj H
 go_enter Tryd.func87, Tryd.ntmps87
 go_wp2_with (first | ((with_reducible refine gG 97 (some 6) rfl rfl ?_); refine gL Tryd.func97 #[.string a0] ?_; (with_reducible refine (spec_riGood.calls k a0 false _ A3.out).mono ?_); rintro e w' ⟨rfl, ⟨nd, rfl⟩⟩; refine ⟨_, rfl, ?_⟩))
 go_ret
 exact ⟨rF, d0⟩

end Go.Proofs.YtcogjabdddikjaaDoor.PSCnt
