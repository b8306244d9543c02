-- squeezed (sq3.py); PRINTED by drive.py (a program of this session's, over the kit's print.py; wip/tools/drive.py). Lean checks it.
import Derived.Test.YtiiahdjjngdgoaaDoorQPLTickx0
import Derived.Test.YtiiahdjjngdgoaaDoorQPLTickx1
import Derived.Test.YtiiahdjjngdgoaaDoorQPLTickx3
import Derived.Test.YtiiahdjjngdgoaaDoorQSq
namespace Go.Proofs.YtiiahdjjngdgoaaDoor.PLTick
open Go.RowKit Go.Proofs.YtiiahdjjngdgoaaDoorW.PrintWords Go.Proofs.YtiiahdjjngdgoaaDoorW.PrintLast Go.Proofs.YtiiahdjjngdgoaaDoorW.PrintMore
attribute [local go_sem] max2_int min2_int max_two min_two max_three min_three max_four min_four   -- for this text's walks alone
set_option linter.unusedVariables false
set_option linter.unusedSimpArgs false

/-! ### spec_l1Cur_lit: function 69 -/
mutual
def spec_l1Cur_lit.j1 : Nat → ByteArray → List Int → Int → Int → Option (ByteArray × Int × Int)
 | 0, _, _, _, _ => none
 | k + 1, x5, x1000, x1001, x1002 => (spec_l1Cur_one.f x1000 x1001 x1002 14).bind fun bt208 => (if bt208.1 = true then ((spec_l1Cur_of.f x1000 bt208.2.1 bt208.2.2 (([(⟨#[48]⟩ : ByteArray), (⟨#[120]⟩ : ByteArray)] : List ByteArray))).bind fun bt214 => (if x5.size + bt214.1.size ≤ 9223372036854775807 then (some (x5 ++ bt214.1, bt214.2.1, bt214.2.2)) else (none))) else (some (x5, bt208.2.1, bt208.2.2)))
def spec_l1Cur_lit.l0 : Nat → ByteArray → Int → List Int → Int → Int → List ByteArray → Option (ByteArray × Int × Int)
 | 0, _, _, _, _, _, _ => none
 | k + 1, x5, x6, x1000, x1001, x1002, x202000 => if x6 < (x202000.length : Int) then (if x6 < 12 then ((spec_l1Cur_of.f x1000 x1001 x1002 (([(⟨#[48]⟩ : ByteArray), (⟨#[49]⟩ : ByteArray)] : List ByteArray))).bind fun bt205 => (if x5.size + bt205.1.size ≤ 9223372036854775807 then (spec_l1Cur_lit.l0 k (x5 ++ bt205.1) (wrap64 (x6 + 1)) x1000 bt205.2.1 bt205.2.2 x202000) else (none))) else (spec_l1Cur_lit.j1 k x5 x1000 x1001 x1002)) else (spec_l1Cur_lit.j1 k x5 x1000 x1001 x1002)
end
def spec_l1Cur_lit.f (k : Nat) (s0_0 : List Int) (s0_1 : Int) (s0_2 : Int) (l1_0 : List ByteArray) : Option (ByteArray × Int × Int) := spec_l1Cur_lit.l0 k (⟨#[]⟩ : ByteArray) 0 s0_0 s0_1 s0_2 l1_0
theorem spec_l1Cur_lit.mono_l : ∀ k, Mo (spec_l1Cur_lit.j1 k) (spec_l1Cur_lit.j1 (k + 1)) ∧ Mo (spec_l1Cur_lit.l0 k) (spec_l1Cur_lit.l0 (k + 1))
 | 0 => m0
 | k + 1 => by
  have ⟨ih0, ih1⟩ := spec_l1Cur_lit.mono_l k
  refine ⟨?_, ?_⟩ <;> (repeat refine mE fun _ => ?_) <;> first | (unfold spec_l1Cur_lit.j1; exact mG) | (unfold spec_l1Cur_lit.l0; exact mG)
instance spec_l1Cur_lit.mI (k : Nat) : Mo (spec_l1Cur_lit.f k) (spec_l1Cur_lit.f (k + 1)) := by
 have ⟨ih0, ih1⟩ := spec_l1Cur_lit.mono_l k
 (repeat refine mE fun _ => ?_); unfold spec_l1Cur_lit.f; exact mG
theorem spec_l1Cur_lit.mono : ∀ a0 a1 a2 a3 k, LeO (spec_l1Cur_lit.f k a0 a1 a2 a3) (spec_l1Cur_lit.f (k + 1) a0 a1 a2 a3) := fun a0 a1 a2 a3 k => (spec_l1Cur_lit.mI k).out a0 a1 a2 a3
set_option maxHeartbeats 8000000 in
set_option maxRecDepth 100000 in
theorem spec_l1Cur_lit.calls (k : Nat) (g : Nat) (s0_0 : List Int) (s0_1 : Int) (s0_2 : Int) (A1_0 : Option Addr) (c1_0 : Nat) (l1_0 : List ByteArray) (r1 : ByteArray) (r2 : Int) (r3 : Int) (w0 w : World) (hI : IsS73 w0 w g s0_0 s0_1 s0_2) (hB : Below w0.heap.size w0 w) (hr1_0 : Kd.C Kd.string w A1_0 l1_0.length l1_0) (hc1_0 : l1_0.length ≤ c1_0) (hf1_0 : ∀ ad, A1_0 = some ad → 0 < l1_0.length → ad.block ≠ g) (h : spec_l1Cur_lit.f k s0_0 s0_1 s0_2 l1_0 = some (r1, r2, r3)) :
  Calls Tryd.prog 69 #[.pointer (some ⟨g, 0, none⟩), .agg #[.slice A1_0 l1_0.length c1_0]] w fun e w' => e = .returned (.string r1) ∧ IsS73 w0 w' g s0_0 r2 r3 ∧ Below w0.heap.size w0 w' ∧ KeepBut w w' g none := by
 have hu26 := Tryd.underlying26
 have HR1_0 := aM hr1_0
 have HC1_0 := aM hc1_0
 clear hr1_0 hc1_0
 have HI0 := sS73 hI
 have GI_HI0 := IsS73.geI HI0
 have HK := aM (KeepBut.refl w g none)
 have HL := aM hB.size
 clear hI
 have HW0 := aM hB.size
 have HB := aM hB
 clear hB
 have H := h
 clear h; unfold spec_l1Cur_lit.f at H
 have HC3 := aM H
 clear H
 go_enter Tryd.func69, Tryd.ntmps69
 go_upto_block 0 with (first | (refine bX (N := 3) rfl (cs := #[.slice A1_0 l1_0.length c1_0]) (t := 26) ?_; intro gb201 hg w4 BK201 hb; have GW201 := gK hg HK; have GE201 := gW HW0 (gK hg HK); have NB0_201 := (nbI hg : Ap g gb201); have NB201_0 := (nbJ hg : Ap gb201 g); replace HI0 := bS73 g hb; replace HK := kT HK (KeepBut.of_below hb g none); replace HB := hS HB hb; clear hb hg))
 (try simp only [Act.put, List.setIfInBounds_toArray, List.set_cons_zero, List.set_cons_succ])
 go_cut [5] (fun v5 wc => ∃ (kq : Nat) (x5_2 : ByteArray) (x1001_2 : Int) (x1002_2 : Int), v5 = .string x5_2 ∧ Aside0 (spec_l1Cur_lit.j1 kq x5_2 s0_0 x1001_2 x1002_2 = some (r1, r2, r3)) ∧ Aside0 (kq ≤ k) ∧ Aside0 (wc.heap[gb201]? = some (.cells #[(.slice A1_0 l1_0.length c1_0)] 26 (0, 0))) ∧ IsC73 w0 wc g s0_0 x1001_2 x1002_2 ∧ Aside0 (KeepBut w wc g none) ∧ Aside0 (Below w0.heap.size w0 wc))
 case first =>
  have H := HC3.out
  clear HC3
  have H' := aM H
  clear H
  go_wp2
  go_loopg [5, 6] k (fun kq v5 v6 w' => ∃ (x5_1 : ByteArray) (x6_1 : Int) (x1001_1 : Int) (x1002_1 : Int), v5 = .string x5_1 ∧ v6 = .int .i64 x6_1 ∧ Aside0 (spec_l1Cur_lit.l0 kq x5_1 x6_1 s0_0 x1001_1 x1002_1 l1_0 = some (r1, r2, r3)) ∧ Aside0 (kq ≤ k) ∧ Aside0 (w'.heap[gb201]? = some (.cells #[(.slice A1_0 l1_0.length c1_0)] 26 (0, 0))) ∧ IsC73 w0 w' g s0_0 x1001_1 x1002_1 ∧ Aside0 (KeepBut w w' g none) ∧ Aside0 (Below w0.heap.size w0 w'))
  case atStart => exact ⟨((⟨#[]⟩ : ByteArray)), (0), (s0_1), (s0_2), rF, rF, H', kR, ⟨bU BK201.out⟩, ⟨tS73⟩, kV HK, hV HB⟩
  case round =>
   clear H'
   obtain ⟨x5_1, x6_1, x1001_1, x1002_1, rfl, rfl, HA, HK1, BK201, HI0, HK, HB⟩ := hrel
   obtain rfl | ⟨k1, rfl⟩ := fz gk
   ·exact zA HA
   have H := HA.out
   clear HA
   simp only [spec_l1Cur_lit.l0] at H
   refine iI H ?_ ?_ <;> clear H <;> intro c5 H
   ·have c5b0 := dT c5
    clear c5
    (first | rw [c5b0] | (simp only [i64_w, i32_w]; rw [c5b0]) | skip)
    refine iI H ?_ ?_ <;> clear H <;> intro c6 H
    ·have c6b0 := dT c6
     clear c6
     obtain ⟨y202, Ny202⟩ := yN (([(⟨#[48]⟩ : ByteArray), (⟨#[49]⟩ : ByteArray)] : List ByteArray) : List ByteArray); rw [← Ny202.out] at H
     replace H := bC H; obtain ⟨⟨t205, t206, t207⟩, A7, H⟩ := H; try dsimp only at H
     refine iY H ?_; clear H; intro c8 H
     have c8b0 := eq_true c8
     have c8b1 := dT c8
     try have c8b2 : (9223372036854775807 < x5_1.size + t205.size) = False := eq_false (Nat.not_lt.2 c8)
     have H' := aM H
     clear H
     have hnb9 := NB201_0.out
     have hnc9 := NB0_201.out
     obtain ⟨hcz10_0, hfz10_0⟩ := hC1 BK201
     go_wp2_with (first | ((with_reducible refine gate_dst (N := 20) rfl ?_); refine Kd.R_lit Kd.string _ 9 ?hg (N := 20) ?hd (xs := ([(⟨#[48]⟩ : ByteArray), (⟨#[49]⟩ : ByteArray)] : List ByteArray)) (inner := [.string (⟨#[48]⟩ : ByteArray), .string (⟨#[49]⟩ : ByteArray)]) (ok := fun _ => True) (okp := fun _ => True) ?hr ?hp (fun _ hk => hk) trivial (Below.refl _ _) (Nat.le_refl _) (by simp) ?_; (case hd => rfl); (case hg => rfl); (case hr => first | (go_simp; done) | (go_simp; rfl)); (case hp => exact (Reps.one (show Kd.M Kd.string _ _ _ (⟨#[48]⟩ : ByteArray) [.string (⟨#[48]⟩ : ByteArray)] from rfl) (Reps.one (show Kd.M Kd.string _ _ _ (⟨#[49]⟩ : ByteArray) [.string (⟨#[49]⟩ : ByteArray)] from rfl) (Reps.none _ _)))); intro v203 w11 ho12 hb hg_ hnew_; clear hg_ hnew_; (first | rw [← Ny202.out] at ho12 | (simp only [Int.reduceToNat] at ho12; rw [← Ny202.out] at ho12)); have HO204 := rK ho12 HK; replace BK201 := bB BK201 hb; replace HI0 := bS73 g hb; replace HK := kT HK (KeepBut.of_below hb g none); replace HB := hS HB hb; clear hb ho12; obtain ⟨Ao13, co13, eo13⟩ := Kd.R_slice HO204.out; subst eo13) | ((with_reducible refine gG 130 (some 21) rfl rfl ?_); refine gC Tryd.func130 (spec_l1Cur_of.calls g s0_0 x1001_1 x1002_1 _ _ y202 t205 t206 t207 w0 _ tS73 (bel HB) (cU ((Kd.R_reads' HO204.out).2.2)) ((Kd.R_reads' HO204.out).2.1) (far_slice (IsS73.own_ne HI0.out HO204.out (by decide))) A7.out) ?_; rintro w14 ⟨hi, hb, hk⟩; replace BK201 := aM (KeepBut.blk hk (g' := gb201) (o := .cells #[.slice A1_0 l1_0.length c1_0] 26 (0, 0)) (bU BK201.out) NB201_0.out (by simp)); replace HO204 := aM (Kd.R_mono (Kd.R_keep (IsS73.apart (show IsS73 w0 _ g s0_0 x1001_1 x1002_1 from tS73) (rU HO204.out) (by decide)) hk (fun _ h => h.2)) (fun _ h => h.1)); replace HK := kT HK hk; replace HB := aM (hb); replace HI0 := sS73 (hi); clear hb hk hi))
     go_roundg k1
     case measure => have := HK1.out; omega
     case rel => exact ⟨(x5_1 ++ t205), (wrap64 (x6_1 + 1)), (t206), (t207), rF, rF, H', ⟨by have := HK1.out; omega⟩, ⟨bU BK201.out⟩, ⟨tS73⟩, kV HK, hV HB⟩
    have c6b0 := dF c6
    clear c6
    have H' := aM H
    clear H
    have hnb15 := NB201_0.out
    have hnc15 := NB0_201.out
    obtain ⟨hcz16_0, hfz16_0⟩ := hC1 BK201
    go_wp2
    go_meet
    case rel => exact ⟨_, (x5_1), (x1001_1), (x1002_1), rF, H', ⟨by have := HK1.out; first | omega | exact Nat.le_refl _⟩, ⟨bU BK201.out⟩, ⟨tS73⟩, kV HK, hV HB⟩
   have c5b0 := dF c5
   clear c5
   (first | rw [c5b0] | (simp only [i64_w, i32_w]; rw [c5b0]) | skip)
   have H' := aM H
   clear H
   have hnb17 := NB201_0.out
   have hnc17 := NB0_201.out
   obtain ⟨hcz18_0, hfz18_0⟩ := hC1 BK201
   go_wp2
   go_meet
   case rel => exact ⟨_, (x5_1), (x1001_1), (x1002_1), rF, H', ⟨by have := HK1.out; first | omega | exact Nat.le_refl _⟩, ⟨bU BK201.out⟩, ⟨tS73⟩, kV HK, hV HB⟩
 case rest =>
  clear HC3
  obtain ⟨kq, x5_2, x1001_2, x1002_2, rfl, HA, HJ2, BK201, HI0, HK, HB⟩ := hcut
  obtain rfl | ⟨kj2, rfl⟩ := fz kq
  ·exact zA HA
  have H := HA.out
  clear HA
  simp only [spec_l1Cur_lit.j1] at H
  replace H := bC H; obtain ⟨⟨t208, t209, t210⟩, A19, H⟩ := H; try dsimp only at H
  refine iB H ?_ ?_ <;> clear H <;> rintro rfl H
  ·obtain ⟨y211, Ny211⟩ := yN (([(⟨#[48]⟩ : ByteArray), (⟨#[120]⟩ : ByteArray)] : List ByteArray) : List ByteArray); rw [← Ny211.out] at H
   replace H := bC H; obtain ⟨⟨t214, t215, t216⟩, A21, H⟩ := H; try dsimp only at H
   refine iY H ?_; clear H; intro c22 H
   have c22b0 := eq_true c22
   have c22b1 := dT c22
   try have c22b2 : (9223372036854775807 < x5_2.size + t214.size) = False := eq_false (Nat.not_lt.2 c22)
   simp only [Option.some.injEq, Prod.mk.injEq] at H
   obtain ⟨rfl, rfl, rfl⟩ := H
   go_wp2_with (first | ((with_reducible refine gG 140 (some 24) rfl rfl ?_); refine gC Tryd.func140 (spec_l1Cur_one.calls g s0_0 x1001_2 x1002_2 14 true t209 t210 w0 _ tS73 (bel HB) A19.out) ?_; rintro w23 ⟨hi, hb, hk⟩; replace BK201 := aM (KeepBut.blk hk (g' := gb201) (o := .cells #[.slice A1_0 l1_0.length c1_0] 26 (0, 0)) (bU BK201.out) NB201_0.out (by simp)); replace HK := kT HK hk; replace HB := aM (hb); replace HI0 := sS73 (hi); clear hb hk hi) | ((with_reducible refine gate_dst (N := 27) rfl ?_); refine Kd.R_lit Kd.string _ 9 ?hg (N := 27) ?hd (xs := ([(⟨#[48]⟩ : ByteArray), (⟨#[120]⟩ : ByteArray)] : List ByteArray)) (inner := [.string (⟨#[48]⟩ : ByteArray), .string (⟨#[120]⟩ : ByteArray)]) (ok := fun _ => True) (okp := fun _ => True) ?hr ?hp (fun _ hk => hk) trivial (Below.refl _ _) (Nat.le_refl _) (by simp) ?_; (case hd => rfl); (case hg => rfl); (case hr => first | (go_simp; done) | (go_simp; rfl)); (case hp => exact (Reps.one (show Kd.M Kd.string _ _ _ (⟨#[48]⟩ : ByteArray) [.string (⟨#[48]⟩ : ByteArray)] from rfl) (Reps.one (show Kd.M Kd.string _ _ _ (⟨#[120]⟩ : ByteArray) [.string (⟨#[120]⟩ : ByteArray)] from rfl) (Reps.none _ _)))); intro v212 w24 ho25 hb hg_ hnew_; clear hg_ hnew_; (first | rw [← Ny211.out] at ho25 | (simp only [Int.reduceToNat] at ho25; rw [← Ny211.out] at ho25)); have HO213 := rK ho25 HK; replace BK201 := bB BK201 hb; replace HI0 := bS73 g hb; replace HK := kT HK (KeepBut.of_below hb g none); replace HB := hS HB hb; clear hb ho25; obtain ⟨Ao26, co26, eo26⟩ := Kd.R_slice HO213.out; subst eo26) | ((with_reducible refine gG 130 (some 28) rfl rfl ?_); refine gC Tryd.func130 (spec_l1Cur_of.calls g s0_0 t209 t210 _ _ y211 t214 t215 t216 w0 _ tS73 (bel HB) (cU ((Kd.R_reads' HO213.out).2.2)) ((Kd.R_reads' HO213.out).2.1) (far_slice (IsS73.own_ne HI0.out HO213.out (by decide))) A21.out) ?_; rintro w27 ⟨hi, hb, hk⟩; replace BK201 := aM (KeepBut.blk hk (g' := gb201) (o := .cells #[.slice A1_0 l1_0.length c1_0] 26 (0, 0)) (bU BK201.out) NB201_0.out (by simp)); replace HO213 := aM (Kd.R_mono (Kd.R_keep (IsS73.apart (show IsS73 w0 _ g s0_0 t209 t210 from tS73) (rU HO213.out) (by decide)) hk (fun _ h => h.2)) (fun _ h => h.1)); replace HK := kT HK hk; replace HB := aM (hb); replace HI0 := sS73 (hi); clear hb hk hi))
   go_ret
   exact ⟨eW, tS73, bel HB, kp HK⟩
  simp only [Option.some.injEq, Prod.mk.injEq] at H
  obtain ⟨rfl, rfl, rfl⟩ := H
  go_wp2_with (first | ((with_reducible refine gG 140 (some 24) rfl rfl ?_); refine gC Tryd.func140 (spec_l1Cur_one.calls g s0_0 x1001_2 x1002_2 14 false t209 t210 w0 _ tS73 (bel HB) A19.out) ?_; rintro w28 ⟨hi, hb, hk⟩; replace BK201 := aM (KeepBut.blk hk (g' := gb201) (o := .cells #[.slice A1_0 l1_0.length c1_0] 26 (0, 0)) (bU BK201.out) NB201_0.out (by simp)); replace HK := kT HK hk; replace HB := aM (hb); replace HI0 := sS73 (hi); clear hb hk hi))
  go_ret
  exact ⟨eW, tS73, bel HB, kp HK⟩

/-! ### spec_l1Cur_among: function 107 -/
def spec_l1Cur_among.f (s0_0 : List Int) (s0_1 : Int) (s0_2 : Int) (l1 : List Int) : Option (Int × Int × Int) := (spec_l1Cur_pick.f s0_0 s0_1 s0_2 (l1.length : Int)).bind fun bt217 => (if 0 ≤ bt217.1 then (if bt217.1 < (l1.length : Int) then (some (rd l1 bt217.1, bt217.2.1, bt217.2.2)) else (none)) else (none))
set_option maxHeartbeats 8000000 in
set_option maxRecDepth 100000 in
theorem spec_l1Cur_among.calls (g : Nat) (s0_0 : List Int) (s0_1 : Int) (s0_2 : Int) (A1 : Option Addr) (c1 : Nat) (l1 : List Int) (r1 : Int) (r2 : Int) (r3 : Int) (w0 w : World) (hI : IsS73 w0 w g s0_0 s0_1 s0_2) (hB : Below w0.heap.size w0 w) (hr1 : Kd.C (Kd.int .i64) w A1 l1.length l1) (hc1 : l1.length ≤ c1) (hf1 : ∀ ad, A1 = some ad → 0 < l1.length → ad.block ≠ g) (h : spec_l1Cur_among.f s0_0 s0_1 s0_2 l1 = some (r1, r2, r3)) :
  Calls Tryd.prog 107 #[.pointer (some ⟨g, 0, none⟩), .slice A1 l1.length c1] w fun e w' => e = .returned (.int .i64 r1) ∧ IsS73 w0 w' g s0_0 r2 r3 ∧ Below w0.heap.size w0 w' ∧ KeepBut w w' g none := by
 have HR1 := aM hr1
 have HC1 := aM hc1
 clear hr1 hc1
 have HI0 := sS73 hI
 have GI_HI0 := IsS73.geI HI0
 have HK := aM (KeepBut.refl w g none)
 have HL := aM hB.size
 clear hI
 have HW0 := aM hB.size
 have HB := aM hB
 clear hB
 have H := h
 clear h; unfold spec_l1Cur_among.f at H
 replace H := bC H; obtain ⟨⟨t217, t218, t219⟩, A3, H⟩ := H; try dsimp only at H
 refine iY H ?_; clear H; intro c4 H
 have c4b0 := dT c4
 clear c4
 refine iY H ?_; clear H; intro c5 H
 have c5b0 := dT c5
 clear c5
 simp only [Option.some.injEq, Prod.mk.injEq] at H
 obtain ⟨rfl, rfl, rfl⟩ := H
 go_enter Tryd.func107, Tryd.ntmps107
 go_wp2_with (first | ((with_reducible refine gG 91 (some 9) rfl rfl ?_); refine gC Tryd.func91 (spec_l1Cur_pick.calls g s0_0 s0_1 s0_2 (l1.length : Int) t217 t218 t219 w0 _ tS73 (bel HB) A3.out) ?_; rintro w6 ⟨hi, hb, hk⟩; replace HK := kT HK hk; replace HB := aM (hb); replace HI0 := sS73 (hi); clear hb hk hi; have p220 : 0 ≤ (t217 : Int) := oD; have q220 : t217 < (l1.length : Int) := oD; obtain ⟨ad220, e220, hx220_0⟩ := Kd.at_int HR1.out t217 p220 q220; cases e220; replace hx220_0 := keep_cell HK.out hx220_0 (by first | (rw [add_block]; exact hf1 _ rfl (by omega)) | exact hf1 _ rfl (by omega) | exact hf1 ad220 rfl (by omega)); replace p220 := eq_true p220; replace q220 := eq_true q220))
 go_ret
 exact ⟨eW, tS73, bel HB, kp HK⟩

/-! ### spec_l1Cur_ticks: function 70 -/
def spec_l1Cur_ticks.f (s0_0 : List Int) (s0_1 : Int) (s0_2 : Int) : Option (Int × Int × Int) := (spec_l1Cur_among.f s0_0 s0_1 s0_2 (([0, 1, 2, 3, 5, 8, 17, 100, 1000000, 1000001, (-1)] : List Int))).bind fun bt224 => (some (bt224.1, bt224.2.1, bt224.2.2))
set_option maxHeartbeats 8000000 in
set_option maxRecDepth 100000 in
theorem spec_l1Cur_ticks.calls (g : Nat) (s0_0 : List Int) (s0_1 : Int) (s0_2 : Int) (r1 : Int) (r2 : Int) (r3 : Int) (w0 w : World) (hI : IsS73 w0 w g s0_0 s0_1 s0_2) (hB : Below w0.heap.size w0 w) (h : spec_l1Cur_ticks.f s0_0 s0_1 s0_2 = some (r1, r2, r3)) :
  Calls Tryd.prog 70 #[.pointer (some ⟨g, 0, none⟩)] w fun e w' => e = .returned (.int .i64 r1) ∧ IsS73 w0 w' g s0_0 r2 r3 ∧ Below w0.heap.size w0 w' ∧ KeepBut w w' g none := by
 have HI0 := sS73 hI
 have GI_HI0 := IsS73.geI HI0
 have HK := aM (KeepBut.refl w g none)
 have HL := aM hB.size
 clear hI
 have HW0 := aM hB.size
 have HB := aM hB
 clear hB
 have H := h
 clear h; unfold spec_l1Cur_ticks.f at H
 obtain ⟨y221, Ny221⟩ := yN (([0, 1, 2, 3, 5, 8, 17, 100, 1000000, 1000001, (-1)] : List Int) : List Int); rw [← Ny221.out] at H
 replace H := bC H; obtain ⟨⟨t224, t225, t226⟩, A2, H⟩ := H; try dsimp only at H
 simp only [Option.some.injEq, Prod.mk.injEq] at H
 obtain ⟨rfl, rfl, rfl⟩ := H
 go_enter Tryd.func70, Tryd.ntmps70
 go_wp2_with (first | ((with_reducible refine gate_dst (N := 4) rfl ?_); refine Kd.R_lit (Kd.int .i64) _ 3 ?hg (N := 4) ?hd (xs := ([0, 1, 2, 3, 5, 8, 17, 100, 1000000, 1000001, (-1)] : List Int)) (inner := [.int .i64 0, .int .i64 1, .int .i64 2, .int .i64 3, .int .i64 5, .int .i64 8, .int .i64 17, .int .i64 100, .int .i64 1000000, .int .i64 1000001, .int .i64 (-1)]) (ok := fun _ => True) (okp := fun _ => True) ?hr ?hp (fun _ hk => hk) trivial (Below.refl _ _) (Nat.le_refl _) (by simp) ?_; (case hd => rfl); (case hg => rfl); (case hr => first | (go_simp; done) | (go_simp; rfl)); (case hp => exact (Reps.one (show Kd.M (Kd.int .i64) _ _ _ 0 [.int .i64 0] from rfl) (Reps.one (show Kd.M (Kd.int .i64) _ _ _ 1 [.int .i64 1] from rfl) (Reps.one (show Kd.M (Kd.int .i64) _ _ _ 2 [.int .i64 2] from rfl) (Reps.one (show Kd.M (Kd.int .i64) _ _ _ 3 [.int .i64 3] from rfl) (Reps.one (show Kd.M (Kd.int .i64) _ _ _ 5 [.int .i64 5] from rfl) (Reps.one (show Kd.M (Kd.int .i64) _ _ _ 8 [.int .i64 8] from rfl) (Reps.one (show Kd.M (Kd.int .i64) _ _ _ 17 [.int .i64 17] from rfl) (Reps.one (show Kd.M (Kd.int .i64) _ _ _ 100 [.int .i64 100] from rfl) (Reps.one (show Kd.M (Kd.int .i64) _ _ _ 1000000 [.int .i64 1000000] from rfl) (Reps.one (show Kd.M (Kd.int .i64) _ _ _ 1000001 [.int .i64 1000001] from rfl) (Reps.one (show Kd.M (Kd.int .i64) _ _ _ (-1) [.int .i64 (-1)] from rfl) (Reps.none _ _))))))))))))); intro v222 w3 ho4 hb hg_ hnew_; clear hg_ hnew_; (first | rw [← Ny221.out] at ho4 | (simp only [Int.reduceToNat] at ho4; rw [← Ny221.out] at ho4)); have HO223 := rK ho4 HK; replace HI0 := bS73 g hb; replace HK := kT HK (KeepBut.of_below hb g none); replace HB := hS HB hb; clear hb ho4; obtain ⟨Ao5, co5, eo5⟩ := Kd.R_slice HO223.out; subst eo5) | ((with_reducible refine gG 107 (some 5) rfl rfl ?_); refine gC Tryd.func107 (spec_l1Cur_among.calls g s0_0 s0_1 s0_2 _ _ y221 t224 t225 t226 w0 _ tS73 (bel HB) (cU ((Kd.R_reads' HO223.out).2.2)) ((Kd.R_reads' HO223.out).2.1) (far_slice (IsS73.own_ne HI0.out HO223.out (by decide))) A2.out) ?_; rintro w6 ⟨hi, hb, hk⟩; replace HO223 := aM (Kd.R_mono (Kd.R_keep (IsS73.apart (show IsS73 w0 _ g s0_0 s0_1 s0_2 from tS73) (rU HO223.out) (by decide)) hk (fun _ h => h.2)) (fun _ h => h.1)); replace HK := kT HK hk; replace HB := aM (hb); replace HI0 := sS73 (hi); clear hb hk hi))
 go_ret
 exact ⟨eW, tS73, bel HB, kp HK⟩

/-! ### spec_DrawTicksAfter: function 7 -/
def spec_DrawTicksAfter.f (k : Nat) (l0 : List Int) : Option (List ByteArray × ByteArray × Int) := (spec_l1Cur_lamps.f k l0 0 0).bind fun bt229 => ((spec_l1Cur_lit.f k l0 bt229.2.1 bt229.2.2 bt229.1).bind fun bt235 => ((spec_l1Cur_ticks.f l0 bt235.2.1 bt235.2.2).bind fun bt238 => (some (bt229.1, bt235.1, bt238.1))))
instance spec_DrawTicksAfter.mI (k : Nat) : Mo (spec_DrawTicksAfter.f k) (spec_DrawTicksAfter.f (k + 1)) := by
 (repeat refine mE fun _ => ?_); unfold spec_DrawTicksAfter.f; exact mG
theorem spec_DrawTicksAfter.mono : ∀ a0 k, LeO (spec_DrawTicksAfter.f k a0) (spec_DrawTicksAfter.f (k + 1) a0) := fun a0 k => (spec_DrawTicksAfter.mI k).out a0
def spec_DrawTicksAfter.T3 : Bool × List (List Nat × List Nat) := (true, [([], []), ([], []), ([], []), ([1, 2], [1, 2]), ([], []), ([4, 3], [4]), ([0, 5, 0], [0]), ([3, 6, 0, 1, 2, 3, 6], [3]), ([5, 7, 0, 1, 2, 3, 4, 5, 6, 7], [5])])
def spec_DrawTicksAfter.B3 : List Nat := [0, 0, 0, 6, 0, 30, 63, 127, 255]
theorem spec_DrawTicksAfter.tab3 : rtab .any (opsOf Tryd.f7 3) = spec_DrawTicksAfter.T3 := by kernel_rfl
theorem spec_DrawTicksAfter.bits3 : waitsOk spec_DrawTicksAfter.T3.2 spec_DrawTicksAfter.B3 = true := by kernel_rfl
set_option maxHeartbeats 8000000 in
set_option maxRecDepth 100000 in
theorem spec_DrawTicksAfter.calls (k : Nat) (A0 : Option Addr) (c0 : Nat) (l0 : List Int) (r1 : List ByteArray) (r2 : ByteArray) (r3 : Int) (w : World) (hr0 : Kd.C (Kd.int .u8) w A0 l0.length l0) (hc0 : l0.length ≤ c0) (h : spec_DrawTicksAfter.f k l0 = some (r1, r2, r3)) :
  Calls Tryd.prog 7 #[.slice A0 l0.length c0] w fun e w' => ∃ v0_ : Value, e = .returned (.tuple #[.agg #[v0_], .string r2, .int .i64 r3]) ∧ Kd.R Kd.string 9 w' w.heap.size (fun _ => True) v0_ r1 ∧ Below w.heap.size w w' := by
 have hu26 := Tryd.underlying26
 have hu73 := Tryd.underlying73
 have HR0 := aM hr0
 have HC0 := aM hc0
 clear hr0 hc0
 have HB := aM (Below.refl w.heap.size w)
 have H := h
 clear h; unfold spec_DrawTicksAfter.f at H
 replace H := bC H; obtain ⟨⟨t229, t232, t233⟩, A2, H⟩ := H; try dsimp only at H
 replace H := bC H; obtain ⟨⟨t235, t236, t237⟩, A3, H⟩ := H; try dsimp only at H
 replace H := bC H; obtain ⟨⟨t238, t239, t240⟩, A4, H⟩ := H; try dsimp only at H
 simp only [Option.some.injEq, Prod.mk.injEq] at H
 obtain ⟨rfl, rfl, rfl⟩ := H
 go_enter Tryd.func7, Tryd.ntmps7
 try go_wp2_with (first | (refine bX (N := 2) rfl (cs := #[.slice none 0 0]) (t := 26) ?_; intro gb227 hg w5 BK227 hb; have GW227 := gE hg HB; have GE227 := gE hg HB; replace HB := hS HB hb; clear hb hg) | ((with_reducible refine gate_dst (N := 9) rfl ?_); refine box_event ?hg (N := 9) ?hd (cs := #[.slice A0 l0.length c0, .int .i64 0, .int .u64 0]) (t := 73) ?hr ?_; (case hd => rfl); (case hg => rfl); (case hr => first | (go_simp; done) | (go_simp; rfl)); intro gb228 hg w6 hbox hb; have HI228 := sS73 ((show IsS73 w w6 gb228 l0 0 0 from ⟨_, _, hbox, (by rw [hg]; exact (below_size (bel HB)) : w.heap.size ≤ gb228), HR0.out⟩)); have GI_HI228 := IsS73.geI HI228; have NB228_227 := nbR hg BK227; have NB227_228 := nbL hg BK227; replace BK227 := bB BK227 hb; replace HB := hS HB hb; clear hb hbox hg) | ((with_reducible refine gG 68 (some 11) rfl rfl ?_); refine gD Tryd.func68 (spec_l1Cur_lamps.calls k gb228 l0 0 0 t229 t232 t233 w _ tS73 (bel HB) A2.out) ?_; rintro w7 v230 ⟨ho0, hi, hb, hk⟩; have HO231 := rL ho0 HB; replace BK227 := aM (KeepBut.blk hk (g' := gb227) (o := .cells #[.slice none 0 0] 26 (0, 0)) (bU BK227.out) NB227_228.out (by simp)); replace HB := aM (hb); replace HI228 := sS73 (hi); clear hb hk hi ho0) | (refine bX (N := 6) rfl (cs := #[.slice none 0 0]) (t := 26) ?_; intro gb234 hg w8 BK234 hb; have GW234 := gE hg HB; have GE234 := gE hg HB; have NB227_234 := nbL hg BK227; have NB234_227 := nbR hg BK227; have NB228_234 := (nbI hg : Ap gb228 gb234); have NB234_228 := (nbJ hg : Ap gb234 gb228); replace HO231 := rB HO231 hb; replace BK227 := bB BK227 hb; replace HI228 := bS73 gb228 hb; replace HB := hS HB hb; clear hb hg; obtain ⟨Ao9, co9, eo9⟩ := Kd.R_slice HO231.out; subst eo9; have hnb10 := NB234_227.out; have hnc10 := NB227_234.out; have hnb11 := NB234_228.out; have hnc11 := NB228_234.out; obtain ⟨hcz12_0, hfz12_0⟩ := hC1 BK234))
 have n0_ : Aside0 (Kd.R Kd.string 9 (w8.setCell ⟨gb234, 0, none⟩ (.slice Ao9 t229.length co9)) w.heap.size (fun _ => True) (.slice Ao9 t229.length co9) t229) := ⟨rU (Kd.R_mono (Kd.R_far (p := ⟨gb234, 0, none⟩) (Kd.R_types HO231.out BK234.out (by decide)) (fun _ hk => hk.2) (.slice Ao9 t229.length co9)) (fun _ hk => trivial))⟩
 have n1_ : Aside0 ((w8.setCell ⟨gb234, 0, none⟩ (.slice Ao9 t229.length co9)).heap[gb227]? = some (.cells #[.slice none 0 0] 26 (0, 0))) := ⟨by (with_reducible repeat (first | refine blk_drewN ?_ _ | refine blk_drew ?_ | refine blk_alloc ?_ _)); refine blk_far ?_ NB227_234.out _; (with_reducible repeat (first | refine blk_drewN ?_ _ | refine blk_drew ?_ | refine blk_alloc ?_ _)); exact BK227.out⟩
 have n2_ : Aside0 ((w8.setCell ⟨gb234, 0, none⟩ (.slice Ao9 t229.length co9)).heap[gb234]? = some (.cells #[.slice Ao9 t229.length co9] 26 (0, 0))) := ⟨by (with_reducible repeat (first | refine blk_drewN ?_ _ | refine blk_drew ?_ | refine blk_alloc ?_ _)); refine blk_put (cs := #[.slice none 0 0]) ?_ 0 _ rfl; (with_reducible repeat (first | refine blk_drewN ?_ _ | refine blk_drew ?_ | refine blk_alloc ?_ _)); exact BK234.out⟩
 have n3_ : IsC73 w (w8.setCell ⟨gb234, 0, none⟩ (.slice Ao9 t229.length co9)) gb228 l0 t232 t233 := ⟨tS73⟩
 have n4_ : Aside0 (Below w.heap.size w (w8.setCell ⟨gb234, 0, none⟩ (.slice Ao9 t229.length co9))) := hV HB
 (try clear HO231)
 (try clear BK227)
 (try clear BK234)
 (try clear HI228)
 (try clear HB)
 generalize (w8.setCell ⟨gb234, 0, none⟩ (.slice Ao9 t229.length co9)) = w13 at n0_ n1_ n2_ n3_ n4_ ⊢
 have HO231 := n0_
 have BK227 := n1_
 have BK234 := n2_
 have HI228 := n3_
 have HB := n4_
 clear n0_ n1_ n2_ n3_ n4_
 have n0_ := aM (Kd.R_drew HO231.out)
 have n1_ := aM (blk_drew BK227.out)
 have n2_ := aM (blk_drew BK234.out)
 have n3_ := sS73 (IsS73.drew HI228.out)
 have n4_ := aM (below_drew1 HB.out)
 clear HO231
 clear BK227
 clear BK234
 clear HI228
 clear HB
 have HO231 := n0_
 have BK227 := n1_
 have BK234 := n2_
 have HI228 := n3_
 have HB := n4_
 clear n0_ n1_ n2_ n3_ n4_
 refine start_ (n := 9) (S := fun w' => w'.cell? ⟨gb234, 0, none⟩ = some (.slice Ao9 t229.length co9)) (ds := []) #[false, false, false, false, false, false, false, false, false] (by kernel_rfl) rfl rfl ((blk_cell BK234.out 0).trans rfl) (fun hHeld => ?_); refine with_tabW spec_DrawTicksAfter.tab3 spec_DrawTicksAfter.bits3 (fun HT_ HW_ => ?_)
 generalize w13.drew = w14 at HO231 BK227 BK234 HI228 HB hHeld ⊢
 refine pure_ (i := 1) (N := some 13) (v := ?_) (a' := ?_) #[false, true, false, false, false, false, false, false, false] rfl rfl (any_of HT_.out (by kernel_rfl)) (fun _ _ _ h => h) (Or.inl ⟨by rfl, ?_⟩) ?_ ?_
 rotate_left
 ·intro w'
  go_simp
  with_reducible rfl
 rotate_left
 ·simp only [Act.put, List.setIfInBounds_toArray, List.set_cons_zero, List.set_cons_succ, i64_w, i32_w]
  rfl
 refine pure_ (i := 4) (N := some 16) (v := ?_) (a' := ?_) #[false, true, false, false, true, false, false, false, false] rfl rfl (any_of HT_.out (by kernel_rfl)) (fun _ _ _ h => h) (Or.inl ⟨by rfl, ?_⟩) ?_ ?_
 rotate_left
 ·intro w'
  go_simp
  with_reducible rfl
 rotate_left
 ·simp only [Act.put, List.setIfInBounds_toArray, List.set_cons_zero, List.set_cons_succ, i64_w, i32_w]
  rfl
 refine take_ (i := 0) (N := some 12) (v := ?_) (a' := ?_) #[true, true, false, false, true, false, false, false, false] rfl rfl (take_ofW HT_.out HW_.out (by kernel_rfl)) (fun _ _ _ h => h) (Or.inl ⟨by rfl, ?_⟩) hHeld ?_ ?_
 rotate_left
 ·intro w' s0
  go_simp
  with_reducible rfl
 rotate_left
 ·simp only [Act.put, List.setIfInBounds_toArray, List.set_cons_zero, List.set_cons_succ, i64_w, i32_w]
  rfl
 refine take_ (i := 2) (N := some 14) (v := ?_) (a' := ?_) #[true, true, true, false, true, false, false, false, false] rfl rfl (take_ofW HT_.out HW_.out (by kernel_rfl)) (fun _ _ _ h => h) (Or.inl ⟨by rfl, ?_⟩) hHeld ?_ ?_
 rotate_left
 ·intro w' s0
  go_simp
  with_reducible rfl
 rotate_left
 ·simp only [Act.put, List.setIfInBounds_toArray, List.set_cons_zero, List.set_cons_succ, i64_w, i32_w]
  rfl
 refine one_ (i := 3) (N := some 15) #[true, true, true, true, true, false, false, false, false] rfl rfl (one_of HT_.out (by kernel_rfl)) (by decide) (fun K hK => ?_)
 refine goes_ Tryd.func69 (by kernel_rfl) rfl #[.pointer (some ⟨gb228, 0, none⟩), .agg #[.slice Ao9 t229.length co9]] (by rfl) rfl rfl (by (try simp only [List.map_toArray, List.map_cons, List.map_nil]); first | done | rfl | (simp only [List.length_drop, List.length_take]; rfl)) ?_
 with_reducible refine (spec_l1Cur_lit.calls k gb228 l0 t232 t233 _ _ t229 t235 t236 t237 w _ ?side1 ?side2 ?side3 ?side4 ?side5 A3.out).mono ?_
 (case side1 => exact tS73)
 (case side2 => exact bel HB)
 (case side3 => exact cU ((Kd.R_reads' HO231.out).2.2))
 (case side4 => exact (Kd.R_reads' HO231.out).2.1)
 (case side5 => exact far_slice (IsS73.own_ne HI228.out HO231.out (by decide)))
 rintro e w15 ⟨rfl, hi, hb, hk⟩
 refine ⟨_, rfl, ?_⟩
 have n0_ := aM (KeepBut.blk hk (g' := gb227) (o := .cells #[.slice none 0 0] 26 (0, 0)) (bU BK227.out) NB227_228.out (by simp))
 have n1_ := aM (Kd.R_mono (Kd.R_keep (IsS73.apart (show IsS73 w _ gb228 l0 t232 t233 from tS73) (rU HO231.out) (by decide)) hk (fun _ h => h.2)) (fun _ h => h.1))
 have n2_ := aM (KeepBut.blk hk (g' := gb234) (o := .cells #[.slice Ao9 t229.length co9] 26 (0, 0)) (bU BK234.out) NB234_228.out (by simp))
 have n3_ := aM (hb)
 have n4_ := sS73 (hi)
 clear BK227
 clear HO231
 clear BK234
 clear HB
 clear HI228
 have BK227 := n0_
 have HO231 := n1_
 have BK234 := n2_
 have HB := n3_
 have HI228 := n4_
 clear n0_ n1_ n2_ n3_ n4_
 (try clear hb)
 (try clear hb2)
 (try clear hk)
 (try clear hi)
 refine hK.out _ _ ((blk_cell BK234.out 0).trans rfl) (fun hHeld => ?_)
 clear hK K
 refine norm_ (a' := ?_) ?_ ?_
 rotate_left
 ·show Act.put _ (some 15) _ = _
  simp only [Act.put, List.setIfInBounds_toArray, List.set_cons_zero, List.set_cons_succ, i64_w, i32_w]
  rfl
 refine one_ (i := 5) (N := some 17) #[true, true, true, true, true, true, false, false, false] rfl rfl (one_of HT_.out (by kernel_rfl)) (by decide) (fun K hK => ?_)
 refine goes_ Tryd.func70 (by kernel_rfl) rfl #[.pointer (some ⟨gb228, 0, none⟩)] (by rfl) rfl rfl (by (try simp only [List.map_toArray, List.map_cons, List.map_nil]); first | done | rfl | (simp only [List.length_drop, List.length_take]; rfl)) ?_
 with_reducible refine (spec_l1Cur_ticks.calls gb228 l0 t236 t237 t238 t239 t240 w _ ?side1 ?side2 A4.out).mono ?_
 (case side1 => exact tS73)
 (case side2 => exact bel HB)
 rintro e w16 ⟨rfl, hi, hb, hk⟩
 refine ⟨_, rfl, ?_⟩
 have n0_ := aM (KeepBut.blk hk (g' := gb227) (o := .cells #[.slice none 0 0] 26 (0, 0)) (bU BK227.out) NB227_228.out (by simp))
 have n1_ := aM (Kd.R_mono (Kd.R_keep (IsS73.apart (show IsS73 w _ gb228 l0 t236 t237 from tS73) (rU HO231.out) (by decide)) hk (fun _ h => h.2)) (fun _ h => h.1))
 have n2_ := aM (KeepBut.blk hk (g' := gb234) (o := .cells #[.slice Ao9 t229.length co9] 26 (0, 0)) (bU BK234.out) NB234_228.out (by simp))
 have n3_ := aM (hb)
 have n4_ := sS73 (hi)
 clear BK227
 clear HO231
 clear BK234
 clear HB
 clear HI228
 have BK227 := n0_
 have HO231 := n1_
 have BK234 := n2_
 have HB := n3_
 have HI228 := n4_
 clear n0_ n1_ n2_ n3_ n4_
 (try clear hb)
 (try clear hb2)
 (try clear hk)
 (try clear hi)
 refine hK.out _ _ ((blk_cell BK234.out 0).trans rfl) (fun hHeld => ?_)
 clear hK K
 refine norm_ (a' := ?_) ?_ ?_
 rotate_left
 ·show Act.put _ (some 17) _ = _
  simp only [Act.put, List.setIfInBounds_toArray, List.set_cons_zero, List.set_cons_succ, i64_w, i32_w]
  rfl
 refine one_ (i := 6) (N := none) #[true, true, true, true, true, true, true, false, false] rfl rfl (one_of HT_.out (by kernel_rfl)) (by decide) (fun K hK => ?_)
 have hs17 : w16.cell? ⟨gb227, 0, none⟩ = some (.slice none 0 0) := (blk_cell BK227.out 0).trans rfl
 have hfs17 := blk_frozen BK227.out 0
 have hns17_1 := NB234_227.out
 have hms17_1 := NB227_234.out
 refine skip_ (w1 := ?_) (by rfl) rfl ?_ ?_
 rotate_left
 ·go_simp
  rfl
 refine hK.out _ _ (((cell_far (p := ⟨gb227, _, none⟩) NB234_227.out _).trans (hHeld))) (fun hHeld => ?_)
 clear hK K
 refine pure_ (i := 7) (N := some 3) (v := ?_) (a' := ?_) #[true, true, true, true, true, true, true, true, false] rfl rfl (any_of HT_.out (by kernel_rfl)) (fun _ _ _ h => h) (Or.inl ⟨by rfl, ?_⟩) ?_ ?_
 rotate_left
 ·intro w'
  go_simp
  with_reducible rfl
 rotate_left
 ·simp only [Act.put, List.setIfInBounds_toArray, List.set_cons_zero, List.set_cons_succ, i64_w, i32_w]
  rfl
 refine pure_ (i := 8) (N := some 4) (v := ?_) (a' := ?_) #[true, true, true, true, true, true, true, true, true] rfl rfl (any_of HT_.out (by kernel_rfl)) (fun _ _ _ h => h) (Or.inl ⟨by rfl, ?_⟩) ?_ ?_
 rotate_left
 ·intro w'
  go_simp
  with_reducible rfl
 rotate_left
 ·simp only [Act.put, List.setIfInBounds_toArray, List.set_cons_zero, List.set_cons_succ, i64_w, i32_w]
  rfl
 refine done_ (done_of HT_.out (by kernel_rfl)) ?_
 try go_wp2
 refine bodyPost_ret (results_ctt rfl _ _ gb227 26 #[.slice Ao9 t229.length co9] (0, 0) _ rfl (by (with_reducible repeat (first | refine blk_drewN ?_ _ | refine blk_drew ?_ | refine blk_alloc ?_ _)); refine blk_put (cs := #[.slice none 0 0]) ?_ 0 _ rfl; (with_reducible repeat (first | refine blk_drewN ?_ _ | refine blk_drew ?_ | refine blk_alloc ?_ _)); exact BK227.out) Tryd.underlying26 rfl (by kernel_rfl)) rfl ?_
 exact ⟨_, eW, rU (Kd.R_mono (Kd.R_far (p := ⟨gb227, 0, none⟩) (Kd.R_types HO231.out BK227.out (by decide)) (fun _ hk => hk.2) (.slice Ao9 t229.length co9)) (fun _ hk => trivial)), bel HB⟩

/-! ### impl_in: function 81 -/
def impl_in.f (a0 : Int) (a1 : Int) (a2 : Int) : Option (Bool) := if a0 ≥ a1 then (some (decide (a0 ≤ a2))) else (some false)
set_option maxHeartbeats 8000000 in
set_option maxRecDepth 100000 in
theorem impl_in.calls (a0 : Int) (a1 : Int) (a2 : Int) (r : Bool) (w : World) (h : impl_in.f a0 a1 a2 = some r) :
  Calls Tryd.prog 81 #[.int .i64 a0, .int .i64 a1, .int .i64 a2] w fun e w' => e = .returned (.bool r) ∧ Drawn0 w w' := by
 have H := h
 clear h; unfold impl_in.f at H
 refine iI H ?_ ?_ <;> clear H <;> intro c4 H
 ·have c4b0 := hT c4
  clear c4
  obtain rfl := Option.some.inj H
  go_enter Tryd.func81, Tryd.ntmps81
  go_wp2
  go_ret
  exact ⟨rF, d0⟩
 have c4b0 := hF c4
 clear c4
 obtain rfl := Option.some.inj H
 go_enter Tryd.func81, Tryd.ntmps81
 go_wp2
 go_ret
 exact ⟨rF, d0⟩

/-! ### slices_ContainsFunc_string_string: function 82 -/
-- by hand (wip/ext/gen_string.tpl)
set_option maxHeartbeats 1000000 in
set_option maxRecDepth 100000 in
theorem slices_ContainsFunc_string_string.index (F : FuncId) (fn : Func) (hf : Tryd.prog.funcs[F]? = some fn ∧ (fn.name == "runtime.NumGoroutine") = false ∧ fn.body.isSome = true) (caps : Array Value) (p : ByteArray → Bool)
    (A : Option Addr) (c : Nat) (l : List ByteArray) (w : World) (hr : Kd.C Kd.string w A l.length l)
    (hp : ∀ (w1 : World) (x : ByteArray), x ∈ l → Below w.heap.size w w1 → Calls Tryd.prog F (#[.string x] ++ caps) w1 fun e w2 => e = .returned (.bool (p x)) ∧ Below w1.heap.size w1 w2) :
    Calls Tryd.prog 94 #[.slice A l.length c, .func (.func F) #[] caps] w fun e w' => e = .returned (.int .i64 (idxI p l)) ∧ Below w.heap.size w w' := by
  have hl := hr.2.1
  have HR := aM hr
  have HF := aM hf
  have HP := aM hp
  clear hr hf hp
  go_enter Tryd.func94, Tryd.ntmps94
  go_wp2
  go_loopw [8] (fun v8 w' => ∃ k : Nat, k ≤ l.length ∧ v8 = .int .i64 k ∧ Aside0 (∀ j (hj : j < l.length), j < k → p l[j] = false) ∧ Aside0 (Below w.heap.size w w')) (fun v8 _ => l.length - (intOf v8).toNat)
  case atStart => exact ⟨0, Nat.zero_le _, rfl, ⟨fun j _ h => absurd h (by omega)⟩, ⟨Below.refl _ _⟩⟩
  case round =>
    obtain ⟨k, hk, rfl, HN, HB⟩ := hrel
    by_cases hlt : k < l.length
    · obtain ⟨ad, rfl, hx0⟩ := Kd.at_string HR.out (k : Int) (by omega) (by omega)
      simp only [Int.toNat_natCast] at hx0
      replace hx0 := (HB.out.cell (World.block_lt_of_cell? w _ hx0)).trans hx0
      have ex : rdOf ByteArray.empty l (k : Int) = l[k] := by simp [rdOf, hlt]
      rw [ex] at hx0
      clear ex
      go_wp2_with ((with_reducible refine gate_dst (N := 16) rfl ?_); go_must (refine goesC_ (some 16) rfl rfl caps HF.out #[.string l[k]] rfl rfl (by (try simp only [List.map_toArray, List.map_cons, List.map_nil]); first | done | rfl) ?_; refine (HP.out _ l[k] (List.getElem_mem hlt) HB.out).mono ?_; rintro e w2 ⟨rfl, hb⟩; refine ⟨_, rfl, ?_⟩; have HB2 := aM (below_step HB.out hb); clear hb))
      · have hpk : p l[k] = true := by assumption
        go_ret
        exact ⟨ret_int (idxI_hit p l k hlt hpk fun j hj => HN.out j (by omega) hj).symm, HB2.out⟩
      · have hpk : p l[k] = false := by assumption
        go_roundw
        case rel =>
          refine ⟨k + 1, by omega, by go_num, ⟨fun j hj hjk => ?_⟩, HB2⟩
          rcases Nat.lt_or_ge j k with h | h
          · exact HN.out j hj h
          · obtain rfl : j = k := by omega
            exact hpk
        case measure => simp [intOf]; omega
    · go_wp2
      go_ret
      exact ⟨ret_int (idxI_miss p l fun j hj => HN.out j hj (by omega)).symm, HB.out⟩
set_option maxHeartbeats 1000000 in
set_option maxRecDepth 100000 in
theorem slices_ContainsFunc_string_string.any (F : FuncId) (fn : Func) (hf : Tryd.prog.funcs[F]? = some fn ∧ (fn.name == "runtime.NumGoroutine") = false ∧ fn.body.isSome = true) (caps : Array Value) (p : ByteArray → Bool)
    (A : Option Addr) (c : Nat) (l : List ByteArray) (w : World) (hr : Kd.C Kd.string w A l.length l)
    (hp : ∀ (w1 : World) (x : ByteArray), x ∈ l → Below w.heap.size w w1 → Calls Tryd.prog F (#[.string x] ++ caps) w1 fun e w2 => e = .returned (.bool (p x)) ∧ Below w1.heap.size w1 w2) :
    Calls Tryd.prog 82 #[.slice A l.length c, .func (.func F) #[] caps] w fun e w' => e = .returned (.bool (l.any p)) ∧ Below w.heap.size w w' := by
  have HC := aM (slices_ContainsFunc_string_string.index F fn hf caps p A c l w hr hp)
  have HG := aM (idxI_ge p l)
  clear hf hp hr
  go_enter Tryd.func82, Tryd.ntmps82
  go_wp2_with (go_at_call 94; refine HC.out.mono ?_; rintro e w' ⟨rfl, hb⟩; have HB := aM hb; clear hb)
  go_ret
  exact ⟨ret_bool HG.out, HB.out⟩

/-! ### strings_Trim: function 141 -/
-- by hand (wip/ext/Shelf2.tpl)
/-- For a cutset of ASCII signs: what is left of a text behind both ends are trimmed. -/
def strings_Trim.f (a0 a1 : ByteArray) : Option ByteArray := if a0.size ≤ 9223372036854775807 ∧ a1.size < 4294967281 ∧ (a1.data.toList.all fun b => b.toNat < 128) = true then some ⟨(Lib.trimS a0.data.toList a1.data.toList).toArray⟩ else none
theorem strings_Trim.calls (a0 a1 : ByteArray) (r : ByteArray) (w : World) (h : strings_Trim.f a0 a1 = some r) :
    Calls Tryd.prog 141 #[.string a0, .string a1] w fun e w' => e = .returned (.string r) ∧ Below w.heap.size w w' := by
 unfold strings_Trim.f at h
 split at h
 ·rename_i hc
  obtain rfl := Option.some.inj h
  refine Tryd.strings_Trim a0 a1 w hc.1 hc.2.1 (fun j b hb => ?_)
  have := List.all_eq_true.1 hc.2.2 b (List.mem_of_getElem? hb)
  simpa using this
 cases h

/-! ### impl_isNeed: function 84 -/
def impl_isNeed.f (a0 : ByteArray) (a1 : Int) : Option (Bool) := if (a0.size : Int) = a1 then ((strings_Trim.f a0 (⟨#[48, 49, 63]⟩ : ByteArray)).bind fun t241 => (some (t241.toList == ([] : List UInt8)))) else (some false)
set_option maxHeartbeats 8000000 in
set_option maxRecDepth 100000 in
theorem impl_isNeed.calls (a0 : ByteArray) (a1 : Int) (r : Bool) (w : World) (h : impl_isNeed.f a0 a1 = some r) :
  Calls Tryd.prog 84 #[.string a0, .int .i64 a1] w fun e w' => e = .returned (.bool r) ∧ Below w.heap.size w w' := by
 have HB := aM (Below.refl w.heap.size w)
 have H := h
 clear h; unfold impl_isNeed.f at H
 refine iI H ?_ ?_ <;> clear H <;> intro c3 H
 ·have c3b0 := qT c3
  have c3b1 := nF c3
  clear c3
  replace H := bC H; obtain ⟨t241, A4, H⟩ := H
  obtain rfl := Option.some.inj H
  go_enter Tryd.func84, Tryd.ntmps84
  go_wp2_with (first | (go_at_call 141; (with_reducible refine (strings_Trim.calls a0 (⟨#[48, 49, 63]⟩ : ByteArray) t241 _ A4.out).mono ?_); rintro e w5 ⟨rfl, hb⟩; replace HB := hS HB hb; clear hb))
  go_ret
  exact ⟨eW, bel HB⟩
 have c3b0 := qF c3
 have c3b1 := nT c3
 obtain rfl := Option.some.inj H
 go_enter Tryd.func84, Tryd.ntmps84
 go_wp2
 go_ret
 exact ⟨eW, bel HB⟩

/-! ### impl_AreLamps: function 13 -/
-- by hand (wip/ext/AreLamps.tpl)
theorem isNeed_eq (s : ByteArray) (n : Nat) (hn : n ≤ 9223372036854775807) : impl_isNeed.f s n = some (needB n s) := by
  simp only [impl_isNeed.f, needB]
  by_cases h : s.size = n
  · subst h
    have ht : strings_Trim.f s (⟨#[48, 49, 63]⟩ : ByteArray) = some ⟨(Lib.trimS s.data.toList [48, 49, 63]).toArray⟩ := by
      unfold strings_Trim.f
      rw [if_pos ⟨hn, by decide, by decide⟩]
    rw [if_pos rfl, ht]
    simp only [Option.bind_some, trimS_beq, isSign_contains]
    simp
  · have h' : ¬ (s.size : Int) = n := by omega
    simp [h, h']
theorem impl_AreLamps.f1 : Tryd.prog.funcs[83]? = some Tryd.f83 ∧ (Tryd.f83.name == "runtime.NumGoroutine") = false ∧ Tryd.f83.body.isSome = true := ⟨Tryd.func83, by kernel_rfl, by kernel_rfl⟩
set_option maxHeartbeats 400000 in
theorem impl_AreLamps.c1 (g : Nat) (A : Option Addr) (n c : Nat) (s : ByteArray) (w : World) (hn : n ≤ 9223372036854775807) (hg : w.cell? ⟨g, 0, none⟩ = some (.slice A n c)) :
    Calls Tryd.prog 83 #[.string s, .pointer (some ⟨g, 0, none⟩)] w fun e w' => e = .returned (.bool (!needB n s)) ∧ Below w.heap.size w w' := by
  have HC := aM (fun W => impl_isNeed.calls s n _ W (isNeed_eq s n hn))
  have hu := Tryd.underlying26
  go_enter Tryd.func83, Tryd.ntmps83
  go_wp2_with (go_at_call 84; refine (HC.out _).mono ?_; rintro e w' ⟨rfl, hb⟩; have HB := aM hb; clear hb)
  go_ret
  exact ⟨rfl, HB.out⟩
def impl_AreLamps.f (l0_0 : List ByteArray) : Option Bool := some (areLampsB l0_0)
set_option maxHeartbeats 1000000 in
set_option maxRecDepth 100000 in
theorem impl_AreLamps.calls (A0_0 : Option Addr) (c0_0 : Nat) (l0_0 : List ByteArray) (r : Bool) (w : World) (hr0_0 : Kd.C Kd.string w A0_0 l0_0.length l0_0) (hc0_0 : l0_0.length ≤ c0_0) (h : impl_AreLamps.f l0_0 = some r) :
    Calls Tryd.prog 13 #[.agg #[.slice A0_0 l0_0.length c0_0]] w fun e w' => e = .returned (.bool r) ∧ Below w.heap.size w w' := by
 obtain rfl := Option.some.inj h
 clear h
 have hl := hr0_0.2.1
 have HC := aM (fun (W : World) (hb : Below w.heap.size w W) (hg : W.cell? ⟨w.heap.size, 0, none⟩ = some (.slice A0_0 l0_0.length c0_0)) =>
  slices_ContainsFunc_string_string.any 83 Tryd.f83 impl_AreLamps.f1 #[.pointer (some ⟨w.heap.size, 0, none⟩)] (fun s => !needB l0_0.length s) A0_0 c0_0 l0_0 W (Kd.C_below hr0_0 hb)
   (fun w1 x _ hb1 => impl_AreLamps.c1 w.heap.size A0_0 l0_0.length c0_0 x w1 hl ((hb1.cell (World.block_lt_of_cell? W _ hg)).trans hg)))
 have HI := aM (fun w1 => impl_in.calls l0_0.length 1 10 _ w1 (inB_ite l0_0.length 1 10))
 have hmf : ∀ (fn : Fn) (first cap : Array Value) (w : World), (Instr.makeFunc fn first cap).run Tryd.prog w = .ok (.func fn first cap) w := fun _ _ _ _ => rfl
 have hu := Tryd.underlying26
 clear hr0_0
 obtain ⟨R, hR⟩ : ∃ R, R = areLampsB l0_0 := ⟨_, rfl⟩
 rw [← hR]
 unfold areLampsB at hR
 have hall : l0_0.all (needB l0_0.length) = !(l0_0.any fun s => !needB l0_0.length s) := by simp [List.all_eq_not_any_not]
 rw [hall] at hR
 clear hall
 have HX := aM hR
 clear hR
 go_enter Tryd.func13, Tryd.ntmps13
 go_wp2_with (first
  | (go_at_call 81; refine (HI.out _).mono ?_; rintro e w' ⟨rfl, ⟨n, rfl⟩⟩)
  | (go_at_call 82; refine (HC.out _ (pw_below_drewN (below_alloc (Below.refl _ _) _) _) (by go_simp)).mono ?_; rintro e w' ⟨rfl, hb⟩; have HB := aM hb; clear hb))
 all_goals go_ret
 ·have h1 : inB l0_0.length 1 10 = true := by assumption
  exact ⟨ret_bool (by rw [HX.out, h1]; simp), below_step (pw_below_drewN (below_alloc (Below.refl _ _) _) _) HB.out⟩
 have h1 : ¬ inB l0_0.length 1 10 = true := by assumption
 exact ⟨ret_bool (by rw [HX.out]; simp [h1]), pw_below_drewN (below_alloc (Below.refl _ _) _) _⟩

/-! ### impl_Lamps_lit: function 71 -/
def impl_Lamps_lit.f (l0_0 : List ByteArray) (a1 : ByteArray) : Option (Bool) := (impl_AreLamps.f l0_0).bind fun t243 => (if t243 = true then (if (a1.size : Int) = (l0_0.length : Int) then ((strings_Trim.f a1 (⟨#[48, 49]⟩ : ByteArray)).bind fun t244 => (some (t244.toList == ([] : List UInt8)))) else (some false)) else (some false))
set_option maxHeartbeats 8000000 in
set_option maxRecDepth 100000 in
theorem impl_Lamps_lit.calls (A0_0 : Option Addr) (c0_0 : Nat) (l0_0 : List ByteArray) (a1 : ByteArray) (r : Bool) (w : World) (hr0_0 : Kd.C Kd.string w A0_0 l0_0.length l0_0) (hc0_0 : l0_0.length ≤ c0_0) (h : impl_Lamps_lit.f l0_0 a1 = some r) :
  Calls Tryd.prog 71 #[.agg #[.slice A0_0 l0_0.length c0_0], .string a1] w fun e w' => e = .returned (.bool r) ∧ Below w.heap.size w w' := by
 have hu26 := Tryd.underlying26
 have HR0_0 := aM hr0_0
 have HC0_0 := aM hc0_0
 clear hr0_0 hc0_0
 have HB := aM (Below.refl w.heap.size w)
 have H := h
 clear h; unfold impl_Lamps_lit.f at H
 replace H := bC H; obtain ⟨t243, A3, H⟩ := H
 refine iB H ?_ ?_ <;> clear H <;> rintro rfl H
 ·refine iI H ?_ ?_ <;> clear H <;> intro c5 H
  ·have c5b0 := qT c5
   have c5b1 := nF c5
   have c5b2 : (a1.size == l0_0.length) = true := by first | simpa using c5 | (simp at c5 ⊢; omega)
   clear c5
   replace H := bC H; obtain ⟨t244, A6, H⟩ := H
   obtain rfl := Option.some.inj H
   go_enter Tryd.func71, Tryd.ntmps71
   go_wp2_with (first | ((with_reducible refine gate_dst (N := 2) rfl ?_); (try (refine gate_guard (by rfl) ?_; dsimp only)); refine bX (N := 2) rfl (cs := #[.slice A0_0 l0_0.length c0_0]) (t := 26) ?_; intro gb242 hg w7 BK242 hb; have GW242 := gE hg HB; have GE242 := gE hg HB; replace HB := hS HB hb; clear hb hg; obtain ⟨hcz8_0, hfz8_0⟩ := hC1 BK242) | ((with_reducible refine gG 13 (some 6) rfl rfl ?_); refine gC Tryd.func13 (impl_AreLamps.calls _ _ l0_0 true _ (cU (Kd.C_below HR0_0.out HB.out)) HC0_0.out A3.out) ?_; rintro w9 hb; replace BK242 := bB BK242 hb; replace HB := hS HB hb; clear hb; obtain ⟨hcz10_0, hfz10_0⟩ := hC1 BK242) | (go_at_call 141; (with_reducible refine (strings_Trim.calls a1 (⟨#[48, 49]⟩ : ByteArray) t244 _ A6.out).mono ?_); rintro e w11 ⟨rfl, hb⟩; replace BK242 := bB BK242 hb; replace HB := hS HB hb; clear hb))
   go_ret
   exact ⟨eW, bel HB⟩
  have c5b0 := qF c5
  have c5b1 := nT c5
  have c5b2 : (a1.size == l0_0.length) = false := by first | simpa using c5 | (simp at c5 ⊢; omega)
  obtain rfl := Option.some.inj H
  go_enter Tryd.func71, Tryd.ntmps71
  go_wp2_with (first | ((with_reducible refine gate_dst (N := 2) rfl ?_); (try (refine gate_guard (by rfl) ?_; dsimp only)); refine bX (N := 2) rfl (cs := #[.slice A0_0 l0_0.length c0_0]) (t := 26) ?_; intro gb242 hg w12 BK242 hb; have GW242 := gE hg HB; have GE242 := gE hg HB; replace HB := hS HB hb; clear hb hg; obtain ⟨hcz13_0, hfz13_0⟩ := hC1 BK242) | ((with_reducible refine gG 13 (some 6) rfl rfl ?_); refine gC Tryd.func13 (impl_AreLamps.calls _ _ l0_0 true _ (cU (Kd.C_below HR0_0.out HB.out)) HC0_0.out A3.out) ?_; rintro w14 hb; replace BK242 := bB BK242 hb; replace HB := hS HB hb; clear hb; obtain ⟨hcz15_0, hfz15_0⟩ := hC1 BK242))
  go_ret
  exact ⟨eW, bel HB⟩
 obtain rfl := Option.some.inj H
 go_enter Tryd.func71, Tryd.ntmps71
 go_wp2_with (first | ((with_reducible refine gate_dst (N := 2) rfl ?_); (try (refine gate_guard (by rfl) ?_; dsimp only)); refine bX (N := 2) rfl (cs := #[.slice A0_0 l0_0.length c0_0]) (t := 26) ?_; intro gb242 hg w16 BK242 hb; have GW242 := gE hg HB; have GE242 := gE hg HB; replace HB := hS HB hb; clear hb hg; obtain ⟨hcz17_0, hfz17_0⟩ := hC1 BK242) | ((with_reducible refine gG 13 (some 6) rfl rfl ?_); refine gC Tryd.func13 (impl_AreLamps.calls _ _ l0_0 false _ (cU (Kd.C_below HR0_0.out HB.out)) HC0_0.out A3.out) ?_; rintro w18 hb; replace BK242 := bB BK242 hb; replace HB := hS HB hb; clear hb))
 go_ret
 exact ⟨eW, bel HB⟩

/-! ### impl_isTicks: function 72 -/
def impl_isTicks.f (a0 : Int) : Option (Bool) := (impl_in.f a0 0 1000000).bind fun t245 => (some t245)
set_option maxHeartbeats 8000000 in
set_option maxRecDepth 100000 in
theorem impl_isTicks.calls (a0 : Int) (r : Bool) (w : World) (h : impl_isTicks.f a0 = some r) :
  Calls Tryd.prog 72 #[.int .i64 a0] w fun e w' => e = .returned (.bool r) ∧ Drawn0 w w' := by
 have H := h
 clear h; unfold impl_isTicks.f at H
 replace H := bC H; obtain ⟨t245, A2, H⟩ := H
 obtain rfl := Option.some.inj H
 go_enter Tryd.func72, Tryd.ntmps72
 go_wp2_with (first | ((with_reducible refine gG 81 (some 4) rfl rfl ?_); refine gL Tryd.func81 #[.int .i64 a0, .int .i64 0, .int .i64 1000000] ?_; (with_reducible refine (impl_in.calls a0 0 1000000 t245 _ A2.out).mono ?_); rintro e w' ⟨rfl, ⟨nd, rfl⟩⟩; refine ⟨_, rfl, ?_⟩))
 go_ret
 exact ⟨rF, d0⟩

end Go.Proofs.YtiiahdjjngdgoaaDoor.PLTick
