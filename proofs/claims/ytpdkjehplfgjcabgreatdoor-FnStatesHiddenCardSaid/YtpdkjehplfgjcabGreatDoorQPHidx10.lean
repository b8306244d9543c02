-- squeezed (sq3.py); PRINTED by drive.py (a program of this session's, over the kit's print.py; wip/tools/drive.py). Lean checks it.
import Derived.Test.YtpdkjehplfgjcabGreatDoorQPHidx0
import Derived.Test.YtpdkjehplfgjcabGreatDoorQPHidx2
import Derived.Test.YtpdkjehplfgjcabGreatDoorQPHidx3
import Derived.Test.YtpdkjehplfgjcabGreatDoorQPHidx8
import Derived.Test.YtpdkjehplfgjcabGreatDoorQPHidx9
import Derived.Test.YtpdkjehplfgjcabGreatDoorQSq
namespace Go.Proofs.YtpdkjehplfgjcabGreatDoor.PHid
open Go.RowKit Go.Proofs.YtpdkjehplfgjcabGreatDoorW.PrintWords Go.Proofs.YtpdkjehplfgjcabGreatDoorW.PrintLast Go.Proofs.YtpdkjehplfgjcabGreatDoorW.PrintMore
attribute [local go_sem] max2_int min2_int max_two min_two max_three min_three max_four min_four   -- for this text's walks alone
set_option linter.unusedVariables false
set_option linter.unusedSimpArgs false

/-! ### impl_state: function 89 -/
def impl_state.l0 : Nat → Int → List Int → Int → Int → Option (ByteArray)
 | 0, _, _, _, _ => none
 | k + 1, x5, x6, x15, x16 => if x16 < x15 then (if 0 ≤ x16 then (if x16 < (x6.length : Int) then (impl_state.l0 k x5 (x6.set (x16 : Int).toNat ((48 + ((Go.bits .and .i64 (shr .i64 x5 x16) 1) % 256)) % 256)) x15 (wrap64 (x16 + 1))) else (none)) else (none)) else (some (strOfNums x6))
def impl_state.f (k : Nat) (a0 : Int) (a1 : Int) : Option (ByteArray) := if 0 ≤ a0 then (if (a0 : Int).toNat ≤ 281474976710656 then ((some (List.replicate (a0 : Int).toNat 0 : List Int)).bind fun y249 => (impl_state.l0 k (Go.bits .xor .i64 a1 (wrap64 (Int.tdiv a1 2))) y249 (y249.length : Int) 0)) else (none)) else (none)
theorem impl_state.mono_l : ∀ k, Mo (impl_state.l0 k) (impl_state.l0 (k + 1))
 | 0 => m0
 | k + 1 => by
  have ih0 := impl_state.mono_l k
  (repeat refine mE fun _ => ?_) <;> first | (unfold impl_state.l0; exact mG)
instance impl_state.mI (k : Nat) : Mo (impl_state.f k) (impl_state.f (k + 1)) := by
 have ih0 := impl_state.mono_l k
 (repeat refine mE fun _ => ?_); unfold impl_state.f; exact mG
theorem impl_state.mono : ∀ a0 a1 k, LeO (impl_state.f k a0 a1) (impl_state.f (k + 1) a0 a1) := fun a0 a1 k => (impl_state.mI k).out a0 a1
set_option maxHeartbeats 8000000 in
set_option maxRecDepth 100000 in
theorem impl_state.calls (k : Nat) (a0 : Int) (a1 : Int) (r : ByteArray) (w : World) (h : impl_state.f k a0 a1 = some r) :
  Calls Tryz.prog 89 #[.int .i64 a0, .int .i64 a1] w fun e w' => e = .returned (.string r) ∧ Below w.heap.size w w' := by
 have HB := aM (Below.refl w.heap.size w)
 have H := h
 clear h; unfold impl_state.f at H
 refine iY H ?_; clear H; intro c3 H
 have c3b0 := eq_true c3
 have c3b1 := dT c3
 clear c3
 refine iY H ?_; clear H; intro c4 H
 have c4b0 := eq_true c4
 have c4b1 := dT c4
 clear c4
 replace H := yB H; obtain ⟨y249, Ny249, H⟩ := H
 have H' := aM H
 clear H
 go_enter Tryz.func89, Tryz.ntmps89
 go_wp2_with (first | ((with_reducible refine gate_dst (N := 13) rfl ?_); refine Kd.R_make (Kd.int .u8) _ 5 rfl (N := 13) rfl 22 _ _ rfl a0 rfl rfl Tryz.underlying22 (.int .u8 0) 1 info5 rfl (by decide) (by omega) 0 (ok := fun _ => True) (okp := fun _ => True) rfl (fun _ hk => hk) trivial oD (Nat.le_trans (Nat.mul_le_mul_right _ (oD : a0.toNat ≤ 281474976710656)) (by omega)) (Below.refl _ _) (Nat.le_refl _) ?_; intro v250 w5 ho6 hb hg_ hnew_; clear hg_ hnew_; (first | rw [← Ny249.out] at ho6 | (simp only [Int.reduceToNat] at ho6; rw [← Ny249.out] at ho6)); have HO251 := rL ho6 HB; replace HB := hS HB hb; clear hb ho6; obtain ⟨Ao7, co7, eo7⟩ := Kd.R_slice HO251.out; subst eo7))
 go_loopg [16] k (fun kq v16 w' => ∃ (x6_1 : List Int) (x16_1 : Int), v16 = .int .i64 x16_1 ∧ Aside0 (impl_state.l0 kq (Go.bits .xor .i64 a1 (wrap64 (Int.tdiv a1 2))) x6_1 (y249.length : Int) x16_1 = some r) ∧ Aside0 (kq ≤ k) ∧ Aside0 (Kd.R (Kd.int .u8) 5 w' w.heap.size (fun _ => True) (.slice Ao7 y249.length co7) x6_1) ∧ Aside0 (Below w.heap.size w w'))
 case atStart => exact ⟨(y249), (0), rF, H', kR, ⟨rU HO251.out⟩, hV HB⟩
 case round =>
  clear H'
  try clear c3b0;try clear c3b1;try clear c4b0;try clear c4b1
  obtain ⟨x6_1, x16_1, rfl, HA, HK1, HO_6, HB⟩ := hrel
  have hl6_1 := (Kd.R_reads' HO_6.out).1
  rw [hl6_1] at HO_6
  (try simp only [hl6_1])
  obtain rfl | ⟨k1, rfl⟩ := fz gk
  ·exact zA HA
  have H := HA.out
  clear HA
  simp only [impl_state.l0] at H
  refine iI H ?_ ?_ <;> clear H <;> intro c8 H
  ·have c8b0 := dT c8
   try (have c8l := c8b0; simp only [hl6_1] at c8l)
   clear c8
   refine iY H ?_; clear H; intro c9 H
   have c9b0 := eq_true c9
   have c9b1 := dT c9
   clear c9
   obtain ⟨ji10, hji10⟩ := jN (shr .i64 (Go.bits .xor .i64 a1 (wrap64 (Int.tdiv a1 2))) x16_1)
   first | rw [hji10] at H | simp only [hji10] at H
   have hji10_ : ((Go.bits .xor .i64 a1 (wrap64 (Int.tdiv a1 2))) / 2 ^ min x16_1.toNat 64) = ji10 := hji10
   have hji10z : x16_1 ≤ 64 → ((Go.bits .xor .i64 a1 (wrap64 (Int.tdiv a1 2))) / 2 ^ x16_1.toNat) = ji10 := shr_small hji10
   refine iY H ?_; clear H; intro c11 H
   have c11b0 := dT c11
   try (have c11l := c11b0; simp only [hl6_1] at c11l)
   clear c11
   obtain ⟨y252, Ny252⟩ := yN (x6_1.set (x16_1 : Int).toNat ((48 + ((Go.bits .and .i64 (ji10) 1) % 256)) % 256) : List Int); rw [← Ny252.out] at H
   have H' := aM H
   clear H
   have p12 : 0 ≤ (x16_1 : Int) := oD
   have q12 : (x16_1 : Int) < ((x6_1.length : Int) : Int) := oD
   obtain ⟨go12, co12, eo12, gb12, gl12, cl12, HG12⟩ := Kd.R_form HO_6.out (by omega)
   (first | cases eo12 | (injection eo12 with ea_ en_ ec_; (first | subst ea_ | (injection ea_ with ea_; subst ea_)); subst ec_; clear en_))
   have GB12 := aM gb12
   have GG12 := aM HG12
   clear gb12 gl12 HG12
   obtain ⟨hx12_0, hf12_0⟩ := Kd.R_celln 0 HO_6.out (x16_1 : Int) p12 q12
   replace p12 := eq_true p12
   replace q12 := eq_true q12
   have HP13 := Kd.R_putg HO_6.out (x16_1 : Int) ((48 + ((Go.bits .and .i64 (ji10) 1) % 256)) % 256)
   go_wp2_with (first | ((with_reducible refine gate_store (t := 5) (p := 27) rfl ?_); refine store_event (t := 5) (p := 27) (v := ?vo_w14) (w1 := (wr.setCell ⟨go12, (x16_1 : Int).toNat, none⟩ (.int .u8 ((48 + ((Go.bits .and .i64 (ji10) 1) % 256)) % 256)))) ?hg ?ho ?hn ?hr ?_; (case ho => rfl); (case hg => rfl); (case hn => rfl); (case hr => first | (go_simp; done) | (go_simp; rfl)); intro w14 hw; have hg : wr.grownBy w14 (some go12) := (by rw [hw]; exact HP13.2); have hp_ : Kd.R (Kd.int .u8) 5 w14 w.heap.size (fun _ => True) (.slice (some ⟨go12, 0, none⟩) x6_1.length co7) y252 := (by rw [hw, Ny252.out]; exact HP13.1); clear HP13; replace HO_6 := aM (hp_); replace HB := aM ((by rw [hw]; exact below_set (HB.out) GB12.out : Below w.heap.size w w14)); clear hg hw hp_))
   (try simp only [← hl6_1])
   go_roundg k1
   case measure => have := HK1.out; omega
   case rel => exact ⟨(y252), (wrap64 (x16_1 + 1)), rF, H', ⟨by have := HK1.out; omega⟩, ⟨by (try simp only [hl6_1]); (with_reducible repeat (first | apply Kd.R_alloc | apply Kd.R_drewN | apply Kd.R_drew)); exact HO_6.out⟩, hV HB⟩
  have c8b0 := dF c8
  try (have c8l := c8b0; simp only [hl6_1] at c8l)
  clear c8
  obtain rfl := Option.some.inj H
  try rw [hl6_1] at c8b0
  have hcv15 := own_string (P := Tryz.prog) Tryz.underlying22 Tryz.underlying5 Tryz.underlying9 (Kd.own_of_R HO_6.out)
  go_wp2
  go_ret
  exact ⟨eW, bel HB⟩

/-! ### impl_fitting: function 73 -/
-- by hand (wip/ext/fitting.tpl)
/-- Does a state fit all of some clues? Told for states whose clues can all be told. -/
def fitAll (l : List S40) (s : ByteArray) : Option Bool := if (l.all fun x => (impl_Clue_fits.f 40 x.f0 x.f1 x.f2 s).isSome) = true then some (!(l.any fun x => !((impl_Clue_fits.f 40 x.f0 x.f1 x.f2 s).getD false))) else none
def takeN (r : Int) (l : List S40) (n : Int) : Option Bool := (impl_state.f 40 r n).bind fun s => fitAll l s
theorem impl_fitting.f1 : Tryz.prog.funcs[88]? = some Tryz.f88 ∧ (Tryz.f88.name == "runtime.NumGoroutine") = false ∧ Tryz.f88.body.isSome = true := ⟨Tryz.func88, by kernel_rfl, rfl⟩
theorem impl_fitting.f11 : Tryz.prog.funcs[90]? = some Tryz.f90 ∧ (Tryz.f90.name == "runtime.NumGoroutine") = false ∧ Tryz.f90.body.isSome = true := ⟨Tryz.func90, by kernel_rfl, rfl⟩
set_option maxHeartbeats 800000 in
theorem impl_fitting.c11 (g : Nat) (s : ByteArray) (a b c : Int) (t : Bool) (w : World) (hg : w.cell? ⟨g, 0, none⟩ = some (.string s)) (ht : impl_Clue_fits.f 40 a b c s = some t) :
    Calls Tryz.prog 90 #[.agg #[.int .i64 a, .int .i64 b, .int .i64 c], .pointer (some ⟨g, 0, none⟩)] w fun e w' => e = .returned (.bool (!t)) ∧ Below w.heap.size w w' := by
  have hlt := World.block_lt_of_cell? w _ hg
  have hg2 : (w.alloc (.cells #[.int .i64 a, .int .i64 b, .int .i64 c] 40)).cell? ⟨g, 0, none⟩ = some (.string s) := by
    rw [World.cell?_alloc_past _ _ _ hlt]; exact hg
  have hu26 := Tryz.underlying40
  have HC := aM (fun W => impl_Clue_fits.calls 40 a b c s t W ht)
  clear ht
  go_enter Tryz.func90, Tryz.ntmps90
  go_wp2_with (go_at_call 50; refine (HC.out _).mono ?_; rintro e w' ⟨rfl, hb⟩; have HB := aM hb; clear hb)
  go_ret
  exact ⟨rfl, ((Below.refl _ _).alloc (Nat.le_refl _) _).trans (HB.out.mono (by simp))⟩
set_option maxHeartbeats 800000 in
set_option maxRecDepth 100000 in
theorem impl_fitting.c1 (g1 g2 : Nat) (r n : Int) (A : Option Addr) (c : Nat) (l : List S40) (t : Bool) (w : World) (hg1 : w.cell? ⟨g1, 0, none⟩ = some (.int .i64 r)) (hg2 : w.cell? ⟨g2, 0, none⟩ = some (.slice A l.length c)) (hr : Kd.C k40 w A l.length l) (ht : takeN r l n = some t) :
    Calls Tryz.prog 88 #[.int .i64 n, .pointer (some ⟨g1, 0, none⟩), .pointer (some ⟨g2, 0, none⟩)] w fun e w' => e = .returned (.bool t) ∧ Below w.heap.size w w' := by
  unfold takeN at ht
  obtain ⟨s, hs, hf⟩ := Option.bind_eq_some_iff.mp ht
  clear ht
  unfold fitAll at hf
  split at hf
  case isFalse => cases hf
  case isTrue hall =>
  have hf' := Option.some.inj hf
  clear hf
  have hlt1 := World.block_lt_of_cell? w _ hg1
  have hlt2 := World.block_lt_of_cell? w _ hg2
  have hmf : ∀ (fn : Fn) (first cap : Array Value) (w : World), (Instr.makeFunc fn first cap).run Tryz.prog w = .ok (.func fn first cap) w := fun _ _ _ _ => rfl
  have HS := aM (fun W => impl_state.calls 40 r n s W hs)
  have HC := aM (fun (W : World) (g : Nat) (hb : Below w.heap.size w W) (hg : W.cell? ⟨g, 0, none⟩ = some (.string s)) =>
    impl_Clue_53.any 90 Tryz.f90 impl_fitting.f11 #[.pointer (some ⟨g, 0, none⟩)] (fun x => !((impl_Clue_fits.f 40 x.f0 x.f1 x.f2 s).getD false)) A c l W (Kd.C_below hr hb)
      (fun w1 x hx hb1 => by
        have h1 := List.all_eq_true.1 hall x hx
        obtain ⟨v, hv⟩ := Option.isSome_iff_exists.1 h1
        have := impl_fitting.c11 g s x.f0 x.f1 x.f2 v w1 ((hb1.cell (World.block_lt_of_cell? W _ hg)).trans hg) hv
        rw [hv]
        exact this))
  obtain ⟨R, hR⟩ : ∃ R, R = (l.any fun x => !((impl_Clue_fits.f 40 x.f0 x.f1 x.f2 s).getD false)) := ⟨_, rfl⟩
  have HX := aM hR
  rw [← hR] at hf'
  simp only [← hR] at HC
  subst hf'
  clear hR hs hall hr
  have HG2 := aM hg2
  have HL2 := aM hlt2
  go_enter Tryz.func88, Tryz.ntmps88
  go_wp2_with (first
    | (go_at_call 89; refine (HS.out _).mono ?_; rintro e w1 ⟨rfl, hb⟩; have HB := aM hb; have hq := (hb.cell HL2.out).trans HG2.out; have hg3 : (w1.alloc (.cells #[.string s] 9)).cell? ⟨g2, 0, none⟩ = some (.slice A l.length c) := (World.cell?_alloc_past _ _ _ (World.block_lt_of_cell? w1 _ hq)).trans hq; clear hb hq)
    | (go_at_call 53; refine (HC.out _ _ (below_alloc HB.out _) (by go_simp)).mono ?_; rintro e w2 ⟨rfl, hb⟩; have HB2 := aM (below_step (below_alloc HB.out _) hb); clear hb))
  go_ret
  exact ⟨rfl, HB2.out⟩
def impl_withNumbers.l0 (T : Int → Option Bool) : Nat → Int → List ByteArray → Int → Int → Option (List ByteArray)
 | 0, _, _, _, _ => none
 | k + 1, x0, x5, x8, x9 => if x9 < x8 then ((T x9).bind fun t178 => (if t178 = true then ((impl_state.f k x0 x9).bind fun t179 => (if x5.length < 8796093022208 then (impl_withNumbers.l0 T k x0 (x5 ++ [t179]) x8 (wrap64 (x9 + 1))) else (none))) else (impl_withNumbers.l0 T k x0 x5 x8 (wrap64 (x9 + 1))))) else (some x5)
def impl_withNumbers.f (T : Int → Option Bool) (k : Nat) (a0 : Int) : Option (List ByteArray) := if 0 ≤ a0 then (impl_withNumbers.l0 T k a0 ([] : List ByteArray) (shl .i64 1 a0) 0) else (none)
set_option maxHeartbeats 8000000 in
set_option maxRecDepth 100000 in
theorem impl_withNumbers.calls (T : Int → Option Bool) (F : FuncId) (fn : Func) (caps : Array Value) (k : Nat) (a0 : Int) (r : List ByteArray) (w : World) (HF : Aside0 (Tryz.prog.funcs[F]? = some fn ∧ (fn.name == "runtime.NumGoroutine") = false ∧ fn.body.isSome = true))
  (HT : Aside0 (∀ (n : Int) (t : Bool) (w1 : World), Below w.heap.size w w1 → T n = some t → Calls Tryz.prog F (#[.int .i64 n] ++ caps) w1 fun e w' => e = .returned (.bool t) ∧ Below w1.heap.size w1 w')) (h : impl_withNumbers.f T k a0 = some r) :
  Calls Tryz.prog 87 #[.int .i64 a0, .func (.func F) #[] caps] w fun e w' => ∃ v0_ : Value, e = .returned (v0_) ∧ Kd.R Kd.string 9 w' w.heap.size (fun _ => True) v0_ r ∧ Below w.heap.size w w' := by
 have HB := aM (Below.refl w.heap.size w)
 have H := h
 clear h; unfold impl_withNumbers.f at H
 refine iY H ?_; clear H; intro c3 H
 have c3b0 := eq_true c3
 have c3b1 := dT c3
 clear c3
 obtain ⟨ji4, hji4⟩ := jN (shl .i64 1 a0)
 first | rw [hji4] at H | simp only [hji4] at H
 have hji4_ : (IntKind.i64.wrap (1 * 2 ^ min a0.toNat 64)) = ji4 := hji4
 have hji4z : a0 ≤ 64 → (IntKind.i64.wrap (1 * 2 ^ a0.toNat)) = ji4 := shl_small hji4
 have hji4u : (IntKind.i64.wrap (2 ^ min a0.toNat 64)) = ji4 := by have h_ := hji4_; rw [Int.one_mul] at h_; exact h_
 have hji4v : a0 ≤ 64 → (IntKind.i64.wrap (2 ^ a0.toNat)) = ji4 := fun hle_ => by have h_ := hji4z hle_; rw [Int.one_mul] at h_; exact h_
 have hji4y : (wrap64 (1 * 2 ^ min a0.toNat 64)) = ji4 := (i64_w _).symm.trans hji4_
 have hji4x : a0 ≤ 64 → (wrap64 (1 * 2 ^ a0.toNat)) = ji4 := fun h_ => (i64_w _).symm.trans (hji4z h_)
 have H' := aM H
 clear H
 go_enter Tryz.func87, Tryz.ntmps87
 go_wp2
 go_loopg [5, 9] k (fun kq v5 v9 w' => ∃ (x5_1 : List ByteArray) (x9_1 : Int), v9 = .int .i64 x9_1 ∧ Aside0 (impl_withNumbers.l0 T kq a0 x5_1 ji4 x9_1 = some r) ∧ Aside0 (kq ≤ k) ∧ Aside0 (Kd.R Kd.string 9 w' w.heap.size (fun _ => True) v5 x5_1) ∧ Aside0 (Below w.heap.size w w'))
 case atStart => exact ⟨(([] : List ByteArray)), (0), rF, H', kR, ⟨by first | exact Kd.R_nil _ _ _ _ _ | exact Kd.N_nil _ _ _ _ _ | exact Kd.V_nil _ _ _ _ _ | exact Kd.Q_nil _ _ _ _ _ | exact Kd.S_nil _ _ _ _ _⟩, hV HB⟩
 case round =>
  clear H'
  try clear c3b0;try clear c3b1
  obtain ⟨x5_1, x9_1, rfl, HA, HK1, HO_5, HB⟩ := hrel
  obtain rfl | ⟨k1, rfl⟩ := fz gk
  ·exact zA HA
  have H := HA.out
  clear HA
  simp only [impl_withNumbers.l0] at H
  refine iI H ?_ ?_ <;> clear H <;> intro c5 H
  ·have c5b0 := dT c5
   clear c5
   replace H := bC H; obtain ⟨t178, A6, H⟩ := H
   refine iB H ?_ ?_ <;> clear H <;> rintro rfl H
   ·replace H := bC H; obtain ⟨t179, A8, H⟩ := H
    refine iY H ?_; clear H; intro c9 H
    have LMc9 := aM c9
    clear c9
    obtain ⟨y180, Ny180⟩ := yN (x5_1 ++ [t179] : List ByteArray); rw [← Ny180.out] at H
    have H' := aM H
    clear H
    go_wp2_with (first | ((with_reducible refine gate_dst (N := 14) rfl ?_); refine goesC_ (some 14) rfl rfl caps HF.out #[.int .i64 x9_1] rfl (by first | rfl | (go_simp; done)) (by (try simp only [List.map_toArray, List.map_cons, List.map_nil]); first | done | rfl | (simp only [List.length_drop, List.length_take]; rfl)) ?_; (with_reducible refine (HT.out x9_1 true _ (bel HB) A6.out).mono ?_); rintro e w10 ⟨rfl, hb⟩; refine ⟨_, rfl, ?_⟩; replace HO_5 := rB HO_5 hb; replace HB := hS HB hb; clear hb) | ((with_reducible refine gG 89 (some 18) rfl rfl ?_); refine gC Tryz.func89 (impl_state.calls k1 a0 x9_1 t179 _ A8.out) ?_; rintro w11 hb; replace HO_5 := rB HO_5 hb; replace HB := hS HB hb; clear hb) | ((with_reducible refine gate_builtin (b := .append) (xs := #[.tmp 15, .tmp 19]) rfl ?_); at_builtin; refine Kd.R_append Kd.string (w0 := w) w.heap.size rfl (.tmp 15) (.tmp 19) 32 9 (.string ⟨#[]⟩) 16 rfl Tryz.underlying32 info9 rfl (by decide) (by omega) u5 x5_1 t179 [.string t179] (fun _ => True) (fun _ => False) rfl rfl ?aP (fun _ hk => hk.elim) ?aF ?aO ?aB ?aS ?aL ?_; (case aP => exact rfl); (case aB => exact (bel HB)); (case aF => exact (fun _ _ => trivial)); (case aO => exact (rU HO_5.out)); (case aS => exact (below_size (bel HB))); (case aL => have := LMc9.out; omega); intro v181 w12 ho hb hg hat; rw [← Ny180.out] at ho; have HO182 := aM (ho); replace HB := aM (hb); clear HO_5; clear ho hb hg hat))
    go_roundg k1
    case measure => have := HK1.out; omega
    case rel => exact ⟨(y180), (wrap64 (x9_1 + 1)), rF, H', ⟨by have := HK1.out; omega⟩, ⟨rU HO182.out⟩, hV HB⟩
   have H' := aM H
   clear H
   go_wp2_with (first | ((with_reducible refine gate_dst (N := 14) rfl ?_); refine goesC_ (some 14) rfl rfl caps HF.out #[.int .i64 x9_1] rfl (by first | rfl | (go_simp; done)) (by (try simp only [List.map_toArray, List.map_cons, List.map_nil]); first | done | rfl | (simp only [List.length_drop, List.length_take]; rfl)) ?_; (with_reducible refine (HT.out x9_1 false _ (bel HB) A6.out).mono ?_); rintro e w13 ⟨rfl, hb⟩; refine ⟨_, rfl, ?_⟩; replace HO_5 := rB HO_5 hb; replace HB := hS HB hb; clear hb))
   go_roundg k1
   case measure => have := HK1.out; omega
   case rel => exact ⟨(x5_1), (wrap64 (x9_1 + 1)), rF, H', ⟨by have := HK1.out; omega⟩, ⟨rU HO_5.out⟩, hV HB⟩
  have c5b0 := dF c5
  clear c5
  obtain rfl := Option.some.inj H
  go_wp2
  go_ret
  exact ⟨_, by first | rfl | (simp [errW_none, errW_some] <;> rfl) | (simp only [← hji4]; first | rfl | (simp [errW_none, errW_some] <;> rfl)) | (simp [*, errW_none, errW_some] <;> rfl), rU HO_5.out, bel HB⟩

def impl_fitting.f (a0 : Int) (l1 : List S40) : Option (List ByteArray) := impl_withNumbers.f (takeN a0 l1) 200 a0
set_option maxHeartbeats 1000000 in
set_option maxRecDepth 100000 in
theorem impl_fitting.calls (a0 : Int) (A1 : Option Addr) (c1 : Nat) (l1 : List S40) (r : List ByteArray) (w : World) (hr1 : Kd.C k40 w A1 l1.length l1) (hc1 : l1.length ≤ c1) (h : impl_fitting.f a0 l1 = some r) :
    Calls Tryz.prog 73 #[.int .i64 a0, .slice A1 l1.length c1] w fun e w' => ∃ v0_ : Value, e = .returned (v0_) ∧ Kd.R Kd.string 9 w' w.heap.size (fun _ => True) v0_ r ∧ Below w.heap.size w w' := by
 have hmf : ∀ (fn : Fn) (first cap : Array Value) (w : World), (Instr.makeFunc fn first cap).run Tryz.prog w = .ok (.func fn first cap) w := fun _ _ _ _ => rfl
 have HW := aM (fun (W : World) (g1 g2 : Nat) (hb : Below w.heap.size w W) (hg1 : W.cell? ⟨g1, 0, none⟩ = some (.int .i64 a0)) (hg2 : W.cell? ⟨g2, 0, none⟩ = some (.slice A1 l1.length c1)) =>
  impl_withNumbers.calls (takeN a0 l1) 88 Tryz.f88 #[.pointer (some ⟨g1, 0, none⟩), .pointer (some ⟨g2, 0, none⟩)] 200 a0 r W ⟨impl_fitting.f1⟩
   ⟨fun n t w1 hb1 ht => impl_fitting.c1 g1 g2 a0 n A1 c1 l1 t w1 ((hb1.cell (World.block_lt_of_cell? W _ hg1)).trans hg1) ((hb1.cell (World.block_lt_of_cell? W _ hg2)).trans hg2) (Kd.C_below hr1 (below_step hb hb1)) ht⟩ h)
 clear h hr1 hc1
 go_enter Tryz.func73, Tryz.ntmps73
 go_wp2_with (go_at_call 87; refine (HW.out _ _ _ (below_alloc (below_alloc (Below.refl _ _) _) _) (by go_simp) (by go_simp)).mono ?_; rintro e w1 ⟨v, rfl, hR, hb⟩; have HR := aM (Kd.R_lower hR (below_size (below_alloc (below_alloc (Below.refl _ _) _) _))); have HB := aM (below_step (below_alloc (below_alloc (Below.refl _ _) _) _) hb); clear hb hR)
 go_ret
 exact ⟨_, rfl, HR.out, HB.out⟩

/-! ### impl_Puzzle_solutions: function 47 -/
def impl_Puzzle_solutions.f (a0_0 : Int) (l0_1 : List (S40)) : Option (List ByteArray) := (impl_fitting.f a0_0 l0_1).bind fun t254 => (some t254)
set_option maxHeartbeats 8000000 in
set_option maxRecDepth 100000 in
theorem impl_Puzzle_solutions.calls (a0_0 : Int) (A0_1 : Option Addr) (c0_1 : Nat) (l0_1 : List (S40)) (r : List ByteArray) (w : World) (hr0_1 : Kd.C k40 w A0_1 l0_1.length l0_1) (hc0_1 : l0_1.length ≤ c0_1) (h : impl_Puzzle_solutions.f a0_0 l0_1 = some r) :
  Calls Tryz.prog 47 #[.agg #[.int .i64 a0_0, .slice A0_1 l0_1.length c0_1]] w fun e w' => ∃ v0_ : Value, e = .returned (v0_) ∧ Kd.R Kd.string 9 w' w.heap.size (fun _ => True) v0_ r ∧ Below w.heap.size w w' := by
 have hu28 := Tryz.underlying28
 have HR0_1 := aM hr0_1
 have HC0_1 := aM hc0_1
 clear hr0_1 hc0_1
 have HB := aM (Below.refl w.heap.size w)
 have H := h
 clear h; unfold impl_Puzzle_solutions.f at H
 replace H := bC H; obtain ⟨t254, A2, H⟩ := H
 obtain rfl := Option.some.inj H
 go_enter Tryz.func47, Tryz.ntmps47
 go_wp2_with (first | (refine bX (N := 1) rfl (cs := #[.int .i64 a0_0, .slice A0_1 l0_1.length c0_1]) (t := 28) ?_; intro gb253 hg w3 BK253 hb; have GW253 := gE hg HB; have GE253 := gE hg HB; replace HB := hS HB hb; clear hb hg; obtain ⟨hcz4_0, hcz4_1, hfz4_0, hfz4_1⟩ := hC2 BK253) | ((with_reducible refine gG 73 (some 7) rfl rfl ?_); refine gD Tryz.func73 (impl_fitting.calls a0_0 _ _ l0_1 t254 _ (cU (Kd.C_below HR0_1.out HB.out)) HC0_1.out A2.out) ?_; rintro w5 v255 ⟨ho0, hb⟩; have HO256 := rL ho0 HB; replace BK253 := bB BK253 hb; replace HB := hS HB hb; clear hb ho0))
 go_ret
 exact ⟨_, eW, rU HO256.out, bel HB⟩

/-! ### impl_Solutions: function 9 -/
def impl_Solutions.f (a0_0 : Int) (l0_1 : List (S40)) : Option (List ByteArray × Bool) := (impl_IsPuzzle.f a0_0 l0_1).bind fun t258 => (if t258 = true then ((impl_Puzzle_solutions.f a0_0 l0_1).bind fun t259 => (some (t259, true))) else (some (([] : List ByteArray), false)))
set_option maxHeartbeats 8000000 in
set_option maxRecDepth 100000 in
theorem impl_Solutions.calls (a0_0 : Int) (A0_1 : Option Addr) (c0_1 : Nat) (l0_1 : List (S40)) (r1 : List ByteArray) (r2 : Bool) (w : World) (hr0_1 : Kd.C k40 w A0_1 l0_1.length l0_1) (hc0_1 : l0_1.length ≤ c0_1) (h : impl_Solutions.f a0_0 l0_1 = some (r1, r2)) :
  Calls Tryz.prog 9 #[.agg #[.int .i64 a0_0, .slice A0_1 l0_1.length c0_1]] w fun e w' => ∃ v0_ : Value, e = .returned (.tuple #[v0_, .bool r2]) ∧ Kd.R Kd.string 9 w' w.heap.size (fun _ => True) v0_ r1 ∧ Below w.heap.size w w' := by
 have hu28 := Tryz.underlying28
 have HR0_1 := aM hr0_1
 have HC0_1 := aM hc0_1
 clear hr0_1 hc0_1
 have HB := aM (Below.refl w.heap.size w)
 have H := h
 clear h; unfold impl_Solutions.f at H
 replace H := bC H; obtain ⟨t258, A2, H⟩ := H
 refine iB H ?_ ?_ <;> clear H <;> rintro rfl H
 ·replace H := bC H; obtain ⟨t259, A4, H⟩ := H
  simp only [Option.some.injEq, Prod.mk.injEq] at H
  obtain ⟨rfl, rfl⟩ := H
  go_enter Tryz.func9, Tryz.ntmps9
  go_wp2_with (first | (refine bX (N := 1) rfl (cs := #[.int .i64 a0_0, .slice A0_1 l0_1.length c0_1]) (t := 28) ?_; intro gb257 hg w5 BK257 hb; have GW257 := gE hg HB; have GE257 := gE hg HB; replace HB := hS HB hb; clear hb hg; obtain ⟨hcz6_0, hcz6_1, hfz6_0, hfz6_1⟩ := hC2 BK257) | ((with_reducible refine gG 14 (some 5) rfl rfl ?_); refine gC Tryz.func14 (impl_IsPuzzle.calls a0_0 _ _ l0_1 true _ (cU (Kd.C_below HR0_1.out HB.out)) HC0_1.out A2.out) ?_; rintro w7 hb; replace BK257 := bB BK257 hb; replace HB := hS HB hb; clear hb; obtain ⟨hcz8_0, hcz8_1, hfz8_0, hfz8_1⟩ := hC2 BK257) | ((with_reducible refine gG 47 (some 8) rfl rfl ?_); refine gD Tryz.func47 (impl_Puzzle_solutions.calls a0_0 _ _ l0_1 t259 _ (cU (Kd.C_below HR0_1.out HB.out)) HC0_1.out A4.out) ?_; rintro w9 v260 ⟨ho0, hb⟩; have HO261 := rL ho0 HB; replace BK257 := bB BK257 hb; replace HB := hS HB hb; clear hb ho0))
  go_ret2
  exact ⟨_, eW, rU HO261.out, bel HB⟩
 simp only [Option.some.injEq, Prod.mk.injEq] at H
 obtain ⟨rfl, rfl⟩ := H
 go_enter Tryz.func9, Tryz.ntmps9
 go_wp2_with (first | (refine bX (N := 1) rfl (cs := #[.int .i64 a0_0, .slice A0_1 l0_1.length c0_1]) (t := 28) ?_; intro gb257 hg w10 BK257 hb; have GW257 := gE hg HB; have GE257 := gE hg HB; replace HB := hS HB hb; clear hb hg; obtain ⟨hcz11_0, hcz11_1, hfz11_0, hfz11_1⟩ := hC2 BK257) | ((with_reducible refine gG 14 (some 5) rfl rfl ?_); refine gC Tryz.func14 (impl_IsPuzzle.calls a0_0 _ _ l0_1 false _ (cU (Kd.C_below HR0_1.out HB.out)) HC0_1.out A2.out) ?_; rintro w12 hb; replace BK257 := bB BK257 hb; replace HB := hS HB hb; clear hb))
 go_ret2
 exact ⟨_, eW, by first | exact Kd.R_nil _ _ _ _ _ | exact Kd.N_nil _ _ _ _ _ | exact Kd.V_nil _ _ _ _ _ | exact Kd.Q_nil _ _ _ _ _ | exact Kd.S_nil _ _ _ _ _, bel HB⟩

/-! ### impl_NumberOfState: function 10 -/
def impl_NumberOfState.f (k : Nat) (a0 : ByteArray) : Option (Int × Bool) := (impl_IsState.f a0).bind fun t262 => (if t262 = true then ((impl_number.f k a0).bind fun t263 => (some (t263, true))) else (some (0, false)))
instance impl_NumberOfState.mI (k : Nat) : Mo (impl_NumberOfState.f k) (impl_NumberOfState.f (k + 1)) := by
 (repeat refine mE fun _ => ?_); unfold impl_NumberOfState.f; exact mG
theorem impl_NumberOfState.mono : ∀ a0 k, LeO (impl_NumberOfState.f k a0) (impl_NumberOfState.f (k + 1) a0) := fun a0 k => (impl_NumberOfState.mI k).out a0
set_option maxHeartbeats 8000000 in
set_option maxRecDepth 100000 in
theorem impl_NumberOfState.calls (k : Nat) (a0 : ByteArray) (r1 : Int) (r2 : Bool) (w : World) (h : impl_NumberOfState.f k a0 = some (r1, r2)) :
  Calls Tryz.prog 10 #[.string a0] w fun e w' => e = .returned (.tuple #[.int .i64 r1, .bool r2]) ∧ Below w.heap.size w w' := by
 have HB := aM (Below.refl w.heap.size w)
 have H := h
 clear h; unfold impl_NumberOfState.f at H
 replace H := bC H; obtain ⟨t262, A2, H⟩ := H
 refine iB H ?_ ?_ <;> clear H <;> rintro rfl H
 ·replace H := bC H; obtain ⟨t263, A4, H⟩ := H
  simp only [Option.some.injEq, Prod.mk.injEq] at H
  obtain ⟨rfl, rfl⟩ := H
  go_enter Tryz.func10, Tryz.ntmps10
  go_wp2_with (first | ((with_reducible refine gG 48 (some 5) rfl rfl ?_); refine gC Tryz.func48 (impl_IsState.calls a0 true _ A2.out) ?_; rintro w5 hb; replace HB := hS HB hb; clear hb) | ((with_reducible refine gG 49 (some 8) rfl rfl ?_); refine gL Tryz.func49 #[.string a0] ?_; (with_reducible refine (impl_number.calls k a0 t263 _ A4.out).mono ?_); rintro e w' ⟨rfl, ⟨nd, rfl⟩⟩; refine ⟨_, rfl, ?_⟩))
  go_ret2
  exact ⟨eW, bel HB⟩
 simp only [Option.some.injEq, Prod.mk.injEq] at H
 obtain ⟨rfl, rfl⟩ := H
 go_enter Tryz.func10, Tryz.ntmps10
 go_wp2_with (first | ((with_reducible refine gG 48 (some 5) rfl rfl ?_); refine gC Tryz.func48 (impl_IsState.calls a0 false _ A2.out) ?_; rintro w6 hb; replace HB := hS HB hb; clear hb))
 go_ret2
 exact ⟨eW, bel HB⟩

/-! ### impl_DoesFit: function 11 -/
def impl_DoesFit.f (k : Nat) (a0_0 : Int) (a0_1 : Int) (a0_2 : Int) (a1 : ByteArray) : Option (Bool × Bool) := (impl_isHidden.f a1).bind fun t265 => (if t265 = true then ((impl_IsClue.f k (a1.size : Int) a0_0 a0_1 a0_2).bind fun t266 => (if t266 = true then ((impl_Clue_fits.f k a0_0 a0_1 a0_2 a1).bind fun t267 => (some (t267, true))) else (some (false, false)))) else (some (false, false)))
instance impl_DoesFit.mI (k : Nat) : Mo (impl_DoesFit.f k) (impl_DoesFit.f (k + 1)) := by
 (repeat refine mE fun _ => ?_); unfold impl_DoesFit.f; exact mG
theorem impl_DoesFit.mono : ∀ a0 a1 a2 a3 k, LeO (impl_DoesFit.f k a0 a1 a2 a3) (impl_DoesFit.f (k + 1) a0 a1 a2 a3) := fun a0 a1 a2 a3 k => (impl_DoesFit.mI k).out a0 a1 a2 a3
set_option maxHeartbeats 8000000 in
set_option maxRecDepth 100000 in
theorem impl_DoesFit.calls (k : Nat) (a0_0 : Int) (a0_1 : Int) (a0_2 : Int) (a1 : ByteArray) (r1 : Bool) (r2 : Bool) (w : World) (h : impl_DoesFit.f k a0_0 a0_1 a0_2 a1 = some (r1, r2)) :
  Calls Tryz.prog 11 #[.agg #[.int .i64 a0_0, .int .i64 a0_1, .int .i64 a0_2], .string a1] w fun e w' => e = .returned (.tuple #[.bool r1, .bool r2]) ∧ Below w.heap.size w w' := by
 have hu40 := Tryz.underlying40
 have HB := aM (Below.refl w.heap.size w)
 have H := h
 clear h; unfold impl_DoesFit.f at H
 replace H := bC H; obtain ⟨t265, A3, H⟩ := H
 refine iB H ?_ ?_ <;> clear H <;> rintro rfl H
 ·replace H := bC H; obtain ⟨t266, A5, H⟩ := H
  refine iB H ?_ ?_ <;> clear H <;> rintro rfl H
  ·replace H := bC H; obtain ⟨t267, A7, H⟩ := H
   simp only [Option.some.injEq, Prod.mk.injEq] at H
   obtain ⟨rfl, rfl⟩ := H
   go_enter Tryz.func11, Tryz.ntmps11
   go_wp2_with (first | ((with_reducible refine gate_dst (N := 2) rfl ?_); (try (refine gate_guard (by rfl) ?_; dsimp only)); refine bX (N := 2) rfl (cs := #[.int .i64 a0_0, .int .i64 a0_1, .int .i64 a0_2]) (t := 40) ?_; intro gb264 hg w8 BK264 hb; have GW264 := gE hg HB; have GE264 := gE hg HB; replace HB := hS HB hb; clear hb hg) | ((with_reducible refine gG 39 (some 7) rfl rfl ?_); refine gC Tryz.func39 (impl_isHidden.calls a1 true _ A3.out) ?_; rintro w9 hb; replace BK264 := bB BK264 hb; replace HB := hS HB hb; clear hb; obtain ⟨hcz10_0, hcz10_1, hcz10_2, hfz10_0, hfz10_1, hfz10_2⟩ := hC3 BK264) | (go_at_call 32; (with_reducible refine (impl_IsClue.calls k (a1.size : Int) a0_0 a0_1 a0_2 true _ A5.out).mono ?_); rintro e w11 ⟨rfl, hb⟩; replace BK264 := bB BK264 hb; replace HB := hS HB hb; clear hb; obtain ⟨hcz12_0, hcz12_1, hcz12_2, hfz12_0, hfz12_1, hfz12_2⟩ := hC3 BK264) | ((with_reducible refine gG 50 (some 18) rfl rfl ?_); refine gC Tryz.func50 (impl_Clue_fits.calls k a0_0 a0_1 a0_2 a1 t267 _ A7.out) ?_; rintro w13 hb; replace BK264 := bB BK264 hb; replace HB := hS HB hb; clear hb))
   go_ret2
   exact ⟨eW, bel HB⟩
  simp only [Option.some.injEq, Prod.mk.injEq] at H
  obtain ⟨rfl, rfl⟩ := H
  go_enter Tryz.func11, Tryz.ntmps11
  go_wp2_with (first | ((with_reducible refine gate_dst (N := 2) rfl ?_); (try (refine gate_guard (by rfl) ?_; dsimp only)); refine bX (N := 2) rfl (cs := #[.int .i64 a0_0, .int .i64 a0_1, .int .i64 a0_2]) (t := 40) ?_; intro gb264 hg w14 BK264 hb; have GW264 := gE hg HB; have GE264 := gE hg HB; replace HB := hS HB hb; clear hb hg) | ((with_reducible refine gG 39 (some 7) rfl rfl ?_); refine gC Tryz.func39 (impl_isHidden.calls a1 true _ A3.out) ?_; rintro w15 hb; replace BK264 := bB BK264 hb; replace HB := hS HB hb; clear hb; obtain ⟨hcz16_0, hcz16_1, hcz16_2, hfz16_0, hfz16_1, hfz16_2⟩ := hC3 BK264) | (go_at_call 32; (with_reducible refine (impl_IsClue.calls k (a1.size : Int) a0_0 a0_1 a0_2 false _ A5.out).mono ?_); rintro e w17 ⟨rfl, hb⟩; replace BK264 := bB BK264 hb; replace HB := hS HB hb; clear hb))
  go_ret2
  exact ⟨eW, bel HB⟩
 simp only [Option.some.injEq, Prod.mk.injEq] at H
 obtain ⟨rfl, rfl⟩ := H
 go_enter Tryz.func11, Tryz.ntmps11
 go_wp2_with (first | ((with_reducible refine gate_dst (N := 2) rfl ?_); (try (refine gate_guard (by rfl) ?_; dsimp only)); refine bX (N := 2) rfl (cs := #[.int .i64 a0_0, .int .i64 a0_1, .int .i64 a0_2]) (t := 40) ?_; intro gb264 hg w18 BK264 hb; have GW264 := gE hg HB; have GE264 := gE hg HB; replace HB := hS HB hb; clear hb hg) | ((with_reducible refine gG 39 (some 7) rfl rfl ?_); refine gC Tryz.func39 (impl_isHidden.calls a1 false _ A3.out) ?_; rintro w19 hb; replace BK264 := bB BK264 hb; replace HB := hS HB hb; clear hb))
 go_ret2
 exact ⟨eW, bel HB⟩

/-! ### impl_movesOf: function 52 -/
def impl_movesOf.l0 : Nat → ByteArray → List Int → Int → Int → Option (List Int)
 | 0, _, _, _, _ => none
 | k + 1, x0, x3, x6, x7 => if x7 < x6 then ((impl_canMove.f x0 x7).bind fun t268 => (if t268 = true then (if x3.length < 17592186044416 then (impl_movesOf.l0 k x0 (x3 ++ [x7]) x6 (wrap64 (x7 + 1))) else (none)) else (impl_movesOf.l0 k x0 x3 x6 (wrap64 (x7 + 1))))) else (some x3)
def impl_movesOf.f (k : Nat) (a0 : ByteArray) : Option (List Int) := impl_movesOf.l0 k a0 ([] : List Int) (a0.size : Int) 0
theorem impl_movesOf.mono_l : ∀ k, Mo (impl_movesOf.l0 k) (impl_movesOf.l0 (k + 1))
 | 0 => m0
 | k + 1 => by
  have ih0 := impl_movesOf.mono_l k
  (repeat refine mE fun _ => ?_) <;> first | (unfold impl_movesOf.l0; exact mG)
instance impl_movesOf.mI (k : Nat) : Mo (impl_movesOf.f k) (impl_movesOf.f (k + 1)) := by
 have ih0 := impl_movesOf.mono_l k
 (repeat refine mE fun _ => ?_); unfold impl_movesOf.f; exact mG
theorem impl_movesOf.mono : ∀ a0 k, LeO (impl_movesOf.f k a0) (impl_movesOf.f (k + 1) a0) := fun a0 k => (impl_movesOf.mI k).out a0
set_option maxHeartbeats 8000000 in
set_option maxRecDepth 100000 in
theorem impl_movesOf.calls (k : Nat) (a0 : ByteArray) (r : List Int) (w : World) (h : impl_movesOf.f k a0 = some r) :
  Calls Tryz.prog 52 #[.string a0] w fun e w' => ∃ v0_ : Value, e = .returned (v0_) ∧ Kd.R (Kd.int .i64) 3 w' w.heap.size (fun _ => True) v0_ r ∧ Below w.heap.size w w' := by
 have HB := aM (Below.refl w.heap.size w)
 have H := h
 clear h; unfold impl_movesOf.f at H
 have H' := aM H
 clear H
 go_enter Tryz.func52, Tryz.ntmps52
 go_wp2
 go_loopg [3, 7] k (fun kq v3 v7 w' => ∃ (x3_1 : List Int) (x7_1 : Int), v7 = .int .i64 x7_1 ∧ Aside0 (impl_movesOf.l0 kq a0 x3_1 (a0.size : Int) x7_1 = some r) ∧ Aside0 (kq ≤ k) ∧ Aside0 (Kd.R (Kd.int .i64) 3 w' w.heap.size (fun _ => True) v3 x3_1) ∧ Aside0 (Below w.heap.size w w'))
 case atStart => exact ⟨(([] : List Int)), (0), rF, H', kR, ⟨by first | exact Kd.R_nil _ _ _ _ _ | exact Kd.N_nil _ _ _ _ _ | exact Kd.V_nil _ _ _ _ _ | exact Kd.Q_nil _ _ _ _ _ | exact Kd.S_nil _ _ _ _ _⟩, hV HB⟩
 case round =>
  clear H'
  obtain ⟨x3_1, x7_1, rfl, HA, HK1, HO_3, HB⟩ := hrel
  obtain rfl | ⟨k1, rfl⟩ := fz gk
  ·exact zA HA
  have H := HA.out
  clear HA
  simp only [impl_movesOf.l0] at H
  refine iI H ?_ ?_ <;> clear H <;> intro c2 H
  ·have c2b0 := dT c2
   clear c2
   replace H := bC H; obtain ⟨t268, A3, H⟩ := H
   refine iB H ?_ ?_ <;> clear H <;> rintro rfl H
   ·refine iY H ?_; clear H; intro c5 H
    have LMc5 := aM c5
    clear c5
    obtain ⟨y269, Ny269⟩ := yN (x3_1 ++ [x7_1] : List Int); rw [← Ny269.out] at H
    have H' := aM H
    clear H
    go_wp2_with (first | ((with_reducible refine gG 69 (some 12) rfl rfl ?_); refine gC Tryz.func69 (impl_canMove.calls a0 x7_1 true _ A3.out) ?_; rintro w6 hb; replace HO_3 := rB HO_3 hb; replace HB := hS HB hb; clear hb) | ((with_reducible refine gate_builtin (b := .append) (xs := #[.tmp 13, .tmp 15]) rfl ?_); at_builtin; refine Kd.R_append (Kd.int .i64) (w0 := w) w.heap.size rfl (.tmp 13) (.tmp 15) 41 3 (.int .i64 0) 8 rfl Tryz.underlying41 info3 rfl (by decide) (by omega) u3 x3_1 x7_1 [.int .i64 x7_1] (fun _ => True) (fun _ => False) rfl rfl ?aP (fun _ hk => hk.elim) ?aF ?aO ?aB ?aS ?aL ?_; (case aP => exact rfl); (case aB => exact (bel HB)); (case aF => exact (fun _ _ => trivial)); (case aO => exact (rU HO_3.out)); (case aS => exact (below_size (bel HB))); (case aL => have := LMc5.out; omega); intro v270 w7 ho hb hg hat; rw [← Ny269.out] at ho; have HO271 := aM (ho); replace HB := aM (hb); clear HO_3; clear ho hb hg hat))
    go_roundg k1
    case measure => have := HK1.out; omega
    case rel => exact ⟨(y269), (wrap64 (x7_1 + 1)), rF, H', ⟨by have := HK1.out; omega⟩, ⟨rU HO271.out⟩, hV HB⟩
   have H' := aM H
   clear H
   go_wp2_with (first | ((with_reducible refine gG 69 (some 12) rfl rfl ?_); refine gC Tryz.func69 (impl_canMove.calls a0 x7_1 false _ A3.out) ?_; rintro w8 hb; replace HO_3 := rB HO_3 hb; replace HB := hS HB hb; clear hb))
   go_roundg k1
   case measure => have := HK1.out; omega
   case rel => exact ⟨(x3_1), (wrap64 (x7_1 + 1)), rF, H', ⟨by have := HK1.out; omega⟩, ⟨rU HO_3.out⟩, hV HB⟩
  have c2b0 := dF c2
  clear c2
  obtain rfl := Option.some.inj H
  go_wp2
  go_ret
  exact ⟨_, eW, rU HO_3.out, bel HB⟩

/-! ### impl_MovesOf: function 13 -/
def impl_MovesOf.f (k : Nat) (a0 : ByteArray) : Option (List Int × Bool) := (impl_IsState.f a0).bind fun t272 => (if t272 = true then ((impl_movesOf.f k a0).bind fun t273 => (some (t273, true))) else (some (([] : List Int), false)))
instance impl_MovesOf.mI (k : Nat) : Mo (impl_MovesOf.f k) (impl_MovesOf.f (k + 1)) := by
 (repeat refine mE fun _ => ?_); unfold impl_MovesOf.f; exact mG
theorem impl_MovesOf.mono : ∀ a0 k, LeO (impl_MovesOf.f k a0) (impl_MovesOf.f (k + 1) a0) := fun a0 k => (impl_MovesOf.mI k).out a0
set_option maxHeartbeats 8000000 in
set_option maxRecDepth 100000 in
theorem impl_MovesOf.calls (k : Nat) (a0 : ByteArray) (r1 : List Int) (r2 : Bool) (w : World) (h : impl_MovesOf.f k a0 = some (r1, r2)) :
  Calls Tryz.prog 13 #[.string a0] w fun e w' => ∃ v0_ : Value, e = .returned (.tuple #[v0_, .bool r2]) ∧ Kd.R (Kd.int .i64) 3 w' w.heap.size (fun _ => True) v0_ r1 ∧ Below w.heap.size w w' := by
 have HB := aM (Below.refl w.heap.size w)
 have H := h
 clear h; unfold impl_MovesOf.f at H
 replace H := bC H; obtain ⟨t272, A2, H⟩ := H
 refine iB H ?_ ?_ <;> clear H <;> rintro rfl H
 ·replace H := bC H; obtain ⟨t273, A4, H⟩ := H
  simp only [Option.some.injEq, Prod.mk.injEq] at H
  obtain ⟨rfl, rfl⟩ := H
  go_enter Tryz.func13, Tryz.ntmps13
  go_wp2_with (first | ((with_reducible refine gG 48 (some 5) rfl rfl ?_); refine gC Tryz.func48 (impl_IsState.calls a0 true _ A2.out) ?_; rintro w5 hb; replace HB := hS HB hb; clear hb) | ((with_reducible refine gG 52 (some 8) rfl rfl ?_); refine gD Tryz.func52 (impl_movesOf.calls k a0 t273 _ A4.out) ?_; rintro w6 v274 ⟨ho0, hb⟩; have HO275 := rL ho0 HB; replace HB := hS HB hb; clear hb ho0))
  go_ret2
  exact ⟨_, eW, rU HO275.out, bel HB⟩
 simp only [Option.some.injEq, Prod.mk.injEq] at H
 obtain ⟨rfl, rfl⟩ := H
 go_enter Tryz.func13, Tryz.ntmps13
 go_wp2_with (first | ((with_reducible refine gG 48 (some 5) rfl rfl ?_); refine gC Tryz.func48 (impl_IsState.calls a0 false _ A2.out) ?_; rintro w7 hb; replace HB := hS HB hb; clear hb))
 go_ret2
 exact ⟨_, eW, by first | exact Kd.R_nil _ _ _ _ _ | exact Kd.N_nil _ _ _ _ _ | exact Kd.V_nil _ _ _ _ _ | exact Kd.Q_nil _ _ _ _ _ | exact Kd.S_nil _ _ _ _ _, bel HB⟩

/-! ### laws_xText: function 15 -/
def laws_xText.l0 : Nat → ByteArray → List ByteArray → Int → Int → Option (Bool)
 | 0, _, _, _, _ => none
 | k + 1, x1, x7, x8, x9 => if x9 < x8 then (if 0 ≤ x9 then (if x9 < (x7.length : Int) then (if (rdOf ByteArray.empty x7 x9).toList = x1.toList then (some true) else (laws_xText.l0 k x1 x7 x8 (wrap64 (x9 + 1)))) else (none)) else (none)) else (some false)
def laws_xText.f (k : Nat) (l0 : List ByteArray) (a1 : ByteArray) : Option (Bool) := laws_xText.l0 k a1 l0 (l0.length : Int) 0
theorem laws_xText.mono_l : ∀ k, Mo (laws_xText.l0 k) (laws_xText.l0 (k + 1))
 | 0 => m0
 | k + 1 => by
  have ih0 := laws_xText.mono_l k
  (repeat refine mE fun _ => ?_) <;> first | (unfold laws_xText.l0; exact mG)
instance laws_xText.mI (k : Nat) : Mo (laws_xText.f k) (laws_xText.f (k + 1)) := by
 have ih0 := laws_xText.mono_l k
 (repeat refine mE fun _ => ?_); unfold laws_xText.f; exact mG
theorem laws_xText.mono : ∀ a0 a1 k, LeO (laws_xText.f k a0 a1) (laws_xText.f (k + 1) a0 a1) := fun a0 a1 k => (laws_xText.mI k).out a0 a1
set_option maxHeartbeats 8000000 in
set_option maxRecDepth 100000 in
theorem laws_xText.calls (k : Nat) (A0 : Option Addr) (c0 : Nat) (l0 : List ByteArray) (a1 : ByteArray) (r : Bool) (w : World) (hr0 : Kd.C Kd.string w A0 l0.length l0) (hc0 : l0.length ≤ c0) (h : laws_xText.f k l0 a1 = some r) :
  Calls Tryz.prog 15 #[.slice A0 l0.length c0, .string a1] w fun e w' => e = .returned (.bool r) ∧ Drawn0 w w' := by
 have HR0 := aM hr0
 have HC0 := aM hc0
 clear hr0 hc0
 have H := h
 clear h; unfold laws_xText.f at H
 have H' := aM H
 clear H
 go_enter Tryz.func15, Tryz.ntmps15
 go_wp2
 go_loopg [9] k (fun kq v9 w' => ∃ (x9_1 : Int), v9 = .int .i64 x9_1 ∧ Aside0 (laws_xText.l0 kq a1 l0 (l0.length : Int) x9_1 = some r) ∧ Aside0 (kq ≤ k) ∧ Drawn0 w w')
 case atStart => exact ⟨(0), rF, H', kR, d0⟩
 case round =>
  clear H'
  obtain ⟨x9_1, rfl, HA, HK1, ⟨m1, rfl⟩⟩ := hrel
  obtain rfl | ⟨k1, rfl⟩ := fz gk
  ·exact zA HA
  have H := HA.out
  clear HA
  simp only [laws_xText.l0] at H
  refine iI H ?_ ?_ <;> clear H <;> intro c3 H
  ·have c3b0 := dT c3
   clear c3
   refine iY H ?_; clear H; intro c4 H
   have c4b0 := dT c4
   clear c4
   refine iY H ?_; clear H; intro c5 H
   have c5b0 := dT c5
   clear c5
   refine iI H ?_ ?_ <;> clear H <;> intro c6 H
   ·have c6b0 := qT c6
    have c6b1 := nF c6
    clear c6
    obtain rfl := Option.some.inj H
    have p276 : 0 ≤ (x9_1 : Int) := oD
    have q276 : x9_1 < (l0.length : Int) := oD
    obtain ⟨ad276, e276, hx276_0⟩ := Kd.at_string HR0.out x9_1 p276 q276
    cases e276
    replace p276 := eq_true p276
    replace q276 := eq_true q276
    go_wp2
    go_ret
    exact ⟨rF, d0⟩
   have c6b0 := qF c6
   have c6b1 := nT c6
   have H' := aM H
   clear H
   have p276 : 0 ≤ (x9_1 : Int) := oD
   have q276 : x9_1 < (l0.length : Int) := oD
   obtain ⟨ad276, e276, hx276_0⟩ := Kd.at_string HR0.out x9_1 p276 q276
   cases e276
   replace p276 := eq_true p276
   replace q276 := eq_true q276
   go_wp2
   go_roundg k1
   case measure => have := HK1.out; omega
   case rel => exact ⟨(wrap64 (x9_1 + 1)), rF, H', ⟨by have := HK1.out; omega⟩, d0⟩
  have c3b0 := dF c3
  clear c3
  obtain rfl := Option.some.inj H
  go_wp2
  go_ret
  exact ⟨rF, d0⟩

end Go.Proofs.YtpdkjehplfgjcabGreatDoor.PHid
