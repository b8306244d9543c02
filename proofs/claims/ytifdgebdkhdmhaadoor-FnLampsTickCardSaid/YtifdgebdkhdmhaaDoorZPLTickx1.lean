-- PRINTED by drive.py (a program of this session's, over the kit's print.py; wip/tools/drive.py). Lean checks it.
import Derived.Test.YtifdgebdkhdmhaaDoorZSq
import Derived.Test.YtifdgebdkhdmhaaDoorZPLTickx0
namespace Go.Proofs.YtifdgebdkhdmhaaDoor.PLTick
open Go.RowKit Go.Proofs.YtifdgebdkhdmhaaDoorW.PrintWords Go.Proofs.YtifdgebdkhdmhaaDoorW.PrintLast Go.Proofs.YtifdgebdkhdmhaaDoorW.PrintMore
attribute [local go_sem] max2_int min2_int max_two min_two max_three min_three max_four min_four   -- for this text's walks alone
set_option linter.unusedVariables false
set_option linter.unusedSimpArgs false

/-! ### impl_in: function 117 -/
def impl_in.f (a0 : Int) (a1 : Int) (a2 : Int) : Option (Bool) := if a0 ≥ a1 then (some (decide (a0 ≤ a2))) else (some false)
set_option maxHeartbeats 8000000 in
set_option maxRecDepth 100000 in
theorem impl_in.calls (a0 : Int) (a1 : Int) (a2 : Int) (r : Bool) (w : World) (h : impl_in.f a0 a1 a2 = some r) :
  Calls Tryd.prog 117 #[.int .i64 a0, .int .i64 a1, .int .i64 a2] w fun e w' => e = .returned (.bool r) ∧ Drawn0 w w' := by
 have H : (if a0 ≥ a1 then (some (decide (a0 ≤ a2))) else (some false)) = some r := h
 clear h
 by_cases c4 : a0 ≥ a1
 ·rw [if_pos c4] at H
  have c4b0 : decide (a1 ≤ a0) = true := decide_eq_true c4
  clear c4
  obtain rfl := Option.some.inj H
  go_enter Tryd.func117, Tryd.ntmps117
  go_wp2
  go_ret
  exact ⟨by rF, by repeat (first | exact Drawn0.refl _ | apply Drawn0.step)⟩
 ·rw [if_neg c4] at H
  have c4b0 : decide (a1 ≤ a0) = false := decide_eq_false c4
  clear c4
  obtain rfl := Option.some.inj H
  go_enter Tryd.func117, Tryd.ntmps117
  go_wp2
  go_ret
  exact ⟨by rF, by repeat (first | exact Drawn0.refl _ | apply Drawn0.step)⟩

/-! ### laws_toStringS: function 90 -/
def laws_toStringS.l0 : Nat → List ByteArray → List ByteArray → Int → Option (List ByteArray)
 | 0, _, _, _ => none
 | k + 1, x0, x3, x4 => if x4 < (x0.length : Int) then (if 0 ≤ x4 then (if x4 < (x3.length : Int) then (laws_toStringS.l0 k x0 (x3.set (x4 : Int).toNat (rdOf ByteArray.empty x0 x4)) (wrap64 (x4 + 1))) else (none)) else (none)) else (some x3)
def laws_toStringS.f (k : Nat) (l0 : List ByteArray) : Option (List ByteArray) := if 0 ≤ (l0.length : Int) then (if ((l0.length : Int) : Int).toNat ≤ 17592186044416 then (laws_toStringS.l0 k l0 (List.replicate ((l0.length : Int) : Int).toNat (⟨#[]⟩ : ByteArray)) 0) else (none)) else (none)
theorem laws_toStringS.mono_l : ∀ k, (∀ y0 y1 y2, LeO (laws_toStringS.l0 k y0 y1 y2) (laws_toStringS.l0 (k + 1) y0 y1 y2))
 | 0 => fun _ _ _ r h => by simp [laws_toStringS.l0] at h
 | k + 1 => by
  have ih0 := laws_toStringS.mono_l k
  ·intro y0 y1 y2
   unfold laws_toStringS.l0
   repeat' first
   | wE ih0 _ _ _
   | wE LeO.refl _
   | wE LeO.none _
   | wR LeO.ite ?_ ?_
   | wR LeO.bind ?_ (fun _ => ?_)
   | exact ih0 _ _ _
   | exact LeO.none _
   | refine LeO.ite ?_ ?_
   | refine LeO.bind ?_ (fun _ => ?_)
theorem laws_toStringS.mono : ∀ a0 k, LeO (laws_toStringS.f k a0) (laws_toStringS.f (k + 1) a0) := by
 intro a0 k
 have ih0 := laws_toStringS.mono_l k
 unfold laws_toStringS.f
 repeat' first
   | wE ih0 _ _ _
   | wE LeO.refl _
   | wE LeO.none _
   | wR LeO.ite ?_ ?_
   | wR LeO.bind ?_ (fun _ => ?_)
   | exact ih0 _ _ _
   | exact LeO.none _
   | refine LeO.ite ?_ ?_
   | refine LeO.bind ?_ (fun _ => ?_)
set_option maxHeartbeats 8000000 in
set_option maxRecDepth 100000 in
theorem laws_toStringS.calls (k : Nat) (A0 : Option Addr) (c0 : Nat) (l0 : List ByteArray) (r : List ByteArray) (w : World) (hr0 : Kd.C Kd.string w A0 l0.length l0) (hc0 : l0.length ≤ c0) (h : laws_toStringS.f k l0 = some r) :
  Calls Tryd.prog 90 #[.slice A0 l0.length c0] w fun e w' => ∃ v0_ : Value, e = .returned (v0_) ∧ Kd.R Kd.string 9 w' w.heap.size (fun _ => True) v0_ r ∧ Below w.heap.size w w' := by
 have HR0 := aM hr0
 have HC0 := aM hc0
 clear hr0 hc0
 have HB := aM (Below.refl w.heap.size w)
 have H : (if 0 ≤ (l0.length : Int) then (if ((l0.length : Int) : Int).toNat ≤ 17592186044416 then (laws_toStringS.l0 k l0 (List.replicate ((l0.length : Int) : Int).toNat (⟨#[]⟩ : ByteArray)) 0) else (none)) else (none)) = some r := h
 clear h
 by_cases c2 : 0 ≤ (l0.length : Int)
 ·rw [if_pos c2] at H
  have c2b0 := eq_true c2
  have c2b1 : decide (0 ≤ (l0.length : Int)) = true := decide_eq_true c2
  clear c2
  by_cases c3 : ((l0.length : Int) : Int).toNat ≤ 17592186044416
  ·rw [if_pos c3] at H
   have c3b0 := eq_true c3
   have c3b1 : decide (((l0.length : Int) : Int).toNat ≤ 17592186044416) = true := decide_eq_true c3
   clear c3
   obtain ⟨y101, hy101⟩ : ∃ y_ : List ByteArray, y_ = (List.replicate ((l0.length : Int) : Int).toNat (⟨#[]⟩ : ByteArray)) := ⟨_, rfl⟩
   replace H : (laws_toStringS.l0 k l0 y101 0) = some r := by fH hy101
   have Ny101 := aM hy101
   clear hy101
   have H' := aM H
   clear H
   go_enter Tryd.func90, Tryd.ntmps90
   go_wp2_with (first | ((with_reducible refine gate_dst (N := 7) rfl ?_); refine Kd.R_make Kd.string _ 9 rfl (N := 7) rfl 22 _ _ rfl (l0.length : Int) rfl rfl Tryd.underlying22 (.string ⟨#[]⟩) 16 info9 rfl (by decide) (by omega) (⟨#[]⟩ : ByteArray) (ok := fun _ => True) (okp := fun _ => True) rfl (fun _ hk => hk) trivial (of_decide_eq_true (by first | (with_reducible assumption) | assumption)) (Nat.le_trans (Nat.mul_le_mul_right _ (of_decide_eq_true (by first | (with_reducible assumption) | assumption) : (l0.length : Int).toNat ≤ 17592186044416)) (by omega)) (Below.refl _ _) (Nat.le_refl _) ?_; intro v102 w4 ho5 hb hg_ hnew_; clear hg_ hnew_; (first | rw [← Ny101.out] at ho5 | (simp only [Int.reduceToNat] at ho5; rw [← Ny101.out] at ho5)); have n0_ := aM (Kd.R_lower ho5 (below_size (by bB))); have n1_ := aM (below_step (by bB) hb); clear HB; have HO103 := n0_; have HB := n1_; clear n0_ n1_; clear hb ho5))
   go_loopg [4] k (fun kq v4 w' => ∃ (x3_1 : List ByteArray) (x4_1 : Int), v4 = .int .i64 x4_1 ∧ Aside0 (laws_toStringS.l0 kq l0 x3_1 x4_1 = some r) ∧ Aside0 (kq ≤ k) ∧ Aside0 (Kd.R Kd.string 9 w' w.heap.size (fun _ => True) v102 x3_1) ∧ Aside0 (Below w.heap.size w w'))
   case atStart => exact ⟨(y101), (0), (by rF), H', ⟨Nat.le_refl _⟩, ⟨by (rX); exact HO103.out⟩, ⟨by bB⟩⟩
   case round =>
    clear H'
    try clear c2
    try clear c2b0
    try clear c2b1
    try clear p2
    try clear c3
    try clear c3b0
    try clear c3b1
    obtain ⟨x3_1, x4_1, rfl, HA, HK1, HO_3, HB⟩ := hrel
    cases gk with
    | zero => exact absurd HA.out (by simp [laws_toStringS.l0])
    | succ k1 =>
     have H := HA.out
     clear HA
     simp only [laws_toStringS.l0] at H
     by_cases c6 : x4_1 < (l0.length : Int)
     ·rw [if_pos c6] at H
      have c6b0 : decide (x4_1 < (l0.length : Int)) = true := decide_eq_true c6
      clear c6
      by_cases c7 : 0 ≤ x4_1
      ·rw [if_pos c7] at H
       have c7b0 : decide (0 ≤ x4_1) = true := decide_eq_true c7
       clear c7
       by_cases c8 : x4_1 < (x3_1.length : Int)
       ·rw [if_pos c8] at H
        have c8b0 : decide (x4_1 < (x3_1.length : Int)) = true := decide_eq_true c8
        clear c8
        obtain ⟨y105, hy105⟩ : ∃ y_ : List ByteArray, y_ = (x3_1.set (x4_1 : Int).toNat (rdOf ByteArray.empty l0 x4_1)) := ⟨_, rfl⟩
        replace H : (laws_toStringS.l0 k1 l0 y105 (wrap64 (x4_1 + 1))) = some r := by fH hy105
        have Ny105 := aM hy105
        clear hy105
        have H' := aM H
        clear H
        have p104 : 0 ≤ (x4_1 : Int) := of_decide_eq_true (by first | (with_reducible assumption) | assumption)
        have q104 : x4_1 < (l0.length : Int) := of_decide_eq_true (by first | (with_reducible assumption) | assumption)
        obtain ⟨ad104, e104, hx104_0⟩ := Kd.at_string HR0.out x4_1 p104 q104
        cases e104
        replace hx104_0 := (HB.out.cell (World.block_lt_of_cell? w _ hx104_0)).trans hx104_0
        replace p104 := eq_true p104
        replace q104 := eq_true q104
        have p9 : 0 ≤ (x4_1 : Int) := of_decide_eq_true (by first | (with_reducible assumption) | assumption)
        have q9 : (x4_1 : Int) < ((x3_1.length : Int) : Int) := of_decide_eq_true (by first | (with_reducible assumption) | assumption)
        obtain ⟨go9, co9, eo9, gb9, gl9, cl9, HG9⟩ := Kd.R_form HO_3.out (by omega)
        (first | cases eo9 | (injection eo9 with ea_ en_ ec_; (first | subst ea_ | (injection ea_ with ea_; subst ea_)); subst ec_; clear en_))
        have GB9 := aM gb9
        have GG9 := aM HG9
        clear gb9 gl9 HG9
        obtain ⟨hx9_0, hf9_0⟩ := Kd.R_celln (⟨#[]⟩ : ByteArray) HO_3.out (x4_1 : Int) p9 q9
        replace p9 := eq_true p9
        replace q9 := eq_true q9
        have HP10 := Kd.R_putg HO_3.out (x4_1 : Int) (rdOf ByteArray.empty l0 x4_1)
        go_wp2_with (first | ((with_reducible refine gate_store (t := 9) (p := 20) rfl ?_); refine store_event (t := 9) (p := 20) (v := ?vo_w11) (w1 := (wr.setCell ⟨go9, (x4_1 : Int).toNat, none⟩ (.string (rdOf ByteArray.empty l0 x4_1)))) ?hg ?ho ?hn ?hr ?_; (case ho => rfl); (case hg => rfl); (case hn => rfl); (case hr => first | (go_simp; done) | (go_simp; rfl)); intro w11 hw; have hg : wr.grownBy w11 (some go9) := (by rw [hw]; exact HP10.2); have hp_ : Kd.R Kd.string 9 w11 w.heap.size (fun _ => True) (.slice (some ⟨go9, 0, none⟩) x3_1.length co9) y105 := (by rw [hw, Ny105.out]; exact HP10.1); clear HP10; have n0_ := aM (hp_); have n1_ := aM ((by rw [hw]; exact below_set (HB.out) GB9.out : Below w.heap.size w w11)); clear HO_3; clear HB; have HO_3 := n0_; have HB := n1_; clear n0_ n1_; clear hg hw hp_))
        go_roundg k1
        case measure => mO
        case rel => exact ⟨(y105), (wrap64 (x4_1 + 1)), (by rF), H', ⟨by mO⟩, ⟨by (rX); exact HO_3.out⟩, ⟨by bB⟩⟩
       ·rw [if_neg c8] at H
        exact absurd H (by simp)
      ·rw [if_neg c7] at H
       exact absurd H (by simp)
     ·rw [if_neg c6] at H
      have c6b0 : decide (x4_1 < (l0.length : Int)) = false := decide_eq_false c6
      clear c6
      obtain rfl := Option.some.inj H
      go_wp2
      go_ret
      exact ⟨_, by eW, by (rX); exact HO_3.out, by bB⟩
  ·rw [if_neg c3] at H
   exact absurd H (by simp)
 ·rw [if_neg c2] at H
  exact absurd H (by simp)

/-! ### slices_ContainsFunc_string_string: function 118 -/
-- by hand (wip/ext/gen_string.tpl)
set_option maxHeartbeats 1000000 in
set_option maxRecDepth 100000 in
theorem slices_ContainsFunc_string_string.index (F : FuncId) (fn : Func) (hf : Tryd.prog.funcs[F]? = some fn ∧ (fn.name == "runtime.NumGoroutine") = false ∧ fn.body.isSome = true) (caps : Array Value) (p : ByteArray → Bool)
    (A : Option Addr) (c : Nat) (l : List ByteArray) (w : World) (hr : Kd.C Kd.string w A l.length l)
    (hp : ∀ (w1 : World) (x : ByteArray), x ∈ l → Below w.heap.size w w1 → Calls Tryd.prog F (#[.string x] ++ caps) w1 fun e w2 => e = .returned (.bool (p x)) ∧ Below w1.heap.size w1 w2) :
    Calls Tryd.prog 124 #[.slice A l.length c, .func (.func F) #[] caps] w fun e w' => e = .returned (.int .i64 (idxI p l)) ∧ Below w.heap.size w w' := by
  have hl := hr.2.1
  have HR := aM hr
  have HF := aM hf
  have HP := aM hp
  clear hr hf hp
  go_enter Tryd.func124, Tryd.ntmps124
  go_wp2
  go_loopw [8] (fun v8 w' => ∃ k : Nat, k ≤ l.length ∧ v8 = .int .i64 k ∧ Aside0 (∀ j (hj : j < l.length), j < k → p l[j] = false) ∧ Aside0 (Below w.heap.size w w')) (fun v8 _ => l.length - (intOf v8).toNat)
  case atStart => exact ⟨0, Nat.zero_le _, rfl, ⟨fun j _ h => absurd h (by omega)⟩, ⟨Below.refl _ _⟩⟩
  case round =>
    obtain ⟨k, hk, rfl, HN, HB⟩ := hrel
    by_cases hlt : k < l.length
    · obtain ⟨ad, rfl, hx0⟩ := Kd.at_string HR.out (k : Int) (by omega) (by omega)
      simp only [Int.toNat_natCast] at hx0
      replace hx0 := (HB.out.cell (World.block_lt_of_cell? w _ hx0)).trans hx0
      have ex : rdOf ByteArray.empty l (k : Int) = l[k] := by simp [rdOf, hlt]
      rw [ex] at hx0
      clear ex
      go_wp2_with ((with_reducible refine gate_dst (N := 16) rfl ?_); go_must (refine goesC_ (some 16) rfl rfl caps HF.out #[.string l[k]] rfl rfl (by (try simp only [List.map_toArray, List.map_cons, List.map_nil]); first | done | rfl) ?_; refine (HP.out _ l[k] (List.getElem_mem hlt) HB.out).mono ?_; rintro e w2 ⟨rfl, hb⟩; refine ⟨_, rfl, ?_⟩; have HB2 := aM (below_step HB.out hb); clear hb))
      · have hpk : p l[k] = true := by assumption
        go_ret
        exact ⟨ret_int (idxI_hit p l k hlt hpk fun j hj => HN.out j (by omega) hj).symm, HB2.out⟩
      · have hpk : p l[k] = false := by assumption
        go_roundw
        case rel =>
          refine ⟨k + 1, by omega, by go_num, ⟨fun j hj hjk => ?_⟩, HB2⟩
          rcases Nat.lt_or_ge j k with h | h
          · exact HN.out j hj h
          · obtain rfl : j = k := by omega
            exact hpk
        case measure => simp [intOf]; omega
    · go_wp2
      go_ret
      exact ⟨ret_int (idxI_miss p l fun j hj => HN.out j hj (by omega)).symm, HB.out⟩
set_option maxHeartbeats 1000000 in
set_option maxRecDepth 100000 in
theorem slices_ContainsFunc_string_string.any (F : FuncId) (fn : Func) (hf : Tryd.prog.funcs[F]? = some fn ∧ (fn.name == "runtime.NumGoroutine") = false ∧ fn.body.isSome = true) (caps : Array Value) (p : ByteArray → Bool)
    (A : Option Addr) (c : Nat) (l : List ByteArray) (w : World) (hr : Kd.C Kd.string w A l.length l)
    (hp : ∀ (w1 : World) (x : ByteArray), x ∈ l → Below w.heap.size w w1 → Calls Tryd.prog F (#[.string x] ++ caps) w1 fun e w2 => e = .returned (.bool (p x)) ∧ Below w1.heap.size w1 w2) :
    Calls Tryd.prog 118 #[.slice A l.length c, .func (.func F) #[] caps] w fun e w' => e = .returned (.bool (l.any p)) ∧ Below w.heap.size w w' := by
  have HC := aM (slices_ContainsFunc_string_string.index F fn hf caps p A c l w hr hp)
  have HG := aM (idxI_ge p l)
  clear hf hp hr
  go_enter Tryd.func118, Tryd.ntmps118
  go_wp2_with (go_at_call 124; refine HC.out.mono ?_; rintro e w' ⟨rfl, hb⟩; have HB := aM hb; clear hb)
  go_ret
  exact ⟨ret_bool HG.out, HB.out⟩

/-! ### strings_Trim: function 191 -/
-- by hand (wip/ext/Shelf2.tpl)
/-- For a cutset of ASCII signs: what is left of a text behind both ends are trimmed. -/
def strings_Trim.f (a0 a1 : ByteArray) : Option ByteArray := if a0.size ≤ 9223372036854775807 ∧ a1.size < 4294967281 ∧ (a1.data.toList.all fun b => b.toNat < 128) = true then some ⟨(Lib.trimS a0.data.toList a1.data.toList).toArray⟩ else none
theorem strings_Trim.calls (a0 a1 : ByteArray) (r : ByteArray) (w : World) (h : strings_Trim.f a0 a1 = some r) :
    Calls Tryd.prog 191 #[.string a0, .string a1] w fun e w' => e = .returned (.string r) ∧ Below w.heap.size w w' := by
  unfold strings_Trim.f at h
  split at h
  · rename_i hc
    obtain rfl := Option.some.inj h
    refine Tryd.strings_Trim a0 a1 w hc.1 hc.2.1 (fun j b hb => ?_)
    have := List.all_eq_true.1 hc.2.2 b (List.mem_of_getElem? hb)
    simpa using this
  · cases h

/-! ### impl_isNeed: function 120 -/
def impl_isNeed.f (a0 : ByteArray) (a1 : Int) : Option (Bool) := if (a0.size : Int) = a1 then ((strings_Trim.f a0 (⟨#[48, 49, 63]⟩ : ByteArray)).bind fun t106 => (some (t106.toList == ([] : List UInt8)))) else (some false)
set_option maxHeartbeats 8000000 in
set_option maxRecDepth 100000 in
theorem impl_isNeed.calls (a0 : ByteArray) (a1 : Int) (r : Bool) (w : World) (h : impl_isNeed.f a0 a1 = some r) :
  Calls Tryd.prog 120 #[.string a0, .int .i64 a1] w fun e w' => e = .returned (.bool r) ∧ Below w.heap.size w w' := by
 have HB := aM (Below.refl w.heap.size w)
 have H : (if (a0.size : Int) = a1 then ((strings_Trim.f a0 (⟨#[48, 49, 63]⟩ : ByteArray)).bind fun t106 => (some (t106.toList == ([] : List UInt8)))) else (some false)) = some r := h
 clear h
 by_cases c3 : (a0.size : Int) = a1
 ·rw [if_pos c3] at H
  have c3b0 : ((a0.size : Int) == a1) = true := beq_iff_eq.mpr c3
  have c3b1 : ((a0.size : Int) != a1) = false := bne_eq_false_iff_eq.mpr c3
  clear c3
  replace H := Option.bind_eq_some_iff.mp H
  obtain ⟨t106, A40, H⟩ := H
  replace H : (some (t106.toList == ([] : List UInt8))) = some r := H
  have A4 := aM A40
  clear A40
  obtain rfl := Option.some.inj H
  go_enter Tryd.func120, Tryd.ntmps120
  go_wp2_with (first | (go_at_call 191; (with_reducible refine (strings_Trim.calls a0 (⟨#[48, 49, 63]⟩ : ByteArray) t106 _ A4.out).mono ?_); rintro e w5 ⟨rfl, hb⟩; have n0_ := aM (below_step (by bB) hb); clear HB; have HB := n0_; clear n0_; cX))
  go_ret
  exact ⟨by eW, by bB⟩
 ·rw [if_neg c3] at H
  have c3b0 : ((a0.size : Int) == a1) = false := beq_eq_false_iff_ne.mpr c3
  have c3b1 : ((a0.size : Int) != a1) = true := bne_iff_ne.mpr c3
  obtain rfl := Option.some.inj H
  go_enter Tryd.func120, Tryd.ntmps120
  go_wp2
  go_ret
  exact ⟨by eW, by bB⟩

/-! ### impl_AreLamps: function 30 -/
-- by hand (wip/ext/AreLamps.tpl)
theorem isNeed_eq (s : ByteArray) (n : Nat) (hn : n ≤ 9223372036854775807) : impl_isNeed.f s n = some (needB n s) := by
  simp only [impl_isNeed.f, needB]
  by_cases h : s.size = n
  · subst h
    have ht : strings_Trim.f s (⟨#[48, 49, 63]⟩ : ByteArray) = some ⟨(Lib.trimS s.data.toList [48, 49, 63]).toArray⟩ := by
      unfold strings_Trim.f
      rw [if_pos ⟨hn, by decide, by decide⟩]
    rw [if_pos rfl, ht]
    simp only [Option.bind_some, trimS_beq, isSign_contains]
    simp
  · have h' : ¬ (s.size : Int) = n := by omega
    simp [h, h']
theorem impl_AreLamps.f1 : Tryd.prog.funcs[119]? = some Tryd.f119 ∧ (Tryd.f119.name == "runtime.NumGoroutine") = false ∧ Tryd.f119.body.isSome = true := ⟨Tryd.func119, by kernel_rfl, by kernel_rfl⟩
set_option maxHeartbeats 400000 in
theorem impl_AreLamps.c1 (g : Nat) (A : Option Addr) (n c : Nat) (s : ByteArray) (w : World) (hn : n ≤ 9223372036854775807) (hg : w.cell? ⟨g, 0, none⟩ = some (.slice A n c)) :
    Calls Tryd.prog 119 #[.string s, .pointer (some ⟨g, 0, none⟩)] w fun e w' => e = .returned (.bool (!needB n s)) ∧ Below w.heap.size w w' := by
  have HC := aM (fun W => impl_isNeed.calls s n _ W (isNeed_eq s n hn))
  have hu := Tryd.underlying29
  go_enter Tryd.func119, Tryd.ntmps119
  go_wp2_with (go_at_call 120; refine (HC.out _).mono ?_; rintro e w' ⟨rfl, hb⟩; have HB := aM hb; clear hb)
  go_ret
  exact ⟨rfl, HB.out⟩
def impl_AreLamps.f (l0_0 : List ByteArray) : Option Bool := some (areLampsB l0_0)
set_option maxHeartbeats 1000000 in
set_option maxRecDepth 100000 in
theorem impl_AreLamps.calls (A0_0 : Option Addr) (c0_0 : Nat) (l0_0 : List ByteArray) (r : Bool) (w : World) (hr0_0 : Kd.C Kd.string w A0_0 l0_0.length l0_0) (hc0_0 : l0_0.length ≤ c0_0) (h : impl_AreLamps.f l0_0 = some r) :
    Calls Tryd.prog 30 #[.agg #[.slice A0_0 l0_0.length c0_0]] w fun e w' => e = .returned (.bool r) ∧ Below w.heap.size w w' := by
  obtain rfl := Option.some.inj h
  clear h
  have hl := hr0_0.2.1
  have HC := aM (fun (W : World) (hb : Below w.heap.size w W) (hg : W.cell? ⟨w.heap.size, 0, none⟩ = some (.slice A0_0 l0_0.length c0_0)) =>
    slices_ContainsFunc_string_string.any 119 Tryd.f119 impl_AreLamps.f1 #[.pointer (some ⟨w.heap.size, 0, none⟩)] (fun s => !needB l0_0.length s) A0_0 c0_0 l0_0 W (Kd.C_below hr0_0 hb)
      (fun w1 x _ hb1 => impl_AreLamps.c1 w.heap.size A0_0 l0_0.length c0_0 x w1 hl ((hb1.cell (World.block_lt_of_cell? W _ hg)).trans hg)))
  have HI := aM (fun w1 => impl_in.calls l0_0.length 1 10 _ w1 (inB_ite l0_0.length 1 10))
  have hmf : ∀ (fn : Fn) (first cap : Array Value) (w : World), (Instr.makeFunc fn first cap).run Tryd.prog w = .ok (.func fn first cap) w := fun _ _ _ _ => rfl
  have hu := Tryd.underlying29
  clear hr0_0
  obtain ⟨R, hR⟩ : ∃ R, R = areLampsB l0_0 := ⟨_, rfl⟩
  rw [← hR]
  unfold areLampsB at hR
  have hall : l0_0.all (needB l0_0.length) = !(l0_0.any fun s => !needB l0_0.length s) := by simp [List.all_eq_not_any_not]
  rw [hall] at hR
  clear hall
  have HX := aM hR
  clear hR
  go_enter Tryd.func30, Tryd.ntmps30
  go_wp2_with (first
    | (go_at_call 117; refine (HI.out _).mono ?_; rintro e w' ⟨rfl, ⟨n, rfl⟩⟩)
    | (go_at_call 118; refine (HC.out _ (pw_below_drewN (below_alloc (Below.refl _ _) _) _) (by go_simp)).mono ?_; rintro e w' ⟨rfl, hb⟩; have HB := aM hb; clear hb))
  all_goals go_ret
  · have h1 : inB l0_0.length 1 10 = true := by assumption
    exact ⟨ret_bool (by rw [HX.out, h1]; simp), below_step (pw_below_drewN (below_alloc (Below.refl _ _) _) _) HB.out⟩
  · have h1 : ¬ inB l0_0.length 1 10 = true := by assumption
    exact ⟨ret_bool (by rw [HX.out]; simp [h1]), pw_below_drewN (below_alloc (Below.refl _ _) _) _⟩

/-! ### impl_Lamps_lit: function 108 -/
def impl_Lamps_lit.f (l0_0 : List ByteArray) (a1 : ByteArray) : Option (Bool) := (impl_AreLamps.f l0_0).bind fun t108 => (if t108 = true then (if (a1.size : Int) = (l0_0.length : Int) then ((strings_Trim.f a1 (⟨#[48, 49]⟩ : ByteArray)).bind fun t109 => (some (t109.toList == ([] : List UInt8)))) else (some false)) else (some false))
set_option maxHeartbeats 8000000 in
set_option maxRecDepth 100000 in
theorem impl_Lamps_lit.calls (A0_0 : Option Addr) (c0_0 : Nat) (l0_0 : List ByteArray) (a1 : ByteArray) (r : Bool) (w : World) (hr0_0 : Kd.C Kd.string w A0_0 l0_0.length l0_0) (hc0_0 : l0_0.length ≤ c0_0) (h : impl_Lamps_lit.f l0_0 a1 = some r) :
  Calls Tryd.prog 108 #[.agg #[.slice A0_0 l0_0.length c0_0], .string a1] w fun e w' => e = .returned (.bool r) ∧ Below w.heap.size w w' := by
 have hu29 := Tryd.underlying29
 have HR0_0 := aM hr0_0
 have HC0_0 := aM hc0_0
 clear hr0_0 hc0_0
 have HB := aM (Below.refl w.heap.size w)
 have H : ((impl_AreLamps.f l0_0).bind fun t108 => (if t108 = true then (if (a1.size : Int) = (l0_0.length : Int) then ((strings_Trim.f a1 (⟨#[48, 49]⟩ : ByteArray)).bind fun t109 => (some (t109.toList == ([] : List UInt8)))) else (some false)) else (some false))) = some r := h
 clear h
 replace H := Option.bind_eq_some_iff.mp H
 obtain ⟨t108, A30, H⟩ := H
 replace H : (if t108 = true then (if (a1.size : Int) = (l0_0.length : Int) then ((strings_Trim.f a1 (⟨#[48, 49]⟩ : ByteArray)).bind fun t109 => (some (t109.toList == ([] : List UInt8)))) else (some false)) else (some false)) = some r := H
 have A3 := aM A30
 clear A30
 by_cases c4 : t108 = true
 ·subst c4
  rw [if_pos rfl] at H
  by_cases c5 : (a1.size : Int) = (l0_0.length : Int)
  ·rw [if_pos c5] at H
   have c5b0 : ((a1.size : Int) == (l0_0.length : Int)) = true := beq_iff_eq.mpr c5
   have c5b1 : ((a1.size : Int) != (l0_0.length : Int)) = false := bne_eq_false_iff_eq.mpr c5
   have c5b2 : (a1.size == l0_0.length) = true := by first | simpa using c5 | (simp at c5 ⊢; omega)
   clear c5
   replace H := Option.bind_eq_some_iff.mp H
   obtain ⟨t109, A60, H⟩ := H
   replace H : (some (t109.toList == ([] : List UInt8))) = some r := H
   have A6 := aM A60
   clear A60
   obtain rfl := Option.some.inj H
   go_enter Tryd.func108, Tryd.ntmps108
   go_wp2_with (first | ((with_reducible refine gate_dst (N := 2) rfl ?_); (try (refine gate_guard (by rfl) ?_; dsimp only)); refine box_event ?hg (N := 2) ?hd (cs := #[.slice A0_0 l0_0.length c0_0]) (t := 29) ?hr ?_; (case hd => rfl); (case hg => rfl); (case hr => first | (go_simp; done) | (go_simp; rfl)); intro gb107 hg w7 hbox hb; have n0_ := aM (below_step (by bB) hb); have n1_ := aM (hbox); have n2_ := aM ((by rw [hg]; exact (below_size (by bB)) : w.heap.size ≤ gb107)); have n3_ := aM ((by rw [hg]; exact (below_size (by bB)) : w.heap.size ≤ gb107)); clear HB; have HB := n0_; have BK107 := n1_; have GW107 := n2_; have GE107 := n3_; clear n0_ n1_ n2_ n3_; clear hb hbox hg; have hcz8_0 : w7.cell? ⟨gb107, 0, none⟩ = some (.slice A0_0 l0_0.length c0_0) := (blk_cell BK107.out 0).trans rfl; have hfz8_0 := blk_frozen BK107.out 0) | ((with_reducible refine gate_callee (f := 30) rfl ?_); refine goesL_ (some 6) rfl rfl Tryd.func30 (by kernel_rfl) rfl #[.agg #[.slice A0_0 l0_0.length c0_0]] rfl (by mA) ?_; (with_reducible refine (impl_AreLamps.calls _ _ l0_0 true _ ?side1 ?side2 A3.out).mono ?_); (case side1 => cC ((Kd.C_below HR0_0.out HB.out))); (case side2 => exact HC0_0.out); rintro e w9 ⟨rfl, hb⟩; refine ⟨_, rfl, ?_⟩; have n0_ := aM (blk_below (g := gb107) (o := .cells #[.slice A0_0 l0_0.length c0_0] 29 (0, 0)) (by (with_reducible repeat (first | refine blk_drewN ?_ _ | refine blk_drew ?_ | refine blk_alloc ?_ _)); exact BK107.out) hb); have n1_ := aM (below_step (by repeat (first | (with_reducible first | exact HB.out | apply below_alloc | apply pw_below_drewN | apply below_drew1 | refine below_set ?_ GE107.out) | exact HB.out)) hb); clear BK107; clear HB; have BK107 := n0_; have HB := n1_; clear n0_ n1_; cX; have hcz10_0 : w9.cell? ⟨gb107, 0, none⟩ = some (.slice A0_0 l0_0.length c0_0) := (blk_cell BK107.out 0).trans rfl; have hfz10_0 := blk_frozen BK107.out 0) | (go_at_call 191; (with_reducible refine (strings_Trim.calls a1 (⟨#[48, 49]⟩ : ByteArray) t109 _ A6.out).mono ?_); rintro e w11 ⟨rfl, hb⟩; have n0_ := aM (blk_below (g := gb107) (o := .cells #[.slice A0_0 l0_0.length c0_0] 29 (0, 0)) (by (with_reducible repeat (first | refine blk_drewN ?_ _ | refine blk_drew ?_ | refine blk_alloc ?_ _)); exact BK107.out) hb); have n1_ := aM (below_step (by repeat (first | (with_reducible first | exact HB.out | apply below_alloc | apply pw_below_drewN | apply below_drew1 | refine below_set ?_ GE107.out) | exact HB.out)) hb); clear BK107; clear HB; have BK107 := n0_; have HB := n1_; clear n0_ n1_; cX))
   go_ret
   exact ⟨by eW, by repeat (first | (with_reducible first | exact HB.out | apply below_alloc | apply pw_below_drewN | apply below_drew1 | refine below_set ?_ GE107.out) | exact HB.out)⟩
  ·rw [if_neg c5] at H
   have c5b0 : ((a1.size : Int) == (l0_0.length : Int)) = false := beq_eq_false_iff_ne.mpr c5
   have c5b1 : ((a1.size : Int) != (l0_0.length : Int)) = true := bne_iff_ne.mpr c5
   have c5b2 : (a1.size == l0_0.length) = false := by first | simpa using c5 | (simp at c5 ⊢; omega)
   obtain rfl := Option.some.inj H
   go_enter Tryd.func108, Tryd.ntmps108
   go_wp2_with (first | ((with_reducible refine gate_dst (N := 2) rfl ?_); (try (refine gate_guard (by rfl) ?_; dsimp only)); refine box_event ?hg (N := 2) ?hd (cs := #[.slice A0_0 l0_0.length c0_0]) (t := 29) ?hr ?_; (case hd => rfl); (case hg => rfl); (case hr => first | (go_simp; done) | (go_simp; rfl)); intro gb107 hg w12 hbox hb; have n0_ := aM (below_step (by bB) hb); have n1_ := aM (hbox); have n2_ := aM ((by rw [hg]; exact (below_size (by bB)) : w.heap.size ≤ gb107)); have n3_ := aM ((by rw [hg]; exact (below_size (by bB)) : w.heap.size ≤ gb107)); clear HB; have HB := n0_; have BK107 := n1_; have GW107 := n2_; have GE107 := n3_; clear n0_ n1_ n2_ n3_; clear hb hbox hg; have hcz13_0 : w12.cell? ⟨gb107, 0, none⟩ = some (.slice A0_0 l0_0.length c0_0) := (blk_cell BK107.out 0).trans rfl; have hfz13_0 := blk_frozen BK107.out 0) | ((with_reducible refine gate_callee (f := 30) rfl ?_); refine goesL_ (some 6) rfl rfl Tryd.func30 (by kernel_rfl) rfl #[.agg #[.slice A0_0 l0_0.length c0_0]] rfl (by mA) ?_; (with_reducible refine (impl_AreLamps.calls _ _ l0_0 true _ ?side1 ?side2 A3.out).mono ?_); (case side1 => cC ((Kd.C_below HR0_0.out HB.out))); (case side2 => exact HC0_0.out); rintro e w14 ⟨rfl, hb⟩; refine ⟨_, rfl, ?_⟩; have n0_ := aM (blk_below (g := gb107) (o := .cells #[.slice A0_0 l0_0.length c0_0] 29 (0, 0)) (by (with_reducible repeat (first | refine blk_drewN ?_ _ | refine blk_drew ?_ | refine blk_alloc ?_ _)); exact BK107.out) hb); have n1_ := aM (below_step (by repeat (first | (with_reducible first | exact HB.out | apply below_alloc | apply pw_below_drewN | apply below_drew1 | refine below_set ?_ GE107.out) | exact HB.out)) hb); clear BK107; clear HB; have BK107 := n0_; have HB := n1_; clear n0_ n1_; cX; have hcz15_0 : w14.cell? ⟨gb107, 0, none⟩ = some (.slice A0_0 l0_0.length c0_0) := (blk_cell BK107.out 0).trans rfl; have hfz15_0 := blk_frozen BK107.out 0))
   go_ret
   exact ⟨by eW, by repeat (first | (with_reducible first | exact HB.out | apply below_alloc | apply pw_below_drewN | apply below_drew1 | refine below_set ?_ GE107.out) | exact HB.out)⟩
 ·replace c4 := Bool.eq_false_iff.mpr c4
  subst c4
  rw [if_neg (show ¬ (false = true) by decide)] at H
  obtain rfl := Option.some.inj H
  go_enter Tryd.func108, Tryd.ntmps108
  go_wp2_with (first | ((with_reducible refine gate_dst (N := 2) rfl ?_); (try (refine gate_guard (by rfl) ?_; dsimp only)); refine box_event ?hg (N := 2) ?hd (cs := #[.slice A0_0 l0_0.length c0_0]) (t := 29) ?hr ?_; (case hd => rfl); (case hg => rfl); (case hr => first | (go_simp; done) | (go_simp; rfl)); intro gb107 hg w16 hbox hb; have n0_ := aM (below_step (by bB) hb); have n1_ := aM (hbox); have n2_ := aM ((by rw [hg]; exact (below_size (by bB)) : w.heap.size ≤ gb107)); have n3_ := aM ((by rw [hg]; exact (below_size (by bB)) : w.heap.size ≤ gb107)); clear HB; have HB := n0_; have BK107 := n1_; have GW107 := n2_; have GE107 := n3_; clear n0_ n1_ n2_ n3_; clear hb hbox hg; have hcz17_0 : w16.cell? ⟨gb107, 0, none⟩ = some (.slice A0_0 l0_0.length c0_0) := (blk_cell BK107.out 0).trans rfl; have hfz17_0 := blk_frozen BK107.out 0) | ((with_reducible refine gate_callee (f := 30) rfl ?_); refine goesL_ (some 6) rfl rfl Tryd.func30 (by kernel_rfl) rfl #[.agg #[.slice A0_0 l0_0.length c0_0]] rfl (by mA) ?_; (with_reducible refine (impl_AreLamps.calls _ _ l0_0 false _ ?side1 ?side2 A3.out).mono ?_); (case side1 => cC ((Kd.C_below HR0_0.out HB.out))); (case side2 => exact HC0_0.out); rintro e w18 ⟨rfl, hb⟩; refine ⟨_, rfl, ?_⟩; have n0_ := aM (blk_below (g := gb107) (o := .cells #[.slice A0_0 l0_0.length c0_0] 29 (0, 0)) (by (with_reducible repeat (first | refine blk_drewN ?_ _ | refine blk_drew ?_ | refine blk_alloc ?_ _)); exact BK107.out) hb); have n1_ := aM (below_step (by repeat (first | (with_reducible first | exact HB.out | apply below_alloc | apply pw_below_drewN | apply below_drew1 | refine below_set ?_ GE107.out) | exact HB.out)) hb); clear BK107; clear HB; have BK107 := n0_; have HB := n1_; clear n0_ n1_; cX))
  go_ret
  exact ⟨by eW, by repeat (first | (with_reducible first | exact HB.out | apply below_alloc | apply pw_below_drewN | apply below_drew1 | refine below_set ?_ GE107.out) | exact HB.out)⟩

/-! ### impl_isTicks: function 109 -/
def impl_isTicks.f (a0 : Int) : Option (Bool) := (impl_in.f a0 0 1000000).bind fun t110 => (some t110)
set_option maxHeartbeats 8000000 in
set_option maxRecDepth 100000 in
theorem impl_isTicks.calls (a0 : Int) (r : Bool) (w : World) (h : impl_isTicks.f a0 = some r) :
  Calls Tryd.prog 109 #[.int .i64 a0] w fun e w' => e = .returned (.bool r) ∧ Drawn0 w w' := by
 have H : ((impl_in.f a0 0 1000000).bind fun t110 => (some t110)) = some r := h
 clear h
 replace H := Option.bind_eq_some_iff.mp H
 obtain ⟨t110, A20, H⟩ := H
 replace H : (some t110) = some r := H
 have A2 := aM A20
 clear A20
 obtain rfl := Option.some.inj H
 go_enter Tryd.func109, Tryd.ntmps109
 go_wp2_with (first | ((with_reducible refine gate_callee (f := 117) rfl ?_); refine goesL_ (some 4) rfl rfl Tryd.func117 (by kernel_rfl) rfl #[.int .i64 a0, .int .i64 0, .int .i64 1000000] rfl (by mA) ?_; (with_reducible refine (impl_in.calls a0 0 1000000 t110 _ A2.out).mono ?_); rintro e w' ⟨rfl, ⟨nd, rfl⟩⟩; refine ⟨_, rfl, ?_⟩))
 go_ret
 exact ⟨by rF, by repeat (first | exact Drawn0.refl _ | apply Drawn0.step)⟩

/-! ### impl_meets: function 176 -/
def impl_meets.l0 : Nat → ByteArray → ByteArray → Int → Int → Option (Bool)
 | 0, _, _, _, _ => none
 | k + 1, x0, x1, x7, x8 => if x8 < x7 then (if 0 ≤ x8 then (if x8 < (x0.size : Int) then (if (bt x0 x8) = 63 then (impl_meets.l0 k x0 x1 x7 (wrap64 (x8 + 1))) else (if x8 < (x1.size : Int) then (if (bt x0 x8) = (bt x1 x8) then (impl_meets.l0 k x0 x1 x7 (wrap64 (x8 + 1))) else (some false)) else (none))) else (none)) else (none)) else (some true)
def impl_meets.f (k : Nat) (a0 : ByteArray) (a1 : ByteArray) : Option (Bool) := impl_meets.l0 k a0 a1 (a0.size : Int) 0
theorem impl_meets.mono_l : ∀ k, (∀ y0 y1 y2 y3, LeO (impl_meets.l0 k y0 y1 y2 y3) (impl_meets.l0 (k + 1) y0 y1 y2 y3))
 | 0 => fun _ _ _ _ r h => by simp [impl_meets.l0] at h
 | k + 1 => by
  have ih0 := impl_meets.mono_l k
  ·intro y0 y1 y2 y3
   unfold impl_meets.l0
   repeat' first
   | wE ih0 _ _ _ _
   | wE LeO.refl _
   | wE LeO.none _
   | wR LeO.ite ?_ ?_
   | wR LeO.bind ?_ (fun _ => ?_)
   | exact ih0 _ _ _ _
   | exact LeO.none _
   | refine LeO.ite ?_ ?_
   | refine LeO.bind ?_ (fun _ => ?_)
theorem impl_meets.mono : ∀ a0 a1 k, LeO (impl_meets.f k a0 a1) (impl_meets.f (k + 1) a0 a1) := by
 intro a0 a1 k
 have ih0 := impl_meets.mono_l k
 unfold impl_meets.f
 repeat' first
   | wE ih0 _ _ _ _
   | wE LeO.refl _
   | wE LeO.none _
   | wR LeO.ite ?_ ?_
   | wR LeO.bind ?_ (fun _ => ?_)
   | exact ih0 _ _ _ _
   | exact LeO.none _
   | refine LeO.ite ?_ ?_
   | refine LeO.bind ?_ (fun _ => ?_)
set_option maxHeartbeats 8000000 in
set_option maxRecDepth 100000 in
theorem impl_meets.calls (k : Nat) (a0 : ByteArray) (a1 : ByteArray) (r : Bool) (w : World) (h : impl_meets.f k a0 a1 = some r) :
  Calls Tryd.prog 176 #[.string a0, .string a1] w fun e w' => e = .returned (.bool r) ∧ Drawn0 w w' := by
 have H : (impl_meets.l0 k a0 a1 (a0.size : Int) 0) = some r := h
 clear h
 have H' := aM H
 clear H
 go_enter Tryd.func176, Tryd.ntmps176
 go_wp2
 repeat (go_quiet (fail); try go_wp2)
 go_loopg [8] k (fun kq v8 w' => ∃ (x8_1 : Int), v8 = .int .i64 x8_1 ∧ Aside0 (impl_meets.l0 kq a0 a1 (a0.size : Int) x8_1 = some r) ∧ Aside0 (kq ≤ k) ∧ Drawn0 w w')
 case atStart => exact ⟨(0), (by rF), H', ⟨Nat.le_refl _⟩, by repeat (first | exact Drawn0.refl _ | apply Drawn0.step)⟩
 case round =>
  clear H'
  try clear c1
  try clear p2
  obtain ⟨x8_1, rfl, HA, HK1, ⟨m1, rfl⟩⟩ := hrel
  cases gk with
  | zero => exact absurd HA.out (by simp [impl_meets.l0])
  | succ k1 =>
   have H := HA.out
   clear HA
   simp only [impl_meets.l0] at H
   by_cases c3 : x8_1 < (a0.size : Int)
   ·rw [if_pos c3] at H
    have c3b0 : decide (x8_1 < (a0.size : Int)) = true := decide_eq_true c3
    clear c3
    by_cases c4 : 0 ≤ x8_1
    ·rw [if_pos c4] at H
     have c4b0 : decide (0 ≤ x8_1) = true := decide_eq_true c4
     clear c4
     by_cases c5 : x8_1 < (a0.size : Int)
     ·rw [if_pos c5] at H
      have c5b0 : decide (x8_1 < (a0.size : Int)) = true := decide_eq_true c5
      clear c5
      by_cases c7 : (bt a0 x8_1) = 63
      ·rw [if_pos c7] at H
       have c7b0 : ((bt a0 x8_1) == 63) = true := beq_iff_eq.mpr c7
       have c7b1 : ((bt a0 x8_1) != 63) = false := bne_eq_false_iff_eq.mpr c7
       clear c7
       have H' := aM H
       clear H
       have p6 : 0 ≤ (x8_1 : Int) := of_decide_eq_true (by first | (with_reducible assumption) | assumption)
       have q6 : x8_1 < (a0.size : Int) := of_decide_eq_true (by first | (with_reducible assumption) | assumption)
       have hx6 := bt_at a0 x8_1
       replace p6 := eq_true p6
       replace q6 := eq_true q6
       go_wp2
       repeat (go_quiet (fail); try go_wp2)
       go_roundg k1
       case measure => mO
       case rel => exact ⟨(wrap64 (x8_1 + 1)), (by rF), H', ⟨by mO⟩, by repeat (first | exact Drawn0.refl _ | apply Drawn0.step)⟩
      ·rw [if_neg c7] at H
       have c7b0 : ((bt a0 x8_1) == 63) = false := beq_eq_false_iff_ne.mpr c7
       have c7b1 : ((bt a0 x8_1) != 63) = true := bne_iff_ne.mpr c7
       by_cases c9 : x8_1 < (a1.size : Int)
       ·rw [if_pos c9] at H
        have c9b0 : decide (x8_1 < (a1.size : Int)) = true := decide_eq_true c9
        clear c9
        by_cases c11 : (bt a0 x8_1) = (bt a1 x8_1)
        ·rw [if_pos c11] at H
         have c11b0 : ((bt a0 x8_1) == (bt a1 x8_1)) = true := beq_iff_eq.mpr c11
         have c11b1 : ((bt a0 x8_1) != (bt a1 x8_1)) = false := bne_eq_false_iff_eq.mpr c11
         clear c11
         have H' := aM H
         clear H
         have p6 : 0 ≤ (x8_1 : Int) := of_decide_eq_true (by first | (with_reducible assumption) | assumption)
         have q6 : x8_1 < (a0.size : Int) := of_decide_eq_true (by first | (with_reducible assumption) | assumption)
         have hx6 := bt_at a0 x8_1
         replace p6 := eq_true p6
         replace q6 := eq_true q6
         have p8 : 0 ≤ (x8_1 : Int) := of_decide_eq_true (by first | (with_reducible assumption) | assumption)
         have q8 : x8_1 < (a0.size : Int) := of_decide_eq_true (by first | (with_reducible assumption) | assumption)
         have hx8 := bt_at a0 x8_1
         replace p8 := eq_true p8
         replace q8 := eq_true q8
         have p10 : 0 ≤ (x8_1 : Int) := of_decide_eq_true (by first | (with_reducible assumption) | assumption)
         have q10 : x8_1 < (a1.size : Int) := of_decide_eq_true (by first | (with_reducible assumption) | assumption)
         have hx10 := bt_at a1 x8_1
         replace p10 := eq_true p10
         replace q10 := eq_true q10
         go_wp2
         repeat (go_quiet (fail); try go_wp2)
         go_roundg k1
         case measure => mO
         case rel => exact ⟨(wrap64 (x8_1 + 1)), (by rF), H', ⟨by mO⟩, by repeat (first | exact Drawn0.refl _ | apply Drawn0.step)⟩
        ·rw [if_neg c11] at H
         have c11b0 : ((bt a0 x8_1) == (bt a1 x8_1)) = false := beq_eq_false_iff_ne.mpr c11
         have c11b1 : ((bt a0 x8_1) != (bt a1 x8_1)) = true := bne_iff_ne.mpr c11
         obtain rfl := Option.some.inj H
         have p6 : 0 ≤ (x8_1 : Int) := of_decide_eq_true (by first | (with_reducible assumption) | assumption)
         have q6 : x8_1 < (a0.size : Int) := of_decide_eq_true (by first | (with_reducible assumption) | assumption)
         have hx6 := bt_at a0 x8_1
         replace p6 := eq_true p6
         replace q6 := eq_true q6
         have p8 : 0 ≤ (x8_1 : Int) := of_decide_eq_true (by first | (with_reducible assumption) | assumption)
         have q8 : x8_1 < (a0.size : Int) := of_decide_eq_true (by first | (with_reducible assumption) | assumption)
         have hx8 := bt_at a0 x8_1
         replace p8 := eq_true p8
         replace q8 := eq_true q8
         have p10 : 0 ≤ (x8_1 : Int) := of_decide_eq_true (by first | (with_reducible assumption) | assumption)
         have q10 : x8_1 < (a1.size : Int) := of_decide_eq_true (by first | (with_reducible assumption) | assumption)
         have hx10 := bt_at a1 x8_1
         replace p10 := eq_true p10
         replace q10 := eq_true q10
         go_wp2
         repeat (go_quiet (fail); try go_wp2)
         go_ret
         exact ⟨by rF, by repeat (first | exact Drawn0.refl _ | apply Drawn0.step)⟩
       ·rw [if_neg c9] at H
        exact absurd H (by simp)
     ·rw [if_neg c5] at H
      exact absurd H (by simp)
    ·rw [if_neg c4] at H
     exact absurd H (by simp)
   ·rw [if_neg c3] at H
    have c3b0 : decide (x8_1 < (a0.size : Int)) = false := decide_eq_false c3
    clear c3
    obtain rfl := Option.some.inj H
    go_wp2
    repeat (go_quiet (fail); try go_wp2)
    go_ret
    exact ⟨by rF, by repeat (first | exact Drawn0.refl _ | apply Drawn0.step)⟩

/-! ### impl_Lamps_tick: function 92 -/
-- by hand (wip/ext/tick.tpl)
theorem implMeets_ev (nd s : ByteArray) (hz : nd.size ≤ s.size) (hm : s.size ≤ 1000) : Ev (fun k => impl_meets.f k nd s) (meetsL nd.data.toList s.data.toList) := by
  have hzn : nd.size = nd.data.toList.length := Lib.size_eq nd
  have hzs : s.size = s.data.toList.length := Lib.size_eq s
  have key : ∀ (d i : Nat), i + d = nd.size → (∀ j (hj : j < nd.data.toList.length) (hs : j < s.data.toList.length), j < i → nd.data.toList[j] = 63 ∨ nd.data.toList[j] = s.data.toList[j]) →
      Ev (fun k => impl_meets.l0 k nd s (nd.size : Int) (i : Int)) (meetsL nd.data.toList s.data.toList) := by
    intro d
    induction d with
    | zero =>
      intro i hi hp
      refine Ev.last fun k => ?_
      rw [impl_meets.l0, if_neg (by omega), meetsL_of _ _ (by omega) (fun j hj => hp j hj (by omega) (by omega))]
    | succ d ih =>
      intro i hi hp
      have h1 : i < nd.data.toList.length := by omega
      have h2 : i < s.data.toList.length := by omega
      have ew : wrap64 ((i : Int) + 1) = ((i + 1 : Nat) : Int) := by rw [w64 (by omega) (by omega)]; omega
      have e1 := bt_nat nd i h1
      have e2 := bt_nat s i h2
      have q63 : ((nd.data.toList[i].toNat : Int) = 63) = (nd.data.toList[i] = 63) := byte_toInt nd.data.toList[i] 63 (by omega)
      have qd : ((nd.data.toList[i].toNat : Int) = (s.data.toList[i].toNat : Int)) = (nd.data.toList[i] = s.data.toList[i]) := propext ⟨fun h => UInt8.toNat_inj.mp (by omega), fun h => by rw [h]⟩
      by_cases c : nd.data.toList[i] = 63 ∨ nd.data.toList[i] = s.data.toList[i]
      · refine Ev.next ⟨0, fun k _ => ?_⟩ (ih (i + 1) (by omega) (fun j hj hs h => (Nat.lt_succ_iff_lt_or_eq.1 h).elim (hp j hj hs) (fun e => by subst e; exact c)))
        rw [impl_meets.l0, if_pos (by omega), if_pos (by omega), if_pos (by omega), e1, e2, ew]
        simp only [q63, qd]
        rcases c with c | c
        · rw [if_pos c]
        · by_cases c6 : nd.data.toList[i] = 63
          · rw [if_pos c6]
          · rw [if_neg c6, if_pos (by omega), if_pos c]
      · have c1 : ¬ nd.data.toList[i] = 63 := fun h => c (.inl h)
        have c2 : ¬ nd.data.toList[i] = s.data.toList[i] := fun h => c (.inr h)
        refine Ev.last fun k => ?_
        rw [impl_meets.l0, if_pos (by omega), if_pos (by omega), if_pos (by omega), e1, e2]
        simp only [q63, qd]
        rw [if_neg c1, if_pos (by omega), if_neg c2, meetsL_not _ _ i h1 h2 c1 c2]
  have := key nd.size 0 (by omega) (fun j _ _ h => absurd h (by omega))
  exact this
def tickAt (l : List ByteArray) (s : List UInt8) (k j : Nat) : UInt8 := if j < k then (tickL l s).getD j 0 else s.getD j 0
def impl_Lamps_tick.f (l0_0 : List ByteArray) (a1 : ByteArray) : Option ByteArray := if l0_0.length = a1.size ∧ a1.size ≤ 1000 ∧ (∀ x ∈ l0_0, x.size ≤ a1.size) then some ⟨(tickL l0_0 a1.data.toList).toArray⟩ else none
set_option maxHeartbeats 1000000 in
set_option maxRecDepth 100000 in
theorem impl_Lamps_tick.calls (A0_0 : Option Addr) (c0_0 : Nat) (l0_0 : List ByteArray) (a1 : ByteArray) (r : ByteArray) (w : World) (hr0_0 : Kd.C Kd.string w A0_0 l0_0.length l0_0) (hc0_0 : l0_0.length ≤ c0_0) (h : impl_Lamps_tick.f l0_0 a1 = some r) :
    Calls Tryd.prog 92 #[.agg #[.slice A0_0 l0_0.length c0_0], .string a1] w fun e w' => e = .returned (.string r) ∧ Below w.heap.size w w' := by
  unfold impl_Lamps_tick.f at h
  split at h
  case isFalse => cases h
  case isTrue hc =>
  obtain ⟨hln, hmx, hall⟩ := hc
  have hR := Option.some.inj h
  clear h
  have hu := Tryd.underlying29
  have hus := Tryd.underlying9
  have hcv : ∀ (wx : World) (s : ByteArray), (convert 9 77 (.string s)).run Tryd.prog wx = .ok (.slice (some ⟨wx.heap.size, 0, none⟩) s.size (grownCap wx s.size 0 5)) (Lib.bytesWorld wx 5 s) := fun wx s => Lib.run_convert_string_bytes wx 9 77 5 s Tryd.underlying9 Tryd.underlying77 Tryd.underlying5
  have HR := aM hR
  have HRR := aM hr0_0
  have HZs := aM (show a1.size = a1.data.toList.length from Lib.size_eq a1)
  have HLN := aM hln
  have HMX := aM hmx
  have HALL := aM hall
  clear hr0_0 hR hln hmx hall
  have hcl0 : (Lib.bytesWorld (w.alloc (.cells #[.slice A0_0 l0_0.length c0_0] 29)) 5 a1).cell? ⟨w.heap.size, 0, none⟩ = some (.slice A0_0 l0_0.length c0_0) := by
    rw [Lib.bytesWorld_old _ _ _ _ (by simp)]; go_simp
  go_enter Tryd.func92, Tryd.ntmps92
  go_wp2
  have HBY := aM (bytesAt_made (w.alloc (.cells #[.slice A0_0 l0_0.length c0_0] 29)) 5 a1)
  have HHB := aM (below_bytes (below_alloc (Below.refl w.heap.size w) (.cells #[.slice A0_0 l0_0.length c0_0] 29)) (by simp) 5 a1)
  clear hcv
  have hsz1 : (w.alloc (.cells #[.slice A0_0 l0_0.length c0_0] 29)).heap.size = w.heap.size + 1 := by simp
  rw [hsz1] at HBY
  clear hsz1
  obtain ⟨K, hK⟩ : ∃ K, K = w.heap.size + 1 := ⟨_, rfl⟩
  rw [← hK] at HBY ⊢
  have HKB := aM (show w.heap.size ≤ K by omega)
  clear hK
  obtain ⟨m, hm⟩ : ∃ m, m = (Lib.bytesCells (w.alloc (.cells #[.slice A0_0 l0_0.length c0_0] 29)) 5 a1).size := ⟨_, rfl⟩
  rw [← hm] at HBY
  clear hm
  generalize Lib.bytesWorld (w.alloc (.cells #[.slice A0_0 l0_0.length c0_0] 29)) 5 a1 = W0 at HBY HHB hcl0 ⊢
  generalize grownCap (w.alloc (.cells #[.slice A0_0 l0_0.length c0_0] 29)) a1.size 0 5 = cp
  go_loopg [13] l0_0.length (fun gg v13 w' => ∃ k : Nat, k + gg = l0_0.length ∧ v13 = .int .i64 k ∧ Aside0 (bytesAt w' K m 5 a1.size (tickAt l0_0 a1.data.toList k)) ∧ Aside0 (Below w.heap.size w w'))
  case atStart => exact ⟨0, by omega, rfl, ⟨bytesAt_congr HBY.out (fun j hj => by simp [tickAt])⟩, HHB⟩
  case round =>
    clear HBY HHB hcl0
    obtain ⟨k, hks, rfl, HBY, HB⟩ := hrel
    by_cases hp : k < l0_0.length
    · have hps : k < a1.size := by rw [← HLN.out]; exact hp
      have hk1000 : k < 1000 := by have := HMX.out; omega
      have hpl : k < a1.data.toList.length := by rw [← HZs.out]; exact hps
      obtain ⟨ad, rfl, hx0⟩ := Kd.at_string HRR.out (k : Int) (by omega) (by omega)
      simp only [Int.toNat_natCast] at hx0
      replace hx0 := (HB.out.cell (World.block_lt_of_cell? w _ hx0)).trans hx0
      have ex : rdOf ByteArray.empty l0_0 (k : Int) = l0_0[k] := by simp [rdOf, hp]
      rw [ex] at hx0
      clear ex
      have hndz := HALL.out l0_0[k] (List.getElem_mem hp)
      have htk : (tickL l0_0 a1.data.toList).getD k 0 = if meetsL l0_0[k].data.toList a1.data.toList = true then 97 - a1.data.toList[k] else a1.data.toList[k] := by
        have h1 : k < (tickL l0_0 a1.data.toList).length := by simp [tickL]; omega
        simp only [List.getD, List.getElem?_eq_getElem h1, Option.getD_some]
        simp [tickL]
      obtain ⟨nd, hnd⟩ : ∃ nd, nd = l0_0[k] := ⟨_, rfl⟩
      rw [← hnd] at hx0 hndz htk
      clear hnd
      obtain ⟨KK, hKK⟩ := implMeets_ev nd a1 hndz HMX.out
      have HM := aM (hKK KK (Nat.le_refl _))
      clear hKK
      have hce := bytesAt_cell HBY.out k hps
      have hfz := bytesAt_frozen HBY.out k hps
      have et : tickAt l0_0 a1.data.toList k k = a1.data.toList[k] := by simp [tickAt, List.getD, List.getElem?_eq_getElem hpl]
      rw [et] at hce
      clear et
      obtain ⟨b, hb⟩ : ∃ b, b = a1.data.toList[k] := ⟨_, rfl⟩
      rw [← hb] at hce htk
      have HBB := aM hb
      have HTK := aM htk
      clear hb htk hndz
      obtain ⟨M, hM⟩ : ∃ M, M = meetsL nd.data.toList a1.data.toList := ⟨_, rfl⟩
      rw [← hM] at HM HTK
      clear hM
      have p6 : (0 ≤ (k : Int)) = True := eq_true (by omega)
      have q6 : ((k : Int) < (a1.size : Int)) = True := eq_true (by omega)
      cases M with
      | true =>
        go_wp2_with (go_at_call 176; refine (impl_meets.calls KK nd a1 true _ HM.out).mono ?_; rintro e w' ⟨rfl, ⟨n, rfl⟩⟩)
        have hsub : ((97 : Int) - (b.toNat : Int)) % 256 = ((97 - b : UInt8).toNat : Int) := by
          rw [UInt8.toNat_sub]
          have := b.toNat_lt
          have e97 : (97 : UInt8).toNat = 97 := rfl
          rw [e97]
          omega
        rw [hsub]
        go_roundg (l0_0.length - (k + 1))
        case measure => omega
        case rel =>
          refine ⟨k + 1, by omega, by go_num, ⟨bytesAt_congr (bytesAt_set (bytesAt_below HBY.out (pw_below_drewN (Below.refl _ _) n)) k (97 - b)) (fun j hj => ?_)⟩, ⟨below_setCell (below_step HB.out (pw_below_drewN (Below.refl _ _) n)) K k _ HKB.out⟩⟩
          unfold tickAt
          by_cases c : j = k
          · subst c
            rw [if_pos (by omega), if_pos rfl, HTK.out]; simp
          · rw [if_neg c]
            by_cases c2 : j < k
            · rw [if_pos (by omega), if_pos c2]
            · rw [if_neg (by omega), if_neg c2]
      | false =>
        go_wp2_with (go_at_call 176; refine (impl_meets.calls KK nd a1 false _ HM.out).mono ?_; rintro e w' ⟨rfl, ⟨n, rfl⟩⟩)
        go_roundg (l0_0.length - (k + 1))
        case measure => omega
        case rel =>
          refine ⟨k + 1, by omega, by go_num, ⟨bytesAt_congr (bytesAt_below HBY.out (pw_below_drewN (Below.refl _ _) n)) (fun j hj => ?_)⟩, ⟨below_step HB.out (pw_below_drewN (Below.refl _ _) n)⟩⟩
          unfold tickAt
          by_cases c : j = k
          · subst c
            rw [if_pos (by omega), if_neg (by omega), HTK.out, HBB.out]
            simp [List.getD, List.getElem?_eq_getElem hpl]
          · by_cases c2 : j < k
            · rw [if_pos (by omega), if_pos c2]
            · rw [if_neg (by omega), if_neg c2]
    · have hts : (tickL l0_0 a1.data.toList).length = a1.size := by rw [tickL_length _ _ (by have := HLN.out; have := HZs.out; omega)]; exact HZs.out.symm
      have hcs := bytesAt_string (P := Tryd.prog) (src := 77) (dst := 9) HBY.out Tryd.underlying77 Tryd.underlying5 Tryd.underlying9 cp (tickL l0_0 a1.data.toList) hts (fun j hj => by
        unfold tickAt
        rw [if_pos (by have := HLN.out; omega)]
        simp [List.getD, List.getElem?_eq_getElem hj])
      go_wp2
      go_ret
      exact ⟨ret_str HR.out, HB.out⟩

/-! ### impl_Lamps_course: function 110 -/
-- by hand (wip/ext/course.tpl)
def impl_Lamps_course.f (l0_0 : List ByteArray) (a1 : ByteArray) : Option (List ByteArray × Int) := if litR l0_0 a1 = true then courseP (tickS l0_0) 1100 [] a1 else none
theorem impl_Lamps_course.info : (Tryd.prog.info? 9).map (fun i => (i.zero, i.size, i.bytes)) = some (some (.string ⟨#[]⟩), 1, 16) := by kernel_rfl
set_option maxHeartbeats 1000000 in
set_option maxRecDepth 100000 in
theorem impl_Lamps_course.calls (A0_0 : Option Addr) (c0_0 : Nat) (l0_0 : List ByteArray) (a1 : ByteArray) (r1 : List ByteArray) (r2 : Int) (w : World) (hr0_0 : Kd.C Kd.string w A0_0 l0_0.length l0_0) (hc0_0 : l0_0.length ≤ c0_0) (h : impl_Lamps_course.f l0_0 a1 = some (r1, r2)) :
    Calls Tryd.prog 110 #[.agg #[.slice A0_0 l0_0.length c0_0], .string a1] w fun e w' => ∃ v0_ : Value, e = .returned (.tuple #[v0_, .int .i64 r2]) ∧ Kd.R Kd.string 9 w' w.heap.size (fun _ => True) v0_ r1 ∧ Below w.heap.size w w' := by
  unfold impl_Lamps_course.f at h
  split at h
  case isFalse => cases h
  case isTrue hlit =>
  have hu := Tryd.underlying29
  have hus := Tryd.underlying9
  have hz0 : ∀ wx, (zeroValue 3).run Tryd.prog wx = .ok (.int .i64 0) wx := fun wx => by go_simp
  have hmk : ∀ wx, (Instr.makeMap 167 none).run Tryd.prog wx = .ok (.map (some wx.heap.size)) (wx.alloc (.map #[] 0)) := fun wx => run_makeMap 167 wx
  have HH := aM h
  have HLIT := aM hlit
  have HRR := aM hr0_0
  clear h hlit hr0_0
  go_enter Tryd.func110, Tryd.ntmps110
  go_wp2
  have HM0 := aM (mapHas_made Tryd.prog 9 3 (w.alloc (.cells #[.slice A0_0 l0_0.length c0_0] 29)))
  have HB0 := aM (show Below w.heap.size w ((w.alloc (.cells #[.slice A0_0 l0_0.length c0_0] 29)).alloc (.map #[] 0)) from ((Below.refl _ w).alloc (Nat.le_refl _) _).alloc (by simp) _)
  have BK0 := aM (show ((w.alloc (.cells #[.slice A0_0 l0_0.length c0_0] 29)).alloc (.map #[] 0)).heap[w.heap.size]? = some (.cells #[.slice A0_0 l0_0.length c0_0] 29 (0, 0)) from blk_alloc (MapKept.heap_alloc w _).1 _)
  have hsz1 : (w.alloc (.cells #[.slice A0_0 l0_0.length c0_0] 29)).heap.size = w.heap.size + 1 := by simp
  rw [hsz1] at HM0
  clear hsz1 hmk
  obtain ⟨MB, hMB⟩ : ∃ MB, MB = w.heap.size + 1 := ⟨_, rfl⟩
  rw [← hMB] at HM0 ⊢
  have HMB := aM (show w.heap.size < MB by omega)
  clear hMB
  generalize (w.alloc (.cells #[.slice A0_0 l0_0.length c0_0] 29)).alloc (.map #[] 0) = W0 at HM0 HB0 BK0 ⊢
  go_loopg [1, 7] 1100 (fun gg v1 v7 w' => ∃ (s : ByteArray) (acc : List ByteArray), v1 = .string s ∧ Aside0 (courseP (tickS l0_0) gg acc s = some (r1, r2)) ∧ Aside0 (litR l0_0 s = true) ∧ Aside0 (acc.length + gg ≤ 1100) ∧ Aside0 (Kd.R Kd.string 9 w' w.heap.size (fun _ => True) v7 acc) ∧ Aside0 (mapHas Tryd.prog 9 3 w' MB acc) ∧ Aside0 (w'.heap[w.heap.size]? = some (.cells #[.slice A0_0 l0_0.length c0_0] 29 (0, 0))) ∧ Aside0 (Below w.heap.size w w'))
  case atStart => exact ⟨a1, [], rfl, HH, HLIT, ⟨by simp⟩, ⟨Kd.R_nil _ _ _ _ _⟩, HM0, BK0, HB0⟩
  case round =>
    clear HM0 HB0 BK0 HH HLIT
    obtain ⟨s, acc, rfl, HA, HLIT, HL, HO, HM, BK, HB⟩ := hrel
    cases gk with
    | zero => exact absurd HA.out (by simp [courseP])
    | succ k1 =>
      obtain ⟨A, c, rfl⟩ := Kd.R_slice HO.out
      have hsm : s.size ≤ maxLen := by have := (lit_facts HLIT.out).2.2.2.1; simp only [maxLen]; omega
      have hlk := mapHas_look (t := 167) HM.out Tryd.underlying9 Tryd.underlying167 Tryd.underlying3 (hz0 wr) s hsm
      have H := HA.out
      clear HA
      rw [courseP] at H
      by_cases hm : s ∈ acc
      · rw [if_pos hm] at H hlk
        simp only [Option.some.injEq, Prod.mk.injEq] at H
        obtain ⟨rfl, rfl⟩ := H
        clear hm
        go_wp2
        go_ret2
        exact ⟨_, rfl, HO.out, HB.out⟩
      · rw [if_neg hm] at H hlk
        have H' := aM H
        clear H
        obtain ⟨w1, hup, hm1, hg1⟩ := mapHas_put (t := 167) HM.out Tryd.underlying9 Tryd.underlying167 Tryd.underlying3 s hsm (by have := HL.out; omega) hm
        obtain ⟨es_, c_, hbm⟩ := mapHas_block HM.out
        have HO1 := aM (R_map HO.out hbm hg1)
        have BK1 := aM (blk_grown BK.out hg1 (by have := HMB.out; intro h; cases h; omega))
        have HB1 := aM (HB.out.grown hg1 (below_size HB.out) (fun k' hk' => by cases hk'; exact Nat.le_of_lt HMB.out))
        have HM1 := aM hm1
        have HTK := aM (show impl_Lamps_tick.f l0_0 s = some (tickS l0_0 s) by
          obtain ⟨_, h1, _, h2, h3, h4⟩ := lit_facts HLIT.out
          unfold impl_Lamps_tick.f
          rw [if_pos ⟨h1, by omega, h3⟩]
          rfl)
        clear hm hm1 hg1 hbm HO HM BK HB hsm
        go_wp2_with (first
          | ((with_reducible refine gate_builtin (b := .append) (xs := #[.tmp 24, .tmp 26]) rfl ?_); at_builtin; refine Kd.R_append Kd.string (w0 := w) w.heap.size rfl (.tmp 24) (.tmp 26) 22 9 (.string ⟨#[]⟩) 16 rfl Tryd.underlying22 impl_Lamps_course.info rfl (by decide) (by omega) (.slice A acc.length c) acc s [.string s] (fun _ => True) (fun _ => False) rfl rfl rfl (fun _ hk => hk.elim) (fun _ _ => trivial) HO1.out HB1.out (below_size HB1.out) (by have := HL.out; omega) ?_; intro v2 w2 ho hb hg hat; have HO2 := aM ho; have HB2 := aM hb; have HM2 := aM (mapHas_kept HM1.out hg (by obtain ⟨es2_, c2_, hbm2⟩ := mapHas_block HM1.out; intro he; obtain ⟨cs_, hcs_⟩ := Kd.R_typed HO1.out MB he.symm; rw [hbm2] at hcs_; cases hcs_)); have BK2 := aM (blk_grown BK1.out hg (Kd.R_ne HO1.out BK1.out (by decide))); have hcl2 := (blk_cell BK2.out 0).trans rfl; clear ho hb hg hat)
          | (go_at_call 92; refine (impl_Lamps_tick.calls A0_0 c0_0 l0_0 s (tickS l0_0 s) _ (Kd.C_below HRR.out HB2.out) hc0_0 HTK.out).mono ?_; rintro e w3 ⟨rfl, hb⟩; have HO3 := aM (Kd.R_below HO2.out hb); have HM3 := aM (mapHas_below HM2.out hb); have BK3 := aM (blk_below BK2.out hb); have HB3 := aM (below_step HB2.out hb); clear hb hcl2))
        go_roundg k1
        case measure => omega
        case rel => exact ⟨tickS l0_0 s, acc ++ [s], rfl, H', ⟨lit_tick HLIT.out⟩, ⟨by have := HL.out; simp; omega⟩, HO3, HM3, BK3, HB3⟩

/-! ### impl_after: function 111 -/
def impl_after.f (l0 : List ByteArray) (a1 : Int) (a2 : Int) : Option (ByteArray) := if a2 < (l0.length : Int) then (if 0 ≤ a2 then (some (rdOf ByteArray.empty l0 a2)) else (none)) else (if (wrap64 ((l0.length : Int) - a1)) = 0 then (none) else (if 0 ≤ (wrap64 (a1 + (Int.tmod (wrap64 (a2 - a1)) (wrap64 ((l0.length : Int) - a1))))) then (if (wrap64 (a1 + (Int.tmod (wrap64 (a2 - a1)) (wrap64 ((l0.length : Int) - a1))))) < (l0.length : Int) then (some (rdOf ByteArray.empty l0 (wrap64 (a1 + (Int.tmod (wrap64 (a2 - a1)) (wrap64 ((l0.length : Int) - a1))))))) else (none)) else (none)))
set_option maxHeartbeats 8000000 in
set_option maxRecDepth 100000 in
theorem impl_after.calls (A0 : Option Addr) (c0 : Nat) (l0 : List ByteArray) (a1 : Int) (a2 : Int) (r : ByteArray) (w : World) (hr0 : Kd.C Kd.string w A0 l0.length l0) (hc0 : l0.length ≤ c0) (h : impl_after.f l0 a1 a2 = some r) :
  Calls Tryd.prog 111 #[.slice A0 l0.length c0, .int .i64 a1, .int .i64 a2] w fun e w' => e = .returned (.string r) ∧ Drawn0 w w' := by
 have HR0 := aM hr0
 have HC0 := aM hc0
 clear hr0 hc0
 have H : (if a2 < (l0.length : Int) then (if 0 ≤ a2 then (some (rdOf ByteArray.empty l0 a2)) else (none)) else (if (wrap64 ((l0.length : Int) - a1)) = 0 then (none) else (if 0 ≤ (wrap64 (a1 + (Int.tmod (wrap64 (a2 - a1)) (wrap64 ((l0.length : Int) - a1))))) then (if (wrap64 (a1 + (Int.tmod (wrap64 (a2 - a1)) (wrap64 ((l0.length : Int) - a1))))) < (l0.length : Int) then (some (rdOf ByteArray.empty l0 (wrap64 (a1 + (Int.tmod (wrap64 (a2 - a1)) (wrap64 ((l0.length : Int) - a1))))))) else (none)) else (none)))) = some r := h
 clear h
 by_cases c4 : a2 < (l0.length : Int)
 ·rw [if_pos c4] at H
  have c4b0 : decide (a2 < (l0.length : Int)) = true := decide_eq_true c4
  clear c4
  by_cases c5 : 0 ≤ a2
  ·rw [if_pos c5] at H
   have c5b0 : decide (0 ≤ a2) = true := decide_eq_true c5
   clear c5
   obtain rfl := Option.some.inj H
   have p111 : 0 ≤ (a2 : Int) := of_decide_eq_true (by first | (with_reducible assumption) | assumption)
   have q111 : a2 < (l0.length : Int) := of_decide_eq_true (by first | (with_reducible assumption) | assumption)
   obtain ⟨ad111, e111, hx111_0⟩ := Kd.at_string HR0.out a2 p111 q111
   cases e111
   replace p111 := eq_true p111
   replace q111 := eq_true q111
   go_enter Tryd.func111, Tryd.ntmps111
   go_wp2
   go_ret
   exact ⟨by rF, by repeat (first | exact Drawn0.refl _ | apply Drawn0.step)⟩
  ·rw [if_neg c5] at H
   exact absurd H (by simp)
 ·rw [if_neg c4] at H
  have c4b0 : decide (a2 < (l0.length : Int)) = false := decide_eq_false c4
  clear c4
  by_cases c6 : (wrap64 ((l0.length : Int) - a1)) = 0
  ·rw [if_pos c6] at H
   exact absurd H (by simp)
  ·rw [if_neg c6] at H
   have c6b0 : ((wrap64 ((l0.length : Int) - a1)) == 0) = false := beq_eq_false_iff_ne.mpr c6
   have c6b1 : ((wrap64 ((l0.length : Int) - a1)) != 0) = true := bne_iff_ne.mpr c6
   obtain ⟨ji7, hji7⟩ : ∃ j_ : Int, (wrap64 (a1 + (Int.tmod (wrap64 (a2 - a1)) (wrap64 ((l0.length : Int) - a1))))) = j_ := ⟨_, rfl⟩
   replace H : (if 0 ≤ (ji7) then (if (ji7) < (l0.length : Int) then (some (rdOf ByteArray.empty l0 (ji7))) else (none)) else (none)) = some r := by first | (rw [hji7] at H; exact H) | (simp only [hji7] at H ⊢; exact H)
   have hji7w : (IntKind.i64.wrap (a1 + (Int.tmod (wrap64 (a2 - a1)) (wrap64 ((l0.length : Int) - a1))))) = ji7 := (i64_w _).trans hji7
   by_cases c8 : 0 ≤ (ji7)
   ·rw [if_pos c8] at H
    have c8b0 : decide (0 ≤ (ji7)) = true := decide_eq_true c8
    clear c8
    by_cases c9 : (ji7) < (l0.length : Int)
    ·rw [if_pos c9] at H
     have c9b0 : decide ((ji7) < (l0.length : Int)) = true := decide_eq_true c9
     clear c9
     obtain rfl := Option.some.inj H
     have p112 : 0 ≤ ((ji7) : Int) := of_decide_eq_true (by first | (with_reducible assumption) | assumption)
     have q112 : (ji7) < (l0.length : Int) := of_decide_eq_true (by first | (with_reducible assumption) | assumption)
     obtain ⟨ad112, e112, hx112_0⟩ := Kd.at_string HR0.out (ji7) p112 q112
     cases e112
     replace p112 := eq_true p112
     replace q112 := eq_true q112
     go_enter Tryd.func111, Tryd.ntmps111
     go_wp2
     go_ret
     exact ⟨by first | rfl | (simp; done) | (simp only [← hji7] <;> (first | rfl | simp)) | (simp [*]; done), by repeat (first | exact Drawn0.refl _ | apply Drawn0.step)⟩
    ·rw [if_neg c9] at H
     exact absurd H (by simp)
   ·rw [if_neg c8] at H
    exact absurd H (by simp)

end Go.Proofs.YtifdgebdkhdmhaaDoor.PLTick
