-- squeezed (sq3.py); PRINTED by drive.py (a program of this session's, over the kit's print.py; wip/tools/drive.py). Lean checks it.
import Derived.Test.YtiiahdjjngdgoaaDoorQPLTickx0
import Derived.Test.YtiiahdjjngdgoaaDoorQPLTickx1
import Derived.Test.YtiiahdjjngdgoaaDoorQPLTickx4
import Derived.Test.YtiiahdjjngdgoaaDoorQSq
namespace Go.Proofs.YtiiahdjjngdgoaaDoor.PLTick
open Go.RowKit Go.Proofs.YtiiahdjjngdgoaaDoorW.PrintWords Go.Proofs.YtiiahdjjngdgoaaDoorW.PrintLast Go.Proofs.YtiiahdjjngdgoaaDoorW.PrintMore
attribute [local go_sem] max2_int min2_int max_two min_two max_three min_three max_four min_four   -- for this text's walks alone
set_option linter.unusedVariables false
set_option linter.unusedSimpArgs false

/-! ### impl_meets: function 144 -/
def impl_meets.l0 : Nat → ByteArray → ByteArray → Int → Int → Option (Bool)
 | 0, _, _, _, _ => none
 | k + 1, x0, x1, x7, x8 => if x8 < x7 then (if 0 ≤ x8 then (if x8 < (x0.size : Int) then (if (bt x0 x8) = 63 then (impl_meets.l0 k x0 x1 x7 (wrap64 (x8 + 1))) else (if x8 < (x1.size : Int) then (if (bt x0 x8) = (bt x1 x8) then (impl_meets.l0 k x0 x1 x7 (wrap64 (x8 + 1))) else (some false)) else (none))) else (none)) else (none)) else (some true)
def impl_meets.f (k : Nat) (a0 : ByteArray) (a1 : ByteArray) : Option (Bool) := impl_meets.l0 k a0 a1 (a0.size : Int) 0
theorem impl_meets.mono_l : ∀ k, Mo (impl_meets.l0 k) (impl_meets.l0 (k + 1))
 | 0 => m0
 | k + 1 => by
  have ih0 := impl_meets.mono_l k
  (repeat refine mE fun _ => ?_) <;> first | (unfold impl_meets.l0; exact mG)
instance impl_meets.mI (k : Nat) : Mo (impl_meets.f k) (impl_meets.f (k + 1)) := by
 have ih0 := impl_meets.mono_l k
 (repeat refine mE fun _ => ?_); unfold impl_meets.f; exact mG
theorem impl_meets.mono : ∀ a0 a1 k, LeO (impl_meets.f k a0 a1) (impl_meets.f (k + 1) a0 a1) := fun a0 a1 k => (impl_meets.mI k).out a0 a1
set_option maxHeartbeats 8000000 in
set_option maxRecDepth 100000 in
theorem impl_meets.calls (k : Nat) (a0 : ByteArray) (a1 : ByteArray) (r : Bool) (w : World) (h : impl_meets.f k a0 a1 = some r) :
  Calls Tryd.prog 144 #[.string a0, .string a1] w fun e w' => e = .returned (.bool r) ∧ Drawn0 w w' := by
 have H := h
 clear h; unfold impl_meets.f at H
 have H' := aM H
 clear H
 go_enter Tryd.func144, Tryd.ntmps144
 go_wp2
 repeat (go_quiet (fail); try go_wp2)
 go_loopg [8] k (fun kq v8 w' => ∃ (x8_1 : Int), v8 = .int .i64 x8_1 ∧ Aside0 (impl_meets.l0 kq a0 a1 (a0.size : Int) x8_1 = some r) ∧ Aside0 (kq ≤ k) ∧ Drawn0 w w')
 case atStart => exact ⟨(0), rF, H', kR, d0⟩
 case round =>
  clear H'
  obtain ⟨x8_1, rfl, HA, HK1, ⟨m1, rfl⟩⟩ := hrel
  obtain rfl | ⟨k1, rfl⟩ := fz gk
  ·exact zA HA
  have H := HA.out
  clear HA
  simp only [impl_meets.l0] at H
  refine iI H ?_ ?_ <;> clear H <;> intro c3 H
  ·have c3b0 := dT c3
   clear c3
   refine iY H ?_; clear H; intro c4 H
   have c4b0 := dT c4
   clear c4
   refine iY H ?_; clear H; intro c5 H
   have c5b0 := dT c5
   clear c5
   refine iI H ?_ ?_ <;> clear H <;> intro c7 H
   ·have c7b0 := qT c7
    have c7b1 := nF c7
    clear c7
    have H' := aM H
    clear H
    have p6 : 0 ≤ (x8_1 : Int) := oD
    have q6 : x8_1 < (a0.size : Int) := oD
    have hx6 := bt_at a0 x8_1
    replace p6 := eq_true p6
    replace q6 := eq_true q6
    go_wp2
    repeat (go_quiet (fail); try go_wp2)
    go_roundg k1
    case measure => have := HK1.out; omega
    case rel => exact ⟨(wrap64 (x8_1 + 1)), rF, H', ⟨by have := HK1.out; omega⟩, d0⟩
   have c7b0 := qF c7
   have c7b1 := nT c7
   refine iY H ?_; clear H; intro c9 H
   have c9b0 := dT c9
   clear c9
   refine iI H ?_ ?_ <;> clear H <;> intro c11 H
   ·have c11b0 := qT c11
    have c11b1 := nF c11
    clear c11
    have H' := aM H
    clear H
    have p6 : 0 ≤ (x8_1 : Int) := oD
    have q6 : x8_1 < (a0.size : Int) := oD
    have hx6 := bt_at a0 x8_1
    replace p6 := eq_true p6
    replace q6 := eq_true q6
    have p8 : 0 ≤ (x8_1 : Int) := oD
    have q8 : x8_1 < (a0.size : Int) := oD
    have hx8 := bt_at a0 x8_1
    replace p8 := eq_true p8
    replace q8 := eq_true q8
    have p10 : 0 ≤ (x8_1 : Int) := oD
    have q10 : x8_1 < (a1.size : Int) := oD
    have hx10 := bt_at a1 x8_1
    replace p10 := eq_true p10
    replace q10 := eq_true q10
    go_wp2
    repeat (go_quiet (fail); try go_wp2)
    go_roundg k1
    case measure => have := HK1.out; omega
    case rel => exact ⟨(wrap64 (x8_1 + 1)), rF, H', ⟨by have := HK1.out; omega⟩, d0⟩
   have c11b0 := qF c11
   have c11b1 := nT c11
   obtain rfl := Option.some.inj H
   have p6 : 0 ≤ (x8_1 : Int) := oD
   have q6 : x8_1 < (a0.size : Int) := oD
   have hx6 := bt_at a0 x8_1
   replace p6 := eq_true p6
   replace q6 := eq_true q6
   have p8 : 0 ≤ (x8_1 : Int) := oD
   have q8 : x8_1 < (a0.size : Int) := oD
   have hx8 := bt_at a0 x8_1
   replace p8 := eq_true p8
   replace q8 := eq_true q8
   have p10 : 0 ≤ (x8_1 : Int) := oD
   have q10 : x8_1 < (a1.size : Int) := oD
   have hx10 := bt_at a1 x8_1
   replace p10 := eq_true p10
   replace q10 := eq_true q10
   go_wp2
   repeat (go_quiet (fail); try go_wp2)
   go_ret
   exact ⟨rF, d0⟩
  have c3b0 := dF c3
  clear c3
  obtain rfl := Option.some.inj H
  go_wp2
  repeat (go_quiet (fail); try go_wp2)
  go_ret
  exact ⟨rF, d0⟩

/-! ### impl_Lamps_tick: function 79 -/
-- by hand (wip/ext/tick.tpl)
theorem implMeets_ev (nd s : ByteArray) (hz : nd.size ≤ s.size) (hm : s.size ≤ 1000) : Ev (fun k => impl_meets.f k nd s) (meetsL nd.data.toList s.data.toList) := by
  have hzn : nd.size = nd.data.toList.length := Lib.size_eq nd
  have hzs : s.size = s.data.toList.length := Lib.size_eq s
  have key : ∀ (d i : Nat), i + d = nd.size → (∀ j (hj : j < nd.data.toList.length) (hs : j < s.data.toList.length), j < i → nd.data.toList[j] = 63 ∨ nd.data.toList[j] = s.data.toList[j]) →
      Ev (fun k => impl_meets.l0 k nd s (nd.size : Int) (i : Int)) (meetsL nd.data.toList s.data.toList) := by
    intro d
    induction d with
    | zero =>
      intro i hi hp
      refine Ev.last fun k => ?_
      rw [impl_meets.l0, if_neg (by omega), meetsL_of _ _ (by omega) (fun j hj => hp j hj (by omega) (by omega))]
    | succ d ih =>
      intro i hi hp
      have h1 : i < nd.data.toList.length := by omega
      have h2 : i < s.data.toList.length := by omega
      have ew : wrap64 ((i : Int) + 1) = ((i + 1 : Nat) : Int) := by rw [w64 (by omega) (by omega)]; omega
      have e1 := bt_nat nd i h1
      have e2 := bt_nat s i h2
      have q63 : ((nd.data.toList[i].toNat : Int) = 63) = (nd.data.toList[i] = 63) := byte_toInt nd.data.toList[i] 63 (by omega)
      have qd : ((nd.data.toList[i].toNat : Int) = (s.data.toList[i].toNat : Int)) = (nd.data.toList[i] = s.data.toList[i]) := propext ⟨fun h => UInt8.toNat_inj.mp (by omega), fun h => by rw [h]⟩
      by_cases c : nd.data.toList[i] = 63 ∨ nd.data.toList[i] = s.data.toList[i]
      · refine Ev.next ⟨0, fun k _ => ?_⟩ (ih (i + 1) (by omega) (fun j hj hs h => (Nat.lt_succ_iff_lt_or_eq.1 h).elim (hp j hj hs) (fun e => by subst e; exact c)))
        rw [impl_meets.l0, if_pos (by omega), if_pos (by omega), if_pos (by omega), e1, e2, ew]
        simp only [q63, qd]
        rcases c with c | c
        · rw [if_pos c]
        · by_cases c6 : nd.data.toList[i] = 63
          · rw [if_pos c6]
          · rw [if_neg c6, if_pos (by omega), if_pos c]
      · have c1 : ¬ nd.data.toList[i] = 63 := fun h => c (.inl h)
        have c2 : ¬ nd.data.toList[i] = s.data.toList[i] := fun h => c (.inr h)
        refine Ev.last fun k => ?_
        rw [impl_meets.l0, if_pos (by omega), if_pos (by omega), if_pos (by omega), e1, e2]
        simp only [q63, qd]
        rw [if_neg c1, if_pos (by omega), if_neg c2, meetsL_not _ _ i h1 h2 c1 c2]
  have := key nd.size 0 (by omega) (fun j _ _ h => absurd h (by omega))
  exact this
def tickAt (l : List ByteArray) (s : List UInt8) (k j : Nat) : UInt8 := if j < k then (tickL l s).getD j 0 else s.getD j 0
def impl_Lamps_tick.f (l0_0 : List ByteArray) (a1 : ByteArray) : Option ByteArray := if l0_0.length = a1.size ∧ a1.size ≤ 1000 ∧ (∀ x ∈ l0_0, x.size ≤ a1.size) then some ⟨(tickL l0_0 a1.data.toList).toArray⟩ else none
set_option maxHeartbeats 1000000 in
set_option maxRecDepth 100000 in
theorem impl_Lamps_tick.calls (A0_0 : Option Addr) (c0_0 : Nat) (l0_0 : List ByteArray) (a1 : ByteArray) (r : ByteArray) (w : World) (hr0_0 : Kd.C Kd.string w A0_0 l0_0.length l0_0) (hc0_0 : l0_0.length ≤ c0_0) (h : impl_Lamps_tick.f l0_0 a1 = some r) :
    Calls Tryd.prog 79 #[.agg #[.slice A0_0 l0_0.length c0_0], .string a1] w fun e w' => e = .returned (.string r) ∧ Below w.heap.size w w' := by
 unfold impl_Lamps_tick.f at h
 split at h
 case isFalse => cases h
 case isTrue hc =>
 obtain ⟨hln, hmx, hall⟩ := hc
 have hR := Option.some.inj h
 clear h
 have hu := Tryd.underlying26
 have hus := Tryd.underlying9
 have hcv : ∀ (wx : World) (s : ByteArray), (convert 9 22 (.string s)).run Tryd.prog wx = .ok (.slice (some ⟨wx.heap.size, 0, none⟩) s.size (grownCap wx s.size 0 5)) (Lib.bytesWorld wx 5 s) := fun wx s => Lib.run_convert_string_bytes wx 9 22 5 s Tryd.underlying9 Tryd.underlying22 Tryd.underlying5
 have HR := aM hR
 have HRR := aM hr0_0
 have HZs := aM (show a1.size = a1.data.toList.length from Lib.size_eq a1)
 have HLN := aM hln
 have HMX := aM hmx
 have HALL := aM hall
 clear hr0_0 hR hln hmx hall
 have hcl0 : (Lib.bytesWorld (w.alloc (.cells #[.slice A0_0 l0_0.length c0_0] 26)) 5 a1).cell? ⟨w.heap.size, 0, none⟩ = some (.slice A0_0 l0_0.length c0_0) := by
  rw [Lib.bytesWorld_old _ _ _ _ (by simp)]; go_simp
 go_enter Tryd.func79, Tryd.ntmps79
 go_wp2
 have HBY := aM (bytesAt_made (w.alloc (.cells #[.slice A0_0 l0_0.length c0_0] 26)) 5 a1)
 have HHB := aM (below_bytes (below_alloc (Below.refl w.heap.size w) (.cells #[.slice A0_0 l0_0.length c0_0] 26)) (by simp) 5 a1)
 clear hcv
 have hsz1 : (w.alloc (.cells #[.slice A0_0 l0_0.length c0_0] 26)).heap.size = w.heap.size + 1 := by simp
 rw [hsz1] at HBY
 clear hsz1
 obtain ⟨K, hK⟩ : ∃ K, K = w.heap.size + 1 := ⟨_, rfl⟩
 rw [← hK] at HBY ⊢
 have HKB := aM (show w.heap.size ≤ K by omega)
 clear hK
 obtain ⟨m, hm⟩ : ∃ m, m = (Lib.bytesCells (w.alloc (.cells #[.slice A0_0 l0_0.length c0_0] 26)) 5 a1).size := ⟨_, rfl⟩
 rw [← hm] at HBY
 clear hm
 generalize Lib.bytesWorld (w.alloc (.cells #[.slice A0_0 l0_0.length c0_0] 26)) 5 a1 = W0 at HBY HHB hcl0 ⊢
 generalize grownCap (w.alloc (.cells #[.slice A0_0 l0_0.length c0_0] 26)) a1.size 0 5 = cp
 go_loopg [13] l0_0.length (fun gg v13 w' => ∃ k : Nat, k + gg = l0_0.length ∧ v13 = .int .i64 k ∧ Aside0 (bytesAt w' K m 5 a1.size (tickAt l0_0 a1.data.toList k)) ∧ Aside0 (Below w.heap.size w w'))
 case atStart => exact ⟨0, by omega, rfl, ⟨bytesAt_congr HBY.out (fun j hj => by simp [tickAt])⟩, HHB⟩
 case round =>
  clear HBY HHB hcl0
  obtain ⟨k, hks, rfl, HBY, HB⟩ := hrel
  by_cases hp : k < l0_0.length
  ·have hps : k < a1.size := by rw [← HLN.out]; exact hp
   have hk1000 : k < 1000 := by have := HMX.out; omega
   have hpl : k < a1.data.toList.length := by rw [← HZs.out]; exact hps
   obtain ⟨ad, rfl, hx0⟩ := Kd.at_string HRR.out (k : Int) (by omega) (by omega)
   simp only [Int.toNat_natCast] at hx0
   replace hx0 := (HB.out.cell (World.block_lt_of_cell? w _ hx0)).trans hx0
   have ex : rdOf ByteArray.empty l0_0 (k : Int) = l0_0[k] := by simp [rdOf, hp]
   rw [ex] at hx0
   clear ex
   have hndz := HALL.out l0_0[k] (List.getElem_mem hp)
   have htk : (tickL l0_0 a1.data.toList).getD k 0 = if meetsL l0_0[k].data.toList a1.data.toList = true then 97 - a1.data.toList[k] else a1.data.toList[k] := by
    have h1 : k < (tickL l0_0 a1.data.toList).length := by simp [tickL]; omega
    simp only [List.getD, List.getElem?_eq_getElem h1, Option.getD_some]
    simp [tickL]
   obtain ⟨nd, hnd⟩ : ∃ nd, nd = l0_0[k] := ⟨_, rfl⟩
   rw [← hnd] at hx0 hndz htk
   clear hnd
   obtain ⟨KK, hKK⟩ := implMeets_ev nd a1 hndz HMX.out
   have HM := aM (hKK KK (Nat.le_refl _))
   clear hKK
   have hce := bytesAt_cell HBY.out k hps
   have hfz := bytesAt_frozen HBY.out k hps
   have et : tickAt l0_0 a1.data.toList k k = a1.data.toList[k] := by simp [tickAt, List.getD, List.getElem?_eq_getElem hpl]
   rw [et] at hce
   clear et
   obtain ⟨b, hb⟩ : ∃ b, b = a1.data.toList[k] := ⟨_, rfl⟩
   rw [← hb] at hce htk
   have HBB := aM hb
   have HTK := aM htk
   clear hb htk hndz
   obtain ⟨M, hM⟩ : ∃ M, M = meetsL nd.data.toList a1.data.toList := ⟨_, rfl⟩
   rw [← hM] at HM HTK
   clear hM
   have p6 : (0 ≤ (k : Int)) = True := eq_true (by omega)
   have q6 : ((k : Int) < (a1.size : Int)) = True := eq_true (by omega)
   cases M with
   | true =>
    go_wp2_with (go_at_call 144; refine (impl_meets.calls KK nd a1 true _ HM.out).mono ?_; rintro e w' ⟨rfl, ⟨n, rfl⟩⟩)
    have hsub : ((97 : Int) - (b.toNat : Int)) % 256 = ((97 - b : UInt8).toNat : Int) := by
     rw [UInt8.toNat_sub]
     have := b.toNat_lt
     have e97 : (97 : UInt8).toNat = 97 := rfl
     rw [e97]
     omega
    rw [hsub]
    go_roundg (l0_0.length - (k + 1))
    case measure => omega
    case rel =>
     refine ⟨k + 1, by omega, by go_num, ⟨bytesAt_congr (bytesAt_set (bytesAt_below HBY.out (pw_below_drewN (Below.refl _ _) n)) k (97 - b)) (fun j hj => ?_)⟩, ⟨below_setCell (below_step HB.out (pw_below_drewN (Below.refl _ _) n)) K k _ HKB.out⟩⟩
     unfold tickAt
     by_cases c : j = k
     ·subst c
      rw [if_pos (by omega), if_pos rfl, HTK.out]; simp
     rw [if_neg c]
     by_cases c2 : j < k
     ·rw [if_pos (by omega), if_pos c2]
     rw [if_neg (by omega), if_neg c2]
   | false =>
    go_wp2_with (go_at_call 144; refine (impl_meets.calls KK nd a1 false _ HM.out).mono ?_; rintro e w' ⟨rfl, ⟨n, rfl⟩⟩)
    go_roundg (l0_0.length - (k + 1))
    case measure => omega
    case rel =>
     refine ⟨k + 1, by omega, by go_num, ⟨bytesAt_congr (bytesAt_below HBY.out (pw_below_drewN (Below.refl _ _) n)) (fun j hj => ?_)⟩, ⟨below_step HB.out (pw_below_drewN (Below.refl _ _) n)⟩⟩
     unfold tickAt
     by_cases c : j = k
     ·subst c
      rw [if_pos (by omega), if_neg (by omega), HTK.out, HBB.out]
      simp [List.getD, List.getElem?_eq_getElem hpl]
     by_cases c2 : j < k
     ·rw [if_pos (by omega), if_pos c2]
     rw [if_neg (by omega), if_neg c2]
  have hts : (tickL l0_0 a1.data.toList).length = a1.size := by rw [tickL_length _ _ (by have := HLN.out; have := HZs.out; omega)]; exact HZs.out.symm
  have hcs := bytesAt_string (P := Tryd.prog) (src := 22) (dst := 9) HBY.out Tryd.underlying22 Tryd.underlying5 Tryd.underlying9 cp (tickL l0_0 a1.data.toList) hts (fun j hj => by
   unfold tickAt
   rw [if_pos (by have := HLN.out; omega)]
   simp [List.getD, List.getElem?_eq_getElem hj])
  go_wp2
  go_ret
  exact ⟨ret_str HR.out, HB.out⟩

/-! ### impl_Lamps_course: function 73 -/
-- by hand (wip/ext/course.tpl)
def impl_Lamps_course.f (l0_0 : List ByteArray) (a1 : ByteArray) : Option (List ByteArray × Int) := if litR l0_0 a1 = true then courseP (tickS l0_0) 1100 [] a1 else none
theorem impl_Lamps_course.info : (Tryd.prog.info? 9).map (fun i => (i.zero, i.size, i.bytes)) = some (some (.string ⟨#[]⟩), 1, 16) := by kernel_rfl
set_option maxHeartbeats 1000000 in
set_option maxRecDepth 100000 in
theorem impl_Lamps_course.calls (A0_0 : Option Addr) (c0_0 : Nat) (l0_0 : List ByteArray) (a1 : ByteArray) (r1 : List ByteArray) (r2 : Int) (w : World) (hr0_0 : Kd.C Kd.string w A0_0 l0_0.length l0_0) (hc0_0 : l0_0.length ≤ c0_0) (h : impl_Lamps_course.f l0_0 a1 = some (r1, r2)) :
    Calls Tryd.prog 73 #[.agg #[.slice A0_0 l0_0.length c0_0], .string a1] w fun e w' => ∃ v0_ : Value, e = .returned (.tuple #[v0_, .int .i64 r2]) ∧ Kd.R Kd.string 9 w' w.heap.size (fun _ => True) v0_ r1 ∧ Below w.heap.size w w' := by
 unfold impl_Lamps_course.f at h
 split at h
 case isFalse => cases h
 case isTrue hlit =>
 have hu := Tryd.underlying26
 have hus := Tryd.underlying9
 have hz0 : ∀ wx, (zeroValue 3).run Tryd.prog wx = .ok (.int .i64 0) wx := fun wx => by go_simp
 have hmk : ∀ wx, (Instr.makeMap 118 none).run Tryd.prog wx = .ok (.map (some wx.heap.size)) (wx.alloc (.map #[] 0)) := fun wx => run_makeMap 118 wx
 have HH := aM h
 have HLIT := aM hlit
 have HRR := aM hr0_0
 clear h hlit hr0_0
 go_enter Tryd.func73, Tryd.ntmps73
 go_wp2
 have HM0 := aM (mapHas_made Tryd.prog 9 3 (w.alloc (.cells #[.slice A0_0 l0_0.length c0_0] 26)))
 have HB0 := aM (show Below w.heap.size w ((w.alloc (.cells #[.slice A0_0 l0_0.length c0_0] 26)).alloc (.map #[] 0)) from ((Below.refl _ w).alloc (Nat.le_refl _) _).alloc (by simp) _)
 have BK0 := aM (show ((w.alloc (.cells #[.slice A0_0 l0_0.length c0_0] 26)).alloc (.map #[] 0)).heap[w.heap.size]? = some (.cells #[.slice A0_0 l0_0.length c0_0] 26 (0, 0)) from blk_alloc (MapKept.heap_alloc w _).1 _)
 have hsz1 : (w.alloc (.cells #[.slice A0_0 l0_0.length c0_0] 26)).heap.size = w.heap.size + 1 := by simp
 rw [hsz1] at HM0
 clear hsz1 hmk
 obtain ⟨MB, hMB⟩ : ∃ MB, MB = w.heap.size + 1 := ⟨_, rfl⟩
 rw [← hMB] at HM0 ⊢
 have HMB := aM (show w.heap.size < MB by omega)
 clear hMB
 generalize (w.alloc (.cells #[.slice A0_0 l0_0.length c0_0] 26)).alloc (.map #[] 0) = W0 at HM0 HB0 BK0 ⊢
 go_loopg [1, 7] 1100 (fun gg v1 v7 w' => ∃ (s : ByteArray) (acc : List ByteArray), v1 = .string s ∧ Aside0 (courseP (tickS l0_0) gg acc s = some (r1, r2)) ∧ Aside0 (litR l0_0 s = true) ∧ Aside0 (acc.length + gg ≤ 1100) ∧ Aside0 (Kd.R Kd.string 9 w' w.heap.size (fun _ => True) v7 acc) ∧ Aside0 (mapHas Tryd.prog 9 3 w' MB acc) ∧ Aside0 (w'.heap[w.heap.size]? = some (.cells #[.slice A0_0 l0_0.length c0_0] 26 (0, 0))) ∧ Aside0 (Below w.heap.size w w'))
 case atStart => exact ⟨a1, [], rfl, HH, HLIT, ⟨by simp⟩, ⟨Kd.R_nil _ _ _ _ _⟩, HM0, BK0, HB0⟩
 case round =>
  clear HM0 HB0 BK0 HH HLIT
  obtain ⟨s, acc, rfl, HA, HLIT, HL, HO, HM, BK, HB⟩ := hrel
  obtain rfl | ⟨k1, rfl⟩ := fz gk
  ·exact zA HA
  obtain ⟨A, c, rfl⟩ := Kd.R_slice HO.out
  have hsm : s.size ≤ maxLen := by have := (lit_facts HLIT.out).2.2.2.1; simp only [maxLen]; omega
  have hlk := mapHas_look (t := 118) HM.out Tryd.underlying9 Tryd.underlying118 Tryd.underlying3 (hz0 wr) s hsm
  have H := HA.out
  clear HA
  rw [courseP] at H
  by_cases hm : s ∈ acc
  ·rw [if_pos hm] at H hlk
   simp only [Option.some.injEq, Prod.mk.injEq] at H
   obtain ⟨rfl, rfl⟩ := H
   clear hm
   go_wp2
   go_ret2
   exact ⟨_, rfl, HO.out, HB.out⟩
  rw [if_neg hm] at H hlk
  have H' := aM H
  clear H
  obtain ⟨w1, hup, hm1, hg1⟩ := mapHas_put (t := 118) HM.out Tryd.underlying9 Tryd.underlying118 Tryd.underlying3 s hsm (by have := HL.out; omega) hm
  obtain ⟨es_, c_, hbm⟩ := mapHas_block HM.out
  have HO1 := aM (R_map HO.out hbm hg1)
  have BK1 := aM (blk_grown BK.out hg1 (by have := HMB.out; intro h; cases h; omega))
  have HB1 := aM (HB.out.grown hg1 (below_size HB.out) (fun k' hk' => by cases hk'; exact Nat.le_of_lt HMB.out))
  have HM1 := aM hm1
  have HTK := aM (show impl_Lamps_tick.f l0_0 s = some (tickS l0_0 s) by
   obtain ⟨_, h1, _, h2, h3, h4⟩ := lit_facts HLIT.out
   unfold impl_Lamps_tick.f
   rw [if_pos ⟨h1, by omega, h3⟩]
   rfl)
  clear hm hm1 hg1 hbm HO HM BK HB hsm
  go_wp2_with (first
   | ((with_reducible refine gate_builtin (b := .append) (xs := #[.tmp 24, .tmp 26]) rfl ?_); at_builtin; refine Kd.R_append Kd.string (w0 := w) w.heap.size rfl (.tmp 24) (.tmp 26) 24 9 (.string ⟨#[]⟩) 16 rfl Tryd.underlying24 impl_Lamps_course.info rfl (by decide) (by omega) (.slice A acc.length c) acc s [.string s] (fun _ => True) (fun _ => False) rfl rfl rfl (fun _ hk => hk.elim) (fun _ _ => trivial) HO1.out HB1.out (below_size HB1.out) (by have := HL.out; omega) ?_; intro v2 w2 ho hb hg hat; have HO2 := aM ho; have HB2 := aM hb; have HM2 := aM (mapHas_kept HM1.out hg (by obtain ⟨es2_, c2_, hbm2⟩ := mapHas_block HM1.out; intro he; obtain ⟨cs_, hcs_⟩ := Kd.R_typed HO1.out MB he.symm; rw [hbm2] at hcs_; cases hcs_)); have BK2 := aM (blk_grown BK1.out hg (Kd.R_ne HO1.out BK1.out (by decide))); have hcl2 := (blk_cell BK2.out 0).trans rfl; clear ho hb hg hat)
   | (go_at_call 79; refine (impl_Lamps_tick.calls A0_0 c0_0 l0_0 s (tickS l0_0 s) _ (Kd.C_below HRR.out HB2.out) hc0_0 HTK.out).mono ?_; rintro e w3 ⟨rfl, hb⟩; have HO3 := aM (Kd.R_below HO2.out hb); have HM3 := aM (mapHas_below HM2.out hb); have BK3 := aM (blk_below BK2.out hb); have HB3 := aM (below_step HB2.out hb); clear hb hcl2))
  go_roundg k1
  case measure => omega
  case rel => exact ⟨tickS l0_0 s, acc ++ [s], rfl, H', ⟨lit_tick HLIT.out⟩, ⟨by have := HL.out; simp; omega⟩, HO3, HM3, BK3, HB3⟩

/-! ### impl_after: function 74 -/
def impl_after.f (l0 : List ByteArray) (a1 : Int) (a2 : Int) : Option (ByteArray) := if a2 < (l0.length : Int) then (if 0 ≤ a2 then (some (rdOf ByteArray.empty l0 a2)) else (none)) else (if (wrap64 ((l0.length : Int) - a1)) = 0 then (none) else (if 0 ≤ (wrap64 (a1 + (Int.tmod (wrap64 (a2 - a1)) (wrap64 ((l0.length : Int) - a1))))) then (if (wrap64 (a1 + (Int.tmod (wrap64 (a2 - a1)) (wrap64 ((l0.length : Int) - a1))))) < (l0.length : Int) then (some (rdOf ByteArray.empty l0 (wrap64 (a1 + (Int.tmod (wrap64 (a2 - a1)) (wrap64 ((l0.length : Int) - a1))))))) else (none)) else (none)))
set_option maxHeartbeats 8000000 in
set_option maxRecDepth 100000 in
theorem impl_after.calls (A0 : Option Addr) (c0 : Nat) (l0 : List ByteArray) (a1 : Int) (a2 : Int) (r : ByteArray) (w : World) (hr0 : Kd.C Kd.string w A0 l0.length l0) (hc0 : l0.length ≤ c0) (h : impl_after.f l0 a1 a2 = some r) :
  Calls Tryd.prog 74 #[.slice A0 l0.length c0, .int .i64 a1, .int .i64 a2] w fun e w' => e = .returned (.string r) ∧ Drawn0 w w' := by
 have HR0 := aM hr0
 have HC0 := aM hc0
 clear hr0 hc0
 have H := h
 clear h; unfold impl_after.f at H
 refine iI H ?_ ?_ <;> clear H <;> intro c4 H
 ·have c4b0 := dT c4
  clear c4
  refine iY H ?_; clear H; intro c5 H
  have c5b0 := dT c5
  clear c5
  obtain rfl := Option.some.inj H
  have p246 : 0 ≤ (a2 : Int) := oD
  have q246 : a2 < (l0.length : Int) := oD
  obtain ⟨ad246, e246, hx246_0⟩ := Kd.at_string HR0.out a2 p246 q246
  cases e246
  replace p246 := eq_true p246
  replace q246 := eq_true q246
  go_enter Tryd.func74, Tryd.ntmps74
  go_wp2
  go_ret
  exact ⟨rF, d0⟩
 have c4b0 := dF c4
 clear c4
 refine iN H ?_; clear H; intro c6 H
 have c6b0 := qF c6
 have c6b1 := nT c6
 obtain ⟨ji7, hji7⟩ := jN (wrap64 (a1 + (Int.tmod (wrap64 (a2 - a1)) (wrap64 ((l0.length : Int) - a1)))))
 first | rw [hji7] at H | simp only [hji7] at H
 have hji7w : (IntKind.i64.wrap (a1 + (Int.tmod (wrap64 (a2 - a1)) (wrap64 ((l0.length : Int) - a1))))) = ji7 := (i64_w _).trans hji7
 refine iY H ?_; clear H; intro c8 H
 have c8b0 := dT c8
 clear c8
 refine iY H ?_; clear H; intro c9 H
 have c9b0 := dT c9
 clear c9
 obtain rfl := Option.some.inj H
 have p247 : 0 ≤ ((ji7) : Int) := oD
 have q247 : (ji7) < (l0.length : Int) := oD
 obtain ⟨ad247, e247, hx247_0⟩ := Kd.at_string HR0.out (ji7) p247 q247
 cases e247
 replace p247 := eq_true p247
 replace q247 := eq_true q247
 go_enter Tryd.func74, Tryd.ntmps74
 go_wp2
 go_ret
 exact ⟨by first | rfl | (simp; done) | (simp only [← hji7] <;> (first | rfl | simp)) | (simp [*]; done), d0⟩

/-! ### impl_TicksAfter: function 8 -/
def impl_TicksAfter.j0 : Nat → ByteArray → Int → Bool → List ByteArray → Option (ByteArray × Bool)
 | 0, _, _, _, _ => none
 | k + 1, x1, x2, x18, x249000 => if x18 = true then (some ((⟨#[]⟩ : ByteArray), false)) else ((impl_Lamps_course.f x249000 x1).bind fun bt251 => ((impl_after.f bt251.1 bt251.2 x2).bind fun t255 => (some (t255, true))))
def impl_TicksAfter.f (k : Nat) (l0_0 : List ByteArray) (a1 : ByteArray) (a2 : Int) : Option (ByteArray × Bool) := (impl_Lamps_lit.f l0_0 a1).bind fun t249 => (if t249 = true then ((impl_isTicks.f a2).bind fun t250 => (impl_TicksAfter.j0 k a1 a2 (!t250) l0_0)) else (impl_TicksAfter.j0 k a1 a2 true l0_0))
theorem impl_TicksAfter.mono_l : ∀ k, Mo (impl_TicksAfter.j0 k) (impl_TicksAfter.j0 (k + 1))
 | 0 => m0
 | k + 1 => by
  have ih0 := impl_TicksAfter.mono_l k
  (repeat refine mE fun _ => ?_) <;> first | (unfold impl_TicksAfter.j0; exact mG)
instance impl_TicksAfter.mI (k : Nat) : Mo (impl_TicksAfter.f k) (impl_TicksAfter.f (k + 1)) := by
 have ih0 := impl_TicksAfter.mono_l k
 (repeat refine mE fun _ => ?_); unfold impl_TicksAfter.f; exact mG
theorem impl_TicksAfter.mono : ∀ a0 a1 a2 k, LeO (impl_TicksAfter.f k a0 a1 a2) (impl_TicksAfter.f (k + 1) a0 a1 a2) := fun a0 a1 a2 k => (impl_TicksAfter.mI k).out a0 a1 a2
set_option maxHeartbeats 8000000 in
set_option maxRecDepth 100000 in
theorem impl_TicksAfter.calls (k : Nat) (A0_0 : Option Addr) (c0_0 : Nat) (l0_0 : List ByteArray) (a1 : ByteArray) (a2 : Int) (r1 : ByteArray) (r2 : Bool) (w : World) (hr0_0 : Kd.C Kd.string w A0_0 l0_0.length l0_0) (hc0_0 : l0_0.length ≤ c0_0) (h : impl_TicksAfter.f k l0_0 a1 a2 = some (r1, r2)) :
  Calls Tryd.prog 8 #[.agg #[.slice A0_0 l0_0.length c0_0], .string a1, .int .i64 a2] w fun e w' => e = .returned (.tuple #[.string r1, .bool r2]) ∧ Below w.heap.size w w' := by
 have hu26 := Tryd.underlying26
 have HR0_0 := aM hr0_0
 have HC0_0 := aM hc0_0
 clear hr0_0 hc0_0
 have HB := aM (Below.refl w.heap.size w)
 have H := h
 clear h; unfold impl_TicksAfter.f at H
 have HC4 := aM H
 clear H
 go_enter Tryd.func8, Tryd.ntmps8
 go_upto_region 1 with (first | (refine bX (N := 3) rfl (cs := #[.slice A0_0 l0_0.length c0_0]) (t := 26) ?_; intro gb248 hg w5 BK248 hb; have GW248 := gE hg HB; have GE248 := gE hg HB; replace HB := hS HB hb; clear hb hg))
 (try simp only [Act.put, List.setIfInBounds_toArray, List.set_cons_zero, List.set_cons_succ])
 go_cut [18] (fun v18 wc => ∃ (kq : Nat) (x18_3 : Bool), v18 = .bool x18_3 ∧ Aside0 (impl_TicksAfter.j0 kq a1 a2 x18_3 l0_0 = some (r1, r2)) ∧ Aside0 (kq ≤ k) ∧ Aside0 (wc.heap[gb248]? = some (.cells #[(.slice A0_0 l0_0.length c0_0)] 26 (0, 0))) ∧ Aside0 (Below w.heap.size w wc))
 case first =>
  have H := HC4.out
  clear HC4
  replace H := bC H; obtain ⟨t249, A6, H⟩ := H
  refine iB H ?_ ?_ <;> clear H <;> rintro rfl H
  ·replace H := bC H; obtain ⟨t250, A8, H⟩ := H
   have H' := aM H
   clear H
   obtain ⟨hcz9_0, hfz9_0⟩ := hC1 BK248
   go_wp2_with (first | ((with_reducible refine gG 71 (some 12) rfl rfl ?_); refine gC Tryd.func71 (impl_Lamps_lit.calls _ _ l0_0 a1 true _ (cU (Kd.C_below HR0_0.out HB.out)) HC0_0.out A6.out) ?_; rintro w10 hb; replace BK248 := bB BK248 hb; replace HB := hS HB hb; clear hb) | (go_at_call 72; (with_reducible refine (impl_isTicks.calls a2 t250 _ A8.out).mono ?_); rintro e w' ⟨rfl, ⟨nd, rfl⟩⟩))
   go_meet
   case rel => exact ⟨_, (!t250), rF, H', kL, ⟨bU BK248.out⟩, hV HB⟩
  have H' := aM H
  clear H
  obtain ⟨hcz11_0, hfz11_0⟩ := hC1 BK248
  go_wp2_with (first | ((with_reducible refine gG 71 (some 12) rfl rfl ?_); refine gC Tryd.func71 (impl_Lamps_lit.calls _ _ l0_0 a1 false _ (cU (Kd.C_below HR0_0.out HB.out)) HC0_0.out A6.out) ?_; rintro w12 hb; replace BK248 := bB BK248 hb; replace HB := hS HB hb; clear hb))
  go_meet
  case rel => exact ⟨_, (true), rF, H', kL, ⟨bU BK248.out⟩, hV HB⟩
 case rest =>
  clear HC4
  obtain ⟨kq, x18_3, rfl, HA, HJ3, BK248, HB⟩ := hcut
  obtain rfl | ⟨kj3, rfl⟩ := fz kq
  ·exact zA HA
  have H := HA.out
  clear HA
  simp only [impl_TicksAfter.j0] at H
  refine iB H ?_ ?_ <;> clear H <;> rintro rfl H
  ·simp only [Option.some.injEq, Prod.mk.injEq] at H
   obtain ⟨rfl, rfl⟩ := H
   go_wp2
   go_ret2
   exact ⟨eW, bel HB⟩
  replace H := bC H; obtain ⟨⟨t251, t254⟩, A14, H⟩ := H; try dsimp only at H
  replace H := bC H; obtain ⟨t255, A15, H⟩ := H
  simp only [Option.some.injEq, Prod.mk.injEq] at H
  obtain ⟨rfl, rfl⟩ := H
  obtain ⟨hcz16_0, hfz16_0⟩ := hC1 BK248
  go_wp2_with (first | ((with_reducible refine gG 73 (some 22) rfl rfl ?_); refine gD Tryd.func73 (impl_Lamps_course.calls _ _ l0_0 a1 t251 t254 _ (cU (Kd.C_below HR0_0.out HB.out)) HC0_0.out A14.out) ?_; rintro w17 v252 ⟨ho0, hb⟩; have HO253 := rL ho0 HB; replace BK248 := bB BK248 hb; replace HB := hS HB hb; clear hb ho0; obtain ⟨Ao18, co18, eo18⟩ := Kd.R_slice HO253.out; subst eo18) | ((with_reducible refine gG 74 (some 28) rfl rfl ?_); refine gL Tryd.func74 #[.slice Ao18 t251.length co18, .int .i64 t254, .int .i64 a2] ?_; (with_reducible refine (impl_after.calls _ _ t251 t254 a2 t255 _ (cU ((Kd.R_reads' HO253.out).2.2)) ((Kd.R_reads' HO253.out).2.1) A15.out).mono ?_); rintro e w' ⟨rfl, ⟨nd, rfl⟩⟩; refine ⟨_, rfl, ?_⟩))
  go_ret2
  exact ⟨eW, bel HB⟩

/-! ### spec_laGood: function 85 -/
-- by hand (wip/ext/laGood.tpl)
def spec_laGood.f (l0_0 : List ByteArray) : Option Bool := some (areLampsB l0_0)
set_option maxHeartbeats 4000000 in
set_option maxRecDepth 100000 in
theorem spec_laGood.calls (A0_0 : Option Addr) (c0_0 : Nat) (l0_0 : List ByteArray) (r : Bool) (w : World) (hr0_0 : Kd.C Kd.string w A0_0 l0_0.length l0_0) (hc0_0 : l0_0.length ≤ c0_0) (h : spec_laGood.f l0_0 = some r) :
    Calls Tryd.prog 85 #[.agg #[.slice A0_0 l0_0.length c0_0]] w fun e w' => e = .returned (.bool r) ∧ Below w.heap.size w w' := by
 obtain rfl := Option.some.inj h
 clear h
 have hl := hr0_0.2.1
 have hu := Tryd.underlying26
 have hus := Tryd.underlying9
 have HI := aM (fun w1 => spec_l1In.calls l0_0.length 1 10 _ w1 (inB_ite l0_0.length 1 10))
 obtain ⟨R, hR⟩ : ∃ R, R = areLampsB l0_0 := ⟨_, rfl⟩
 rw [← hR]
 have HX := aM hR
 have HR := aM hr0_0
 clear hr0_0 hR
 obtain ⟨b, hb⟩ : ∃ b, b = inB l0_0.length 1 10 := ⟨_, rfl⟩
 rw [← hb] at HI
 have HBB := aM hb
 clear hb
 cases b with
 | false =>
  go_enter Tryd.func85, Tryd.ntmps85
  go_wp2_with (go_at_call 96; refine (HI.out _).mono ?_; rintro e w' ⟨rfl, ⟨n, rfl⟩⟩)
  go_ret
  exact ⟨ret_bool (by rw [HX.out, areLampsB, ← HBB.out]; rfl), pw_below_drewN (below_alloc (Below.refl _ _) _) _⟩
 | true =>
  go_enter Tryd.func85, Tryd.ntmps85
  go_wp2_with (go_at_call 96; refine (HI.out _).mono ?_; rintro e w' ⟨rfl, ⟨n, rfl⟩⟩)
  have HX2 := aM (show R = l0_0.all (needB l0_0.length) by rw [HX.out, areLampsB, ← HBB.out]; rfl)
  clear HX HBB HI
  go_loopg [14] l0_0.length (fun gg v14 w' => ∃ k : Nat, k + gg = l0_0.length ∧ v14 = .int .i64 k ∧ Aside0 (∀ j (hj : j < l0_0.length), j < k → needB l0_0.length l0_0[j] = true) ∧ w'.cell? ⟨w.heap.size, 0, none⟩ = some (.slice A0_0 l0_0.length c0_0) ∧ Aside0 (Below w.heap.size w w'))
  case atStart => exact ⟨0, by omega, rfl, ⟨fun j _ h => absurd h (by omega)⟩, by go_simp, ⟨pw_below_drewN (below_alloc (Below.refl _ _) _) _⟩⟩
  case round =>
   obtain ⟨k, hk, rfl, HN, hcl, HB⟩ := hrel
   by_cases hlt : k < l0_0.length
   ·obtain ⟨ad, rfl, hx0⟩ := Kd.at_string HR.out (k : Int) (by omega) (by omega)
    simp only [Int.toNat_natCast] at hx0
    replace hx0 := (HB.out.cell (World.block_lt_of_cell? w _ hx0)).trans hx0
    have ex : rdOf ByteArray.empty l0_0 (k : Int) = l0_0[k] := by simp [rdOf, hlt]
    rw [ex] at hx0
    clear ex
    obtain ⟨s, hs⟩ : ∃ s, s = l0_0[k] := ⟨_, rfl⟩
    rw [← hs] at hx0
    have HS := aM hs
    clear hs
    have HZ := aM (show s.size = s.data.toList.length from Lib.size_eq s)
    by_cases c1 : s.size = l0_0.length
    ·have c1b : ((s.size : Int) != (l0_0.length : Int)) = false := bne_eq_false_iff_eq.mpr (by omega)
     have C1 := aM c1
     clear c1
     go_wp2
     obtain ⟨K, hK⟩ : ∃ K, K = wr.heap.size := ⟨_, rfl⟩
     rw [← hK]
     have hlt0 : w.heap.size < K := by rw [hK]; exact World.block_lt_of_cell? wr _ hcl
     have hcl0 : (wr.iter s 0).cell? ⟨w.heap.size, 0, none⟩ = some (.slice (some ad) l0_0.length c0_0) := (World.cell?_alloc_past _ _ _ (by simpa [← hK] using hlt0)).trans hcl
     have hi0 : (wr.iter s 0).heap[K]? = some (.stringIter s 0) := by rw [hK]; exact World.iter_heap wr s 0
     have hb0 : Below w.heap.size w (wr.iter s 0) := HB.out.alloc (below_size HB.out) _
     have HHI := aM hi0
     have HHB := aM hb0
     have HLT := aM hlt0
     clear hi0 hb0 hlt0 hK hcl HB hx0
     generalize wr.iter s 0 = W0 at hcl0 HHI HHB ⊢
     go_loopg [5] s.size (fun gg v5 w' => ∃ pos : Nat, pos + gg = s.size ∧ Aside0 (∀ j (hj : j < s.data.toList.length), j < pos → isSign s.data.toList[j] = true) ∧ Aside0 (w'.heap[K]? = some (.stringIter s pos)) ∧ w'.cell? ⟨w.heap.size, 0, none⟩ = some (.slice (some ad) l0_0.length c0_0) ∧ Aside0 (Below w.heap.size w w'))
     case atStart => exact ⟨0, by omega, ⟨fun j _ h => absurd h (by omega)⟩, HHI, hcl0, HHB⟩
     case round =>
      clear HHI HHB hcl0
      obtain ⟨pos, hps, HP, HI, hcl, HB⟩ := hrel
      by_cases hp : pos < s.size
      ·have hpl : pos < s.data.toList.length := by rw [← HZ.out]; exact hp
       have hnext : ∀ ty, (Instr.next (.pointer (some ⟨K, 0, none⟩)) true ty).run Tryd.prog wr = _ := fun ty => Lib.run_next_any_at wr K s pos ty HI.out hp
       have hk1 := Lib.iterAt_heap wr K s pos (pos + (Utf8.decode s pos).2) HI.out
       have hb1 := Lib.below_iterAt HB.out (Nat.le_of_lt HLT.out) s (pos + (Utf8.decode s pos).2)
       have hcl1 : (wr.iterAt K s (pos + (Utf8.decode s pos).2)).cell? ⟨w.heap.size, 0, none⟩ = some (.slice (some ad) l0_0.length c0_0) := (cell_iterAt wr K s _ _ (by have := HLT.out; simp; omega)).trans hcl
       have hd := aM (decode_sign s pos hp hpl)
       have eb := bt_nat s pos hpl
       obtain ⟨b, hb⟩ : ∃ b, b = s.data.toList[pos] := ⟨_, rfl⟩
       rw [← hb] at hd eb
       have HBY := aM hb
       clear hb
       have HK1 := aM hk1
       have HB1 := aM hb1
       clear hk1 hb1 hcl HI HB
       generalize wr.iterAt K s (pos + (Utf8.decode s pos).2) = W1 at hnext HK1 HB1 hcl1
       generalize (Utf8.decode s pos).1 = rn at hnext
       generalize (Utf8.decode s pos).2 = dn at hd HK1
       have q8 := byte_toInt b 48 (by omega)
       have q9 := byte_toInt b 49 (by omega)
       have q63 := byte_toInt b 63 (by omega)
       rw [← eb] at q8 q9 q63
       have p6 : (0 ≤ (pos : Int)) = True := eq_true (by omega)
       have q6 : ((pos : Int) < (s.size : Int)) = True := eq_true (by omega)
       have hx6 : ((s[pos]'hp).toNat : Int) = bt s pos := by have := bt_at s (pos : Int) (by simpa using hp); simpa using this
       clear eb
       by_cases c8 : b = 48
       ·have c8a : (bt s pos == 48) = true := beq_iff_eq.mpr (q8.mpr c8)
        have c8b : (bt s pos != 48) = false := bne_eq_false_iff_eq.mpr (q8.mpr c8)
        have hn := hd.out (by subst c8; rfl)
        subst hn
        have CC := aM (show isSign b = true by subst c8; rfl)
        clear c8 q8 q9 q63 hd
        go_wp2
        go_roundg (s.size - (pos + 1))
        case measure => omega
        case rel => exact ⟨pos + 1, by omega, ⟨fun j hj h => (Nat.lt_succ_iff_lt_or_eq.1 h).elim (HP.out j hj) (fun e => by subst e; rw [← HBY.out]; exact CC.out)⟩, HK1, hcl1, HB1⟩
       have c8a : (bt s pos == 48) = false := beq_eq_false_iff_ne.mpr (fun h => c8 (q8.mp h))
       have c8b : (bt s pos != 48) = true := bne_iff_ne.mpr (fun h => c8 (q8.mp h))
       by_cases c9 : b = 49
       ·have c9a : (bt s pos == 49) = true := beq_iff_eq.mpr (q9.mpr c9)
        have c9b : (bt s pos != 49) = false := bne_eq_false_iff_eq.mpr (q9.mpr c9)
        have hn := hd.out (by subst c9; rfl)
        subst hn
        have CC := aM (show isSign b = true by subst c9; rfl)
        clear c9 c8 q8 q9 q63 hd
        go_wp2
        go_roundg (s.size - (pos + 1))
        case measure => omega
        case rel => exact ⟨pos + 1, by omega, ⟨fun j hj h => (Nat.lt_succ_iff_lt_or_eq.1 h).elim (HP.out j hj) (fun e => by subst e; rw [← HBY.out]; exact CC.out)⟩, HK1, hcl1, HB1⟩
       have c9a : (bt s pos == 49) = false := beq_eq_false_iff_ne.mpr (fun h => c9 (q9.mp h))
       have c9b : (bt s pos != 49) = true := bne_iff_ne.mpr (fun h => c9 (q9.mp h))
       by_cases c63 : b = 63
       ·have c63a : (bt s pos == 63) = true := beq_iff_eq.mpr (q63.mpr c63)
        have c63b : (bt s pos != 63) = false := bne_eq_false_iff_eq.mpr (q63.mpr c63)
        have hn := hd.out (by subst c63; rfl)
        subst hn
        have CC := aM (show isSign b = true by subst c63; rfl)
        clear c63 c9 c8 q8 q9 q63 hd
        go_wp2
        go_roundg (s.size - (pos + 1))
        case measure => omega
        case rel => exact ⟨pos + 1, by omega, ⟨fun j hj h => (Nat.lt_succ_iff_lt_or_eq.1 h).elim (HP.out j hj) (fun e => by subst e; rw [← HBY.out]; exact CC.out)⟩, HK1, hcl1, HB1⟩
       have c63a : (bt s pos == 63) = false := beq_eq_false_iff_ne.mpr (fun h => c63 (q63.mp h))
       have c63b : (bt s pos != 63) = true := bne_iff_ne.mpr (fun h => c63 (q63.mp h))
       have CC := aM (show isSign b = false by simp [isSign, c8, c9, c63])
       clear c8 c9 c63 q8 q9 q63 hd
       go_wp2
       go_ret
       exact ⟨ret_bool (by rw [HX2.out, all_not _ _ k hlt (by rw [← HS.out, needB, all_not isSign _ pos hpl (by rw [← HBY.out]; exact CC.out)]; simp)]), HB1.out⟩
      have hnext : ∀ ty, (Instr.next (.pointer (some ⟨K, 0, none⟩)) true ty).run Tryd.prog wr = _ := fun ty => Lib.run_next_end_at wr K s pos ty HI.out hp
      go_wp2
      go_roundg (l0_0.length - (k + 1))
      case measure => omega
      case rel =>
       refine ⟨k + 1, by omega, by go_num, ⟨fun j hj h => (Nat.lt_succ_iff_lt_or_eq.1 h).elim (HN.out j hj) (fun e => ?_)⟩, hcl, HB⟩
       subst e
       rw [← HS.out, needB, C1.out, all_of isSign _ (fun i hi => HP.out i hi (by have := HZ.out; omega))]
       simp
    have c1b : ((s.size : Int) != (l0_0.length : Int)) = true := bne_iff_ne.mpr (by omega)
    have C1 := aM c1
    clear c1
    go_wp2
    go_ret
    exact ⟨ret_bool (by rw [HX2.out, all_not _ _ k hlt (by rw [← HS.out]; simp [needB, C1.out])]), HB.out⟩
   go_wp2
   go_ret
   exact ⟨ret_bool (by rw [HX2.out, all_of _ _ (fun j hj => HN.out j hj (by omega))]), HB.out⟩

/-! ### spec_laState: function 142 -/
-- by hand (wip/ext/laState.tpl)
def spec_laState.f (l0_0 : List ByteArray) (a1 : ByteArray) : Option Bool := some (litB l0_0.length a1)
set_option maxHeartbeats 1000000 in
set_option maxRecDepth 100000 in
theorem spec_laState.calls (A0_0 : Option Addr) (c0_0 : Nat) (l0_0 : List ByteArray) (a1 : ByteArray) (r : Bool) (w : World) (hr0_0 : Kd.C Kd.string w A0_0 l0_0.length l0_0) (hc0_0 : l0_0.length ≤ c0_0) (h : spec_laState.f l0_0 a1 = some r) :
    Calls Tryd.prog 142 #[.agg #[.slice A0_0 l0_0.length c0_0], .string a1] w fun e w' => e = .returned (.bool r) ∧ Below w.heap.size w w' := by
 obtain rfl := Option.some.inj h
 clear h
 have hl := hr0_0.2.1
 have hu := Tryd.underlying26
 have hus := Tryd.underlying9
 have HZ := aM (show a1.size = a1.data.toList.length from Lib.size_eq a1)
 obtain ⟨R, hR⟩ : ∃ R, R = litB l0_0.length a1 := ⟨_, rfl⟩
 rw [← hR]
 have HX := aM hR
 clear hr0_0 hR
 by_cases c1 : a1.size = l0_0.length
 ·have c1b : ((a1.size : Int) != (l0_0.length : Int)) = false := bne_eq_false_iff_eq.mpr (by omega)
  have C1 := aM c1
  clear c1
  go_enter Tryd.func142, Tryd.ntmps142
  go_wp2
  have hi0 : ((w.alloc (.cells #[.slice A0_0 l0_0.length c0_0] 26)).iter a1 0).heap[w.heap.size + 1]? = some (.stringIter a1 0) := by
   have h5 := World.iter_heap (w.alloc (.cells #[.slice A0_0 l0_0.length c0_0] 26)) a1 0
   simpa using h5
  have hb0 : Below w.heap.size w ((w.alloc (.cells #[.slice A0_0 l0_0.length c0_0] 26)).iter a1 0) := ((Below.refl _ w).alloc (Nat.le_refl _) _).alloc (by simp) _
  have HHI := aM hi0
  have HHB := aM hb0
  clear hi0 hb0
  obtain ⟨K, hK⟩ : ∃ K, K = w.heap.size + 1 := ⟨_, rfl⟩
  rw [← hK] at HHI ⊢
  have HLT := aM (show w.heap.size ≤ K by omega)
  clear hK
  generalize ((w.alloc (.cells #[.slice A0_0 l0_0.length c0_0] 26)).iter a1 0) = W0 at HHI HHB ⊢
  go_loopg [5] a1.size (fun gg v5 w' => ∃ pos : Nat, pos + gg = a1.size ∧ Aside0 (∀ j (hj : j < a1.data.toList.length), j < pos → isBit a1.data.toList[j] = true) ∧ Aside0 (w'.heap[K]? = some (.stringIter a1 pos)) ∧ Aside0 (Below w.heap.size w w'))
  case atStart => exact ⟨0, by omega, ⟨fun j _ h => absurd h (by omega)⟩, HHI, HHB⟩
  case round =>
   clear HHI HHB
   obtain ⟨pos, hps, HP, HI, HB⟩ := hrel
   by_cases hp : pos < a1.size
   ·have hpl : pos < a1.data.toList.length := by rw [← HZ.out]; exact hp
    have hnext : ∀ ty, (Instr.next (.pointer (some ⟨K, 0, none⟩)) true ty).run Tryd.prog wr = _ := fun ty => Lib.run_next_any_at wr K a1 pos ty HI.out hp
    have hk1 := Lib.iterAt_heap wr K a1 pos (pos + (Utf8.decode a1 pos).2) HI.out
    have hb1 := Lib.below_iterAt HB.out HLT.out a1 (pos + (Utf8.decode a1 pos).2)
    have hd := aM (decode_bit a1 pos hp hpl)
    have eb := bt_nat a1 pos hpl
    obtain ⟨b, hb⟩ : ∃ b, b = a1.data.toList[pos] := ⟨_, rfl⟩
    rw [← hb] at hd eb
    have HBY := aM hb
    clear hb
    have HK1 := aM hk1
    have HB1 := aM hb1
    clear hk1 hb1 HI HB
    generalize wr.iterAt K a1 (pos + (Utf8.decode a1 pos).2) = W1 at hnext HK1 HB1
    generalize (Utf8.decode a1 pos).1 = rn at hnext
    generalize (Utf8.decode a1 pos).2 = dn at hd HK1
    have q8 := byte_toInt b 48 (by omega)
    have q9 := byte_toInt b 49 (by omega)
    rw [← eb] at q8 q9
    have p6 : (0 ≤ (pos : Int)) = True := eq_true (by omega)
    have q6 : ((pos : Int) < (a1.size : Int)) = True := eq_true (by omega)
    have hx6 : ((a1[pos]'hp).toNat : Int) = bt a1 pos := by have := bt_at a1 (pos : Int) (by simpa using hp); simpa using this
    clear eb
    by_cases c8 : b = 48
    ·have c8a : (bt a1 pos == 48) = true := beq_iff_eq.mpr (q8.mpr c8)
     have c8b : (bt a1 pos != 48) = false := bne_eq_false_iff_eq.mpr (q8.mpr c8)
     have hn := hd.out (by subst c8; rfl)
     subst hn
     have CC := aM (show isBit b = true by subst c8; rfl)
     clear c8 q8 q9 hd
     go_wp2
     go_roundg (a1.size - (pos + 1))
     case measure => omega
     case rel => exact ⟨pos + 1, by omega, ⟨fun j hj h => (Nat.lt_succ_iff_lt_or_eq.1 h).elim (HP.out j hj) (fun e => by subst e; rw [← HBY.out]; exact CC.out)⟩, HK1, HB1⟩
    have c8a : (bt a1 pos == 48) = false := beq_eq_false_iff_ne.mpr (fun h => c8 (q8.mp h))
    have c8b : (bt a1 pos != 48) = true := bne_iff_ne.mpr (fun h => c8 (q8.mp h))
    by_cases c9 : b = 49
    ·have c9a : (bt a1 pos == 49) = true := beq_iff_eq.mpr (q9.mpr c9)
     have c9b : (bt a1 pos != 49) = false := bne_eq_false_iff_eq.mpr (q9.mpr c9)
     have hn := hd.out (by subst c9; rfl)
     subst hn
     have CC := aM (show isBit b = true by subst c9; rfl)
     clear c9 c8 q8 q9 hd
     go_wp2
     go_roundg (a1.size - (pos + 1))
     case measure => omega
     case rel => exact ⟨pos + 1, by omega, ⟨fun j hj h => (Nat.lt_succ_iff_lt_or_eq.1 h).elim (HP.out j hj) (fun e => by subst e; rw [← HBY.out]; exact CC.out)⟩, HK1, HB1⟩
    have c9a : (bt a1 pos == 49) = false := beq_eq_false_iff_ne.mpr (fun h => c9 (q9.mp h))
    have c9b : (bt a1 pos != 49) = true := bne_iff_ne.mpr (fun h => c9 (q9.mp h))
    have CC := aM (show isBit b = false by simp [isBit, c8, c9])
    clear c8 c9 q8 q9 hd
    go_wp2
    go_ret
    exact ⟨ret_bool (by rw [HX.out, litB_eq, all_not isBit _ pos hpl (by rw [← HBY.out]; exact CC.out)]; simp), HB1.out⟩
   have hnext : ∀ ty, (Instr.next (.pointer (some ⟨K, 0, none⟩)) true ty).run Tryd.prog wr = _ := fun ty => Lib.run_next_end_at wr K a1 pos ty HI.out hp
   go_wp2
   go_ret
   exact ⟨ret_bool (by rw [HX.out, litB_eq, C1.out, all_of isBit _ (fun i hi => HP.out i hi (by have := HZ.out; omega))]; simp), HB.out⟩
 have c1b : ((a1.size : Int) != (l0_0.length : Int)) = true := bne_iff_ne.mpr (by omega)
 have C1 := aM c1
 clear c1
 go_enter Tryd.func142, Tryd.ntmps142
 go_wp2
 go_ret
 exact ⟨ret_bool (by rw [HX.out]; simp [litB, C1.out]), below_alloc (Below.refl _ _) _⟩

end Go.Proofs.YtiiahdjjngdgoaaDoor.PLTick
