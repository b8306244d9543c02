-- PRINTED by drive.py (a program of this session's, over the kit's print.py; wip/tools/drive.py). Lean checks it.
import Derived.Test.YtdkcppnfjmcloaaDoorPTickOncex0
import Derived.Test.YtdkcppnfjmcloaaDoorPTickOncex1
namespace Go.Proofs.YtdkcppnfjmcloaaDoor.PTickOnce
open Go.RowKit Go.Proofs.YtdkcppnfjmcloaaDoorW.PrintWords Go.Proofs.YtdkcppnfjmcloaaDoorW.PrintLast Go.Proofs.YtdkcppnfjmcloaaDoorW.PrintMore
attribute [local go_sem] max2_int min2_int max_two min_two max_three min_three max_four min_four   -- for this text's walks alone
set_option linter.unusedVariables false
set_option linter.unusedSimpArgs false

/-! ### spec_laChanges: function 41 -/
-- by hand (wip/ext/laChanges.tpl)
def spec_laChanges.f (l0_0 : List ByteArray) (a1 : ByteArray) (a2 : Int) : Option Bool := if 0 ≤ a2 ∧ a2 < l0_0.length ∧ (rdOf ByteArray.empty l0_0 a2).size ≤ a1.size ∧ a1.size ≤ 1000 then some (meetsL (rdOf ByteArray.empty l0_0 a2).data.toList a1.data.toList) else none
set_option maxHeartbeats 1000000 in
set_option maxRecDepth 100000 in
theorem spec_laChanges.calls (A0_0 : Option Addr) (c0_0 : Nat) (l0_0 : List ByteArray) (a1 : ByteArray) (a2 : Int) (r : Bool) (w : World) (hr0_0 : Kd.C Kd.string w A0_0 l0_0.length l0_0) (hc0_0 : l0_0.length ≤ c0_0) (h : spec_laChanges.f l0_0 a1 a2 = some r) :
    Calls Tryd.prog 41 #[.agg #[.slice A0_0 l0_0.length c0_0], .string a1, .int .i64 a2] w fun e w' => e = .returned (.bool r) ∧ Below w.heap.size w w' := by
  unfold spec_laChanges.f at h
  split at h
  case isFalse => cases h
  case isTrue hc =>
  obtain ⟨h0, h1, hsz, hmx⟩ := hc
  have hR := Option.some.inj h
  clear h
  have hu := Tryd.underlying27
  have hus := Tryd.underlying9
  have hl := hr0_0.2.1
  have hcv : ∀ (wx : World) (s : ByteArray), (convert 9 64 (.string s)).run Tryd.prog wx = .ok (.slice (some ⟨wx.heap.size, 0, none⟩) s.size (grownCap wx s.size 0 5)) (Lib.bytesWorld wx 5 s) := fun wx s => Lib.run_convert_string_bytes wx 9 64 5 s Tryd.underlying9 Tryd.underlying64 Tryd.underlying5
  obtain ⟨ad, rfl, hx0⟩ := Kd.at_string hr0_0 a2 h0 h1
  obtain ⟨nd, hnd⟩ : ∃ nd, nd = rdOf ByteArray.empty l0_0 a2 := ⟨_, rfl⟩
  rw [← hnd] at hx0 hR hsz
  have hlt := World.block_lt_of_cell? w _ hx0
  obtain ⟨i, rfl⟩ : ∃ i : Nat, a2 = i := ⟨a2.toNat, by omega⟩
  simp only [Int.toNat_natCast] at hx0 hlt
  have hx1 : (w.alloc (.cells #[.slice (some ad) l0_0.length c0_0] 27)).cell? (ad.add i) = some (.string nd) := ((below_alloc (Below.refl w.heap.size w) _).cell hlt).trans hx0
  have HR := Aside0.mk hR
  have HZn := Aside0.mk (show nd.size = nd.data.toList.length from Lib.size_eq nd)
  have HZs := Aside0.mk (show a1.size = a1.data.toList.length from Lib.size_eq a1)
  have HSZ := Aside0.mk hsz
  have HMX := Aside0.mk hmx
  clear hr0_0 hnd hR hx0 hsz hmx
  go_enter Tryd.func41, Tryd.ntmps41
  go_wp2
  have hcell0 : ∀ j, j < nd.size → (Lib.bytesWorld (w.alloc (.cells #[.slice (some ad) l0_0.length c0_0] 27)) 5 nd).cell? ⟨w.heap.size + 1, j, none⟩ = some (.int .u8 (nd.data.toList.getD j 0).toNat) := by
    intro j hj
    have := Lib.bytesWorld_cell (w.alloc (.cells #[.slice (some ad) l0_0.length c0_0] 27)) 5 nd j hj
    simpa using this
  have HCE := Aside0.mk hcell0
  have HHB := Aside0.mk (below_bytes (below_alloc (Below.refl w.heap.size w) (.cells #[.slice (some ad) l0_0.length c0_0] 27)) (by simp) 5 nd)
  clear hcell0 hx1 hcv
  obtain ⟨K, hK⟩ : ∃ K, K = w.heap.size + 1 := ⟨_, rfl⟩
  rw [← hK] at HCE ⊢
  clear hK
  generalize Lib.bytesWorld (w.alloc (.cells #[.slice (some ad) l0_0.length c0_0] 27)) 5 nd = W0 at HCE HHB ⊢
  generalize grownCap (w.alloc (.cells #[.slice (some ad) l0_0.length c0_0] 27)) nd.size 0 5 = cp
  have hnd1 : nd.size ≤ 1000 := by have := HSZ.out; have := HMX.out; omega
  go_loopg [16] nd.size (fun gg v16 w' => ∃ k : Nat, k + gg = nd.size ∧ v16 = .int .i64 k ∧ Aside0 (∀ j (hj : j < nd.data.toList.length) (hs : j < a1.data.toList.length), j < k → nd.data.toList[j] = 63 ∨ nd.data.toList[j] = a1.data.toList[j]) ∧ Aside0 (∀ j, j < nd.size → w'.cell? ⟨K, j, none⟩ = some (.int .u8 (nd.data.toList.getD j 0).toNat)) ∧ Aside0 (Below w.heap.size w w'))
  case atStart => exact ⟨0, by omega, rfl, ⟨fun j _ _ h => absurd h (by omega)⟩, HCE, HHB⟩
  case round =>
    clear HCE HHB
    obtain ⟨k, hks, rfl, HP, HCE, HB⟩ := hrel
    by_cases hp : k < nd.size
    · have hpl : k < nd.data.toList.length := by rw [← HZn.out]; exact hp
      have hps : k < a1.size := by have := HSZ.out; omega
      have hpsl : k < a1.data.toList.length := by rw [← HZs.out]; exact hps
      have hce := HCE.out k hp
      have eg : nd.data.toList.getD k 0 = nd.data.toList[k] := by simp [List.getD, List.getElem?_eq_getElem hpl]
      rw [eg] at hce
      have eb := bt_nat a1 k hpsl
      obtain ⟨b, hb⟩ : ∃ b, b = nd.data.toList[k] := ⟨_, rfl⟩
      obtain ⟨d, hd⟩ : ∃ d, d = a1.data.toList[k] := ⟨_, rfl⟩
      rw [← hb] at hce
      rw [← hd] at eb
      have q63 := byte_toInt b 63 (by omega)
      have qd : ((b.toNat : Int) = (d.toNat : Int)) = (b = d) := propext ⟨fun h => UInt8.toNat_inj.mp (by omega), fun h => by rw [h]⟩
      rw [← eb] at qd
      obtain ⟨x, hx⟩ : ∃ x : Int, x = (b.toNat : Int) := ⟨_, rfl⟩
      rw [← hx] at hce q63 qd
      have HX := Aside0.mk hx
      have HBY := Aside0.mk hb
      have HDY := Aside0.mk hd
      clear hx hb hd eg eb
      have p6 : (0 ≤ (k : Int)) = True := eq_true (by omega)
      have q6 : ((k : Int) < (a1.size : Int)) = True := eq_true (by omega)
      have hx6 : ((a1[k]'hps).toNat : Int) = bt a1 k := by have := bt_at a1 (k : Int) (by simpa using hps); simpa using this
      by_cases c63 : b = 63
      · have c63a : (x == 63) = true := beq_iff_eq.mpr (q63.mpr c63)
        have c63b : (x != 63) = false := bne_eq_false_iff_eq.mpr (q63.mpr c63)
        have CC := Aside0.mk c63
        clear c63 q63 qd
        go_wp2
        go_roundg (nd.size - (k + 1))
        case measure => omega
        case rel => exact ⟨k + 1, by omega, by go_num, ⟨fun j hj hs h => (Nat.lt_succ_iff_lt_or_eq.1 h).elim (HP.out j hj hs) (fun e => by subst e; rw [← HBY.out]; exact .inl CC.out)⟩, HCE, HB⟩
      · have c63a : (x == 63) = false := beq_eq_false_iff_ne.mpr (fun h => c63 (q63.mp h))
        have c63b : (x != 63) = true := bne_iff_ne.mpr (fun h => c63 (q63.mp h))
        by_cases cd : b = d
        · have cda : (x == bt a1 k) = true := beq_iff_eq.mpr (qd.mpr cd)
          have cdb : (x != bt a1 k) = false := bne_eq_false_iff_eq.mpr (qd.mpr cd)
          have CC := Aside0.mk cd
          clear cd c63 q63 qd
          go_wp2
          go_roundg (nd.size - (k + 1))
          case measure => omega
          case rel => exact ⟨k + 1, by omega, by go_num, ⟨fun j hj hs h => (Nat.lt_succ_iff_lt_or_eq.1 h).elim (HP.out j hj hs) (fun e => by subst e; rw [← HBY.out, ← HDY.out]; exact .inr CC.out)⟩, HCE, HB⟩
        · have cda : (x == bt a1 k) = false := beq_eq_false_iff_ne.mpr (fun h => cd (qd.mp h))
          have cdb : (x != bt a1 k) = true := bne_iff_ne.mpr (fun h => cd (qd.mp h))
          have C1 := Aside0.mk c63
          have C2 := Aside0.mk cd
          clear cd c63 q63 qd
          go_wp2
          go_ret
          exact ⟨ret_bool (by rw [← HR.out, meetsL_not _ _ k hpl hpsl (by rw [← HBY.out]; exact C1.out) (by rw [← HBY.out, ← HDY.out]; exact C2.out)]), HB.out⟩
    · go_wp2
      go_ret
      exact ⟨ret_bool (by rw [← HR.out, meetsL_of _ _ (by have := HSZ.out; have := HZn.out; have := HZs.out; omega) (fun j hj => HP.out j hj (by have := HSZ.out; have := HZn.out; have := HZs.out; omega) (by have := HZn.out; omega))]), HB.out⟩

/-! ### impl_meets: function 42 -/
def impl_meets.l0 : Nat → ByteArray → ByteArray → Int → Int → Option (Bool)
 | 0, _, _, _, _ => none
 | k + 1, x0, x1, x7, x8 => if x8 < x7 then (if 0 ≤ x8 then (if x8 < (x0.size : Int) then (if (bt x0 x8) = 63 then (impl_meets.l0 k x0 x1 x7 (wrap64 (x8 + 1))) else (if x8 < (x1.size : Int) then (if (bt x0 x8) = (bt x1 x8) then (impl_meets.l0 k x0 x1 x7 (wrap64 (x8 + 1))) else (some false)) else (none))) else (none)) else (none)) else (some true)
def impl_meets.f (k : Nat) (a0 : ByteArray) (a1 : ByteArray) : Option (Bool) := impl_meets.l0 k a0 a1 (a0.size : Int) 0
theorem impl_meets.mono_l : ∀ k, (∀ y0 y1 y2 y3, LeO (impl_meets.l0 k y0 y1 y2 y3) (impl_meets.l0 (k + 1) y0 y1 y2 y3))
 | 0 => fun _ _ _ _ r h => by simp [impl_meets.l0] at h
 | k + 1 => by
  have ih0 := impl_meets.mono_l k
  ·intro y0 y1 y2 y3
   unfold impl_meets.l0
   repeat' first
   | (with_reducible exact ih0 _ _ _ _)
   | (with_reducible exact LeO.refl _)
   | (with_reducible exact LeO.none _)
   | (with_reducible refine LeO.ite ?_ ?_)
   | (with_reducible refine LeO.bind ?_ (fun _ => ?_))
   | exact ih0 _ _ _ _
   | exact LeO.none _
   | refine LeO.ite ?_ ?_
   | refine LeO.bind ?_ (fun _ => ?_)
theorem impl_meets.mono : ∀ a0 a1 k, LeO (impl_meets.f k a0 a1) (impl_meets.f (k + 1) a0 a1) := by
 intro a0 a1 k
 have ih0 := impl_meets.mono_l k
 unfold impl_meets.f
 repeat' first
   | (with_reducible exact ih0 _ _ _ _)
   | (with_reducible exact LeO.refl _)
   | (with_reducible exact LeO.none _)
   | (with_reducible refine LeO.ite ?_ ?_)
   | (with_reducible refine LeO.bind ?_ (fun _ => ?_))
   | exact ih0 _ _ _ _
   | exact LeO.none _
   | refine LeO.ite ?_ ?_
   | refine LeO.bind ?_ (fun _ => ?_)
set_option maxHeartbeats 8000000 in
set_option maxRecDepth 100000 in
theorem impl_meets.calls (k : Nat) (a0 : ByteArray) (a1 : ByteArray) (r : Bool) (w : World) (h : impl_meets.f k a0 a1 = some r) :
  Calls Tryd.prog 42 #[.string a0, .string a1] w fun e w' => e = .returned (.bool r) ∧ Drawn0 w w' := by
 have H : (impl_meets.l0 k a0 a1 (a0.size : Int) 0) = some r := h
 clear h
 have H' := Aside0.mk H
 clear H
 go_enter Tryd.func42, Tryd.ntmps42
 go_wp2
 repeat (go_quiet (fail); try go_wp2)
 go_loopg [8] k (fun kq v8 w' => ∃ (x8_1 : Int), v8 = .int .i64 x8_1 ∧ Aside0 (impl_meets.l0 kq a0 a1 (a0.size : Int) x8_1 = some r) ∧ Aside0 (kq ≤ k) ∧ Drawn0 w w')
 case atStart => exact ⟨(0), (by first | rfl | (simp; done) | (simp [*]; done)), H', ⟨Nat.le_refl _⟩, by repeat (first | exact Drawn0.refl _ | apply Drawn0.step)⟩
 case round =>
  clear H'
  try clear p2
  obtain ⟨x8_1, rfl, HA, HK1, ⟨m1, rfl⟩⟩ := hrel
  cases gk with
  | zero => exact absurd HA.out (by simp [impl_meets.l0])
  | succ k1 =>
   have H := HA.out
   clear HA
   simp only [impl_meets.l0] at H
   by_cases c3 : x8_1 < (a0.size : Int)
   ·rw [if_pos c3] at H
    have c3b0 : decide (x8_1 < (a0.size : Int)) = true := decide_eq_true c3
    clear c3
    by_cases c4 : 0 ≤ x8_1
    ·rw [if_pos c4] at H
     have c4b0 : decide (0 ≤ x8_1) = true := decide_eq_true c4
     clear c4
     by_cases c5 : x8_1 < (a0.size : Int)
     ·rw [if_pos c5] at H
      have c5b0 : decide (x8_1 < (a0.size : Int)) = true := decide_eq_true c5
      clear c5
      by_cases c7 : (bt a0 x8_1) = 63
      ·rw [if_pos c7] at H
       have c7b0 : ((bt a0 x8_1) == 63) = true := beq_iff_eq.mpr c7
       have c7b1 : ((bt a0 x8_1) != 63) = false := bne_eq_false_iff_eq.mpr c7
       clear c7
       have H' := Aside0.mk H
       clear H
       have p6 : 0 ≤ (x8_1 : Int) := of_decide_eq_true (by first | (with_reducible assumption) | assumption)
       have q6 : x8_1 < (a0.size : Int) := of_decide_eq_true (by first | (with_reducible assumption) | assumption)
       have hx6 := bt_at a0 x8_1
       replace p6 := eq_true p6
       replace q6 := eq_true q6
       go_wp2
       repeat (go_quiet (fail); try go_wp2)
       go_roundg k1
       case measure => have := HK1.out; omega
       case rel => exact ⟨(wrap64 (x8_1 + 1)), (by first | rfl | (simp; done) | (simp [*]; done)), H', ⟨by have := HK1.out; omega⟩, by repeat (first | exact Drawn0.refl _ | apply Drawn0.step)⟩
      ·rw [if_neg c7] at H
       have c7b0 : ((bt a0 x8_1) == 63) = false := beq_eq_false_iff_ne.mpr c7
       have c7b1 : ((bt a0 x8_1) != 63) = true := bne_iff_ne.mpr c7
       by_cases c9 : x8_1 < (a1.size : Int)
       ·rw [if_pos c9] at H
        have c9b0 : decide (x8_1 < (a1.size : Int)) = true := decide_eq_true c9
        clear c9
        by_cases c11 : (bt a0 x8_1) = (bt a1 x8_1)
        ·rw [if_pos c11] at H
         have c11b0 : ((bt a0 x8_1) == (bt a1 x8_1)) = true := beq_iff_eq.mpr c11
         have c11b1 : ((bt a0 x8_1) != (bt a1 x8_1)) = false := bne_eq_false_iff_eq.mpr c11
         clear c11
         have H' := Aside0.mk H
         clear H
         have p6 : 0 ≤ (x8_1 : Int) := of_decide_eq_true (by first | (with_reducible assumption) | assumption)
         have q6 : x8_1 < (a0.size : Int) := of_decide_eq_true (by first | (with_reducible assumption) | assumption)
         have hx6 := bt_at a0 x8_1
         replace p6 := eq_true p6
         replace q6 := eq_true q6
         have p8 : 0 ≤ (x8_1 : Int) := of_decide_eq_true (by first | (with_reducible assumption) | assumption)
         have q8 : x8_1 < (a0.size : Int) := of_decide_eq_true (by first | (with_reducible assumption) | assumption)
         have hx8 := bt_at a0 x8_1
         replace p8 := eq_true p8
         replace q8 := eq_true q8
         have p10 : 0 ≤ (x8_1 : Int) := of_decide_eq_true (by first | (with_reducible assumption) | assumption)
         have q10 : x8_1 < (a1.size : Int) := of_decide_eq_true (by first | (with_reducible assumption) | assumption)
         have hx10 := bt_at a1 x8_1
         replace p10 := eq_true p10
         replace q10 := eq_true q10
         go_wp2
         repeat (go_quiet (fail); try go_wp2)
         go_roundg k1
         case measure => have := HK1.out; omega
         case rel => exact ⟨(wrap64 (x8_1 + 1)), (by first | rfl | (simp; done) | (simp [*]; done)), H', ⟨by have := HK1.out; omega⟩, by repeat (first | exact Drawn0.refl _ | apply Drawn0.step)⟩
        ·rw [if_neg c11] at H
         have c11b0 : ((bt a0 x8_1) == (bt a1 x8_1)) = false := beq_eq_false_iff_ne.mpr c11
         have c11b1 : ((bt a0 x8_1) != (bt a1 x8_1)) = true := bne_iff_ne.mpr c11
         obtain rfl := Option.some.inj H
         have p6 : 0 ≤ (x8_1 : Int) := of_decide_eq_true (by first | (with_reducible assumption) | assumption)
         have q6 : x8_1 < (a0.size : Int) := of_decide_eq_true (by first | (with_reducible assumption) | assumption)
         have hx6 := bt_at a0 x8_1
         replace p6 := eq_true p6
         replace q6 := eq_true q6
         have p8 : 0 ≤ (x8_1 : Int) := of_decide_eq_true (by first | (with_reducible assumption) | assumption)
         have q8 : x8_1 < (a0.size : Int) := of_decide_eq_true (by first | (with_reducible assumption) | assumption)
         have hx8 := bt_at a0 x8_1
         replace p8 := eq_true p8
         replace q8 := eq_true q8
         have p10 : 0 ≤ (x8_1 : Int) := of_decide_eq_true (by first | (with_reducible assumption) | assumption)
         have q10 : x8_1 < (a1.size : Int) := of_decide_eq_true (by first | (with_reducible assumption) | assumption)
         have hx10 := bt_at a1 x8_1
         replace p10 := eq_true p10
         replace q10 := eq_true q10
         go_wp2
         repeat (go_quiet (fail); try go_wp2)
         go_ret
         exact ⟨by first | rfl | (simp; done) | (simp [*]; done), by repeat (first | exact Drawn0.refl _ | apply Drawn0.step)⟩
       ·rw [if_neg c9] at H
        exact absurd H (by simp)
     ·rw [if_neg c5] at H
      exact absurd H (by simp)
    ·rw [if_neg c4] at H
     exact absurd H (by simp)
   ·rw [if_neg c3] at H
    have c3b0 : decide (x8_1 < (a0.size : Int)) = false := decide_eq_false c3
    clear c3
    obtain rfl := Option.some.inj H
    go_wp2
    repeat (go_quiet (fail); try go_wp2)
    go_ret
    exact ⟨by first | rfl | (simp; done) | (simp [*]; done), by repeat (first | exact Drawn0.refl _ | apply Drawn0.step)⟩

/-! ### spec_laTick: function 27 -/
-- by hand (wip/ext/laTick.tpl)
def spec_laTick.f (l0_0 : List ByteArray) (a1 : ByteArray) : Option ByteArray := if l0_0.length = a1.size ∧ a1.size ≤ 1000 ∧ (∀ x ∈ l0_0, x.size ≤ a1.size) ∧ a1.data.toList.all isBit = true then some ⟨(tickL l0_0 a1.data.toList).toArray⟩ else none
set_option maxHeartbeats 1000000 in
set_option maxRecDepth 100000 in
theorem spec_laTick.calls (A0_0 : Option Addr) (c0_0 : Nat) (l0_0 : List ByteArray) (a1 : ByteArray) (r : ByteArray) (w : World) (hr0_0 : Kd.C Kd.string w A0_0 l0_0.length l0_0) (hc0_0 : l0_0.length ≤ c0_0) (h : spec_laTick.f l0_0 a1 = some r) :
    Calls Tryd.prog 27 #[.agg #[.slice A0_0 l0_0.length c0_0], .string a1] w fun e w' => e = .returned (.string r) ∧ Below w.heap.size w w' := by
  unfold spec_laTick.f at h
  split at h
  case isFalse => cases h
  case isTrue hc =>
  obtain ⟨hln, hmx, hall, hbits⟩ := hc
  have hR := Option.some.inj h
  clear h
  have hu := Tryd.underlying27
  have hus := Tryd.underlying9
  have HR := Aside0.mk hR
  have HRR := Aside0.mk hr0_0
  have HZs := Aside0.mk (show a1.size = a1.data.toList.length from Lib.size_eq a1)
  have HLN := Aside0.mk hln
  have HMX := Aside0.mk hmx
  have HALL := Aside0.mk hall
  have HBITS := Aside0.mk hbits
  clear hr0_0 hR hln hmx hall hbits
  go_enter Tryd.func27, Tryd.ntmps27
  go_wp2
  have hi0 : ((w.alloc (.cells #[.slice A0_0 l0_0.length c0_0] 27)).iter a1 0).heap[w.heap.size + 1]? = some (.stringIter a1 0) := by
    have h5 := World.iter_heap (w.alloc (.cells #[.slice A0_0 l0_0.length c0_0] 27)) a1 0
    simpa using h5
  have hb0 : Below w.heap.size w ((w.alloc (.cells #[.slice A0_0 l0_0.length c0_0] 27)).iter a1 0) := ((Below.refl _ w).alloc (Nat.le_refl _) _).alloc (by simp) _
  have hcl0 : ((w.alloc (.cells #[.slice A0_0 l0_0.length c0_0] 27)).iter a1 0).cell? ⟨w.heap.size, 0, none⟩ = some (.slice A0_0 l0_0.length c0_0) := (World.cell?_alloc_past _ _ _ (by simp)).trans (by go_simp)
  have HHI := Aside0.mk hi0
  have HHB := Aside0.mk hb0
  clear hi0 hb0
  obtain ⟨K, hK⟩ : ∃ K, K = w.heap.size + 1 := ⟨_, rfl⟩
  rw [← hK] at HHI ⊢
  have HLT := Aside0.mk (show w.heap.size < K by omega)
  clear hK
  generalize ((w.alloc (.cells #[.slice A0_0 l0_0.length c0_0] 27)).iter a1 0) = W0 at HHI HHB hcl0 ⊢
  go_loopg [5] a1.size (fun gg v5 w' => ∃ pos : Nat, pos + gg = a1.size ∧ v5 = .string ⟨((tickL l0_0 a1.data.toList).take pos).toArray⟩ ∧ Aside0 (w'.heap[K]? = some (.stringIter a1 pos)) ∧ w'.cell? ⟨w.heap.size, 0, none⟩ = some (.slice A0_0 l0_0.length c0_0) ∧ Aside0 (Below w.heap.size w w'))
  case atStart => exact ⟨0, by omega, rfl, HHI, hcl0, HHB⟩
  case round =>
    clear HHI HHB hcl0
    obtain ⟨pos, hps, rfl, HI, hcl, HB⟩ := hrel
    by_cases hp : pos < a1.size
    · have hpl : pos < a1.data.toList.length := by rw [← HZs.out]; exact hp
      have hnext : ∀ ty, (Instr.next (.pointer (some ⟨K, 0, none⟩)) true ty).run Tryd.prog wr = _ := fun ty => Lib.run_next_any_at wr K a1 pos ty HI.out hp
      have hk1 := Lib.iterAt_heap wr K a1 pos (pos + (Utf8.decode a1 pos).2) HI.out
      have hb1 := Lib.below_iterAt HB.out (Nat.le_of_lt HLT.out) a1 (pos + (Utf8.decode a1 pos).2)
      have hcl1 : (wr.iterAt K a1 (pos + (Utf8.decode a1 pos).2)).cell? ⟨w.heap.size, 0, none⟩ = some (.slice A0_0 l0_0.length c0_0) := (cell_iterAt wr K a1 _ _ (by have := HLT.out; simp; omega)).trans hcl
      have hbit : isBit a1.data.toList[pos] = true := List.all_eq_true.1 HBITS.out _ (List.getElem_mem hpl)
      rw [decode_bit a1 pos hp hpl hbit] at hk1 hb1 hnext hcl1
      have eb := bt_nat a1 pos hpl
      have hln : pos < l0_0.length := by have := HLN.out; omega
      have hk1000 : pos < 1000 := by have := HMX.out; omega
      have htl : pos < (tickL l0_0 a1.data.toList).length := by simp [tickL]; omega
      have htk : (tickL l0_0 a1.data.toList).take (pos + 1) = (tickL l0_0 a1.data.toList).take pos ++ [if meetsL l0_0[pos].data.toList a1.data.toList = true then 97 - a1.data.toList[pos] else a1.data.toList[pos]] := by
        rw [List.take_succ_eq_append_getElem htl]
        simp [tickL]
      have htz : ((tickL l0_0 a1.data.toList).take pos).length = pos := by rw [List.length_take]; omega
      have hndz := HALL.out l0_0[pos] (List.getElem_mem hln)
      have er : rdOf ByteArray.empty l0_0 (pos : Int) = l0_0[pos] := by simp [rdOf, hln]
      have hch : spec_laChanges.f l0_0 a1 (pos : Int) = some (meetsL l0_0[pos].data.toList a1.data.toList) := by
        unfold spec_laChanges.f
        rw [er, if_pos ⟨by omega, by omega, hndz, HMX.out⟩]
      obtain ⟨b, hb⟩ : ∃ b, b = a1.data.toList[pos] := ⟨_, rfl⟩
      rw [← hb] at hbit eb htk
      obtain ⟨M, hM⟩ : ∃ M, M = meetsL l0_0[pos].data.toList a1.data.toList := ⟨_, rfl⟩
      rw [← hM] at hch htk
      obtain ⟨T, hT⟩ : ∃ T, T = (tickL l0_0 a1.data.toList).take pos := ⟨_, rfl⟩
      rw [← hT] at htk htz ⊢
      have HC := Aside0.mk (fun W (hb : Below w.heap.size w W) => spec_laChanges.calls A0_0 c0_0 l0_0 a1 (pos : Int) M W (Kd.C_below HRR.out hb) hc0_0 hch)
      have HK1 := Aside0.mk hk1
      have HB1 := Aside0.mk hb1
      have HTK := Aside0.mk htk
      have hts : (⟨T.toArray⟩ : ByteArray).size = pos := by show T.toArray.size = pos; simpa using htz
      clear hk1 hb1 HI HB hb hcl er hndz hch hM hT htl hln htk htz
      generalize wr.iterAt K a1 (pos + 1) = W1 at hnext HK1 HB1 hcl1
      generalize (Utf8.decode a1 pos).1 = rn at hnext
      have p6 : (0 ≤ (pos : Int)) = True := eq_true (by omega)
      have q6 : ((pos : Int) < (a1.size : Int)) = True := eq_true (by omega)
      have hx6 : ((a1[pos]'hp).toNat : Int) = bt a1 pos := by have := bt_at a1 (pos : Int) (by simpa using hp); simpa using this
      have hbb : b = 48 ∨ b = 49 := by simpa [isBit] using hbit
      clear hbit
      obtain ⟨B, hB⟩ : ∃ B, B = (bt a1 pos == 48) := ⟨_, rfl⟩
      have HBB := Aside0.mk hB
      replace hB := hB.symm
      have EB := Aside0.mk eb
      clear eb
      go_wp2
      refine start_ (n := 9) (S := fun w' => w'.cell? ⟨w.heap.size, 0, none⟩ = some (.slice A0_0 l0_0.length c0_0)) (ds := []) #[false, false, false, false, false, false, false, false, false] (by kernel_rfl) rfl rfl hcl1 (fun hHeld => ?_)
      have hcl1 : W1.drew.cell? ⟨w.heap.size, 0, none⟩ = some (.slice A0_0 l0_0.length c0_0) := hcl1
      have HB1 := Aside0.mk (below_drew1 HB1.out)
      have HK1 := Aside0.mk (show W1.drew.heap[K]? = some (.stringIter a1 (pos + 1)) from HK1.out)
      generalize W1.drew = W1 at hcl1 HB1 HK1 hHeld ⊢
      refine pure_ (i := 1) (N := some 13) (v := ?_) (a' := ?_) #[false, true, false, false, false, false, false, false, false] rfl rfl (by kernel_rfl) (fun _ _ _ h => h) (Or.inl ⟨by rfl, ?_⟩) ?_ ?_
      rotate_left
      · intro w'
        go_simp
        with_reducible rfl
      rotate_left
      · simp only [Act.put, List.setIfInBounds_toArray, List.set_cons_zero, List.set_cons_succ, i64_w, i32_w]
        rfl
      refine pure_ (i := 2) (N := some 14) (v := ?_) (a' := ?_) #[false, true, true, false, false, false, false, false, false] rfl rfl (by kernel_rfl) (fun _ _ _ h => h) (Or.inl ⟨by rfl, ?_⟩) ?_ ?_
      rotate_left
      · intro w'
        go_simp
        with_reducible rfl
      rotate_left
      · simp only [Act.put, List.setIfInBounds_toArray, List.set_cons_zero, List.set_cons_succ, i64_w, i32_w]
        rfl
      refine pure_ (i := 4) (N := some 16) (v := ?_) (a' := ?_) #[false, true, true, false, true, false, false, false, false] rfl rfl (by kernel_rfl) (fun _ _ _ h => h) (Or.inl ⟨by rfl, ?_⟩) ?_ ?_
      rotate_left
      · intro w'
        go_simp
        with_reducible rfl
      rotate_left
      · simp only [Act.put, List.setIfInBounds_toArray, List.set_cons_zero, List.set_cons_succ, i64_w, i32_w]
        rfl
      refine pure_ (i := 5) (N := some 17) (v := ?_) (a' := ?_) #[false, true, true, false, true, true, false, false, false] rfl rfl (by kernel_rfl) (fun _ _ _ h => h) (Or.inl ⟨by rfl, ?_⟩) ?_ ?_
      rotate_left
      · intro w'
        go_simp
        with_reducible rfl
      rotate_left
      · simp only [Act.put, List.setIfInBounds_toArray, List.set_cons_zero, List.set_cons_succ, i64_w, i32_w]
        rfl
      refine pure_ (i := 6) (N := some 18) (v := ?_) (a' := ?_) #[false, true, true, false, true, true, true, false, false] rfl rfl (by kernel_rfl) (fun _ _ _ h => h) (Or.inl ⟨by rfl, ?_⟩) ?_ ?_
      rotate_left
      · intro w'
        go_simp
        with_reducible rfl
      rotate_left
      · simp only [Act.put, List.setIfInBounds_toArray, List.set_cons_zero, List.set_cons_succ, i64_w, i32_w]
        rfl
      refine pure_ (i := 7) (N := some 19) (v := ?_) (a' := ?_) #[false, true, true, false, true, true, true, true, false] rfl rfl (by kernel_rfl) (fun _ _ _ h => h) (Or.inl ⟨by rfl, ?_⟩) ?_ ?_
      rotate_left
      · intro w'
        go_simp
        with_reducible rfl
      rotate_left
      · simp only [Act.put, List.setIfInBounds_toArray, List.set_cons_zero, List.set_cons_succ, i64_w, i32_w]
        rfl
      refine take_ (i := 0) (N := some 12) (v := ?_) (a' := ?_) #[true, true, true, false, true, true, true, true, false] rfl rfl (by kernel_rfl) (fun _ _ _ h => h) (Or.inl ⟨by rfl, ?_⟩) hHeld ?_ ?_
      rotate_left
      · rintro w' s0
        go_simp
        with_reducible rfl
      rotate_left
      · simp only [Act.put, List.setIfInBounds_toArray, List.set_cons_zero, List.set_cons_succ, i64_w, i32_w]
        rfl
      refine one_ (i := 3) (N := some 15) #[true, true, true, true, true, true, true, true, false] rfl rfl (by kernel_rfl) (by decide) (fun K_ hK => ?_)
      refine goes_ Tryd.func41 (by kernel_rfl) rfl #[.agg #[.slice A0_0 l0_0.length c0_0], .string a1, .int .i64 (pos : Int)] (by rfl) rfl rfl (by (try simp only [List.map_toArray, List.map_cons, List.map_nil]); first | done | rfl) ?_
      refine (HC.out _ HB1.out).mono ?_
      rintro e w2 ⟨rfl, hb⟩
      refine ⟨_, rfl, ?_⟩
      have hcl2 := (hb.cell (World.block_lt_of_cell? _ _ hcl1)).trans hcl1
      have HB2 := Aside0.mk (below_step HB1.out hb)
      have HK2 := Aside0.mk ((hb.block K (Array.getElem?_eq_some_iff.1 HK1.out).1).trans HK1.out)
      clear hb hcl1 HB1 HK1
      refine hK.out _ _ hcl2 (fun hHeld => ?_)
      clear hK K_
      refine norm_ (a' := ?_) ?_ ?_
      rotate_left
      · show Act.put _ (some 15) _ = _
        simp only [Act.put, List.setIfInBounds_toArray, List.set_cons_zero, List.set_cons_succ, i64_w, i32_w]
        rfl
      refine pure_ (i := 8) (N := some 20) (v := ?_) (a' := ?_) #[true, true, true, true, true, true, true, true, true] rfl rfl (by kernel_rfl) (fun _ _ _ h => h) (Or.inl ⟨by rfl, ?_⟩) ?_ ?_
      rotate_left
      · intro w'
        go_simp
        with_reducible rfl
      rotate_left
      · simp only [Act.put, List.setIfInBounds_toArray, List.set_cons_zero, List.set_cons_succ, i64_w, i32_w]
        rfl
      refine done_ (by kernel_rfl) ?_
      clear hB hx6 p6 q6 hnext
      have hlast : ∀ c : UInt8, c = (if M = true then 97 - b else b) → (⟨(T ++ [c]).toArray⟩ : ByteArray) = ⟨((tickL l0_0 a1.data.toList).take (pos + 1)).toArray⟩ := fun c hc => by rw [HTK.out, hc]
      have HLA := Aside0.mk hlast
      clear hlast
      rcases hbb with rfl | rfl
      · obtain rfl : B = true := by rw [HBB.out, EB.out]; rfl
        cases M with
        | true =>
          skip
          go_wp2
          go_roundg (a1.size - (pos + 1))
          case measure => omega
          case rel => exact ⟨pos + 1, by omega, congrArg Value.string ((str_snoc T 49).trans (HLA.out 49 (by decide))), HK2, hcl2, HB2⟩
        | false =>
          skip
          go_wp2
          go_roundg (a1.size - (pos + 1))
          case measure => omega
          case rel => exact ⟨pos + 1, by omega, congrArg Value.string ((str_snoc T 48).trans (HLA.out 48 (by decide))), HK2, hcl2, HB2⟩
      · obtain rfl : B = false := by rw [HBB.out, EB.out]; rfl
        cases M with
        | true =>
          skip
          go_wp2
          go_roundg (a1.size - (pos + 1))
          case measure => omega
          case rel => exact ⟨pos + 1, by omega, congrArg Value.string ((str_snoc T 48).trans (HLA.out 48 (by decide))), HK2, hcl2, HB2⟩
        | false =>
          skip
          go_wp2
          go_roundg (a1.size - (pos + 1))
          case measure => omega
          case rel => exact ⟨pos + 1, by omega, congrArg Value.string ((str_snoc T 49).trans (HLA.out 49 (by decide))), HK2, hcl2, HB2⟩
    · have hnext : ∀ ty, (Instr.next (.pointer (some ⟨K, 0, none⟩)) true ty).run Tryd.prog wr = _ := fun ty => Lib.run_next_end_at wr K a1 pos ty HI.out hp
      have hfull : (tickL l0_0 a1.data.toList).take pos = tickL l0_0 a1.data.toList := List.take_of_length_le (by rw [tickL_length _ _ (by have := HLN.out; have := HZs.out; omega)]; have := HZs.out; omega)
      go_wp2
      go_ret
      exact ⟨ret_str (by rw [hfull]; exact HR.out), HB.out⟩

/-! ### spec_TickOnce: function 11 -/
def spec_TickOnce.f (l0_0 : List ByteArray) (a1 : ByteArray) : Option (ByteArray × Bool) := (spec_laAsked.f l0_0 a1).bind fun t124 => (if t124 = true then ((spec_laTick.f l0_0 a1).bind fun t125 => (some (t125, true))) else (some ((⟨#[]⟩ : ByteArray), false)))
set_option maxHeartbeats 8000000 in
set_option maxRecDepth 100000 in
theorem spec_TickOnce.calls (A0_0 : Option Addr) (c0_0 : Nat) (l0_0 : List ByteArray) (a1 : ByteArray) (r1 : ByteArray) (r2 : Bool) (w : World) (hr0_0 : Kd.C Kd.string w A0_0 l0_0.length l0_0) (hc0_0 : l0_0.length ≤ c0_0) (h : spec_TickOnce.f l0_0 a1 = some (r1, r2)) :
  Calls Tryd.prog 11 #[.agg #[.slice A0_0 l0_0.length c0_0], .string a1] w fun e w' => e = .returned (.tuple #[.string r1, .bool r2]) ∧ Below w.heap.size w w' := by
 have hu27 := Tryd.underlying27
 have HR0_0 := Aside0.mk hr0_0
 have HC0_0 := Aside0.mk hc0_0
 clear hr0_0 hc0_0
 have HB := Aside0.mk (Below.refl w.heap.size w)
 have H : ((spec_laAsked.f l0_0 a1).bind fun t124 => (if t124 = true then ((spec_laTick.f l0_0 a1).bind fun t125 => (some (t125, true))) else (some ((⟨#[]⟩ : ByteArray), false)))) = some (r1, r2) := h
 clear h
 replace H := Option.bind_eq_some_iff.mp H
 obtain ⟨t124, A30, H⟩ := H
 replace H : (if t124 = true then ((spec_laTick.f l0_0 a1).bind fun t125 => (some (t125, true))) else (some ((⟨#[]⟩ : ByteArray), false))) = some (r1, r2) := H
 have A3 := Aside0.mk A30
 clear A30
 by_cases c4 : t124 = true
 ·subst c4
  have H1 : ((spec_laTick.f l0_0 a1).bind fun t125 => (some (t125, true))) = some (r1, r2) := by rw [if_pos rfl] at H; exact H
  clear H
  have H := H1
  clear H1
  replace H := Option.bind_eq_some_iff.mp H
  obtain ⟨t125, A50, H⟩ := H
  replace H : (some (t125, true)) = some (r1, r2) := H
  have A5 := Aside0.mk A50
  clear A50
  simp only [Option.some.injEq, Prod.mk.injEq] at H
  obtain ⟨rfl, rfl⟩ := H
  go_enter Tryd.func11, Tryd.ntmps11
  go_wp2_with (first | ((with_reducible refine gate_dst (N := 2) rfl ?_); refine box_event ?hg (N := 2) ?hd (cs := #[.slice A0_0 l0_0.length c0_0]) (t := 27) ?hr ?_; (case hd => rfl); (case hg => rfl); (case hr => first | (go_simp; done) | (go_simp; rfl)); intro gb123 hg w6 hbox hb; have n0_ := Aside0.mk (below_step (by repeat (first | (with_reducible first | exact HB.out | apply below_alloc | apply pw_below_drewN | apply below_drew1) | exact HB.out)) hb); have n1_ := Aside0.mk (hbox); have n2_ := Aside0.mk ((by rw [hg]; exact (below_size (by repeat (first | (with_reducible first | exact HB.out | apply below_alloc | apply pw_below_drewN | apply below_drew1) | exact HB.out))) : w.heap.size ≤ gb123)); have n3_ := Aside0.mk ((by rw [hg]; exact (below_size (by repeat (first | (with_reducible first | exact HB.out | apply below_alloc | apply pw_below_drewN | apply below_drew1) | exact HB.out))) : w.heap.size ≤ gb123)); clear HB; have HB := n0_; have BK123 := n1_; have GW123 := n2_; have GE123 := n3_; clear n0_ n1_ n2_ n3_; clear hb hbox hg; have hcz7_0 : w6.cell? ⟨gb123, 0, none⟩ = some (.slice A0_0 l0_0.length c0_0) := (blk_cell BK123.out 0).trans rfl; have hfz7_0 := blk_frozen BK123.out 0) | ((with_reducible refine gate_callee (f := 26) rfl ?_); refine goesL_ (some 8) rfl rfl Tryd.func26 (by kernel_rfl) rfl #[.agg #[.slice A0_0 l0_0.length c0_0], .string a1] rfl (by (try simp only [List.map_toArray, List.map_cons, List.map_nil]); first | done | rfl | (simp only [List.length_drop, List.length_take]; rfl)) ?_; (with_reducible refine (spec_laAsked.calls _ _ l0_0 a1 true _ ?side1 ?side2 A3.out).mono ?_); (case side1 => repeat (first | exact (Kd.C_below HR0_0.out HB.out) | (with_reducible refine Kd.C_alloc ?_ _) | (with_reducible refine Kd.C_drewN ?_ _) | (with_reducible refine Kd.C_drew ?_))); (case side2 => exact HC0_0.out); rintro e w8 ⟨rfl, hb⟩; refine ⟨_, rfl, ?_⟩; have n0_ := Aside0.mk (blk_below (g := gb123) (o := .cells #[.slice A0_0 l0_0.length c0_0] 27 (0, 0)) (by (with_reducible repeat (first | refine blk_drewN ?_ _ | refine blk_drew ?_ | refine blk_alloc ?_ _)); exact BK123.out) hb); have n1_ := Aside0.mk (below_step (by repeat (first | (with_reducible first | exact HB.out | apply below_alloc | apply pw_below_drewN | apply below_drew1 | refine below_set ?_ GE123.out) | exact HB.out)) hb); clear BK123; clear HB; have BK123 := n0_; have HB := n1_; clear n0_ n1_; (try clear hb); (try clear hb2); (try clear hk); (try clear hi); have hcz9_0 : w8.cell? ⟨gb123, 0, none⟩ = some (.slice A0_0 l0_0.length c0_0) := (blk_cell BK123.out 0).trans rfl; have hfz9_0 := blk_frozen BK123.out 0) | ((with_reducible refine gate_callee (f := 27) rfl ?_); refine goesL_ (some 12) rfl rfl Tryd.func27 (by kernel_rfl) rfl #[.agg #[.slice A0_0 l0_0.length c0_0], .string a1] rfl (by (try simp only [List.map_toArray, List.map_cons, List.map_nil]); first | done | rfl | (simp only [List.length_drop, List.length_take]; rfl)) ?_; (with_reducible refine (spec_laTick.calls _ _ l0_0 a1 t125 _ ?side1 ?side2 A5.out).mono ?_); (case side1 => repeat (first | exact (Kd.C_below HR0_0.out HB.out) | (with_reducible refine Kd.C_alloc ?_ _) | (with_reducible refine Kd.C_drewN ?_ _) | (with_reducible refine Kd.C_drew ?_))); (case side2 => exact HC0_0.out); rintro e w10 ⟨rfl, hb⟩; refine ⟨_, rfl, ?_⟩; have n0_ := Aside0.mk (blk_below (g := gb123) (o := .cells #[.slice A0_0 l0_0.length c0_0] 27 (0, 0)) (by (with_reducible repeat (first | refine blk_drewN ?_ _ | refine blk_drew ?_ | refine blk_alloc ?_ _)); exact BK123.out) hb); have n1_ := Aside0.mk (below_step (by repeat (first | (with_reducible first | exact HB.out | apply below_alloc | apply pw_below_drewN | apply below_drew1 | refine below_set ?_ GE123.out) | exact HB.out)) hb); clear BK123; clear HB; have BK123 := n0_; have HB := n1_; clear n0_ n1_; (try clear hb); (try clear hb2); (try clear hk); (try clear hi)))
  go_ret2
  exact ⟨by first | rfl | (simp [errW_none, errW_some] <;> rfl) | (simp [*, errW_none, errW_some] <;> rfl), by repeat (first | (with_reducible first | exact HB.out | apply below_alloc | apply pw_below_drewN | apply below_drew1 | refine below_set ?_ GE123.out) | exact HB.out)⟩
 ·replace c4 := Bool.eq_false_iff.mpr c4
  subst c4
  have H1 : (some ((⟨#[]⟩ : ByteArray), false)) = some (r1, r2) := by rw [if_neg (show ¬ (false = true) by decide)] at H; exact H
  clear H
  have H := H1
  clear H1
  simp only [Option.some.injEq, Prod.mk.injEq] at H
  obtain ⟨rfl, rfl⟩ := H
  go_enter Tryd.func11, Tryd.ntmps11
  go_wp2_with (first | ((with_reducible refine gate_dst (N := 2) rfl ?_); refine box_event ?hg (N := 2) ?hd (cs := #[.slice A0_0 l0_0.length c0_0]) (t := 27) ?hr ?_; (case hd => rfl); (case hg => rfl); (case hr => first | (go_simp; done) | (go_simp; rfl)); intro gb123 hg w11 hbox hb; have n0_ := Aside0.mk (below_step (by repeat (first | (with_reducible first | exact HB.out | apply below_alloc | apply pw_below_drewN | apply below_drew1) | exact HB.out)) hb); have n1_ := Aside0.mk (hbox); have n2_ := Aside0.mk ((by rw [hg]; exact (below_size (by repeat (first | (with_reducible first | exact HB.out | apply below_alloc | apply pw_below_drewN | apply below_drew1) | exact HB.out))) : w.heap.size ≤ gb123)); have n3_ := Aside0.mk ((by rw [hg]; exact (below_size (by repeat (first | (with_reducible first | exact HB.out | apply below_alloc | apply pw_below_drewN | apply below_drew1) | exact HB.out))) : w.heap.size ≤ gb123)); clear HB; have HB := n0_; have BK123 := n1_; have GW123 := n2_; have GE123 := n3_; clear n0_ n1_ n2_ n3_; clear hb hbox hg; have hcz12_0 : w11.cell? ⟨gb123, 0, none⟩ = some (.slice A0_0 l0_0.length c0_0) := (blk_cell BK123.out 0).trans rfl; have hfz12_0 := blk_frozen BK123.out 0) | ((with_reducible refine gate_callee (f := 26) rfl ?_); refine goesL_ (some 8) rfl rfl Tryd.func26 (by kernel_rfl) rfl #[.agg #[.slice A0_0 l0_0.length c0_0], .string a1] rfl (by (try simp only [List.map_toArray, List.map_cons, List.map_nil]); first | done | rfl | (simp only [List.length_drop, List.length_take]; rfl)) ?_; (with_reducible refine (spec_laAsked.calls _ _ l0_0 a1 false _ ?side1 ?side2 A3.out).mono ?_); (case side1 => repeat (first | exact (Kd.C_below HR0_0.out HB.out) | (with_reducible refine Kd.C_alloc ?_ _) | (with_reducible refine Kd.C_drewN ?_ _) | (with_reducible refine Kd.C_drew ?_))); (case side2 => exact HC0_0.out); rintro e w13 ⟨rfl, hb⟩; refine ⟨_, rfl, ?_⟩; have n0_ := Aside0.mk (blk_below (g := gb123) (o := .cells #[.slice A0_0 l0_0.length c0_0] 27 (0, 0)) (by (with_reducible repeat (first | refine blk_drewN ?_ _ | refine blk_drew ?_ | refine blk_alloc ?_ _)); exact BK123.out) hb); have n1_ := Aside0.mk (below_step (by repeat (first | (with_reducible first | exact HB.out | apply below_alloc | apply pw_below_drewN | apply below_drew1 | refine below_set ?_ GE123.out) | exact HB.out)) hb); clear BK123; clear HB; have BK123 := n0_; have HB := n1_; clear n0_ n1_; (try clear hb); (try clear hb2); (try clear hk); (try clear hi)))
  go_ret2
  exact ⟨by first | rfl | (simp [errW_none, errW_some] <;> rfl) | (simp [*, errW_none, errW_some] <;> rfl), by repeat (first | (with_reducible first | exact HB.out | apply below_alloc | apply pw_below_drewN | apply below_drew1 | refine below_set ?_ GE123.out) | exact HB.out)⟩

/-! ### impl_in: function 21 -/
def impl_in.f (a0 : Int) (a1 : Int) (a2 : Int) : Option (Bool) := if a0 ≥ a1 then (some (decide (a0 ≤ a2))) else (some false)
set_option maxHeartbeats 8000000 in
set_option maxRecDepth 100000 in
theorem impl_in.calls (a0 : Int) (a1 : Int) (a2 : Int) (r : Bool) (w : World) (h : impl_in.f a0 a1 a2 = some r) :
  Calls Tryd.prog 21 #[.int .i64 a0, .int .i64 a1, .int .i64 a2] w fun e w' => e = .returned (.bool r) ∧ Drawn0 w w' := by
 have H : (if a0 ≥ a1 then (some (decide (a0 ≤ a2))) else (some false)) = some r := h
 clear h
 by_cases c4 : a0 ≥ a1
 ·rw [if_pos c4] at H
  have c4b0 : decide (a1 ≤ a0) = true := decide_eq_true c4
  clear c4
  obtain rfl := Option.some.inj H
  go_enter Tryd.func21, Tryd.ntmps21
  go_wp2
  go_ret
  exact ⟨by first | rfl | (simp; done) | (simp [*]; done), by repeat (first | exact Drawn0.refl _ | apply Drawn0.step)⟩
 ·rw [if_neg c4] at H
  have c4b0 : decide (a1 ≤ a0) = false := decide_eq_false c4
  clear c4
  obtain rfl := Option.some.inj H
  go_enter Tryd.func21, Tryd.ntmps21
  go_wp2
  go_ret
  exact ⟨by first | rfl | (simp; done) | (simp [*]; done), by repeat (first | exact Drawn0.refl _ | apply Drawn0.step)⟩

/-! ### slices_ContainsFunc_string_string: function 22 -/
-- by hand (wip/ext/gen_string.tpl)
set_option maxHeartbeats 1000000 in
set_option maxRecDepth 100000 in
theorem slices_ContainsFunc_string_string.index (F : FuncId) (fn : Func) (hf : Tryd.prog.funcs[F]? = some fn ∧ (fn.name == "runtime.NumGoroutine") = false ∧ fn.body.isSome = true) (caps : Array Value) (p : ByteArray → Bool)
    (A : Option Addr) (c : Nat) (l : List ByteArray) (w : World) (hr : Kd.C Kd.string w A l.length l)
    (hp : ∀ (w1 : World) (x : ByteArray), x ∈ l → Below w.heap.size w w1 → Calls Tryd.prog F (#[.string x] ++ caps) w1 fun e w2 => e = .returned (.bool (p x)) ∧ Below w1.heap.size w1 w2) :
    Calls Tryd.prog 38 #[.slice A l.length c, .func (.func F) #[] caps] w fun e w' => e = .returned (.int .i64 (idxI p l)) ∧ Below w.heap.size w w' := by
  have hl := hr.2.1
  have HR := Aside0.mk hr
  have HF := Aside0.mk hf
  have HP := Aside0.mk hp
  clear hr hf hp
  go_enter Tryd.func38, Tryd.ntmps38
  go_wp2
  go_loopw [8] (fun v8 w' => ∃ k : Nat, k ≤ l.length ∧ v8 = .int .i64 k ∧ Aside0 (∀ j (hj : j < l.length), j < k → p l[j] = false) ∧ Aside0 (Below w.heap.size w w')) (fun v8 _ => l.length - (intOf v8).toNat)
  case atStart => exact ⟨0, Nat.zero_le _, rfl, ⟨fun j _ h => absurd h (by omega)⟩, ⟨Below.refl _ _⟩⟩
  case round =>
    obtain ⟨k, hk, rfl, HN, HB⟩ := hrel
    by_cases hlt : k < l.length
    · obtain ⟨ad, rfl, hx0⟩ := Kd.at_string HR.out (k : Int) (by omega) (by omega)
      simp only [Int.toNat_natCast] at hx0
      replace hx0 := (HB.out.cell (World.block_lt_of_cell? w _ hx0)).trans hx0
      have ex : rdOf ByteArray.empty l (k : Int) = l[k] := by simp [rdOf, hlt]
      rw [ex] at hx0
      clear ex
      go_wp2_with ((with_reducible refine gate_dst (N := 16) rfl ?_); go_must (refine goesC_ (some 16) rfl rfl caps HF.out #[.string l[k]] rfl rfl (by (try simp only [List.map_toArray, List.map_cons, List.map_nil]); first | done | rfl) ?_; refine (HP.out _ l[k] (List.getElem_mem hlt) HB.out).mono ?_; rintro e w2 ⟨rfl, hb⟩; refine ⟨_, rfl, ?_⟩; have HB2 := Aside0.mk (below_step HB.out hb); clear hb))
      · have hpk : p l[k] = true := by assumption
        go_ret
        exact ⟨ret_int (idxI_hit p l k hlt hpk fun j hj => HN.out j (by omega) hj).symm, HB2.out⟩
      · have hpk : p l[k] = false := by assumption
        go_roundw
        case rel =>
          refine ⟨k + 1, by omega, by go_num, ⟨fun j hj hjk => ?_⟩, HB2⟩
          rcases Nat.lt_or_ge j k with h | h
          · exact HN.out j hj h
          · obtain rfl : j = k := by omega
            exact hpk
        case measure => simp [intOf]; omega
    · go_wp2
      go_ret
      exact ⟨ret_int (idxI_miss p l fun j hj => HN.out j hj (by omega)).symm, HB.out⟩
set_option maxHeartbeats 1000000 in
set_option maxRecDepth 100000 in
theorem slices_ContainsFunc_string_string.any (F : FuncId) (fn : Func) (hf : Tryd.prog.funcs[F]? = some fn ∧ (fn.name == "runtime.NumGoroutine") = false ∧ fn.body.isSome = true) (caps : Array Value) (p : ByteArray → Bool)
    (A : Option Addr) (c : Nat) (l : List ByteArray) (w : World) (hr : Kd.C Kd.string w A l.length l)
    (hp : ∀ (w1 : World) (x : ByteArray), x ∈ l → Below w.heap.size w w1 → Calls Tryd.prog F (#[.string x] ++ caps) w1 fun e w2 => e = .returned (.bool (p x)) ∧ Below w1.heap.size w1 w2) :
    Calls Tryd.prog 22 #[.slice A l.length c, .func (.func F) #[] caps] w fun e w' => e = .returned (.bool (l.any p)) ∧ Below w.heap.size w w' := by
  have HC := Aside0.mk (slices_ContainsFunc_string_string.index F fn hf caps p A c l w hr hp)
  have HG := Aside0.mk (idxI_ge p l)
  clear hf hp hr
  go_enter Tryd.func22, Tryd.ntmps22
  go_wp2_with (go_at_call 38; refine HC.out.mono ?_; rintro e w' ⟨rfl, hb⟩; have HB := Aside0.mk hb; clear hb)
  go_ret
  exact ⟨ret_bool HG.out, HB.out⟩

/-! ### strings_Trim: function 39 -/
-- by hand (wip/ext/Shelf2.tpl)
/-- For a cutset of ASCII signs: what is left of a text behind both ends are trimmed. -/
def strings_Trim.f (a0 a1 : ByteArray) : Option ByteArray := if a0.size ≤ 9223372036854775807 ∧ a1.size < 4294967281 ∧ (a1.data.toList.all fun b => b.toNat < 128) = true then some ⟨(Lib.trimS a0.data.toList a1.data.toList).toArray⟩ else none
theorem strings_Trim.calls (a0 a1 : ByteArray) (r : ByteArray) (w : World) (h : strings_Trim.f a0 a1 = some r) :
    Calls Tryd.prog 39 #[.string a0, .string a1] w fun e w' => e = .returned (.string r) ∧ Below w.heap.size w w' := by
  unfold strings_Trim.f at h
  split at h
  · rename_i hc
    obtain rfl := Option.some.inj h
    refine Tryd.strings_Trim a0 a1 w hc.1 hc.2.1 (fun j b hb => ?_)
    have := List.all_eq_true.1 hc.2.2 b (List.mem_of_getElem? hb)
    simpa using this
  · cases h

/-! ### impl_isNeed: function 24 -/
def impl_isNeed.f (a0 : ByteArray) (a1 : Int) : Option (Bool) := if (a0.size : Int) = a1 then ((strings_Trim.f a0 (⟨#[48, 49, 63]⟩ : ByteArray)).bind fun t126 => (some (t126.toList == ([] : List UInt8)))) else (some false)
set_option maxHeartbeats 8000000 in
set_option maxRecDepth 100000 in
theorem impl_isNeed.calls (a0 : ByteArray) (a1 : Int) (r : Bool) (w : World) (h : impl_isNeed.f a0 a1 = some r) :
  Calls Tryd.prog 24 #[.string a0, .int .i64 a1] w fun e w' => e = .returned (.bool r) ∧ Below w.heap.size w w' := by
 have HB := Aside0.mk (Below.refl w.heap.size w)
 have H : (if (a0.size : Int) = a1 then ((strings_Trim.f a0 (⟨#[48, 49, 63]⟩ : ByteArray)).bind fun t126 => (some (t126.toList == ([] : List UInt8)))) else (some false)) = some r := h
 clear h
 by_cases c3 : (a0.size : Int) = a1
 ·rw [if_pos c3] at H
  have c3b0 : ((a0.size : Int) == a1) = true := beq_iff_eq.mpr c3
  have c3b1 : ((a0.size : Int) != a1) = false := bne_eq_false_iff_eq.mpr c3
  clear c3
  replace H := Option.bind_eq_some_iff.mp H
  obtain ⟨t126, A40, H⟩ := H
  replace H : (some (t126.toList == ([] : List UInt8))) = some r := H
  have A4 := Aside0.mk A40
  clear A40
  obtain rfl := Option.some.inj H
  go_enter Tryd.func24, Tryd.ntmps24
  go_wp2_with (first | (go_at_call 39; (with_reducible refine (strings_Trim.calls a0 (⟨#[48, 49, 63]⟩ : ByteArray) t126 _ A4.out).mono ?_); rintro e w5 ⟨rfl, hb⟩; have n0_ := Aside0.mk (below_step (by repeat (first | (with_reducible first | exact HB.out | apply below_alloc | apply pw_below_drewN | apply below_drew1) | exact HB.out)) hb); clear HB; have HB := n0_; clear n0_; (try clear hb); (try clear hb2); (try clear hk); (try clear hi)))
  go_ret
  exact ⟨by first | rfl | (simp [errW_none, errW_some] <;> rfl) | (simp [*, errW_none, errW_some] <;> rfl), by repeat (first | (with_reducible first | exact HB.out | apply below_alloc | apply pw_below_drewN | apply below_drew1) | exact HB.out)⟩
 ·rw [if_neg c3] at H
  have c3b0 : ((a0.size : Int) == a1) = false := beq_eq_false_iff_ne.mpr c3
  have c3b1 : ((a0.size : Int) != a1) = true := bne_iff_ne.mpr c3
  obtain rfl := Option.some.inj H
  go_enter Tryd.func24, Tryd.ntmps24
  go_wp2
  go_ret
  exact ⟨by first | rfl | (simp [errW_none, errW_some] <;> rfl) | (simp [*, errW_none, errW_some] <;> rfl), by repeat (first | (with_reducible first | exact HB.out | apply below_alloc | apply pw_below_drewN | apply below_drew1) | exact HB.out)⟩

/-! ### impl_AreLamps: function 9 -/
-- by hand (wip/ext/AreLamps.tpl)
theorem isNeed_eq (s : ByteArray) (n : Nat) (hn : n ≤ 9223372036854775807) : impl_isNeed.f s n = some (needB n s) := by
  simp only [impl_isNeed.f, needB]
  by_cases h : s.size = n
  · subst h
    have ht : strings_Trim.f s (⟨#[48, 49, 63]⟩ : ByteArray) = some ⟨(Lib.trimS s.data.toList [48, 49, 63]).toArray⟩ := by
      unfold strings_Trim.f
      rw [if_pos ⟨hn, by decide, by decide⟩]
    rw [if_pos rfl, ht]
    simp only [Option.bind_some, trimS_beq, isSign_contains]
    simp
  · have h' : ¬ (s.size : Int) = n := by omega
    simp [h, h']
theorem impl_AreLamps.f1 : Tryd.prog.funcs[23]? = some Tryd.f23 ∧ (Tryd.f23.name == "runtime.NumGoroutine") = false ∧ Tryd.f23.body.isSome = true := ⟨Tryd.func23, by kernel_rfl, by kernel_rfl⟩
set_option maxHeartbeats 400000 in
theorem impl_AreLamps.c1 (g : Nat) (A : Option Addr) (n c : Nat) (s : ByteArray) (w : World) (hn : n ≤ 9223372036854775807) (hg : w.cell? ⟨g, 0, none⟩ = some (.slice A n c)) :
    Calls Tryd.prog 23 #[.string s, .pointer (some ⟨g, 0, none⟩)] w fun e w' => e = .returned (.bool (!needB n s)) ∧ Below w.heap.size w w' := by
  have HC := Aside0.mk (fun W => impl_isNeed.calls s n _ W (isNeed_eq s n hn))
  have hu := Tryd.underlying27
  go_enter Tryd.func23, Tryd.ntmps23
  go_wp2_with (go_at_call 24; refine (HC.out _).mono ?_; rintro e w' ⟨rfl, hb⟩; have HB := Aside0.mk hb; clear hb)
  go_ret
  exact ⟨rfl, HB.out⟩
def impl_AreLamps.f (l0_0 : List ByteArray) : Option Bool := some (areLampsB l0_0)
set_option maxHeartbeats 1000000 in
set_option maxRecDepth 100000 in
theorem impl_AreLamps.calls (A0_0 : Option Addr) (c0_0 : Nat) (l0_0 : List ByteArray) (r : Bool) (w : World) (hr0_0 : Kd.C Kd.string w A0_0 l0_0.length l0_0) (hc0_0 : l0_0.length ≤ c0_0) (h : impl_AreLamps.f l0_0 = some r) :
    Calls Tryd.prog 9 #[.agg #[.slice A0_0 l0_0.length c0_0]] w fun e w' => e = .returned (.bool r) ∧ Below w.heap.size w w' := by
  obtain rfl := Option.some.inj h
  clear h
  have hl := hr0_0.2.1
  have HC := Aside0.mk (fun (W : World) (hb : Below w.heap.size w W) (hg : W.cell? ⟨w.heap.size, 0, none⟩ = some (.slice A0_0 l0_0.length c0_0)) =>
    slices_ContainsFunc_string_string.any 23 Tryd.f23 impl_AreLamps.f1 #[.pointer (some ⟨w.heap.size, 0, none⟩)] (fun s => !needB l0_0.length s) A0_0 c0_0 l0_0 W (Kd.C_below hr0_0 hb)
      (fun w1 x _ hb1 => impl_AreLamps.c1 w.heap.size A0_0 l0_0.length c0_0 x w1 hl ((hb1.cell (World.block_lt_of_cell? W _ hg)).trans hg)))
  have HI := Aside0.mk (fun w1 => impl_in.calls l0_0.length 1 10 _ w1 (inB_ite l0_0.length 1 10))
  have hmf : ∀ (fn : Fn) (first cap : Array Value) (w : World), (Instr.makeFunc fn first cap).run Tryd.prog w = .ok (.func fn first cap) w := fun _ _ _ _ => rfl
  have hu := Tryd.underlying27
  clear hr0_0
  obtain ⟨R, hR⟩ : ∃ R, R = areLampsB l0_0 := ⟨_, rfl⟩
  rw [← hR]
  unfold areLampsB at hR
  have hall : l0_0.all (needB l0_0.length) = !(l0_0.any fun s => !needB l0_0.length s) := by simp [List.all_eq_not_any_not]
  rw [hall] at hR
  clear hall
  have HX := Aside0.mk hR
  clear hR
  go_enter Tryd.func9, Tryd.ntmps9
  go_wp2_with (first
    | (go_at_call 21; refine (HI.out _).mono ?_; rintro e w' ⟨rfl, ⟨n, rfl⟩⟩)
    | (go_at_call 22; refine (HC.out _ (pw_below_drewN (below_alloc (Below.refl _ _) _) _) (by go_simp)).mono ?_; rintro e w' ⟨rfl, hb⟩; have HB := Aside0.mk hb; clear hb))
  all_goals go_ret
  · have h1 : inB l0_0.length 1 10 = true := by assumption
    exact ⟨ret_bool (by rw [HX.out, h1]; simp), below_step (pw_below_drewN (below_alloc (Below.refl _ _) _) _) HB.out⟩
  · have h1 : ¬ inB l0_0.length 1 10 = true := by assumption
    exact ⟨ret_bool (by rw [HX.out]; simp [h1]), pw_below_drewN (below_alloc (Below.refl _ _) _) _⟩

/-! ### impl_Lamps_lit: function 28 -/
def impl_Lamps_lit.f (l0_0 : List ByteArray) (a1 : ByteArray) : Option (Bool) := (impl_AreLamps.f l0_0).bind fun t128 => (if t128 = true then (if (a1.size : Int) = (l0_0.length : Int) then ((strings_Trim.f a1 (⟨#[48, 49]⟩ : ByteArray)).bind fun t129 => (some (t129.toList == ([] : List UInt8)))) else (some false)) else (some false))
set_option maxHeartbeats 8000000 in
set_option maxRecDepth 100000 in
theorem impl_Lamps_lit.calls (A0_0 : Option Addr) (c0_0 : Nat) (l0_0 : List ByteArray) (a1 : ByteArray) (r : Bool) (w : World) (hr0_0 : Kd.C Kd.string w A0_0 l0_0.length l0_0) (hc0_0 : l0_0.length ≤ c0_0) (h : impl_Lamps_lit.f l0_0 a1 = some r) :
  Calls Tryd.prog 28 #[.agg #[.slice A0_0 l0_0.length c0_0], .string a1] w fun e w' => e = .returned (.bool r) ∧ Below w.heap.size w w' := by
 have hu27 := Tryd.underlying27
 have HR0_0 := Aside0.mk hr0_0
 have HC0_0 := Aside0.mk hc0_0
 clear hr0_0 hc0_0
 have HB := Aside0.mk (Below.refl w.heap.size w)
 have H : ((impl_AreLamps.f l0_0).bind fun t128 => (if t128 = true then (if (a1.size : Int) = (l0_0.length : Int) then ((strings_Trim.f a1 (⟨#[48, 49]⟩ : ByteArray)).bind fun t129 => (some (t129.toList == ([] : List UInt8)))) else (some false)) else (some false))) = some r := h
 clear h
 replace H := Option.bind_eq_some_iff.mp H
 obtain ⟨t128, A30, H⟩ := H
 replace H : (if t128 = true then (if (a1.size : Int) = (l0_0.length : Int) then ((strings_Trim.f a1 (⟨#[48, 49]⟩ : ByteArray)).bind fun t129 => (some (t129.toList == ([] : List UInt8)))) else (some false)) else (some false)) = some r := H
 have A3 := Aside0.mk A30
 clear A30
 by_cases c4 : t128 = true
 ·subst c4
  have H1 : (if (a1.size : Int) = (l0_0.length : Int) then ((strings_Trim.f a1 (⟨#[48, 49]⟩ : ByteArray)).bind fun t129 => (some (t129.toList == ([] : List UInt8)))) else (some false)) = some r := by rw [if_pos rfl] at H; exact H
  clear H
  have H := H1
  clear H1
  by_cases c5 : (a1.size : Int) = (l0_0.length : Int)
  ·rw [if_pos c5] at H
   have c5b0 : ((a1.size : Int) == (l0_0.length : Int)) = true := beq_iff_eq.mpr c5
   have c5b1 : ((a1.size : Int) != (l0_0.length : Int)) = false := bne_eq_false_iff_eq.mpr c5
   have c5b2 : (a1.size == l0_0.length) = true := by first | simpa using c5 | (simp at c5 ⊢; omega)
   clear c5
   replace H := Option.bind_eq_some_iff.mp H
   obtain ⟨t129, A60, H⟩ := H
   replace H : (some (t129.toList == ([] : List UInt8))) = some r := H
   have A6 := Aside0.mk A60
   clear A60
   obtain rfl := Option.some.inj H
   go_enter Tryd.func28, Tryd.ntmps28
   go_wp2_with (first | ((with_reducible refine gate_dst (N := 2) rfl ?_); (try (refine gate_guard (by rfl) ?_; dsimp only)); refine box_event ?hg (N := 2) ?hd (cs := #[.slice A0_0 l0_0.length c0_0]) (t := 27) ?hr ?_; (case hd => rfl); (case hg => rfl); (case hr => first | (go_simp; done) | (go_simp; rfl)); intro gb127 hg w7 hbox hb; have n0_ := Aside0.mk (below_step (by repeat (first | (with_reducible first | exact HB.out | apply below_alloc | apply pw_below_drewN | apply below_drew1) | exact HB.out)) hb); have n1_ := Aside0.mk (hbox); have n2_ := Aside0.mk ((by rw [hg]; exact (below_size (by repeat (first | (with_reducible first | exact HB.out | apply below_alloc | apply pw_below_drewN | apply below_drew1) | exact HB.out))) : w.heap.size ≤ gb127)); have n3_ := Aside0.mk ((by rw [hg]; exact (below_size (by repeat (first | (with_reducible first | exact HB.out | apply below_alloc | apply pw_below_drewN | apply below_drew1) | exact HB.out))) : w.heap.size ≤ gb127)); clear HB; have HB := n0_; have BK127 := n1_; have GW127 := n2_; have GE127 := n3_; clear n0_ n1_ n2_ n3_; clear hb hbox hg; have hcz8_0 : w7.cell? ⟨gb127, 0, none⟩ = some (.slice A0_0 l0_0.length c0_0) := (blk_cell BK127.out 0).trans rfl; have hfz8_0 := blk_frozen BK127.out 0) | ((with_reducible refine gate_callee (f := 9) rfl ?_); refine goesL_ (some 6) rfl rfl Tryd.func9 (by kernel_rfl) rfl #[.agg #[.slice A0_0 l0_0.length c0_0]] rfl (by (try simp only [List.map_toArray, List.map_cons, List.map_nil]); first | done | rfl | (simp only [List.length_drop, List.length_take]; rfl)) ?_; (with_reducible refine (impl_AreLamps.calls _ _ l0_0 true _ ?side1 ?side2 A3.out).mono ?_); (case side1 => repeat (first | exact (Kd.C_below HR0_0.out HB.out) | (with_reducible refine Kd.C_alloc ?_ _) | (with_reducible refine Kd.C_drewN ?_ _) | (with_reducible refine Kd.C_drew ?_))); (case side2 => exact HC0_0.out); rintro e w9 ⟨rfl, hb⟩; refine ⟨_, rfl, ?_⟩; have n0_ := Aside0.mk (blk_below (g := gb127) (o := .cells #[.slice A0_0 l0_0.length c0_0] 27 (0, 0)) (by (with_reducible repeat (first | refine blk_drewN ?_ _ | refine blk_drew ?_ | refine blk_alloc ?_ _)); exact BK127.out) hb); have n1_ := Aside0.mk (below_step (by repeat (first | (with_reducible first | exact HB.out | apply below_alloc | apply pw_below_drewN | apply below_drew1 | refine below_set ?_ GE127.out) | exact HB.out)) hb); clear BK127; clear HB; have BK127 := n0_; have HB := n1_; clear n0_ n1_; (try clear hb); (try clear hb2); (try clear hk); (try clear hi); have hcz10_0 : w9.cell? ⟨gb127, 0, none⟩ = some (.slice A0_0 l0_0.length c0_0) := (blk_cell BK127.out 0).trans rfl; have hfz10_0 := blk_frozen BK127.out 0) | (go_at_call 39; (with_reducible refine (strings_Trim.calls a1 (⟨#[48, 49]⟩ : ByteArray) t129 _ A6.out).mono ?_); rintro e w11 ⟨rfl, hb⟩; have n0_ := Aside0.mk (blk_below (g := gb127) (o := .cells #[.slice A0_0 l0_0.length c0_0] 27 (0, 0)) (by (with_reducible repeat (first | refine blk_drewN ?_ _ | refine blk_drew ?_ | refine blk_alloc ?_ _)); exact BK127.out) hb); have n1_ := Aside0.mk (below_step (by repeat (first | (with_reducible first | exact HB.out | apply below_alloc | apply pw_below_drewN | apply below_drew1 | refine below_set ?_ GE127.out) | exact HB.out)) hb); clear BK127; clear HB; have BK127 := n0_; have HB := n1_; clear n0_ n1_; (try clear hb); (try clear hb2); (try clear hk); (try clear hi)))
   go_ret
   exact ⟨by first | rfl | (simp [errW_none, errW_some] <;> rfl) | (simp [*, errW_none, errW_some] <;> rfl), by repeat (first | (with_reducible first | exact HB.out | apply below_alloc | apply pw_below_drewN | apply below_drew1 | refine below_set ?_ GE127.out) | exact HB.out)⟩
  ·rw [if_neg c5] at H
   have c5b0 : ((a1.size : Int) == (l0_0.length : Int)) = false := beq_eq_false_iff_ne.mpr c5
   have c5b1 : ((a1.size : Int) != (l0_0.length : Int)) = true := bne_iff_ne.mpr c5
   have c5b2 : (a1.size == l0_0.length) = false := by first | simpa using c5 | (simp at c5 ⊢; omega)
   obtain rfl := Option.some.inj H
   go_enter Tryd.func28, Tryd.ntmps28
   go_wp2_with (first | ((with_reducible refine gate_dst (N := 2) rfl ?_); (try (refine gate_guard (by rfl) ?_; dsimp only)); refine box_event ?hg (N := 2) ?hd (cs := #[.slice A0_0 l0_0.length c0_0]) (t := 27) ?hr ?_; (case hd => rfl); (case hg => rfl); (case hr => first | (go_simp; done) | (go_simp; rfl)); intro gb127 hg w12 hbox hb; have n0_ := Aside0.mk (below_step (by repeat (first | (with_reducible first | exact HB.out | apply below_alloc | apply pw_below_drewN | apply below_drew1) | exact HB.out)) hb); have n1_ := Aside0.mk (hbox); have n2_ := Aside0.mk ((by rw [hg]; exact (below_size (by repeat (first | (with_reducible first | exact HB.out | apply below_alloc | apply pw_below_drewN | apply below_drew1) | exact HB.out))) : w.heap.size ≤ gb127)); have n3_ := Aside0.mk ((by rw [hg]; exact (below_size (by repeat (first | (with_reducible first | exact HB.out | apply below_alloc | apply pw_below_drewN | apply below_drew1) | exact HB.out))) : w.heap.size ≤ gb127)); clear HB; have HB := n0_; have BK127 := n1_; have GW127 := n2_; have GE127 := n3_; clear n0_ n1_ n2_ n3_; clear hb hbox hg; have hcz13_0 : w12.cell? ⟨gb127, 0, none⟩ = some (.slice A0_0 l0_0.length c0_0) := (blk_cell BK127.out 0).trans rfl; have hfz13_0 := blk_frozen BK127.out 0) | ((with_reducible refine gate_callee (f := 9) rfl ?_); refine goesL_ (some 6) rfl rfl Tryd.func9 (by kernel_rfl) rfl #[.agg #[.slice A0_0 l0_0.length c0_0]] rfl (by (try simp only [List.map_toArray, List.map_cons, List.map_nil]); first | done | rfl | (simp only [List.length_drop, List.length_take]; rfl)) ?_; (with_reducible refine (impl_AreLamps.calls _ _ l0_0 true _ ?side1 ?side2 A3.out).mono ?_); (case side1 => repeat (first | exact (Kd.C_below HR0_0.out HB.out) | (with_reducible refine Kd.C_alloc ?_ _) | (with_reducible refine Kd.C_drewN ?_ _) | (with_reducible refine Kd.C_drew ?_))); (case side2 => exact HC0_0.out); rintro e w14 ⟨rfl, hb⟩; refine ⟨_, rfl, ?_⟩; have n0_ := Aside0.mk (blk_below (g := gb127) (o := .cells #[.slice A0_0 l0_0.length c0_0] 27 (0, 0)) (by (with_reducible repeat (first | refine blk_drewN ?_ _ | refine blk_drew ?_ | refine blk_alloc ?_ _)); exact BK127.out) hb); have n1_ := Aside0.mk (below_step (by repeat (first | (with_reducible first | exact HB.out | apply below_alloc | apply pw_below_drewN | apply below_drew1 | refine below_set ?_ GE127.out) | exact HB.out)) hb); clear BK127; clear HB; have BK127 := n0_; have HB := n1_; clear n0_ n1_; (try clear hb); (try clear hb2); (try clear hk); (try clear hi); have hcz15_0 : w14.cell? ⟨gb127, 0, none⟩ = some (.slice A0_0 l0_0.length c0_0) := (blk_cell BK127.out 0).trans rfl; have hfz15_0 := blk_frozen BK127.out 0))
   go_ret
   exact ⟨by first | rfl | (simp [errW_none, errW_some] <;> rfl) | (simp [*, errW_none, errW_some] <;> rfl), by repeat (first | (with_reducible first | exact HB.out | apply below_alloc | apply pw_below_drewN | apply below_drew1 | refine below_set ?_ GE127.out) | exact HB.out)⟩
 ·replace c4 := Bool.eq_false_iff.mpr c4
  subst c4
  have H1 : (some false) = some r := by rw [if_neg (show ¬ (false = true) by decide)] at H; exact H
  clear H
  have H := H1
  clear H1
  obtain rfl := Option.some.inj H
  go_enter Tryd.func28, Tryd.ntmps28
  go_wp2_with (first | ((with_reducible refine gate_dst (N := 2) rfl ?_); (try (refine gate_guard (by rfl) ?_; dsimp only)); refine box_event ?hg (N := 2) ?hd (cs := #[.slice A0_0 l0_0.length c0_0]) (t := 27) ?hr ?_; (case hd => rfl); (case hg => rfl); (case hr => first | (go_simp; done) | (go_simp; rfl)); intro gb127 hg w16 hbox hb; have n0_ := Aside0.mk (below_step (by repeat (first | (with_reducible first | exact HB.out | apply below_alloc | apply pw_below_drewN | apply below_drew1) | exact HB.out)) hb); have n1_ := Aside0.mk (hbox); have n2_ := Aside0.mk ((by rw [hg]; exact (below_size (by repeat (first | (with_reducible first | exact HB.out | apply below_alloc | apply pw_below_drewN | apply below_drew1) | exact HB.out))) : w.heap.size ≤ gb127)); have n3_ := Aside0.mk ((by rw [hg]; exact (below_size (by repeat (first | (with_reducible first | exact HB.out | apply below_alloc | apply pw_below_drewN | apply below_drew1) | exact HB.out))) : w.heap.size ≤ gb127)); clear HB; have HB := n0_; have BK127 := n1_; have GW127 := n2_; have GE127 := n3_; clear n0_ n1_ n2_ n3_; clear hb hbox hg; have hcz17_0 : w16.cell? ⟨gb127, 0, none⟩ = some (.slice A0_0 l0_0.length c0_0) := (blk_cell BK127.out 0).trans rfl; have hfz17_0 := blk_frozen BK127.out 0) | ((with_reducible refine gate_callee (f := 9) rfl ?_); refine goesL_ (some 6) rfl rfl Tryd.func9 (by kernel_rfl) rfl #[.agg #[.slice A0_0 l0_0.length c0_0]] rfl (by (try simp only [List.map_toArray, List.map_cons, List.map_nil]); first | done | rfl | (simp only [List.length_drop, List.length_take]; rfl)) ?_; (with_reducible refine (impl_AreLamps.calls _ _ l0_0 false _ ?side1 ?side2 A3.out).mono ?_); (case side1 => repeat (first | exact (Kd.C_below HR0_0.out HB.out) | (with_reducible refine Kd.C_alloc ?_ _) | (with_reducible refine Kd.C_drewN ?_ _) | (with_reducible refine Kd.C_drew ?_))); (case side2 => exact HC0_0.out); rintro e w18 ⟨rfl, hb⟩; refine ⟨_, rfl, ?_⟩; have n0_ := Aside0.mk (blk_below (g := gb127) (o := .cells #[.slice A0_0 l0_0.length c0_0] 27 (0, 0)) (by (with_reducible repeat (first | refine blk_drewN ?_ _ | refine blk_drew ?_ | refine blk_alloc ?_ _)); exact BK127.out) hb); have n1_ := Aside0.mk (below_step (by repeat (first | (with_reducible first | exact HB.out | apply below_alloc | apply pw_below_drewN | apply below_drew1 | refine below_set ?_ GE127.out) | exact HB.out)) hb); clear BK127; clear HB; have BK127 := n0_; have HB := n1_; clear n0_ n1_; (try clear hb); (try clear hb2); (try clear hk); (try clear hi)))
  go_ret
  exact ⟨by first | rfl | (simp [errW_none, errW_some] <;> rfl) | (simp [*, errW_none, errW_some] <;> rfl), by repeat (first | (with_reducible first | exact HB.out | apply below_alloc | apply pw_below_drewN | apply below_drew1 | refine below_set ?_ GE127.out) | exact HB.out)⟩

end Go.Proofs.YtdkcppnfjmcloaaDoor.PTickOnce
